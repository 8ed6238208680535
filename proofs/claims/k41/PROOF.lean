import PyProof.Rows.All
import Wide.All
import OpenK.AllK
import Wide.FinOn
import HandS.ForMost
import HandS.ForExc
import HandS.CallSlots
import HandS.Walk
import HandS.Wide
import HandS.IsInst
import HandS.ExcIs
import HandS.ExcField
import HandS.ExcInit
import HandS.Defaults
import HandS.HeadHook4
import HandS.TupAny
import HandS.TupMul
import HandS.Deep
import HandS.TupLe
import HandS.WideBits
import HandS.More
import HandS.SetFor
import HandS.ExcOwn
import HandS.EndBits
import HandS.ClsMeth
import HandS.Comp
import HandS.RevRange
import HandS.Rev
import HandS.Head0
import HandS.Head1
import HandS.Head2
import HandS.HeadEnd
import HandS.HeadHook1
import HandS.HeadHook2
import HandS.HeadHook3
import KE.KExcIs
import PyProof.ListRange
import PyProof.CollectIter
import PyProof.FactsAll.range_iterator_1
import HandS.Conv
import HandS.Set
import HandS.Strs
import PyProof.Rows.SetFrom
import HandS.DictTup
import HandS.Exc
import HandS.Text
import PyProof.DictRoadsH
import KE.KDictCopyH
import KE.GoesNew
import KE.GoesMore
import HandS.Zip
import HandS.Replace
import HandS.Codes
import PySem.Challenge.RW_slackchain_k41_things_made_or_refused
set_option Elab.async false
set_option linter.all false
set_option maxRecDepth 100000
set_option maxHeartbeats 0
/-! DL0: values as trees, the readings over them. -/
namespace DL
open PySem PySem.Spec PyProof.Rows L2

/-- a table's row, by a name (irreducible: comparing texts by whnf is slow without end) -/
@[irreducible] def lookS {α : Type} (a : String) (l : List (String × α)) : Option α := l.lookup a
theorem lookS_eq {α : Type} (a : String) (l : List (String × α)) : lookS a l = l.lookup a := by unfold lookS; rfl
@[simp] theorem lookS_nil {α : Type} (a : String) : lookS a ([] : List (String × α)) = none := by rw [lookS_eq]; rfl
@[simp] theorem lookS_cons {α : Type} (a k : String) (b : α) (l : List (String × α)) : lookS a ((k, b) :: l) = if k = a then some b else lookS a l := by
  rw [lookS_eq, lookS_eq, List.lookup_cons]
  by_cases h : k = a
  · subst h; simp
  · have : (a == k) = false := beq_eq_false_iff_ne.mpr fun e => h e.symm
    rw [this, if_neg h]
/-- a value as data: tuples, frozen lists, dicts and objects by what they hold; ref: an object that may change -/
inductive D where
  | non | bl (b : Bool) | int (i : Int) | str (x : Str)
  | tup (l : List D) | lst (l : List D) | rol (l : List D)
  | dic (ks : List Key) (vs : List D)
  | obj (c : String) (ns : List String) (vs : List D)
  | ref (a : Addr)

/-- what may change at an address -/
inductive AO where
  | lst (l : List D) | dic (kvs : List (Key × D)) | obj (c : String) (fs : List (String × D))
  | tk (hf : Str → Bool → Int) (kvs : List ((Str × Bool) × D))

abbrev AH := Addr → Option AO
def AH.put (A : AH) (a : Addr) (o : AO) : AH := fun b => if b = a then some o else A b
def AH.del (A : AH) (a : Addr) : AH := fun b => if b = a then none else A b
@[simp] theorem AH.put_same (A : AH) (a : Addr) (o : AO) : (A.put a o) a = some o := if_pos rfl
theorem AH.put_ne (A : AH) {a b : Addr} (o : AO) (h : b ≠ a) : (A.put a o) b = A b := if_neg h
@[simp] theorem AH.put_put (A : AH) (a : Addr) (o u : AO) : (A.put a o).put a u = A.put a u := by
  funext b; unfold AH.put; split <;> rfl
@[simp] theorem AH.del_put {A : AH} {a : Addr} {o : AO} (h : A a = none) : (A.put a o).del a = A := by
  funext b; simp only [AH.put, AH.del]
  by_cases hb : b = a
  · rw [if_pos hb, hb, h]
  · rw [if_neg hb, if_neg hb]
theorem AH.del_ne (A : AH) {a b : Addr} (h : b ≠ a) : (A.del a) b = A b := if_neg h
@[simp] theorem AH.del_same (A : AH) (a : Addr) : (A.del a) a = none := if_pos rfl
@[simp] theorem AH.put_none {A : AH} {a b : Addr} {o : AO} : (A.put a o) b = none ↔ b ≠ a ∧ A b = none := by
  unfold AH.put
  by_cases hb : b = a
  · rw [if_pos hb]; simp [hb]
  · rw [if_neg hb]; simp [hb]
/-! ### relations -/
section
variable (K : PySem.W.Frag)
mutual
def RV (Z : Hp) : D → V → Prop
  | .non, v => v = .non
  | .bl b, v => v = .bl b
  | .int i, v => v = .int i
  | .str x, v => v = .str x
  | .tup l, v => ∃ p vs, v = .ref p ∧ SqT K Z p vs ∧ RVs Z l vs
  | .lst l, v => ∃ p vs, v = .ref p ∧ Z p = some (.lst vs) ∧ RVs Z l vs
  | .rol l, v => ∃ p vs, v = .ref p ∧ SqL K Z p vs ∧ RVs Z l vs
  | .dic ks ds, v => ∃ p kvs, v = .ref p ∧ Z p = some (.dK kvs) ∧ kvs.map (·.1) = ks ∧ RVs Z ds (kvs.map (·.2))
  | .obj c ns ds, v => ∃ p dx fs, v = .ref p ∧ Z p = some (.ins (He.ga K (Str.ofString c)) dx fs) ∧ fs.map (·.1) = ns.map Str.ofString ∧ RVs Z ds (fs.map (·.2))
  | .ref a, v => v = .ref a
def RVs (Z : Hp) : List D → List V → Prop
  | [], vs => vs = []
  | d :: l, vs => ∃ v r, vs = v :: r ∧ RV Z d v ∧ RVs Z l r
end
end
variable {K : PySem.W.Frag} {Z Z' : Hp}
theorem rd_mono (e : Same Z Z') {a : Addr} {u : HO} (h : Rd Z a u) : Rd Z' a u := by
  rcases h with h | ⟨o, h⟩
  · exact .inl (e _ _ h)
  · exact .inr ⟨o, e _ _ h⟩
theorem sqL_mono (e : Same Z Z') {a : Addr} {xs : List V} (h : SqL K Z a xs) : SqL K Z' a xs := h.imp (rd_mono e) id
theorem sqT_mono (e : Same Z Z') {a : Addr} {xs : List V} (h : SqT K Z a xs) : SqT K Z' a xs := h.imp (rd_mono e) id
mutual
theorem RV.mono (e : Same Z Z') : ∀ {d : D} {v : V}, RV K Z d v → RV K Z' d v
  | .non, _, h => by simpa only [RV] using h
  | .bl _, _, h => by simpa only [RV] using h
  | .int _, _, h => by simpa only [RV] using h
  | .str _, _, h => by simpa only [RV] using h
  | .ref _, _, h => by simpa only [RV] using h
  | .tup l, _, h => by
    simp only [RV] at h ⊢
    obtain ⟨p, vs, h1, h2, h3⟩ := h
    exact ⟨p, vs, h1, sqT_mono e h2, RVs.mono e h3⟩
  | .lst l, _, h => by
    simp only [RV] at h ⊢
    obtain ⟨p, vs, h1, h2, h3⟩ := h
    exact ⟨p, vs, h1, e _ _ h2, RVs.mono e h3⟩
  | .rol l, _, h => by
    simp only [RV] at h ⊢
    obtain ⟨p, vs, h1, h2, h3⟩ := h
    exact ⟨p, vs, h1, sqL_mono e h2, RVs.mono e h3⟩
  | .dic ks ds, _, h => by
    simp only [RV] at h ⊢
    obtain ⟨p, kvs, h1, h2, h3, h4⟩ := h
    exact ⟨p, kvs, h1, e _ _ h2, h3, RVs.mono e h4⟩
  | .obj c ns ds, _, h => by
    simp only [RV] at h ⊢
    obtain ⟨p, dx, fs, h1, h2, h3, h4⟩ := h
    exact ⟨p, dx, fs, h1, e _ _ h2, h3, RVs.mono e h4⟩
theorem RVs.mono (e : Same Z Z') : ∀ {l : List D} {vs : List V}, RVs K Z l vs → RVs K Z' l vs
  | [], _, h => by simpa only [RVs] using h
  | d :: l, _, h => by
    simp only [RVs] at h ⊢
    obtain ⟨v, r, h1, h2, h3⟩ := h
    exact ⟨v, r, h1, RV.mono e h2, RVs.mono e h3⟩
end
theorem RVs.nil : RVs K Z [] [] := by simp only [RVs]
theorem RVs.cons {d : D} {v : V} {l : List D} {r : List V} (h : RV K Z d v) (t : RVs K Z l r) : RVs K Z (d :: l) (v :: r) := by
  simp only [RVs]; exact ⟨v, r, rfl, h, t⟩
theorem RVs.inv {d : D} {l : List D} {vs : List V} (h : RVs K Z (d :: l) vs) : ∃ v r, vs = v :: r ∧ RV K Z d v ∧ RVs K Z l r := by
  simpa only [RVs] using h
theorem RVs.inv0 {vs : List V} (h : RVs K Z [] vs) : vs = [] := by simpa only [RVs] using h
theorem RVs.len : ∀ {l : List D} {vs : List V}, RVs K Z l vs → vs.length = l.length
  | [], _, h => by rw [h.inv0]; rfl
  | d :: l, _, h => by
    obtain ⟨v, r, rfl, _, h3⟩ := h.inv
    rw [List.length_cons, List.length_cons, RVs.len h3]
theorem RVs.get : ∀ {l : List D} {vs : List V} {i : Nat} {v : V}, RVs K Z l vs → vs[i]? = some v → ∃ d, l[i]? = some d ∧ RV K Z d v
  | [], _, _, _, h, e => by rw [h.inv0] at e; simp at e
  | d :: l, _, 0, _, h, e => by
    obtain ⟨v, r, rfl, h2, _⟩ := h.inv
    simp at e; subst e; exact ⟨d, rfl, h2⟩
  | d :: l, _, i + 1, _, h, e => by
    obtain ⟨v, r, rfl, _, h3⟩ := h.inv
    simp only [List.getElem?_cons_succ] at e ⊢
    exact RVs.get h3 e
theorem RVs.get' : ∀ {l : List D} {vs : List V} {i : Nat} {d : D}, RVs K Z l vs → l[i]? = some d → ∃ v, vs[i]? = some v ∧ RV K Z d v
  | [], _, _, _, h, e => by simp at e
  | x :: l, _, 0, _, h, e => by
    obtain ⟨v, r, rfl, h2, _⟩ := h.inv
    simp at e; subst e; exact ⟨v, rfl, h2⟩
  | x :: l, _, i + 1, _, h, e => by
    obtain ⟨v, r, rfl, _, h3⟩ := h.inv
    simp only [List.getElem?_cons_succ] at e ⊢
    exact RVs.get' h3 e
theorem RVs.append : ∀ {l m : List D} {vs us : List V}, RVs K Z l vs → RVs K Z m us → RVs K Z (l ++ m) (vs ++ us)
  | [], _, _, _, h, q => by rw [h.inv0]; exact q
  | d :: l, _, _, _, h, q => by
    obtain ⟨v, r, rfl, h2, h3⟩ := h.inv
    exact RVs.cons h2 (RVs.append h3 q)
theorem RVs.take : ∀ {l : List D} {vs : List V} (n : Nat), RVs K Z l vs → RVs K Z (l.take n) (vs.take n)
  | _, _, 0, _ => by simp only [List.take_zero]; exact RVs.nil
  | [], _, n + 1, h => by rw [h.inv0]; exact RVs.nil
  | d :: l, _, n + 1, h => by
    obtain ⟨v, r, rfl, h2, h3⟩ := h.inv
    exact RVs.cons h2 (RVs.take n h3)
theorem RVs.drop : ∀ {l : List D} {vs : List V} (n : Nat), RVs K Z l vs → RVs K Z (l.drop n) (vs.drop n)
  | _, _, 0, h => h
  | [], _, n + 1, h => by rw [h.inv0]; exact RVs.nil
  | d :: l, _, n + 1, h => by
    obtain ⟨v, r, rfl, h2, h3⟩ := h.inv
    exact RVs.drop n h3
theorem RVs.set : ∀ {l : List D} {vs : List V} (i : Nat) {d : D} {v : V}, RVs K Z l vs → RV K Z d v → RVs K Z (l.set i d) (vs.set i v)
  | [], _, _, _, _, h, _ => by rw [h.inv0]; exact RVs.nil
  | x :: l, _, 0, _, _, h, q => by
    obtain ⟨v, r, rfl, h2, h3⟩ := h.inv
    exact RVs.cons q h3
  | x :: l, _, i + 1, _, _, h, q => by
    obtain ⟨v, r, rfl, h2, h3⟩ := h.inv
    exact RVs.cons h2 (RVs.set i h3 q)
theorem RVs.reverse : ∀ {l : List D} {vs : List V}, RVs K Z l vs → RVs K Z l.reverse vs.reverse
  | [], _, h => by rw [h.inv0]; exact RVs.nil
  | d :: l, _, h => by
    obtain ⟨v, r, rfl, h2, h3⟩ := h.inv
    rw [List.reverse_cons, List.reverse_cons]
    exact RVs.append (RVs.reverse h3) (RVs.cons h2 RVs.nil)

/-- a dict whose keys are pairs of a text and a truth: its entries -/
def TkO (hf : Str → Bool → Int) (a : Addr) (us : List ((Str × Bool) × Addr × V)) (h : Heap) : Prop :=
  (a == sysModules) = false ∧ us.length ≤ sizeLine ∧ (us.map (·.1)).Nodup ∧ ∃ vs : List Value, Vals (us.map (·.2.2)) vs ∧ ∃ o es ep, h.get? a = some o ∧ o.ExactDict ∧ o.data = .dict es ep ∧
    es.toList = (us.zip vs).map fun x => (⟨hf x.1.1.1 x.1.1.2, .ref x.1.2.1, x.2⟩ : DictEntry)
/-- an object that may change -/
def RO (K : PySem.W.Frag) (Z H : Hp) (a : Addr) : AO → Prop
  | .lst l => ∃ vs, H a = some (.lst vs) ∧ RVs K Z l vs
  | .dic kvs => ∃ us, H a = some (.dK us) ∧ us.map (·.1) = kvs.map (·.1) ∧ RVs K Z (kvs.map (·.2)) (us.map (·.2))
  | .obj c fs => ∃ dx us, H a = some (.ins (He.ga K (Str.ofString c)) dx us) ∧ us.map (·.1) = fs.map (fun p => Str.ofString p.1) ∧ RVs K Z (fs.map (·.2)) (us.map (·.2))
  | .tk hf kvs => ∃ us : List ((Str × Bool) × Addr × V), H a = some (.ext (TkO hf a us)) ∧ us.map (·.1) = kvs.map (·.1) ∧ RVs K Z (kvs.map (·.2)) (us.map (·.2.2)) ∧ ∀ u ∈ us, SqT K Z u.2.1 [.str u.1.1, .bl u.1.2]
structure RA (K : PySem.W.Frag) (Z : Hp) (A : AH) (H : Hp) : Prop where
  sub : Same Z H
  at_ : ∀ a o, A a = some o → Z a = none ∧ RO K Z H a o
theorem RO.mono {H : Hp} (e : Same Z Z') {a : Addr} {o : AO} (h : RO K Z H a o) : RO K Z' H a o := by
  cases o with
  | lst l => obtain ⟨vs, h1, h2⟩ := h; exact ⟨vs, h1, h2.mono e⟩
  | dic kvs => obtain ⟨us, h1, h2, h3⟩ := h; exact ⟨us, h1, h2, h3.mono e⟩
  | obj c fs => obtain ⟨dx, us, h1, h2, h3⟩ := h; exact ⟨dx, us, h1, h2, h3.mono e⟩
  | tk hf kvs => obtain ⟨us, h1, h2, h3, h4⟩ := h; exact ⟨us, h1, h2, h3.mono e, fun u hu => sqT_mono e (h4 u hu)⟩
theorem RO.keep {H H' : Hp} {a : Addr} {o : AO} (e : H' a = H a) (h : RO K Z H a o) : RO K Z H' a o := by
  cases o with
  | lst l => obtain ⟨vs, h1, h2⟩ := h; exact ⟨vs, e.trans h1, h2⟩
  | dic kvs => obtain ⟨us, h1, h2⟩ := h; exact ⟨us, e.trans h1, h2⟩
  | obj c fs => obtain ⟨dx, us, h1, h2⟩ := h; exact ⟨dx, us, e.trans h1, h2⟩
  | tk hf kvs => obtain ⟨us, h1, h2⟩ := h; exact ⟨us, e.trans h1, h2⟩
theorem RO.there {H : Hp} {a : Addr} {o : AO} (h : RO K Z H a o) : ∃ u, H a = some u := by
  cases o with
  | lst l => obtain ⟨vs, h1, _⟩ := h; exact ⟨_, h1⟩
  | dic kvs => obtain ⟨us, h1, _⟩ := h; exact ⟨_, h1⟩
  | obj c fs => obtain ⟨dx, us, h1, _⟩ := h; exact ⟨_, h1⟩
  | tk hf kvs => obtain ⟨us, h1, _⟩ := h; exact ⟨_, h1⟩
section
variable {A : AH} {H : Hp} {p : Addr}
theorem RA.fresh (R : RA K Z A H) (h : H p = none) : A p = none ∧ Z p = none := by
  constructor
  · cases e : A p with
    | none => rfl
    | some o =>
      obtain ⟨u, q⟩ := (R.at_ p o e).2.there
      rw [h] at q; cases q
  · cases e : Z p with
    | none => rfl
    | some o => rw [R.sub p o e] at h; cases h
/-- a new frozen object -/
theorem RA.newF (R : RA K Z A H) (h : H p = none) (o : HO) : Same Z (upd Z p o) ∧ RA K (upd Z p o) A (upd H p o) := by
  obtain ⟨hA, hZ⟩ := R.fresh h
  have s : Same Z (upd Z p o) := fun a u e => by rw [upd_ne (ne_of_none e hZ)]; exact e
  refine ⟨s, ⟨fun a u e => ?_, fun a u e => ?_⟩⟩
  · by_cases ha : a = p
    · subst ha; rw [upd_same] at e ⊢; exact e
    · rw [upd_ne ha] at e ⊢; exact R.sub a u e
  · have ha : a ≠ p := fun z => by rw [z, hA] at e; cases e
    obtain ⟨h1, h2⟩ := R.at_ a u e
    exact ⟨by rw [upd_ne ha]; exact h1, (h2.mono s).keep (upd_ne ha)⟩
/-- a new object that may change -/
theorem RA.newO (R : RA K Z A H) (h : H p = none) {o : HO} {u : AO} (q : RO K Z (upd H p o) p u) : RA K Z (A.put p u) (upd H p o) := by
  obtain ⟨hA, hZ⟩ := R.fresh h
  refine ⟨fun a u e => ?_, fun a v e => ?_⟩
  · rw [upd_ne (ne_of_none e hZ)]; exact R.sub a u e
  · by_cases ha : a = p
    · subst ha; rw [AH.put_same] at e; cases e; exact ⟨hZ, q⟩
    · rw [AH.put_ne A u ha] at e
      obtain ⟨h1, h2⟩ := R.at_ a v e
      exact ⟨h1, h2.keep (upd_ne ha)⟩
/-- an object is changed -/
theorem RA.write (R : RA K Z A H) {u : AO} {u' : AO} (h : A p = some u') {o : HO} (q : RO K Z (upd H p o) p u) : RA K Z (A.put p u) (upd H p o) := by
  have hZ := (R.at_ p u' h).1
  refine ⟨fun a u e => ?_, fun a v e => ?_⟩
  · rw [upd_ne (ne_of_none e hZ)]; exact R.sub a u e
  · by_cases ha : a = p
    · subst ha; rw [AH.put_same] at e; cases e; exact ⟨hZ, q⟩
    · rw [AH.put_ne A u ha] at e
      obtain ⟨h1, h2⟩ := R.at_ a v e
      exact ⟨h1, h2.keep (upd_ne ha)⟩
/-- an object changes no more -/
theorem RA.freeze (R : RA K Z A H) {o : AO} {u : HO} (h : A p = some o) (e : H p = some u) : Same Z (upd Z p u) ∧ RA K (upd Z p u) (A.del p) H := by
  have hZ := (R.at_ p o h).1
  have s : Same Z (upd Z p u) := fun a w e => by rw [upd_ne (ne_of_none e hZ)]; exact e
  refine ⟨s, ⟨fun a w q => ?_, fun a w q => ?_⟩⟩
  · by_cases ha : a = p
    · subst ha; rw [upd_same] at q; cases q; exact e
    · rw [upd_ne ha] at q; exact R.sub a w q
  · by_cases ha : a = p
    · subst ha; rw [AH.del_same] at q; cases q
    · rw [AH.del_ne A ha] at q
      obtain ⟨h1, h2⟩ := R.at_ a w q
      exact ⟨by rw [upd_ne ha]; exact h1, h2.mono s⟩
theorem RA.same {A' : AH} (R : RA K Z A H) (h : ∀ a o, A' a = some o → A a = some o) : RA K Z A' H := ⟨R.sub, fun a o e => R.at_ a o (h a o e)⟩
/-- the heap may grow by what nobody knows of -/
theorem RA.grow {H' : Hp} (R : RA K Z A H) (h : Same H H') : RA K Z A H' := ⟨R.sub.trans h, fun a o e => by
  obtain ⟨h1, h2⟩ := R.at_ a o e
  refine ⟨h1, ?_⟩
  obtain ⟨u, q⟩ := h2.there
  exact h2.keep ((h a u q).trans q.symm)⟩
end

abbrev DSt := List (Option D)
def RSl (K : PySem.W.Frag) (Z : Hp) : Option D → Option V → Prop
  | none, _ => True
  | some d, some v => RV K Z d v
  | some _, none => False
abbrev RS (K : PySem.W.Frag) (Z : Hp) : DSt → L2.St → Prop := Paired (RSl K Z)
theorem RSl.mono (e : Same Z Z') {a : Option D} {b : Option V} (h : RSl K Z a b) : RSl K Z' a b := by
  cases a with
  | none => trivial
  | some d => cases b with
    | none => exact h
    | some v => exact RV.mono e h
theorem RS.mono (e : Same Z Z') {δ : DSt} {σ : L2.St} (h : RS K Z δ σ) : RS K Z' δ σ := Paired.mapP h fun _ _ => RSl.mono e
theorem RS.get : ∀ {δ : DSt} {σ : L2.St} {i : Nat} {d : D}, RS K Z δ σ → δ[i]? = some (some d) → ∃ v, σ[i]? = some (some v) ∧ RV K Z d v
  | _, _, _, _, .nil, e => by simp at e
  | _, _, 0, _, .cons (a := a) (b := b) r _, e => by
    simp at e; subst e
    cases b with
    | none => exact r.elim
    | some v => exact ⟨v, rfl, r⟩
  | _, _, i + 1, _, .cons _ t, e => by
    simp only [List.getElem?_cons_succ] at e ⊢
    exact RS.get t e
theorem RS.set : ∀ {δ : DSt} {σ : L2.St} (i : Nat) {a : Option D} {b : Option V}, RS K Z δ σ → RSl K Z a b → RS K Z (δ.set i a) (σ.set i b)
  | _, _, _, _, _, .nil, _ => .nil
  | _, _, 0, _, _, .cons _ t, q => .cons q t
  | _, _, i + 1, _, _, .cons r t, q => .cons r (RS.set i t q)
theorem RS.len {δ : DSt} {σ : L2.St} (h : RS K Z δ σ) : δ.length = σ.length := Paired.length h

/-! ### readings over data -/
abbrev DK := D → AH → Prop
abbrev DE := DSt → AH → DK → Prop
abbrev DT := DSt → AH → (Bool → AH → Prop) → Prop
abbrev DA := DSt → AH → (List D → AH → Prop) → Prop
structure DEnds where
  nx : DSt → AH → Prop
  rt : DK
  bk : DSt → AH → Prop := fun _ _ => False
  ct : DSt → AH → Prop := fun _ _ => False
abbrev DS := DEnds → DSt → AH → Prop
/-- what is wished of an exception: its class, its fields -/
abbrev DX := String → List (String × D) → AH → Prop
abbrev DW := String → List (String × D) → DSt → AH → Prop

def liftE (K : PySem.W.Frag) (Z0 : Hp) (t : DE) : TE := fun σ H Q => ∃ Z δ A Kt, Same Z0 Z ∧ RS K Z δ σ ∧ RA K Z A H ∧ t δ A Kt ∧
  ∀ Z' d A' v H', Same Z Z' → RA K Z' A' H' → RV K Z' d v → Kt d A' → Q v H'
def liftT (K : PySem.W.Frag) (Z0 : Hp) (t : DT) : TT := fun σ H Q => ∃ Z δ A Kt, Same Z0 Z ∧ RS K Z δ σ ∧ RA K Z A H ∧ t δ A Kt ∧
  ∀ Z' b A' H', Same Z Z' → RA K Z' A' H' → Kt b A' → Q b H'
def liftA (K : PySem.W.Frag) (Z0 : Hp) (t : DA) : TA := fun σ H Q => ∃ Z δ A Kt, Same Z0 Z ∧ RS K Z δ σ ∧ RA K Z A H ∧ t δ A Kt ∧
  ∀ Z' ds A' vs H', Same Z Z' → RA K Z' A' H' → RVs K Z' ds vs → Kt ds A' → Q vs H'
structure RE (K : PySem.W.Frag) (Z : Hp) (DD : DEnds) (DV : Ends) : Prop where
  nx : ∀ Z' δ A σ H, Same Z Z' → RS K Z' δ σ → RA K Z' A H → DD.nx δ A → DV.nx σ H
  rt : ∀ Z' d A v H, Same Z Z' → RA K Z' A H → RV K Z' d v → DD.rt d A → DV.rt v H
  bk : ∀ Z' δ A σ H, Same Z Z' → RS K Z' δ σ → RA K Z' A H → DD.bk δ A → DV.bk σ H
  ct : ∀ Z' δ A σ H, Same Z Z' → RS K Z' δ σ → RA K Z' A H → DD.ct δ A → DV.ct σ H
theorem RE.mono {DD : DEnds} {DV : Ends} (e : Same Z Z') (h : RE K Z DD DV) : RE K Z' DD DV :=
  ⟨fun W δ A σ H s => h.nx W δ A σ H (e.trans s), fun W d A v H s => h.rt W d A v H (e.trans s), fun W δ A σ H s => h.bk W δ A σ H (e.trans s), fun W δ A σ H s => h.ct W δ A σ H (e.trans s)⟩
def liftS (K : PySem.W.Frag) (Z0 : Hp) (t : DS) : TS := fun DV σ H => ∃ Z δ A DD, Same Z0 Z ∧ RS K Z δ σ ∧ RA K Z A H ∧ t DD δ A ∧ RE K Z DD DV

abbrev QE (X : Cx) (Z0 : Hp) (e : Expr) (t : DE) : Prop := PE X e (liftE X.K Z0 t)
abbrev QT (X : Cx) (Z0 : Hp) (e : Expr) (t : DT) : Prop := PT X e (liftT X.K Z0 t)
abbrev QW (X : Cx) (Z0 : Hp) (e : Expr) (t : DT) : Prop := PW X e (liftT X.K Z0 t)
abbrev QA (X : Cx) (Z0 : Hp) (es : List Expr) (t : DA) : Prop := PA X es (liftA X.K Z0 t)
abbrev QS (X : Cx) (Z0 : Hp) (st : Stmt) (t : DS) : Prop := PS X st (liftS X.K Z0 t)
abbrev QSs (X : Cx) (Z0 : Hp) (st : List Stmt) (t : DS) : Prop := PSs X st (liftS X.K Z0 t)

theorem PE.imp {X : Cx} {e : Expr} {t u : TE} (h : PE X e t) (i : ∀ σ H Q, u σ H Q → t σ H Q) : PE X e u := ⟨fun pins s σ H Q I q => h.run pins s σ H Q I (i σ H Q q)⟩
theorem PT.imp {X : Cx} {e : Expr} {t u : TT} (h : PT X e t) (i : ∀ σ H Q, u σ H Q → t σ H Q) : PT X e u := ⟨fun pins s σ H Q I q => h.run pins s σ H Q I (i σ H Q q)⟩
theorem PW.imp {X : Cx} {e : Expr} {t u : TT} (h : PW X e t) (i : ∀ σ H Q, u σ H Q → t σ H Q) : PW X e u := ⟨fun wh pins s σ H Q I q => h.run wh pins s σ H Q I (i σ H Q q)⟩
theorem PA.imp {X : Cx} {e : List Expr} {t u : TA} (h : PA X e t) (i : ∀ σ H Q, u σ H Q → t σ H Q) : PA X e u := ⟨fun pos pins s σ H Q I q => h.run pos pins s σ H Q I (i σ H Q q)⟩
theorem PS.imp {X : Cx} {e : Stmt} {t u : TS} (h : PS X e t) (i : ∀ D σ H, u D σ H → t D σ H) : PS X e u := ⟨fun pins s σ H D I q => h.run pins s σ H D I (i D σ H q)⟩
theorem PSs.imp {X : Cx} {e : List Stmt} {t u : TS} (h : PSs X e t) (i : ∀ D σ H, u D σ H → t D σ H) : PSs X e u := ⟨fun pins s σ H D I q => h.run pins s σ H D I (i D σ H q)⟩

/-! ### promises -/
abbrev DSp := List D → AH → DK → DX → Prop
/-- an exception as data -/
def RX (K : PySem.W.Frag) (Z : Hp) (c : String) (fs : List (String × D)) (cv : Value) (dd : Option Addr) : Prop :=
  cv = .ref (He.ga K (Str.ofString c)) ∧ ((fs = [] ∧ dd = none) ∨ ∃ a us, fs ≠ [] ∧ dd = some a ∧ Z a = some (.xd us) ∧ us.map (·.1) = fs.map (fun p => Str.ofString p.1) ∧ RVs K Z (fs.map (·.2)) (us.map (·.2)))
theorem RX.mono (e : Same Z Z') {c : String} {fs : List (String × D)} {cv : Value} {dd : Option Addr} (h : RX K Z c fs cv dd) : RX K Z' c fs cv dd := by
  obtain ⟨h1, h2⟩ := h
  refine ⟨h1, ?_⟩
  rcases h2 with h2 | ⟨a, us, q0, q1, q2, q3, q4⟩
  · exact .inl h2
  · exact .inr ⟨a, us, q0, q1, e _ _ q2, q3, q4.mono e⟩
def liftSp (K : PySem.W.Frag) (sp : DSp) : Sp := fun vs H Q E => ∃ Z ds A Kt Ex, RVs K Z ds vs ∧ RA K Z A H ∧ sp ds A Kt Ex ∧
  (∀ Z' d A' v H', Same Z Z' → RA K Z' A' H' → RV K Z' d v → Kt d A' → Q v H') ∧
  (∀ Z' c fs A' cv dd H', Same Z Z' → RA K Z' A' H' → RX K Z' c fs cv dd → Ex c fs A' → E cv dd H')
/-- a wish, over the slots -/
def liftW (K : PySem.W.Frag) (Z0 : Hp) (w : DW) : WX := fun cv dd σ H => ∃ Z δ A c fs, Same Z0 Z ∧ RS K Z δ σ ∧ RA K Z A H ∧ RX K Z c fs cv dd ∧ w c fs δ A
end DL


/-! DL1: expressions over data. -/
namespace DL
open PySem PySem.Spec PyProof.Rows L2
variable {K : PySem.W.Frag} {Z Z' Z0 : Hp}
theorem rv_int {i : Int} {v : V} (h : RV K Z (.int i) v) : v = .int i := by simpa only [RV] using h
theorem rv_bl {b : Bool} {v : V} (h : RV K Z (.bl b) v) : v = .bl b := by simpa only [RV] using h
theorem rv_str {x : Str} {v : V} (h : RV K Z (.str x) v) : v = .str x := by simpa only [RV] using h
theorem rv_non {v : V} (h : RV K Z .non v) : v = .non := by simpa only [RV] using h
theorem rv_ref {a : Addr} {v : V} (h : RV K Z (.ref a) v) : v = .ref a := by simpa only [RV] using h
theorem rv_tup {l : List D} {v : V} (h : RV K Z (.tup l) v) : ∃ p vs, v = .ref p ∧ SqT K Z p vs ∧ RVs K Z l vs := by simpa only [RV] using h
theorem rv_lst {l : List D} {v : V} (h : RV K Z (.lst l) v) : ∃ p vs, v = .ref p ∧ Z p = some (.lst vs) ∧ RVs K Z l vs := by simpa only [RV] using h
theorem rv_rol {l : List D} {v : V} (h : RV K Z (.rol l) v) : ∃ p vs, v = .ref p ∧ SqL K Z p vs ∧ RVs K Z l vs := by simpa only [RV] using h
theorem rv_dic {ks : List Key} {l : List D} {v : V} (h : RV K Z (.dic ks l) v) : ∃ p kvs, v = .ref p ∧ Z p = some (.dK kvs) ∧ kvs.map (·.1) = ks ∧ RVs K Z l (kvs.map (·.2)) := by simpa only [RV] using h
theorem rv_obj {c : String} {ns : List String} {l : List D} {v : V} (h : RV K Z (.obj c ns l) v) : ∃ p dx fs, v = .ref p ∧ Z p = some (.ins (He.ga K (Str.ofString c)) dx fs) ∧ fs.map (·.1) = ns.map Str.ofString ∧ RVs K Z l (fs.map (·.2)) := by simpa only [RV] using h
theorem mk_int {i : Int} : RV K Z (.int i) (.int i) := by simp only [RV]
theorem mk_bl {b : Bool} : RV K Z (.bl b) (.bl b) := by simp only [RV]
theorem mk_str {x : Str} : RV K Z (.str x) (.str x) := by simp only [RV]
theorem mk_non : RV K Z .non .non := by simp only [RV]
theorem mk_ref {a : Addr} : RV K Z (.ref a) (.ref a) := by simp only [RV]
theorem mk_tup {l : List D} {p : Addr} {vs : List V} (h : SqT K Z p vs) (q : RVs K Z l vs) : RV K Z (.tup l) (.ref p) := by simp only [RV]; exact ⟨p, vs, rfl, h, q⟩
theorem mk_lst {l : List D} {p : Addr} {vs : List V} (h : Z p = some (.lst vs)) (q : RVs K Z l vs) : RV K Z (.lst l) (.ref p) := by simp only [RV]; exact ⟨p, vs, rfl, h, q⟩

/-! ### what is read of an object -/
/-- a list's items -/
def asL (A : AH) : D → Option (List D)
  | .lst l => some l
  | .rol l => some l
  | .ref a => match A a with
    | some (.lst l) => some l
    | _ => none
  | _ => none
/-- a list's or a tuple's items -/
def asS (A : AH) : D → Option (List D)
  | .tup l => some l
  | d => asL A d
def asDic (A : AH) : D → Option (List (Key × D))
  | .dic ks vs => some (ks.zip vs)
  | .ref a => match A a with
    | some (.dic kvs) => some kvs
    | _ => none
  | _ => none
def asObj (A : AH) : D → Option (String × List (String × D))
  | .obj c ns vs => some (c, ns.zip vs)
  | .ref a => match A a with
    | some (.obj c fs) => some (c, fs)
    | _ => none
  | _ => none
section
variable {A : AH} {H : Hp} {d : D} {v : V} {l : List D}
theorem asL_ok (R : RA K Z A H) (r : RV K Z d v) (h : asL A d = some l) : ∃ p vs, v = .ref p ∧ SqL K H p vs ∧ RVs K Z l vs := by
  cases d with
  | lst m =>
    obtain ⟨p, vs, e1, e2, e3⟩ := rv_lst r
    cases (show some m = some l from h)
    exact ⟨p, vs, e1, SqL.of (R.sub _ _ e2), e3⟩
  | rol m =>
    obtain ⟨p, vs, e1, e2, e3⟩ := rv_rol r
    cases (show some m = some l from h)
    exact ⟨p, vs, e1, sqL_mono R.sub e2, e3⟩
  | ref a =>
    have e := rv_ref r
    have h' : (match A a with | some (.lst l) => some l | _ => none) = some l := h
    split at h'
    · rename_i m q
      cases h'
      obtain ⟨vs, e2, e3⟩ := (R.at_ a _ q).2
      exact ⟨a, vs, e, SqL.of e2, e3⟩
    · cases h'
  | _ => cases h
theorem asS_ok (R : RA K Z A H) (r : RV K Z d v) (h : asS A d = some l) : ∃ p vs, v = .ref p ∧ (SqL K H p vs ∨ SqT K H p vs) ∧ RVs K Z l vs := by
  cases d with
  | tup m =>
    obtain ⟨p, vs, e1, e2, e3⟩ := rv_tup r
    cases (show some m = some l from h)
    exact ⟨p, vs, e1, .inr (sqT_mono R.sub e2), e3⟩
  | _ =>
    obtain ⟨p, vs, e1, e2, e3⟩ := asL_ok R r h
    exact ⟨p, vs, e1, .inl e2, e3⟩
theorem asDic_ok {kvs : List (Key × D)} (R : RA K Z A H) (r : RV K Z d v) (h : asDic A d = some kvs) :
    ∃ p us, v = .ref p ∧ H p = some (.dK us) ∧ us.map (·.1) = kvs.map (·.1) ∧ RVs K Z (kvs.map (·.2)) (us.map (·.2)) := by
  cases d with
  | dic ks ds =>
    obtain ⟨p, us, e1, e2, e3, e4⟩ := rv_dic r
    cases (show some (ks.zip ds) = some kvs from h)
    have hl : ds.length = ks.length := by
      have := e4.len
      rw [List.length_map] at this
      rw [← e3, List.length_map]; omega
    refine ⟨p, us, e1, R.sub _ _ e2, ?_, ?_⟩
    · rw [e3]
      exact (List.map_fst_zip (by omega)).symm
    · rw [show (ks.zip ds).map (·.2) = ds from List.map_snd_zip (by omega)]
      exact e4
  | ref a =>
    have e := rv_ref r
    have h' : (match A a with | some (.dic l) => some l | _ => none) = some kvs := h
    split at h'
    · rename_i m q
      cases h'
      obtain ⟨us, e2, e3, e4⟩ := (R.at_ a _ q).2
      exact ⟨a, us, e, e2, e3, e4⟩
    · cases h'
  | _ => cases h
theorem asObj_ok {c : String} {fs : List (String × D)} (R : RA K Z A H) (r : RV K Z d v) (h : asObj A d = some (c, fs)) :
    ∃ p dx us, v = .ref p ∧ H p = some (.ins (He.ga K (Str.ofString c)) dx us) ∧ us.map (·.1) = fs.map (fun p => Str.ofString p.1) ∧ RVs K Z (fs.map (·.2)) (us.map (·.2)) := by
  cases d with
  | obj c' ns ds =>
    obtain ⟨p, dx, us, e1, e2, e3, e4⟩ := rv_obj r
    obtain ⟨rfl, rfl⟩ := Prod.mk.inj (Option.some.inj (show some (c', ns.zip ds) = some (c, fs) from h))
    have hl : ds.length = ns.length := by
      have h1 := e4.len
      have h2 := congrArg List.length e3
      simp only [List.length_map] at h1 h2
      omega
    refine ⟨p, dx, us, e1, R.sub _ _ e2, ?_, ?_⟩
    · have h3 : (ns.zip ds).map (fun p => Str.ofString p.1) = ((ns.zip ds).map (·.1)).map Str.ofString := by rw [List.map_map]; rfl
      rw [e3, h3, List.map_fst_zip (by omega)]
    · rw [show (ns.zip ds).map (·.2) = ds from List.map_snd_zip (by omega)]
      exact e4
  | ref a =>
    have e := rv_ref r
    have h' : (match A a with | some (.obj c fs) => some (c, fs) | _ => none) = some (c, fs) := h
    split at h'
    · rename_i m q
      cases h'
      obtain ⟨dx, us, e2, e3, e4⟩ := (R.at_ a _ ‹_›).2
      exact ⟨a, dx, us, e, e2, e3, e4⟩
    · cases h'
  | _ => cases h
end
/-! ### new lists -/
abbrev Mk := List D → AH → DK → Prop
def mkO : Mk := fun l A Q => ∀ p, A p = none → Q (.ref p) (A.put p (.lst l))
def mkF : Mk := fun l A Q => Q (.lst l) A
/-- what is behind a reading -/
abbrev Kont (K : PySem.W.Frag) (Z : Hp) (Kt : DK) (Q : VK) : Prop := ∀ Z' d A' v H', Same Z Z' → RA K Z' A' H' → RV K Z' d v → Kt d A' → Q v H'
structure MkOk (K : PySem.W.Frag) (mk : Mk) : Prop where
  ok : ∀ {Z : Hp} {A : AH} {H : Hp} {l : List D} {vs : List V} {Kt : DK} {Q : VK}, RA K Z A H → RVs K Z l vs → mk l A Kt → Kont K Z Kt Q → ∀ p, H p = none → Q (.ref p) (upd H p (.lst vs))
theorem mkO_ok : MkOk K mkO := ⟨fun {Z A H l vs Kt Q} R r h k p hp =>
  k Z (.ref p) _ _ _ (Same.refl Z) (R.newO (u := .lst l) hp ⟨vs, upd_same, r⟩) mk_ref (h p (R.fresh hp).1)⟩
theorem mkF_ok : MkOk K mkF := ⟨fun {Z A H l vs Kt Q} R r h k p hp => by
  obtain ⟨s, R'⟩ := R.newF hp (.lst vs)
  exact k _ (.lst l) A _ _ s R' (mk_lst upd_same (r.mono s)) h⟩

/-! ### names, constants, tuples, lists -/
section
variable {X : Cx} {e a b : Expr} {es : List Expr} {pos : Pos}
def eVar (i : Nat) : DE := fun δ A Q => match δ[i]? with
  | some (some d) => Q d A
  | _ => False
theorem qe_var {i : Nat} (h : PE X e (tVar i)) : QE X Z0 e (eVar i) := PE.imp h fun σ H Q ⟨Z, δ, A, Kt, z, rs, ra, t, k⟩ => by
  unfold eVar at t
  split at t
  · rename_i d q
    obtain ⟨v, e1, e2⟩ := rs.get q
    exact ⟨v, e1, k Z d A v H (Same.refl Z) ra e2 t⟩
  · exact t.elim
def eC (d : D) : DE := fun _ A Q => Q d A
theorem qe_c {d : D} {v : V} (r : ∀ Z, RV X.K Z d v) (h : PE X e (tC v)) : QE X Z0 e (eC d) := PE.imp h fun σ H Q ⟨Z, δ, A, Kt, z, rs, ra, t, k⟩ => k Z d A v H (Same.refl Z) ra (r Z) t
theorem qe_int {i : Int} {j : Nat} : QE X Z0 (.Constant (.int i) j pos) (eC (.int i)) := qe_c (fun _ => mk_int) pe_int
theorem qe_bl {i : Bool} {j : Nat} : QE X Z0 (.Constant (.bool i) j pos) (eC (.bl i)) := qe_c (fun _ => mk_bl) pe_bl
theorem qe_str {i : Str} {j : Nat} : QE X Z0 (.Constant (.str i) j pos) (eC (.str i)) := qe_c (fun _ => mk_str) pe_str
theorem qe_non {j : Nat} : QE X Z0 (.Constant .none j pos) (eC .non) := qe_c (fun _ => mk_non) pe_non

def aNil : DA := fun _ A Q => Q [] A
def aCons (t : DE) (u : DA) : DA := fun δ A Q => t δ A fun d A1 => u δ A1 fun ds A2 => Q (d :: ds) A2
theorem qa_nil : QA X Z0 [] aNil := PA.imp pa_nil fun σ H Q ⟨Z, δ, A, Kt, z, rs, ra, t, k⟩ => k Z [] A [] H (Same.refl Z) ra RVs.nil t
theorem qa_cons {t : DE} {u : DA} (ha : QE X Z0 e t) (hr : QA X Z0 es u) (hs : starEach (e :: es) X.env = (false, eval e X.env) :: starEach es X.env := by rfl) : QA X Z0 (e :: es) (aCons t u) :=
  PA.imp (pa_cons ha hr hs) fun σ H Q ⟨Z, δ, A, Kt, z, rs, ra, t, k⟩ =>
    ⟨Z, δ, A, _, z, rs, ra, t, fun Z1 d A1 v H1 s1 ra1 rv t1 => ⟨Z1, δ, A1, _, z.trans s1, rs.mono s1, ra1, t1, fun Z2 ds A2 vs H2 s2 ra2 rvs t2 => k Z2 (d :: ds) A2 (v :: vs) H2 (s1.trans s2) ra2 (RVs.cons (rv.mono s2) rvs) t2⟩⟩
theorem big_line : 1000000 ≤ sizeLine := by rw [sizeLine_eq]; decide
/-- the most items that a reading lets a list have -/
abbrev Few (n : Nat) : Prop := n < 1000000
theorem few_line {n : Nat} (h : Few n) : n ≤ sizeLine := Nat.le_trans (Nat.le_of_lt h) big_line
def eTup (t : DA) : DE := fun δ A Q => t δ A fun ds A1 => Few ds.length ∧ Q (.tup ds) A1
theorem qe_tup {x1} {t : DA} (h : QA X Z0 es t) : QE X Z0 (.Tuple es x1 pos) (eTup t) := PE.imp (pe_tup h) fun σ H Q ⟨Z, δ, A, Kt, z, rs, ra, t, k⟩ =>
  ⟨Z, δ, A, _, z, rs, ra, t, fun Z1 ds A1 vs H1 s1 ra1 rv t1 => ⟨by rw [rv.len]; exact few_line t1.1, fun p hp => by
    obtain ⟨s, R'⟩ := ra1.newF hp (.tup vs)
    exact k _ (.tup ds) A1 _ _ (s1.trans s) R' (mk_tup (SqT.of upd_same) (rv.mono s)) t1.2⟩⟩
def eLst (mk : Mk) (t : DA) : DE := fun δ A Q => t δ A fun ds A1 => Few ds.length ∧ mk ds A1 Q
theorem Kont.mono {Kt : DK} {Q : VK} (k : Kont K Z Kt Q) (s : Same Z Z') : Kont K Z' Kt Q := fun W d A v H s' => k W d A v H (s.trans s')
theorem qe_lst {mk : Mk} {t : DA} (m : MkOk X.K mk) (h : QA X Z0 es t) : QE X Z0 (.List es pos) (eLst mk t) := PE.imp (pe_lst h) fun σ H Q ⟨Z, δ, A, Kt, z, rs, ra, t, k⟩ =>
  ⟨Z, δ, A, _, z, rs, ra, t, fun Z1 ds A1 vs H1 s1 ra1 rv t1 => ⟨by rw [rv.len]; exact few_line t1.1, m.ok ra1 rv t1.2 (Kont.mono k s1)⟩⟩

/-! ### operators -/
abbrev DOp := D → D → AH → DK → Prop
def LiftOp (K : PySem.W.Frag) (rd : DOp) (r : R2) : Prop := ∀ (Z : Hp) (A : AH) (H : Hp) (x y : D) (vx vy : V) (Kt : DK) (Q : VK), RA K Z A H → RV K Z x vx → RV K Z y vy → rd x y A Kt → Kont K Z Kt Q → r vx vy H Q
def eBin (rd : DOp) (ta tb : DE) : DE := fun δ A Q => ta δ A fun x A1 => tb δ A1 fun y A2 => rd x y A2 Q
theorem lift_bin {rd : DOp} {r : R2} {ta tb : DE} {σ : L2.St} {H : Hp} {Q : VK} (l : LiftOp K rd r) (h : liftE K Z0 (eBin rd ta tb) σ H Q) : tOp r (liftE K Z0 ta) (liftE K Z0 tb) σ H Q := by
  obtain ⟨Z, δ, A, Kt, z, rs, ra, t, k⟩ := h
  exact ⟨Z, δ, A, _, z, rs, ra, t, fun Z1 d A1 v H1 s1 ra1 rv t1 => ⟨Z1, δ, A1, _, z.trans s1, rs.mono s1, ra1, t1, fun Z2 d2 A2 v2 H2 s2 ra2 rv2 t2 => l Z2 A2 H2 d d2 v v2 Kt Q ra2 (rv.mono s2) rv2 t2 (Kont.mono k (s1.trans s2))⟩⟩
variable {ta tb tc : DE}
theorem qe_op {op : Operator} {rd : DOp} {r : R2} (l : LiftOp X.K rd r) (ho : OpR X (binaryOp op) r) (ha : QE X Z0 a ta) (hb : QE X Z0 b tb) : QE X Z0 (.BinOp a op b pos) (eBin rd ta tb) :=
  PE.imp (pe_op ho ha hb) fun σ H Q h => lift_bin l h
theorem qe_cmp {op : CmpOp} {rd : DOp} {r : R2} (l : LiftOp X.K rd r) (ho : OpR X (compareOp op) r) (ha : QE X Z0 a ta) (hb : QE X Z0 b tb) (hm : behindInMarks op b = false) : QE X Z0 (.Compare a [op] [b] pos) (eBin rd ta tb) :=
  PE.imp (pe_cmpR ho ha hb hm) fun σ H Q h => lift_bin l h
/-- a truth as a test -/
def bE (t : DE) : DT := fun δ A Q => t δ A fun d A1 => match d with
  | .bl b => Q b A1
  | _ => False
theorem bE_of {t : TE} {u : DE} (h : ∀ σ H Q, liftE K Z0 u σ H Q → t σ H Q) : ∀ σ H Q, liftT K Z0 (bE u) σ H Q → tTest t σ H Q := fun σ H Q ⟨Z, δ, A, Kt, z, rs, ra, t, k⟩ => by
  refine h σ H _ ⟨Z, δ, A, _, z, rs, ra, t, fun Z1 d A1 v H1 s1 ra1 rv t1 => ?_⟩
  cases d with
  | bl b => exact ⟨b, rv_bl rv, k Z1 b A1 H1 s1 ra1 t1⟩
  | _ => exact t1.elim
theorem qt_cmp {op : CmpOp} {rd : DOp} {r : R2} (l : LiftOp X.K rd r) (ho : OpR X (compareOp op) r) (ha : QE X Z0 a ta) (hb : QE X Z0 b tb) (hm : behindInMarks op b = false) : QT X Z0 (.Compare a [op] [b] pos) (bE (eBin rd ta tb)) :=
  PT.imp (pt_cmpR ho ha hb hm) (bE_of (t := tOp r (liftE X.K Z0 ta) (liftE X.K Z0 tb)) fun σ H Q h => lift_bin l h)
theorem qt_val {t : DE} (h : QE X Z0 e t) (he : ∀ whole, isTrue e X.env whole = (do let v ← whole; standAt e.pos; holding [v] (truthy v)) := by intro _; rfl) : QT X Z0 e (bE t) :=
  PT.imp (pt_val h he) (bE_of (t := liftE X.K Z0 t) fun σ H Q h => h)
/-- a < b < c -/
def eChain (rd rd' : DOp) (ta tb tc : DE) : DE := fun δ A Q => ta δ A fun x A1 => tb δ A1 fun y A2 => rd x y A2 fun z A3 => match z with
  | .bl k => (k = true → tc δ A3 fun w A4 => rd' y w A4 Q) ∧ (k = false → Q (.bl false) A3)
  | _ => False
end
end DL


/-! DL2: operators over data. -/
namespace DL
open PySem PySem.Spec PyProof.Rows L2
variable {K : PySem.W.Frag} {Z Z' Z0 : Hp} {X : Cx}

/-! ### and, or, not -/
section
variable {a b : Expr} {rest : List Expr} {pos : Pos} {t u : DT} {ta tb : DE}
def bAnd (t u : DT) : DT := fun δ A Q => t δ A fun b A1 => (b = true → u δ A1 Q) ∧ (b = false → Q false A1)
def bOr (t u : DT) : DT := fun δ A Q => t δ A fun b A1 => (b = true → Q true A1) ∧ (b = false → u δ A1 Q)
def bNot (t : DT) : DT := fun δ A Q => t δ A fun b A1 => Q (!b) A1
theorem qw_and1 (h : QT X Z0 a t) : QW X Z0 (.BoolOp .And [a] pos) t := pw_and1 h
theorem qw_or1 (h : QT X Z0 a t) : QW X Z0 (.BoolOp .Or [a] pos) t := pw_or1 h
theorem qw_and (ha : QT X Z0 a t) (hb : QW X Z0 (.BoolOp .And (b :: rest) pos) u) : QW X Z0 (.BoolOp .And (a :: b :: rest) pos) (bAnd t u) :=
  PW.imp (pw_and ha hb) fun σ H Q ⟨Z, δ, A, Kt, z, rs, ra, t, k⟩ => ⟨Z, δ, A, _, z, rs, ra, t, fun Z1 c A1 H1 s1 ra1 t1 => by
    cases c with
    | true => exact iteT ⟨Z1, δ, A1, Kt, z.trans s1, rs.mono s1, ra1, t1.1 rfl, fun Z2 b2 A2 H2 s2 => k Z2 b2 A2 H2 (s1.trans s2)⟩
    | false => exact iteF (k Z1 false A1 H1 s1 ra1 (t1.2 rfl))⟩
theorem qw_or (ha : QT X Z0 a t) (hb : QW X Z0 (.BoolOp .Or (b :: rest) pos) u) : QW X Z0 (.BoolOp .Or (a :: b :: rest) pos) (bOr t u) :=
  PW.imp (pw_or ha hb) fun σ H Q ⟨Z, δ, A, Kt, z, rs, ra, t, k⟩ => ⟨Z, δ, A, _, z, rs, ra, t, fun Z1 c A1 H1 s1 ra1 t1 => by
    cases c with
    | false => exact iteF ⟨Z1, δ, A1, Kt, z.trans s1, rs.mono s1, ra1, t1.2 rfl, fun Z2 b2 A2 H2 s2 => k Z2 b2 A2 H2 (s1.trans s2)⟩
    | true => exact iteT (k Z1 true A1 H1 s1 ra1 (t1.1 rfl))⟩
theorem qt_w {e : Expr} (h : QW X Z0 e t) : QT X Z0 e t := h.pt
theorem qt_not (h : QT X Z0 a t) : QT X Z0 (.UnaryOp .Not a pos) (bNot t) :=
  PT.imp (pt_not h) fun σ H Q ⟨Z, δ, A, Kt, z, rs, ra, t, k⟩ => ⟨Z, δ, A, _, z, rs, ra, t, fun Z1 c A1 H1 s1 ra1 t1 => k Z1 (!c) A1 H1 s1 ra1 t1⟩
def eAnd (ta tb : DE) : DE := fun δ A Q => ta δ A fun d A1 => match d with
  | .bl c => (c = true → tb δ A1 Q) ∧ (c = false → Q (.bl false) A1)
  | _ => False
def eNot (ta : DE) : DE := fun δ A Q => ta δ A fun d A1 => match d with
  | .bl c => Q (.bl (!c)) A1
  | _ => False
theorem qe_one {op} (h : QE X Z0 a ta) : QE X Z0 (.BoolOp op [a] pos) ta := pe_one h
theorem qe_and (ha : QE X Z0 a ta) (hb : QE X Z0 (.BoolOp .And (b :: rest) pos) tb) : QE X Z0 (.BoolOp .And (a :: b :: rest) pos) (eAnd ta tb) :=
  PE.imp (pe_and ha hb) fun σ H Q ⟨Z, δ, A, Kt, z, rs, ra, t, k⟩ => ⟨Z, δ, A, _, z, rs, ra, t, fun Z1 d A1 v H1 s1 ra1 rv t1 => by
    cases d with
    | bl c =>
      refine ⟨c, rv_bl rv, ?_⟩
      cases c with
      | true => exact iteT ⟨Z1, δ, A1, Kt, z.trans s1, rs.mono s1, ra1, t1.1 rfl, Kont.mono k s1⟩
      | false => exact iteF (k Z1 _ A1 _ H1 s1 ra1 mk_bl (t1.2 rfl))
    | _ => exact t1.elim⟩
theorem qe_not (ha : QE X Z0 a ta) : QE X Z0 (.UnaryOp .Not a pos) (eNot ta) :=
  PE.imp (pe_not ha) fun σ H Q ⟨Z, δ, A, Kt, z, rs, ra, t, k⟩ => ⟨Z, δ, A, _, z, rs, ra, t, fun Z1 d A1 v H1 s1 ra1 rv t1 => by
    cases d with
    | bl c => exact ⟨c, rv_bl rv, k Z1 _ A1 _ H1 s1 ra1 mk_bl t1⟩
    | _ => exact t1.elim⟩
end

/-! ### arithmetic -/
def opAdd (mk : Mk) : DOp := fun x y A Q => match x, y with
  | .int i, .int j => Q (.int (i + j)) A
  | .str s, .str t => Few (s.length + t.length) ∧ Q (.str (s ++ t)) A
  | .tup l, .tup m => Few (l.length + m.length) ∧ Q (.tup (l ++ m)) A
  | x, y => match asL A x, asL A y with
    | some l, some m => Few (l.length + m.length) ∧ mk (l ++ m) A Q
    | _, _ => False
/-- of two lists that are read in any way -/
def rCatL (K : PySem.W.Frag) : R2 := fun x y H Q => ∃ l b xs zs, x = .ref l ∧ y = .ref b ∧ SqL K H l xs ∧ SqL K H b zs ∧ xs.length + zs.length ≤ sizeLine ∧ ∀ p, H p = none → Q (.ref p) (upd H p (.lst (xs ++ zs)))
theorem op_catL : OpR X (binaryOp .Add) (rCatL X.K) := by
  intro pins s σ H x y v u Q I rx ry h
  obtain ⟨l, b, xs, zs, rfl, rfl, hH, hB, hz, q⟩ := h
  cases rx
  cases ry
  obtain ⟨its, r, pl, z⟩ := I.list hH
  obtain ⟨its2, r2, pl2, z2⟩ := I.list hB
  obtain ⟨⟨cls, dd, data, sl⟩, n, ho, hc, hd, hdt⟩ := pl
  obtain ⟨⟨cls2, dd2, data2, sl2⟩, n2, ho2, hc2, hd2, hdt2⟩ := pl2
  simp only at hc hd hdt hc2 hd2 hdt2
  subst hc hd hdt hc2 hd2 hdt2
  have hl := r.length
  have hl2 := r2.length
  have e : its.toArray ++ its2.toArray = (its ++ its2).toArray := by simp
  refine concat_meets ⟨_, ho, rfl⟩ ⟨_, ho2, rfl⟩ noFill_list_add seq_list_add PySem.F.slot_list_add PySem.F.entry_list_add (PySem.F.args_list_add_2 _ _) (list_addW l b its.toArray its2.toArray n n2 none none sl sl2 (by simp only [List.size_toArray]; omega)) ⟨ho, ho2, ?_⟩
  rw [e]
  refine ⟨.ref s.heap.objs.size, _, I.laid (t' := s.toks) (o := .lst (xs ++ zs)) (fun b ob q => Heap.get?_push_of_some _ q) (Nat.le_refl _) ?_, rfl, q _ (I.hok.fresh (Nat.le_refl _))⟩
  exact ⟨by rw [List.length_append]; exact hz, _, 0, r.append r2, Heap.get?_push_size _ rfl⟩
def rAddAll (K : PySem.W.Frag) : R2 := fun x y H Q => (rI0 (fun i j => .int (i + j)) x y H Q) ∨ (∃ i j, x = .str i ∧ y = .str j ∧ i.length + j.length ≤ sizeLine ∧ Q (.str (i ++ j)) H) ∨ rCatA K x y H Q ∨ rCatL K x y H Q
theorem op_addAll : OpR X (binaryOp .Add) (rAddAll X.K) := op_add.or (op_add_str.or (op_catA.or op_catL))
theorem opAdd_lst {mk : Mk} {x y : D} {A : AH} {Q : DK} (h : opAdd mk x y A Q) :
    (∃ i j, x = .int i ∧ y = .int j ∧ Q (.int (i + j)) A) ∨ (∃ s t, x = .str s ∧ y = .str t ∧ Few (s.length + t.length) ∧ Q (.str (s ++ t)) A) ∨ (∃ l m, x = .tup l ∧ y = .tup m ∧ Few (l.length + m.length) ∧ Q (.tup (l ++ m)) A) ∨
      (∃ l m, asL A x = some l ∧ asL A y = some m ∧ Few (l.length + m.length) ∧ mk (l ++ m) A Q) := by
  unfold opAdd at h
  split at h
  · exact .inl ⟨_, _, rfl, rfl, h⟩
  · exact .inr (.inl ⟨_, _, rfl, rfl, h.1, h.2⟩)
  · exact .inr (.inr (.inl ⟨_, _, rfl, rfl, h.1, h.2⟩))
  · split at h
    · rename_i q1 q2
      exact .inr (.inr (.inr ⟨_, _, q1, q2, h.1, h.2⟩))
    · exact h.elim
theorem lift_add {mk : Mk} (m : MkOk K mk) : LiftOp K (opAdd mk) (rAddAll K) := fun Z A H x y vx vy Kt Q R rx ry h k => by
  rcases opAdd_lst h with ⟨i, j, rfl, rfl, h⟩ | ⟨s, t, rfl, rfl, hf, h⟩ | ⟨l, mm, rfl, rfl, hf, h⟩ | ⟨l, mm, hx, hy, hf, h⟩
  · exact .inl ⟨i, j, rv_int rx, rv_int ry, k Z _ A _ H (Same.refl Z) R mk_int h⟩
  · exact .inr (.inl ⟨s, t, rv_str rx, rv_str ry, few_line hf, k Z _ A _ H (Same.refl Z) R mk_str h⟩)
  · obtain ⟨p, vs, e1, e2, e3⟩ := rv_tup rx
    obtain ⟨p2, us, f1, f2, f3⟩ := rv_tup ry
    refine .inr (.inr (.inl ⟨p, p2, vs, us, e1, f1, sqT_mono R.sub e2, sqT_mono R.sub f2, by rw [e3.len, f3.len]; exact few_line hf, fun z => ?_, fun _ z => ?_, fun _ _ q hq => ?_⟩))
    · subst z
      refine k Z _ A _ H (Same.refl Z) R (mk_tup f2 ?_) h
      have : l = [] := List.eq_nil_of_length_eq_zero (by have := e3.len; simpa using this.symm)
      subst this; exact f3
    · subst z
      refine k Z _ A _ H (Same.refl Z) R (mk_tup e2 ?_) h
      have : mm = [] := List.eq_nil_of_length_eq_zero (by have := f3.len; simpa using this.symm)
      subst this; rw [List.append_nil]; exact e3
    · obtain ⟨s, R'⟩ := R.newF hq (.tup (vs ++ us))
      exact k _ _ A _ _ s R' (mk_tup (SqT.of upd_same) ((e3.append f3).mono s)) h
  · obtain ⟨p, vs, e1, e2, e3⟩ := asL_ok R rx hx
    obtain ⟨p2, us, f1, f2, f3⟩ := asL_ok R ry hy
    exact .inr (.inr (.inr ⟨p, p2, vs, us, e1, f1, e2, f2, by rw [e3.len, f3.len]; exact few_line hf, m.ok R (e3.append f3) h k⟩))

def opSub : DOp := fun x y A Q => match x, y with
  | .int i, .int j => Q (.int (i - j)) A
  | _, _ => False
theorem lift_sub : LiftOp K opSub (rI0 fun i j => .int (i - j)) := fun Z A H x y vx vy Kt Q R rx ry h k => by
  unfold opSub at h
  split at h
  · exact ⟨_, _, rv_int rx, rv_int ry, k Z _ A _ H (Same.refl Z) R mk_int h⟩
  · exact h.elim
/-- a product that the machine lets be -/
def MulOk (i j : Int) : Prop := i.natAbs < 2 ^ 64 ∨ j.natAbs < 2 ^ 64 ∨ ∃ a b : Nat, i.natAbs < 2 ^ a ∧ j.natAbs < 2 ^ b ∧ a + b ≤ 134217728
theorem MulOk.ok {i j : Int} (h : MulOk i j) : IntMulOk i j := by
  rcases h with h | h | ⟨a, b, h1, h2, h3⟩
  · exact CMul.ok (.inl ⟨by omega, by omega⟩)
  · exact CMul.ok (.inr ⟨by omega, by omega⟩)
  · exact (mulx_ok h1 h2 h3).ok
/-- s * n -/
def strRep (x : Str) (n : Nat) : Str := ⟨(List.replicate n x.cps.toList).flatten.toArray⟩
theorem foldl_rep (c : Array Nat) : ∀ (n : Nat) (a : Array Nat), ((List.replicate n c).foldl (· ++ ·) a).toList = a.toList ++ (List.replicate n c.toList).flatten
  | 0, a => by simp
  | n + 1, a => by
    rw [List.replicate_succ, List.foldl_cons, foldl_rep c n (a ++ c), List.replicate_succ, List.flatten_cons, Array.toList_append, List.append_assoc]
theorem strRep_eq (x : Str) (n : Nat) : (⟨(List.replicate n x.cps).foldl (· ++ ·) #[]⟩ : Str) = strRep x n := by
  unfold strRep
  congr 1
  apply Array.toList_inj.mp
  rw [foldl_rep]
  simp
def opMul : DOp := fun x y A Q => match x, y with
  | .int i, .int j => MulOk i j ∧ Q (.int (i * j)) A
  | .str s, .int n => (s.length ≤ 1000 ∧ n.natAbs ≤ 1000) ∧ Q (.str (strRep s n.toNat)) A
  | _, _ => False
def rMulStr : R2 := fun x y H Q => ∃ s n, x = .str s ∧ y = .int n ∧ (s.length ≤ 1000 ∧ n.natAbs ≤ 1000) ∧ Q (.str (strRep s n.toNat)) H
theorem op_mulStr : OpR X (binaryOp .Mult) rMulStr := by
  intro pins s σ H x y v u Q I rx ry h
  obtain ⟨z, n, rfl, rfl, ⟨h1, h2⟩, q⟩ := h
  obtain ⟨t, rfl⟩ := rx
  obtain ⟨t', rfl⟩ := ry
  have e1 : decide (n < -(2 ^ 63 : Int)) = false := decide_eq_false (by omega)
  have e2 : decide (n ≥ 2 ^ 63) = false := decide_eq_false (by omega)
  have hm : z.length * n.toNat ≤ 1000 * 1000 := Nat.mul_le_mul h1 (by omega)
  refine PySem.P.mul_str (by rw [e1, e2]; rfl) (fun hn _ => ?_) (fun hn _ => ?_) ?_
  · intro hc
    have h3 : (1000 : Int) ≤ (2 ^ 63 - 1) / n := by
      have hn1 : 1 ≤ n := by omega
      have hn2 : n ≤ 1000 := by omega
      refine (Int.le_ediv_iff_mul_le (by omega)).mpr ?_
      have : 1000 * n ≤ 1000 * 1000 := Int.mul_le_mul_of_nonneg_left hn2 (by decide)
      omega
    omega
  · have h9 : sizeLine = 16777216 := sizeLine_eq
    exact (decide_eq_false (by omega) : decide (z.length * n.toNat > sizeLine) = false)
  · by_cases hn : n < 1
    · rw [if_pos hn]
      refine ⟨by decide, ?_⟩
      refine ⟨.str _, H, I.tok _, ⟨_, rfl⟩, ?_⟩
      have e : strRep z n.toNat = Str.empty := by
        have : n.toNat = 0 := by omega
        rw [this]; rfl
      rw [← e]; exact q
    · rw [if_neg hn]
      by_cases h0 : (n == 1 || z.length == 0) = true
      · rw [if_pos h0]
        have e : strRep z n.toNat = z := by
          apply PyProof.Rows.ext_toList
          unfold strRep
          rw [Bool.or_eq_true] at h0
          rcases h0 with h0 | h0
          · have : n = 1 := by simpa using h0
            subst this; simp
          · have : z.cps.size = 0 := by simpa [Str.length] using h0
            have e0 : z.cps = #[] := Array.eq_empty_of_size_eq_zero this
            rw [e0]; simp
        refine ⟨.str z, H, I, ⟨_, rfl⟩, ?_⟩
        rw [← e]; exact q
      · rw [if_neg h0, strRep_eq]
        refine ⟨?_, ?_⟩
        · unfold strRep
          have : sizeLine = 16777216 := sizeLine_eq
          unfold Str.length at hm ⊢
          have e3 : (List.replicate n.toNat z.cps.toList).flatten.length = n.toNat * z.cps.size := by simp [List.length_flatten]
          show (List.replicate n.toNat z.cps.toList).flatten.toArray.size ≤ sizeLine
          rw [List.size_toArray, e3, Nat.mul_comm]
          omega
        · exact ⟨.str _, H, I.tok _, ⟨_, rfl⟩, q⟩

theorem lift_mul : LiftOp K opMul (fun x y H Q => rI (fun i j => IntMulOk i j) (fun i j => .int (i * j)) x y H Q ∨ rMulStr x y H Q) := fun Z A H x y vx vy Kt Q R rx ry h k => by
  unfold opMul at h
  split at h
  · exact .inl ⟨_, _, rv_int rx, rv_int ry, h.1.ok, k Z _ A _ H (Same.refl Z) R mk_int h.2⟩
  · exact .inr ⟨_, _, rv_str rx, rv_int ry, h.1, k Z _ A _ H (Same.refl Z) R mk_str h.2⟩
  · exact h.elim
theorem op_mulAll : OpR X (binaryOp .Mult) (fun x y H Q => rI (fun i j => IntMulOk i j) (fun i j => .int (i * j)) x y H Q ∨ rMulStr x y H Q) := (opI fun _ _ _ _ _ _ _ hc q => mul_int q hc).or op_mulStr
/-- a divisor that the machine takes -/
def DivOk (j : Int) : Prop := j ≠ 0 ∧ j.natAbs < 2 ^ 9000
def opDiv : DOp := fun x y A Q => match x, y with
  | .int i, .int j => DivOk j ∧ Q (.int (i.fdiv j)) A
  | _, _ => False
theorem op_fdivD : OpR X (binaryOp .FloorDiv) (rI (fun _ j => DivOk j) fun i j => .int (i.fdiv j)) := opI fun i j _ _ _ _ _ hc q =>
  floordiv_int hc.1 q (.inl (PyProof.noPylong_of_log2 (PySem.Flt.log2_lt_of (by decide) hc.2)))
theorem lift_div : LiftOp K opDiv (rI (fun _ j => DivOk j) fun i j => .int (i.fdiv j)) := fun Z A H x y vx vy Kt Q R rx ry h k => by
  unfold opDiv at h
  split at h
  · exact ⟨_, _, rv_int rx, rv_int ry, h.1, k Z _ A _ H (Same.refl Z) R mk_int h.2⟩
  · exact h.elim
def opMod : DOp := fun x y A Q => match x, y with
  | .int i, .int j => j ≠ 0 ∧ Q (.int (i.fmod j)) A
  | _, _ => False
theorem lift_mod : LiftOp K opMod (rI (fun _ j => j ≠ 0) fun i j => .int (i.fmod j)) := fun Z A H x y vx vy Kt Q R rx ry h k => by
  unfold opMod at h
  split at h
  · exact ⟨_, _, rv_int rx, rv_int ry, h.1, k Z _ A _ H (Same.refl Z) R mk_int h.2⟩
  · exact h.elim
def opPow : DOp := fun x y A Q => match x, y with
  | .int i, .int j => (0 ≤ j ∧ j ≤ 1000000 ∧ i.natAbs < 2 ^ 64) ∧ Q (.int (i ^ j.toNat)) A
  | _, _ => False
theorem lift_pow : LiftOp K opPow (rI CPow fun i j => .int (i ^ j.toNat)) := fun Z A H x y vx vy Kt Q R rx ry h k => by
  unfold opPow at h
  split at h
  · exact ⟨_, _, rv_int rx, rv_int ry, h.1, k Z _ A _ H (Same.refl Z) R mk_int h.2⟩
  · exact h.elim
def eNeg (t : DE) : DE := fun δ A Q => t δ A fun d A1 => match d with
  | .int i => Q (.int (-i)) A1
  | _ => False
section
variable {a b : Expr} {pos : Pos} {ta tb : DE}
theorem qe_neg (h : QE X Z0 a ta) : QE X Z0 (.UnaryOp .USub a pos) (eNeg ta) := PE.imp (pe_un un_neg h) fun σ H Q ⟨Z, δ, A, Kt, z, rs, ra, t, k⟩ =>
  ⟨Z, δ, A, _, z, rs, ra, t, fun Z1 d A1 v H1 s1 ra1 rv t1 => by
    cases d with
    | int i => exact ⟨i, rv_int rv, k Z1 _ A1 _ H1 s1 ra1 mk_int t1⟩
    | _ => exact t1.elim⟩
theorem qe_add {mk : Mk} (m : MkOk X.K mk) (ha : QE X Z0 a ta) (hb : QE X Z0 b tb) : QE X Z0 (.BinOp a .Add b pos) (eBin (opAdd mk) ta tb) := qe_op (lift_add m) op_addAll ha hb
theorem qe_sub (ha : QE X Z0 a ta) (hb : QE X Z0 b tb) : QE X Z0 (.BinOp a .Sub b pos) (eBin opSub ta tb) := qe_op lift_sub op_sub ha hb
theorem qe_mul (ha : QE X Z0 a ta) (hb : QE X Z0 b tb) : QE X Z0 (.BinOp a .Mult b pos) (eBin opMul ta tb) := qe_op lift_mul op_mulAll ha hb
theorem qe_div (ha : QE X Z0 a ta) (hb : QE X Z0 b tb) : QE X Z0 (.BinOp a .FloorDiv b pos) (eBin opDiv ta tb) := qe_op lift_div op_fdivD ha hb
theorem qe_mod (ha : QE X Z0 a ta) (hb : QE X Z0 b tb) : QE X Z0 (.BinOp a .Mod b pos) (eBin opMod ta tb) := qe_op lift_mod op_modN ha hb
theorem qe_pow (ha : QE X Z0 a ta) (hb : QE X Z0 b tb) : QE X Z0 (.BinOp a .Pow b pos) (eBin opPow ta tb) := qe_op lift_pow op_pow ha hb
end

/-! ### order of ints, is None, is True -/
def opCmp (p : Int → Int → Bool) : DOp := fun x y A Q => match x, y with
  | .int i, .int j => Q (.bl (p i j)) A
  | _, _ => False
theorem lift_cmp {p : Int → Int → Bool} : LiftOp K (opCmp p) (rI0 fun i j => .bl (p i j)) := fun Z A H x y vx vy Kt Q R rx ry h k => by
  unfold opCmp at h
  split at h
  · exact ⟨_, _, rv_int rx, rv_int ry, k Z _ A _ H (Same.refl Z) R mk_bl h⟩
  · exact h.elim
def D.isNon : D → Bool
  | .non => true
  | _ => false
theorem rv_isNon {d : D} {v : V} (r : RV K Z d v) : decide (v = .non) = d.isNon := by
  cases d with
  | non => rw [rv_non r]; rfl
  | bl b => rw [rv_bl r]; rfl
  | int b => rw [rv_int r]; rfl
  | str b => rw [rv_str r]; rfl
  | tup l => obtain ⟨p, _, e, _⟩ := rv_tup r; rw [e]; rfl
  | lst l => obtain ⟨p, _, e, _⟩ := rv_lst r; rw [e]; rfl
  | rol l => obtain ⟨p, _, e, _⟩ := rv_rol r; rw [e]; rfl
  | dic ks l => obtain ⟨p, _, e, _⟩ := rv_dic r; rw [e]; rfl
  | obj c ns l => obtain ⟨p, _, _, e, _⟩ := rv_obj r; rw [e]; rfl
  | ref a => rw [rv_ref r]; rfl
def opIs (neg : Bool) : DOp := fun x y A Q => match y with
  | .non => Q (.bl (xor neg x.isNon)) A
  | .bl b => match x with
    | .bl a => Q (.bl (xor neg (a == b))) A
    | _ => False
  | _ => False
theorem lift_is : LiftOp K (opIs false) (fun x y H Q => (y = .non ∧ Q (.bl (decide (x = .non))) H) ∨ ∃ a b, x = .bl a ∧ y = .bl b ∧ Q (.bl (decide (a = b))) H) := fun Z A H x y vx vy Kt Q R rx ry h k => by
  unfold opIs at h
  split at h
  · refine .inl ⟨rv_non ry, ?_⟩
    rw [rv_isNon rx]
    refine k Z _ A _ H (Same.refl Z) R mk_bl ?_
    simpa using h
  · split at h
    · rename_i b _ a
      refine .inr ⟨a, b, rv_bl rx, rv_bl ry, k Z _ A _ H (Same.refl Z) R mk_bl ?_⟩
      simpa [Bool.beq_eq_decide_eq] using h
    · exact h.elim
  · exact h.elim
theorem lift_isnot : LiftOp K (opIs true) (fun x y H Q => (y = .non ∧ Q (.bl (!decide (x = .non))) H) ∨ ∃ a b, x = .bl a ∧ y = .bl b ∧ Q (.bl (!decide (a = b))) H) := fun Z A H x y vx vy Kt Q R rx ry h k => by
  unfold opIs at h
  split at h
  · refine .inl ⟨rv_non ry, ?_⟩
    rw [rv_isNon rx]
    refine k Z _ A _ H (Same.refl Z) R mk_bl ?_
    simpa using h
  · split at h
    · rename_i b _ a
      refine .inr ⟨a, b, rv_bl rx, rv_bl ry, k Z _ A _ H (Same.refl Z) R mk_bl ?_⟩
      simpa [Bool.beq_eq_decide_eq] using h
    · exact h.elim
  · exact h.elim
theorem op_isAll : OpR X (compareOp .Is) (fun x y H Q => (y = .non ∧ Q (.bl (decide (x = .non))) H) ∨ ∃ a b, x = .bl a ∧ y = .bl b ∧ Q (.bl (decide (a = b))) H) := op_isN.or op_is_bl
theorem op_isnotAll : OpR X (compareOp .IsNot) (fun x y H Q => (y = .non ∧ Q (.bl (!decide (x = .non))) H) ∨ ∃ a b, x = .bl a ∧ y = .bl b ∧ Q (.bl (!decide (a = b))) H) := op_notN.or op_isnot_bl

/-! ### == of data -/
mutual
/-- data, of depth n at most -/
def dt : Nat → D → Bool
  | _, .non => true
  | _, .bl _ => true
  | _, .int _ => true
  | _, .str x => PyData.strOk x
  | n + 1, .tup l => dts n l
  | n + 1, .lst l => dts n l
  | n + 1, .rol l => dts n l
  | _, _ => false
def dts : Nat → List D → Bool
  | _, [] => true
  | n, d :: l => dt n d && dts n l
end
mutual
def py : D → PyData
  | .non => .none
  | .bl b => .bool b
  | .int i => .int i
  | .str x => .str x
  | .tup l => .tuple (pys l)
  | .lst l => .list (pys l)
  | .rol l => .list (pys l)
  | .dic _ _ => .none
  | .obj _ _ _ => .none
  | .ref _ => .none
def pys : List D → List PyData
  | [] => []
  | d :: l => py d :: pys l
end
mutual
/-- == -/
def deq : D → D → Bool
  | .non, .non => true
  | .bl a, .bl b => a == b
  | .bl a, .int j => (if a then 1 else 0) == j
  | .int i, .bl b => i == (if b then 1 else 0)
  | .int i, .int j => i == j
  | .str x, .str y => x == y
  | .tup l, .tup m => deqs l m
  | .lst l, .lst m => deqs l m
  | .lst l, .rol m => deqs l m
  | .rol l, .lst m => deqs l m
  | .rol l, .rol m => deqs l m
  | _, _ => false
def deqs : List D → List D → Bool
  | [], [] => true
  | d :: l, e :: m => deq d e && deqs l m
  | _, _ => false
end
mutual
theorem dt_canLay : ∀ (n : Nat) (d : D), dt n d = true → (py d).canLay0 = true ∧ (py d).depth ≤ n
  | _, .non, _ => by simp [py, PyData.canLay0, PyData.depth]
  | _, .bl _, _ => by simp [py, PyData.canLay0, PyData.depth]
  | _, .int _, _ => by simp [py, PyData.canLay0, PyData.depth]
  | _, .str x, h => by simp only [dt] at h; simp [py, PyData.canLay0, PyData.depth, h]
  | n + 1, .tup l, h => by
    simp only [dt] at h
    have := dts_canLay n l h
    simp [py, PyData.canLay0, PyData.depth, this.1, this.2]
  | n + 1, .lst l, h => by
    simp only [dt] at h
    have := dts_canLay n l h
    simp [py, PyData.canLay0, PyData.depth, this.1, this.2]
  | n + 1, .rol l, h => by
    simp only [dt] at h
    have := dts_canLay n l h
    simp [py, PyData.canLay0, PyData.depth, this.1, this.2]
  | 0, .tup l, h => by simp [dt] at h
  | 0, .lst l, h => by simp [dt] at h
  | 0, .rol l, h => by simp [dt] at h
  | _, .dic _ _, h => by simp [dt] at h
  | _, .obj _ _ _, h => by simp [dt] at h
  | _, .ref _, h => by simp [dt] at h
theorem dts_canLay : ∀ (n : Nat) (l : List D), dts n l = true → PyData.canLayAll0 (pys l) = true ∧ PyData.depthAll (pys l) ≤ n
  | _, [], _ => by simp [pys, PyData.canLayAll0, PyData.depthAll]
  | n, d :: l, h => by
    simp only [dts, Bool.and_eq_true] at h
    have h1 := dt_canLay n d h.1
    have h2 := dts_canLay n l h.2
    simp [pys, PyData.canLayAll0, PyData.depthAll, h1.1, h2.1, Nat.max_le, h1.2, h2.2]
end

mutual
theorem deq_eqv : ∀ (d e : D) (n m : Nat), dt n d = true → dt m e = true → PyData.eqv (py d) (py e) = deq d e
  | .non, e, _, _, _, h => by cases e <;> first | rfl | simp [dt] at h | simp [py, PyData.eqv, deq]
  | .bl _, e, _, _, _, h => by cases e <;> first | rfl | simp [dt] at h | simp [py, PyData.eqv, deq]
  | .int _, e, _, _, _, h => by cases e <;> first | rfl | simp [dt] at h | simp [py, PyData.eqv, deq]
  | .str _, e, _, _, _, h => by cases e <;> first | rfl | simp [dt] at h | simp [py, PyData.eqv, deq]
  | .tup l, e, 0, _, h0, h => by simp [dt] at h0
  | .lst l, e, 0, _, h0, h => by simp [dt] at h0
  | .rol l, e, 0, _, h0, h => by simp [dt] at h0
  | .tup l, e, n + 1, m, h0, h => by
    simp only [dt] at h0
    cases e with
    | tup k => cases m with
      | zero => simp [dt] at h
      | succ m => simp only [dt] at h; simp only [py, PyData.eqv, deq]; exact deqs_eqv l k n m h0 h
    | dic _ _ => simp [dt] at h
    | obj _ _ _ => simp [dt] at h
    | ref _ => simp [dt] at h
    | _ => simp [py, PyData.eqv, deq]
  | .lst l, e, n + 1, m, h0, h => by
    simp only [dt] at h0
    cases e with
    | lst k => cases m with
      | zero => simp [dt] at h
      | succ m => simp only [dt] at h; simp only [py, PyData.eqv, deq]; exact deqs_eqv l k n m h0 h
    | rol k => cases m with
      | zero => simp [dt] at h
      | succ m => simp only [dt] at h; simp only [py, PyData.eqv, deq]; exact deqs_eqv l k n m h0 h
    | dic _ _ => simp [dt] at h
    | obj _ _ _ => simp [dt] at h
    | ref _ => simp [dt] at h
    | _ => simp [py, PyData.eqv, deq]
  | .rol l, e, n + 1, m, h0, h => by
    simp only [dt] at h0
    cases e with
    | lst k => cases m with
      | zero => simp [dt] at h
      | succ m => simp only [dt] at h; simp only [py, PyData.eqv, deq]; exact deqs_eqv l k n m h0 h
    | rol k => cases m with
      | zero => simp [dt] at h
      | succ m => simp only [dt] at h; simp only [py, PyData.eqv, deq]; exact deqs_eqv l k n m h0 h
    | dic _ _ => simp [dt] at h
    | obj _ _ _ => simp [dt] at h
    | ref _ => simp [dt] at h
    | _ => simp [py, PyData.eqv, deq]
  | .dic _ _, _, _, _, h0, _ => by simp [dt] at h0
  | .obj _ _ _, _, _, _, h0, _ => by simp [dt] at h0
  | .ref _, _, _, _, h0, _ => by simp [dt] at h0
theorem deqs_eqv : ∀ (l k : List D) (n m : Nat), dts n l = true → dts m k = true → PyData.eqvAll (pys l) (pys k) = deqs l k
  | [], [], _, _, _, _ => by simp [pys, PyData.eqvAll, deqs]
  | [], _ :: _, _, _, _, _ => by simp [pys, PyData.eqvAll, deqs]
  | _ :: _, [], _, _, _, _ => by simp [pys, PyData.eqvAll, deqs]
  | d :: l, e :: k, n, m, h1, h2 => by
    simp only [dts, Bool.and_eq_true] at h1 h2
    simp only [pys, PyData.eqvAll, deqs]
    rw [deq_eqv d e n m h1.1 h2.1, deqs_eqv l k n m h1.2 h2.2]
end
mutual
theorem dp_of {A : AH} {H : Hp} (R : RA K Z A H) : ∀ (d : D) (v : V) (n : Nat), dt n d = true → RV K Z d v → Dp K H v (py d)
  | .non, v, _, _, r => by rw [rv_non r]; simp only [py]; exact .non
  | .bl _, v, _, _, r => by rw [rv_bl r]; simp only [py]; exact .bl _
  | .int _, v, _, _, r => by rw [rv_int r]; simp only [py]; exact .int _
  | .str _, v, _, _, r => by rw [rv_str r]; simp only [py]; exact .str _
  | .tup l, v, 0, h, r => by simp [dt] at h
  | .lst l, v, 0, h, r => by simp [dt] at h
  | .rol l, v, 0, h, r => by simp [dt] at h
  | .tup l, v, n + 1, h, r => by
    simp only [dt] at h
    obtain ⟨p, vs, rfl, e2, e3⟩ := rv_tup r
    simp only [py]
    exact .tup (sqT_mono R.sub e2) (dps_of R l vs n h e3)
  | .lst l, v, n + 1, h, r => by
    simp only [dt] at h
    obtain ⟨p, vs, rfl, e2, e3⟩ := rv_lst r
    simp only [py]
    exact .lst (SqL.of (R.sub _ _ e2)) (dps_of R l vs n h e3)
  | .rol l, v, n + 1, h, r => by
    simp only [dt] at h
    obtain ⟨p, vs, rfl, e2, e3⟩ := rv_rol r
    simp only [py]
    exact .lst (sqL_mono R.sub e2) (dps_of R l vs n h e3)
  | .dic _ _, _, _, h0, _ => by simp [dt] at h0
  | .obj _ _ _, _, _, h0, _ => by simp [dt] at h0
  | .ref _, _, _, h0, _ => by simp [dt] at h0
theorem dps_of {A : AH} {H : Hp} (R : RA K Z A H) : ∀ (l : List D) (vs : List V) (n : Nat), dts n l = true → RVs K Z l vs → DpAll K H vs (pys l)
  | [], vs, _, _, r => by rw [r.inv0]; simp only [pys]; exact .nil
  | d :: l, vs, n, h, r => by
    simp only [dts, Bool.and_eq_true] at h
    obtain ⟨v, u, rfl, r1, r2⟩ := r.inv
    simp only [pys]
    exact .cons (dp_of R d v n h.1 r1) (dps_of R l u n h.2 r2)
end
/-- a list that may change, as it stands -/
def drf (A : AH) : D → D
  | .ref a => match A a with
    | some (.lst l) => .lst l
    | _ => .ref a
  | d => d
theorem dp_drf {A : AH} {H : Hp} (R : RA K Z A H) {d : D} {v : V} {n : Nat} (h : dt n (drf A d) = true) (r : RV K Z d v) : Dp K H v (py (drf A d)) := by
  cases d with
  | ref a =>
    have e : drf A (.ref a) = (match A a with | some (.lst l) => .lst l | _ => .ref a) := rfl
    rw [e] at h ⊢
    split at h
    · rename_i l q
      obtain ⟨vs, e2, e3⟩ := (R.at_ a _ q).2
      rw [rv_ref r]
      cases n with
      | zero => simp [dt] at h
      | succ n =>
        simp only [dt] at h
        simp only [py]
        exact .lst (SqL.of e2) (dps_of R l vs n h e3)
    · simp [dt] at h
  | _ => exact dp_of R _ _ n h r
def opEq (neg : Bool) : DOp := fun x y A Q => dt 60 (drf A x) = true ∧ dt 60 (drf A y) = true ∧ Q (.bl (xor neg (deq (drf A x) (drf A y)))) A
theorem lift_eq : LiftOp K (opEq false) (rEqD K) := fun Z A H x y vx vy Kt Q R rx ry ⟨h1, h2, h⟩ k => by
  obtain ⟨c1, c2⟩ := dt_canLay _ _ h1
  obtain ⟨c3, c4⟩ := dt_canLay _ _ h2
  refine ⟨_, _, dp_drf R h1 rx, dp_drf R h2 ry, ?_, ?_, ?_⟩
  · unfold SeqAt.shaped; rw [c1, Bool.true_and]; exact decide_eq_true (by omega)
  · unfold SeqAt.shaped; rw [c3, Bool.true_and]; exact decide_eq_true (by omega)
  · rw [deq_eqv _ _ _ _ h1 h2]
    exact k Z _ A _ H (Same.refl Z) R mk_bl (by simpa using h)
theorem lift_ne : LiftOp K (opEq true) (rNeD K) := fun Z A H x y vx vy Kt Q R rx ry ⟨h1, h2, h⟩ k => by
  obtain ⟨c1, c2⟩ := dt_canLay _ _ h1
  obtain ⟨c3, c4⟩ := dt_canLay _ _ h2
  refine ⟨_, _, dp_drf R h1 rx, dp_drf R h2 ry, ?_, ?_, ?_⟩
  · unfold SeqAt.shaped; rw [c1, Bool.true_and]; exact decide_eq_true (by omega)
  · unfold SeqAt.shaped; rw [c3, Bool.true_and]; exact decide_eq_true (by omega)
  · rw [deq_eqv _ _ _ _ h1 h2]
    exact k Z _ A _ H (Same.refl Z) R mk_bl (by simpa using h)

/-! ### in -/
theorem dts_any (y : D) (n : Nat) (hy : dt n y = true) : ∀ (l : List D) (m : Nat), dts m l = true → (pys l).any (fun z => PyData.eqv z (py y)) = l.any (fun z => deq z y)
  | [], _, _ => by simp [pys]
  | d :: l, m, h => by
    simp only [dts, Bool.and_eq_true] at h
    simp only [pys, List.any_cons]
    rw [deq_eqv d y m n h.1 hy, dts_any y n hy l m h.2]
/-- a dict's key -/
def asKey : D → Option Key
  | .int i => some (.inl i)
  | .str x => some (.inr x)
  | _ => none
theorem asKey_ok {d : D} {v : V} {k : Key} (r : RV K Z d v) (h : asKey d = some k) : v = kV k := by
  cases d with
  | int i => cases (show some (Sum.inl i) = some k from h); exact rv_int r
  | str i => cases (show some (Sum.inr i) = some k from h); exact rv_str r
  | _ => cases h
/-- the value at a key -/
def dget (kvs : List (Key × D)) (k : Key) : Option D := (kvs.find? fun kv => decide (kv.1 = k)).map (·.2)
theorem dget_ok {k : Key} : ∀ {kvs : List (Key × D)} {us : List (Key × V)}, us.map (·.1) = kvs.map (·.1) → RVs K Z (kvs.map (·.2)) (us.map (·.2)) →
    (dget kvs k = none ∧ valV us k = none) ∨ ∃ d v, dget kvs k = some d ∧ valV us k = some v ∧ RV K Z d v
  | [], us, e, _ => by
    have : us = [] := by simpa using e
    subst this; exact .inl ⟨rfl, rfl⟩
  | (k1, d) :: kvs, [], e, _ => by simp at e
  | (k1, d) :: kvs, (k2, v) :: us, e, r => by
    simp only [List.map_cons, List.cons.injEq] at e
    obtain ⟨e1, e2⟩ := e
    have e1 : k2 = k1 := e1
    subst e1
    obtain ⟨v', u', hv, r1, r2⟩ := RVs.inv (show RVs K Z (d :: kvs.map (·.2)) (v :: us.map (·.2)) from r)
    obtain ⟨rfl, rfl⟩ := List.cons.inj hv
    by_cases hk : k2 = k
    · refine .inr ⟨d, v, ?_, ?_, r1⟩
      · simp [dget, List.find?_cons, hk]
      · exact valV_pos (p := (k2, v)) hk
    · have ih := dget_ok (k := k) e2 r2
      have h1 : dget ((k2, d) :: kvs) k = dget kvs k := by simp [dget, List.find?_cons, hk]
      have h2 : valV ((k2, v) :: us) k = valV us k := valV_neg (p := (k2, v)) hk
      rw [h1, h2]
      exact ih
def opIn (neg : Bool) : DOp := fun x y A Q => match asDic A y, asKey x with
  | some kvs, some k => Q (.bl (xor neg (dget kvs k).isSome)) A
  | some _, none => False
  | none, _ => match x, y with
    | .str c, .str z => c.cps.size = 1 ∧ Q (.bl (xor neg (decide (c.cps.getD 0 0 ∈ z.cps.toList)))) A
    | x, .tup l => (flatD x && l.all flatD) = true ∧ Q (.bl (xor neg (l.any fun z => deq z x))) A
    | x, y => match asL A y with
      | some l => dt 60 (drf A x) = true ∧ dts 59 l = true ∧ Q (.bl (xor neg (l.any fun z => deq z (drf A x)))) A
      | none => False
where flatD : D → Bool
  | .non => true | .bl _ => true | .int _ => true | .str _ => true | _ => false

def rInDict (neg : Bool) : R2 := fun x y H Q => ∃ a o, y = .ref a ∧ DGet H a x o ∧ Q (.bl (xor neg o.isSome)) H
theorem op_inDict (hu : X.A.units + 1 < cLine) : OpR X (compareOp .In) (rInDict false) := by
  intro pins s σ H x y v u Q I rx ry h
  obtain ⟨a, o, rfl, g, q⟩ := h
  obtain rfl : u = Value.ref a := ry
  exact d_in hu I g rx fun s3 I3 => ⟨.bl o.isSome, H, I3, rfl, by simpa using q⟩
theorem op_notInDict (hu : X.A.units + 1 < cLine) : OpR X (compareOp .NotIn) (rInDict true) := by
  intro pins s σ H x y v u Q I rx ry h
  obtain ⟨a, o, rfl, g, q⟩ := h
  obtain rfl : u = Value.ref a := ry
  exact d_notIn hu I g rx fun s3 I3 => ⟨.bl (!o.isSome), H, I3, rfl, by simpa using q⟩
def rInSign (neg : Bool) : R2 := fun x y H Q => ∃ (c : Nat) (z : Str), x = .str ⟨#[c]⟩ ∧ y = .str z ∧ Q (.bl (xor neg (decide (c ∈ z.cps.toList)))) H
theorem op_inSign : OpR X (compareOp .In) (rInSign false) := by
  intro pins s σ H x y v u Q I rx ry ⟨c, z, h1, h2, q⟩
  exact op_in_sign pins s σ H x y v u Q I rx ry ⟨c, z, h1, h2, by simpa using q⟩
theorem op_notInSign : OpR X (compareOp .NotIn) (rInSign true) := by
  intro pins s σ H x y v u Q I rx ry ⟨c, z, h1, h2, q⟩
  exact op_notIn_sign pins s σ H x y v u Q I rx ry ⟨c, z, h1, h2, by simpa using q⟩
def rInAll (K : PySem.W.Frag) (neg : Bool) (rd : R2) : R2 := fun x y H Q => rInDict neg x y H Q ∨ rInSign neg x y H Q ∨ rIn K neg x y H Q ∨ rd x y H Q
theorem op_inAll (hu : X.A.units + 65 < cLine) : OpR X (compareOp .In) (rInAll X.K false (rInD X.K)) := (op_inDict (by omega)).or (op_inSign.or (op_in_seq.or (op_inD hu)))
theorem op_notInAll (hu : X.A.units + 65 < cLine) : OpR X (compareOp .NotIn) (rInAll X.K true (rNotInD X.K)) := (op_notInDict (by omega)).or (op_notInSign.or (op_notIn_seq.or (op_notInD hu)))
theorem flat_rv {d : D} {v : V} (r : RV K Z d v) (h : opIn.flatD d = true) : flatV v = true := by
  cases d with
  | non => rw [rv_non r]; rfl
  | bl b => rw [rv_bl r]; rfl
  | int b => rw [rv_int r]; rfl
  | str b => rw [rv_str r]; rfl
  | _ => cases h
theorem flat_eq {d e : D} {v u : V} (r : RV K Z d v) (q : RV K Z e u) (h : opIn.flatD d = true) (h' : opIn.flatD e = true) : eqV v u = deq d e := by
  cases d with
  | non => rw [rv_non r]; cases e with
    | non => rw [rv_non q]; simp [eqV, deq]
    | bl b => rw [rv_bl q]; simp [eqV, deq]
    | int b => rw [rv_int q]; simp [eqV, deq]
    | str b => rw [rv_str q]; simp [eqV, deq]
    | _ => cases h'
  | bl b => rw [rv_bl r]; cases e with
    | non => rw [rv_non q]; simp [eqV, deq]
    | bl b => rw [rv_bl q]; simp [eqV, deq]
    | int b => rw [rv_int q]; simp [eqV, deq]
    | str b => rw [rv_str q]; simp [eqV, deq]
    | _ => cases h'
  | int b => rw [rv_int r]; cases e with
    | non => rw [rv_non q]; simp [eqV, deq]
    | bl b => rw [rv_bl q]; simp [eqV, deq]
    | int b => rw [rv_int q]; simp [eqV, deq]
    | str b => rw [rv_str q]; simp [eqV, deq]
    | _ => cases h'
  | str b => rw [rv_str r]; cases e with
    | non => rw [rv_non q]; simp [eqV, deq]
    | bl b => rw [rv_bl q]; simp [eqV, deq]
    | int b => rw [rv_int q]; simp [eqV, deq]
    | str b => rw [rv_str q]; simp [eqV, deq]
    | _ => cases h'
  | _ => cases h
theorem flat_any {x : D} {vx : V} (rx : RV K Z x vx) (hx : opIn.flatD x = true) : ∀ {l : List D} {vs : List V}, RVs K Z l vs → l.all opIn.flatD = true → vs.all flatV = true ∧ inV vx vs = l.any (fun z => deq z x)
  | [], vs, r, _ => by rw [r.inv0]; exact ⟨rfl, rfl⟩
  | d :: l, vs, r, h => by
    obtain ⟨v, u, rfl, r1, r2⟩ := r.inv
    simp only [List.all_cons, Bool.and_eq_true] at h
    have ih := flat_any rx hx r2 h.2
    refine ⟨by simp only [List.all_cons, Bool.and_eq_true]; exact ⟨flat_rv r1 h.1, ih.1⟩, ?_⟩
    have e := ih.2
    unfold inV at e ⊢
    rw [List.any_cons, List.any_cons, e, flat_eq r1 rx h.1 hx]
theorem opIn_cases {neg : Bool} {x y : D} {A : AH} {Q : DK} (h : opIn neg x y A Q) :
    (∃ kvs k, asDic A y = some kvs ∧ asKey x = some k ∧ Q (.bl (xor neg (dget kvs k).isSome)) A) ∨
    (∃ c z, x = .str c ∧ y = .str z ∧ c.cps.size = 1 ∧ Q (.bl (xor neg (decide (c.cps.getD 0 0 ∈ z.cps.toList)))) A) ∨
    (∃ l, y = .tup l ∧ (opIn.flatD x && l.all opIn.flatD) = true ∧ Q (.bl (xor neg (l.any fun z => deq z x))) A) ∨
    ∃ l, asL A y = some l ∧ dt 60 (drf A x) = true ∧ dts 59 l = true ∧ Q (.bl (xor neg (l.any fun z => deq z (drf A x)))) A := by
  unfold opIn at h
  split at h
  · rename_i kvs k h1 h2
    exact .inl ⟨kvs, k, h1, h2, h⟩
  · exact h.elim
  · split at h
    · exact .inr (.inl ⟨_, _, rfl, rfl, h.1, h.2⟩)
    · exact .inr (.inr (.inl ⟨_, rfl, h.1, h.2⟩))
    · split at h
      · rename_i l q
        exact .inr (.inr (.inr ⟨l, q, h⟩))
      · exact h.elim
theorem asL_dp {A : AH} {H : Hp} (R : RA K Z A H) {d : D} {v : V} {l : List D} {n : Nat} (r : RV K Z d v) (h : asL A d = some l) (q : dts n l = true) : Dp K H v (.list (pys l)) := by
  obtain ⟨p, vs, e1, e2, e3⟩ := asL_ok R r h
  rw [e1]
  exact .lst e2 (dps_of R l vs n q e3)
theorem one_sign {c : Str} (h : c.cps.size = 1) : c = ⟨#[c.cps.getD 0 0]⟩ := by
  apply PyProof.Rows.ext_toList
  have h2 : c.cps.toList.length = 1 := by simpa using h
  match hc : c.cps.toList, h2 with
  | [x], _ =>
    have : c.cps = #[x] := by apply Array.toList_inj.mp; simpa using hc
    rw [this]; simp
theorem lift_in0 {neg : Bool} {rd : R2} (hrd : ∀ x y H Q, (∃ d ds, Dp K H x d ∧ Dp K H y (.list ds) ∧ SeqAt.shaped d = true ∧ SeqAt.shaped (.list ds) = true ∧ Q (.bl (xor neg (ds.any fun z => PyData.eqv z d))) H) → rd x y H Q) : LiftOp K (opIn neg) (rInAll K neg rd) := fun Z A H x y vx vy Kt Q R rx ry h k => by
  rcases opIn_cases h with ⟨kvs, ky, h1, h2, h⟩ | ⟨c, z, rfl, rfl, h1, h⟩ | ⟨l, rfl, h1, h⟩ | ⟨l, h1, h2, h3, h⟩
  · obtain ⟨p, us, e1, e2, e3, e4⟩ := asDic_ok R ry h1
    refine .inl ⟨p, valV us ky, e1, ?_, ?_⟩
    · rw [asKey_ok rx h2]; exact DGet.k e2
    · refine k Z _ A _ H (Same.refl Z) R mk_bl ?_
      rcases dget_ok (k := ky) e3 e4 with ⟨q1, q2⟩ | ⟨d, v, q1, q2, _⟩
      · rw [q2]; rw [q1] at h; exact h
      · rw [q2]; rw [q1] at h; exact h
  · refine .inr (.inl ⟨c.cps.getD 0 0, z, ?_, rv_str ry, k Z _ A _ H (Same.refl Z) R mk_bl h⟩)
    rw [rv_str rx]; exact congrArg V.str (one_sign h1)
  · obtain ⟨p, vs, e1, e2, e3⟩ := rv_tup ry
    simp only [Bool.and_eq_true] at h1
    obtain ⟨f1, f2⟩ := flat_any rx h1.1 e3 h1.2
    refine .inr (.inr (.inl ⟨p, vs, e1, .inr (sqT_mono R.sub e2), flat_rv rx h1.1, f1, ?_⟩))
    rw [f2]
    refine k Z _ A _ H (Same.refl Z) R ?_ h
    cases neg <;> simp [RV]
  · obtain ⟨c1, c2⟩ := dt_canLay _ _ h2
    obtain ⟨c3, c4⟩ := dts_canLay _ _ h3
    refine .inr (.inr (.inr (hrd _ _ _ _ ⟨_, _, dp_drf R h2 rx, asL_dp R ry h1 h3, ?_, ?_, ?_⟩)))
    · unfold SeqAt.shaped; rw [c1, Bool.true_and]; exact decide_eq_true (by omega)
    · unfold SeqAt.shaped; simp only [PyData.canLay0, PyData.depth]; rw [c3, Bool.true_and]; exact decide_eq_true (by omega)
    · rw [dts_any _ _ h2 _ _ h3]
      exact k Z _ A _ H (Same.refl Z) R mk_bl h
theorem lift_in : LiftOp K (opIn false) (rInAll K false (rInD K)) := lift_in0 fun x y H Q ⟨d, ds, h1, h2, h3, h4, h5⟩ => ⟨d, ds, h1, h2, h3, h4, by simpa using h5⟩
theorem lift_notin : LiftOp K (opIn true) (rInAll K true (rNotInD K)) := lift_in0 fun x y H Q ⟨d, ds, h1, h2, h3, h4, h5⟩ => ⟨d, ds, h1, h2, h3, h4, by simpa using h5⟩
end DL


/-! DL3: subscripts, slices, fields, built-in functions and methods over data. -/
namespace DL
open PySem PySem.Spec PyProof.Rows L2
variable {K : PySem.W.Frag} {Z Z' Z0 : Hp} {X : Cx}

/-! ### subscripts -/
def opIx : DOp := fun x y A Q => match y with
  | .int i => (match x with
    | .str z => Few z.length ∧ (match atI z.cps.toList i with
      | some c => Q (.str ⟨#[c]⟩) A
      | none => False)
    | x => match asS A x with
      | some l => (match atI l i with
        | some d => Q d A
        | none => False)
      | none => match asDic A x with
        | some kvs => (match dget kvs (.inl i) with
          | some d => Q d A
          | none => False)
        | none => False)
  | .str k => (match asDic A x with
    | some kvs => (match dget kvs (.inr k) with
      | some d => Q d A
      | none => False)
    | none => False)
  | _ => False
def rIxD : R2 := fun x y H Q => ∃ a v, x = .ref a ∧ DGet H a y (some v) ∧ Q v H
theorem ix_dict (hu : X.A.units + 1 < cLine) : IxR X rIxD := by
  intro value slice pins s σ H x y v u Q I rx ry h hs
  obtain ⟨a, w, rfl, g, q⟩ := h
  obtain rfl : v = Value.ref a := rx
  exact tail_any (dict_typeIs I g) PySem.F.slot_dict_getitem.lookup (d_getItem hu I g ry fun w' s3 I3 rw' => ⟨w, H, I3, rw', q⟩) hs
def rIxAll (K : PySem.W.Frag) : R2 := fun x y H Q => rIxL K x y H Q ∨ rIxT K x y H Q ∨ rIxS x y H Q ∨ rIxD x y H Q
theorem ix_all (hu : X.A.units + 1 < cLine) : IxR X (rIxAll X.K) := ix_list.or (ix_tup.or (ix_str.or (ix_dict hu)))
theorem atI_rvs {l : List D} {vs : List V} {i : Int} {d : D} (r : RVs K Z l vs) (h : atI l i = some d) : ∃ v, atI vs i = some v ∧ RV K Z d v := by
  unfold atI at h ⊢
  rw [r.len]
  cases e : ixN l.length i with
  | none => rw [e] at h; cases h
  | some j =>
    rw [e] at h
    obtain ⟨v, h1, h2⟩ := r.get' (show l[j]? = some d from h)
    exact ⟨v, h1, h2⟩
theorem opIx_cases {x y : D} {A : AH} {Q : DK} (h : opIx x y A Q) :
    (∃ i z c, y = .int i ∧ x = .str z ∧ Few z.length ∧ atI z.cps.toList i = some c ∧ Q (.str ⟨#[c]⟩) A) ∨ (∃ i l d, y = .int i ∧ asS A x = some l ∧ atI l i = some d ∧ Q d A) ∨
      (∃ k kvs d, asKey y = some k ∧ asDic A x = some kvs ∧ dget kvs k = some d ∧ Q d A) := by
  unfold opIx at h
  split at h
  · rename_i i
    split at h
    · obtain ⟨h1, h2⟩ := h
      split at h2
      · rename_i c q
        exact .inl ⟨i, _, c, rfl, rfl, h1, q, h2⟩
      · exact h2.elim
    · split at h
      · rename_i l q
        split at h
        · rename_i d q2
          exact .inr (.inl ⟨i, l, d, rfl, q, q2, h⟩)
        · exact h.elim
      · split at h
        · rename_i kvs q
          split at h
          · rename_i d q2
            exact .inr (.inr ⟨.inl i, kvs, d, rfl, q, q2, h⟩)
          · exact h.elim
        · exact h.elim
  · rename_i k
    split at h
    · rename_i kvs q
      split at h
      · rename_i d q2
        exact .inr (.inr ⟨.inr k, kvs, d, rfl, q, q2, h⟩)
      · exact h.elim
    · exact h.elim
  · exact h.elim
theorem lift_ix : LiftOp K opIx (rIxAll K) := fun Z A H x y vx vy Kt Q R rx ry h k => by
  rcases opIx_cases h with ⟨i, z, c, rfl, rfl, h1, h2, h⟩ | ⟨i, l, d, rfl, h1, h2, h⟩ | ⟨ky, kvs, d, h1, h2, h3, h⟩
  · exact .inr (.inr (.inl ⟨z, i, c, rv_str rx, rv_int ry, few_line h1, h2, k Z _ A _ H (Same.refl Z) R mk_str h⟩))
  · obtain ⟨p, vs, e1, e2, e3⟩ := asS_ok R rx h1
    obtain ⟨v, f1, f2⟩ := atI_rvs e3 h2
    rcases e2 with e2 | e2
    · exact .inl ⟨p, vs, i, v, e1, rv_int ry, e2, f1, k Z _ A _ H (Same.refl Z) R f2 h⟩
    · exact .inr (.inl ⟨p, vs, i, v, e1, rv_int ry, e2, f1, k Z _ A _ H (Same.refl Z) R f2 h⟩)
  · obtain ⟨p, us, e1, e2, e3, e4⟩ := asDic_ok R rx h2
    rcases dget_ok (k := ky) e3 e4 with ⟨q1, _⟩ | ⟨d', v, q1, q2, q3⟩
    · rw [q1] at h3; cases h3
    · rw [q1] at h3; cases h3
      refine .inr (.inr (.inr ⟨p, v, e1, ?_, k Z _ A _ H (Same.refl Z) R q3 h⟩))
      rw [asKey_ok ry h1, ← q2]; exact DGet.k e2
section
variable {a b e : Expr} {es : List Expr} {pos p2 : Pos} {ta tb : DE} {lo hi : Option Expr}
theorem qe_ix (hu : X.A.units + 1 < cLine) (ha : QE X Z0 a ta) (hb : QE X Z0 b tb) (hs : PlainIx b) : QE X Z0 (.Subscript a b pos) (eBin opIx ta tb) :=
  PE.imp (pe_ix (ix_all hu) ha hb hs) fun σ H Q h => lift_bin lift_ix h

/-! ### slices -/
abbrev DOpt := DSt → AH → (Option Int → AH → Prop) → Prop
def liftO (K : PySem.W.Frag) (Z0 : Hp) (t : DOpt) : TO := fun σ H Q => ∃ Z δ A Kt, Same Z0 Z ∧ RS K Z δ σ ∧ RA K Z A H ∧ t δ A Kt ∧
  ∀ Z' o A' H', Same Z Z' → RA K Z' A' H' → Kt o A' → Q o H'
def oNone : DOpt := fun _ A Q => Q none A
def oSome (t : DE) : DOpt := fun δ A Q => t δ A fun d A1 => match d with
  | .int i => Q (some i) A1
  | _ => False
abbrev QO (X : Cx) (Z0 : Hp) (e : Option Expr) (t : DOpt) : Prop := PO X e (liftO X.K Z0 t)
theorem PO.imp {X : Cx} {e : Option Expr} {t u : TO} (h : PO X e t) (i : ∀ σ H Q, u σ H Q → t σ H Q) : PO X e u := ⟨fun pins s σ H Q I q => h.run pins s σ H Q I (i σ H Q q)⟩
theorem qo_none : QO X Z0 none oNone := PO.imp po_none fun σ H Q ⟨Z, δ, A, Kt, z, rs, ra, t, k⟩ => k Z none A H (Same.refl Z) ra t
theorem qo_some (h : QE X Z0 e ta) : QO X Z0 (some e) (oSome ta) := PO.imp (po_some h) fun σ H Q ⟨Z, δ, A, Kt, z, rs, ra, t, k⟩ =>
  ⟨Z, δ, A, _, z, rs, ra, t, fun Z1 d A1 v H1 s1 ra1 rv t1 => by
    cases d with
    | int i => exact ⟨i, rv_int rv, k Z1 _ A1 H1 s1 ra1 t1⟩
    | _ => exact t1.elim⟩
/-- the items lo .. hi -/
def cutD (l : List D) (lo hi : Option Int) : List D := (l.drop (HT.sIx l.length 0 lo)).take (HT.sIx l.length l.length hi - HT.sIx l.length 0 lo)
theorem cut_rvs {l : List D} {vs : List V} (r : RVs K Z l vs) (lo hi : Option Int) : RVs K Z (cutD l lo hi) (cutV vs lo hi) := by
  unfold cutD cutV
  rw [r.len]
  exact (r.drop _).take _
def opSl (mk : Mk) (x : D) (lo hi : Option Int) : AH → DK → Prop := fun A Q => match x with
  | .str z => Few z.length ∧ Q (.str (cutS z lo hi)) A
  | .tup l => Q (.tup (cutD l lo hi)) A
  | x => match asL A x with
    | some l => mk (cutD l lo hi) A Q
    | none => False
def eSl (mk : Mk) (t : DE) (lo hi : DOpt) : DE := fun δ A Q => t δ A fun x A1 => lo δ A1 fun l A2 => hi δ A2 fun h A3 => opSl mk x l h A3 Q
def rSlAll (K : PySem.W.Frag) : V → Option Int → Option Int → Hp → VK → Prop := fun x lo hi H Q => rSlS x lo hi H Q ∨ rSlA K x lo hi H Q ∨ rSlL K x lo hi H Q
theorem sl_all : SlR X (rSlAll X.K) := sl_str.or (sl_tupA.or sl_list)
theorem opSl_cases {mk : Mk} {x : D} {lo hi : Option Int} {A : AH} {Q : DK} (h : opSl mk x lo hi A Q) :
    (∃ z, x = .str z ∧ Few z.length ∧ Q (.str (cutS z lo hi)) A) ∨ (∃ l, x = .tup l ∧ Q (.tup (cutD l lo hi)) A) ∨ ∃ l, asL A x = some l ∧ mk (cutD l lo hi) A Q := by
  unfold opSl at h
  split at h
  · exact .inl ⟨_, rfl, h⟩
  · exact .inr (.inl ⟨_, rfl, h⟩)
  · split at h
    · rename_i l q
      exact .inr (.inr ⟨l, q, h⟩)
    · exact h.elim
theorem qe_sl {mk : Mk} (m : MkOk X.K mk) {tl th : DOpt} (he : QE X Z0 e ta) (hl : QO X Z0 lo tl) (hu : QO X Z0 hi th) : QE X Z0 (.Subscript e (.Slice lo hi none p2) pos) (eSl mk ta tl th) :=
  PE.imp (pe_slice sl_all he hl hu) fun σ H Q ⟨Z, δ, A, Kt, z, rs, ra, t, k⟩ => ⟨Z, δ, A, _, z, rs, ra, t, fun Z1 d A1 v H1 s1 ra1 rv t1 =>
    ⟨Z1, δ, A1, _, z.trans s1, rs.mono s1, ra1, t1, fun Z2 l A2 H2 s2 ra2 t2 => ⟨Z2, δ, A2, _, (z.trans s1).trans s2, (rs.mono s1).mono s2, ra2, t2, fun Z3 h A3 H3 s3 ra3 t3 => by
      have rx := (rv.mono s2).mono s3
      have k3 : Kont X.K Z3 Kt Q := Kont.mono k ((s1.trans s2).trans s3)
      rcases opSl_cases t3 with ⟨z, rfl, h1, t4⟩ | ⟨l', rfl, t4⟩ | ⟨l', h1, t4⟩
      · exact .inl ⟨z, rv_str rx, few_line h1, k3 Z3 _ A3 _ H3 (Same.refl _) ra3 mk_str t4⟩
      · obtain ⟨p, vs, e1, e2, e3⟩ := rv_tup rx
        refine .inr (.inl ⟨p, vs, e1, sqT_mono ra3.sub e2, fun hw => ?_, fun _ q hq => ?_⟩)
        · refine k3 Z3 _ A3 _ H3 (Same.refl _) ra3 (mk_tup e2 ?_) t4
          have hc : cutD l' l h = l' := by
            unfold cutD
            rw [← e3.len, hw.1, hw.2, List.drop_zero, Nat.sub_zero, e3.len, List.take_length]
          rw [hc]; exact e3
        · obtain ⟨s, R'⟩ := ra3.newF hq (.tup (cutV vs l h))
          exact k3 _ _ A3 _ _ s R' (mk_tup (SqT.of upd_same) ((cut_rvs e3 l h).mono s)) t4
      · obtain ⟨p, vs, e1, e2, e3⟩ := asL_ok ra3 rx h1
        exact .inr (.inr ⟨p, vs, e1, e2, m.ok ra3 (cut_rvs e3 l h) t4 k3⟩)⟩⟩⟩
end

/-! ### fields -/
theorem map_inj_toNat : ∀ {a b : List Char}, a.map Char.toNat = b.map Char.toNat → a = b
  | [], [], _ => rfl
  | [], _ :: _, h => by simp at h
  | _ :: _, [], h => by simp at h
  | c :: a, d :: b, h => by
    simp only [List.map_cons, List.cons.injEq] at h
    rw [Char.toNat_inj.mp h.1, map_inj_toNat h.2]
theorem ofString_inj {a b : String} (h : Str.ofString a = Str.ofString b) : a = b := by
  rw [Str.ofString_eq_toList, Str.ofString_eq_toList] at h
  have h2 : a.toList.map Char.toNat = b.toList.map Char.toNat := by
    have := congrArg (fun z : Str => z.cps.toList) h
    simpa using this
  have h3 : a.toList = b.toList := map_inj_toNat h2
  exact String.toList_inj.mp h3
theorem look_ok {f : String} : ∀ {fs : List (String × D)} {us : List (Str × V)}, us.map (·.1) = fs.map (fun p => Str.ofString p.1) → RVs K Z (fs.map (·.2)) (us.map (·.2)) →
    (fs.lookup f = none ∧ us.lookup (Str.ofString f) = none) ∨ ∃ d v, fs.lookup f = some d ∧ us.lookup (Str.ofString f) = some v ∧ RV K Z d v
  | [], us, e, _ => by
    have : us = [] := by simpa using e
    subst this; exact .inl ⟨rfl, rfl⟩
  | (k1, d) :: kvs, [], e, _ => by simp at e
  | (k1, d) :: kvs, (k2, v) :: us, e, r => by
    simp only [List.map_cons, List.cons.injEq] at e
    obtain ⟨e1, e2⟩ := e
    have e1 : k2 = Str.ofString k1 := e1
    subst e1
    obtain ⟨v', u', hv, r1, r2⟩ := RVs.inv (show RVs K Z (d :: kvs.map (·.2)) (v :: us.map (·.2)) from r)
    obtain ⟨rfl, rfl⟩ := List.cons.inj hv
    by_cases hk : f = k1
    · subst hk
      refine .inr ⟨d, v, ?_, ?_, r1⟩
      · simp [List.lookup]
      · simp [List.lookup]
    · have ih := look_ok (f := f) e2 r2
      have hk2 : (Str.ofString f == Str.ofString k1) = false := beq_eq_false_iff_ne.mpr fun z => hk (ofString_inj z)
      have h1 : ((k1, d) :: kvs).lookup f = kvs.lookup f := by simp [List.lookup, beq_eq_false_iff_ne.mpr hk]
      have h2 : ((Str.ofString k1, v) :: us).lookup (Str.ofString f) = us.lookup (Str.ofString f) := by simp [List.lookup, hk2]
      rw [h1, h2]
      exact ih
/-- a class whose field f is plain -/
structure FldOk (K : PySem.W.Frag) (c f : String) : Prop where
  cls : Cls K (He.ga K (Str.ofString c))
  no : NoAttr K (He.ga K (Str.ofString c)) (Str.ofString f)
def eFld (cs : List String) (f : String) (t : DE) : DE := fun δ A Q => t δ A fun d A1 => match asObj A1 d with
  | some (c, fs) => c ∈ cs ∧ (match lookS f fs with
    | some d => Q d A1
    | none => False)
  | none => False
section
variable {a b e o : Expr} {es : List Expr} {pos p2 : Pos} {ta tb : DE} {cs : List String} {f : String}
theorem qe_fld (hf : ∀ c ∈ cs, FldOk X.K c f) (he : QE X Z0 e ta) (hb : attributeBase e (Str.ofString f) X.env (eval e X.env) = eval e X.env) : QE X Z0 (.Attribute e (Str.ofString f) pos) (eFld cs f ta) :=
  PE.imp (pe_fld he hb) fun σ H Q ⟨Z, δ, A, Kt, z, rs, ra, t, k⟩ => ⟨Z, δ, A, _, z, rs, ra, t, fun Z1 d A1 v H1 s1 ra1 rv t1 => by
    split at t1
    · rename_i c fs q
      obtain ⟨hc, t1⟩ := t1
      obtain ⟨p, dx, us, e1, e2, e3, e4⟩ := asObj_ok ra1 rv q
      split at t1
      · rename_i d' q2
        rw [lookS_eq] at q2
        rcases look_ok (f := f) e3 e4 with ⟨h1, _⟩ | ⟨d2, v2, h1, h2, h3⟩
        · rw [q2] at h1; cases h1
        · rw [q2] at h1; cases h1
          exact ⟨p, _, dx, us, v2, e1, e2, (hf c hc).cls, (hf c hc).no, h2, k Z1 _ A1 _ H1 s1 ra1 h3 t1⟩
      · exact t1.elim
    · exact t1.elim⟩

/-! ### built-in functions -/
abbrev DCall := List D → AH → DK → Prop
def LiftCall (K : PySem.W.Frag) (rd : DCall) (r : List V → Hp → VK → Prop) : Prop := ∀ (Z : Hp) (A : AH) (H : Hp) (ds : List D) (vs : List V) (Kt : DK) (Q : VK), RA K Z A H → RVs K Z ds vs → rd ds A Kt → Kont K Z Kt Q → r vs H Q
def eCB (rd : DCall) (t : DA) : DE := fun δ A Q => t δ A fun ds A1 => rd ds A1 Q
theorem lift_cb {rd : DCall} {r : List V → Hp → VK → Prop} {t : DA} {σ : L2.St} {H : Hp} {Q : VK} (l : LiftCall K rd r) (h : liftE K Z0 (eCB rd t) σ H Q) : tCB r (liftA K Z0 t) σ H Q := by
  obtain ⟨Z, δ, A, Kt, z, rs, ra, t, k⟩ := h
  exact ⟨Z, δ, A, _, z, rs, ra, t, fun Z1 ds A1 vs H1 s1 ra1 rv t1 => l Z1 A1 H1 ds vs Kt Q ra1 rv t1 (Kont.mono k s1)⟩
variable {x : Str} {id T : String} {rd : DCall} {r : List V → Hp → VK → Prop} {t : DA} {p : Pos}
theorem qe_callB (l : LiftCall X.K rd r) (hc : CallR X (.builtin id) r) (hg : Gl X x) (hm : X.mg x = none) (hv : bootBuiltins x = some (.builtin id)) (ha : QA X Z0 (e :: es) t) (hn : x ≠ "__name__" := by decide) (hdb : (x == ("__debug__" : Str)) = false := by decide)
    (he : starEach (e :: es) X.env = (false, eval e X.env) :: starEach es X.env := by rfl) (hpl : (backTo pos (starEach es X.env)).any (·.1) = false := by rfl) : QE X Z0 (.Call (.Name x p) (e :: es) [] pos) (eCB rd t) :=
  PE.imp (pe_callB hc hg hm hv ha hn hdb he hpl) fun σ H Q h => lift_cb l h
theorem qe_callTy (l : LiftCall X.K rd r) (hc : CallR X (.type T) r) (hg : Gl X x) (hm : X.mg x = none) (hv : bootBuiltins x = some (.type T)) (ha : QA X Z0 (e :: es) t) (hn : x ≠ "__name__" := by decide) (hdb : (x == ("__debug__" : Str)) = false := by decide)
    (he : starEach (e :: es) X.env = (false, eval e X.env) :: starEach es X.env := by rfl) (hpl : (backTo pos (starEach es X.env)).any (·.1) = false := by rfl) : QE X Z0 (.Call (.Name x p) (e :: es) [] pos) (eCB rd t) :=
  PE.imp (pe_callTy hc hg hm hv ha hn hdb he hpl) fun σ H Q h => lift_cb l h
end
theorem CallR.or {f : Value} {r r' : List V → Hp → VK → Prop} (h : CallR X f r) (h' : CallR X f r') : CallR X f (fun xs H Q => r xs H Q ∨ r' xs H Q) := by
  intro pins s σ H xs us Q I rx q
  rcases q with q | q
  · exact h pins s σ H xs us Q I rx q
  · exact h' pins s σ H xs us Q I rx q
theorem RVs.one {d : D} {vs : List V} (h : RVs K Z [d] vs) : ∃ v, vs = [v] ∧ RV K Z d v := by
  obtain ⟨v, r, rfl, h1, h2⟩ := h.inv
  rw [h2.inv0]
  exact ⟨v, rfl, h1⟩
theorem RVs.two {d e : D} {vs : List V} (h : RVs K Z [d, e] vs) : ∃ v u, vs = [v, u] ∧ RV K Z d v ∧ RV K Z e u := by
  obtain ⟨v, r, rfl, h1, h2⟩ := h.inv
  obtain ⟨u, rfl, h3⟩ := h2.one
  exact ⟨v, u, rfl, h1, h3⟩
def bAbs : DCall := fun ds A Q => match ds with
  | [.int i] => Q (.int i.natAbs) A
  | _ => False
theorem lift_abs : LiftCall K bAbs (fun xs H Q => ∃ i, xs = [.int i] ∧ Q (.int (if i < 0 then -i else i)) H) := fun Z A H ds vs Kt Q R r h k => by
  unfold bAbs at h
  split at h
  · rename_i i
    obtain ⟨v, rfl, rv⟩ := r.one
    refine ⟨i, by rw [rv_int rv], ?_⟩
    have e : (if i < 0 then -i else i) = (i.natAbs : Int) := by split <;> omega
    rw [e]
    exact k Z _ A _ H (Same.refl Z) R mk_int h
  · exact h.elim
def bMin : DCall := fun ds A Q => match ds with
  | [.int i, .int j] => Q (.int (if j < i then j else i)) A
  | _ => False
theorem lift_min : LiftCall K bMin (fun xs H Q => ∃ i j, xs = [.int i, .int j] ∧ Q (.int (if j < i then j else i)) H) := fun Z A H ds vs Kt Q R r h k => by
  unfold bMin at h
  split at h
  · obtain ⟨v, u, rfl, r1, r2⟩ := r.two
    exact ⟨_, _, by rw [rv_int r1, rv_int r2], k Z _ A _ H (Same.refl Z) R mk_int h⟩
  · exact h.elim
def bLen : DCall := fun ds A Q => match ds with
  | [.str s] => Few s.length ∧ Q (.int s.length) A
  | [d] => (match asS A d with
    | some l => Q (.int l.length) A
    | none => match asDic A d with
      | some kvs => Q (.int kvs.length) A
      | none => False)
  | _ => False
theorem lift_len : LiftCall K bLen (fun xs H Q => (∃ x n, xs = [x] ∧ LenV K x H n ∧ Q (.int n) H) ∨ ∃ a kvs, xs = [.ref a] ∧ H a = some (.dK kvs) ∧ Q (.int kvs.length) H) := fun Z A H ds vs Kt Q R r h k => by
  unfold bLen at h
  split at h
  · obtain ⟨v, rfl, rv⟩ := r.one
    exact .inl ⟨.str _, _, by rw [rv_str rv], ⟨few_line h.1, rfl⟩, k Z _ A _ H (Same.refl Z) R mk_int h.2⟩
  · obtain ⟨v, rfl, rv⟩ := r.one
    split at h
    · rename_i l q
      obtain ⟨p, us, e1, e2, e3⟩ := asS_ok R rv q
      refine .inl ⟨.ref p, us.length, by rw [e1], ?_, ?_⟩
      · rcases e2 with e2 | e2
        · exact .inl ⟨us, e2, rfl⟩
        · exact .inr ⟨us, e2, rfl⟩
      · rw [e3.len]; exact k Z _ A _ H (Same.refl Z) R mk_int h
    · split at h
      · rename_i kvs q
        obtain ⟨p, us, e1, e2, e3, e4⟩ := asDic_ok R rv q
        refine .inr ⟨p, us, by rw [e1], e2, ?_⟩
        have : us.length = kvs.length := by have := congrArg List.length e3; simpa using this
        rw [this]; exact k Z _ A _ H (Same.refl Z) R mk_int h
      · exact h.elim
  · exact h.elim
theorem call_lenAll : CallR X (.builtin "len") (fun xs H Q => (∃ x n, xs = [x] ∧ LenV X.K x H n ∧ Q (.int n) H) ∨ ∃ a kvs, xs = [.ref a] ∧ H a = some (.dK kvs) ∧ Q (.int kvs.length) H) := by
  refine CallR.or call_len ?_
  intro pins s σ H xs us Q I r h
  obtain ⟨a, kvs, rfl, hk, q⟩ := h
  obtain ⟨u, rfl, rx⟩ := vals1 r
  obtain rfl : u = Value.ref a := rx
  exact d_len I (.inl hk) fun t s' I' => ⟨.int kvs.length, H, I', ⟨t, rfl⟩, q⟩
/-- the text of a number -/
def numStr (i : Int) : Str := Str.ofString (toString i)
def bStr : DCall := fun ds A Q => match ds with
  | [.int i] => i.natAbs < 2 ^ 1900 ∧ Q (.str (numStr i)) A
  | _ => False
def keyD : Key → D
  | .inl i => .int i
  | .inr x => .str x
def bList (mk : Mk) : DCall := fun ds A Q => match ds with
  | [d] => (match asS A d with
    | some l => mk l A Q
    | none => match asDic A d with
      | some kvs => mk (kvs.map fun kv => keyD kv.1) A Q
      | none => False)
  | _ => False
theorem rvs_keys : ∀ (us : List (Key × V)), RVs K Z (us.map fun kv => keyD kv.1) (us.map fun kv => kV kv.1)
  | [] => RVs.nil
  | (k, v) :: us => RVs.cons (by cases k with
      | inl i => exact mk_int
      | inr x => exact mk_str) (rvs_keys us)
theorem lift_list {mk : Mk} (m : MkOk K mk) : LiftCall K (bList mk) (fun xs H Q => (∃ p ys, xs = [.ref p] ∧ (SqL K H p ys ∨ SqT K H p ys) ∧ ∀ l, H l = none → Q (.ref l) (upd H l (.lst ys))) ∨
    ∃ a kvs, xs = [.ref a] ∧ Rd H a (.dK kvs) ∧ ∀ p, H p = none → Q (.ref p) (upd H p (.lst (kvs.map fun kv => kV kv.1)))) := fun Z A H ds vs Kt Q R r h k => by
  unfold bList at h
  split at h
  · obtain ⟨v, rfl, rv⟩ := r.one
    split at h
    · rename_i l q
      obtain ⟨p, us, e1, e2, e3⟩ := asS_ok R rv q
      exact .inl ⟨p, us, by rw [e1], e2, m.ok R e3 h k⟩
    · split at h
      · rename_i kvs q
        obtain ⟨p, us, e1, e2, e3, e4⟩ := asDic_ok R rv q
        refine .inr ⟨p, us, by rw [e1], .inl e2, m.ok R ?_ h k⟩
        have e5 : (kvs.map fun kv => keyD kv.1) = us.map fun kv => keyD kv.1 := by
          have h1 : (kvs.map fun kv => keyD kv.1) = (kvs.map (·.1)).map keyD := by rw [List.map_map]; rfl
          rw [h1, ← e3, List.map_map]; rfl
        rw [e5]
        exact rvs_keys us
      · exact h.elim
  · exact h.elim
theorem call_listAll (hc : X.calm = true) : CallR X (.type "list") (fun xs H Q => (∃ p ys, xs = [.ref p] ∧ (SqL X.K H p ys ∨ SqT X.K H p ys) ∧ ∀ l, H l = none → Q (.ref l) (upd H l (.lst ys))) ∨
    ∃ a kvs, xs = [.ref a] ∧ Rd H a (.dK kvs) ∧ ∀ p, H p = none → Q (.ref p) (upd H p (.lst (kvs.map fun kv => kV kv.1)))) := CallR.or call_list_of (call_listD hc)
end DL


/-! DL4: statements, loops, calls of the text's own defs. -/
namespace DL
open PySem PySem.Spec PyProof.Rows L2
variable {K : PySem.W.Frag} {Z Z' Z0 : Hp} {X : Cx}

/-! ### blocks -/
section
variable {st : Stmt} {rest a b : List Stmt} {t u : DS} {e c : Expr} {te : DE} {tc : DT} {pos : Pos}
def sNext : DS := fun D δ A => D.nx δ A
def sSeq (t u : DS) : DS := fun D δ A => t { D with nx := u D } δ A
def sBreak : DS := fun D δ A => D.bk δ A
def sCont : DS := fun D δ A => D.ct δ A
def sDrop (te : DE) : DS := fun D δ A => te δ A fun _ A1 => D.nx δ A1
def sRet (te : DE) : DS := fun D δ A => te δ A D.rt
def sRetN : DS := fun D _ A => D.rt .non A
def sIf (c : DT) (t u : DS) : DS := fun D δ A => c δ A fun b A1 => (b = true → t D δ A1) ∧ (b = false → u D δ A1)
theorem lift_next {D : Ends} {σ : L2.St} {H : Hp} (h : liftS K Z0 sNext D σ H) : D.nx σ H := by
  obtain ⟨Z, δ, A, DD, z, rs, ra, t, re⟩ := h
  exact re.nx Z δ A σ H (Same.refl Z) rs ra t
theorem qss_nil : QSs X Z0 [] sNext := PSs.imp pss_nil fun D σ H h => lift_next h
theorem qss_cons (h1 : QS X Z0 st t) (h2 : QSs X Z0 rest u) : QSs X Z0 (st :: rest) (sSeq t u) := PSs.imp (pss_cons h1 h2) fun D σ H ⟨Z, δ, A, DD, z, rs, ra, t, re⟩ =>
  ⟨Z, δ, A, { DD with nx := u DD }, z, rs, ra, t, ⟨fun Z1 δ1 A1 σ1 H1 s1 rs1 ra1 t1 => ⟨Z1, δ1, A1, DD, z.trans s1, rs1, ra1, t1, re.mono s1⟩, re.rt, re.bk, re.ct⟩⟩
theorem qss_one (h1 : QS X Z0 st t) : QSs X Z0 [st] t := PSs.imp (pss_one h1) fun D σ H h => h
theorem qs_expr (he : QE X Z0 e te) (hs : swapsWith e none pos.line X.env = pure false := by rfl) : QS X Z0 (.Expr e pos) (sDrop te) := PS.imp (ps_expr he hs) fun D σ H ⟨Z, δ, A, DD, z, rs, ra, t, re⟩ =>
  ⟨Z, δ, A, _, z, rs, ra, t, fun Z1 d A1 v H1 s1 ra1 rv t1 => re.nx Z1 δ A1 σ H1 s1 (rs.mono s1) ra1 t1⟩
theorem qs_ret (he : QE X Z0 e te) : QS X Z0 (.Return (some e) pos) (sRet te) := PS.imp (ps_ret he) fun D σ H ⟨Z, δ, A, DD, z, rs, ra, t, re⟩ =>
  ⟨Z, δ, A, _, z, rs, ra, t, fun Z1 d A1 v H1 s1 ra1 rv t1 => re.rt Z1 d A1 v H1 s1 ra1 rv t1⟩
theorem qs_if (hc : QT X Z0 c tc) (ha : QSs X Z0 a t) (hb : QSs X Z0 b u) : QS X Z0 (.If c a b pos) (sIf tc t u) := PS.imp (ps_if hc ha hb) fun D σ H ⟨Z, δ, A, DD, z, rs, ra, t, re⟩ =>
  ⟨Z, δ, A, _, z, rs, ra, t, fun Z1 k A1 H1 s1 ra1 t1 => by
    cases k with
    | true => exact iteT ⟨Z1, δ, A1, DD, z.trans s1, rs.mono s1, ra1, t1.1 rfl, re.mono s1⟩
    | false => exact iteF ⟨Z1, δ, A1, DD, z.trans s1, rs.mono s1, ra1, t1.2 rfl, re.mono s1⟩⟩
end

/-! ### targets -/
abbrev DG := D → DSt → AH → (DSt → AH → Prop) → Prop
abbrev DGs := List D → DSt → AH → (DSt → AH → Prop) → Prop
def liftG (K : PySem.W.Frag) (Z0 : Hp) (g : DG) : TG := fun v σ H Q => ∃ Z d δ A Kt, Same Z0 Z ∧ RV K Z d v ∧ RS K Z δ σ ∧ RA K Z A H ∧ g d δ A Kt ∧
  ∀ Z' δ' A' σ' H', Same Z Z' → RS K Z' δ' σ' → RA K Z' A' H' → Kt δ' A' → Q σ' H'
def liftGs (K : PySem.W.Frag) (Z0 : Hp) (g : DGs) : TGs := fun vs σ H Q => ∃ Z ds δ A Kt, Same Z0 Z ∧ RVs K Z ds vs ∧ RS K Z δ σ ∧ RA K Z A H ∧ g ds δ A Kt ∧
  ∀ Z' δ' A' σ' H', Same Z Z' → RS K Z' δ' σ' → RA K Z' A' H' → Kt δ' A' → Q σ' H'
abbrev QG (X : Cx) (Z0 : Hp) (e : Expr) (g : DG) : Prop := PG X e (liftG X.K Z0 g)
abbrev QGs (X : Cx) (Z0 : Hp) (e : List Expr) (g : DGs) : Prop := PGs X e (liftGs X.K Z0 g)
theorem PG.imp {e : Expr} {t u : TG} (h : PG X e t) (i : ∀ v σ H Q, u v σ H Q → t v σ H Q) : PG X e u := ⟨fun pins s σ H v w Q I r q => h.run pins s σ H v w Q I r (i v σ H Q q)⟩
theorem PG.or {e : Expr} {t u : TG} (h : PG X e t) (h' : PG X e u) : PG X e (fun v σ H Q => t v σ H Q ∨ u v σ H Q) := ⟨fun pins s σ H v w Q I r q => q.elim (h.run pins s σ H v w Q I r) (h'.run pins s σ H v w Q I r)⟩
theorem PGs.imp {e : List Expr} {t u : TGs} (h : PGs X e t) (i : ∀ v σ H Q, u v σ H Q → t v σ H Q) : PGs X e u := ⟨fun pins s σ H v w Q I r q => h.run pins s σ H v w Q I r (i v σ H Q q)⟩
def dgName (i : Nat) : DG := fun d δ A Q => Q (δ.set i (some d)) A
def dgNil : DGs := fun ds δ A Q => match ds with
  | [] => Q δ A
  | _ => False
def dgCons (g : DG) (gs : DGs) : DGs := fun ds δ A Q => match ds with
  | d :: r => g d δ A fun δ1 A1 => gs r δ1 A1 Q
  | [] => False
def dgTup (n : Nat) (gs : DGs) : DG := fun d δ A Q => match asS A d with
  | some l => l.length = n ∧ gs l δ A Q
  | none => False
section
variable {e : Expr} {es : List Expr} {g : DG} {gs : DGs} {pos : Pos} {k : Nat}
theorem qg_name {i : Nat} {x : Str} (hN : X.N.Nodup) (hi : X.N[i]? = some x) (hx : Loc X.env.scope x) (hf : X.fn x = true ∨ X.env.scope.names.lookup x = some .local := by first | exact .inl rfl | exact .inr rfl | assumption) : QG X Z0 (.Name x pos) (dgName i) :=
  PG.imp (pg_name hN hi hx hf) fun v σ H Q ⟨Z, d, δ, A, Kt, z, rv, rs, ra, t, k⟩ => k Z _ A _ H (Same.refl Z) (rs.set i (a := some d) (b := some v) rv) ra t
theorem qgs_nil : QGs X Z0 [] dgNil := PGs.imp pgs_nil fun vs σ H Q ⟨Z, ds, δ, A, Kt, z, rv, rs, ra, t, k⟩ => by
  unfold dgNil at t
  split at t
  · exact ⟨rv.inv0, k Z δ A σ H (Same.refl Z) rs ra t⟩
  · exact t.elim
theorem qgs_cons (h1 : QG X Z0 e g) (h2 : QGs X Z0 es gs) (hs : (assignEach (e :: es) X.env).map (·.2) = assign e X.env :: (assignEach es X.env).map (·.2) := by rfl) : QGs X Z0 (e :: es) (dgCons g gs) :=
  PGs.imp (pgs_cons h1 h2 hs) fun vs σ H Q ⟨Z, ds, δ, A, Kt, z, rv, rs, ra, t, k⟩ => by
  unfold dgCons at t
  split at t
  · obtain ⟨v, r, e1, r1, r2⟩ := rv.inv
    exact ⟨v, r, e1, Z, _, δ, A, _, z, r1, rs, ra, t, fun Z1 δ1 A1 σ1 H1 s1 rs1 ra1 t1 => ⟨Z1, _, δ1, A1, Kt, z.trans s1, r2.mono s1, rs1, ra1, t1, fun Z2 δ2 A2 σ2 H2 s2 => k Z2 δ2 A2 σ2 H2 (s1.trans s2)⟩⟩
  · exact t.elim
theorem qg_tup {n : Nat} (hc : X.calm = true) (h : QGs X Z0 es gs) (hn : (assignEach es X.env).length = n := by rfl) (hst : (assignEach es X.env).findIdx? (·.1) = none := by rfl) : QG X Z0 (.Tuple es k pos) (dgTup n gs) :=
  PG.imp (PG.or (pg_tup hc h hn hst) (pg_lst hc h hn hst)) fun v σ H Q ⟨Z, d, δ, A, Kt, z, rv, rs, ra, t, k⟩ => by
  unfold dgTup at t
  split at t
  · rename_i l q
    obtain ⟨p, vs, e1, e2, e3⟩ := asS_ok ra rv q
    have hl : vs.length = n := by rw [e3.len]; exact t.1
    have fin : liftGs X.K Z0 gs vs σ H Q := ⟨Z, l, δ, A, Kt, z, e3, rs, ra, t.2, k⟩
    rcases e2 with e2 | e2
    · exact .inr ⟨p, vs, e1, e2, hl, fin⟩
    · exact .inl ⟨p, vs, e1, e2, hl, fin⟩
  · exact t.elim
end

/-! ### stores -/
section
variable {e tg o : Expr} {te to : DE} {g : DG} {pos pos' : Pos}
def sAsg (te : DE) (g : DG) : DS := fun D δ A => te δ A fun d A1 => g d δ A1 D.nx
theorem lift_asg {D : Ends} {σ : L2.St} {H : Hp} (h : liftS K Z0 (sAsg te g) D σ H) : tAsg (liftE K Z0 te) (liftG K Z0 g) D σ H := by
  obtain ⟨Z, δ, A, DD, z, rs, ra, t, re⟩ := h
  exact ⟨Z, δ, A, _, z, rs, ra, t, fun Z1 d A1 v H1 s1 ra1 rv t1 => ⟨Z1, d, δ, A1, DD.nx, z.trans s1, rv, rs.mono s1, ra1, t1, fun Z2 δ2 A2 σ2 H2 s2 => re.nx Z2 δ2 A2 σ2 H2 (s1.trans s2)⟩⟩
theorem qs_asg (he : QE X Z0 e te) (hg : QG X Z0 tg g) (hs : swapsWithSole [tg] e pos.line X.env = pure false := by rfl) (hw : swappedStores [tg] e X.env = pure none := by rfl) (h1 : (assignEach [tg] X.env).map (·.2) = [assign tg X.env] := by rfl) :
    QS X Z0 (.Assign [tg] e pos) (sAsg te g) := PS.imp (ps_asg he hg hs hw h1) fun D σ H h => lift_asg h
theorem qs_set {i : Nat} {x : Str} (hN : X.N.Nodup) (hi : X.N[i]? = some x) (hx : Loc X.env.scope x) (he : QE X Z0 e te) (hs : swapsWith e (some (.Name x pos')) pos.line X.env = pure false := by rfl)
    (hf : X.fn x = true ∨ X.env.scope.names.lookup x = some .local := by first | exact .inl rfl | exact .inr rfl | assumption) : QS X Z0 (.Assign [.Name x pos'] e pos) (sAsg te (dgName i)) :=
  PS.imp (ps_set hN hi hx he hs hf) fun D σ H ⟨Z, δ, A, DD, z, rs, ra, t, re⟩ =>
    ⟨Z, δ, A, _, z, rs, ra, t, fun Z1 d A1 v H1 s1 ra1 rv t1 => re.nx Z1 _ A1 _ H1 s1 ((rs.mono s1).set i (a := some d) (b := some v) rv) ra1 t1⟩
/-- a, b = x, y -/
def sPar (i j : Nat) (ta : DA) : DS := fun D δ A => ta δ A fun ds A1 => match ds with
  | [d, e] => D.nx ((δ.set i (some d)).set j (some e)) A1
  | _ => False
theorem qs_par {i j : Nat} {x y : Str} {a b : Expr} {ta : DA} {px py pt : Pos} {kt k2 pt2} (hc : X.calm = true) (hN : X.N.Nodup) (hi : X.N[i]? = some x) (hj : X.N[j]? = some y) (hij : i ≠ j)
    (hx : X.env.scope.names.lookup x = some .local) (hy : X.env.scope.names.lookup y = some .local) (ha : QA X Z0 [a, b] ta)
    (hw : swappedStores [.Tuple [.Name x px, .Name y py] kt pt] (.Tuple [a, b] k2 pt2) X.env = pure (some [x, y]))
    (hs : swapsWithSole [.Tuple [.Name x px, .Name y py] kt pt] (.Tuple [a, b] k2 pt2) pos.line X.env = pure false := by rfl) :
    QS X Z0 (.Assign [.Tuple [.Name x px, .Name y py] kt pt] (.Tuple [a, b] k2 pt2) pos) (sPar i j ta) := PS.imp (ps_par hc hN hi hj hij hx hy ha hw hs) fun D σ H ⟨Z, δ, A, DD, z, rs, ra, t, re⟩ =>
  ⟨Z, δ, A, _, z, rs, ra, t, fun Z1 ds A1 vs H1 s1 ra1 rv t1 => by
    split at t1
    · obtain ⟨v, u, rfl, r1, r2⟩ := rv.two
      exact ⟨v, u, rfl, re.nx Z1 _ A1 _ H1 s1 (((rs.mono s1).set i (a := some _) (b := some v) r1).set j (a := some _) (b := some u) r2) ra1 t1⟩
    · exact t1.elim⟩
end

/-! ### while -/
def whileN (c : DT) (body : DS) (D : DEnds) : Nat → DSt → AH → Prop
  | 0, _, _ => False
  | n + 1, δ, A => c δ A fun b A1 => (b = true → body { D with nx := whileN c body D n, ct := whileN c body D n, bk := D.nx } δ A1) ∧ (b = false → D.nx δ A1)
def sWhile (c : DT) (body : DS) : DS := fun D δ A => ∃ n, whileN c body D n δ A
theorem qs_while {c : Expr} {body : List Stmt} {tc : DT} {tb : DS} {pos : Pos} (hp : PassesOwn (model X.prog X.w) X.A X.env X.xe) (hc : QT X Z0 c tc) (hb : QSs X Z0 body tb) : QS X Z0 (.While c body [] pos) (sWhile tc tb) :=
  PS.imp (ps_while hp hc hb) fun D σ H ⟨Z, δ, A, DD, z, rs, ra, ⟨n, t⟩, re⟩ => by
  refine ⟨fun m σ H => ∃ Z1 δ A, Same Z Z1 ∧ RS X.K Z1 δ σ ∧ RA X.K Z1 A H ∧ whileN tc tb DD m δ A, ⟨n, Z, δ, A, Same.refl Z, rs, ra, t⟩, fun m σ H ⟨Z1, δ, A, s1, rs, ra, t⟩ => ?_⟩
  cases m with
  | zero => exact t.elim
  | succ m =>
    refine ⟨Z1, δ, A, _, z.trans s1, rs, ra, t, fun Z2 b A2 H2 s2 ra2 t2 => ?_⟩
    cases b with
    | true =>
      refine iteT ⟨fun σ' H' => ∃ Z3 δ A, Same Z Z3 ∧ RS X.K Z3 δ σ' ∧ RA X.K Z3 A H' ∧ whileN tc tb DD m δ A, fun σ' H' q => ⟨m, Nat.lt_succ_self m, q⟩, ?_⟩
      have re2 := re.mono (s1.trans s2)
      have nx : ∀ Z' δ A σ H, Same Z2 Z' → RS X.K Z' δ σ → RA X.K Z' A H → whileN tc tb DD m δ A → ∃ Z3 δ A, Same Z Z3 ∧ RS X.K Z3 δ σ ∧ RA X.K Z3 A H ∧ whileN tc tb DD m δ A :=
        fun Z3 δ3 A3 σ3 H3 s3 rs3 ra3 t3 => ⟨Z3, δ3, A3, (s1.trans s2).trans s3, rs3, ra3, t3⟩
      exact ⟨Z2, δ, A2, _, (z.trans s1).trans s2, rs.mono s2, ra2, t2.1 rfl, ⟨nx, re2.rt, re2.nx, nx⟩⟩
    | false => exact iteF (re.nx Z2 δ A2 σ H2 (s1.trans s2) (rs.mono s2) ra2 (t2.2 rfl))

/-! ### what a for walks -/
/-- the items, and what must hold of the objects at each turn -/
abbrev DI := DSt → AH → (List D → (AH → Prop) → AH → Prop) → Prop
structure WalkD (K : PySem.W.Frag) (Z : Hp) (J : It) (l : List D) (g : AH → Prop) : Prop where
  ex : ∃ (G : Hp → Prop) (Y : Nat → Hp → V → Hp → Prop), Walk J l.length G Y ∧ (∀ Z' A H, Same Z Z' → RA K Z' A H → g A → G H) ∧
    ∀ i Z' A H x H', i < l.length → Same Z Z' → RA K Z' A H → g A → Y i H x H' → ∃ Z2 d, Same Z' Z2 ∧ RA K Z2 A H' ∧ l[i]? = some d ∧ RV K Z2 d x
def liftI (K : PySem.W.Frag) (Z0 : Hp) (it : DI) : TI := fun σ H R => ∃ Z δ A Kt, Same Z0 Z ∧ RS K Z δ σ ∧ RA K Z A H ∧ it δ A Kt ∧
  ∀ Z' l g A' J H', Same Z Z' → RA K Z' A' H' → WalkD K Z' J l g → Kt l g A' → R J H'
abbrev QI (X : Cx) (Z0 : Hp) (tg e : Expr) (it : DI) : Prop := PI X tg e (liftI X.K Z0 it)
theorem PI.imp {tg e : Expr} {t u : TI} (h : PI X tg e t) (i : ∀ σ H R, u σ H R → t σ H R) : PI X tg e u := ⟨fun pins s σ H R I q => h.run pins s σ H R I (i σ H R q)⟩
theorem PI.or {tg e : Expr} {t u : TI} (h : PI X tg e t) (h' : PI X tg e u) : PI X tg e (fun σ H R => t σ H R ∨ u σ H R) := ⟨fun pins s σ H R I q => q.elim (h.run pins s σ H R I) (h'.run pins s σ H R I)⟩
def forD (g : AH → Prop) (tg : DG) (body : DS) (DD : DEnds) : List D → DSt → AH → Prop
  | [], δ, A => g A ∧ DD.nx δ A
  | x :: l, δ, A => g A ∧ tg x δ A fun δ1 A1 => body { DD with nx := forD g tg body DD l, ct := forD g tg body DD l, bk := DD.nx } δ1 A1
def sFor (it : DI) (tg : DG) (body : DS) : DS := fun D δ A => it δ A fun l g A1 => forD g tg body D l δ A1
theorem qs_for {tg iter : Expr} {body : List Stmt} {it : DI} {g : DG} {tb : DS} {pos : Pos} (hp : PassesOwn (model X.prog X.w) X.A X.env X.xe) (hc : X.calm = true) (hi : QI X Z0 tg iter it) (hg : QG X Z0 tg g) (hb : QSs X Z0 body tb)
    (hs : ∀ x, foldedSetIterable iter X.env x = pure x := by intro _; rfl) : QS X Z0 (.For tg iter body [] pos) (sFor it g tb) :=
  PS.imp (ps_for hp hc hi hg hb hs) fun D σ H ⟨Z, δ, A, DD, z, rs, ra, t, re⟩ => by
  refine ⟨Z, δ, A, _, z, rs, ra, t, fun Z1 l gd A1 J H1 s1 ra1 w t1 => ?_⟩
  obtain ⟨G, Y, wk, hG, hY⟩ := w.ex
  refine ⟨fun i m σ H => m = l.length - i ∧ i ≤ l.length ∧ ∃ Z2 δ2 A2, Same Z1 Z2 ∧ RS X.K Z2 δ2 σ ∧ RA X.K Z2 A2 H ∧ forD gd g tb DD (l.drop i) δ2 A2,
    ⟨l.length, by omega, Nat.zero_le _, Z1, δ, A1, Same.refl Z1, rs.mono s1, ra1, t1⟩, fun i m σ H ⟨em, hi, Z2, δ2, A2, s2, rs2, ra2, t2⟩ => ?_⟩
  by_cases hlt : i < l.length
  · have ed : l.drop i = l[i] :: l.drop (i + 1) := List.drop_eq_getElem_cons hlt
    rw [ed] at t2
    obtain ⟨tg2, t2⟩ := t2
    have nx : ∀ (σ' : L2.St) (H' : Hp), (∃ Z2 δ2 A2, Same Z1 Z2 ∧ RS X.K Z2 δ2 σ' ∧ RA X.K Z2 A2 H' ∧ forD gd g tb DD (l.drop (i + 1)) δ2 A2) → ∃ m', m' < m ∧ m' = l.length - (i + 1) ∧ i + 1 ≤ l.length ∧ ∃ Z2 δ2 A2, Same Z1 Z2 ∧ RS X.K Z2 δ2 σ' ∧ RA X.K Z2 A2 H' ∧ forD gd g tb DD (l.drop (i + 1)) δ2 A2 :=
      fun σ' H' q => ⟨l.length - (i + 1), by omega, rfl, hlt, q⟩
    refine .inr ⟨wk.goes i H hlt (hG Z2 A2 H s2 ra2 tg2), _, nx, fun x H' hy => ?_⟩
    obtain ⟨Z3, d, s3, ra3, hd, rv⟩ := hY i Z2 A2 H x H' hlt s2 ra2 tg2 (wk.yields i H x H' hlt (hG Z2 A2 H s2 ra2 tg2) hy)
    have ed2 : l[i] = d := by rw [List.getElem?_eq_getElem hlt] at hd; exact Option.some.inj hd
    rw [ed2] at t2
    refine ⟨Z3, d, δ2, A2, _, ((z.trans s1).trans s2).trans s3, rv, rs2.mono s3, ra3, t2, fun Z4 δ4 A4 σ4 H4 s4 rs4 ra4 t4 => ?_⟩
    have s14 : Same Z1 Z4 := (s2.trans s3).trans s4
    have re4 := re.mono (s1.trans s14)
    have again : ∀ Z' δ A σ H, Same Z4 Z' → RS X.K Z' δ σ → RA X.K Z' A H → forD gd g tb DD (l.drop (i + 1)) δ A → ∃ Z2 δ2 A2, Same Z1 Z2 ∧ RS X.K Z2 δ2 σ ∧ RA X.K Z2 A2 H ∧ forD gd g tb DD (l.drop (i + 1)) δ2 A2 :=
      fun Z5 δ5 A5 σ5 H5 s5 rs5 ra5 t5 => ⟨Z5, δ5, A5, s14.trans s5, rs5, ra5, t5⟩
    exact ⟨Z4, δ4, A4, _, (z.trans s1).trans s14, rs4, ra4, t4, ⟨again, re4.rt, re4.nx, again⟩⟩
  · have ei : i = l.length := by omega
    subst ei
    rw [List.drop_length] at t2
    exact .inl ⟨wk.stops H (hG Z2 A2 H s2 ra2 t2.1), re.nx Z2 δ2 A2 σ H (s1.trans s2) rs2 ra2 t2.2⟩
/-- over a list, a tuple -/
def iSeq (t : DE) : DI := fun δ A R => t δ A fun d A1 => match d with
  | .tup l => R l (fun _ => True) A1
  | .lst l => R l (fun _ => True) A1
  | .rol l => R l (fun _ => True) A1
  | .ref a => (match A1 a with
    | some (.lst l) => R l (fun A' => A' a = some (.lst l)) A1
    | _ => False)
  | _ => False
def iSeqH (K : PySem.W.Frag) (tl : TE) : TI := fun σ H R => tl σ H fun x H1 => ∃ a, x = .ref a ∧ ((∃ xs, SqL K H1 a xs ∧ R (Itl K a) H1) ∨ ∃ xs, SqT K H1 a xs ∧ R (Itt K a) H1)
theorem pi_seqH {tg l : Expr} {tl : TE} (hl : PE X l tl) : PI X tg l (iSeqH X.K tl) := by
  refine ⟨fun pins s σ H R I h => ?_⟩
  refine thn (hl.run pins s σ H _ I h) fun v s1 ⟨x, H1, I1, r1, q1⟩ => ?_
  obtain ⟨a, e, q⟩ := q1
  subst e
  cases r1
  have fp : ∀ b ∈ [s1.heap.objs.size], FpOk X pins H1 b := fun b hb => by
    have e : b = s1.heap.objs.size := by simpa using hb
    subst e
    exact I1.fpOk (Nat.le_refl _) (I1.hok.fresh (Nat.le_refl _))
  rcases q with ⟨xs, hq, q⟩ | ⟨xs, hq, q⟩
  · obtain ⟨its, rv, p, hz⟩ := I1.list hq
    refine wpAny_pyIter_list p.isList ?_
    exact ⟨s1.heap.objs.size, [s1.heap.objs.size], _, _, H1, rfl, I1.kept (t' := s1.toks) fun b o e => Heap.get?_push_of_some _ e, turn_list a _, ⟨_, Heap.get?_push_size _ rfl, rfl, rfl⟩, fp, q⟩
  · obtain ⟨its, rv, p, hz⟩ := I1.tuple hq
    refine wpAny_pyIter_tuple (show s1.heap.IsTuple a its.toArray from p) ?_
    exact ⟨s1.heap.objs.size, [s1.heap.objs.size], _, _, H1, rfl, I1.kept (t' := s1.toks) fun b o e => Heap.get?_push_of_some _ e, turn_tuple a _, ⟨_, Heap.get?_push_size _ rfl, rfl, rfl⟩, fp, q⟩
theorem walkD_list {a : Addr} {l : List D} {vs : List V} {g : AH → Prop} (r : RVs K Z l vs) (hG : ∀ Z' A H, Same Z Z' → RA K Z' A H → g A → SqL K H a vs) : WalkD K Z (Itl K a) l g :=
  ⟨_, _, r.len ▸ walk_list (a := a) (xs := vs), hG, fun i Z' A H x H' hi s ra _ hy => by
    obtain ⟨rfl, hx⟩ := hy
    obtain ⟨d, h1, h2⟩ := r.get hx
    exact ⟨Z', d, Same.refl _, ra, h1, h2.mono s⟩⟩
theorem walkD_tup {a : Addr} {l : List D} {vs : List V} {g : AH → Prop} (r : RVs K Z l vs) (h : SqT K Z a vs) : WalkD K Z (Itt K a) l g :=
  ⟨_, _, r.len ▸ walk_tup (a := a) (xs := vs), fun Z' A H s ra _ => sqT_mono (s.trans ra.sub) h, fun i Z' A H x H' hi s ra _ hy => by
    obtain ⟨rfl, hx⟩ := hy
    obtain ⟨d, h1, h2⟩ := r.get hx
    exact ⟨Z', d, Same.refl _, ra, h1, h2.mono s⟩⟩
theorem walkD_mut {a : Addr} {l : List D} : WalkD K Z (Itl K a) l (fun A' => A' a = some (.lst l)) :=
  ⟨fun H => ∃ vs, SqL K H a vs ∧ vs.length = l.length, fun i H x H' => H' = H ∧ ∀ xs, SqL K H a xs → xs[i]? = some x,
    ⟨fun i H hi ⟨vs, q, e⟩ => ⟨vs, vs[i]'(by omega), q, by simp [e, hi]⟩, fun H ⟨vs, q, e⟩ => ⟨vs, q, by omega⟩, fun i H x H' hi _ y => y⟩,
    fun Z' A H s ra g => by
      obtain ⟨vs, e2, e3⟩ := (ra.at_ a _ g).2
      exact ⟨vs, SqL.of e2, e3.len⟩,
    fun i Z' A H x H' hi s ra g ⟨eH, hy⟩ => by
      subst eH
      obtain ⟨vs, e2, e3⟩ := (ra.at_ a _ g).2
      obtain ⟨d, h1, h2⟩ := e3.get (hy vs (SqL.of e2))
      exact ⟨Z', d, Same.refl _, ra, h1, h2⟩⟩
theorem qi_seq {tg e : Expr} {t : DE} (h : QE X Z0 e t) : QI X Z0 tg e (iSeq t) := PI.imp (pi_seqH h) fun σ H R ⟨Z, δ, A, Kt, z, rs, ra, t, k⟩ =>
  ⟨Z, δ, A, _, z, rs, ra, t, fun Z1 d A1 v H1 s1 ra1 rv t1 => by
    cases d with
    | tup l =>
      obtain ⟨p, vs, e1, e2, e3⟩ := rv_tup rv
      exact ⟨p, e1, .inr ⟨vs, sqT_mono ra1.sub e2, k Z1 l _ A1 _ H1 s1 ra1 (walkD_tup e3 e2) t1⟩⟩
    | lst l =>
      obtain ⟨p, vs, e1, e2, e3⟩ := rv_lst rv
      exact ⟨p, e1, .inl ⟨vs, SqL.of (ra1.sub _ _ e2), k Z1 l _ A1 _ H1 s1 ra1 (walkD_list e3 fun Z' A H s ra _ => SqL.of (ra.sub _ _ (s _ _ e2))) t1⟩⟩
    | rol l =>
      obtain ⟨p, vs, e1, e2, e3⟩ := rv_rol rv
      exact ⟨p, e1, .inl ⟨vs, sqL_mono ra1.sub e2, k Z1 l _ A1 _ H1 s1 ra1 (walkD_list e3 fun Z' A H s ra _ => sqL_mono (s.trans ra.sub) e2) t1⟩⟩
    | ref a =>
      have t1' : (match A1 a with | some (.lst l) => Kt l (fun A' => A' a = some (.lst l)) A1 | _ => False) := t1
      split at t1'
      · rename_i l q
        obtain ⟨vs, e2, e3⟩ := (ra1.at_ a _ q).2
        exact ⟨a, rv_ref rv, .inl ⟨vs, SqL.of e2, k Z1 l _ A1 _ H1 s1 ra1 walkD_mut t1'⟩⟩
      · exact t1'.elim
    | _ => exact t1.elim⟩

/-! ### ranges, texts -/
def rngD (lo : Int) (n : Nat) : List D := (List.range n).map fun i => .int (lo + (i : Nat))
theorem walkD_range {lo : Int} {n : Nat} : WalkD K Z (Itr lo n) (rngD lo n) (fun _ => True) :=
  ⟨fun _ => True, YFn fun i => .int (lo + i), by have := walk_range (lo := lo) (n := n); unfold rngD; rw [List.length_map, List.length_range]; exact this, fun _ _ _ _ _ _ => trivial, fun i Z' A H x H' hi s ra _ ⟨e1, e2⟩ => by
    subst e1 e2
    unfold rngD at hi ⊢
    rw [List.length_map, List.length_range] at hi
    exact ⟨Z', .int (lo + (i : Nat)), Same.refl _, ra, by simp [hi], mk_int⟩⟩
abbrev Small (i : Int) : Prop := i.natAbs < 2 ^ 62
def iRng1 (t : DA) : DI := fun δ A R => t δ A fun ds A1 => match ds with
  | [.int n] => Small n ∧ R (rngD 0 n.toNat) (fun _ => True) A1
  | _ => False
def iRng2 (t : DA) : DI := fun δ A R => t δ A fun ds A1 => match ds with
  | [.int i, .int j] => (Small i ∧ Small j) ∧ R (rngD i (j - i).toNat) (fun _ => True) A1
  | _ => False
theorem qi_range1 {tg a : Expr} {t : DA} {p pos : Pos} (hg : Gl X "range") (hm : X.mg "range" = none) (ha : QA X Z0 [a] t) (hs : starEach [a] X.env = [(false, eval a X.env)] := by rfl) : QI X Z0 tg (.Call (.Name "range" p) [a] [] pos) (iRng1 t) :=
  PI.imp (pi_range1 hg hm ha hs) fun σ H R ⟨Z, δ, A, Kt, z, rs, ra, t, k⟩ => ⟨Z, δ, A, _, z, rs, ra, t, fun Z1 ds A1 vs H1 s1 ra1 rv t1 => by
    split at t1
    · obtain ⟨v, rfl, r1⟩ := rv.one
      exact ⟨_, by rw [rv_int r1], by have := t1.1; unfold Small at this; omega, by have := t1.1; unfold Small at this; omega, k Z1 _ _ A1 _ H1 s1 ra1 walkD_range t1.2⟩
    · exact t1.elim⟩
/-- a text's signs -/
def signsD (z : Str) : List D := z.cps.toList.map fun c => .str ⟨#[c]⟩
def iText (t : DE) : DI := fun δ A R => t δ A fun d A1 => match d with
  | .str z => R (signsD z) (fun _ => True) A1
  | _ => False
theorem walkD_str {z : Str} : WalkD K Z (Its z) (signsD z) (fun _ => True) :=
  ⟨fun _ => True, fun i H v H' => H' = H ∧ ∃ c, z.cps[i]? = some c ∧ v = .str ⟨#[c]⟩, by have := walk_str (z := z); unfold signsD; rw [List.length_map, Array.length_toList]; exact this, fun _ _ _ _ _ _ => trivial, fun i Z' A H x H' hi s ra _ ⟨e1, c, e2, e3⟩ => by
    subst e1 e3
    refine ⟨Z', .str ⟨#[c]⟩, Same.refl _, ra, ?_, mk_str⟩
    unfold signsD
    rw [List.getElem?_map, Array.getElem?_toList, e2]; rfl⟩
theorem qi_str {tg e : Expr} {t : DE} (h : QE X Z0 e t) : QI X Z0 tg e (iText t) := PI.imp (pi_str h) fun σ H R ⟨Z, δ, A, Kt, z, rs, ra, t, k⟩ =>
  ⟨Z, δ, A, _, z, rs, ra, t, fun Z1 d A1 v H1 s1 ra1 rv t1 => by
    cases d with
    | str z => exact ⟨z, rv_str rv, k Z1 _ _ A1 _ H1 s1 ra1 walkD_str t1⟩
    | _ => exact t1.elim⟩

/-! ### raise, the text's own defs -/
section
variable {w : DW}
def sRaise (w : DW) (c : String) : DS := fun _ δ A => w c [] δ A
theorem qs_raise {c : String} {e : Expr} {pos : Pos} (hc : X.calm = true) (tk : Takes X (liftW X.K Z0 w)) (he : PMk X e (fun _ H Q => Q (.ref (He.ga X.K (Str.ofString c))) none H)) : QS X Z0 (.Raise (some e) none pos) (sRaise w c) :=
  PS.imp (ps_raise hc tk he) fun D σ H ⟨Z, δ, A, DD, z, rs, ra, t, re⟩ => ⟨Z, δ, A, c, [], z, rs, ra, ⟨rfl, .inl ⟨rfl, rfl⟩⟩, t⟩
/-- f(..), by the promise of f; what f raises is wished for as w says -/
def eCall (w : DW) (sp : DSp) (dvs : List D) (t : DA) : DE := fun δ A Q => t δ A fun ds A1 => sp (ds ++ dvs) A1 Q fun c fs A2 => w c fs δ A2
theorem lift_call {sp : DSp} {dvs : List D} {ws : List V} {t : DA} {σ : L2.St} {H : Hp} {Q : VK} (hd : ∀ Z, RVs K Z dvs ws) (h : liftE K Z0 (eCall w sp dvs t) σ H Q) : tCallSD (liftSp K sp) ws (WE (liftW K Z0 w)) (liftA K Z0 t) σ H Q := by
  obtain ⟨Z, δ, A, Kt, z, rs, ra, t, k⟩ := h
  exact ⟨Z, δ, A, _, z, rs, ra, t, fun Z1 ds A1 vs H1 s1 ra1 rv t1 => ⟨Z1, ds ++ dvs, A1, Kt, _, rv.append (hd Z1), ra1, t1, Kont.mono k s1, fun Z2 c fs A2 cv dd H2 s2 ra2 rx q => ⟨Z2, δ, A2, c, fs, (z.trans s1).trans s2, (rs.mono s1).mono s2, ra2, rx, q⟩⟩⟩
/-- a def of the text, by its promise -/
structure DFn (P : Program) (w : World) (K : PySem.W.Frag) (mg : Str → Option Value) (base : Heap) (k : Nat) (x : Str) (sp : DSp) (dvs : List D) : Prop where
  ex : ∃ (f : Addr) (fd : FuncData) (ps : List Str) (ds : List Value) (ws : List V), FnOk P w K mg base (CX P w) k f fd ps (liftSp K sp) ∧ mg x = some (.ref f) ∧ PySem.W.keepIn K (.ref f) = true ∧ Binds K fd ps ds ∧ Vals ws ds ∧ ∀ Z, RVs K Z dvs ws
variable {x : Str} {k j : Nat} {sp : DSp} {dvs : List D} {e : Expr} {es : List Expr} {t : DA} {p pos : Pos}
theorem qe_call (F : DFn X.prog X.w X.K X.mg X.base k x sp dvs) (hr : Room j X.A) (hk : k ≤ j) (hg : Gl X x) (tk : Takes X (liftW X.K Z0 w)) (ha : QA X Z0 (e :: es) t) (hdb : (x == ("__debug__" : Str)) = false := by decide)
    (he : starEach (e :: es) X.env = (false, eval e X.env) :: starEach es X.env := by rfl) (hpl : (backTo pos (starEach es X.env)).any (·.1) = false := by rfl) : QE X Z0 (.Call (.Name x p) (e :: es) [] pos) (eCall w sp dvs t) := by
  obtain ⟨f, fd, ps, ds, ws, F, hm, kp, b, d, hd⟩ := F.ex
  exact PE.imp (pe_callSD F (hr.mono hk) hg hm kp b d (fun σ => passAt tk σ) ha hdb he hpl) fun σ H Q h => lift_call hd h
end
/-- a def keeps its promise -/
@[simp] def startD (n : Nat) (ds : List D) : DSt := ds.map some ++ List.replicate (n - ds.length) none
theorem start_rs : ∀ {ds : List D} {vs : List V} (m : Nat), RVs K Z ds vs → RS K Z (ds.map some ++ List.replicate m none) (vs.map some ++ List.replicate m none)
  | [], vs, m, r => by
    rw [r.inv0]
    simp only [List.map_nil, List.nil_append]
    induction m with
    | zero => exact .nil
    | succ m ih => rw [List.replicate_succ, List.replicate_succ]; exact .cons trivial ih
  | d :: ds, vs, m, r => by
    obtain ⟨v, u, rfl, r1, r2⟩ := r.inv
    exact .cons (a := some d) (b := some v) r1 (start_rs m r2)
theorem fn_ok {P : Program} {w : World} {mg : Str → Option Value} {base : Heap} {x qual : Str} {params : Arguments} {body : List Stmt} {scope : Scope} {dvs : List V} {kws : List (Str × V)} {f : Addr} {fd : FuncData} {N ps : List Str} {k : Nat} {sp : DSp} {t : DW → DS}
    (F : FunD K x qual params body scope dvs kws f fd) (S : FnScope N ps scope) (len : ∀ ds A Q E, sp ds A Q E → ds.length = ps.length)
    (hder : ∀ (cdv : Value) (A : Around) (outer : List Env) (s : Shared) (H : Hp) (E : XK) (Z0 : Hp) (wd : DW), Room k (A.deeper (envOfC qual scope s.heap.objs.size f cdv)) → Takes (cxOf (CX P w) P w K mg base N qual scope f cdv A outer s H E) (liftW K Z0 wd) → QSs (cxOf (CX P w) P w K mg base N qual scope f cdv A outer s H E) Z0 body (t wd))
    (hrd : ∀ ds A Q E, sp ds A Q E → t (fun c fs _ A => E c fs A) { nx := fun _ A => Q .non A, rt := Q } (startD N.length ds) A) : FnOk P w K mg base (CX P w) (k + 1) f fd ps (liftSp K sp) := by
  refine F.ok S (fun vs H Q E ⟨Z, ds, A, Kt, Ex, r, ra, h, _, _⟩ => by rw [r.len]; exact len ds A Kt Ex h) fun cdv A0 outer s H vs Q E hr ⟨Z, ds, A, Kt, Ex, r, ra, h, hq, he⟩ => ?_
  have tk : Takes (cxOf (CX P w) P w K mg base N qual scope f cdv A0 outer s H E) (liftW K Z fun c fs _ A => Ex c fs A) :=
    Takes.imp (takes_of rfl rfl rfl rfl) fun cv dd σ H' ⟨Z', δ, A', c, fs, z, rs, ra', rx, q⟩ => he Z' c fs A' cv dd H' z ra' rx q
  refine ⟨_, hder cdv A0 outer s H E Z (fun c fs _ A => Ex c fs A) hr tk, Z, startD N.length ds, A, _, Same.refl Z, ?_, ra, hrd ds A Kt Ex h, ?_⟩
  · unfold startD L2.start
    rw [r.len]
    exact start_rs _ r
  · exact ⟨fun Z' δ A' σ H' s rs ra' q => hq Z' .non A' .non H' s ra' mk_non q, fun Z' d A' v H' s ra' rv q => hq Z' d A' v H' s ra' rv q, fun _ _ _ _ _ _ _ _ q => q.elim, fun _ _ _ _ _ _ _ _ q => q.elim⟩
end DL


/-! DL5: isinstance, try. -/
namespace DL
open PySem PySem.Spec PyProof.Rows L2
variable {K : PySem.W.Frag} {Z Z' Z0 : Hp} {X : Cx}

/-! ### isinstance -/
/-- a value's built-in type -/
def tyD (A : AH) : D → Option String
  | .non => some "NoneType" | .bl _ => some "bool" | .int _ => some "int" | .str _ => some "str" | .tup _ => some "tuple" | .lst _ => some "list" | .rol _ => some "list" | .dic _ _ => some "dict"
  | .obj _ _ _ => none
  | .ref a => match A a with
    | some (.lst _) => some "list"
    | some (.dic _) => some "dict"
    | _ => none
def tyNames : List String := ["NoneType", "bool", "int", "str", "tuple", "list", "dict"]
def instB (t T : String) : Bool := t == T || (t == "bool" && T == "int")
theorem kitB_all : ∀ t ∈ tyNames, ∀ T ∈ ["bool", "int", "str", "tuple", "list", "dict"], kitB t T = some (instB t T) := by decide +kernel
theorem tyD_mem {A : AH} {d : D} {t : String} (h : tyD A d = some t) : t ∈ tyNames := by
  cases d with
  | ref a =>
    have h' : (match A a with | some (.lst _) => some "list" | some (.dic _) => some "dict" | _ => none) = some t := h
    split at h'
    · cases h'; decide
    · cases h'; decide
    · cases h'
  | obj _ _ _ => cases h
  | _ => cases h; decide
theorem tyX_rol {H : Hp} {p : Addr} {vs : List V} (h : SqL K H p vs) : TyX K H (.ref p) (.type "list") := by
  rcases h with (h | ⟨o, h⟩) | ⟨o, its, n, h1, h2, _⟩
  · exact .base (.lst h)
  · exact .base (.frz h)
  · exact .kList h1 h2
theorem tyX_tup {H : Hp} {p : Addr} {vs : List V} (h : SqT K H p vs) : TyX K H (.ref p) (.type "tuple") := by
  rcases h with (h | ⟨o, h⟩) | ⟨o, its, n, h1, h2, _⟩
  · exact .base (.tup h)
  · exact .fTuple h
  · exact .kTuple h1 h2
theorem tyD_ok {A : AH} {H : Hp} (R : RA K Z A H) {d : D} {v : V} {t : String} (r : RV K Z d v) (h : tyD A d = some t) : TyX K H v (.type t) := by
  cases d with
  | non => cases h; rw [rv_non r]; exact .base .non
  | bl b => cases h; rw [rv_bl r]; exact .base (.bl b)
  | int b => cases h; rw [rv_int r]; exact .base (.int b)
  | str b => cases h; rw [rv_str r]; exact .base (.str b)
  | tup l => cases h; obtain ⟨p, vs, rfl, e, _⟩ := rv_tup r; exact tyX_tup (sqT_mono R.sub e)
  | lst l => cases h; obtain ⟨p, vs, rfl, e, _⟩ := rv_lst r; exact .base (.lst (R.sub _ _ e))
  | rol l => cases h; obtain ⟨p, vs, rfl, e, _⟩ := rv_rol r; exact tyX_rol (sqL_mono R.sub e)
  | dic ks l => cases h; obtain ⟨p, vs, rfl, e, _⟩ := rv_dic r; exact .base (.dK (R.sub _ _ e))
  | obj _ _ _ => cases h
  | ref a =>
    rw [rv_ref r]
    have h' : (match A a with | some (.lst _) => some "list" | some (.dic _) => some "dict" | _ => none) = some t := h
    split at h'
    · rename_i q; cases h'; obtain ⟨vs, e, _⟩ := (R.at_ a _ q).2; exact .base (.lst e)
    · rename_i q; cases h'; obtain ⟨vs, e, _⟩ := (R.at_ a _ q).2; exact .base (.dK e)
    · cases h'
def eIsi (T : String) (t : DE) : DE := fun δ A Q => t δ A fun d A1 => match tyD A1 d with
  | some s => Q (.bl (instB s T)) A1
  | none => False
section
variable {e : Expr} {te : DE} {p p2 pos : Pos} {T : String}
theorem qe_isi (hT : T ∈ ["bool", "int", "str", "tuple", "list", "dict"]) (hg : Gl X "isinstance") (hm : X.mg "isinstance" = none) (hg2 : Gl X (Str.ofString T)) (hm2 : X.mg (Str.ofString T) = none) (hv2 : bootBuiltins (Str.ofString T) = some (.type T)) (hn2 : Str.ofString T ≠ "__name__") (hd2 : (Str.ofString T == ("__debug__" : Str)) = false) (he : QE X Z0 e te)
    (h1 : starEach (e :: [.Name (Str.ofString T) p2]) X.env = (false, eval e X.env) :: starEach [.Name (Str.ofString T) p2] X.env := by rfl) (h2 : (backTo pos (starEach [.Name (Str.ofString T) p2] X.env)).any (·.1) = false := by rfl)
    (h3 : starEach [.Name (Str.ofString T) p2] X.env = [(false, eval (.Name (Str.ofString T) p2) X.env)] := by rfl) : QE X Z0 (.Call (.Name "isinstance" p) [e, .Name (Str.ofString T) p2] [] pos) (eIsi T te) :=
  PE.imp (pe_callB call_isi hg hm (by decide +kernel) (pa_cons he (pa_cons (pe_bltn (v := .ty T) hg2 hm2 hv2 rfl hn2 hd2) pa_nil h3) h1) (he := h1) (hpl := h2)) fun σ H Q ⟨Z, δ, A, Kt, z, rs, ra, t, k⟩ =>
    ⟨Z, δ, A, _, z, rs, ra, t, fun Z1 d A1 v H1 s1 ra1 rv t1 => by
      split at t1
      · rename_i s q
        exact ⟨v, .ty T, .type s, .type T, _, rfl, .ty T, tyD_ok ra1 rv q, kit_ty (kitB_all s (tyD_mem q) T hT), k Z1 _ A1 _ H1 s1 ra1 mk_bl t1⟩
      · exact t1.elim⟩
end

/-! ### try -/
/-- what is known of the classes of exceptions: sub c d: c stands under d (d may be built-in) -/
structure ExcK (K : PySem.W.Frag) (c : String) : Prop where
  c : ExcC K (He.ga K (Str.ofString c))
def suiteEnds (i : Nat) (D : DEnds) : DEnds := { nx := fun δ A => D.nx (δ.set i none) A, rt := D.rt, bk := fun δ A => D.bk (δ.set i none) A, ct := fun δ A => D.ct (δ.set i none) A }
/-- try: body / except C as e (e in slot i): suite. sub: which classes the clause takes; suite: by the exception's address, class, fields -/
def sTryAs (w : DW) (sub : String → Option Bool) (i : Nat) (body : DW → DS) (suite : Addr → String → List (String × D) → DS) : DS := fun D δ A =>
  body (fun c fs δ1 A1 => match sub c with
    | some true => ∀ a, suite a c fs (suiteEnds i D) (δ1.set i (some (.ref a))) A1
    | some false => w c fs δ1 A1
    | none => False) D δ A
def sTryOnly (w : DW) (sub : String → Option Bool) (body : DW → DS) (suite : Addr → String → List (String × D) → DS) : DS := fun D δ A =>
  body (fun c fs δ1 A1 => match sub c with
    | some true => ∀ a, suite a c fs D δ1 A1
    | some false => w c fs δ1 A1
    | none => False) D δ A
section
variable {x n : Str} {c : Value} {i : Nat} {body suite : List Stmt} {b₀ : Stmt} {np pos pos' : Pos} {tb : DW → DS} {ts : Addr → String → List (String × D) → DS} {w : DW} {sub : String → Option Bool}
theorem re_suite {D : DEnds} {E : Ends} (i : Nat) (re : RE K Z D E) : RE K Z (suiteEnds i D) { nx := fun σ' H' => E.nx (σ'.set i none) H', rt := E.rt, bk := fun σ' H' => E.bk (σ'.set i none) H', ct := fun σ' H' => E.ct (σ'.set i none) H' } :=
  ⟨fun Z' δ A σ H s rs ra q => re.nx Z' _ A _ H s (rs.set i (a := none) (b := none) trivial) ra q, re.rt, fun Z' δ A σ H s rs ra q => re.bk Z' _ A _ H s (rs.set i (a := none) (b := none) trivial) ra q, fun Z' δ A σ H s rs ra q => re.ct Z' _ A _ H s (rs.set i (a := none) (b := none) trivial) ra q⟩
theorem qs_try_as (hs : X.stack = X.env :: X.outer) (hf : X.env.frame = some X.env.locals) (hN : X.N.Nodup) (hi : X.N[i]? = some n) (hln : X.env.kindOf n = some .local) (hc : Names X x c) (tk : Takes X (liftW X.K Z0 w))
    (hsub : ∀ k b, sub k = some b → PySem.W.exmOne X.K (.ref (He.ga X.K (Str.ofString k))) c = some b)
    (hb : ∀ (w' : DW) (Z1 : Hp) (pn : List (Addr × Obj)) (xe : Value → Shared → Prop), Takes (X.tr pn xe) (liftW X.K Z1 w') → PassesOwn (model X.prog X.w) X.A X.env xe → QSs (X.tr pn xe) Z1 body (tb w'))
    (hsu : ∀ (a : Addr) (oe : Obj) (cls : Value) (d : Option Addr) (pn : List (Addr × Obj)) (k : String) (fs : List (String × D)) (Z1 : Hp), sub k = some true → Zc cls d oe → (∃ vs, oe.data = .fields vs) → RX X.K Z1 k fs cls d → QSs (X.suite a ((a, oe) :: pn)) Z1 (b₀ :: suite) (ts a k fs)) :
    QS X Z0 (.Try body [.ExceptHandler (some (.Name x np)) (some n) (b₀ :: suite) pos'] [] [] pos) (sTryAs w sub i tb ts) := by
  refine PS.imp (ps_try_as (tb := fun W D σ H => ∃ w' Z1, (∀ cls d σ H, liftW X.K Z1 w' cls d σ H → W cls d σ H) ∧ liftS X.K Z1 (tb w') D σ H)
    (ts := fun a cls d D σ H => ∃ k fs Z1, sub k = some true ∧ RX X.K Z1 k fs cls d ∧ liftS X.K Z1 (ts a k fs) D σ H) hs hf hN hi hln hc tk ?_ ?_) ?_
  · intro W pn xe tW hp
    refine ⟨fun pins s σ H D I ⟨w', Z1, h1, h2⟩ => ?_⟩
    exact (hb w' Z1 pn xe (Takes.imp tW h1) hp).run pins s σ H D I h2
  · intro a oe cls d pn hz hfl
    refine ⟨fun pins s σ H D I ⟨k, fs, Z1, h0, h1, h2⟩ => ?_⟩
    exact (hsu a oe cls d pn k fs Z1 h0 hz hfl h1).run pins s σ H D I h2
  · rintro D σ H ⟨Z, δ, A, DD, z, rs, ra, t, re⟩
    refine ⟨_, Z, fun cls d σ1 H1 ⟨Z1, δ1, A1, k, fs, z1, rs1, ra1, rx, q⟩ => ?_, Z, δ, A, DD, Same.refl Z, rs, ra, t, re⟩
    have ec := rx.1
    have q' : (match sub k with
        | some true => ∀ a, ts a k fs (suiteEnds i DD) (δ1.set i (some (.ref a))) A1
        | some false => w k fs δ1 A1
        | none => False) := q
    split at q'
    · rename_i hk
      refine ⟨true, by rw [ec]; exact hsub k true hk, fun _ a ha => ?_, fun e => Bool.noConfusion e⟩
      exact ⟨k, fs, Z1, hk, rx, Z1, δ1.set i (some (.ref a)), A1, suiteEnds i DD, Same.refl _, rs1.set i (a := some (.ref a)) (b := some (.ref a)) (mk_ref (K := X.K) (Z := Z1)), ra1, q' a, re_suite i (re.mono z1)⟩
    · rename_i hk
      exact ⟨false, by rw [ec]; exact hsub k false hk, fun e => Bool.noConfusion e, fun _ => ⟨Z1, δ1, A1, k, fs, z.trans z1, rs1, ra1, rx, q'⟩⟩
    · exact q'.elim
end
end DL


/-! DL6: a def by its promise, the law's end. -/
namespace DL
open PySem PySem.Spec PyProof.Rows L2
variable {K : PySem.W.Frag} {Z Z' Z0 : Hp} {X : Cx}
theorem uA {k : Nat} {A : Around} (r : Room k A) : A.units + 1 < cLine := by have := r.un; omega
theorem uC {k : Nat} {A : Around} (r : Room k A) : A.units + 65 < cLine := by have := r.un; omega
section
variable {P : Program} {w : World} {mg : Str → Option Value} {base : Heap} {k : Nat} {x : Str} {sp : DSp} {f : Addr} {fd : FuncData} {ps : List Str}
theorem dfn (F : FnOk P w K mg base (CX P w) k f fd ps (liftSp K sp)) (hm : mg x = some (.ref f)) (kp : PySem.W.keepIn K (.ref f) = true) (b : Binds K fd ps []) : DFn P w K mg base k x sp [] :=
  ⟨f, fd, ps, [], [], F, hm, kp, b, .nil, fun Z => .nil⟩
end
/-- the law's promise: True, whatever the script is -/
def spLaw : DSp := fun ds A Q _ => ∃ ns : List Int, ds = [.rol (ns.map .int)] ∧ ns.length ≤ 63 ∧ ∀ A', Q (.bl true) A'
theorem rvs_ints {H : Hp} : ∀ ns : List Int, RVs K H (ns.map .int) (ns.map V.int)
  | [] => .nil
  | n :: ns => .cons mk_int (rvs_ints ns)
theorem sp_end {H : Hp} {a : Addr} {ns : List Int} (hl : ns.length ≤ 63) (hS : SqL K H a (ns.map V.int)) : liftSp K spLaw [.ref a] H (fun v _ => v = .bl true) (fun _ _ _ => False) := by
  refine ⟨H, [.rol (ns.map .int)], fun _ => none, fun d _ => d = .bl true, fun _ _ _ => False, .cons ?_ .nil, ⟨fun _ _ e => e, fun _ _ e => by cases e⟩, ⟨ns, rfl, hl, fun _ => rfl⟩, ?_, ?_⟩
  · rw [RV]; exact ⟨a, _, rfl, hS, rvs_ints ns⟩
  · rintro Z' d A' v H' _ _ rv rfl; exact rv_bl rv
  · exact fun _ _ _ _ _ _ _ _ _ _ q => q
theorem walk_ofW {l : PySem.W.OpenLaw} {n k : Nat} {q : Program} {loose : List Str} {XP : (Str → Option Value) → Heap → Prop} {YP : World → Heap → Prop} {d : DefRec} {x : Str}
    (hn : l.most = some n) (hn2 : n ≤ sizeLine) (hdf : d.params.defaults = []) (hr : Room k callerA)
    (F : ∀ (w : World) (mg : Str → Option Value) (fa : Addr) (h : Heap), YP w h → h.Ns mainGlobals mg → mg d.name = some (.ref fa) →
      ∃ (K : PySem.W.Frag) (fd : FuncData) (sp : Sp), K.In h ∧ (∀ (s : Shared) (u : Value), BindsTo s fd ⟨[u], []⟩ [(x, u)]) ∧
        (∀ (H : Hp) (a : Addr) (ns : List Int), ns.length ≤ n → SqL K H a (ns.map V.int) → sp [.ref a] H (fun v _ => v = .bl true) fun _ _ _ => False) ∧
        ∀ base : Heap, K.In base → base.Ns mainGlobals mg → FnOk l.prog w K mg base (CX l.prog w) k fa fd [x] sp) :
    PySem.W.WalkO q loose XP YP l.row.toRowW d [] (fun f vs => PySem.call f vs) := by
  refine Att.attach_call hn hdf fun w s₀ s₁ mg mb fa o pm cd doc a vs ns G Y ho hd hcd hmg hobj hints hlen hg => ?_
  obtain ⟨K, fd, sp, KX, hb, hsp, hF⟩ := F w mg fa _ Y G.T.g hmg
  exact law_call KX G.T.g G.T.b G.T.builtins G.T.nolimit hg hobj hints (Nat.le_trans hlen hn2) hr hF hb (fun H _ hS => hsp H a ns hlen hS) fun H e s' ⟨_, _, _, _, _, _, _, _, _, _, _, _, h⟩ => h
end DL


/-! DL7: running a reading by simp. -/
namespace DL
open PySem PySem.Spec PyProof.Rows L2
/-- a number whose text may be taken -/
def Num (i : Int) : Prop := i.natAbs < 2 ^ 1900
theorem num_of {i : Int} {k : Nat} (h : i.natAbs < 2 ^ k) (hk : k ≤ 1900) : Num i := Nat.lt_of_lt_of_le h (Nat.pow_le_pow_right (by decide) hk)
@[simp] theorem num_lit {n : Int} (h1 : -18446744073709551616 < n) (h2 : n < 18446744073709551616) : Num n := num_of (k := 64) (by omega) (by decide)
theorem uB {k : Nat} {A : Around} (r : Room k A) : A.units + 64 < cLine := by have := r.un; omega
section
variable {δ : DSt} {A : AH} {Q : DK} {D0 : DEnds} {R : List D → AH → Prop} {B : Bool → AH → Prop} {G : DSt → AH → Prop}
@[simp ↓] theorem sNext_eq : sNext D0 δ A = D0.nx δ A := rfl
@[simp ↓] theorem sSeq_eq {t u : DS} : sSeq t u D0 δ A = t { D0 with nx := u D0 } δ A := rfl
@[simp ↓] theorem sBreak_eq : sBreak D0 δ A = D0.bk δ A := rfl
@[simp ↓] theorem sCont_eq : sCont D0 δ A = D0.ct δ A := rfl
@[simp ↓] theorem sDrop_eq {t : DE} : sDrop t D0 δ A = t δ A fun _ A1 => D0.nx δ A1 := rfl
@[simp ↓] theorem sRet_eq {t : DE} : sRet t D0 δ A = t δ A D0.rt := rfl
@[simp ↓] theorem sRetN_eq : sRetN D0 δ A = D0.rt .non A := rfl
theorem sIf_eq {c : DT} {t u : DS} : sIf c t u D0 δ A = c δ A fun b A1 => (b = true → t D0 δ A1) ∧ (b = false → u D0 δ A1) := rfl
@[simp ↓] theorem sAsg_eq {t : DE} {g : DG} : sAsg t g D0 δ A = t δ A fun d A1 => g d δ A1 D0.nx := rfl
@[simp ↓] theorem sPar_eq {i j : Nat} {ta : DA} : sPar i j ta D0 δ A = ta δ A fun ds A1 => match ds with
  | [d, e] => D0.nx ((δ.set i (some d)).set j (some e)) A1
  | _ => False := rfl
@[simp ↓] theorem dgName_eq {i : Nat} {d : D} : dgName i d δ A G = G (δ.set i (some d)) A := rfl
@[simp ↓] theorem dgNil_eq : dgNil [] δ A G = G δ A := rfl
@[simp ↓] theorem dgCons_eq {g : DG} {gs : DGs} {d : D} {r : List D} : dgCons g gs (d :: r) δ A G = g d δ A fun δ1 A1 => gs r δ1 A1 G := rfl
@[simp ↓] theorem dgTup_tup {n : Nat} {gs : DGs} {l : List D} : dgTup n gs (.tup l) δ A G = (l.length = n ∧ gs l δ A G) := rfl
@[simp ↓] theorem dgTup_lst {n : Nat} {gs : DGs} {l : List D} : dgTup n gs (.lst l) δ A G = (l.length = n ∧ gs l δ A G) := rfl
@[simp ↓] theorem eVar_eq {i : Nat} {d : D} (h : δ[i]? = some (some d)) : eVar i δ A Q = Q d A := by unfold eVar; rw [h]
@[simp ↓] theorem eC_eq {d : D} : eC d δ A Q = Q d A := rfl
@[simp ↓] theorem aNil_eq : aNil δ A R = R [] A := rfl
@[simp ↓] theorem aCons_eq {t : DE} {u : DA} : aCons t u δ A R = t δ A fun d A1 => u δ A1 fun ds A2 => R (d :: ds) A2 := rfl
@[simp ↓] theorem eTup_eq {t : DA} : eTup t δ A Q = t δ A fun ds A1 => Few ds.length ∧ Q (.tup ds) A1 := rfl
@[simp ↓] theorem eLst_eq {m : Mk} {t : DA} : eLst m t δ A Q = t δ A fun ds A1 => Few ds.length ∧ m ds A1 Q := rfl
@[simp ↓] theorem mkF_eq {l : List D} : mkF l A Q = Q (.lst l) A := rfl
@[simp ↓] theorem eBin_eq {rd : DOp} {a b : DE} : eBin rd a b δ A Q = a δ A fun x A1 => b δ A1 fun y A2 => rd x y A2 Q := rfl
@[simp ↓] theorem eChain_eq {rd rd' : DOp} {ta tb tc : DE} : eChain rd rd' ta tb tc δ A Q = ta δ A fun x A1 => tb δ A1 fun y A2 => rd x y A2 fun z A3 => match z with
  | .bl k => (k = true → tc δ A3 fun w A4 => rd' y w A4 Q) ∧ (k = false → Q (.bl false) A3)
  | _ => False := rfl
@[simp ↓] theorem bE_eq {t : DE} : bE t δ A B = t δ A fun d A1 => match d with
  | .bl b => B b A1
  | _ => False := rfl
theorem bOr_eq {t u : DT} : bOr t u δ A B = t δ A fun b A1 => (b = true → B true A1) ∧ (b = false → u δ A1 B) := rfl
@[simp ↓] theorem bNot_eq {t : DT} : bNot t δ A B = t δ A fun b A1 => B (!b) A1 := rfl
@[simp ↓] theorem eCB_eq {rd : DCall} {t : DA} : eCB rd t δ A Q = t δ A fun ds A1 => rd ds A1 Q := rfl
@[simp ↓] theorem eCall_eq {w : DW} {sp : DSp} {dvs : List D} {t : DA} : eCall w sp dvs t δ A Q = t δ A fun ds A1 => sp (ds ++ dvs) A1 Q fun c fs A2 => w c fs δ A2 := rfl
@[simp ↓] theorem opAdd_int {m : Mk} {i j : Int} : opAdd m (.int i) (.int j) A Q = Q (.int (i + j)) A := rfl
@[simp ↓] theorem opAdd_str {m : Mk} {i j : Str} : opAdd m (.str i) (.str j) A Q = (Few (i.length + j.length) ∧ Q (.str (i ++ j)) A) := rfl
@[simp ↓] theorem opAdd_tup {m : Mk} {i j : List D} : opAdd m (.tup i) (.tup j) A Q = (Few (i.length + j.length) ∧ Q (.tup (i ++ j)) A) := rfl
@[simp ↓] theorem opAdd_lsts {m : Mk} {i j : List D} : opAdd m (.lst i) (.lst j) A Q = (Few (i.length + j.length) ∧ m (i ++ j) A Q) := rfl
@[simp ↓] theorem opSub_int {i j : Int} : opSub (.int i) (.int j) A Q = Q (.int (i - j)) A := rfl
@[simp ↓] theorem opMul_int {i j : Int} : opMul (.int i) (.int j) A Q = (MulOk i j ∧ Q (.int (i * j)) A) := rfl
@[simp ↓] theorem opDiv_int {i j : Int} : opDiv (.int i) (.int j) A Q = (DivOk j ∧ Q (.int (i.fdiv j)) A) := rfl
@[simp ↓] theorem opMod_int {i j : Int} : opMod (.int i) (.int j) A Q = (j ≠ 0 ∧ Q (.int (i.fmod j)) A) := rfl
@[simp ↓] theorem opPow_int {i j : Int} : opPow (.int i) (.int j) A Q = ((0 ≤ j ∧ j ≤ 1000000 ∧ i.natAbs < 2 ^ 64) ∧ Q (.int (i ^ j.toNat)) A) := rfl
@[simp ↓] theorem opCmp_int {p : Int → Int → Bool} {i j : Int} : opCmp p (.int i) (.int j) A Q = Q (.bl (p i j)) A := rfl
@[simp ↓] theorem eNeg_eq {t : DE} : eNeg t δ A Q = t δ A fun d A1 => match d with
  | .int i => Q (.int (-i)) A1
  | _ => False := rfl
@[simp ↓] theorem opIs_non {b : Bool} {x : D} : opIs b x .non A Q = Q (.bl (xor b x.isNon)) A := rfl
@[simp ↓] theorem opIs_bl {b : Bool} {x y : Bool} : opIs b (.bl x) (.bl y) A Q = Q (.bl (xor b (x == y))) A := rfl
@[simp ↓] theorem opEq_eq {b : Bool} {x y : D} : opEq b x y A Q = (dt 60 (drf A x) = true ∧ dt 60 (drf A y) = true ∧ Q (.bl (xor b (deq (drf A x) (drf A y)))) A) := rfl
@[simp ↓] theorem opIx_tup {l : List D} {i : Int} : opIx (.tup l) (.int i) A Q = match atI l i with
  | some d => Q d A
  | none => False := rfl
@[simp ↓] theorem opIx_lst {l : List D} {i : Int} : opIx (.lst l) (.int i) A Q = match atI l i with
  | some d => Q d A
  | none => False := rfl
@[simp ↓] theorem opIx_rol {l : List D} {i : Int} : opIx (.rol l) (.int i) A Q = match atI l i with
  | some d => Q d A
  | none => False := rfl
@[simp ↓] theorem bAbs_eq {i : Int} : bAbs [.int i] A Q = Q (.int i.natAbs) A := rfl
@[simp ↓] theorem bStr_eq {i : Int} : bStr [.int i] A Q = (Num i ∧ Q (.str (numStr i)) A) := rfl
@[simp ↓] theorem eSl_eq {m : Mk} {t : DE} {lo hi : DOpt} : eSl m t lo hi δ A Q = t δ A fun x A1 => lo δ A1 fun l A2 => hi δ A2 fun h A3 => opSl m x l h A3 Q := rfl
@[simp ↓] theorem oNone_eq {O : Option Int → AH → Prop} : oNone δ A O = O none A := rfl
@[simp ↓] theorem oSome_eq {t : DE} {O : Option Int → AH → Prop} : oSome t δ A O = t δ A fun d A1 => match d with
  | .int i => O (some i) A1
  | _ => False := rfl
@[simp ↓] theorem opSl_tup {m : Mk} {l : List D} {lo hi : Option Int} : opSl m (.tup l) lo hi A Q = Q (.tup (cutD l lo hi)) A := rfl
@[simp ↓] theorem opSl_lst {m : Mk} {l : List D} {lo hi : Option Int} : opSl m (.lst l) lo hi A Q = m (cutD l lo hi) A Q := rfl
@[simp ↓] theorem opSl_rol {m : Mk} {l : List D} {lo hi : Option Int} : opSl m (.rol l) lo hi A Q = m (cutD l lo hi) A Q := rfl
@[simp ↓] theorem opSl_str {m : Mk} {l : Str} {lo hi : Option Int} : opSl m (.str l) lo hi A Q = (Few l.length ∧ Q (.str (cutS l lo hi)) A) := rfl
@[simp ↓] theorem eIsi_eq {T : String} {t : DE} : eIsi T t δ A Q = t δ A fun d A1 => match tyD A1 d with
  | some s => Q (.bl (instB s T)) A1
  | none => False := rfl
theorem eAnd_eq {a b : DE} : eAnd a b δ A Q = a δ A fun d A1 => match d with
  | .bl b1 => (b1 = true → b δ A1 Q) ∧ (b1 = false → Q (.bl false) A1)
  | _ => False := rfl
@[simp ↓] theorem iSeq_eq {t : DE} {I : List D → (AH → Prop) → AH → Prop} : iSeq t δ A I = t δ A fun d A1 => match d with
  | .tup l => I l (fun _ => True) A1
  | .lst l => I l (fun _ => True) A1
  | .rol l => I l (fun _ => True) A1
  | .ref a => (match A1 a with
    | some (.lst l) => I l (fun A' => A' a = some (.lst l)) A1
    | _ => False)
  | _ => False := rfl
@[simp ↓] theorem eNot_eq {a : DE} : eNot a δ A Q = a δ A fun d A1 => match d with
  | .bl c => Q (.bl (!c)) A1
  | _ => False := rfl
theorem sFor_eq {it : DI} {g : DG} {t : DS} : sFor it g t D0 δ A = it δ A fun l gd A1 => forD gd g t D0 l δ A1 := rfl
theorem sWhile_eq {c : DT} {t : DS} : sWhile c t D0 δ A = ∃ n, whileN c t D0 n δ A := rfl
end

@[simp] theorem drf_non {A : AH} : drf A .non = .non := rfl
@[simp] theorem drf_bl {A : AH} {b : Bool} : drf A (.bl b) = .bl b := rfl
@[simp] theorem drf_int {A : AH} {b : Int} : drf A (.int b) = .int b := rfl
@[simp] theorem drf_str {A : AH} {b : Str} : drf A (.str b) = .str b := rfl
@[simp] theorem drf_tup {A : AH} {b : List D} : drf A (.tup b) = .tup b := rfl
@[simp] theorem drf_lst {A : AH} {b : List D} : drf A (.lst b) = .lst b := rfl
@[simp] theorem drf_rol {A : AH} {b : List D} : drf A (.rol b) = .rol b := rfl
@[simp] theorem drf_obj {A : AH} {c : String} {ns : List String} {b : List D} : drf A (.obj c ns b) = .obj c ns b := rfl
@[simp] theorem dt_non {n : Nat} : dt n .non = true := by cases n <;> rfl
@[simp] theorem dt_bl {n : Nat} {b : Bool} : dt n (.bl b) = true := by cases n <;> rfl
@[simp] theorem dt_int {n : Nat} {b : Int} : dt n (.int b) = true := by cases n <;> rfl
@[simp] theorem dt_str {n : Nat} {b : Str} : dt n (.str b) = PyData.strOk b := by cases n <;> rfl
@[simp] theorem dt_tup {n : Nat} {l : List D} : dt (n + 1) (.tup l) = dts n l := by rw [dt]
@[simp] theorem dt_lst {n : Nat} {l : List D} : dt (n + 1) (.lst l) = dts n l := by rw [dt]
@[simp] theorem dts_nil {n : Nat} : dts n [] = true := by cases n <;> rfl
@[simp] theorem dts_cons {n : Nat} {d : D} {l : List D} : dts n (d :: l) = (dt n d && dts n l) := by cases n <;> rfl
@[simp] theorem deq_int {i j : Int} : deq (.int i) (.int j) = (i == j) := by simp [deq]
@[simp] theorem deq_bl {i j : Bool} : deq (.bl i) (.bl j) = (i == j) := by simp [deq]
@[simp] theorem deq_str {i j : Str} : deq (.str i) (.str j) = (i == j) := by simp [deq]
@[simp] theorem deq_tup {i j : List D} : deq (.tup i) (.tup j) = deqs i j := by simp [deq]
@[simp] theorem deq_lst {i j : List D} : deq (.lst i) (.lst j) = deqs i j := by simp [deq]
@[simp] theorem deqs_nil : deqs [] [] = true := by simp [deqs]
@[simp] theorem deqs_cons {a b : D} {i j : List D} : deqs (a :: i) (b :: j) = (deq a b && deqs i j) := by simp [deqs]
theorem atI_nat {α : Type} (l : List α) (n : Nat) : atI l (n : Int) = l[n]? := by
  unfold atI ixN
  rw [if_pos (Int.natCast_nonneg n)]
  by_cases h : (n : Int) < (l.length : Int)
  · rw [if_pos h]; rfl
  · rw [if_neg h]; exact (List.getElem?_eq_none (by omega)).symm
@[simp] theorem atI_0 {α : Type} (l : List α) : atI l 0 = l[0]? := atI_nat l 0
@[simp] theorem atI_1 {α : Type} (l : List α) : atI l 1 = l[1]? := atI_nat l 1
@[simp] theorem atI_2 {α : Type} (l : List α) : atI l 2 = l[2]? := atI_nat l 2
@[simp] theorem atI_3 {α : Type} (l : List α) : atI l 3 = l[3]? := atI_nat l 3
@[simp] theorem atI_4 {α : Type} (l : List α) : atI l 4 = l[4]? := atI_nat l 4
@[simp] theorem atI_5 {α : Type} (l : List α) : atI l 5 = l[5]? := atI_nat l 5
@[simp] theorem atI_6 {α : Type} (l : List α) : atI l 6 = l[6]? := atI_nat l 6
@[simp] theorem atI_7 {α : Type} (l : List α) : atI l 7 = l[7]? := atI_nat l 7
@[simp] theorem atI_8 {α : Type} (l : List α) : atI l 8 = l[8]? := atI_nat l 8
@[simp] theorem atI_9 {α : Type} (l : List α) : atI l 9 = l[9]? := atI_nat l 9
@[simp] theorem atI_10 {α : Type} (l : List α) : atI l 10 = l[10]? := atI_nat l 10
@[simp] theorem atI_11 {α : Type} (l : List α) : atI l 11 = l[11]? := atI_nat l 11
@[simp] theorem atI_m1 {α : Type} (l : List α) : atI l (-1) = l[l.length - 1]? := by
  unfold atI ixN
  rw [if_neg (by decide)]
  by_cases h : -(l.length : Int) ≤ -1
  · rw [if_pos h]
    show l[((-1 : Int) + (l.length : Int)).toNat]? = _
    congr 1; omega
  · rw [if_neg h]; exact (List.getElem?_eq_none (by omega)).symm
theorem strOk_of (s : String) : PyData.strOk (Str.ofString s) = true := by
  rw [Str.ofString_eq_toList]
  unfold PyData.strOk
  rw [Array.all_eq_true_iff_forall_mem]
  intro x hx
  simp only [List.mem_toArray, List.mem_map] at hx
  obtain ⟨c, _, rfl⟩ := hx
  have h := c.valid
  refine decide_eq_true ?_
  rcases h with h | ⟨_, h⟩
  · exact Nat.lt_trans h (by decide)
  · exact h
@[simp] theorem strOk_num (i : Int) : PyData.strOk (numStr i) = true := strOk_of _
/-- a for by an invariant of what is left -/
theorem forD_ind {g : AH → Prop} {tg : DG} {body : DS} {DD : DEnds} (I : List D → DSt → AH → Prop) (hg : ∀ l δ A, I l δ A → g A) (h0 : ∀ δ A, I [] δ A → DD.nx δ A)
    (h1 : ∀ x l δ A (N : DSt → AH → Prop), (∀ δ A, I l δ A → N δ A) → I (x :: l) δ A → tg x δ A fun δ1 A1 => body { DD with nx := N, ct := N, bk := DD.nx } δ1 A1) : ∀ l δ A, I l δ A → forD g tg body DD l δ A
  | [], δ, A, h => ⟨hg _ _ _ h, h0 _ _ h⟩
  | x :: l, δ, A, h => ⟨hg _ _ _ h, h1 x l δ A _ (forD_ind I hg h0 h1 l) h⟩
@[simp] theorem divOk_lit {n : Int} (h1 : 0 < n) (h2 : n < 18446744073709551616) : DivOk n := ⟨by omega, Nat.lt_of_lt_of_le (show n.natAbs < 2 ^ 64 by omega) (Nat.pow_le_pow_right (by decide) (by decide))⟩
@[simp] theorem mulOk_lit {i j : Int} (h1 : 0 ≤ j) (h2 : j < 18446744073709551616) : DL.MulOk i j := .inr (.inl (show j.natAbs < 2 ^ 64 by omega))
theorem mulOk_of {i j : Int} {a b : Nat} (h1 : i.natAbs < 2 ^ a) (h2 : j.natAbs < 2 ^ b) (hk : a + b ≤ 134217728) : DL.MulOk i j := .inr (.inr ⟨a, b, h1, h2, hk⟩)
section
variable {δ : DSt} {A : AH} {Q : DK} {D0 : DEnds} {R : List D → AH → Prop} {B : Bool → AH → Prop} {I : List D → (AH → Prop) → AH → Prop}
@[simp ↓] theorem bMin_eq {i j : Int} : bMin [.int i, .int j] A Q = Q (.int (if j < i then j else i)) A := rfl
@[simp ↓] theorem bLen_str {s : Str} : bLen [.str s] A Q = (Few s.length ∧ Q (.int s.length) A) := rfl
@[simp ↓] theorem bLen_tup {l : List D} : bLen [.tup l] A Q = Q (.int l.length) A := rfl
@[simp ↓] theorem bLen_lst {l : List D} : bLen [.lst l] A Q = Q (.int l.length) A := rfl
@[simp ↓] theorem bLen_rol {l : List D} : bLen [.rol l] A Q = Q (.int l.length) A := rfl
@[simp ↓] theorem iRng1_eq {t : DA} : iRng1 t δ A I = t δ A fun ds A1 => match ds with
  | [.int n] => Small n ∧ I (rngD 0 n.toNat) (fun _ => True) A1
  | _ => False := rfl
@[simp ↓] theorem iRng2_eq {t : DA} : iRng2 t δ A I = t δ A fun ds A1 => match ds with
  | [.int i, .int j] => (Small i ∧ Small j) ∧ I (rngD i (j - i).toNat) (fun _ => True) A1
  | _ => False := rfl
@[simp ↓] theorem iText_eq {t : DE} : iText t δ A I = t δ A fun d A1 => match d with
  | .str z => I (signsD z) (fun _ => True) A1
  | _ => False := rfl
@[simp ↓] theorem sRaise_eq {w : DW} {c : String} : sRaise w c D0 δ A = w c [] δ A := rfl
@[simp ↓] theorem sTryOnly_eq {w : DW} {sub : String → Option Bool} {b : DW → DS} {s : Addr → String → List (String × D) → DS} : sTryOnly w sub b s D0 δ A = b (fun c fs δ1 A1 => match sub c with
    | some true => ∀ a, s a c fs D0 δ1 A1
    | some false => w c fs δ1 A1
    | none => False) D0 δ A := rfl
@[simp ↓] theorem sTryAs_eq {w : DW} {sub : String → Option Bool} {i : Nat} {b : DW → DS} {s : Addr → String → List (String × D) → DS} : sTryAs w sub i b s D0 δ A = b (fun c fs δ1 A1 => match sub c with
    | some true => ∀ a, s a c fs (suiteEnds i D0) (δ1.set i (some (.ref a))) A1
    | some false => w c fs δ1 A1
    | none => False) D0 δ A := rfl
end
@[simp] theorem rngD_zero (lo : Int) : rngD lo 0 = [] := rfl
section
variable {A : AH}
@[simp] theorem ty_non : tyD A .non = some "NoneType" := rfl
@[simp] theorem ty_bl {b : Bool} : tyD A (.bl b) = some "bool" := rfl
@[simp] theorem ty_int {b : Int} : tyD A (.int b) = some "int" := rfl
@[simp] theorem ty_str {b : Str} : tyD A (.str b) = some "str" := rfl
@[simp] theorem ty_tup {b : List D} : tyD A (.tup b) = some "tuple" := rfl
@[simp] theorem ty_lst {b : List D} : tyD A (.lst b) = some "list" := rfl
@[simp] theorem ty_rol {b : List D} : tyD A (.rol b) = some "list" := rfl
@[simp] theorem ty_dic {k : List Key} {b : List D} : tyD A (.dic k b) = some "dict" := rfl
end
@[simp] theorem mulOk_lit2 {i j : Int} (h1 : 0 ≤ i) (h2 : i < 18446744073709551616) : DL.MulOk i j := .inl (show i.natAbs < 2 ^ 64 by omega)
end DL


/-! DL8: raise, except, isinstance of an exception; facts of one's own. -/
namespace DL
open PySem PySem.Spec PyProof.Rows L2
variable {K : PySem.W.Frag} {Z Z' Z0 : Hp} {X : Cx}
/-! ### raise C('..'), except C -/
theorem qs_raiseC {w : DW} {c : String} {m : Str} {j : Nat} {p p2 pos pos' : Pos} (fx : (He.Fa.exc (Str.ofString c)).ok X.K = true) (g : X.mg (Str.ofString c) = some (.ref (He.ga X.K (Str.ofString c)))) (hc : X.calm = true) (tk : Takes X (liftW X.K Z0 w)) (hg : Gl X (Str.ofString c))
    (hdb : (Str.ofString c == ("__debug__" : Str)) = false) : QS X Z0 (.Raise (some (.Call (.Name (Str.ofString c) p) [.Constant (.str m) j p2] [] pos')) none pos) (sRaise w c) := by
  obtain ⟨h1, h2, h3, h4⟩ := He.exc_ok fx
  exact qs_raise hc tk (pmk_own PySem.F.excBase_ValueError h1 g h2 (raises_own h3 h4) hg hdb)
/-- which classes an except clause takes -/
def excT (l : List (String × Bool)) (k : String) : Option Bool := lookS k l
theorem look_mem {k : String} {b : Bool} : ∀ {l : List (String × Bool)}, l.lookup k = some b → (k, b) ∈ l
  | [], h => by cases h
  | (a, c) :: l, h => by
    rw [List.lookup_cons] at h
    split at h
    · rename_i e
      have e2 := beq_iff_eq.mp e
      subst e2; cases h; exact List.mem_cons_self
    · exact List.mem_cons_of_mem _ (look_mem h)
theorem exc_tab {l : List (String × Bool)} {x : String} (h : ∀ p ∈ l, (He.Fa.exm (Str.ofString p.1) (Str.ofString x) p.2).ok K = true) (k : String) (b : Bool) (e : excT l k = some b) : PySem.W.exmOne K (.ref (He.ga K (Str.ofString k))) (.ref (He.ga K (Str.ofString x))) = some b :=
  He.exm_ok (h (k, b) (look_mem (by unfold excT at e; rwa [lookS_eq] at e)))
/-! ### facts of one's own -/
abbrev Fx := PySem.W.Frag → Bool
def allX (l : List Fx) (K : PySem.W.Frag) : Bool := l.all fun f => f K
theorem allX_at {l : List Fx} (h : allX l K = true) (i : Nat) {f : Fx} (e : l[i]? = some f := by rfl) : f K = true := List.all_eq_true.mp h f (List.mem_of_getElem? e)
/-- isinstance(e, D), e of the class c, D of the text -/
def fxIs (c D : String) (b : Bool) : Fx := fun K => decide (PySem.W.kitOne K (.ref (He.ga K (Str.ofString c))) (.ref (He.ga K (Str.ofString D))) = some b)
/-- .. D built-in -/
def fxIsB (c D : String) (b : Bool) : Fx := fun K => decide (PySem.W.kitOne K (.ref (He.ga K (Str.ofString c))) (.type D) = some b)
/-- what isinstance asks of an exception's class -/
def fxEx (c : String) : Fx := fun K => He.eqO (PySem.W.findIn K (.ref (He.ga K (Str.ofString c))) "__getattribute__") (some (some (.builtin "BaseException.__getattribute__"))) && (He.eqO (PySem.W.findIn K (.ref (He.ga K (Str.ofString c))) "__getattr__") (some none) && (decide (PySem.W.subIn K (.ref (He.ga K (Str.ofString c))) (.type "BaseException") = some true) && (PySem.W.hasDictIn K (He.ga K (Str.ofString c)) &&
  (He.eqO (PySem.W.findIn K (.ref (He.ga K (Str.ofString c))) "__class__") (some (some (.builtin "object.__class__"))) && (He.eqO (PySem.W.specialIn K (.builtin "object.__class__") "__get__") (some (some (.builtin "getset_descriptor.__get__"))) && (decide (PySem.W.takesIn K (.builtin "object.__class__") = some true) && decide (PySem.W.mroIn K (He.ga K (Str.ofString c)) (.type "object") = some true)))))))
theorem fxEx_ok {c : String} (h : fxEx c K = true) : ExcC K (He.ga K (Str.ofString c)) := by
  obtain ⟨h1, h⟩ := He.ba h
  obtain ⟨h2, h⟩ := He.ba h
  obtain ⟨h3, h⟩ := He.ba h
  obtain ⟨h4, h⟩ := He.ba h
  obtain ⟨h5, h⟩ := He.ba h
  obtain ⟨h6, h⟩ := He.ba h
  obtain ⟨h7, h8⟩ := He.ba h
  exact ⟨He.eqO_ok h1, He.eqO_ok h2, of_decide_eq_true h3, h4, He.eqO_ok h5, He.eqO_ok h6, of_decide_eq_true h7, of_decide_eq_true h8⟩
/-! ### isinstance(e, D) in a suite -/
section
variable {a : Addr} {oe : Obj} {cls : Value} {d : Option Addr} {pn : List (Addr × Obj)} {k : String} {Z1 : Hp} {e e2 : Expr} {te : DE} {p pos : Pos}
/-- the table tells what isinstance says: rows by the exception's class -/
def eIsE (a : Addr) (k : String) (fs : List (String × D)) (tb : List (String × Bool)) (t : DE) : DE := fun δ A Q => t δ A fun d A1 => d = .ref a ∧ fs = [] ∧ (match lookS k tb with
  | some b => Q (.bl b) A1
  | none => False)
theorem call_isTab {tb : List (String × Bool)} {fs : List (String × D)} {cv : Value} (kf : ∀ k ∈ tb.map (·.1), ExcC X.K (He.ga X.K (Str.ofString k))) (hk : ∀ p ∈ tb, PySem.W.kitOne X.K (.ref (He.ga X.K (Str.ofString p.1))) cv = some p.2) (hz : Zc cls d oe) (hf : ∃ vs, oe.data = .fields vs) (rx : RX X.K Z1 k fs cls d) :
    CallR (X.suite a ((a, oe) :: pn)) (.builtin "isinstance") (fun xs H Q => ∃ b, fs = [] ∧ tb.lookup k = some b ∧ ∃ c : V, xs = [.ref a, c] ∧ (∀ u, RelV c u → u = cv) ∧ Q (.bl b) H) := by
  intro pins s σ H xs us Q I r ⟨b, hfs, hb, c, e1, e2, q⟩
  have hmem := look_mem hb
  obtain ⟨ec, ed⟩ := rx
  subst hfs
  have dn : d = none := by
    rcases ed with ⟨_, q⟩ | ⟨_, _, q, _⟩
    · exact q
    · exact absurd rfl q
  subst dn
  rw [ec] at hz
  exact call_isE (kf k (List.mem_map.mpr ⟨_, hmem, rfl⟩)) hz hf pins s σ H xs us Q I r ⟨c, cv, b, e1, e2, hk _ hmem, q⟩
theorem qe_isAny {tb : List (String × Bool)} {c : V} {cv : Value} {fs : List (String × D)} (kf : ∀ k ∈ tb.map (·.1), ExcC X.K (He.ga X.K (Str.ofString k))) (hk : ∀ p ∈ tb, PySem.W.kitOne X.K (.ref (He.ga X.K (Str.ofString p.1))) cv = some p.2) (hz : Zc cls d oe) (hf : ∃ vs, oe.data = .fields vs) (rx : RX X.K Z1 k fs cls d)
    (hg : Gl (X.suite a ((a, oe) :: pn)) "isinstance") (hm : X.mg "isinstance" = none) (hc : PE (X.suite a ((a, oe) :: pn)) e2 (tC c)) (hcv : ∀ u, RelV c u → u = cv) (he : QE (X.suite a ((a, oe) :: pn)) Z0 e te)
    (h1 : starEach (e :: [e2]) X.env = (false, eval e X.env) :: starEach [e2] X.env := by rfl) (h2 : (backTo pos (starEach [e2] X.env)).any (·.1) = false := by rfl) (h3 : starEach [e2] X.env = [(false, eval e2 X.env)] := by rfl) :
    QE (X.suite a ((a, oe) :: pn)) Z0 (.Call (.Name "isinstance" p) [e, e2] [] pos) (eIsE a k fs tb te) := by
  refine PE.imp (pe_callB (call_isTab kf hk hz hf rx) hg hm (by decide +kernel) (pa_cons he (pa_cons hc pa_nil h3) h1) (he := h1) (hpl := h2)) fun σ H Q ⟨Z, δ, A, Kt, z, rs, ra, t, kk⟩ =>
    ⟨Z, δ, A, _, z, rs, ra, t, fun Z2 d A1 v H1 s1 ra1 rv t1 => ?_⟩
  obtain ⟨rfl, hfs, t1⟩ := t1
  rw [lookS_eq] at t1
  split at t1
  · rename_i b hb
    exact ⟨b, hfs, hb, c, by rw [rv_ref rv], hcv, kk Z2 _ A1 _ H1 s1 ra1 mk_bl t1⟩
  · exact t1.elim
end
end DL


/-! DL9: chains of three. -/
namespace DL
open PySem PySem.Spec PyProof.Rows L2
variable {K : PySem.W.Frag} {Z Z' Z0 : Hp} {X : Cx}
section
variable {a b c e : Expr} {ta tb tc td : TE} {pos : Pos}
end
section
variable {a b c e : Expr} {ta tb tc td : DE} {pos : Pos}
def eChain3 (rd rd' rd'' : DOp) (ta tb tc td : DE) : DE := fun δ A Q => ta δ A fun x A1 => tb δ A1 fun y A2 => rd x y A2 fun z A3 => match z with
  | .bl k => (k = true → tc δ A3 fun w A4 => rd' y w A4 fun z A5 => match z with
    | .bl k => (k = true → td δ A5 fun v A6 => rd'' w v A6 Q) ∧ (k = false → Q (.bl false) A5)
    | _ => False) ∧ (k = false → Q (.bl false) A3)
  | _ => False
end
section
variable {δ : DSt} {A : AH} {Q : DK}
@[simp ↓] theorem eChain3_eq {rd rd' rd'' : DOp} {ta tb tc td : DE} : eChain3 rd rd' rd'' ta tb tc td δ A Q = ta δ A fun x A1 => tb δ A1 fun y A2 => rd x y A2 fun z A3 => match z with
  | .bl k => (k = true → tc δ A3 fun w A4 => rd' y w A4 fun z A5 => match z with
    | .bl k => (k = true → td δ A5 fun v A6 => rd'' w v A6 Q) ∧ (k = false → Q (.bl false) A5)
    | _ => False) ∧ (k = false → Q (.bl false) A3)
  | _ => False := rfl
@[simp ↓] theorem eIsE_eq {a : Addr} {k : String} {fs : List (String × D)} {tb : List (String × Bool)} {t : DE} : eIsE a k fs tb t δ A Q = t δ A fun d A1 => d = .ref a ∧ fs = [] ∧ (match lookS k tb with
  | some b => Q (.bl b) A1
  | none => False) := rfl
end
end DL


/-! DLA: the module's texts; more of in, subscripts. -/
namespace DL
open PySem PySem.Spec PyProof.Rows L2
variable {K : PySem.W.Frag} {Z Z' Z0 : Hp} {X : Cx}
theorem qe_gstr {x z : Str} {pos : Pos} (h : ∃ t, X.mg x = some (.str z t)) (hg : Gl X x) (hd : (x == ("__debug__" : Str)) = false := by decide) : QE X Z0 (.Name x pos) (eC (.str z)) := by
  obtain ⟨t, h⟩ := h
  refine PE.imp (pe_glob (v := .str z) hg h ⟨t, rfl⟩ hd) fun σ H Q ⟨Z, δ, A, Kt, zz, rs, ra, q, k⟩ => k Z _ A _ H (Same.refl Z) ra mk_str q
section
variable {δ : DSt} {A : AH} {Q : DK}
@[simp ↓] theorem opIn_sign {b : Bool} {c : Nat} {z : Str} : opIn b (.str ⟨#[c]⟩) (.str z) A Q = Q (.bl (xor b (decide (c ∈ z.cps.toList)))) A := by
  simp [opIn, asDic]
@[simp ↓] theorem opIx_str {z : Str} {i : Int} : opIx (.str z) (.int i) A Q = (Few z.length ∧ (match atI z.cps.toList i with
      | some c => Q (.str ⟨#[c]⟩) A
      | none => False)) := rfl
end
theorem cps_app (x y : Str) : (x ++ y).cps.toList = x.cps.toList ++ y.cps.toList := by
  show (x.cps ++ y.cps).toList = _
  simp
end DL


/-! DLB: objects: fields set, classes called, methods, isinstance. -/
namespace DL
open PySem PySem.Spec PyProof.Rows L2
variable {K : PySem.W.Frag} {Z Z' Z0 : Hp} {X : Cx}
/-! ### frozen -/
def eFz (t : DE) : DE := fun δ A Q => t δ A fun d A1 => match d with
  | .ref a => (match A1 a with
    | some (.lst l) => Q (.lst l) (A1.del a)
    | some (.obj c fs) => Q (.obj c (fs.map (·.1)) (fs.map (·.2))) (A1.del a)
    | some (.dic kvs) => Q (.dic (kvs.map (·.1)) (kvs.map (·.2))) (A1.del a)
    | _ => False)
  | d => Q d A1
theorem fz_ok {A : AH} {H : Hp} {a : Addr} {o : AO} (R : RA K Z A H) (h : A a = some o) : ∃ Z2, Same Z Z2 ∧ RA K Z2 (A.del a) H ∧ (match o with
    | .lst l => RV K Z2 (.lst l) (.ref a)
    | .obj c fs => RV K Z2 (.obj c (fs.map (·.1)) (fs.map (·.2))) (.ref a)
    | .dic kvs => RV K Z2 (.dic (kvs.map (·.1)) (kvs.map (·.2))) (.ref a)
    | .tk _ _ => True) := by
  have q := (R.at_ a o h).2
  cases o with
  | lst l =>
    obtain ⟨vs, e1, e2⟩ := q
    obtain ⟨s, r⟩ := R.freeze h e1
    refine ⟨_, s, r, ?_⟩
    show RV K _ (.lst l) (.ref a)
    rw [RV]; exact ⟨a, vs, rfl, upd_same .., e2.mono s⟩
  | obj c fs =>
    obtain ⟨dx, us, e1, e2, e3⟩ := q
    obtain ⟨s, r⟩ := R.freeze h e1
    refine ⟨_, s, r, ?_⟩
    show RV K _ (.obj c (fs.map (·.1)) (fs.map (·.2))) (.ref a)
    rw [RV]; exact ⟨a, dx, us, rfl, upd_same .., by rw [e2, List.map_map]; rfl, e3.mono s⟩
  | dic kvs =>
    obtain ⟨us, e1, e2, e3⟩ := q
    obtain ⟨s, r⟩ := R.freeze h e1
    refine ⟨_, s, r, ?_⟩
    show RV K _ (.dic (kvs.map (·.1)) (kvs.map (·.2))) (.ref a)
    rw [RV]; exact ⟨a, us, rfl, upd_same .., e2, e3.mono s⟩
  | tk hf kvs =>
    obtain ⟨us, e1, _⟩ := q
    obtain ⟨s, r⟩ := R.freeze h e1
    exact ⟨_, s, r, trivial⟩
theorem qe_fz {e : Expr} {t : DE} (h : QE X Z0 e t) : QE X Z0 e (eFz t) := PE.imp h fun σ H Q ⟨Z, δ, A, Kt, z, rs, ra, t, k⟩ =>
  ⟨Z, δ, A, _, z, rs, ra, t, fun Z1 d A1 v H1 s1 ra1 rv t1 => by
    cases d with
    | ref a =>
      have t1' : (match A1 a with
        | some (.lst l) => Kt (.lst l) (A1.del a)
        | some (.obj c fs) => Kt (.obj c (fs.map (·.1)) (fs.map (·.2))) (A1.del a)
        | some (.dic kvs) => Kt (.dic (kvs.map (·.1)) (kvs.map (·.2))) (A1.del a)
        | _ => False) := t1
      have ev := rv_ref rv
      subst ev
      cases ho : A1 a with
      | none => rw [ho] at t1'; exact t1'.elim
      | some o =>
        rw [ho] at t1'
        obtain ⟨Z2, s2, r2, q⟩ := fz_ok ra1 ho
        cases o with
        | lst l => exact k Z2 _ _ _ H1 (s1.trans s2) r2 q t1'
        | obj c fs => exact k Z2 _ _ _ H1 (s1.trans s2) r2 q t1'
        | dic kvs => exact k Z2 _ _ _ H1 (s1.trans s2) r2 q t1'
        | tk hf kvs => exact t1'.elim
    | _ => exact k Z1 _ A1 _ H1 s1 ra1 rv t1⟩
/-! ### fields set -/
def putD (f : String) (d : D) : List (String × D) → List (String × D)
  | [] => [(f, d)]
  | (g, x) :: r => if g = f then (g, d) :: r else (g, x) :: putD f d r
theorem put_ok {f : String} {d : D} {v : V} (r : RV K Z d v) : ∀ {fs : List (String × D)} {us : List (Str × V)}, us.map (·.1) = fs.map (fun p => Str.ofString p.1) → RVs K Z (fs.map (·.2)) (us.map (·.2)) →
    (putF (Str.ofString f) v us).map (·.1) = (putD f d fs).map (fun p => Str.ofString p.1) ∧ RVs K Z ((putD f d fs).map (·.2)) ((putF (Str.ofString f) v us).map (·.2))
  | [], us, e, _ => by
    have : us = [] := by simpa using e
    subst this
    exact ⟨rfl, .cons r .nil⟩
  | (g, x) :: fs, [], e, _ => by simp at e
  | (g, x) :: fs, (g2, y) :: us, e, q => by
    simp only [List.map_cons, List.cons.injEq] at e
    obtain ⟨e1, e2⟩ := e
    obtain ⟨v2, u2, e3, r1, r2⟩ := q.inv
    simp only [List.map_cons, List.cons.injEq] at e3
    obtain ⟨e4, e5⟩ := e3
    subst e4
    rw [← e5] at r2
    obtain ⟨i1, i2⟩ := put_ok (f := f) r e2 r2
    unfold putF putD
    by_cases hg : g = f
    · subst hg
      rw [if_pos rfl, if_pos e1]
      exact ⟨by simp [e1, e2], .cons r r2⟩
    · rw [if_neg hg, if_neg (fun z => hg (ofString_inj (e1.symm.trans z)))]
      exact ⟨by simp [e1, i1], .cons r1 i2⟩
def sFldSet (cs : List String) (f : String) (to te : DE) : DS := fun D δ A => te δ A fun d A1 => to δ A1 fun x A2 => match x with
  | .ref a => (match A2 a with
    | some (.obj c fs) => (c ∈ cs ∧ fs.length < 1000) ∧ D.nx δ (A2.put a (.obj c (putD f d fs)))
    | _ => False)
  | _ => False
theorem qs_fld {cs : List String} {f : String} {o value : Expr} {to te : DE} {pos pos' : Pos} (hf : ∀ c ∈ cs, FldOk X.K c f) (ho : QE X Z0 o to) (hv : QE X Z0 value te) (hs : swapsWith value (some (.Attribute o (Str.ofString f) pos')) pos.line X.env = pure false) :
    QS X Z0 (.Assign [.Attribute o (Str.ofString f) pos'] value pos) (sFldSet cs f to te) := PS.imp (ps_fld ho hv hs) fun D σ H ⟨Z, δ, A, DD, z, rs, ra, t, re⟩ =>
  ⟨Z, δ, A, _, z, rs, ra, t, fun Z1 d A1 v H1 s1 ra1 rv t1 => ⟨Z1, δ, A1, _, z.trans s1, rs.mono s1, ra1, t1, fun Z2 x A2 v2 H2 s2 ra2 rv2 t2 => by
    cases x with
    | ref a =>
      have t2' : (match A2 a with
        | some (.obj c fs) => (c ∈ cs ∧ fs.length < 1000) ∧ DD.nx δ (A2.put a (.obj c (putD f d fs)))
        | _ => False) := t2
      split at t2'
      · rename_i c fs q
        obtain ⟨⟨h1, h2⟩, h3⟩ := t2'
        obtain ⟨dx, us, e1, e2, e3⟩ := (ra2.at_ a _ q).2
        obtain ⟨p1, p2⟩ := put_ok (f := f) (rv.mono s2) e2 e3
        refine ⟨a, _, dx, us, rv_ref rv2, e1, (hf c h1).cls, (hf c h1).no, by have := congrArg List.length e2; simp at this; omega, ?_⟩
        exact re.nx Z2 δ (A2.put a (.obj c (putD f d fs))) σ _ (s1.trans s2) ((rs.mono s1).mono s2) (ra2.write (u := .obj c (putD f d fs)) q ⟨dx, _, upd_same .., p1, p2⟩) h3
      · exact t2'.elim
    | _ => exact t2.elim⟩⟩
/-! ### a class called -/
section
variable {P : Program} {w : World} {mg : Str → Option Value} {base : Heap} {k j : Nat}
structure DMake (P : Program) (w : World) (K : PySem.W.Frag) (mg : Str → Option Value) (base : Heap) (k : Nat) (c : String) (sp : DSp) : Prop where
  ex : ∃ (f : Addr) (fd : FuncData) (ps : List Str), L2.Mk K (He.ga K (Str.ofString c)) f ∧ FnOk P w K mg base (CX P w) k f fd ps (liftSp K sp) ∧ mg (Str.ofString c) = some (.ref (He.ga K (Str.ofString c))) ∧ Binds K fd ps []
theorem run_makeSD {CX : CXT} {C f : Addr} {fd : FuncData} {ps : List Str} {sp : Sp} {E : L2.St → XK} {pins : List (Addr × Obj)} {σ : L2.St} {H : Hp} {s : Shared} {Q : VK} {us : List Value} {vs : List V} (M : L2.Mk X.K C f) (F : FnOk X.prog X.w X.K X.mg X.base CX k f fd ps sp) (hr : Room (k + 1) X.A) (hb : Binds X.K fd ps [])
    (hx : PassesAt CX X σ (E σ)) (I : Inv X pins σ H s) (r : Vals vs us)
    (h : ∀ x dx, H x = none → H dx = none → dx ≠ x → sp (.ref x :: vs) (upd (upd H dx (.own x)) x (.ins C dx [])) (fun v H2 => v = .non ∧ Q (.ref x) H2) (E σ)) :
    wpAny (model X.prog X.w) X.A (call (.ref C) us) (EP X pins σ Q) X.xe s := by
  have hq := h (s.heap.objs.size + 1) s.heap.objs.size (I.hok.fresh (Nat.le_succ _)) (I.hok.fresh (Nat.le_refl _)) (Nat.ne_of_lt (Nat.lt_succ_self _))
  have I2 := Inv.made (C := C) I
  have r2 : Vals (V.ref (s.heap.objs.size + 1) :: vs) (Value.ref (s.heap.objs.size + 1) :: us) := .cons rfl r
  have hl : (Value.ref (s.heap.objs.size + 1) :: us ++ []).length = ps.length := by
    have e := r2.length
    rw [F.len _ _ _ _ hq] at e
    rw [List.append_nil]
    exact e.symm
  have hb2 := hb _ (Value.ref (s.heap.objs.size + 1) :: us) I2.kIn hl
  rw [List.append_nil] at hb2
  refine wpAny_call (make_map (f := f) I.kIn M.makes M.init (beq_iff_eq.mp M.fn) (codeAny_mono (F.run _ X.stack _ _ ⟨Value.ref (s.heap.objs.size + 1) :: us, []⟩ (Value.ref (s.heap.objs.size + 1) :: us) _ _ (E σ) (hr.make C us [])
    (I2.env0.make C us []) hb2 r2 hq) fun r s' hq' => ?_))
  cases r with
  | error e => exact hx pins _ _ e s' I2 hq'
  | ok fl =>
    cases fl with
    | ret u =>
      obtain ⟨v, H', I3, rv, ev, q3⟩ := I2.after hq'
      subst ev
      exact ⟨rv, ⟨V.ref (s.heap.objs.size + 1), H', I3, rfl, q3⟩⟩
    | next => exact False.elim hq'
    | brk => exact False.elim hq'
    | cont => exact False.elim hq'
/-- C(..): a new object; sp: what __init__ does -/
def eMk (w : DW) (c : String) (sp : DSp) (t : DA) : DE := fun δ A Q => t δ A fun ds A1 => ∀ x, A1 x = none → sp (.ref x :: ds) (A1.put x (.obj c [])) (fun d A2 => d = .non ∧ Q (.ref x) A2) fun k fs A2 => w k fs δ A2
def rMk (K : PySem.W.Frag) (C : Addr) (sp : Sp) (E : L2.St → XK) (t : TA) : TE := fun σ H Q => t σ H fun vs H1 => ∀ x dx, H1 x = none → H1 dx = none → dx ≠ x → sp (.ref x :: vs) (upd (upd H1 dx (.own x)) x (.ins C dx [])) (fun v H2 => v = .non ∧ Q (.ref x) H2) (E σ)
theorem lift_mk {w : DW} {c : String} {sp : DSp} {t : DA} {σ : L2.St} {H : Hp} {Q : VK} (h : liftE K Z0 (eMk w c sp t) σ H Q) : rMk K (He.ga K (Str.ofString c)) (liftSp K sp) (WE (liftW K Z0 w)) (liftA K Z0 t) σ H Q := by
  obtain ⟨Z, δ, A, Kt, z, rs, ra, t, k⟩ := h
  refine ⟨Z, δ, A, _, z, rs, ra, t, fun Z1 ds A1 vs H1 s1 ra1 rv t1 x dx hx hdx hne => ?_⟩
  have g1 : RA K Z1 A1 (upd H1 dx (.own x)) := ra1.grow fun a o e => by rw [upd_ne (ne_of_none e hdx)]; exact e
  have hx2 : (upd H1 dx (.own x)) x = none := by rw [upd_ne (fun e => hne e.symm)]; exact hx
  have g2 := g1.newO (o := .ins (He.ga K (Str.ofString c)) dx []) (u := .obj c []) hx2 ⟨dx, [], upd_same .., rfl, .nil⟩
  refine ⟨Z1, .ref x :: ds, _, _, _, .cons mk_ref rv, g2, t1 x (ra1.fresh hx).1, fun Z2 d A2 v H2 s2 ra2 rv2 ⟨e, q⟩ => ?_, fun Z2 c fs A2 cv dd H2 s2 ra2 rx q => ⟨Z2, δ, A2, c, fs, (z.trans s1).trans s2, (rs.mono s1).mono s2, ra2, rx, q⟩⟩
  subst e
  exact ⟨rv_non rv2, k Z2 (.ref x) A2 _ H2 (s1.trans s2) ra2 mk_ref q⟩
theorem qe_mk {w : DW} {c : String} {sp : DSp} {t : DA} {e : Expr} {es : List Expr} {p pos : Pos} (F : DMake X.prog X.w X.K X.mg X.base k c sp) (hr : Room j X.A) (hk : k + 1 ≤ j) (hg : Gl X (Str.ofString c)) (tk : Takes X (liftW X.K Z0 w)) (ha : QA X Z0 (e :: es) t) (hdb : (Str.ofString c == ("__debug__" : Str)) = false)
    (he : starEach (e :: es) X.env = (false, eval e X.env) :: starEach es X.env := by rfl) (hpl : (backTo pos (starEach es X.env)).any (·.1) = false := by rfl) : QE X Z0 (.Call (.Name (Str.ofString c) p) (e :: es) [] pos) (eMk w c sp t) := by
  obtain ⟨f, fd, ps, M, F, hm, b⟩ := F.ex
  refine PE.imp (t := rMk X.K (He.ga X.K (Str.ofString c)) (liftSp X.K sp) (WE (liftW X.K Z0 w)) (liftA X.K Z0 t)) ⟨fun pins s σ H Q I h => ?_⟩ fun σ H Q h => lift_mk h
  refine wpAny_Call_Name_kw (ld_glob I hg hm ?_ hdb)
  refine PySem.W.callWith_K (h₀ := X.base) I.ok.mod.kin M.kp (thn (ha.run pos pins s σ H _ I h) fun us s1 ⟨vs, H1, I1, r, q⟩ => ⟨I1.kIn, ?_⟩) he hpl
  exact run_makeSD M F (hr.mono hk) b (passAt tk σ) I1 r q
/-! ### methods -/
structure DMeth (P : Program) (w : World) (K : PySem.W.Frag) (mg : Str → Option Value) (base : Heap) (k : Nat) (c m : String) (sp : DSp) : Prop where
  ex : ∃ (f : Addr) (fd : FuncData) (ps : List Str), Cls K (He.ga K (Str.ofString c)) ∧ Meth K (He.ga K (Str.ofString c)) (Str.ofString m) f ∧ FnOk P w K mg base (CX P w) k f fd ps (liftSp K sp) ∧ Binds K fd ps []
def eMth (w : DW) (m : String) (tb : List (String × DSp)) (to : DE) (t : DA) : DE := fun δ A Q => to δ A fun d A1 => match asObj A1 d with
  | some (c, fs) => lookS m fs = none ∧ (match lookS c tb with
    | some sp => t δ A1 fun ds A2 => sp (d :: ds) A2 Q fun k gs A3 => w k gs δ A3
    | none => False)
  | none => False
theorem lookM {c : String} {sp : DSp} : ∀ {l : List (String × DSp)}, l.lookup c = some sp → (c, sp) ∈ l
  | [], h => by cases h
  | (a, b) :: l, h => by
    rw [List.lookup_cons] at h
    split at h
    · rename_i e
      have e2 := beq_iff_eq.mp e
      subst e2; cases h; exact List.mem_cons_self
    · exact List.mem_cons_of_mem _ (lookM h)
theorem qe_mth {w : DW} {m : String} {tb : List (String × DSp)} {to : DE} {t : DA} {o e : Expr} {es : List Expr} {apos pos : Pos} {pl : Sem Bool} (F : ∀ p ∈ tb, DMeth X.prog X.w X.K X.mg X.base k p.1 m p.2) (hr : Room j X.A) (hk : k ≤ j) (tk : Takes X (liftW X.K Z0 w)) (ho : QE X Z0 o to) (ha : QA X Z0 (e :: es) t)
    (hst : starEach (e :: es) X.env = (false, eval e X.env) :: starEach es X.env := by rfl) (hpl : (backTo pos (starEach es X.env)).any (·.1) = false := by rfl)
    (ht : eval (.Call (.Attribute o (Str.ofString m) apos) (e :: es) [] pos) X.env = (do
      let ov ← eval o X.env
      standAt apos.atName
      let (f, first) ← holding [ov] (getMethod ov (Str.ofString m) pl)
      callWith pos f first (backTo pos (starEach (e :: es) X.env)) (backToKw pos (keywordEach [] X.env))) := by rfl) :
    QE X Z0 (.Call (.Attribute o (Str.ofString m) apos) (e :: es) [] pos) (eMth w m tb to t) := by
  refine ⟨fun pins s σ H Q I h => ?_⟩
  obtain ⟨Z, δ, A, Kt, z, rs, ra, h, kk⟩ := h
  refine PySem.W.methodCall_KW (pl := pl) (thn (ho.run pins s σ H (fun v H1 => ∃ Z1 d A1, Same Z Z1 ∧ RA X.K Z1 A1 H1 ∧ RV X.K Z1 d v ∧ (match asObj A1 d with
    | some (c, fs) => lookS m fs = none ∧ (match lookS c tb with
      | some sp => t δ A1 fun ds A2 => sp (d :: ds) A2 Kt fun k gs A3 => w k gs δ A3
      | none => False)
    | none => False)) I ⟨Z, δ, A, _, z, rs, ra, h, fun Z1 d A1 v H1 s1 ra1 rv t1 => ⟨Z1, d, A1, s1, ra1, rv, t1⟩⟩) fun u s1 ⟨v, H1, I1, rx, Z1, d, A1, s1', ra1, rv, t1⟩ => ?_) ht
  split at t1
  · rename_i c fs q
    obtain ⟨hl, t1⟩ := t1
    rw [lookS_eq] at hl t1
    split at t1
    · rename_i sp hsp
      obtain ⟨f, fd, ps, c1, m1, F1, b1⟩ := (F _ (lookM hsp)).ex
      obtain ⟨p, dx, us, e1, e2, e3, e4⟩ := asObj_ok ra1 rv q
      subst e1
      obtain rfl : u = Value.ref p := rx
      have hl2 : us.lookup (Str.ofString m) = none := by
        rcases look_ok (f := m) e3 e4 with ⟨_, h2⟩ | ⟨d2, _, h1, _, _⟩
        · exact h2
        · rw [hl] at h1; cases h1
      refine getmeth_ok I1 e2 c1 m1 hl2 ?_
      refine PySem.W.callWith_K (first := [.ref p]) (h₀ := X.base) I1.ok.mod.kin m1.kp (thn (ha.run pos pins s1 σ H1 (fun vs H2 => ∃ Z2 ds A2, Same Z1 Z2 ∧ RA X.K Z2 A2 H2 ∧ RVs X.K Z2 ds vs ∧ sp (d :: ds) A2 Kt fun k gs A3 => w k gs δ A3) I1
        ⟨Z1, δ, A1, _, z.trans s1', rs.mono s1', ra1, t1, fun Z2 ds A2 vs H2 s2 ra2 rvs t2 => ⟨Z2, ds, A2, s2, ra2, rvs, t2⟩⟩) fun us2 s2 ⟨vs, H2, I2, r, Z2, ds, A2, s2', ra2, rvs, t2⟩ => ⟨I2.kIn, ?_⟩) hst hpl
      have h3 : liftSp X.K sp (.ref p :: vs ++ []) H2 Q (WE (liftW X.K Z0 w) σ) := by
        rw [List.append_nil]
        exact ⟨Z2, d :: ds, A2, Kt, _, .cons (rv.mono s2') rvs, ra2, t2, Kont.mono kk (s1'.trans s2'), fun Z3 c fs A3 cv dd H3 s3 ra3 rx q => ⟨Z3, δ, A3, c, fs, ((z.trans s1').trans s2').trans s3, ((rs.mono s1').mono s2').mono s3, ra3, rx, q⟩⟩
      exact run_fnSD (us := .ref p :: us2) (vs := .ref p :: vs) (ds := []) (dvs := []) F1 (hr.mono hk) b1 .nil (passAt tk σ) I2 (.cons rfl r) h3
    · exact t1.elim
  · exact t1.elim
theorem qe_mth0 {w : DW} {m : String} {tb : List (String × DSp)} {to : DE} {o : Expr} {apos pos : Pos} {pl : Sem Bool} (F : ∀ p ∈ tb, DMeth X.prog X.w X.K X.mg X.base k p.1 m p.2) (hr : Room j X.A) (hk : k ≤ j) (tk : Takes X (liftW X.K Z0 w)) (ho : QE X Z0 o to)
    (ht : eval (.Call (.Attribute o (Str.ofString m) apos) [] [] pos) X.env = (do
      let ov ← eval o X.env
      standAt apos.atName
      let (f, first) ← holding [ov] (getMethod ov (Str.ofString m) pl)
      callWith pos f first (backTo pos (starEach [] X.env)) (backToKw pos (keywordEach [] X.env))) := by rfl) :
    QE X Z0 (.Call (.Attribute o (Str.ofString m) apos) [] [] pos) (eMth w m tb to aNil) := by
  refine ⟨fun pins s σ H Q I h => ?_⟩
  obtain ⟨Z, δ, A, Kt, z, rs, ra, h, kk⟩ := h
  refine PySem.W.methodCall_KW (pl := pl) (thn (ho.run pins s σ H (fun v H1 => ∃ Z1 d A1, Same Z Z1 ∧ RA X.K Z1 A1 H1 ∧ RV X.K Z1 d v ∧ (match asObj A1 d with
    | some (c, fs) => lookS m fs = none ∧ (match lookS c tb with
      | some sp => sp [d] A1 Kt fun k gs A3 => w k gs δ A3
      | none => False)
    | none => False)) I ⟨Z, δ, A, _, z, rs, ra, h, fun Z1 d A1 v H1 s1 ra1 rv t1 => ⟨Z1, d, A1, s1, ra1, rv, t1⟩⟩) fun u s1 ⟨v, H1, I1, rx, Z1, d, A1, s1', ra1, rv, t1⟩ => ?_) ht
  split at t1
  · rename_i c fs q
    obtain ⟨hl, t1⟩ := t1
    rw [lookS_eq] at hl t1
    split at t1
    · rename_i sp hsp
      obtain ⟨f, fd, ps, c1, m1, F1, b1⟩ := (F _ (lookM hsp)).ex
      obtain ⟨p, dx, us, e1, e2, e3, e4⟩ := asObj_ok ra1 rv q
      subst e1
      obtain rfl : u = Value.ref p := rx
      have hl2 : us.lookup (Str.ofString m) = none := by
        rcases look_ok (f := m) e3 e4 with ⟨_, h2⟩ | ⟨d2, _, h1, _, _⟩
        · exact h2
        · rw [hl] at h1; cases h1
      refine getmeth_ok I1 e2 c1 m1 hl2 ?_
      have h3 : liftSp X.K sp ([.ref p] ++ []) H1 Q (WE (liftW X.K Z0 w) σ) :=
        ⟨Z1, [d], A1, Kt, _, .cons rv .nil, ra1, t1, Kont.mono kk s1', fun Z3 c fs A3 cv dd H3 s3 ra3 rx q => ⟨Z3, δ, A3, c, fs, (z.trans s1').trans s3, (rs.mono s1').mono s3, ra3, rx, q⟩⟩
      exact PySem.W.callWith_K0 (first := [.ref p]) I1.kIn m1.kp (run_fnSD (us := [.ref p]) (vs := [.ref p]) (ds := []) (dvs := []) F1 (hr.mono hk) b1 .nil (passAt tk σ) I1 (.cons rfl .nil) h3)
    · exact t1.elim
  · exact t1.elim
end
end DL


/-! DLC: a base's __init__, isinstance of an object, lists' and texts' methods, comprehensions. -/
namespace DL
open PySem PySem.Spec PyProof.Rows L2
variable {K : PySem.W.Frag} {Z Z' Z0 : Hp} {X : Cx}
/-! ### C.m(self, ..) -/
section
variable {P : Program} {w : World} {mg : Str → Option Value} {base : Heap} {k j : Nat}
structure DCls (P : Program) (w : World) (K : PySem.W.Frag) (mg : Str → Option Value) (base : Heap) (k : Nat) (c m : String) (sp : DSp) : Prop where
  ex : ∃ (f : Addr) (fd : FuncData) (ps : List Str), ClX.CRead K (He.ga K (Str.ofString c)) (.type "type") ∧ ClX.CVal K (He.ga K (Str.ofString c)) (.type "type") (Str.ofString m) (.ref f) (.ref f) ∧ PySem.W.keepIn K (.ref f) = true ∧
    mg (Str.ofString c) = some (.ref (He.ga K (Str.ofString c))) ∧ FnOk P w K mg base (CX P w) k f fd ps (liftSp K sp) ∧ Binds K fd ps []
end
/-! ### isinstance of an object -/
def eIsiC (tb : List (String × Bool)) (t : DE) : DE := fun δ A Q => t δ A fun d A1 => match asObj A1 d with
  | some (c, _) => (match lookS c tb with
    | some b => Q (.bl b) A1
    | none => False)
  | none => False
/-! ### built-in methods -/
abbrev DMt := D → List D → AH → DK → Prop
def LiftMt (K : PySem.W.Frag) (T : String) (rd : DMt) (r : V → List V → Hp → VK → Prop) : Prop := ∀ (Z : Hp) (A : AH) (H : Hp) (d : D) (v : V) (ds : List D) (vs : List V) (Kt : DK) (Q : VK), RA K Z A H → RV K Z d v → RVs K Z ds vs → rd d ds A Kt → Kont K Z Kt Q → r v vs H Q
def tyM (A : AH) (d : D) (T : String) : Prop := match d with
  | .str _ => T = "str"
  | .ref a => (match A a with
    | some (.lst _) => T = "list"
    | some (.dic _) => T = "dict"
    | _ => False)
  | .lst _ => T = "list"
  | .rol _ => T = "list"
  | .dic _ _ => T = "dict"
  | _ => False
theorem tyM_ok {A : AH} {H : Hp} {d : D} {v : V} {T : String} (R : RA K Z A H) (r : RV K Z d v) (h : tyM A d T) : tyV K T v H := by
  cases d with
  | str x => rw [rv_str r]; exact h
  | ref a =>
    rw [rv_ref r]
    have h' : (match A a with | some (.lst _) => T = "list" | some (.dic _) => T = "dict" | _ => False) := h
    split at h'
    · rename_i q; subst h'; obtain ⟨vs, e, _⟩ := (R.at_ a _ q).2; exact .inl ⟨rfl, _, SqL.of e⟩
    · rename_i q; subst h'; obtain ⟨vs, e, _⟩ := (R.at_ a _ q).2; exact .inr (.inr (.inl ⟨rfl, .inl ⟨_, e⟩⟩))
    · exact h'.elim
  | lst l =>
    have h' : T = "list" := h
    subst h'
    obtain ⟨p, vs, e, e2, _⟩ := rv_lst r; rw [e]; exact .inl ⟨rfl, _, SqL.of (R.sub _ _ e2)⟩
  | rol l =>
    have h' : T = "list" := h
    subst h'
    obtain ⟨p, vs, e, e2, _⟩ := rv_rol r; rw [e]; exact .inl ⟨rfl, _, sqL_mono R.sub e2⟩
  | dic ks l =>
    have h' : T = "dict" := h
    subst h'
    obtain ⟨p, vs, e, e2, _⟩ := rv_dic r; rw [e]; exact .inr (.inr (.inl ⟨rfl, .inl ⟨_, R.sub _ _ e2⟩⟩))
  | _ => exact h.elim
def eMt (T : String) (rd : DMt) (to : DE) (t : DA) : DE := fun δ A Q => to δ A fun d A1 => tyM A1 d T ∧ t δ A1 fun ds A2 => rd d ds A2 Q
section
variable {o e : Expr} {es : List Expr} {to : DE} {t : DA} {name : Str} {apos cpos : Pos} {T id : String} {r : V → List V → Hp → VK → Prop} {rd : DMt}
theorem qe_bm (l : LiftMt X.K T rd r) (pa : PlainAttrs T) (slot : Slot T name id) (hty : typeOf (.builtin id) = pure (.type "method_descriptor")) (hm : MtR X id r) (ho : QE X Z0 o to) (ha : QA X Z0 (e :: es) t)
    (hbase : attributeBase o name X.env (eval o X.env) = eval o X.env := by rfl)
    (hfew : ((backTo cpos (starEach (e :: es) X.env)).all (fun x => !x.1) && (backToKw cpos (keywordEach [] X.env)).all (fun x => x.1.isSome)
      && decide ((e :: es).length + ([] : List Keyword).length + (if ([] : List Keyword).isEmpty then 0 else 1) < 30)) = true := by rfl)
    (hline : (apos.endLine == cpos.line) = true := by rfl) (hs : starEach (e :: es) X.env = (false, eval e X.env) :: starEach es X.env := by rfl) (hplain : (backTo cpos (starEach es X.env)).any (·.1) = false := by rfl) :
    QE X Z0 (.Call (.Attribute o name apos) (e :: es) [] cpos) (eMt T rd to t) := PE.imp (pe_bm pa slot hty hm ho ha hbase hfew hline hs hplain) fun σ H Q ⟨Z, δ, A, Kt, z, rs, ra, t, k⟩ =>
  ⟨Z, δ, A, _, z, rs, ra, t, fun Z1 d A1 v H1 s1 ra1 rv t1 => ⟨tyM_ok ra1 rv t1.1, Z1, δ, A1, _, z.trans s1, rs.mono s1, ra1, t1.2, fun Z2 ds A2 vs H2 s2 ra2 rvs t2 =>
    l Z2 A2 H2 d v ds vs Kt Q ra2 (rv.mono s2) rvs t2 (Kont.mono k (s1.trans s2))⟩⟩
theorem qe_bm0 (l : LiftMt X.K T rd r) (pa : PlainAttrs T) (slot : Slot T name id) (hty : typeOf (.builtin id) = pure (.type "method_descriptor")) (hm : MtR X id r) (ho : QE X Z0 o to)
    (hbase : attributeBase o name X.env (eval o X.env) = eval o X.env := by rfl) (hline : (apos.endLine == cpos.line) = true := by rfl) : QE X Z0 (.Call (.Attribute o name apos) [] [] cpos) (eMt T rd to aNil) := PE.imp (pe_bm0 pa slot hty hm ho hbase hline) fun σ H Q ⟨Z, δ, A, Kt, z, rs, ra, t, k⟩ =>
  ⟨Z, δ, A, _, z, rs, ra, t, fun Z1 d A1 v H1 s1 ra1 rv t1 => ⟨tyM_ok ra1 rv t1.1, l Z1 A1 H1 d v [] [] Kt Q ra1 rv .nil t1.2 (Kont.mono k s1)⟩⟩
end
theorem lst_write {A : AH} {H : Hp} {a : Addr} {l l' : List D} {vs' : List V} (R : RA K Z A H) (h : A a = some (.lst l)) (r : RVs K Z l' vs') : RA K Z (A.put a (.lst l')) (upd H a (.lst vs')) :=
  R.write (u := .lst l') h ⟨vs', upd_same .., r⟩
def mApp : DMt := fun d ds A Q => match d, ds with
  | .ref a, [y] => (match A a with
    | some (.lst l) => Few l.length ∧ Q .non (A.put a (.lst (l ++ [y])))
    | _ => False)
  | _, _ => False
theorem lift_app : LiftMt K "list" mApp rAppend := fun Z A H d v ds vs Kt Q R r rs h k => by
  unfold mApp at h
  split at h
  · rename_i a y
    split at h
    · rename_i l q
      obtain ⟨u, rfl, ru⟩ := rs.one
      obtain ⟨us, e1, e2⟩ := (R.at_ a _ q).2
      exact ⟨a, us, u, rv_ref r, rfl, e1, by rw [e2.len]; exact Nat.lt_of_lt_of_le h.1 big_line, k Z _ _ _ _ (Same.refl Z) (lst_write R q (e2.append (.cons ru .nil))) mk_non h.2⟩
    · exact h.elim
  · exact h.elim
def mRev : DMt := fun d ds A Q => match d, ds with
  | .ref a, [] => (match A a with
    | some (.lst l) => Q .non (A.put a (.lst l.reverse))
    | _ => False)
  | _, _ => False
theorem lift_rev : LiftMt K "list" mRev rReverse := fun Z A H d v ds vs Kt Q R r rs h k => by
  unfold mRev at h
  split at h
  · rename_i a
    split at h
    · rename_i l q
      have := rs.inv0
      subst this
      obtain ⟨us, e1, e2⟩ := (R.at_ a _ q).2
      exact ⟨a, us, rv_ref r, rfl, e1, k Z _ _ _ _ (Same.refl Z) (lst_write R q e2.reverse) mk_non h⟩
    · exact h.elim
  · exact h.elim
def mClr : DMt := fun d ds A Q => match d, ds with
  | .ref a, [] => (match A a with
    | some (.lst l) => Q .non (A.put a (.lst []))
    | _ => False)
  | _, _ => False
def mPop : DMt := fun d ds A Q => match d, ds with
  | .ref a, [] => (match A a with
    | some (.lst l) => (match l[l.length - 1]? with
      | some y => Q y (A.put a (.lst l.dropLast))
      | none => False)
    | _ => False)
  | _, _ => False
def mIns : DMt := fun d ds A Q => match d, ds with
  | .ref a, [.int i, y] => (match A a with
    | some (.lst l) => (Few l.length ∧ 0 ≤ i ∧ i < 2 ^ 63) ∧ Q .non (A.put a (.lst (l.take i.toNat ++ [y] ++ l.drop i.toNat)))
    | _ => False)
  | _, _ => False
/-- ''.join(list of texts) -/
def strsD : List D → Option (List Str)
  | [] => some []
  | .str x :: l => (strsD l).map (x :: ·)
  | _ => none
def mJoin : DMt := fun d ds A Q => match d, ds with
  | .str x, [y] => (match (asS A y).bind strsD with
    | some ys => (ys.map (·.length)).sum + ys.length * x.length ≤ 1000000 ∧ Q (.str (Txt.join x ys)) A
    | none => False)
  | _, _ => False
end DL


/-! DLD: comprehensions. -/
namespace DL
open PySem PySem.Spec PyProof.Rows L2
variable {K : PySem.W.Frag} {Z Z' Z0 : Hp} {X : Cx}
def wipeD (δ : DSt) : List Nat → DSt
  | [] => δ
  | v :: vs => (wipeD δ vs).set v none
theorem wipe_rs {δ : DSt} {σ : L2.St} (r : RS K Z δ σ) : ∀ vs : List Nat, RS K Z (wipeD δ vs) (wipe σ vs)
  | [] => r
  | v :: vs => (wipe_rs r vs).set v (a := none) (b := none) trivial
theorem wipe_get (σ : L2.St) (j : Nat) : ∀ vs : List Nat, (wipe σ vs)[j]? = if j ∈ vs then (σ[j]?).map (fun _ => none) else σ[j]?
  | [] => by simp [wipe]
  | v :: vs => by
    unfold wipe
    rw [List.getElem?_set, wipe_length, wipe_get σ j vs]
    by_cases h : v = j
    · subst h
      rw [if_pos rfl]
      simp only [List.mem_cons, true_or, if_true]
      by_cases hl : v < σ.length
      · rw [if_pos hl, List.getElem?_eq_getElem hl]; rfl
      · rw [if_neg hl, List.getElem?_eq_none (by omega)]; rfl
    · rw [if_neg h]
      have e : (j ∈ v :: vs) ↔ j ∈ vs := ⟨fun q => (List.mem_cons.mp q).elim (fun e => absurd e.symm h) id, fun q => List.mem_cons_of_mem _ q⟩
      by_cases hj : j ∈ vs
      · rw [if_pos hj, if_pos (e.mpr hj)]
      · rw [if_neg hj, if_neg fun q => hj (e.mp q)]
theorem wipe_set {σ : L2.St} {i : Nat} {x : Option V} {vs : List Nat} (h : i ∈ vs) : wipe (σ.set i x) vs = wipe σ vs := by
  apply List.ext_getElem?
  intro j
  rw [wipe_get, wipe_get, List.getElem?_set]
  by_cases hj : i = j
  · subst hj
    rw [if_pos h, if_pos h, if_pos rfl]
    by_cases hl : i < σ.length
    · rw [if_pos hl, List.getElem?_eq_getElem hl]; try rfl
    · rw [if_neg hl, List.getElem?_eq_none (by omega)]; try rfl
  · rw [if_neg hj]
theorem wipe_wipe (σ : L2.St) (vs : List Nat) : wipe (wipe σ vs) vs = wipe σ vs := by
  apply List.ext_getElem?
  intro j
  rw [wipe_get, wipe_get]
  by_cases hj : j ∈ vs
  · rw [if_pos hj, if_pos hj, Option.map_map]; rfl
  · rw [if_neg hj, if_neg hj]
/-! ### targets that touch no other slot -/
def liftGw (K : PySem.W.Frag) (Z0 : Hp) (vs : List Nat) (g : DG) : TG := fun v σ H Q => ∃ Z d δ A Kt, Same Z0 Z ∧ RV K Z d v ∧ RS K Z δ σ ∧ RA K Z A H ∧ g d δ A Kt ∧
  ∀ Z' δ' A' σ' H', Same Z Z' → RS K Z' δ' σ' → RA K Z' A' H' → wipe σ' vs = wipe σ vs → Kt δ' A' → Q σ' H'
abbrev QGw (X : Cx) (Z0 : Hp) (vs : List Nat) (e : Expr) (g : DG) : Prop := PG X e (liftGw X.K Z0 vs g)
section
variable {e : Expr} {es : List Expr} {g : DG} {gs : DGs} {pos : Pos} {k : Nat} {vs : List Nat}
theorem qgw_name {i : Nat} {x : Str} (hv : i ∈ vs) (hN : X.N.Nodup) (hi : X.N[i]? = some x) (hx : Loc X.env.scope x) (hf : X.fn x = true ∨ X.env.scope.names.lookup x = some .local := by first | exact .inl rfl | exact .inr rfl | assumption) : QGw X Z0 vs (.Name x pos) (dgName i) :=
  PG.imp (pg_name hN hi hx hf) fun v σ H Q ⟨Z, d, δ, A, Kt, z, rv, rs, ra, t, k⟩ => k Z _ A _ H (Same.refl Z) (rs.set i (a := some d) (b := some v) rv) ra (wipe_set hv) t
end
/-! ### tests of a comprehension -/
abbrev QTs (X : Cx) (Z0 : Hp) (es : List Expr) (t : DT) : Prop := PTs X es (liftT X.K Z0 t)
def bYes : DT := fun _ A Q => Q true A
theorem PTs.imp {e : List Expr} {t u : TT} (h : PTs X e t) (i : ∀ σ H Q, u σ H Q → t σ H Q) : PTs X e u := ⟨fun pins s σ H Q I q => h.run pins s σ H Q I (i σ H Q q)⟩
theorem qts_nil : QTs X Z0 [] bYes := PTs.imp pts_nil fun σ H Q ⟨Z, δ, A, Kt, z, rs, ra, t, k⟩ => k Z true A H (Same.refl Z) ra t
/-! ### the list that grows -/
abbrev DFin := Addr → DK → AH → Prop
def finO : DFin := fun p Q A => (∃ l, A p = some (.lst l)) ∧ Q (.ref p) A
structure FinOk (K : PySem.W.Frag) (f : DFin) : Prop where
  ok : ∀ {Z : Hp} {A : AH} {H : Hp} {p : Addr} {Kt : DK} {Q : VK}, RA K Z A H → f p Kt A → Kont K Z Kt Q → Q (.ref p) H
theorem finO_ok : FinOk K finO := ⟨fun R h k => k _ (.ref _) _ _ _ (Same.refl _) R mk_ref h.2⟩
def compD (p : Addr) (gd : AH → Prop) (g : DG) (tt : DT) (te : DE) (vs : List Nat) (fin : AH → Prop) (δ : DSt) : List D → AH → Prop
  | [], A => gd A ∧ fin A
  | x :: l, A => gd A ∧ g x (wipeD δ vs) A fun δ2 A2 => tt δ2 A2 fun b A3 => (b = true → te δ2 A3 fun y A4 => ∃ acc, A4 p = some (.lst acc) ∧ Few acc.length ∧ compD p gd g tt te vs fin δ l (A4.put p (.lst (acc ++ [y])))) ∧
      (b = false → compD p gd g tt te vs fin δ l A3)
def eLc (fin : DFin) (it : DI) (g : DG) (tt : DT) (te : DE) (vs : List Nat) : DE := fun δ A Q => it δ A fun l gd A1 => ∀ p, A1 p = none → compD p gd g tt te vs (fin p Q) δ l (A1.put p (.lst []))
theorem lift_lc {fin : DFin} {it : DI} {g : DG} {tt : DT} {te : DE} {vs : List Nat} (fo : FinOk K fin) {σ : L2.St} {H : Hp} {Q : VK} (h : liftE K Z0 (eLc fin it g tt te vs) σ H Q) :
    tLc (liftI K Z0 it) (liftGw K Z0 vs g) (liftT K Z0 tt) (liftE K Z0 te) vs σ H Q := by
  obtain ⟨Z, δ, A, Kt, z, rs, ra, t, k⟩ := h
  refine ⟨Z, δ, A, _, z, rs, ra, t, fun Z1 l gd A1 J H1 s1 ra1 w t1 D hD => ?_⟩
  obtain ⟨G, Y, wk, hG, hY⟩ := w.ex
  have t2 := t1 D (ra1.fresh hD).1
  have r2 : RA K Z1 (A1.put D (.lst [])) (upd H1 D (.lst [])) := ra1.newO (o := .lst []) (u := .lst []) hD ⟨[], upd_same .., .nil⟩
  refine ⟨fun i m H => m = l.length - i ∧ i ≤ l.length ∧ ∃ Z2 A2, Same Z1 Z2 ∧ RA K Z2 A2 H ∧ compD D gd g tt te vs (fin D Kt) δ (l.drop i) A2, ⟨l.length, by omega, by omega, Z1, _, Same.refl Z1, r2, t2⟩, fun i m H ⟨em, hi, Z2, A2, s2, ra2, t2⟩ => ?_⟩
  by_cases hlt : i < l.length
  · have ed : l.drop i = l[i] :: l.drop (i + 1) := List.drop_eq_getElem_cons hlt
    rw [ed] at t2
    obtain ⟨tg2, t2⟩ := t2
    refine .inr ⟨wk.goes i H hlt (hG Z2 A2 H s2 ra2 tg2), fun H' => ∃ Z2 A2, Same Z1 Z2 ∧ RA K Z2 A2 H' ∧ compD D gd g tt te vs (fin D Kt) δ (l.drop (i + 1)) A2, fun H' q => ⟨l.length - (i + 1), by omega, rfl, hlt, q⟩, fun x H' hy => ?_⟩
    obtain ⟨Z3, d, s3, ra3, hd, rv⟩ := hY i Z2 A2 H x H' hlt s2 ra2 tg2 (wk.yields i H x H' hlt (hG Z2 A2 H s2 ra2 tg2) hy)
    have ed2 : l[i] = d := by rw [List.getElem?_eq_getElem hlt] at hd; exact Option.some.inj hd
    rw [ed2] at t2
    have s13 := s2.trans s3
    refine ⟨Z3, d, wipeD δ vs, A2, _, (z.trans s1).trans s13, rv, wipe_rs ((rs.mono s1).mono s13) vs, ra3, t2, fun Z4 δ4 A4 σ4 H4 s4 rs4 ra4 w4 t4 => ⟨by rw [w4, wipe_wipe], Z4, δ4, A4, _, ((z.trans s1).trans s13).trans s4, rs4, ra4, t4, fun Z5 b A5 H5 s5 ra5 t5 => ?_⟩⟩
    cases b with
    | true =>
      refine iteT ⟨Z5, δ4, A5, _, (((z.trans s1).trans s13).trans s4).trans s5, rs4.mono s5, ra5, t5.1 rfl, fun Z6 y A6 v6 H6 s6 ra6 rv6 ⟨acc, q1, q2, q3⟩ => ?_⟩
      obtain ⟨us, e1, e2⟩ := (ra6.at_ D _ q1).2
      exact ⟨us, e1, by rw [e2.len]; exact Nat.lt_of_lt_of_le q2 big_line, Z6, _, ((s13.trans s4).trans s5).trans s6, lst_write ra6 q1 (e2.append (.cons rv6 .nil)), q3⟩
    | false => exact iteF ⟨Z5, A5, (s13.trans s4).trans s5, ra5, t5.2 rfl⟩
  · have ei : i = l.length := by omega
    subst ei
    rw [List.drop_length] at t2
    exact .inl ⟨wk.stops H (hG Z2 A2 H s2 ra2 t2.1), fo.ok ra2 t2.2 (Kont.mono k (s1.trans s2))⟩
section
variable {elt tg iter : Expr} {ifs : List Expr} {scope : Scope} {own : List (Str × Nat)} {pos spos : Pos} {fin : DFin} {it : DI} {g : DG} {tt : DT} {te : DE}
theorem qe_lc (fo : FinOk X.K fin) (hc : X.calm = true) (hN : X.N.Nodup) (hi : QI X Z0 tg iter it) (ok : BlkOk X.N X.env.scope scope own)
    (hg : ∀ (s : Shared) (H : Hp) (C : Addr) (cl : List (Str × Addr)) (fp : List Addr), QGw (X.blk s H scope (compEnvC scope cl C X.env) fp) Z0 (own.map (·.2)) tg g) (ht : ∀ (s : Shared) (H : Hp) (C : Addr) (cl : List (Str × Addr)) (fp : List Addr), QTs (X.blk s H scope (compEnvC scope cl C X.env) fp) Z0 ifs tt)
    (he : ∀ (s : Shared) (H : Hp) (C : Addr) (cl : List (Str × Addr)) (fp : List Addr), QE (X.blk s H scope (compEnvC scope cl C X.env) fp) Z0 elt te) (hs : ∀ x, foldedSetIterable iter X.env x = pure x := by intro _; rfl) :
    QE X Z0 (.ListComp elt [⟨tg, iter, ifs, 0⟩] scope pos) (eLc fin it g tt te (own.map (·.2))) := PE.imp (pe_lc hc hN hi ok hg ht he hs) fun σ H Q h => lift_lc fo h
end
end DL


/-! DLE: x[i] = v, dicts; running the readings of objects, lists, comprehensions. -/
namespace DL
open PySem PySem.Spec PyProof.Rows L2
variable {K : PySem.W.Frag} {Z Z' Z0 : Hp} {X : Cx}
def putKD (kvs : List (Key × D)) (k : Key) (d : D) : List (Key × D) := if (kvs.any fun kv => decide (kv.1 = k)) = true then kvs.map (fun kv => if kv.1 = k then (kv.1, d) else kv) else kvs ++ [(k, d)]
theorem any_keys {k : Key} : ∀ {kvs : List (Key × D)} {us : List (Key × V)}, us.map (·.1) = kvs.map (·.1) → (us.any fun kv => decide (kv.1 = k)) = kvs.any fun kv => decide (kv.1 = k)
  | [], us, e => by have : us = [] := by simpa using e
                    subst this; rfl
  | a :: kvs, [], e => by simp at e
  | a :: kvs, b :: us, e => by
    simp only [List.map_cons, List.cons.injEq] at e
    rw [List.any_cons, List.any_cons, e.1, any_keys e.2]
theorem map_put {k : Key} {d : D} {v : V} (r : RV K Z d v) : ∀ {kvs : List (Key × D)} {us : List (Key × V)}, us.map (·.1) = kvs.map (·.1) → RVs K Z (kvs.map (·.2)) (us.map (·.2)) →
    (us.map (fun kv => if kv.1 = k then (kv.1, v) else kv)).map (·.1) = (kvs.map (fun kv => if kv.1 = k then (kv.1, d) else kv)).map (·.1) ∧
    RVs K Z ((kvs.map (fun kv => if kv.1 = k then (kv.1, d) else kv)).map (·.2)) ((us.map (fun kv => if kv.1 = k then (kv.1, v) else kv)).map (·.2))
  | [], us, e, _ => by
    have : us = [] := by simpa using e
    subst this; exact ⟨rfl, .nil⟩
  | a :: kvs, [], e, _ => by simp at e
  | (k1, x) :: kvs, (k2, y) :: us, e, q => by
    simp only [List.map_cons, List.cons.injEq] at e
    obtain ⟨e1, e2⟩ := e
    obtain ⟨v2, u2, e3, r1, r2⟩ := q.inv
    simp only [List.map_cons, List.cons.injEq] at e3
    obtain ⟨e4, e5⟩ := e3
    subst e4
    rw [← e5] at r2
    obtain ⟨i1, i2⟩ := map_put r e2 r2
    have e1' : k2 = k1 := e1
    subst e1'
    by_cases hk : k2 = k
    · simp only [List.map_cons, hk, if_true]
      exact ⟨by rw [i1], .cons r i2⟩
    · simp only [List.map_cons, hk, if_false]
      exact ⟨by rw [i1], .cons r1 i2⟩
theorem putK_ok {k : Key} {d : D} {v : V} (r : RV K Z d v) {kvs : List (Key × D)} {us : List (Key × V)} (e : us.map (·.1) = kvs.map (·.1)) (q : RVs K Z (kvs.map (·.2)) (us.map (·.2))) :
    (putK us k v).map (·.1) = (putKD kvs k d).map (·.1) ∧ RVs K Z ((putKD kvs k d).map (·.2)) ((putK us k v).map (·.2)) := by
  unfold putK putKD
  rw [any_keys e]
  split
  · exact map_put r e q
  · rw [List.map_append, List.map_append, List.map_append, List.map_append, e]
    exact ⟨rfl, q.append (.cons r .nil)⟩
def setD (x i d : D) (A : AH) (Q : AH → Prop) : Prop := match x with
  | .ref a => (match A a with
    | some (.lst l) => (match i with
      | .int k => (match ixN l.length k with
        | some j => Q (A.put a (.lst (l.set j d)))
        | none => False)
      | _ => False)
    | some (.dic kvs) => (match asKey i with
      | some k => Few kvs.length ∧ Q (A.put a (.dic (putKD kvs k d)))
      | none => False)
    | _ => False)
  | _ => False
def rSetAny : V → V → V → Hp → (Hp → Prop) → Prop := fun o i v H Q => rSetL o i v H Q ∨ ∃ a H4, o = .ref a ∧ DPut H a i v H4 ∧ Q H4
theorem set_any (hu : X.A.units + 1 < cLine) : PSet X rSetAny := by
  intro pins s σ H o i v ov iv u Q I ro ri rv h
  rcases h with h | ⟨a, H4, e, g, q⟩
  · exact set_list pins s σ H o i v ov iv u Q I ro ri rv h
  · subst e
    obtain rfl : ov = Value.ref a := ro
    exact d_setItem hu I g ri rv fun s4 I4 => ⟨H4, I4, q⟩
def dgSub (to ti : DE) : DG := fun d δ A Q => to δ A fun x A1 => ti δ A1 fun i A2 => setD x i d A2 fun A3 => Q δ A3
theorem qg_sub {o i : Expr} {to ti : DE} {pos : Pos} (hu : X.A.units + 1 < cLine) (ho : QE X Z0 o to) (hi : QE X Z0 i ti)
    (ha : ∀ v, assign (.Subscript o i pos) X.env v = (do
      let ov ← holding [v] (eval o X.env)
      let iv ← holding [v, ov] (eval i X.env)
      standAt pos
      holding [v, ov, iv] (setItem ov iv v)
      release [v, ov, iv] []) := by intro _; rfl) : QG X Z0 (.Subscript o i pos) (dgSub to ti) :=
  PG.imp (pg_sub ho hi (set_any hu) ha) fun v σ H Q ⟨Z, d, δ, A, Kt, z, rv, rs, ra, t, k⟩ =>
    ⟨Z, δ, A, _, z, rs, ra, t, fun Z1 x A1 vx H1 s1 ra1 rx t1 => ⟨Z1, δ, A1, _, z.trans s1, rs.mono s1, ra1, t1, fun Z2 i A2 vi H2 s2 ra2 ri t2 => by
      unfold setD at t2
      split at t2
      · rename_i a
        split at t2
        · rename_i l q
          split at t2
          · rename_i kk
            split at t2
            · rename_i j hj
              obtain ⟨us, e1, e2⟩ := (ra2.at_ a _ q).2
              exact .inl ⟨a, us, kk, j, rv_ref (rx.mono s2), rv_int ri, e1, by rw [e2.len]; exact hj, k Z2 δ _ σ _ (s1.trans s2) ((rs.mono s1).mono s2) (lst_write ra2 q (e2.set j ((rv.mono s1).mono s2))) t2⟩
            · exact t2.elim
          · exact t2.elim
        · rename_i kvs q
          split at t2
          · rename_i kk hk
            obtain ⟨us, e1, e2, e3⟩ := (ra2.at_ a _ q).2
            have ek := asKey_ok ri hk
            subst ek
            obtain ⟨p1, p2⟩ := putK_ok (k := kk) ((rv.mono s1).mono s2) e2 e3
            exact .inr ⟨a, _, rv_ref (rx.mono s2), DPut.k e1 (by have := congrArg List.length e2; simp at this; rw [this]; exact Nat.lt_of_lt_of_le t2.1 big_line),
              k Z2 δ (A2.put a (.dic (putKD kvs kk d))) σ _ (s1.trans s2) ((rs.mono s1).mono s2) (ra2.write (u := .dic (putKD kvs kk d)) q ⟨_, upd_same .., p1, p2⟩) t2.2⟩
          · exact t2.elim
        · exact t2.elim
      · exact t2.elim⟩⟩
/-! ### nothing is let out -/
abbrev w0 : DW := fun _ _ _ _ => False
theorem fnok_mono {P : Program} {w : World} {mg : Str → Option Value} {base : Heap} {CX : CXT} {k k' : Nat} {f : Addr} {fd : FuncData} {ps : List Str} {sp : Sp} (F : FnOk P w K mg base CX k f fd ps sp) (h : k ≤ k') : FnOk P w K mg base CX k' f fd ps sp :=
  ⟨F.len, fun A outer s H args us vs Q E hr => F.run A outer s H args us vs Q E (hr.mono h)⟩
/-! ### running -/
section
variable {δ : DSt} {A : AH} {Q : DK} {D0 : DEnds} {R : List D → AH → Prop} {B : Bool → AH → Prop} {I : List D → (AH → Prop) → AH → Prop} {G : DSt → AH → Prop} {a : Addr} {l : List D}
@[simp ↓] theorem eFz_eq {t : DE} : eFz t δ A Q = t δ A fun d A1 => match d with
  | .ref a => (match A1 a with
    | some (.lst l) => Q (.lst l) (A1.del a)
    | some (.obj c fs) => Q (.obj c (fs.map (·.1)) (fs.map (·.2))) (A1.del a)
    | some (.dic kvs) => Q (.dic (kvs.map (·.1)) (kvs.map (·.2))) (A1.del a)
    | _ => False)
  | d => Q d A1 := rfl
@[simp ↓] theorem sFldSet_eq {cs : List String} {f : String} {o t : DE} : sFldSet cs f o t D0 δ A = t δ A fun d A1 => o δ A1 fun x A2 => match x with
  | .ref a => (match A2 a with
    | some (.obj c fs) => (c ∈ cs ∧ fs.length < 1000) ∧ D0.nx δ (A2.put a (.obj c (putD f d fs)))
    | _ => False)
  | _ => False := rfl
@[simp ↓] theorem eMk_eq {w : DW} {c : String} {sp : DSp} {t : DA} : eMk w c sp t δ A Q = t δ A fun ds A1 => ∀ x, A1 x = none → sp (.ref x :: ds) (A1.put x (.obj c [])) (fun d A2 => d = .non ∧ Q (.ref x) A2) fun k fs A2 => w k fs δ A2 := rfl
@[simp ↓] theorem eMth_eq {w : DW} {m : String} {tb : List (String × DSp)} {o : DE} {t : DA} : eMth w m tb o t δ A Q = o δ A fun d A1 => match asObj A1 d with
  | some (c, fs) => lookS m fs = none ∧ (match lookS c tb with
    | some sp => t δ A1 fun ds A2 => sp (d :: ds) A2 Q fun k gs A3 => w k gs δ A3
    | none => False)
  | none => False := rfl
@[simp ↓] theorem eIsiC_eq {tb : List (String × Bool)} {t : DE} : eIsiC tb t δ A Q = t δ A fun d A1 => match asObj A1 d with
  | some (c, _) => (match lookS c tb with
    | some b => Q (.bl b) A1
    | none => False)
  | none => False := rfl
@[simp ↓] theorem eFld_eq {cs : List String} {f : String} {t : DE} : eFld cs f t δ A Q = t δ A fun d A1 => match asObj A1 d with
  | some (c, fs) => c ∈ cs ∧ (match lookS f fs with
    | some d => Q d A1
    | none => False)
  | none => False := rfl
@[simp ↓] theorem eMt_eq {T : String} {rd : DMt} {o : DE} {t : DA} : eMt T rd o t δ A Q = o δ A fun d A1 => tyM A1 d T ∧ t δ A1 fun ds A2 => rd d ds A2 Q := rfl
@[simp ↓] theorem mApp_eq {y : D} : mApp (.ref a) [y] A Q = match A a with
  | some (.lst l) => Few l.length ∧ Q .non (A.put a (.lst (l ++ [y])))
  | _ => False := rfl
@[simp ↓] theorem mRev_eq : mRev (.ref a) [] A Q = match A a with
  | some (.lst l) => Q .non (A.put a (.lst l.reverse))
  | _ => False := rfl
@[simp ↓] theorem mClr_eq : mClr (.ref a) [] A Q = match A a with
  | some (.lst l) => Q .non (A.put a (.lst []))
  | _ => False := rfl
@[simp ↓] theorem mPop_eq : mPop (.ref a) [] A Q = match A a with
  | some (.lst l) => (match l[l.length - 1]? with
      | some y => Q y (A.put a (.lst l.dropLast))
      | none => False)
  | _ => False := rfl
@[simp ↓] theorem mIns_eq {i : Int} {y : D} : mIns (.ref a) [.int i, y] A Q = match A a with
  | some (.lst l) => (Few l.length ∧ 0 ≤ i ∧ i < 2 ^ 63) ∧ Q .non (A.put a (.lst (l.take i.toNat ++ [y] ++ l.drop i.toNat)))
  | _ => False := rfl
@[simp ↓] theorem mJoin_eq {x : Str} {y : D} : mJoin (.str x) [y] A Q = match (asS A y).bind strsD with
    | some ys => (ys.map (·.length)).sum + ys.length * x.length ≤ 1000000 ∧ Q (.str (Txt.join x ys)) A
    | none => False := rfl
@[simp ↓] theorem mkO_eq : mkO l A Q = ∀ p, A p = none → Q (.ref p) (A.put p (.lst l)) := rfl
@[simp ↓] theorem dgSub_eq {o i : DE} {d : D} : dgSub o i d δ A G = o δ A fun x A1 => i δ A1 fun i A2 => setD x i d A2 fun A3 => G δ A3 := rfl
@[simp ↓] theorem bYes_eq : bYes δ A B = B true A := rfl
@[simp ↓] theorem eLc_eq {fin : DFin} {it : DI} {g : DG} {tt : DT} {te : DE} {vs : List Nat} : eLc fin it g tt te vs δ A Q = it δ A fun l gd A1 => ∀ p, A1 p = none → compD p gd g tt te vs (fin p Q) δ l (A1.put p (.lst [])) := rfl
@[simp] theorem tyM_str {x : Str} {T : String} : tyM A (.str x) T = (T = "str") := rfl
@[simp] theorem tyM_lst {T : String} : tyM A (.lst l) T = (T = "list") := rfl
@[simp] theorem tyM_rol {T : String} : tyM A (.rol l) T = (T = "list") := rfl
theorem tyM_ref {T : String} (h : A a = some (.lst l)) : tyM A (.ref a) T = (T = "list") := by unfold tyM; simp only [h]
theorem ty_ref {l : List D} (h : A a = some (.lst l)) : tyD A (.ref a) = some "list" := by unfold tyD; simp only [h]
theorem drf_ref {l : List D} (h : A a = some (.lst l)) : drf A (.ref a) = .lst l := by unfold drf; simp only [h]
@[simp] theorem asObj_obj {c : String} {ns : List String} {vs : List D} : asObj A (.obj c ns vs) = some (c, ns.zip vs) := rfl
theorem asObj_ref {c : String} {fs : List (String × D)} (h : A a = some (.obj c fs)) : asObj A (.ref a) = some (c, fs) := by unfold asObj; simp only [h]
@[simp] theorem tyM_put {T : String} : tyM (A.put a (.lst l)) (.ref a) T = (T = "list") := tyM_ref (AH.put_same ..)
@[simp] theorem ty_put : tyD (A.put a (.lst l)) (.ref a) = some "list" := ty_ref (AH.put_same ..)
@[simp] theorem drf_put : drf (A.put a (.lst l)) (.ref a) = .lst l := drf_ref (AH.put_same ..)
@[simp] theorem asObj_put {c : String} {fs : List (String × D)} : asObj (A.put a (.obj c fs)) (.ref a) = some (c, fs) := asObj_ref (AH.put_same ..)
@[simp] theorem asS_put : asS (A.put a (.lst l)) (.ref a) = some l := by unfold asS asL; simp
@[simp] theorem asS_lst : asS A (.lst l) = some l := rfl
@[simp] theorem asS_tup : asS A (.tup l) = some l := rfl
@[simp] theorem asS_rol : asS A (.rol l) = some l := rfl
end
end DL


/-! DLF: the head's facts with the library's statics beside; is None of values. -/
namespace DL
open PySem PySem.Spec PyProof.Rows L2
abbrev AlZ : Type := He.AlD × Bool
def SaysZ (fa : List He.Fa) (fn : List He.DefD) (ex : PySem.W.Frag → Bool) (K : PySem.W.Frag) : Prop := He.SaysD fa fn K ∧ ex K = true
@[simp] theorem non_non : D.isNon .non = true := rfl
@[simp] theorem non_bl {b : Bool} : D.isNon (.bl b) = false := rfl
@[simp] theorem non_int {b : Int} : D.isNon (.int b) = false := rfl
@[simp] theorem non_str {b : Str} : D.isNon (.str b) = false := rfl
@[simp] theorem non_tup {b : List D} : D.isNon (.tup b) = false := rfl
@[simp] theorem non_lst {b : List D} : D.isNon (.lst b) = false := rfl
@[simp] theorem non_rol {b : List D} : D.isNon (.rol b) = false := rfl
@[simp] theorem non_ref {b : Addr} : D.isNon (.ref b) = false := rfl
@[simp] theorem non_obj {c : String} {ns : List String} {b : List D} : D.isNon (.obj c ns b) = false := rfl
/-! ### what a def leaves behind is forgotten -/
def Sub (A B : AH) : Prop := ∀ a o, A a = some o → B a = some o
theorem Sub.refl (A : AH) : Sub A A := fun _ _ h => h
theorem Sub.put {A B : AH} {p : Addr} {o : AO} (s : Sub A B) (h : A p = none) : Sub A (B.put p o) := fun a u e => by
  have hn : a ≠ p := fun z => by rw [z, h] at e; cases e
  rw [AH.put_ne B o hn]; exact s a u e
theorem Sub.del {A B : AH} {p : Addr} (s : Sub A B) (h : A p = none) : Sub A (B.del p) := fun a u e => by
  have hn : a ≠ p := fun z => by rw [z, h] at e; cases e
  rw [AH.del_ne B hn]; exact s a u e
def dropQ (Q : DK) : DK := fun d A => ∃ A2, Sub A2 A ∧ Q d A2
section
variable {A : AH} {Q : DK} {m : Mk} {l : List D} {a : Addr}
@[simp ↓] theorem bList_lst : bList m [.lst l] A Q = m l A Q := rfl
@[simp ↓] theorem bList_tup : bList m [.tup l] A Q = m l A Q := rfl
@[simp ↓] theorem bList_rol : bList m [.rol l] A Q = m l A Q := rfl
end
theorem ixN_in {n : Nat} {i : Int} (h0 : 0 ≤ i) (h1 : i < n) : ixN n i = some i.toNat := by unfold ixN; rw [if_pos h0, if_pos h1]
end DL


/-! DLG: texts parted. -/
namespace DL
open PySem PySem.Spec PyProof.Rows L2
variable {K : PySem.W.Frag}
end DL


/-! DLH: dict.get; the first item taken out of a list. -/
namespace DL
open PySem PySem.Spec PyProof.Rows L2
variable {K : PySem.W.Frag} {X : Cx} {Z0 : Hp}
/-- d.get(k), d.get(k, x) -/
def mGet : DMt := fun d ds A Q => match asDic A d, ds with
  | some kvs, [k] => (match asKey k with
    | some k => Q ((dget kvs k).getD .non) A
    | none => False)
  | some kvs, [k, x] => (match asKey k with
    | some k => Q ((dget kvs k).getD x) A
    | none => False)
  | _, _ => False
theorem isD_ty {A : AH} {Z H : Hp} {d : D} {v : V} (ra : RA K Z A H) (rv : RV K Z d v) (h : tyM A d "dict") : ∃ p, v = .ref p ∧ IsD H p := by
  have : ∃ kvs, asDic A d = some kvs := by
    unfold tyM at h
    cases d with
    | dic ks vs => exact ⟨_, rfl⟩
    | ref a =>
      have h' : (match A a with | some (.lst _) => ("dict" : String) = "list" | some (.dic _) => ("dict" : String) = "dict" | _ => False) := h
      show ∃ kvs, (match A a with | some (.dic kvs) => some kvs | _ => none) = some kvs
      split at h'
      · exact absurd h' (by decide)
      · rename_i kvs q; exact ⟨kvs, by rw [q]⟩
      · exact h'.elim
    | str _ => exact absurd (show ("dict" : String) = "str" from h) (by decide)
    | lst _ => exact absurd (show ("dict" : String) = "list" from h) (by decide)
    | rol _ => exact absurd (show ("dict" : String) = "list" from h) (by decide)
    | _ => exact h.elim
  obtain ⟨kvs, h⟩ := this
  obtain ⟨p, us, e1, e2, _, _⟩ := asDic_ok ra rv h
  exact ⟨p, e1, .inl ⟨us, .inl e2⟩⟩
theorem get_ok {A : AH} {Z H : Hp} {d k x : D} {v vk : V} {kvs : List (Key × D)} {ky : Key} (ra : RA K Z A H) (rv : RV K Z d v) (rk : RV K Z k vk) (h1 : asDic A d = some kvs) (h2 : asKey k = some ky) :
    ∃ p o, v = .ref p ∧ DGet H p vk o ∧ ∀ x u, RV K Z x u → RV K Z ((dget kvs ky).getD x) (o.getD u) := by
  obtain ⟨p, us, e1, e2, e3, e4⟩ := asDic_ok ra rv h1
  refine ⟨p, valV us ky, e1, ?_, fun x u ru => ?_⟩
  · rw [asKey_ok rk h2]; exact DGet.k e2
  · rcases dget_ok (k := ky) e3 e4 with ⟨q1, q2⟩ | ⟨d', w, q1, q2, q3⟩
    · rw [q1, q2]; exact ru
    · rw [q1, q2]; exact q3
section
variable {o e f : Expr} {apos cpos : Pos} {to te tf : DE}
theorem qe_dget (hu : X.A.units + 1 < cLine) (ho : QE X Z0 o to) (he : QE X Z0 e te) (m1 : attributeBase o "get" X.env (eval o X.env) = eval o X.env := by rfl)
    (m2 : ((backTo cpos (starEach [e] X.env)).all (fun x => !x.1) && (backToKw cpos (keywordEach [] X.env)).all (fun x => x.1.isSome)
    && decide (([e] : List Expr).length + ([] : List Keyword).length + (if ([] : List Keyword).isEmpty then 0 else 1) < 30)) = true := by rfl)
    (m3 : (apos.endLine == cpos.line) = true := by rfl) (m4 : backTo cpos (starEach [e] X.env) = [(false, eval e X.env)] := by rfl) :
    QE X Z0 (.Call (.Attribute o "get" apos) [e] [] cpos) (eMt "dict" mGet to (aCons te aNil)) := PE.imp (pe_dget1 hu ho he ⟨m1, m2, m3, m4⟩) fun σ H Q ⟨Z, δ, A, Kt, z, rs, ra, t, k⟩ =>
  ⟨Z, δ, A, _, z, rs, ra, t, fun Z1 d A1 v H1 s1 ra1 rv t1 => by
    obtain ⟨p, e1, hd⟩ := isD_ty ra1 rv t1.1
    refine ⟨p, e1, hd, Z1, δ, A1, _, z.trans s1, rs.mono s1, ra1, t1.2, fun Z2 y A2 vy H2 s2 ra2 ry t2 => ?_⟩
    have t2' : mGet d [y] A2 Kt := t2
    unfold mGet at t2'
    split at t2'
    · rename_i kvs k' h1 e2
      cases e2
      split at t2'
      · rename_i ky h2
        obtain ⟨p2, o, e3, g, hv⟩ := get_ok (x := .non) ra2 (rv.mono s2) ry h1 h2
        rw [e1] at e3; cases e3
        exact ⟨o, g, k Z2 _ A2 _ H2 (s1.trans s2) ra2 (hv _ _ mk_non) t2'⟩
      · exact t2'.elim
    · rename_i e2; cases e2
    · exact t2'.elim⟩
/-- l.pop(0) -/
def mPopI : DMt := fun d ds A Q => match d, ds with
  | .ref a, [.int i] => (match A a with
    | some (.lst (y :: l)) => i = 0 ∧ Q y (A.put a (.lst l))
    | _ => False)
  | _, _ => False
theorem lift_popI : LiftMt K "list" mPopI rPopAt := fun Z A H d v ds vs Kt Q R r rs h k => by
  unfold mPopI at h
  split at h
  · rename_i a i
    split at h
    · rename_i y l q
      obtain ⟨rfl, h⟩ := h
      obtain ⟨u, rfl, ru⟩ := rs.one
      obtain ⟨us, e1, e2⟩ := (R.at_ a _ q).2
      obtain ⟨w, us', rfl, r1, r2⟩ := e2.inv
      exact ⟨a, w :: us', 0, 0, w, rv_ref r, by rw [rv_int ru], e1, by decide, by decide, by unfold seqIndex?; simp, rfl, k Z _ _ _ _ (Same.refl Z) (lst_write R q r2) r1 h⟩
    · exact h.elim
  · exact h.elim
end
end DL


/-! DLI: dicts shown: {}, {k: v}. -/
namespace DL
open PySem PySem.Spec PyProof.Rows L2
variable {K : PySem.W.Frag} {X : Cx} {Z0 : Hp}
def eDic0 : DE := fun _ A Q => ∀ p, A p = none → Q (.ref p) (A.put p (.dic []))
theorem qe_dic0 {pos : Pos} : QE X Z0 (.Dict [] [] pos) eDic0 := PE.imp pe_dnewK fun σ H Q ⟨Z, δ, A, Kt, z, rs, ra, t, k⟩ p hp =>
  k Z (.ref p) _ _ _ (Same.refl Z) (ra.newO (u := .dic []) hp ⟨[], upd_same, rfl, .nil⟩) mk_ref (t p (ra.fresh hp).1)
def eDic1 (tk tv : DE) : DE := fun δ A Q => ∀ p, A p = none → tk δ (A.put p (.dic [])) fun x A1 => tv δ A1 fun y A2 => A2 p = some (.dic []) ∧ (match asKey x with
  | some ky => Q (.ref p) (A2.put p (.dic [(ky, y)]))
  | none => False)
theorem qe_dic1 {ek ev : Expr} {tk tv : DE} {pos : Pos} (hk : QE X Z0 ek tk) (hv : QE X Z0 ev tv) : QE X Z0 (.Dict [some ek] [ev] pos) (eDic1 tk tv) :=
  PE.imp (pe_disp (pps_cons hk hv pps_nil) rfl rfl (by simp) (by simp)) fun σ H Q ⟨Z, δ, A, Kt, z, rs, ra, t, k⟩ p hp => by
    have ra0 : RA X.K Z (A.put p (.dic [])) (upd H p (.dK [])) := ra.newO (u := .dic []) hp ⟨[], upd_same, rfl, .nil⟩
    refine ⟨Z, δ, A.put p (.dic []), _, z, rs, ra0, t p (ra.fresh hp).1, fun Z1 x A1 vx H1 s1 ra1 rx t1 => ?_⟩
    refine ⟨Z1, δ, A1, _, z.trans s1, rs.mono s1, ra1, t1, fun Z2 y A2 vy H2 s2 ra2 ry t2 => ?_⟩
    obtain ⟨hp2, t3⟩ := t2
    split at t3
    · rename_i ky hky
      obtain ⟨us, e1, e2, _⟩ := (ra2.at_ p _ hp2).2
      have : us = [] := by simpa using e2
      subst this
      refine ⟨e1, [(ky, vy)], ?_, by simp, ?_⟩
      · show [(vx, vy)] = [(kV ky, vy)]
        rw [asKey_ok (rx.mono s2) hky]
      · exact k Z2 (.ref p) _ _ _ (s1.trans s2) (ra2.write (u := .dic [(ky, y)]) hp2 ⟨[(ky, vy)], upd_same, rfl, .cons ry .nil⟩) mk_ref t3
    · exact t3.elim
end DL


/-! DLJ: an object frozen, its own lists and dicts with it. -/
namespace DL
open PySem PySem.Spec PyProof.Rows L2
variable {K : PySem.W.Frag} {Z Z' Z0 : Hp} {X : Cx}
/-- what a list, a dict is told as when frozen -/
def fzD : AO → Option D
  | .lst l => some (.lst l)
  | .dic kvs => some (.dic (kvs.map (·.1)) (kvs.map (·.2)))
  | .obj _ _ => none
  | .tk _ _ => none
/-- fields frozen one by one -/
inductive FzF : AH → List (String × D) → List (String × D) → AH → Prop
  | nil {A} : FzF A [] [] A
  | val {A B f d fs gs} : FzF A fs gs B → FzF A ((f, d) :: fs) ((f, d) :: gs) B
  | ref {A B f q o d fs gs} : A q = some o → fzD o = some d → FzF (A.del q) fs gs B → FzF A ((f, .ref q) :: fs) ((f, d) :: gs) B
theorem fzF_ok {A B : AH} {fs gs : List (String × D)} (h : FzF A fs gs B) : ∀ {Z H : Hp} {vs : List V}, RA K Z A H → RVs K Z (fs.map (·.2)) vs → ∃ Z2, Same Z Z2 ∧ RA K Z2 B H ∧ RVs K Z2 (gs.map (·.2)) vs ∧ gs.map (·.1) = fs.map (·.1) := by
  induction h with
  | nil => intro Z H vs R r; exact ⟨Z, Same.refl Z, R, r, rfl⟩
  | val _ ih =>
    intro Z H vs R r
    obtain ⟨v, us, rfl, r1, r2⟩ := r.inv
    obtain ⟨Z2, s, R2, r3, e⟩ := ih R r2
    exact ⟨Z2, s, R2, .cons (r1.mono s) r3, by simp [e]⟩
  | ref hq hd _ ih =>
    intro Z H vs R r
    obtain ⟨v, us, rfl, r1, r2⟩ := r.inv
    obtain ⟨Z1, s1, R1, q1⟩ := fz_ok R hq
    obtain ⟨Z2, s, R2, r3, e⟩ := ih R1 (r2.mono s1)
    have ev := rv_ref r1
    refine ⟨Z2, s1.trans s, R2, .cons ?_ r3, by simp [e]⟩
    rw [ev]
    rename_i o d _ _ _
    cases o with
    | lst l =>
      cases hd
      have q2 : RV K Z1 (.lst l) _ := q1
      exact q2.mono s
    | dic kvs =>
      cases hd
      have q2 : RV K Z1 (.dic (kvs.map (·.1)) (kvs.map (·.2))) _ := q1
      exact q2.mono s
    | obj c fs => cases hd
    | tk hf kvs => cases hd
def eFzD (t : DE) : DE := fun δ A Q => t δ A fun d A1 => ∃ p c fs gs A2, d = .ref p ∧ A1 p = some (.obj c fs) ∧ FzF (A1.del p) fs gs A2 ∧ Q (.obj c (gs.map (·.1)) (gs.map (·.2))) A2
theorem qe_fzD {e : Expr} {t : DE} (h : QE X Z0 e t) : QE X Z0 e (eFzD t) := PE.imp h fun σ H Q ⟨Z, δ, A, Kt, z, rs, ra, t, k⟩ =>
  ⟨Z, δ, A, _, z, rs, ra, t, fun Z1 d A1 v H1 s1 ra1 rv t1 => by
    obtain ⟨p, c, fs, gs, A2, rfl, hp, hf, t2⟩ := t1
    have ev := rv_ref rv
    subst ev
    obtain ⟨dx, us, e1, e2, e3⟩ := (ra1.at_ p _ hp).2
    obtain ⟨s, r⟩ := ra1.freeze hp e1
    obtain ⟨Z2, s2, R2, r3, e⟩ := fzF_ok hf r (e3.mono s)
    refine k Z2 _ _ _ H1 ((s1.trans s).trans s2) R2 ?_ t2
    rw [RV]
    exact ⟨p, dx, us, rfl, s2 _ _ (upd_same ..), by rw [e2, e, List.map_map]; rfl, r3⟩⟩
end DL


/-! DLK: more that is walked: ranges with a step, enumerate, zip, reversed. -/
namespace DL
open PySem PySem.Spec PyProof.Rows L2
variable {K : PySem.W.Frag} {Z Z' Z0 : Hp} {X : Cx}
/-- lo, lo + c, .. -/
def rngCD (lo c : Int) (n : Nat) : List D := (List.range n).map fun i => .int (lo + (i : Nat) * c)
theorem walkD_rangeC {lo c : Int} {n : Nat} : WalkD K Z (Itc lo c n) (rngCD lo c n) (fun _ => True) :=
  ⟨fun _ => True, YFn fun i => .int (lo + (i : Nat) * c), by have := walk_rangeC (lo := lo) (c := c) (n := n); unfold rngCD; rw [List.length_map, List.length_range]; exact this, fun _ _ _ _ _ _ => trivial, fun i Z' A H x H' hi s ra _ ⟨e1, e2⟩ => by
    subst e1 e2
    unfold rngCD at hi ⊢
    rw [List.length_map, List.length_range] at hi
    exact ⟨Z', .int (lo + (i : Nat) * c), Same.refl _, ra, by simp [hi], mk_int⟩⟩
/-- so many steps of c from i to j -/
def cntC (i j c : Int) : Nat := ((j - i + c - 1) / c).toNat
theorem rangeSize_pos {i j c : Int} (h : 0 < c) : Builtin.Range.rangeSize i j c = cntC i j c := by
  unfold Builtin.Range.rangeSize cntC
  have e : (c > 0) = True := eq_true h
  by_cases hij : i < j
  · simp only [h, hij, decide_true, Bool.and_self, if_true]
    have e2 : j - i + c - 1 = (j - i - 1) + c := by omega
    rw [e2, Int.add_ediv_of_dvd_right (Int.dvd_refl c), Int.ediv_self (by omega)]
    have := Int.ediv_nonneg (show 0 ≤ j - i - 1 by omega) (show 0 ≤ c by omega)
    first
    | omega
    | (rw [Int.toNat_of_nonneg (by omega)])
  · have hz : (j - i + c - 1) / c ≤ 0 := by
      have : (j - i + c - 1) / c < 1 := Int.ediv_lt_of_lt_mul h (by omega)
      omega
    simp only [h, hij, decide_true, decide_false, Bool.and_false, if_false, Bool.false_eq_true]
    have hc' : ¬ c < 0 := by omega
    simp [hc']
    omega
def iRng3D (t : DA) : DI := fun δ A R => t δ A fun ds A1 => match ds with
  | [.int i, .int j, .int c] => (i.natAbs < 1000000000 ∧ j.natAbs < 1000000000 ∧ 0 < c ∧ c < 1000000) ∧ R (rngCD i c (cntC i j c)) (fun _ => True) A1
  | _ => False
theorem RVs.three {d e f : D} {vs : List V} (h : RVs K Z [d, e, f] vs) : ∃ v u w, vs = [v, u, w] ∧ RV K Z d v ∧ RV K Z e u ∧ RV K Z f w := by
  obtain ⟨v, r, rfl, h1, h2⟩ := h.inv
  obtain ⟨u, w, rfl, h3, h4⟩ := h2.two
  exact ⟨v, u, w, rfl, h1, h3, h4⟩
theorem qi_range3 {tg a b c : Expr} {t : DA} {p pos : Pos} (hg : Gl X "range") (hm : X.mg "range" = none) (ha : QA X Z0 [a, b, c] t)
    (hs : starEach [a, b, c] X.env = (false, eval a X.env) :: starEach [b, c] X.env := by rfl) (hpl : (backTo pos (starEach [b, c] X.env)).any (·.1) = false := by rfl) :
    QI X Z0 tg (.Call (.Name "range" p) [a, b, c] [] pos) (iRng3D t) :=
  PI.imp (pi_range3 hg hm ha hs hpl) fun σ H R ⟨Z, δ, A, Kt, z, rs, ra, t, k⟩ => ⟨Z, δ, A, _, z, rs, ra, t, fun Z1 ds A1 vs H1 s1 ra1 rv t1 => by
    split at t1
    · rename_i i j c
      obtain ⟨v, u, w, rfl, r1, r2, r3⟩ := rv.three
      obtain ⟨⟨h1, h2, h3, h4⟩, t1⟩ := t1
      refine ⟨i, j, c, cntC i j c, by rw [rv_int r1, rv_int r2, rv_int r3], ⟨by omega, by omega, ?_, rangeSize_pos h3⟩, k Z1 _ _ A1 _ H1 s1 ra1 walkD_rangeC t1⟩
      have hb : ((cntC i j c : Nat) : Int) < 9223372036854775807 := by
        unfold cntC
        by_cases hx : 0 ≤ j - i + c - 1
        · have := Int.ediv_le_self c hx
          omega
        · have : (j - i + c - 1) / c < 1 := Int.ediv_lt_of_lt_mul h3 (by omega)
          omega
      unfold Builtin.Range.small
      rw [rangeSize_pos h3, if_pos (show c > 0 from h3)]
      simp only [Builtin.Range.rangeFitsLong, Bool.and_eq_true, Bool.or_eq_true, decide_eq_true_eq, beq_iff_eq]
      omega
    · exact t1.elim⟩
/-! ### enumerate -/
/-! ### zip -/
/-! ### reversed(range(n)) -/
/-! ### reversed(list) -/
end DL


/-! DLL: sum, any, sorted, dict of pairs; insert's rule; count, index of lists. -/
namespace DL
open PySem PySem.Spec PyProof.Rows L2
variable {K : PySem.W.Frag} {Z Z' Z0 : Hp} {X : Cx}
/-! ### sorted -/
/-! ### d.get(k, x) -/
section
variable {o e f : Expr} {apos cpos : Pos} {to te tf : DE}
theorem qe_dget2 (hu : X.A.units + 1 < cLine) (ho : QE X Z0 o to) (he : QE X Z0 e te) (hf : QE X Z0 f tf) (m1 : attributeBase o "get" X.env (eval o X.env) = eval o X.env := by rfl)
    (m2 : ((backTo cpos (starEach [e, f] X.env)).all (fun x => !x.1) && (backToKw cpos (keywordEach [] X.env)).all (fun x => x.1.isSome)
    && decide (([e, f] : List Expr).length + ([] : List Keyword).length + (if ([] : List Keyword).isEmpty then 0 else 1) < 30)) = true := by rfl)
    (m3 : (apos.endLine == cpos.line) = true := by rfl) (m4 : backTo cpos (starEach [e, f] X.env) = [(false, eval e X.env), (false, eval f X.env)] := by rfl) :
    QE X Z0 (.Call (.Attribute o "get" apos) [e, f] [] cpos) (eMt "dict" mGet to (aCons te (aCons tf aNil))) := PE.imp (pe_dget2 hu ho he hf ⟨m1, m2, m3, m4⟩) fun σ H Q ⟨Z, δ, A, Kt, z, rs, ra, t, k⟩ =>
  ⟨Z, δ, A, _, z, rs, ra, t, fun Z1 d A1 v H1 s1 ra1 rv t1 => by
    obtain ⟨p, e1, hd⟩ := isD_ty ra1 rv t1.1
    refine ⟨p, e1, hd, Z1, δ, A1, _, z.trans s1, rs.mono s1, ra1, t1.2, fun Z2 y A2 vy H2 s2 ra2 ry t2 => ?_⟩
    refine ⟨Z2, δ, A2, _, (z.trans s1).trans s2, (rs.mono s1).mono s2, ra2, t2, fun Z3 x A3 vx H3 s3 ra3 rx t3 => ?_⟩
    have t3' : mGet d [y, x] A3 Kt := t3
    unfold mGet at t3'
    split at t3'
    · rename_i e2; cases e2
    · rename_i kvs k' x' h1 e2
      cases e2
      split at t3'
      · rename_i ky h2
        obtain ⟨p2, o, e3, g, hv⟩ := get_ok (x := x) ra3 ((rv.mono s2).mono s3) (ry.mono s3) h1 h2
        rw [e1] at e3; cases e3
        exact ⟨o, g, k Z3 _ A3 _ H3 ((s1.trans s2).trans s3) ra3 (hv _ _ rx) t3'⟩
      · exact t3'.elim
    · exact t3'.elim⟩
end
end DL


/-! DLM: raise C(x), C an own error with an __init__ that keeps x in a field. -/
namespace DL
open PySem PySem.Spec PyProof.Rows L2
variable {K : PySem.W.Frag} {Z Z' Z0 : Hp} {X : Cx}
structure IniOk (K : PySem.W.Frag) (c d f : String) : Prop where
  iC : PySem.W.findIn K (.ref (He.ga K (Str.ofString c))) "__init__" = some (some (.ref (He.ma K (He.ga K (Str.ofString c)) "__init__")))
  tI : PySem.W.typeIn K (.ref (He.ma K (He.ga K (Str.ofString c)) "__init__")) = some (.type "function")
  no : PySem.W.findIn K (.ref (He.ga K (Str.ofString c))) (Str.ofString f) = some none
  rd : PySem.W.readsIn K (He.ga K (Str.ofString d)) (.type "type") = true
  ga : PySem.W.specialIn K (.ref (He.ga K (Str.ofString d))) "__getattribute__" = some (some (.builtin "type.__getattribute__"))
  at_ : PySem.W.findCls K (.ref (He.ga K (Str.ofString d))) (.type "type") "__init__" = some (.val (.builtin "ValueError.__init__"))
/-- what such an __init__ promises -/
def spOex (K : PySem.W.Frag) (c f : String) : Sp := fun vs H Q E => ∃ a y, vs = [.ref a, y] ∧ OexC K (He.ga K (Str.ofString c)) ∧ PySem.W.findIn K (.ref (He.ga K (Str.ofString c))) (Str.ofString f) = some none ∧ H a = some (exo a (He.ga K (Str.ofString c)) none) ∧
  ∀ dx, H dx = none → dx ≠ a → Q .non (upd (upd H dx (exd dx [(Str.ofString f, y)])) a (exo a (He.ga K (Str.ofString c)) (some dx)))
/-- the error's making, kept ready -/
structure RaiseI (P : Program) (w : World) (K : PySem.W.Frag) (mg : Str → Option Value) (base : Heap) (k : Nat) (c f : String) : Prop where
  ex : ∃ (d : String) (fd : FuncData) (ps : List Str), OexC K (He.ga K (Str.ofString c)) ∧ IniOk K c d f ∧ FnOk P w K mg base (CX P w) k (He.ma K (He.ga K (Str.ofString c)) "__init__") fd ps (spOex K c f) ∧ mg (Str.ofString c) = some (.ref (He.ga K (Str.ofString c))) ∧ Binds K fd ps []
/-! ### e.f of an own error with one field -/
end DL


/-! FR: fractions as rational numbers. -/
namespace FR
open PySem PySem.Spec PyProof.Rows L2 DL
/-- a fraction's value -/
@[irreducible] def frD (q : Rat) : D := .tup [.int q.num, .int q.den]
theorem frD_def (q : Rat) : frD q = .tup [.int q.num, .int q.den] := by unfold frD; rfl
theorem frD_inj {q r : Rat} (h : frD q = frD r) : q = r := by
  unfold frD at h
  simp only [D.tup.injEq, List.cons.injEq, D.int.injEq, and_true] at h
  exact Rat.ext h.1 (by omega)
def deFr : D → Option Rat
  | .tup [.int a, .int b] => if h : 0 < b ∧ a.natAbs.gcd b.natAbs = 1 then some ⟨a, b.natAbs, by omega, h.2⟩ else none
  | _ => none
@[simp] theorem deFr_frD (q : Rat) : deFr (frD q) = some q := by
  unfold frD deFr
  have h : (0 : Int) < (q.den : Int) ∧ q.num.natAbs.gcd (q.den : Int).natAbs = 1 := ⟨by have := q.den_pos; omega, q.reduced⟩
  simp only
  rw [dif_pos h]
  congr 1
theorem deFr_ok {d : D} {q : Rat} (h : deFr d = some q) : d = frD q := by
  unfold deFr at h
  split at h
  · rename_i a b
    split at h
    · rename_i hc
      cases h
      unfold frD
      have : ((b.natAbs : Nat) : Int) = b := by omega
      simp only [this]
    · cases h
  · cases h
section
variable {A : AH} {Q : DK} {q r : Rat}
@[simp ↓] theorem ix0 : opIx (frD q) (.int 0) A Q = Q (.int q.num) A := by rw [frD_def]; rfl
@[simp ↓] theorem ix1 : opIx (frD q) (.int 1) A Q = Q (.int q.den) A := by rw [frD_def]; rfl
@[simp] theorem ty_fr : tyD A (frD q) = some "tuple" := by rw [frD_def]; rfl
@[simp ↓] theorem len_fr : bLen [frD q] A Q = Q (.int 2) A := by rw [frD_def]; rfl
@[simp] theorem drf_fr : drf A (frD q) = frD q := by rw [frD_def]; rfl
@[simp] theorem dt_fr {n : Nat} : dt (n + 1) (frD q) = true := by unfold frD; simp
@[simp] theorem non_fr : (frD q).isNon = false := by rw [frD_def]; rfl
@[simp] theorem deq_fr : deq (frD q) (frD r) = decide (q = r) := by
  unfold frD
  simp only [deq_tup, deqs_cons, deq_int, deqs_nil, Bool.and_true]
  by_cases h : q = r
  · subst h; simp
  · rw [decide_eq_false h]
    apply Bool.eq_false_iff.mpr
    intro e
    simp at e
    exact h (Rat.ext e.1 (by omega))
end
/-! ### sizes -/
def Wd (i : Int) : Prop := i.natAbs < 2 ^ 8000
def Sm (q : Rat) : Prop := q.num.natAbs < 2 ^ 3000 ∧ q.den < 2 ^ 3000
theorem wd_of {i : Int} {k : Nat} (h : i.natAbs < 2 ^ k) (hk : k ≤ 8000) : Wd i := Nat.lt_of_lt_of_le h (Nat.pow_le_pow_right (by decide) hk)
@[simp] theorem wd_lit {n : Int} (h1 : -18446744073709551616 < n) (h2 : n < 18446744073709551616) : Wd n := wd_of (k := 64) (by omega) (by decide)
/-! ### the lowest terms -/
theorem low_num {a b : Int} (h : b ≠ 0) : (Rat.divInt a b).num = if b < 0 then a.fdiv (-(Int.gcd a b : Int)) else a.fdiv (Int.gcd a b : Int) := by
  rw [Rat.num_divInt, Int.gcd_comm]
  split
  · rename_i hb
    have e : a.fdiv (-(Int.gcd a b : Int)) = (-a).fdiv (Int.gcd a b : Int) := by
      have := Int.neg_fdiv_neg (-a) (Int.gcd a b : Int)
      rw [Int.neg_neg] at this
      exact this
    rw [e, Int.fdiv_eq_ediv_of_nonneg _ (by omega), Int.sign_eq_neg_one_of_neg hb]
    congr 1; omega
  · rename_i hb
    rw [Int.fdiv_eq_ediv_of_nonneg _ (by omega), Int.sign_eq_one_of_pos (by omega), Int.one_mul]
theorem low_den {a b : Int} (h : b ≠ 0) : ((Rat.divInt a b).den : Int) = if b < 0 then b.fdiv (-(Int.gcd a b : Int)) else b.fdiv (Int.gcd a b : Int) := by
  rw [Rat.den_divInt, if_neg h, Int.gcd_comm, Int.natCast_ediv]
  split
  · rename_i hb
    have e : b.fdiv (-(Int.gcd a b : Int)) = (-b).fdiv (Int.gcd a b : Int) := by
      have := Int.neg_fdiv_neg (-b) (Int.gcd a b : Int)
      rw [Int.neg_neg] at this
      exact this
    rw [e, Int.fdiv_eq_ediv_of_nonneg _ (by omega)]
    congr 1; omega
  · rename_i hb
    rw [Int.fdiv_eq_ediv_of_nonneg _ (by omega)]
    congr 1; omega
theorem low_lt {a b : Int} {k : Nat} (h : b ≠ 0) (ha : a.natAbs < 2 ^ k) (hb : b.natAbs < 2 ^ k) : (Rat.divInt a b).num.natAbs < 2 ^ k ∧ (Rat.divInt a b).den < 2 ^ k := by
  constructor
  · refine Nat.lt_of_le_of_lt ?_ ha
    rw [Rat.num_divInt]
    refine Nat.le_trans (Int.natAbs_ediv_le_natAbs _ _) ?_
    rw [Int.natAbs_mul]
    have : b.sign.natAbs ≤ 1 := by
      rcases Int.lt_trichotomy b 0 with h | h | h
      · rw [Int.sign_eq_neg_one_of_neg h]; decide
      · subst h; decide
      · rw [Int.sign_eq_one_of_pos h]; decide
    calc b.sign.natAbs * a.natAbs ≤ 1 * a.natAbs := Nat.mul_le_mul_right _ this
      _ = a.natAbs := Nat.one_mul _
  · refine Nat.lt_of_le_of_lt ?_ hb
    rw [Rat.den_divInt, if_neg h]
    exact Nat.div_le_self _ _
theorem sm_low {a b : Int} {k : Nat} (h : b ≠ 0) (ha : a.natAbs < 2 ^ k) (hb : b.natAbs < 2 ^ k) (hk : k ≤ 3000) : Sm (Rat.divInt a b) :=
  have l := low_lt h ha hb
  ⟨Nat.lt_of_lt_of_le l.1 (Nat.pow_le_pow_right (by decide) hk), Nat.lt_of_lt_of_le l.2 (Nat.pow_le_pow_right (by decide) hk)⟩
/-! ### sums and products -/
theorem add_fr (q r : Rat) : Rat.divInt (q.num * r.den + r.num * q.den) (q.den * r.den) = q + r := by
  have h1 : (q.den : Int) ≠ 0 := by have := q.den_pos; omega
  have h2 : (r.den : Int) ≠ 0 := by have := r.den_pos; omega
  have := Rat.divInt_add_divInt q.num r.num h1 h2
  rw [Rat.num_divInt_den, Rat.num_divInt_den] at this
  exact this.symm
section
variable {q r : Rat}
theorem sm_d (h : Sm q) : (q.den : Int).natAbs < 2 ^ 3000 := by have := h.2; omega
theorem mm1 (h : Sm q) (g : Sm r) : DL.MulOk q.num r.den := mulOk_of h.1 (sm_d g) (by decide)
end
end FR


/-! DLX: the head's facts off a list of addresses told by hand (less memory than asking for it). -/
namespace DL
open PySem PySem.Spec PyProof.Rows L2
def obsL (as : List Addr) (fa : List He.Fa) (fn : List He.DefD) (ex : PySem.W.Frag → Bool) (g : Addr → Option Obj) : AlZ := (He.obsD fa fn (He.frG g as), ex (He.frG g as))
def hookL (as : List Addr) (fa : List He.Fa) (fn : List He.DefD) (ex : PySem.W.Frag → Bool) : PySem.W.Hook where
  α := AlZ
  obs := fun s => obsL as fa fn ex s.heap.get?
  val := fun _ => (He.valD fn, true)
  says := fun _ h => ∃ K : PySem.W.Frag, K.In h ∧ SaysZ fa fn ex K
  of := fun _ _ e => ⟨_, He.frG_in, congrArg (fun z : AlZ => z.1) e, congrArg (fun z : AlZ => z.2) e⟩
  keeps := fun _ _ _ ⟨K, hK, c⟩ k => ⟨K, PySem.W.Frag.In.keeps hK k, c⟩
theorem obsL_eq {as : List Addr} {fa : List He.Fa} {fn : List He.DefD} {ex : PySem.W.Frag → Bool} {g : Addr → Option Obj} {s : Shared} (h : ∀ a, g a = s.heap.get? a) : obsL as fa fn ex g = (hookL as fa fn ex).obs s := by
  have e : g = s.heap.get? := funext h
  rw [e] <;> rfl
end DL


namespace H41
open PySem PySem.Spec PyProof.Rows L2 DL FR
def top (i : Nat) : Stmt := PySem.Challenge.pw_slackchain_k41_things_made_or_refused.main.body.getD i (.Pass ⟨0, 0, 0, 0⟩)
def inn (st : Stmt) (j : Nat) : Stmt := match st with | .ClassDef _ _ _ b .. => b.getD j (.Pass ⟨0, 0, 0, 0⟩) | _ => st
abbrev s_divisor : Stmt := top 16
abbrev s_under : Stmt := top 20
abbrev s_is_whole : Stmt := top 23
abbrev s_is_name : Stmt := top 24
abbrev s_is_fraction : Stmt := top 25
abbrev s_has_ends : Stmt := top 27
abbrev s_is_part : Stmt := top 28
abbrev s_is_gap : Stmt := top 29
abbrev s_way_between : Stmt := top 30
abbrev s_Thing_add_part : Stmt := inn (top 31) 1
abbrev s_Thing_add_gap : Stmt := inn (top 31) 2
abbrev s_Thing___init__ : Stmt := inn (top 31) 0
abbrev s_Thing_parts : Stmt := inn (top 31) 3
abbrev s_Thing_gaps : Stmt := inn (top 31) 4
abbrev s__law_cell : Stmt := top 33
abbrev s__law_signed : Stmt := top 34
abbrev s__law_low : Stmt := top 35
abbrev s__law_name : Stmt := top 36
abbrev s__law_part : Stmt := top 37
abbrev s__law_gap : Stmt := top 38
abbrev s__law_with : Stmt := top 39
abbrev s__law_spoiled : Stmt := top 40
abbrev s__law_joined : Stmt := top 41
abbrev s__law_due : Stmt := top 42
abbrev s__law_made : Stmt := top 43
abbrev s__law_drawn : Stmt := top 44
abbrev s_law : Stmt := top 45
def d_divisor : He.DefD := ⟨("divisor", none), "divisor", "divisor", defArgs s_divisor, defBody s_divisor, defScope s_divisor, [], []⟩
def d_under : He.DefD := ⟨("under", none), "under", "under", defArgs s_under, defBody s_under, defScope s_under, [], []⟩
def d_is_whole : He.DefD := ⟨("is_whole", none), "is_whole", "is_whole", defArgs s_is_whole, defBody s_is_whole, defScope s_is_whole, [], []⟩
def d_is_name : He.DefD := ⟨("is_name", none), "is_name", "is_name", defArgs s_is_name, defBody s_is_name, defScope s_is_name, [], []⟩
def d_is_fraction : He.DefD := ⟨("is_fraction", none), "is_fraction", "is_fraction", defArgs s_is_fraction, defBody s_is_fraction, defScope s_is_fraction, [], []⟩
def d_has_ends : He.DefD := ⟨("has_ends", none), "has_ends", "has_ends", defArgs s_has_ends, defBody s_has_ends, defScope s_has_ends, [], []⟩
def d_is_part : He.DefD := ⟨("is_part", none), "is_part", "is_part", defArgs s_is_part, defBody s_is_part, defScope s_is_part, [], []⟩
def d_is_gap : He.DefD := ⟨("is_gap", none), "is_gap", "is_gap", defArgs s_is_gap, defBody s_is_gap, defScope s_is_gap, [], []⟩
def d_way_between : He.DefD := ⟨("way_between", none), "way_between", "way_between", defArgs s_way_between, defBody s_way_between, defScope s_way_between, [], []⟩
def d_Thing_add_part : He.DefD := ⟨("Thing", some "add_part"), "add_part", "Thing.add_part", defArgs s_Thing_add_part, defBody s_Thing_add_part, defScope s_Thing_add_part, [], []⟩
def d_Thing_add_gap : He.DefD := ⟨("Thing", some "add_gap"), "add_gap", "Thing.add_gap", defArgs s_Thing_add_gap, defBody s_Thing_add_gap, defScope s_Thing_add_gap, [], []⟩
def d_Thing___init__ : He.DefD := ⟨("Thing", some "__init__"), "__init__", "Thing.__init__", defArgs s_Thing___init__, defBody s_Thing___init__, defScope s_Thing___init__, [], []⟩
def d_Thing_parts : He.DefD := ⟨("Thing", some "parts"), "parts", "Thing.parts", defArgs s_Thing_parts, defBody s_Thing_parts, defScope s_Thing_parts, [], []⟩
def d_Thing_gaps : He.DefD := ⟨("Thing", some "gaps"), "gaps", "Thing.gaps", defArgs s_Thing_gaps, defBody s_Thing_gaps, defScope s_Thing_gaps, [], []⟩
def d__law_cell : He.DefD := ⟨("_law_cell", none), "_law_cell", "_law_cell", defArgs s__law_cell, defBody s__law_cell, defScope s__law_cell, [], []⟩
def d__law_signed : He.DefD := ⟨("_law_signed", none), "_law_signed", "_law_signed", defArgs s__law_signed, defBody s__law_signed, defScope s__law_signed, [], []⟩
def d__law_low : He.DefD := ⟨("_law_low", none), "_law_low", "_law_low", defArgs s__law_low, defBody s__law_low, defScope s__law_low, [], []⟩
def d__law_name : He.DefD := ⟨("_law_name", none), "_law_name", "_law_name", defArgs s__law_name, defBody s__law_name, defScope s__law_name, [], []⟩
def d__law_part : He.DefD := ⟨("_law_part", none), "_law_part", "_law_part", defArgs s__law_part, defBody s__law_part, defScope s__law_part, [], []⟩
def d__law_gap : He.DefD := ⟨("_law_gap", none), "_law_gap", "_law_gap", defArgs s__law_gap, defBody s__law_gap, defScope s__law_gap, [], []⟩
def d__law_with : He.DefD := ⟨("_law_with", none), "_law_with", "_law_with", defArgs s__law_with, defBody s__law_with, defScope s__law_with, [], []⟩
def d__law_spoiled : He.DefD := ⟨("_law_spoiled", none), "_law_spoiled", "_law_spoiled", defArgs s__law_spoiled, defBody s__law_spoiled, defScope s__law_spoiled, [], []⟩
def d__law_joined : He.DefD := ⟨("_law_joined", none), "_law_joined", "_law_joined", defArgs s__law_joined, defBody s__law_joined, defScope s__law_joined, [], []⟩
def d__law_due : He.DefD := ⟨("_law_due", none), "_law_due", "_law_due", defArgs s__law_due, defBody s__law_due, defScope s__law_due, [], []⟩
def d__law_made : He.DefD := ⟨("_law_made", none), "_law_made", "_law_made", defArgs s__law_made, defBody s__law_made, defScope s__law_made, [], []⟩
def d__law_drawn : He.DefD := ⟨("_law_drawn", none), "_law_drawn", "_law_drawn", defArgs s__law_drawn, defBody s__law_drawn, defScope s__law_drawn, [], []⟩
def d_law : He.DefD := ⟨("law", none), "law", "law", defArgs s_law, defBody s_law, defScope s_law, [], []⟩
def fn : List He.DefD := [d_divisor, d_under, d_is_whole, d_is_name, d_is_fraction, d_has_ends, d_is_part, d_is_gap, d_way_between, d_Thing_add_part, d_Thing_add_gap, d_Thing___init__, d_Thing_parts, d_Thing_gaps, d__law_cell, d__law_signed, d__law_low, d__law_name, d__law_part, d__law_gap, d__law_with, d__law_spoiled, d__law_joined, d__law_due, d__law_made, d__law_drawn, d_law]
def fa : List He.Fa := [.free "ValueError", .free "abs", .free "bool", .free "int", .free "isinstance", .free "len", .free "list", .free "min", .free "range", .free "str", .free "tuple", .glo "Apart", .glo "Impossible", .glo "InRing", .glo "NoFace", .glo "NoGap", .glo "NoName", .glo "NoNumber", .glo "NoPart", .glo "NoRow", .glo "NoTie", .glo "Off", .glo "SlackError", .glo "Thing", .glo "Tight", .glo "Twice", .str "LETTERS" "abcdefghijklmnopqrstuvwxyz", .exc "Apart", .exc "InRing", .exc "NoGap", .exc "NoPart", .exc "Twice", .exm "Apart" "SlackError" true, .exm "InRing" "SlackError" true, .exm "NoGap" "SlackError" true, .exm "NoPart" "SlackError" true, .exm "Twice" "SlackError" true, .cls "Thing", .noat "Thing" "kept_gaps", .cls "Thing", .noat "Thing" "kept_parts", .cls "Thing", .noat "Thing" "kept_ways", .cls "Thing", .noat "Thing" "sizes", .cls "Thing", .meth "Thing" "add_gap", .cls "Thing", .meth "Thing" "add_part", .cls "Thing", .meth "Thing" "gaps", .cls "Thing", .meth "Thing" "parts", .mkr "Thing", .glo "divisor", .glo "under", .glo "is_whole", .glo "is_name", .glo "is_fraction", .glo "has_ends", .glo "is_part", .glo "is_gap", .glo "way_between", .glo "_law_cell", .glo "_law_signed", .glo "_law_low", .glo "_law_name", .glo "_law_part", .glo "_law_gap", .glo "_law_with", .glo "_law_spoiled", .glo "_law_joined", .glo "_law_due", .glo "_law_made", .glo "_law_drawn", .glo "law"]
def fx : List Fx := [fxEx "Apart", fxEx "InRing", fxEx "NoGap", fxEx "NoPart", fxEx "Twice", fxIs "Apart" "Apart" true, fxIs "InRing" "Apart" false, fxIs "NoGap" "Apart" false, fxIs "NoPart" "Apart" false, fxIs "Twice" "Apart" false, fxIs "Apart" "Impossible" false, fxIs "InRing" "Impossible" false, fxIs "NoGap" "Impossible" false, fxIs "NoPart" "Impossible" false, fxIs "Twice" "Impossible" false, fxIs "Apart" "InRing" false, fxIs "InRing" "InRing" true, fxIs "NoGap" "InRing" false, fxIs "NoPart" "InRing" false, fxIs "Twice" "InRing" false, fxIs "Apart" "NoFace" false, fxIs "InRing" "NoFace" false, fxIs "NoGap" "NoFace" false, fxIs "NoPart" "NoFace" false, fxIs "Twice" "NoFace" false, fxIs "Apart" "NoGap" false, fxIs "InRing" "NoGap" false, fxIs "NoGap" "NoGap" true, fxIs "NoPart" "NoGap" false, fxIs "Twice" "NoGap" false, fxIs "Apart" "NoName" false, fxIs "InRing" "NoName" false, fxIs "NoGap" "NoName" false, fxIs "NoPart" "NoName" false, fxIs "Twice" "NoName" false, fxIs "Apart" "NoNumber" false, fxIs "InRing" "NoNumber" false, fxIs "NoGap" "NoNumber" false, fxIs "NoPart" "NoNumber" false, fxIs "Twice" "NoNumber" false, fxIs "Apart" "NoPart" false, fxIs "InRing" "NoPart" false, fxIs "NoGap" "NoPart" false, fxIs "NoPart" "NoPart" true, fxIs "Twice" "NoPart" false, fxIs "Apart" "NoRow" false, fxIs "InRing" "NoRow" false, fxIs "NoGap" "NoRow" false, fxIs "NoPart" "NoRow" false, fxIs "Twice" "NoRow" false, fxIs "Apart" "NoTie" false, fxIs "InRing" "NoTie" false, fxIs "NoGap" "NoTie" false, fxIs "NoPart" "NoTie" false, fxIs "Twice" "NoTie" false, fxIs "Apart" "Off" false, fxIs "InRing" "Off" false, fxIs "NoGap" "Off" false, fxIs "NoPart" "Off" false, fxIs "Twice" "Off" false, fxIs "Apart" "Tight" false, fxIs "InRing" "Tight" false, fxIs "NoGap" "Tight" false, fxIs "NoPart" "Tight" false, fxIs "Twice" "Tight" false, fxIs "Apart" "Twice" false, fxIs "InRing" "Twice" false, fxIs "NoGap" "Twice" false, fxIs "NoPart" "Twice" false, fxIs "Twice" "Twice" true, fxIsB "Apart" "ValueError" true, fxIsB "InRing" "ValueError" true, fxIsB "NoGap" "ValueError" true, fxIsB "NoPart" "ValueError" true, fxIsB "Twice" "ValueError" true]
abbrev R : PySem.W.OpenRow := PySem.W.OpenLaw.row PySem.Challenge.rw_slackchain_k41_things_made_or_refused
def as : List Addr := [2, 3, 6, 4, 24, 37, 49, 61, 73, 85, 104, 116, 128, 140, 152, 171, 183, 195, 204, 212, 219, 226, 233, 240, 247, 254, 261, 268, 275, 282, 348, 359, 366, 373, 380, 387, 394, 401, 408, 415, 422, 429, 436, 441, 0, 23, 36, 48, 60, 72, 84, 103, 115, 127, 139, 151, 170, 182, 194, 203, 211, 205, 218, 225, 232, 239, 246, 253, 260, 267, 274, 281, 347, 358, 365, 372, 379, 386, 393, 400, 407, 414, 421, 428, 435, 440, 22, 25, 35, 47, 59, 71, 83, 101, 102, 114, 126, 138, 150, 168, 169, 181, 193, 198, 199, 200, 201, 202, 206, 207, 208, 209, 210, 213, 214, 215, 216, 217, 220, 221, 222, 223, 224, 227, 228, 229, 230, 231, 234, 235, 236, 237, 238, 241, 242, 243, 244, 245, 248, 249, 250, 251, 252, 255, 256, 257, 258, 259, 262, 263, 264, 265, 266, 269, 270, 271, 272, 273, 276, 277, 278, 279, 280, 296, 303, 310, 317, 324, 331, 338, 345, 346, 349, 350, 353, 354, 355, 356, 357, 360, 361, 362, 363, 364, 367, 368, 369, 370, 371, 374, 375, 376, 377, 378, 381, 382, 383, 384, 385, 388, 389, 390, 391, 392, 395, 396, 397, 398, 399, 402, 403, 404, 405, 406, 409, 410, 411, 412, 413, 416, 417, 418, 419, 420, 423, 424, 425, 426, 427, 430, 431, 432, 433, 434, 437, 438, 439, 100, 167, 295, 302, 309, 316, 323, 330, 337, 344, 95, 96, 97, 98, 99, 162, 163, 164, 165, 166, 290, 291, 292, 293, 294, 297, 298, 299, 300, 301, 304, 305, 306, 307, 308, 311, 312, 313, 314, 315, 318, 319, 320, 321, 322, 325, 326, 327, 328, 329, 332, 333, 334, 335, 336, 339, 340, 341, 342, 343]
abbrev hk : PySem.W.Hook := DL.hookL as fa fn (allX fx)
def ob (s : PySem.W.SharedT) : DL.AlZ := DL.obsL as fa fn (allX fx) (HandSHeadRun.getT s)
theorem ob_eq (s : PySem.W.SharedT) : ob s = hk.obs s.abs := DL.obsL_eq (HandSHeadRun.getT_eq s)
theorem run (w : World) : HandSHeadRun.RunEq R (PySem.W.view R.prog [45]) hk ob 12000 ("SlackError" :: "NoNumber" :: "NoTie" :: "Twice" :: "NoName" :: "NoFace" :: "Impossible" :: "NoPart" :: "NoGap" :: "InRing" :: "Apart" :: "Tight" :: "Off" :: "NoRow" :: "divisor" :: "fraction" :: "plus" :: "minus" :: "under" :: "LETTERS" :: "is_whole" :: "is_name" :: "is_fraction" :: "has_ends" :: "is_part" :: "is_gap" :: "way_between" :: "Thing" :: "_law_cell" :: "_law_signed" :: "_law_low" :: "_law_name" :: "_law_part" :: "_law_gap" :: "_law_with" :: "_law_spoiled" :: "_law_joined" :: "_law_due" :: "_law_made" :: "_law_drawn" :: []) w := by
  intro os
  kernel_rfl
end H41


/-! DLN: list.count, list.index of truths. -/
namespace DL
open PySem PySem.Spec PyProof.Rows L2
section
variable {X : Cx}
def rCntF (K : PySem.W.Frag) : V → List V → Hp → VK → Prop := fun x xs H Q => ∃ (p : Addr) (ys : List V) (y : V), x = .ref p ∧ xs = [y] ∧ SqL K H p ys ∧ flatV y = true ∧ ys.all flatV = true ∧ Q (.int (ys.countP fun z => eqV z y : Nat)) H
theorem count_eqU {y : V} : ∀ {ys : List V} {us : List Value}, Vals ys us → ys.all flatV = true → us.countP (eqU y) = ys.countP fun z => eqV z y
  | _, _, .nil, _ => rfl
  | _, _, .cons r t, f => by
    rw [List.all_cons, Bool.and_eq_true] at f
    rw [List.countP_cons, List.countP_cons, count_eqU t f.2, eqU_of r f.1]
theorem vals_mem : ∀ {ys : List V} {us : List Value}, Vals ys us → ∀ u ∈ us, ∃ y ∈ ys, RelV y u
  | _, _, .nil, _, h => nomatch h
  | _, _, .cons r t, u, h => by
    rcases List.mem_cons.mp h with rfl | h
    · exact ⟨_, List.mem_cons_self, r⟩
    · obtain ⟨y, hy, q⟩ := vals_mem t u h
      exact ⟨y, List.mem_cons_of_mem _ hy, q⟩
theorem mt_countF : MtR X "list.count" (rCntF X.K) := by
  intro pins s σ H x xs v us Q I rx rxs h
  obtain ⟨p, ys, y, rfl, rfl, hs, fy, fys, q⟩ := h
  cases rx
  obtain ⟨u, rfl, ru⟩ := rxs.one
  obtain ⟨its, rv, ⟨⟨cls, dd, data, sl⟩, n, ho, hc, hdn, hd⟩, hlen⟩ := I.list hs
  simp only at hc hd
  subst hc hd
  refine call_meets PySem.F.slot_list_count ⟨_, ho, rfl⟩ PySem.F.entry_list_count (PySem.F.args_list_count_2 _ _)
    (SeqAt.list_countAt p its.toArray n dd sl u (eqU y)) ⟨ho, fun z hz => ?_, ?_⟩
  · obtain ⟨y', hy', r'⟩ := vals_mem rv z (by simpa using hz)
    have f' := List.all_eq_true.mp fys y' hy'
    rw [eqU_of r' f']
    exact eqAt_V r' ru f' fy
  have ec : its.toArray.toList.countP (eqU y) = ys.countP fun z => eqV z y := count_eqU rv fys
  refine ⟨.int (ys.countP fun z => eqV z y : Nat), H, I.tok _, ⟨s.toks, ?_⟩, q⟩
  show Value.int ((its.toArray.toList.countP (eqU y) : Nat) : Int) s.toks = Value.int ((ys.countP fun z => eqV z y : Nat) : Int) s.toks
  rw [ec]
end
/-- a list of truths: how often one is there -/
def boolsD : List D → Option (List Bool)
  | [] => some []
  | .bl b :: l => (boolsD l).map (b :: ·)
  | _ :: _ => none
def mCntB : DMt := fun d ds A Q => match asL A d, ds with
  | some l, [.bl k] => (match boolsD l with
    | some bs => Q (.int (bs.countP (· == k) : Nat)) A
    | none => False)
  | _, _ => False
variable {K : PySem.W.Frag}
theorem bools_vs {Z : Hp} : ∀ {l : List D} {bs : List Bool} {vs : List V}, boolsD l = some bs → RVs K Z l vs → vs = bs.map V.bl
  | [], bs, vs, h, r => by cases h; rw [r.inv0]; rfl
  | d :: l, bs, vs, h, r => by
    obtain ⟨v, vs', rfl, rv, rs⟩ := r.inv
    cases d with
    | bl b =>
      have h' : (boolsD l).map (b :: ·) = some bs := h
      obtain ⟨bs', h1, rfl⟩ := Option.map_eq_some_iff.mp h'
      rw [bools_vs h1 rs]
      have : v = .bl b := by cases rv; rfl
      rw [this]; rfl
    | _ => cases h
theorem lift_cntB : LiftMt K "list" mCntB (rCntF K) := fun Z A H d v ds vs Kt Q R r rs h k => by
  unfold mCntB at h
  split at h
  · rename_i l kk hl
    split at h
    · rename_i bs hb
      obtain ⟨u, rfl, ru⟩ := rs.one
      obtain ⟨p, us, rfl, e2, e3⟩ := asL_ok R r hl
      have e4 := bools_vs hb e3
      subst e4
      have : u = .bl kk := by cases ru; rfl
      subst this
      refine ⟨p, bs.map V.bl, .bl kk, rfl, rfl, e2, rfl, by rw [List.all_eq_true]; intro x hx; obtain ⟨b, _, rfl⟩ := List.mem_map.mp hx; rfl, ?_⟩
      have ec : (bs.map V.bl).countP (fun z => eqV z (.bl kk)) = bs.countP (· == kk) := by
        rw [List.countP_map]
        congr 1
      rw [ec]
      exact k Z _ _ _ _ (Same.refl Z) R mk_int h
    · exact h.elim
  · exact h.elim
/-- .. and where first -/
def mIdxB : DMt := fun d ds A Q => match asL A d, ds with
  | some l, [.bl k] => (match boolsD l with
    | some bs => (match bs.findIdx? (· == k) with
      | some j => Q (.int (j : Nat)) A
      | none => False)
    | none => False)
  | _, _ => False
theorem lift_idxB {K : PySem.W.Frag} : LiftMt K "list" mIdxB (rIndex K) := fun Z A H d v ds vs Kt Q R r rs h k => by
  unfold mIdxB at h
  split at h
  · rename_i l kk hl
    split at h
    · rename_i bs hb
      split at h
      · rename_i j hj
        obtain ⟨u, rfl, ru⟩ := rs.one
        obtain ⟨p, us, rfl, e2, e3⟩ := asL_ok R r hl
        have e4 := bools_vs hb e3
        subst e4
        have : u = .bl kk := by cases ru; rfl
        subst this
        obtain ⟨hlt, h1, h2⟩ := List.findIdx?_eq_some_iff_getElem.mp hj
        refine ⟨p, bs.map V.bl, .bl kk, j, .bl bs[j], rfl, rfl, e2, rfl, by rw [List.all_eq_true]; intro x hx; obtain ⟨b, _, rfl⟩ := List.mem_map.mp hx; rfl, by rw [List.getElem?_map, List.getElem?_eq_getElem hlt]; rfl, ?_, fun m z' hm hz => ?_, k Z _ _ _ _ (Same.refl Z) R mk_int h⟩
        · have : bs[j] = kk := by simpa using h1
          rw [this]; cases kk <;> rfl
        · have hml : m < bs.length := by omega
          rw [List.getElem?_map, List.getElem?_eq_getElem hml] at hz
          cases hz
          have := h2 m hm
          have h3 : ¬ bs[m] = kk := by simpa using this
          generalize bs[m] = b at h3
          cases b <;> cases kk <;> first | rfl | exact absurd rfl h3
      · exact h.elim
    · exact h.elim
  · exact h.elim
end DL


/-! DLO: isinstance of a caught error, with fields or none. -/
namespace DL
open PySem PySem.Spec PyProof.Rows L2
variable {K : PySem.W.Frag} {X : Cx} {Z0 : Hp}
section
variable {a : Addr} {oe : Obj} {cls : Value} {d : Option Addr} {pn : List (Addr × Obj)} {k : String} {Z1 : Hp} {e e2 : Expr} {te : DE} {p pos : Pos}
end
end DL


/-! DLP: list(reversed(range(n))). -/
namespace DL
open PySem PySem.Spec PyProof.Rows
open Sem (wp)
open AutoSeq1 (wpAny_loadPart')
section
variable {prog : Program} {w : World} {A : Around} {E : Value → Shared → Prop} {s : Shared}
end
open L2
variable {X : Cx} {Z0 : Hp}
/-! ### x += e, ints -/
end DL


/-! DLQ: dict(d), d a dict. -/
namespace DL
open PySem PySem.Spec PyProof.Rows L2
variable {K : PySem.W.Frag} {X : Cx} {Z0 : Hp}
abbrev MkD := List (Key × D) → AH → DK → Prop
structure MkDOk (K : PySem.W.Frag) (mk : MkD) : Prop where
  ok : ∀ {Z : Hp} {A : AH} {H : Hp} {l : List (Key × D)} {us : List (Key × V)} {Kt : DK} {Q : VK}, RA K Z A H → us.map (·.1) = l.map (·.1) → RVs K Z (l.map (·.2)) (us.map (·.2)) → mk l A Kt → Kont K Z Kt Q → ∀ p, H p = none → Q (.ref p) (upd H p (.dK us))
end DL


/-! DLR: sorted(set(texts)). -/
namespace DL
open PySem PySem.Spec PyProof.Rows
open L2 (Ris)
/-! ### a set of texts, its table one that can be walked -/
def keyT (e : Int × Value) : Str := match e.2 with | .str k _ => k | _ => Str.empty
def TxtE (P : Program) (w : World) (e : Int × Value) : Prop := (∃ tk, e.2 = .str (keyT e) tk) ∧ e.1 = (PySem.strKind P w).hash (keyT e)
def Led (w : World) (t : SetTable) : Prop := w.params.followText "set-order" = true ∨ t.led = true
structure Txt (P : Program) (w : World) (h : Heap) (a : Addr) (ks : List Str) : Prop where
  ex : ∃ o es ep t, h.get? a = some o ∧ o.ExactSet ∧ o.data = .set es ep t ∧ (∀ e ∈ es.toList, TxtE P w e) ∧ (es.toList.map keyT).Perm ks ∧ es.size < scanBound ∧ t.fits es.size = true ∧ Ris t.place.toList ∧ Led w t
  nd : ks.Nodup
section
variable {P : Program} {w : World} {A : Around} {E : Value → Shared → Prop} {s : Shared} {a : Addr} {ks : List Str}
theorem Txt.at {h h' : Heap} (R : Txt P w h a ks) (k : ∀ o, h.get? a = some o → h'.get? a = some o) : Txt P w h' a ks := by
  obtain ⟨⟨o, es, ep, t, ho, r⟩, nd⟩ := R
  exact ⟨⟨o, es, ep, t, k o ho, r⟩, nd⟩
/-! ### sorted -/
end
end DL
namespace DL
open PySem PySem.Spec PyProof.Rows
open L2
section
variable {X : Cx} {Z0 : Hp}
end
end DL


/-! DLS: dict(pairs), the keys unlike; list.index of a text. -/
namespace DL
open PySem PySem.Spec PyProof.Rows L2
variable {K : PySem.W.Frag} {X : Cx} {Z0 : Hp}
/-! ### where a text stands -/
end DL


/-! DLT: frozen lists taken as one's own again, at a def's own level. -/
namespace DL
open PySem PySem.Spec PyProof.Rows L2
variable {K : PySem.W.Frag} {Z Z' Z0 : Hp}
open Classical in
/-- a frozen heap without some addresses -/
noncomputable def dels (Z : Hp) (ps : List Addr) : Hp := fun a => if a ∈ ps then none else Z a
theorem dels_out {ps : List Addr} {a : Addr} (h : a ∉ ps) : dels Z ps a = Z a := if_neg h
/-- tuples are read in one way -/
def Coh (K : PySem.W.Frag) (Z : Hp) : Prop := ∀ p us vs, SqT K Z p us → SqT K Z p vs → us = vs
/-- no list is read as both -/
def Inc (l m : List D) : Prop := ∀ (K : PySem.W.Frag) Z vs, Coh K Z → RVs K Z l vs → RVs K Z m vs → False
mutual
def NoL (L : List (List D)) : D → Prop
  | .lst m => (∀ l ∈ L, Inc l m) ∧ NoLs L m
  | .rol m => (∀ l ∈ L, Inc l m) ∧ NoLs L m
  | .tup m => NoLs L m
  | .dic _ m => NoLs L m
  | .obj _ _ m => NoLs L m
  | _ => True
def NoLs (L : List (List D)) : List D → Prop
  | [] => True
  | d :: m => NoL L d ∧ NoLs L m
end
mutual
/-- data without lists, dicts, objects -/
def Simp : D → Prop
  | .lst _ => False
  | .rol _ => False
  | .dic _ _ => False
  | .obj _ _ _ => False
  | .ref _ => False
  | .tup m => Simps m
  | _ => True
def Simps : List D → Prop
  | [] => True
  | d :: m => Simp d ∧ Simps m
end
mutual
theorem NoL.simp {L : List (List D)} : ∀ {d : D}, Simp d → NoL L d
  | .non, _ => trivial
  | .bl _, _ => trivial
  | .int _, _ => trivial
  | .str _, _ => trivial
  | .ref _, h => h.elim
  | .lst _, h => h.elim
  | .rol _, h => h.elim
  | .dic _ _, h => h.elim
  | .obj _ _ _, h => h.elim
  | .tup m, h => NoLs.simp (l := m) h
theorem NoLs.simp {L : List (List D)} : ∀ {l : List D}, Simps l → NoLs L l
  | [], _ => trivial
  | d :: m, h => ⟨NoL.simp h.1, NoLs.simp h.2⟩
end
/-- all of these addresses hold lists read as told -/
def Holds (K : PySem.W.Frag) (Z : Hp) (as : List (Addr × List D)) : Prop := ∀ x ∈ as, ∃ vs, Z x.1 = some (.lst vs) ∧ RVs K Z x.2 vs
section
variable {as : List (Addr × List D)}
theorem Holds.lst (h : Holds K Z as) {a : Addr} (ha : a ∈ as.map (·.1)) : ∃ vs l, Z a = some (.lst vs) ∧ l ∈ as.map (·.2) ∧ RVs K Z l vs := by
  obtain ⟨x, hx, rfl⟩ := List.mem_map.mp ha
  obtain ⟨vs, h1, h2⟩ := h x hx
  exact ⟨vs, x.2, h1, List.mem_map.mpr ⟨x, hx, rfl⟩, h2⟩
theorem Holds.keep (h : Holds K Z as) {a : Addr} {o : HO} (e : Z a = some o) (hn : ∀ vs, o ≠ .lst vs) : dels Z (as.map (·.1)) a = some o := by
  rw [dels_out fun ha => ?_, e]
  obtain ⟨vs, _, h1, _⟩ := h.lst ha
  rw [e] at h1; exact hn vs (Option.some.inj h1)
theorem rd_keep (h : Holds K Z as) {a : Addr} {u : HO} (hn : ∀ vs, u ≠ .lst vs) (r : Rd Z a u) : Rd (dels Z (as.map (·.1))) a u := by
  rcases r with r | ⟨o, r⟩
  · exact .inl (h.keep r hn)
  · exact .inr ⟨o, h.keep r fun vs e => by cases e⟩
mutual
theorem RV.dels (co : Coh K Z) (h : Holds K Z as) : ∀ {d : D} {v : V}, NoL (as.map (·.2)) d → RV K Z d v → RV K (DL.dels Z (as.map (·.1))) d v
  | .non, _, _, r => by simpa only [RV] using r
  | .bl _, _, _, r => by simpa only [RV] using r
  | .int _, _, _, r => by simpa only [RV] using r
  | .str _, _, _, r => by simpa only [RV] using r
  | .ref _, _, _, r => by simpa only [RV] using r
  | .tup m, v, n, r => by
    obtain ⟨p, vs, h1, h2, h3⟩ := rv_tup r
    simp only [RV]
    exact ⟨p, vs, h1, h2.imp (rd_keep h fun _ e => by cases e) id, RVs.dels co h n h3⟩
  | .lst m, v, n, r => by
    obtain ⟨p, vs, h1, h2, h3⟩ := rv_lst r
    simp only [RV]
    refine ⟨p, vs, h1, ?_, RVs.dels co h n.2 h3⟩
    rw [dels_out fun hp => ?_, h2]
    obtain ⟨us, l, e1, e2, e3⟩ := h.lst hp
    rw [h2] at e1; cases e1
    exact n.1 l e2 K Z vs co e3 h3
  | .rol m, v, n, r => by
    obtain ⟨p, vs, h1, h2, h3⟩ := rv_rol r
    simp only [RV]
    refine ⟨p, vs, h1, ?_, RVs.dels co h n.2 h3⟩
    rcases h2 with (h2 | ⟨o, h2⟩) | h2
    · refine .inl (.inl ?_)
      rw [dels_out fun hp => ?_, h2]
      obtain ⟨us, l, e1, e2, e3⟩ := h.lst hp
      rw [h2] at e1; cases e1
      exact n.1 l e2 K Z vs co e3 h3
    · exact .inl (.inr ⟨o, h.keep h2 fun vs e => by cases e⟩)
    · exact .inr h2
  | .dic ks m, v, n, r => by
    obtain ⟨p, kvs, h1, h2, h3, h4⟩ := rv_dic r
    simp only [RV]
    exact ⟨p, kvs, h1, h.keep h2 (fun vs e => by cases e), h3, RVs.dels co h n h4⟩
  | .obj c ns m, v, n, r => by
    obtain ⟨p, dx, fs, h1, h2, h3, h4⟩ := rv_obj r
    simp only [RV]
    exact ⟨p, dx, fs, h1, h.keep h2 (fun vs e => by cases e), h3, RVs.dels co h n h4⟩
theorem RVs.dels (co : Coh K Z) (h : Holds K Z as) : ∀ {l : List D} {vs : List V}, NoLs (as.map (·.2)) l → RVs K Z l vs → RVs K (DL.dels Z (as.map (·.1))) l vs
  | [], vs, _, r => by rw [r.inv0]; exact .nil
  | d :: l, vs, n, r => by
    obtain ⟨v, u, rfl, r1, r2⟩ := r.inv
    exact .cons (RV.dels co h n.1 r1) (RVs.dels co h n.2 r2)
end
/-- what an object holds, without such lists -/
def NoLO (L : List (List D)) : AO → Prop
  | .lst l => NoLs L l
  | .dic kvs => NoLs L (kvs.map (·.2))
  | .obj _ fs => NoLs L (fs.map (·.2))
  | .tk _ _ => False
theorem RO.dels (co : Coh K Z) (h : Holds K Z as) {H : Hp} {a : Addr} {o : AO} (n : NoLO (as.map (·.2)) o) (r : RO K Z H a o) : RO K (DL.dels Z (as.map (·.1))) H a o := by
  cases o with
  | lst l => obtain ⟨vs, h1, h2⟩ := r; exact ⟨vs, h1, h2.dels co h n⟩
  | dic kvs => obtain ⟨us, h1, h2, h3⟩ := r; exact ⟨us, h1, h2, h3.dels co h n⟩
  | obj c fs => obtain ⟨dx, us, h1, h2, h3⟩ := r; exact ⟨dx, us, h1, h2, h3.dels co h n⟩
  | tk hf kvs => exact n.elim
end
/-! ### lists of a value taken as one's own -/
mutual
inductive Th : D → D → List (Addr × List D) → Prop
  | atom {d} : Simp d → Th d d []
  | lst {l p} : Simps l → Th (.lst l) (.ref p) [(p, l)]
  | tup {l l2 as} : Ths l l2 as → Th (.tup l) (.tup l2) as
inductive Ths : List D → List D → List (Addr × List D) → Prop
  | nil : Ths [] [] []
  | cons {d d2 as l l2 bs} : Th d d2 as → Ths l l2 bs → Ths (d :: l) (d2 :: l2) (as ++ bs)
end
mutual
def lof : D → List (List D)
  | .lst l => [l]
  | .tup m => lofs m
  | _ => []
def lofs : List D → List (List D)
  | [] => []
  | d :: m => lof d ++ lofs m
end
/-- a value's lists told by their addresses -/
structure ThR (K : PySem.W.Frag) (Z : Hp) (d d2 : D) (as : List (Addr × List D)) (v : V) : Prop where
  th : Th d d2 as
  ls : as.map (·.2) = lof d
  hd : Holds K Z as
  sm : ∀ x ∈ as, Simps x.2
  rv : RV K Z d2 v
  nl : ∀ L, NoL L d2
structure ThRs (K : PySem.W.Frag) (Z : Hp) (l l2 : List D) (as : List (Addr × List D)) (vs : List V) : Prop where
  th : Ths l l2 as
  ls : as.map (·.2) = lofs l
  hd : Holds K Z as
  sm : ∀ x ∈ as, Simps x.2
  rv : RVs K Z l2 vs
  nl : ∀ L, NoLs L l2
theorem ThR.atom {d : D} {v : V} (h : Simp d) (hl : lof d = []) (r : RV K Z d v) : ThR K Z d d [] v := ⟨.atom h, hl.symm, fun _ h => (nomatch h), fun _ h => (nomatch h), r, fun _ => .simp h⟩
theorem RS.dels {as : List (Addr × List D)} (co : Coh K Z) (hh : Holds K Z as) {δ : DSt} {σ : L2.St} (n : ∀ x ∈ δ, ∀ d, x = some d → NoL (as.map (·.2)) d) (h : RS K Z δ σ) : RS K (DL.dels Z (as.map (·.1))) δ σ := by
  induction h with
  | nil => exact .nil
  | cons r t ih =>
    rename_i a b l l'
    refine .cons ?_ (ih fun x hx => n x (List.mem_cons_of_mem _ hx))
    cases a with
    | none => trivial
    | some d => cases b with
      | none => exact r
      | some v => exact RV.dels co hh (n _ List.mem_cons_self d rfl) r
section
variable {X : Cx} {st : Stmt} {rest : List Stmt} {t u : DS}
theorem RS.put {δ : DSt} {σ : L2.St} {i : Nat} {d : D} {v : V} (h : RS K Z δ σ) (hv : σ[i]? = some (some v)) (r : RV K Z d v) : RS K Z (δ.set i (some d)) σ := by
  have := RS.set i h (a := some d) (b := some v) r
  have e : σ.set i (some v) = σ := by
    apply List.ext_getElem?
    intro j
    rw [List.getElem?_set]
    split
    · rename_i hj; subst hj
      split
      · exact hv.symm
      · rename_i hl; exact (List.getElem?_eq_none (by omega)).symm
    · rfl
  rw [e] at this; exact this
end
/-! ### the law's def over a clean heap -/
end DL


/-! DLU: methods whose last values are left out. -/
namespace DL
open PySem PySem.Spec PyProof.Rows L2
variable {K : PySem.W.Frag} {X : Cx} {Z0 : Hp} {k j : Nat}
structure DMethD (P : Program) (w : World) (K : PySem.W.Frag) (mg : Str → Option Value) (base : Heap) (k : Nat) (c m : String) (sp : DSp) (dvs : List D) : Prop where
  ex : ∃ (f : Addr) (fd : FuncData) (ps : List Str) (ds : List Value) (ws : List V), Cls K (He.ga K (Str.ofString c)) ∧ Meth K (He.ga K (Str.ofString c)) (Str.ofString m) f ∧ FnOk P w K mg base (CX P w) k f fd ps (liftSp K sp) ∧ Binds K fd ps ds ∧ Vals ws ds ∧ ∀ Z, RVs K Z dvs ws
end DL


/-! DLV: sorted(d.items()), the keys texts, the values tuples. -/
namespace DL
open PySem PySem.W PySem.Calls PyProof.Rows PyProof.V PySem.Spec DT
section
variable {prog : Program} {w : World} {A : Around} {E : Value → Shared → Prop} {s : Shared}
/-- v is a pair: the text y and the object b -/
def PairS (h : Heap) (v : Value) (y : Str) (b : Addr) : Prop := ∃ (a : Addr) (t : Tok), v = .ref a ∧ IsTup h a #[.str y t, .ref b]
def keyTxS (h : Heap) (v : Value) : Str := txOf (seqAt0 h (refOf (some v)))
theorem PairS.tx {h : Heap} {v : Value} {y : Str} {b : Addr} (x : PairS h v y b) : keyTxS h v = y := by
  obtain ⟨a, t, rfl, h1⟩ := x
  show txOf (seqAt0 h a) = y
  rw [seqAt0_of h1]
  rfl
end
end DL
namespace DL
open PySem PySem.Spec PyProof.Rows L2 DX
section
variable {X : Cx}
end

/-! ### a rank of texts -/
section
variable {X : Cx} {Z0 : Hp} {K : PySem.W.Frag}
end
end DL


/-! DLW: two values' lists taken back at once. -/
namespace DL
open PySem PySem.Spec PyProof.Rows L2
section
variable {K : PySem.W.Frag} {Z Z' Z0 : Hp} {X : Cx} {st : Stmt} {rest : List Stmt} {t u : DS}
end
end DL


/-! DLY: try with several clauses 'except C as e', e one name for all. -/
namespace L2
open PySem PySem.Spec PyProof.Rows
/-- what such clauses wish of an exception of the body, one after the other -/
def wManyAs (K : PySem.W.Frag) (i : Nat) (Wout : WX) (D : Ends) : List (Value × (Addr → Value → Option Addr → TS)) → WX
  | [] => Wout
  | (c, ts) :: r => fun cls d σ H => ∃ b, PySem.W.exmOne K cls c = some b ∧
    (b = true → ∀ a, H a = none → ts a cls d { nx := fun σ' H' => D.nx (σ'.set i none) H', rt := D.rt, bk := fun σ' H' => D.bk (σ'.set i none) H', ct := fun σ' H' => D.ct (σ'.set i none) H' } (σ.set i (some (.ref a))) H) ∧
    (b = false → wManyAs K i Wout D r cls d σ H)
inductive HdsAs (X : Cx) (n : Str) : List ExceptHandler → List (Value × (Addr → Value → Option Addr → TS)) → Prop
  | nil : HdsAs X n [] []
  | cons {x : Str} {c : Value} {ts : Addr → Value → Option Addr → TS} {b0 : Stmt} {suite : List Stmt} {np pos' : Pos} {hds : List ExceptHandler} {l : List (Value × (Addr → Value → Option Addr → TS))} (hc : Names X x c)
      (hsu : ∀ (a : Addr) (oe : Obj) (cls : Value) (d : Option Addr) (pn : List (Addr × Obj)), Zc cls d oe → (∃ vs, oe.data = .fields vs) → PSs (X.suite a ((a, oe) :: pn)) (b0 :: suite) (ts a cls d)) (r : HdsAs X n hds l) :
      HdsAs X n (.ExceptHandler (some (.Name x np)) (some n) (b0 :: suite) pos' :: hds) ((c, ts) :: l)
section
variable {X : Cx} {n : Str} {i : Nat} {body : List Stmt} {h0 : ExceptHandler} {hds : List ExceptHandler} {l : List (Value × (Addr → Value → Option Addr → TS))} {pos : Pos} {tb : WX → TS} {Wout : WX}
/-- an exception of the body (at a, of the class cls), as the clauses meet it: the body's state without it is σ, H -/
def Met (X : Cx) (pins : List (Addr × Obj)) (a : Addr) (cls : Value) (d : Option Addr) (σ : St) (H : Hp) (s : Shared) : Prop :=
  ∃ B s0, Inv X pins σ H s0 ∧ (∀ b o, s0.heap.get? b = some o → b ∉ frs X.stack → B.get? b = some o) ∧ s0.heap.UpToSlots s.heap ∧ HandSPX.FlyingZ B (X.env :: X.outer) a (Zc cls d) s.heap ∧ H a = none ∧ s.os = s0.os ∧ AllBare s.gens
section
variable {pins : List (Addr × Obj)} {a : Addr} {cls : Value} {d : Option Addr} {σ : St} {H : Hp} {s : Shared} {D : Ends}
/-- its object, and the state with it pinned -/
theorem Met.held (m : Met X pins a cls d σ H s) (hf : X.env.frame = some X.env.locals) : H a = none ∧
    ∃ oe, s.heap.get? a = some oe ∧ Zc cls d oe ∧ (∃ vs, oe.data = .fields vs) ∧ Inv (X.suite a ((a, oe) :: (X.pn ++ pins))) [] σ H s := by
  obtain ⟨B, s0, I, keepB, up, fly, na, hos, bare⟩ := m
  refine ⟨na, ?_⟩
  obtain ⟨oe, vs, look, isZ, flds⟩ := fly.there
  have far : a ∉ frs (X.env :: X.outer) := by
    intro inFr
    obtain ⟨x, ob, at_, noFlds⟩ := fly.2.2.1.mem inFr
    rw [look] at at_
    cases at_
    exact noFlds _ flds
  refine ⟨oe, look, isZ, ⟨vs, flds⟩, (I.landed keepB fly.1 up hos bare).suite look flds na (fun e => far ?_) fun hx => far ?_⟩
  · exact List.mem_filterMap.mpr ⟨_, List.mem_cons_self, hf.trans (congrArg some e.symm)⟩
  · obtain ⟨v, hv, e⟩ := List.mem_filterMap.mp hx
    exact List.mem_filterMap.mpr ⟨v, List.mem_cons_of_mem _ hv, e⟩
theorem Met.inv (m : Met X pins a cls d σ H s) : Inv X pins σ H s := by
  obtain ⟨B, s0, I, keepB, up, fly, _, hos, bare⟩ := m
  exact I.landed keepB fly.1 up hos bare
/-- no clause takes it -/
theorem Met.out (m : Met X pins a cls d σ H s) (hs : X.stack = X.env :: X.outer) (hf : X.env.frame = some X.env.locals) (tk : Takes X Wout) (w : Wout cls d σ H) (Q : Flow → Shared → Prop) :
    wpAny (model X.prog X.w) X.A (handleBy (.ref a) X.env []) Q X.xe s := by
  obtain ⟨B, s0, I, keepB, up, fly, na, hos, bare⟩ := m
  apply wpAny_handleBy_nil
  have fly' := fly
  obtain ⟨_, _, _, oe, vs, T, oT, us, look, _, flds, one, _⟩ := fly'
  unfold PySem.passOn
  apply wpAny_bind
  refine wpAny_field look flds one ?_
  have notNone : ¬ ((Value.ref T == Value.none) = true) := by simp
  rw [if_neg notNone]
  have thrown : wpAny (model X.prog X.w) X.A (setFlight (.ref a) X.env.frame) (fun _ t => wpAny (model X.prog X.w) X.A (throw (.ref a) : Sem Flow) Q X.xe t) X.xe s := by
    rw [hf]
    refine HandSPX.setFlight_upZ fly fun hp kept upp => ?_
    refine wpAny_throw (tk _ _ ⟨a, B, s0, pins, σ, H, cls, d, rfl, I, keepB, up.trans upp, ?_, na, hos, bare, w⟩)
    rw [hs]
    exact Or.inr (Or.inr kept)
  first
    | exact wpAny_bind thrown
    | exact wpAny_bind (wpAny_pure (wpAny_bind thrown))
/-- one clause is asked -/
theorem Met.clause {x : Str} {c : Value} {ts : Addr → Value → Option Addr → TS} {b0 : Stmt} {suite : List Stmt} {np ep : Pos} {b : Bool} (m : Met X pins a cls d σ H s) (ok : X.Ok) (hf : X.env.frame = some X.env.locals) (hN : X.N.Nodup) (hi : X.N[i]? = some n) (hln : X.env.kindOf n = some .local) (hc : Names X x c)
    (hsu : ∀ (a : Addr) (oe : Obj) (cls : Value) (d : Option Addr) (pn : List (Addr × Obj)), Zc cls d oe → (∃ vs, oe.data = .fields vs) → PSs (X.suite a ((a, oe) :: pn)) (b0 :: suite) (ts a cls d)) (tells : PySem.W.exmOne X.K cls c = some b)
    (yes : b = true → ts a cls d { nx := fun σ' H' => D.nx (σ'.set i none) H', rt := D.rt, bk := fun σ' H' => D.bk (σ'.set i none) H', ct := fun σ' H' => D.ct (σ'.set i none) H' } (σ.set i (some (.ref a))) H)
    (no : b = false → wpAny (model X.prog X.w) X.A (handleBy (.ref a) X.env hds) (SP X pins D) X.xe s) :
    wpAny (model X.prog X.w) X.A (handleBy (.ref a) X.env (.ExceptHandler (some (.Name x np)) (some n) (b0 :: suite) ep :: hds)) (SP X pins D) X.xe s := by
  obtain ⟨_, oe, look, isZ, _, S⟩ := m.held hf
  refine wpAny_handleBy_cons (codeAny_handlers_test ?_) (fun z => nomatch z)
  have named : ∀ {Q E : Value → Shared → Prop}, Q c s → wpAny (model X.prog X.w) (X.A.mark (some (.ref a))) (eval (.Name x np) X.env) Q E s := by
    intro Q E q
    rcases hc with ⟨gl, dbg, h | ⟨h, boot, nn⟩⟩
    · exact ld_glob (X := X.suite a ((a, oe) :: (X.pn ++ pins))) S gl h q dbg
    · exact ld_blt (X := X.suite a ((a, oe) :: (X.pn ++ pins))) S gl h boot q nn dbg
  have typ : PySem.W.Looks (model X.prog X.w) s.heap (typeOf (.ref a)) cls := fun _ _ _ _ there q => wpAny_typeOf_ref (there _ _ look) (by rw [isZ.1]; exact q)
  refine named ((PySem.W.exm_one (M := model X.prog X.w) m.inv.kIn typ tells).here ?_)
  cases b with
  | false => exact no rfl
  | true =>
    refine codeAny_handlers_suite_as ?_
    obtain ⟨B, s0, I, keepB, up, fly, na, hos, bare⟩ := m
    refine HandSPX.lands_againZ fly fun hp fly2 up2 => ?_
    have m2 : Met X pins a cls d σ H { s with heap := hp } := ⟨B, s0, I, keepB, up.trans up2, fly2, na, hos, bare⟩
    obtain ⟨_, oe2, _, isZ2, hasF, S2⟩ := m2.held hf
    refine store_ok (X := X.suite a ((a, oe2) :: (X.pn ++ pins))) (v := .ref a) S2 hN hi (Or.inl hln) rfl (fun t Sx => ?_) (Or.inr hln)
    refine wpAny_mono ((hsu a oe2 cls d (X.pn ++ pins) isZ2 hasF).run [] t _ H _ Sx (yes rfl)) (fun f u => ?_) fun _ _ z => z.elim
    have gone : ∀ {σ3 : St} {H3 : Hp} {P : Shared → Prop}, Inv (X.suite a ((a, oe2) :: (X.pn ++ pins))) [] σ3 H3 u → (∀ v, Inv X pins (σ3.set i none) H3 v → P v) →
        wpAny (model X.prog X.w) X.A (do bindName X.env n .none; unbindBehindTheSuite X.env n ep) (fun _ v => P v) X.xe u := by
      intro σ3 H3 P S3 hP
      exact gone_ok (S3.unsuite ok) hN hi hln hP
    cases f with
    | next => rintro ⟨_, _, S3, q⟩; exact gone S3 fun v J => ⟨_, _, J, q⟩
    | brk => rintro ⟨_, _, S3, q⟩; exact gone S3 fun v J => ⟨_, _, J, q⟩
    | cont => rintro ⟨_, _, S3, q⟩; exact gone S3 fun v J => ⟨_, _, J, q⟩
    | ret r => rintro ⟨_, _, _, S3, rel, q⟩; exact gone S3 fun v J => ⟨_, _, _, J, rel, q⟩
/-- the clauses, one after the other -/
theorem Met.clauses (ok : X.Ok) (hs : X.stack = X.env :: X.outer) (hf : X.env.frame = some X.env.locals) (hN : X.N.Nodup) (hi : X.N[i]? = some n) (hln : X.env.kindOf n = some .local) (tk : Takes X Wout) (m : Met X pins a cls d σ H s) (hk : HdsAs X n hds l) :
    wManyAs X.K i Wout D l cls d σ H → wpAny (model X.prog X.w) X.A (handleBy (.ref a) X.env hds) (SP X pins D) X.xe s := by
  induction hk with
  | nil => exact fun w => m.out hs hf tk w _
  | cons hc hsu _ ih =>
    rintro ⟨b, tells, yes, no⟩
    exact m.clause ok hf hN hi hln hc hsu tells (fun e => yes e a (m.held hf).1) fun e => ih (no e)
end
end
end L2
namespace DL
open PySem PySem.Spec PyProof.Rows L2
variable {K : PySem.W.Frag} {Z Z' Z0 : Hp} {X : Cx}
section
variable {x x2 n : Str} {c c2 : Value} {i : Nat} {body suite suite2 : List Stmt} {b0 b2 : Stmt} {np np2 pos pos' pos2 : Pos} {tb : DW → DS} {ts ts2 : Addr → String → List (String × D) → DS} {w : DW} {sub sub2 : String → Option Bool}
end
end DL


/-! DLZ: text.split(sep). -/
namespace DL
open PySem PySem.Spec PyProof.Rows L2
variable {K : PySem.W.Frag} {Z Z' Z0 : Hp} {X : Cx}
/-! ### a dict of the module, its keys and values texts -/
abbrev TabS : Type := List (Str × Str)
section
variable {a : Expr} {ta : DE} {x : Str} {d : Addr} {tab : TabS} {es : Array DictEntry} {n : Nat} {p pos : Pos}
end
/-! ### the head's facts with such dicts beside -/
end DL


/-! DM0: dicts whose keys are pairs of a text and a truth. -/
namespace DL
open PySem PySem.Spec PyProof.Rows L2
variable {K : PySem.W.Frag} {X : Cx} {Z0 : Hp}
abbrev KP := Str × Bool
class HashT where
  hf : Str → Bool → Int
section
variable {pins : List (Addr × Obj)} {σ : L2.St} {H : Hp} {s : Shared} {a p : Addr} {A : Around} {E : Value → Shared → Prop} {us : List (KP × Addr × V)} {k : KP}
end
/-! ### readings -/
section
variable {a b : Expr} {pos : Pos} {ta tb : DE}
end
end DL


/-! DM1: zip of a text and a list; text.index(text). -/
namespace DL
open PySem PySem.Spec PyProof.Rows L2
variable {K : PySem.W.Frag} {Z : Hp} {X : Cx} {Z0 : Hp}
/-! ### text.index(text) -/
/-! ### a text among the keys of the module's dict, as a test -/
section
variable {a : Expr} {ta : DE} {x : Str} {d : Addr} {tab : TabS} {es : Array DictEntry} {n : Nat} {p pos : Pos}
end
end DL


/-! FT: names, fractions told, ties. -/
namespace FR
open PySem PySem.Spec PyProof.Rows L2 DL
def isIntD : D → Bool
  | .int _ => true
  | _ => false
def nameB (z : Str) : Bool := decide (1 ≤ z.length ∧ z.length ≤ 8) && z.cps.toList.all fun c => decide (97 ≤ c ∧ c ≤ 122)
def fracB : D → Bool
  | .tup [.int a, .int b] => decide (1 ≤ b) && decide (Int.gcd a b = 1)
  | _ => false
def tyOk (A : AH) : D → Bool
  | .tup l => l.all fun d => (tyD A d).isSome
  | d => (tyD A d).isSome
theorem fracB_eq (d : D) : fracB d = (deFr d).isSome := by
  unfold fracB
  split
  · rename_i a b
    show _ = (if h : 0 < b ∧ a.natAbs.gcd b.natAbs = 1 then some (⟨a, b.natAbs, by omega, h.2⟩ : Rat) else none).isSome
    by_cases h : 0 < b ∧ a.natAbs.gcd b.natAbs = 1
    · rw [dif_pos h]
      have h1 : 1 ≤ b := by omega
      have h2 : Int.gcd a b = 1 := h.2
      simp [h1, h2]
    · rw [dif_neg h]
      by_cases h1 : 1 ≤ b
      · have h2 : ¬ Int.gcd a b = 1 := fun e => h ⟨by omega, e⟩
        simp [h2]
      · simp [h1]
  · rename_i h
    unfold deFr
    split
    · rename_i a b; exact absurd rfl (h a b)
    · rfl
@[simp] theorem fracB_fr (q : Rat) : fracB (frD q) = true := by rw [fracB_eq, deFr_frD]; rfl
@[simp] theorem tyOk_fr {A : AH} (q : Rat) : tyOk A (frD q) = true := by unfold frD; simp [tyOk]
/-! ### ties -/
structure TieV where
  name : Str
  start : Str
  fin : Str
  low : Option Rat
  high : Option Rat
def obD : Option Rat → D
  | none => .non
  | some q => frD q
theorem obD_inj : ∀ {a b : Option Rat}, obD a = obD b → a = b
  | none, none, _ => rfl
  | none, some _, h => by simp [obD, frD] at h
  | some _, none, h => by simp [obD, frD] at h
  | some a, some b, h => by rw [frD_inj h]
@[simp] theorem obD_none : obD none = .non := rfl
@[simp] theorem obD_some (q : Rat) : obD (some q) = frD q := rfl
/-- a tie's plain tuple -/
def tieD (t : TieV) : D := .tup [.str t.name, .str t.start, .str t.fin, obD t.low, obD t.high]
def leOb : Option Rat → Option Rat → Bool
  | some l, some h => decide (l ≤ h)
  | _, _ => true
structure TieV.Ok (t : TieV) : Prop where
  n1 : nameB t.name = true
  n2 : nameB t.start = true
  n3 : nameB t.fin = true
  ne : t.start ≠ t.fin
  le : leOb t.low t.high = true
def TieV.Sm (t : TieV) : Prop := (∀ q, t.low = some q → FR.Sm q) ∧ ∀ q, t.high = some q → FR.Sm q
def deOb : D → Option (Option Rat)
  | .non => some none
  | d => (deFr d).map some
@[simp] theorem deOb_obD (o : Option Rat) : deOb (obD o) = some o := by
  cases o with
  | none => rfl
  | some q =>
    have e : deOb (frD q) = (deFr (frD q)).map some := by rw [frD_def]; rfl
    show deOb (frD q) = _
    rw [e, deFr_frD]; rfl
def TieV.okB (t : TieV) : Bool := nameB t.name && (nameB t.start && (nameB t.fin && (!(t.start == t.fin) && leOb t.low t.high)))
theorem TieV.okB_iff (t : TieV) : t.okB = true ↔ t.Ok := by
  unfold TieV.okB
  simp only [Bool.and_eq_true, Bool.not_eq_true', beq_eq_false_iff_ne]
  exact ⟨fun ⟨a, b, c, d, e⟩ => ⟨a, b, c, d, e⟩, fun ⟨a, b, c, d, e⟩ => ⟨a, b, c, d, e⟩⟩
/-- what a thing is a tie's tuple of -/
def deTie : D → Option TieV
  | .tup [.str a, .str b, .str c, l, h] => (match deOb l, deOb h with
    | some lo, some hi => if (TieV.okB ⟨a, b, c, lo, hi⟩) = true then some ⟨a, b, c, lo, hi⟩ else none
    | _, _ => none)
  | _ => none
theorem deTie_tie {t : TieV} (h : t.Ok) : deTie (tieD t) = some t := by
  unfold tieD deTie
  simp only [deOb_obD]
  rw [if_pos ((TieV.okB_iff _).mpr h)]
def TieV.cls (t : TieV) : String := match t.low, t.high with
  | none, none => "Free"
  | some _, none => "AtLeast"
  | none, some _ => "AtMost"
  | some l, some h => if l = h then "Just" else "Between"
def TieV.flds (t : TieV) : List (String × D) := [("name", .str t.name), ("start", .str t.start), ("end", .str t.fin)] ++ match t.low, t.high with
  | none, none => []
  | some l, none => [("least", frD l)]
  | none, some h => [("greatest", frD h)]
  | some l, some h => if l = h then [("size", frD l)] else [("least", frD l), ("greatest", frD h)]
/-- a tie's object -/
@[irreducible] def tieO (t : TieV) : D := .obj t.cls (t.flds.map (·.1)) (t.flds.map (·.2))
theorem zip_maps {α β : Type} : ∀ l : List (α × β), (l.map (·.1)).zip (l.map (·.2)) = l
  | [] => rfl
  | (a, b) :: l => by simp [zip_maps l]
@[simp] theorem asObj_tie {A : AH} (t : TieV) : asObj A (tieO t) = some (t.cls, t.flds) := by
  unfold tieO; rw [asObj_obj, zip_maps]
@[simp] theorem flds_name (t : TieV) : lookS "name" t.flds = some (.str t.name) := by rw [lookS_eq]; rfl
@[simp] theorem flds_start (t : TieV) : lookS "start" t.flds = some (.str t.start) := by rw [lookS_eq]; rfl
@[simp] theorem flds_end (t : TieV) : lookS "end" t.flds = some (.str t.fin) := by rw [lookS_eq]; rfl
def nameD : D → Bool
  | .str z => nameB z
  | _ => false
/-- what may be asked whether it is a tie -/
def TieIn (A : AH) (d : D) : Prop := (tyD A d).isSome = true ∧ ∀ l, d = .tup l → l.length = 5 → ∀ x ∈ l, tyOk A x = true ∧ (∀ z, x = .str z → Few z.length ∧ PyData.strOk z = true) ∧ ∀ q, x = frD q → Sm q
theorem nameB_few {z : Str} (h : nameB z = true) : Few z.length ∧ PyData.strOk z = true := by
  unfold nameB at h
  simp only [Bool.and_eq_true, decide_eq_true_eq] at h
  refine ⟨by show _ < _; omega, ?_⟩
  unfold PyData.strOk
  rw [Array.all_eq_true_iff_forall_mem]
  intro x hx
  have := List.all_eq_true.mp h.2 x (by simpa using hx)
  simp only [decide_eq_true_eq] at this
  exact decide_eq_true (by omega)
theorem tyOk_ob {A : AH} (o : Option Rat) : tyOk A (obD o) = true := by
  cases o with
  | none => rfl
  | some q => exact tyOk_fr q
theorem tieIn_tie {A : AH} {t : TieV} (h : t.Ok) (s : t.Sm) : TieIn A (tieD t) := by
  refine ⟨rfl, fun l e _ x hx => ?_⟩
  unfold tieD at e
  cases e
  have str : ∀ z, nameB z = true → tyOk A (.str z) = true ∧ (∀ y, D.str z = .str y → Few y.length ∧ PyData.strOk y = true) ∧ ∀ q, D.str z = frD q → Sm q := fun z hz =>
    ⟨rfl, fun y e => by cases e; exact nameB_few hz, fun q e => by rw [frD_def] at e; cases e⟩
  have ob : ∀ o, (∀ q, o = some q → Sm q) → tyOk A (obD o) = true ∧ (∀ y, obD o = .str y → Few y.length ∧ PyData.strOk y = true) ∧ ∀ q, obD o = frD q → Sm q := fun o ho =>
    ⟨tyOk_ob o, fun y e => (by
      cases o with
      | none => exact nomatch e
      | some q => rw [obD_some, frD_def] at e; exact nomatch e), fun q e => ho q (obD_inj (b := some q) e)⟩
  simp only [List.mem_cons, List.not_mem_nil, or_false] at hx
  rcases hx with rfl | rfl | rfl | rfl | rfl
  · exact str _ h.n1
  · exact str _ h.n2
  · exact str _ h.n3
  · exact ob _ s.1
  · exact ob _ s.2
@[simp] theorem putD_nil (f : String) (d : D) : putD f d [] = [(f, d)] := rfl
@[simp] theorem putD_cons (f g : String) (d x : D) (r : List (String × D)) : putD f d ((g, x) :: r) = if g = f then (g, d) :: r else (g, x) :: putD f d r := rfl
end FR


/-! DM3: lists taken as one's own within a def that is called: what stood at its beginning holds lists of other kinds alone. -/
namespace DL
open PySem PySem.Spec PyProof.Rows L2
variable {K : PySem.W.Frag} {Z Z' Z0 : Hp} {P : List D → Prop}
mutual
/-- data whose lists are of a kind -/
def KD (P : List D → Prop) : D → Prop
  | .lst m => P m ∧ KDs P m
  | .rol m => P m ∧ KDs P m
  | .tup m => KDs P m
  | .dic _ m => KDs P m
  | .obj _ _ m => KDs P m
  | _ => True
def KDs (P : List D → Prop) : List D → Prop
  | [] => True
  | d :: m => KD P d ∧ KDs P m
end
mutual
theorem KD.simp : ∀ {d : D}, Simp d → KD P d
  | .non, _ => trivial
  | .bl _, _ => trivial
  | .int _, _ => trivial
  | .str _, _ => trivial
  | .ref _, h => h.elim
  | .lst _, h => h.elim
  | .rol _, h => h.elim
  | .dic _ _, h => h.elim
  | .obj _ _ _, h => h.elim
  | .tup m, h => KDs.simp (l := m) h
theorem KDs.simp : ∀ {l : List D}, Simps l → KDs P l
  | [], _ => trivial
  | d :: m, h => ⟨KD.simp h.1, KDs.simp h.2⟩
end
open Classical in
/-- a frozen heap without the lists of other kinds -/
noncomputable def cl (K : PySem.W.Frag) (P : List D → Prop) (Z : Hp) : Hp := fun a => if ∃ vs, Z a = some (.lst vs) ∧ ¬ ∃ l, RVs K Z l vs ∧ P l ∧ KDs P l then none else Z a
theorem cl_keep {a : Addr} {o : HO} (e : Z a = some o) (hn : ∀ vs, o ≠ .lst vs) : cl K P Z a = some o := by
  unfold cl
  rw [if_neg, e]
  rintro ⟨vs, h, _⟩
  rw [e] at h
  exact hn vs (Option.some.inj h)
theorem cl_lst {a : Addr} {vs : List V} {l : List D} (e : Z a = some (.lst vs)) (r : RVs K Z l vs) (h : P l) (k : KDs P l) : cl K P Z a = some (.lst vs) := by
  unfold cl
  rw [if_neg, e]
  rintro ⟨us, h2, h3⟩
  rw [e] at h2
  have : vs = us := by injection h2 with q; injection q
  subst this
  exact h3 ⟨l, r, h, k⟩
theorem cl_in {a : Addr} {o : HO} (h : cl K P Z a = some o) : Z a = some o ∧ ∀ vs, o = .lst vs → ∃ l, RVs K Z l vs ∧ P l ∧ KDs P l := by
  unfold cl at h
  split at h
  · cases h
  · rename_i hn
    refine ⟨h, fun vs e => ?_⟩
    subst e
    exact Classical.byContradiction fun q => hn ⟨vs, h, q⟩
theorem cl_sub : Same (cl K P Z) Z := fun a o h => (cl_in h).1
theorem rd_cl {a : Addr} {u : HO} (hn : ∀ vs, u ≠ .lst vs) (r : Rd Z a u) : Rd (cl K P Z) a u := by
  rcases r with r | ⟨o, r⟩
  · exact .inl (cl_keep r hn)
  · exact .inr ⟨o, cl_keep r fun vs e => by cases e⟩
mutual
theorem RV.cl : ∀ {d : D} {v : V}, KD P d → RV K Z d v → RV K (DL.cl K P Z) d v
  | .non, _, _, r => by simpa only [RV] using r
  | .bl _, _, _, r => by simpa only [RV] using r
  | .int _, _, _, r => by simpa only [RV] using r
  | .str _, _, _, r => by simpa only [RV] using r
  | .ref _, _, _, r => by simpa only [RV] using r
  | .tup m, v, n, r => by
    obtain ⟨p, vs, h1, h2, h3⟩ := rv_tup r
    simp only [RV]
    exact ⟨p, vs, h1, h2.imp (rd_cl fun _ e => by cases e) id, RVs.cl n h3⟩
  | .lst m, v, n, r => by
    obtain ⟨p, vs, h1, h2, h3⟩ := rv_lst r
    simp only [RV]
    exact ⟨p, vs, h1, cl_lst h2 h3 n.1 n.2, RVs.cl n.2 h3⟩
  | .rol m, v, n, r => by
    obtain ⟨p, vs, h1, h2, h3⟩ := rv_rol r
    simp only [RV]
    refine ⟨p, vs, h1, ?_, RVs.cl n.2 h3⟩
    rcases h2 with (h2 | ⟨o, h2⟩) | h2
    · exact .inl (.inl (cl_lst h2 h3 n.1 n.2))
    · exact .inl (.inr ⟨o, cl_keep h2 fun vs e => by cases e⟩)
    · exact .inr h2
  | .dic ks m, v, n, r => by
    obtain ⟨p, kvs, h1, h2, h3, h4⟩ := rv_dic r
    simp only [RV]
    exact ⟨p, kvs, h1, cl_keep h2 (fun vs e => by cases e), h3, RVs.cl n h4⟩
  | .obj c ns m, v, n, r => by
    obtain ⟨p, dx, fs, h1, h2, h3, h4⟩ := rv_obj r
    simp only [RV]
    exact ⟨p, dx, fs, h1, cl_keep h2 (fun vs e => by cases e), h3, RVs.cl n h4⟩
theorem RVs.cl : ∀ {l : List D} {vs : List V}, KDs P l → RVs K Z l vs → RVs K (DL.cl K P Z) l vs
  | [], vs, _, r => by rw [r.inv0]; exact .nil
  | d :: l, vs, n, r => by
    obtain ⟨v, u, rfl, r1, r2⟩ := r.inv
    exact .cons (RV.cl n.1 r1) (RVs.cl n.2 r2)
end
/-- all lists are of a kind -/
def CleanP (K : PySem.W.Frag) (P : List D → Prop) (Z : Hp) : Prop := ∀ a vs, Z a = some (.lst vs) → ∃ l, RVs K Z l vs ∧ P l
/-- what an object holds, of that kind -/
def KO (P : List D → Prop) : AO → Prop
  | .lst l => KDs P l
  | .dic kvs => KDs P (kvs.map (·.2))
  | .obj _ fs => KDs P (fs.map (·.2))
  | .tk _ _ => False
theorem RO.cl {H : Hp} {a : Addr} {o : AO} (n : KO P o) (r : RO K Z H a o) : RO K (DL.cl K P Z) H a o := by
  cases o with
  | lst l => obtain ⟨vs, h1, h2⟩ := r; exact ⟨vs, h1, h2.cl n⟩
  | dic kvs => obtain ⟨us, h1, h2, h3⟩ := r; exact ⟨us, h1, h2, h3.cl n⟩
  | obj c fs => obtain ⟨dx, us, h1, h2, h3⟩ := r; exact ⟨dx, us, h1, h2, h3.cl n⟩
  | tk hf kvs => exact n.elim
theorem RA.cl {A : AH} {H : Hp} (n : ∀ a o, A a = some o → KO P o) (r : RA K Z A H) : RA K (DL.cl K P Z) A H := ⟨fun a o h => r.sub a o (cl_sub a o h), fun a o h => by
  obtain ⟨h1, h2⟩ := r.at_ a o h
  refine ⟨?_, h2.cl (n a o h)⟩
  cases q : DL.cl K P Z a with
  | none => rfl
  | some u => rw [cl_sub a u q] at h1; cases h1⟩
/-- a def's promise where all that stands frozen is of a kind -/
def liftSpP (K : PySem.W.Frag) (P : List D → Prop) (sp : DSp) : Sp := fun vs H Q E => ∃ Z ds A Kt Ex, CleanP K P Z ∧ RVs K Z ds vs ∧ RA K Z A H ∧ sp ds A Kt Ex ∧
  (∀ Z' d A' v H', Same Z Z' → RA K Z' A' H' → RV K Z' d v → Kt d A' → Q v H') ∧
  (∀ Z' c fs A' cv dd H', Same Z Z' → RA K Z' A' H' → RX K Z' c fs cv dd → Ex c fs A' → E cv dd H')
structure DFnP (P : Program) (w : World) (K : PySem.W.Frag) (mg : Str → Option Value) (base : Heap) (k : Nat) (x : Str) (PL : List D → Prop) (sp : DSp) : Prop where
  ex : ∃ (f : Addr) (fd : FuncData) (ps : List Str), FnOk P w K mg base (CX P w) k f fd ps (liftSpP K PL sp) ∧ mg x = some (.ref f) ∧ PySem.W.keepIn K (.ref f) = true ∧ Binds K fd ps []
end DL


/-! DM4: a list of rows, each with a list at its end, taken as one's own. -/
namespace DL
open PySem PySem.Spec PyProof.Rows L2
variable {K : PySem.W.Frag} {Z Z' Z0 : Hp} {P : List D → Prop}
section
variable {L : List (List D)}
end
abbrev Row := D × D × List D
/-- the rows' lists by their addresses -/
def Rel (qs : List (Addr × List D)) : List Row → List D → Prop
  | [], [] => True
  | x :: R, y :: S => (∃ e, y = .tup [x.1, x.2.1, e] ∧ ((x.2.2 = [] ∧ e = .lst []) ∨ (x.2.2 ≠ [] ∧ ∃ q, e = .ref q ∧ (q, x.2.2) ∈ qs))) ∧ Rel qs R S
  | _, _ => False
theorem Rel.mono {qs rs : List (Addr × List D)} (h : ∀ x ∈ qs, x ∈ rs) : ∀ {R : List Row} {S : List D}, Rel qs R S → Rel rs R S
  | [], [], _ => trivial
  | [], _ :: _, q => q.elim
  | _ :: _, [], q => q.elim
  | x :: R, y :: S, ⟨⟨e, h1, h2⟩, q⟩ => ⟨⟨e, h1, h2.imp id fun ⟨n, a, b, c⟩ => ⟨n, a, b, h _ c⟩⟩, q.mono h⟩
end DL


/-! DM5: a list of lists that may change compared with another. -/
namespace DL
open PySem PySem.Spec PyProof.Rows L2
variable {K : PySem.W.Frag} {Z : Hp}
/-- a list whose items may be lists that change, as it stands -/
def drf2 (A : AH) : D → D
  | .ref a => match A a with
    | some (.lst l) => .lst (l.map (drf A))
    | _ => .ref a
  | d => d
theorem dps_drf {A : AH} {H : Hp} (R : RA K Z A H) : ∀ (l : List D) (vs : List V) (n : Nat), dts n (l.map (drf A)) = true → RVs K Z l vs → DpAll K H vs (pys (l.map (drf A)))
  | [], vs, _, _, r => by rw [r.inv0]; simp only [List.map_nil, pys]; exact .nil
  | d :: l, vs, n, h, r => by
    simp only [List.map_cons, dts, Bool.and_eq_true] at h
    obtain ⟨v, u, rfl, r1, r2⟩ := r.inv
    simp only [List.map_cons, pys]
    exact .cons (dp_drf R h.1 r1) (dps_drf R l u n h.2 r2)
theorem dp_drf2 {A : AH} {H : Hp} (R : RA K Z A H) {d : D} {v : V} {n : Nat} (h : dt n (drf2 A d) = true) (r : RV K Z d v) : Dp K H v (py (drf2 A d)) := by
  cases d with
  | ref a =>
    have e : drf2 A (.ref a) = (match A a with | some (.lst l) => .lst (l.map (drf A)) | _ => .ref a) := rfl
    rw [e] at h ⊢
    split at h
    · rename_i l q
      obtain ⟨vs, e2, e3⟩ := (R.at_ a _ q).2
      rw [rv_ref r]
      cases n with
      | zero => simp [dt] at h
      | succ n =>
        simp only [dt] at h
        simp only [py]
        exact .lst (SqL.of e2) (dps_drf R l vs n h e3)
    · simp [dt] at h
  | _ => exact dp_of R _ _ n h r
def opNe2 : DOp := fun x y A Q => dt 60 (drf2 A x) = true ∧ dt 60 (drf2 A y) = true ∧ Q (.bl (!(deq (drf2 A x) (drf2 A y)))) A
theorem lift_ne2 : LiftOp K opNe2 (rNeD K) := fun Z A H x y vx vy Kt Q R rx ry ⟨h1, h2, h⟩ k => by
  obtain ⟨c1, c2⟩ := dt_canLay _ _ h1
  obtain ⟨c3, c4⟩ := dt_canLay _ _ h2
  refine ⟨_, _, dp_drf2 R h1 rx, dp_drf2 R h2 ry, ?_, ?_, ?_⟩
  · unfold SeqAt.shaped; rw [c1, Bool.true_and]; exact decide_eq_true (by omega)
  · unfold SeqAt.shaped; rw [c3, Bool.true_and]; exact decide_eq_true (by omega)
  · rw [deq_eqv _ _ _ _ h1 h2]
    exact k Z _ A _ H (Same.refl Z) R mk_bl h
end DL


/-! TF0: typed programs, what stands in the slots. -/
namespace TF
open PySem PySem.Spec PyProof.Rows L2 DL FR

/-- what a typed program tells: a value, an exception, or nothing is promised -/
inductive R (α : Type) where
  | ok (a : α) | exc (c : String) (fs : List (String × D)) | bad
namespace R
variable {α β γ : Type}
def bind (m : R α) (f : α → R β) : R β := match m with
  | .ok a => f a
  | .exc c fs => .exc c fs
  | .bad => .bad
def wp (m : R α) (Q : α → Prop) (E : String → List (String × D) → Prop) : Prop := match m with
  | .ok a => Q a
  | .exc c fs => E c fs
  | .bad => False
abbrev map (m : R α) (f : α → β) : R β := m.bind fun a => .ok (f a)
abbrev b2 (m : R α) (n : R β) (F : α → β → R γ) : R γ := m.bind fun a => n.bind fun b => F a b
abbrev cond (m : R Bool) (a b : R β) : R β := m.bind fun c => if c = true then a else b
def noexc (m : R α) : R α := match m with
  | .ok a => .ok a
  | _ => .bad
@[simp] theorem ok_bind {a : α} {f : α → R β} : (ok a).bind f = f a := rfl
@[simp] theorem exc_bind {c fs} {f : α → R β} : (exc c fs : R α).bind f = .exc c fs := rfl
@[simp] theorem bad_bind {f : α → R β} : (bad : R α).bind f = .bad := rfl
@[simp] theorem noexc_ok {a : α} : (ok a).noexc = .ok a := rfl
theorem bind_assoc {m : R α} {f : α → R β} {g : β → R γ} : (m.bind f).bind g = m.bind fun a => (f a).bind g := by cases m <;> rfl
@[simp] theorem wp_ok {a : α} {Q : α → Prop} {E} : (ok a).wp Q E = Q a := rfl
@[simp] theorem wp_exc {c fs} {Q : α → Prop} {E} : (exc c fs : R α).wp Q E = E c fs := rfl
@[simp] theorem wp_bad {Q : α → Prop} {E} : (bad : R α).wp Q E = False := rfl
theorem wp_bind {m : R α} {f : α → R β} {Q : β → Prop} {E} : (m.bind f).wp Q E = m.wp (fun a => (f a).wp Q E) E := by cases m <;> rfl
theorem wp_imp {m : R α} {Q Q' : α → Prop} {E E'} (h : m.wp Q E) (hq : ∀ a, Q a → Q' a) (he : ∀ c fs, E c fs → E' c fs) : m.wp Q' E' := by
  cases m with
  | ok a => exact hq a h
  | exc c fs => exact he c fs h
  | bad => exact h
theorem wp_noexc {m : R α} {Q : α → Prop} {E E'} (h : m.noexc.wp Q E) : m.wp Q E' := by
  cases m with
  | ok a => exact h
  | exc c fs => exact h.elim
  | bad => exact h
end R

/-! ### values as data -/
class Enc (α : Type) where
  enc : α → D
  vw : AH → D → α → Prop := fun _ d a => d = enc a
  vw_enc : ∀ A a, vw A (enc a) a := by intros; rfl
  vw_mono : ∀ {A B d a}, Sub A B → vw A d a → vw B d a := by exact fun _ h => h
open Enc
structure T1 (α : Type) where a : α
  deriving DecidableEq
structure T3 (α β γ : Type) where (a : α) (b : β) (c : γ)
  deriving DecidableEq
structure T4 (α β γ δ : Type) where (a : α) (b : β) (c : γ) (d : δ)
  deriving DecidableEq
structure T5 (α β γ δ ε : Type) where (a : α) (b : β) (c : γ) (d : δ) (e : ε)
  deriving DecidableEq
structure T6 (α β γ δ ε ζ : Type) where (a : α) (b : β) (c : γ) (d : δ) (e : ε) (f : ζ)
  deriving DecidableEq
structure Dic (κ α : Type) where l : List (κ × α)
instance : Enc Int := { enc := .int }
instance : Enc Bool := { enc := .bl }
instance : Enc Str := { enc := .str }
instance : Enc Unit := { enc := fun _ => .non }
instance : Enc Rat := { enc := frD }
instance : Enc D := { enc := id }
section
variable {α β γ δ ε ζ κ : Type} [Enc α] [Enc β] [Enc γ] [Enc δ] [Enc ε] [Enc ζ]
instance : Enc (Option α) := { enc := fun o => match o with
  | none => .non
  | some a => enc a }
instance : Enc (T1 α) := { enc := fun t => .tup [enc t.a] }
instance : Enc (α × β) := { enc := fun t => .tup [enc t.1, enc t.2] }
instance : Enc (T3 α β γ) := { enc := fun t => .tup [enc t.a, enc t.b, enc t.c] }
instance : Enc (T4 α β γ δ) := { enc := fun t => .tup [enc t.a, enc t.b, enc t.c, enc t.d] }
instance : Enc (T5 α β γ δ ε) := { enc := fun t => .tup [enc t.a, enc t.b, enc t.c, enc t.d, enc t.e] }
instance : Enc (T6 α β γ δ ε ζ) := { enc := fun t => .tup [enc t.a, enc t.b, enc t.c, enc t.d, enc t.e, enc t.f] }
theorem asL_sub {A B : AH} (s : Sub A B) {d : D} {l : List D} (h : asL A d = some l) : asL B d = some l := by
  cases d with
  | ref a =>
    have h' : (match A a with | some (.lst l) => some l | _ => none) = some l := h
    show (match B a with | some (.lst l) => some l | _ => none) = some l
    split at h'
    · rename_i q; rw [s _ _ q]; exact h'
    · cases h'
  | _ => exact h
theorem asDic_sub {A B : AH} (s : Sub A B) {d : D} {l : List (Key × D)} (h : asDic A d = some l) : asDic B d = some l := by
  cases d with
  | ref a =>
    have h' : (match A a with | some (.dic l) => some l | _ => none) = some l := h
    show (match B a with | some (.dic l) => some l | _ => none) = some l
    split at h'
    · rename_i q; rw [s _ _ q]; exact h'
    · cases h'
  | _ => exact h
instance : Enc (List α) where
  enc l := .lst (l.map enc)
  vw A d l := asL A d = some (l.map enc)
  vw_enc _ _ := rfl
  vw_mono s h := asL_sub s h
class KeyT (κ : Type) where
  key : κ → Key
  inj : ∀ {a b}, key a = key b → a = b
instance : KeyT Int := ⟨.inl, fun h => Sum.inl.inj h⟩
instance : KeyT Str := ⟨.inr, fun h => Sum.inr.inj h⟩
open KeyT
variable [KeyT κ]
/-- a dict's entries as data -/
def encKV (l : List (κ × α)) : List (Key × D) := l.map fun p => (key p.1, enc p.2)
instance : Enc (Dic κ α) where
  enc d := .dic ((encKV d.l).map (·.1)) ((encKV d.l).map (·.2))
  vw A d l := asDic A d = some (encKV l.l)
  vw_enc _ _ := by show some (((encKV _).map (·.1)).zip ((encKV _).map (·.2))) = _; rw [zip_maps]
  vw_mono s h := asDic_sub s h
end
@[simp] theorem enc_int {i : Int} : enc i = .int i := rfl
@[simp] theorem enc_bool {i : Bool} : enc i = .bl i := rfl
@[simp] theorem enc_str {i : Str} : enc i = .str i := rfl
@[simp] theorem enc_unit {i : Unit} : enc i = .non := rfl
@[simp] theorem enc_rat {i : Rat} : enc i = frD i := rfl
@[simp] theorem enc_D {i : D} : enc i = i := rfl
instance : Enc TieV := { enc := fun t => .tup [enc t.name, enc t.start, enc t.fin, enc t.low, enc t.high] }
theorem enc_opt (o : Option Rat) : enc o = obD o := by cases o <;> rfl
theorem enc_tie (t : TieV) : enc t = tieD t := by
  show D.tup [enc t.name, enc t.start, enc t.fin, enc t.low, enc t.high] = _
  rw [enc_opt, enc_opt]; rfl

/-! ### slots -/
/-- what a slot's own object is: a list or a dict, or an object (its address known or not) with fields, each a value or a list or dict of its own -/
inductive OT where
  | ao (o : AO)
  | ob (c : String) (pin : Option Addr) (fs : List (String × (D ⊕ AO)))
  | pn (q : Addr) (o : AO)
  | on (c : String) (pin : Option Addr) (f : String) (t : OT) (fs : List (String × (D ⊕ AO)))
  | cn (mkf : List (String × D) → AO) (pin : Option Addr) (fs : List (String × (D ⊕ AO)))
/-- fields: the values as told, the own ones behind addresses apart -/
def OwnF (A : AH) : List (String × (D ⊕ AO)) → List (String × D) → List Addr → Prop
  | [], r, B => r = [] ∧ B = []
  | (f, .inl d) :: fs, r, B => ∃ r', r = (f, d) :: r' ∧ OwnF A fs r' B
  | (f, .inr o) :: fs, r, B => ∃ r' q B', r = (f, .ref q) :: r' ∧ A q = some o ∧ q ∉ B' ∧ B = q :: B' ∧ OwnF A fs r' B'
theorem OwnF.frame {A A' : AH} : ∀ {fs : List (String × (D ⊕ AO))} {r : List (String × D)} {B : List Addr}, OwnF A fs r B → (∀ a ∈ B, A' a = A a) → OwnF A' fs r B
  | [], _, _, h, _ => h
  | (_, .inl _) :: _, _, _, ⟨r', e, h⟩, q => ⟨r', e, h.frame q⟩
  | (_, .inr _) :: _, _, _, ⟨r', x, B', e1, e2, e3, e4, h⟩, q => by
    subst e4
    exact ⟨r', x, B', e1, by rw [q x List.mem_cons_self]; exact e2, e3, rfl, h.frame fun a ha => q a (List.mem_cons_of_mem _ ha)⟩
theorem OwnF.there {A : AH} : ∀ {fs : List (String × (D ⊕ AO))} {r : List (String × D)} {B : List Addr}, OwnF A fs r B → ∀ a ∈ B, A a ≠ none
  | [], _, _, ⟨_, e⟩, a, ha => by subst e; cases ha
  | (_, .inl _) :: _, _, _, ⟨_, _, h⟩, a, ha => h.there a ha
  | (_, .inr _) :: _, _, _, ⟨r', x, B', e1, e2, e3, e4, h⟩, a, ha => by
    subst e4
    rcases List.mem_cons.mp ha with rfl | ha
    · rw [e2]; intro z; cases z
    · exact h.there a ha
def Own (A : AH) : OT → Addr → List Addr → Prop
  | .ao o, p, B => A p = some o ∧ B = [p]
  | .pn q o, p, B => A p = some o ∧ B = [p] ∧ p = q
  | .ob c pin fs, p, B => ∃ r B', A p = some (.obj c r) ∧ OwnF A fs r B' ∧ p ∉ B' ∧ B = p :: B' ∧ ∀ x, pin = some x → p = x
  | .on c pin f t fs, p, B => ∃ q B2 r B1, A p = some (.obj c ((f, .ref q) :: r)) ∧ Own A t q B2 ∧ OwnF A fs r B1 ∧ p ∉ B2 ∧ p ∉ B1 ∧ (∀ a ∈ B2, a ∉ B1) ∧ B = p :: (B2 ++ B1) ∧ ∀ x, pin = some x → p = x
  | .cn mkf pin fs, p, B => ∃ r B', A p = some (mkf r) ∧ OwnF A fs r B' ∧ p ∉ B' ∧ B = p :: B' ∧ ∀ x, pin = some x → p = x
theorem Own.frame {A A' : AH} : ∀ {t : OT} {p : Addr} {B : List Addr}, Own A t p B → (∀ a ∈ B, A' a = A a) → Own A' t p B
  | .ao o, p, B, ⟨h, e⟩, q => by subst e; exact ⟨by rw [q p (List.mem_singleton.mpr rfl)]; exact h, rfl⟩
  | .pn x o, p, B, ⟨h, e, e2⟩, q => by subst e; exact ⟨by rw [q p (List.mem_singleton.mpr rfl)]; exact h, rfl, e2⟩
  | .ob c pin fs, p, B, ⟨r, B', h1, h2, h3, e, hp⟩, q => by
    subst e
    exact ⟨r, B', by rw [q p List.mem_cons_self]; exact h1, h2.frame fun a ha => q a (List.mem_cons_of_mem _ ha), h3, rfl, hp⟩
  | .on c pin f t fs, p, B, ⟨x, B2, r, B1, h1, h2, h3, h4, h5, h6, e, hp⟩, q => by
    subst e
    exact ⟨x, B2, r, B1, by rw [q p List.mem_cons_self]; exact h1, h2.frame fun a ha => q a (List.mem_cons_of_mem _ (List.mem_append_left _ ha)), h3.frame fun a ha => q a (List.mem_cons_of_mem _ (List.mem_append_right _ ha)), h4, h5, h6, rfl, hp⟩
  | .cn mkf pin fs, p, B, ⟨r, B', h1, h2, h3, e, hp⟩, q => by
    subst e
    exact ⟨r, B', by rw [q p List.mem_cons_self]; exact h1, h2.frame fun a ha => q a (List.mem_cons_of_mem _ ha), h3, rfl, hp⟩
theorem Own.there {A : AH} : ∀ {t : OT} {p : Addr} {B : List Addr}, Own A t p B → ∀ a ∈ B, A a ≠ none
  | .ao o, p, B, ⟨h, e⟩, a, ha => by subst e; rw [List.mem_singleton.mp ha, h]; intro z; cases z
  | .pn x o, p, B, ⟨h, e, _⟩, a, ha => by subst e; rw [List.mem_singleton.mp ha, h]; intro z; cases z
  | .ob c pin fs, p, B, ⟨r, B', h1, h2, h3, e, _⟩, a, ha => by
    subst e
    rcases List.mem_cons.mp ha with rfl | ha
    · rw [h1]; intro z; cases z
    · exact h2.there a ha
  | .on c pin f t fs, p, B, ⟨x, B2, r, B1, h1, h2, h3, h4, h5, h6, e, _⟩, a, ha => by
    subst e
    rcases List.mem_cons.mp ha with rfl | ha
    · rw [h1]; intro z; cases z
    · rcases List.mem_append.mp ha with ha | ha
      · exact h2.there a ha
      · exact h3.there a ha
  | .cn mkf pin fs, p, B, ⟨r, B', h1, h2, h3, e, _⟩, a, ha => by
    subst e
    rcases List.mem_cons.mp ha with rfl | ha
    · rw [h1]; intro z; cases z
    · exact h2.there a ha
inductive Sl where
  | emp | val (d : D) | own (t : OT)
inductive EnvR (A0 A : AH) : List Addr → List Sl → DSt → Prop
  | nil : EnvR A0 A [] [] []
  | emp {B ss δ x} : EnvR A0 A B ss δ → EnvR A0 A B (.emp :: ss) (x :: δ)
  | val {B ss δ d} : EnvR A0 A B ss δ → EnvR A0 A B (.val d :: ss) (some d :: δ)
  | own {B C ss δ t p} : EnvR A0 A B ss δ → Own A t p C → (∀ a ∈ C, a ∉ B) → (∀ a ∈ C, A0 a = none) → EnvR A0 A (C ++ B) (.own t :: ss) (some (.ref p) :: δ)
structure Env (A0 : AH) (ss : List Sl) (δ : DSt) (A : AH) : Prop where
  sub : Sub A0 A
  ex : ∃ B, EnvR A0 A B ss δ
theorem EnvR.frame {A0 A A' : AH} {B : List Addr} {ss : List Sl} {δ : DSt} (h : EnvR A0 A B ss δ) (q : ∀ a ∈ B, A' a = A a) : EnvR A0 A' B ss δ := by
  induction h with
  | nil => exact .nil
  | emp _ ih => exact .emp (ih q)
  | val _ ih => exact .val (ih q)
  | own r o h1 h2 ih => exact .own (ih fun a ha => q a (List.mem_append_right _ ha)) (o.frame fun a ha => q a (List.mem_append_left _ ha)) h1 h2
theorem EnvR.there {A0 A : AH} {B : List Addr} {ss : List Sl} {δ : DSt} (h : EnvR A0 A B ss δ) : ∀ a ∈ B, A a ≠ none ∧ A0 a = none := by
  induction h with
  | nil => intro a ha; cases ha
  | emp _ ih => exact ih
  | val _ ih => exact ih
  | own r o h1 h2 ih =>
    intro a ha
    rcases List.mem_append.mp ha with ha | ha
    · exact ⟨o.there a ha, h2 a ha⟩
    · exact ih a ha
theorem EnvR.get_val {A0 A : AH} {B : List Addr} {ss : List Sl} {δ : DSt} (h : EnvR A0 A B ss δ) : ∀ {i : Nat} {d : D}, ss[i]? = some (.val d) → δ[i]? = some (some d) := by
  induction h with
  | nil => intro i d e; simp at e
  | emp _ ih =>
    intro i d e
    cases i with
    | zero => simp at e
    | succ i => exact ih (by simpa using e)
  | val _ ih =>
    intro i d e
    cases i with
    | zero => simp at e; subst e; rfl
    | succ i => exact ih (by simpa using e)
  | own r o h1 h2 ih =>
    intro i d e
    cases i with
    | zero => simp at e
    | succ i => exact ih (by simpa using e)
theorem EnvR.get_own {A0 A : AH} {B : List Addr} {ss : List Sl} {δ : DSt} (h : EnvR A0 A B ss δ) : ∀ {i : Nat} {t : OT}, ss[i]? = some (.own t) → ∃ p C, δ[i]? = some (some (.ref p)) ∧ Own A t p C ∧ ∀ a ∈ C, a ∈ B := by
  induction h with
  | nil => intro i d e; simp at e
  | emp _ ih =>
    intro i d e
    cases i with
    | zero => simp at e
    | succ i => exact ih (by simpa using e)
  | val _ ih =>
    intro i d e
    cases i with
    | zero => simp at e
    | succ i => exact ih (by simpa using e)
  | own r o h1 h2 ih =>
    intro i d e
    cases i with
    | zero => simp at e; subst e; exact ⟨_, _, rfl, o, fun a ha => List.mem_append_left _ ha⟩
    | succ i =>
      obtain ⟨p, C, e1, e2, e3⟩ := ih (i := i) (t := d) (by simpa using e)
      exact ⟨p, C, e1, e2, fun a ha => List.mem_append_right _ (e3 a ha)⟩
/-- a slot set to a value, or forgotten: what was its own may go -/
theorem EnvR.set_val {A0 A : AH} {B : List Addr} {ss : List Sl} {δ : DSt} (h : EnvR A0 A B ss δ) : ∀ (i : Nat) (d : D), ∃ B', (∀ a ∈ B', a ∈ B) ∧ EnvR A0 A B' (ss.set i (.val d)) (δ.set i (some d)) := by
  induction h with
  | nil => intro i d; exact ⟨[], fun _ h => h, .nil⟩
  | emp r ih =>
    intro i d
    cases i with
    | zero => exact ⟨_, fun _ h => h, .val r⟩
    | succ i => obtain ⟨B', h1, h2⟩ := ih i d; exact ⟨B', h1, .emp h2⟩
  | val r ih =>
    intro i d
    cases i with
    | zero => exact ⟨_, fun _ h => h, .val r⟩
    | succ i => obtain ⟨B', h1, h2⟩ := ih i d; exact ⟨B', h1, .val h2⟩
  | own r o h1 h2 ih =>
    intro i d
    cases i with
    | zero => exact ⟨_, fun a h => List.mem_append_right _ h, .val r⟩
    | succ i =>
      obtain ⟨B', q1, q2⟩ := ih i d
      exact ⟨_, fun a h => (List.mem_append.mp h).elim (List.mem_append_left _) fun h => List.mem_append_right _ (q1 a h), .own q2 o (fun a ha hb => h1 a ha (q1 a hb)) h2⟩
theorem EnvR.set_any {A0 A : AH} {B : List Addr} {ss : List Sl} {δ : DSt} (h : EnvR A0 A B ss δ) : ∀ (i : Nat) (x : Option D), ∃ B', (∀ a ∈ B', a ∈ B) ∧ EnvR A0 A B' (ss.set i .emp) (δ.set i x) := by
  induction h with
  | nil => intro i x; exact ⟨[], fun _ h => h, .nil⟩
  | emp r ih =>
    intro i x
    cases i with
    | zero => exact ⟨_, fun _ h => h, .emp r⟩
    | succ i => obtain ⟨B', h1, h2⟩ := ih i x; exact ⟨B', h1, .emp h2⟩
  | val r ih =>
    intro i x
    cases i with
    | zero => exact ⟨_, fun _ h => h, .emp r⟩
    | succ i => obtain ⟨B', h1, h2⟩ := ih i x; exact ⟨B', h1, .val h2⟩
  | own r o h1 h2 ih =>
    intro i x
    cases i with
    | zero => exact ⟨_, fun a h => List.mem_append_right _ h, .emp r⟩
    | succ i =>
      obtain ⟨B', q1, q2⟩ := ih i x
      exact ⟨_, fun a h => (List.mem_append.mp h).elim (List.mem_append_left _) fun h => List.mem_append_right _ (q1 a h), .own q2 o (fun a ha hb => h1 a ha (q1 a hb)) h2⟩
/-- a slot gets an own object that stands apart from all others -/
theorem EnvR.set_own {A0 A : AH} {B : List Addr} {ss : List Sl} {δ : DSt} (h : EnvR A0 A B ss δ) : ∀ (i : Nat) {t : OT} {p : Addr} {C : List Addr}, Own A t p C → (∀ a ∈ C, a ∉ B) → (∀ a ∈ C, A0 a = none) → ∃ B', (∀ a ∈ B', a ∈ C ∨ a ∈ B) ∧ EnvR A0 A B' (ss.set i (.own t)) (δ.set i (some (.ref p))) := by
  induction h with
  | nil => intro i t p C o h1 h2; exact ⟨[], fun _ h => .inr h, .nil⟩
  | emp r ih =>
    intro i t p C o h1 h2
    cases i with
    | zero => exact ⟨_, fun a h => List.mem_append.mp h, .own r o h1 h2⟩
    | succ i => obtain ⟨B', q1, q2⟩ := ih i o h1 h2; exact ⟨B', q1, .emp q2⟩
  | val r ih =>
    intro i t p C o h1 h2
    cases i with
    | zero => exact ⟨_, fun a h => List.mem_append.mp h, .own r o h1 h2⟩
    | succ i => obtain ⟨B', q1, q2⟩ := ih i o h1 h2; exact ⟨B', q1, .val q2⟩
  | own r o' g1 g2 ih =>
    intro i t p C o h1 h2
    cases i with
    | zero => exact ⟨_, fun a h => (List.mem_append.mp h).imp id (List.mem_append_right _), .own r o (fun a ha hb => h1 a ha (List.mem_append_right _ hb)) h2⟩
    | succ i =>
      obtain ⟨B', q1, q2⟩ := ih i o (fun a ha hb => h1 a ha (List.mem_append_right _ hb)) h2
      refine ⟨_, fun a h => (List.mem_append.mp h).elim (fun h => .inr (List.mem_append_left _ h)) fun h => (q1 a h).imp id (List.mem_append_right _), .own q2 o' (fun a ha hb => ?_) g2⟩
      rcases q1 a hb with hb | hb
      · exact h1 a hb (List.mem_append_left _ ha)
      · exact g1 a ha hb
/-- the own object of a slot and the rest apart -/
theorem EnvR.split_own {A0 A : AH} {B : List Addr} {ss : List Sl} {δ : DSt} (h : EnvR A0 A B ss δ) : ∀ {i : Nat} {t : OT}, ss[i]? = some (.own t) → ∃ p C B', δ[i]? = some (some (.ref p)) ∧ Own A t p C ∧ (∀ a ∈ C, A0 a = none) ∧ (∀ a ∈ C, a ∉ B') ∧ (∀ a ∈ C, a ∈ B) ∧ (∀ a ∈ B', a ∈ B) ∧ EnvR A0 A B' (ss.set i .emp) δ := by
  induction h with
  | nil => intro i d e; simp at e
  | emp _ ih =>
    intro i d e
    cases i with
    | zero => simp at e
    | succ i =>
      obtain ⟨p, C, B', e1, e2, e3, e4, e5, e6, e7⟩ := ih (i := i) (t := d) (by simpa using e)
      exact ⟨p, C, B', e1, e2, e3, e4, e5, e6, .emp e7⟩
  | val _ ih =>
    intro i d e
    cases i with
    | zero => simp at e
    | succ i =>
      obtain ⟨p, C, B', e1, e2, e3, e4, e5, e6, e7⟩ := ih (i := i) (t := d) (by simpa using e)
      exact ⟨p, C, B', e1, e2, e3, e4, e5, e6, .val e7⟩
  | own r o h1 h2 ih =>
    intro i d e
    cases i with
    | zero => simp at e; subst e; exact ⟨_, _, _, rfl, o, h2, h1, fun a ha => List.mem_append_left _ ha, fun a ha => List.mem_append_right _ ha, .emp r⟩
    | succ i =>
      obtain ⟨p, C, B', e1, e2, e3, e4, e5, e6, e7⟩ := ih (i := i) (t := d) (by simpa using e)
      refine ⟨p, C, _, e1, e2, e3, fun a ha hb => ?_, fun a ha => List.mem_append_right _ (e5 a ha), fun a ha => (List.mem_append.mp ha).elim (List.mem_append_left _) fun h => List.mem_append_right _ (e6 a h), .own e7 o (fun a ha hb => h1 a ha (e6 a hb)) h2⟩
      rcases List.mem_append.mp hb with hb | hb
      · exact h1 a hb (e5 a ha)
      · exact e4 a ha hb
section
variable {A0 A : AH} {ss : List Sl} {δ : DSt} {i : Nat} {d : D} {p : Addr} {o : AO} {t : OT}
theorem Env.get_val (h : Env A0 ss δ A) (e : ss[i]? = some (.val d)) : δ[i]? = some (some d) := by obtain ⟨_, B, h⟩ := h; exact h.get_val e
theorem Env.set_val (h : Env A0 ss δ A) (i : Nat) (d : D) : Env A0 (ss.set i (.val d)) (δ.set i (some d)) A := by
  obtain ⟨s, B, h⟩ := h
  obtain ⟨B', _, q⟩ := h.set_val i d
  exact ⟨s, B', q⟩
theorem Env.set_any (h : Env A0 ss δ A) (i : Nat) (x : Option D) : Env A0 (ss.set i .emp) (δ.set i x) A := by
  obtain ⟨s, B, h⟩ := h
  obtain ⟨B', _, q⟩ := h.set_any i x
  exact ⟨s, B', q⟩
theorem sub_none {A B : AH} (s : Sub A B) {p : Addr} (h : B p = none) : A p = none := by
  cases e : A p with
  | none => rfl
  | some o => rw [s p o e] at h; cases h
/-- what is new may stand beside -/
theorem Env.put (h : Env A0 ss δ A) (hp : A p = none) : Env A0 ss δ (A.put p o) := by
  obtain ⟨s, B, h⟩ := h
  refine ⟨fun a u e => ?_, B, h.frame fun a ha => ?_⟩
  · have hn : a ≠ p := fun z => by rw [z, sub_none s hp] at e; cases e
    rw [AH.put_ne A o hn]; exact s a u e
  · have hn : a ≠ p := fun z => (h.there a ha).1 (by rw [z, hp])
    exact AH.put_ne A o hn
/-- a new own object -/
theorem Env.new {A' : AH} {C : List Addr} (h : Env A0 ss δ A) (ho : Own A' t p C) (hn : ∀ a ∈ C, A a = none) (hs : ∀ a, a ∉ C → A' a = A a) : Env A0 (ss.set i (.own t)) (δ.set i (some (.ref p))) A' := by
  obtain ⟨s, B, h⟩ := h
  have hd : ∀ a ∈ C, a ∉ B := fun a ha hb => (h.there a hb).1 (hn a ha)
  have h' : EnvR A0 A' B ss δ := h.frame fun a ha => hs a fun hc => hd a hc ha
  obtain ⟨B', _, q⟩ := h'.set_own i ho hd fun a ha => sub_none s (hn a ha)
  refine ⟨fun a u e => ?_, B', q⟩
  have hc : a ∉ C := fun hc => by
    have := s a u e
    rw [hn a hc] at this; cases this
  rw [hs a hc]; exact s a u e
/-- an own object is changed -/
theorem Env.upd_own {o' : AO} (h : Env A0 ss δ A) (e : ss[i]? = some (.own (.ao o))) : ∃ p, δ[i]? = some (some (.ref p)) ∧ A p = some o ∧ Env A0 (ss.set i (.own (.ao o'))) δ (A.put p o') := by
  obtain ⟨s, B, h⟩ := h
  obtain ⟨p, C, B', e1, ⟨e2, e2'⟩, e3, e4, e5, e6, e7⟩ := h.split_own e
  subst e2'
  have hp : p ∈ [p] := List.mem_singleton.mpr rfl
  refine ⟨p, e1, e2, ⟨fun a u q => ?_, ?_⟩⟩
  · have hn : a ≠ p := fun z => by rw [z, e3 p hp] at q; cases q
    rw [AH.put_ne A o' hn]; exact s a u q
  · have h' : EnvR A0 (A.put p o') B' (ss.set i .emp) δ := e7.frame fun a ha => AH.put_ne A o' fun z => e4 p hp (z ▸ ha)
    obtain ⟨B2, _, q⟩ := h'.set_own i (t := .ao o') (p := p) (C := [p]) ⟨AH.put_same .., rfl⟩ e4 e3
    rw [List.set_set] at q
    have hδ : δ.set i (some (.ref p)) = δ := by
      apply List.ext_getElem?
      intro j
      rw [List.getElem?_set]
      split
      · rename_i hj; subst hj
        split
        · exact e1.symm
        · rename_i hl; exact (List.getElem?_eq_none (by omega)).symm
      · rfl
    rw [hδ] at q
    exact ⟨B2, q⟩
theorem Env.get_own (h : Env A0 ss δ A) (e : ss[i]? = some (.own (.ao o))) : ∃ p, δ[i]? = some (some (.ref p)) ∧ A p = some o ∧ A0 p = none := by
  obtain ⟨s, B, h⟩ := h
  obtain ⟨p, C, B', e1, ⟨e2, e2'⟩, e3, e4, e5, e6, e7⟩ := h.split_own e
  subst e2'
  exact ⟨p, e1, e2, e3 p (List.mem_singleton.mpr rfl)⟩
/-- an own object goes -/
theorem Env.del_own (h : Env A0 ss δ A) (e : ss[i]? = some (.own (.ao o))) : ∃ p, δ[i]? = some (some (.ref p)) ∧ A p = some o ∧ Env A0 (ss.set i .emp) δ (A.del p) := by
  obtain ⟨s, B, h⟩ := h
  obtain ⟨p, C, B', e1, ⟨e2, e2'⟩, e3, e4, e5, e6, e7⟩ := h.split_own e
  subst e2'
  have hp : p ∈ [p] := List.mem_singleton.mpr rfl
  refine ⟨p, e1, e2, ⟨fun a u q => ?_, B', e7.frame fun a ha => AH.del_ne A fun z => e4 p hp (z ▸ ha)⟩⟩
  have hn : a ≠ p := fun z => by rw [z, e3 p hp] at q; cases q
  rw [AH.del_ne A hn]; exact s a u q
end
end TF


/-! TF1: what a reading tells of a typed expression. -/
namespace TF
open PySem PySem.Spec PyProof.Rows L2 DL FR
open Enc KeyT
section
variable {α β γ δ' ε ζ κ : Type} [Enc α] [Enc β] [Enc γ] [Enc δ'] [Enc ε] [Enc ζ] [KeyT κ]
variable {w : DW} {A0 A : AH} {ss : List Sl} {δ : DSt} {Q : DK}

/-- the value is just this data -/
def SE (w : DW) (A0 : AH) (ss : List Sl) (t : DE) (m : R α) : Prop := ∀ (δ : DSt) (A : AH) (Q : DK), Env A0 ss δ A → m.wp (fun a => Q (enc a) A) (fun c fs => w c fs δ A) → t δ A Q
/-- the value may be read as this -/
def SV (w : DW) (A0 : AH) (ss : List Sl) (t : DE) (m : R α) : Prop := ∀ (δ : DSt) (A : AH) (Q : DK), Env A0 ss δ A → m.wp (fun a => ∀ d, vw A d a → Q d A) (fun c fs => w c fs δ A) → t δ A Q
def ST (w : DW) (A0 : AH) (ss : List Sl) (t : DT) (m : R Bool) : Prop := ∀ (δ : DSt) (A : AH) (Q : Bool → AH → Prop), Env A0 ss δ A → m.wp (fun a => Q a A) (fun c fs => w c fs δ A) → t δ A Q
/-- A' is A and a new own object beside -/
structure New (A : AH) (t : OT) (p : Addr) (A' : AH) : Prop where
  ex : ∃ C, Own A' t p C ∧ (∀ a ∈ C, A a = none) ∧ ∀ a, a ∉ C → A' a = A a
theorem New.put {p : Addr} {o : AO} (h : A p = none) : New A (.ao o) p (A.put p o) :=
  ⟨[p], ⟨AH.put_same .., rfl⟩, fun a ha => by rw [List.mem_singleton.mp ha]; exact h, fun a ha => AH.put_ne A o fun e => ha (List.mem_singleton.mpr e)⟩
/-- the value is a new own object -/
def SO {τ : Type} (w : DW) (A0 : AH) (ss : List Sl) (t : DE) (m : R τ) (o : τ → OT) : Prop := ∀ (δ : DSt) (A : AH) (Q : DK), Env A0 ss δ A → m.wp (fun a => ∀ p A', New A (o a) p A' → Q (.ref p) A') (fun c fs => w c fs δ A) → t δ A Q
/-- arguments, each just this data -/
def SEs (w : DW) (A0 : AH) (ss : List Sl) (t : DA) (m : R (List α)) : Prop := ∀ (δ : DSt) (A : AH) (Q : List D → AH → Prop), Env A0 ss δ A → m.wp (fun l => Q (l.map enc) A) (fun c fs => w c fs δ A) → t δ A Q

theorem SE.run {t : DE} {m : R α} {τ : Type} {k : α → R τ} {V : τ → Prop} {X} (h : SE w A0 ss t m) (e : Env A0 ss δ A) (hw : (m.bind k).wp V X) (hx : ∀ c fs, X c fs → w c fs δ A) (hk : ∀ a, (k a).wp V X → Q (enc a) A) : t δ A Q :=
  h δ A Q e (by rw [R.wp_bind] at hw; exact R.wp_imp hw hk hx)
theorem SV.run {t : DE} {m : R α} {τ : Type} {k : α → R τ} {V : τ → Prop} {X} (h : SV w A0 ss t m) (e : Env A0 ss δ A) (hw : (m.bind k).wp V X) (hx : ∀ c fs, X c fs → w c fs δ A) (hk : ∀ a d, vw A d a → (k a).wp V X → Q d A) : t δ A Q :=
  h δ A Q e (by rw [R.wp_bind] at hw; exact R.wp_imp hw (fun a ha d hd => hk a d hd ha) hx)
theorem ST.run {t : DT} {m : R Bool} {τ : Type} {k : Bool → R τ} {V : τ → Prop} {X} {Q : Bool → AH → Prop} (h : ST w A0 ss t m) (e : Env A0 ss δ A) (hw : (m.bind k).wp V X) (hx : ∀ c fs, X c fs → w c fs δ A) (hk : ∀ a, (k a).wp V X → Q a A) : t δ A Q :=
  h δ A Q e (by rw [R.wp_bind] at hw; exact R.wp_imp hw hk hx)
theorem SO.run {t : DE} {τ' : Type} {m : R τ'} {o : τ' → OT} {τ : Type} {k : τ' → R τ} {V : τ → Prop} {X} (h : SO w A0 ss t m o) (e : Env A0 ss δ A) (hw : (m.bind k).wp V X) (hx : ∀ c fs, X c fs → w c fs δ A) (hk : ∀ a p A', New A (o a) p A' → (k a).wp V X → Q (.ref p) A') : t δ A Q :=
  h δ A Q e (by rw [R.wp_bind] at hw; exact R.wp_imp hw (fun a ha p A' hn => hk a p A' hn ha) hx)
theorem SEs.run {t : DA} {m : R (List α)} {τ : Type} {k : List α → R τ} {V : τ → Prop} {X} {Q : List D → AH → Prop} (h : SEs w A0 ss t m) (e : Env A0 ss δ A) (hw : (m.bind k).wp V X) (hx : ∀ c fs, X c fs → w c fs δ A) (hk : ∀ l, (k l).wp V X → Q (l.map enc) A) : t δ A Q :=
  h δ A Q e (by rw [R.wp_bind] at hw; exact R.wp_imp hw hk hx)
theorem SE.v {t : DE} {m : R α} (h : SE w A0 ss t m) : SV w A0 ss t m := fun δ A Q e hw => h δ A Q e (R.wp_imp hw (fun a ha => ha _ (vw_enc A a)) fun _ _ h => h)

/-! ### names, constants -/
theorem se_var {i : Nat} {a : α} (h : ss[i]? = some (.val (enc a))) : SE w A0 ss (eVar i) (.ok a) := fun δ A Q e hw => by
  rw [eVar_eq (e.get_val h)]; exact hw
theorem sv_var {i : Nat} {d : D} {a : α} (h : ss[i]? = some (.val d)) (v : vw A0 d a) : SV w A0 ss (eVar i) (.ok a) := fun δ A Q e hw => by
  rw [eVar_eq (e.get_val h)]; exact hw d (vw_mono e.sub v)
theorem sv_own {i : Nat} {l : List α} (h : ss[i]? = some (.own (.ao (.lst (l.map enc))))) : SV w A0 ss (eVar i) (.ok l) := fun δ A Q e hw => by
  obtain ⟨p, h1, h2, _⟩ := e.get_own h
  rw [eVar_eq h1]
  refine hw _ ?_
  show (match A p with | some (.lst l) => some l | _ => none) = _
  rw [h2]
theorem sv_ownD {i : Nat} {l : Dic κ α} (h : ss[i]? = some (.own (.ao (.dic (encKV l.l))))) : SV w A0 ss (eVar i) (.ok l) := fun δ A Q e hw => by
  obtain ⟨p, h1, h2, _⟩ := e.get_own h
  rw [eVar_eq h1]
  refine hw _ ?_
  show (match A p with | some (.dic l) => some l | _ => none) = _
  rw [h2]
theorem se_int (i : Int) : SE w A0 ss (eC (.int i)) (.ok i) := fun δ A Q e hw => hw
theorem se_bl (i : Bool) : SE w A0 ss (eC (.bl i)) (.ok i) := fun δ A Q e hw => hw
theorem se_str (i : Str) : SE w A0 ss (eC (.str i)) (.ok i) := fun δ A Q e hw => hw
theorem se_non : SE w A0 ss (eC .non) (.ok (none : Option α)) := fun δ A Q e hw => hw
theorem se_unit : SE w A0 ss (eC .non) (.ok ()) := fun δ A Q e hw => hw
/-- the same data, told otherwise -/
theorem se_co {t : DE} {m : R α} (f : α → β) (hf : ∀ a, (enc (f a) : D) = enc a) (h : SE w A0 ss t m) : SE w A0 ss t (m.map f) := fun δ A Q e hw =>
  h.run e hw (fun _ _ => id) fun a ha => by rw [← hf a]; exact ha
theorem se_coM {t : DE} {m : R α} (f : α → R β) (hf : ∀ a b, f a = .ok b → (enc b : D) = enc a) (hx : ∀ a c fs, f a ≠ .exc c fs) (h : SE w A0 ss t m) : SE w A0 ss t (m.bind f) := fun δ A Q e hw =>
  h.run e hw (fun _ _ => id) fun a ha => by
    cases hb : f a with
    | ok b => rw [hb] at ha; rw [← hf a b hb]; exact ha
    | exc c fs => exact absurd hb (hx a c fs)
    | bad => rw [hb] at ha; exact ha.elim
theorem se_some {t : DE} {m : R α} (h : SE w A0 ss t m) : SE w A0 ss t (m.map some) := se_co some (fun _ => rfl) h
def unw (o : Option α) : R α := match o with
  | some a => .ok a
  | none => .bad
omit [Enc α] in
@[simp] theorem unw_some {a : α} : unw (some a) = .ok a := rfl
omit [Enc α] in
@[simp] theorem unw_none : unw (none : Option α) = .bad := rfl
theorem se_unw {t : DE} {m : R (Option α)} (h : SE w A0 ss t m) : SE w A0 ss t (m.bind unw) := se_coM unw (fun a b e => by cases a <;> cases e; rfl) (fun a c fs e => by cases a <;> cases e) h
theorem se_dyn {t : DE} {m : R α} (h : SE w A0 ss t m) : SE w A0 ss t (m.map enc) := se_co enc (fun _ => rfl) h
/-- a pair that is a fraction -/
def toRat (p : Int × Int) : R Rat := if h : 0 < p.2 ∧ p.1.natAbs.gcd p.2.natAbs = 1 then .ok ⟨p.1, p.2.natAbs, by omega, h.2⟩ else .bad
theorem se_toRat {t : DE} {m : R (Int × Int)} (h : SE w A0 ss t m) : SE w A0 ss t (m.bind toRat) := se_coM toRat (fun a b e => by
  unfold toRat at e
  split at e
  · rename_i h; cases e
    show frD _ = _
    rw [frD_def]
    have : ((a.2.natAbs : Nat) : Int) = a.2 := by omega
    show D.tup [.int a.1, .int (a.2.natAbs : Nat)] = _
    rw [this]; rfl
  · cases e) (fun a c fs e => by unfold toRat at e; split at e <;> cases e) h
def ofRat (q : Rat) : Int × Int := (q.num, q.den)
@[simp] theorem toRat_num (q : Rat) : toRat (q.num, (q.den : Int)) = .ok q := by
  unfold toRat
  rw [dif_pos ⟨by have := q.den_pos; show (0 : Int) < (q.den : Int); omega, q.reduced⟩]
  congr 1

/-! ### tuples, lists -/
theorem se_tup1 {t1 : DE} {m1 : R α} (h1 : SE w A0 ss t1 m1) : SE w A0 ss (eTup (aCons t1 aNil)) (m1.map T1.mk) := fun δ A Q e hw =>
  h1.run e hw (fun _ _ => id) fun a hw => ⟨by show (1 : Nat) < _; decide, hw⟩
theorem se_tup2 {t1 t2 : DE} {m1 : R α} {m2 : R β} (h1 : SE w A0 ss t1 m1) (h2 : SE w A0 ss t2 m2) : SE w A0 ss (eTup (aCons t1 (aCons t2 aNil))) (m1.bind fun a => m2.bind fun b => .ok (a, b)) := fun δ A Q e hw =>
  h1.run e hw (fun _ _ => id) fun a hw => h2.run e hw (fun _ _ => id) fun b hw => ⟨by show (2 : Nat) < _; decide, hw⟩
theorem se_tup5 {t1 t2 t3 t4 t5 : DE} {m1 : R α} {m2 : R β} {m3 : R γ} {m4 : R δ'} {m5 : R ε} (h1 : SE w A0 ss t1 m1) (h2 : SE w A0 ss t2 m2) (h3 : SE w A0 ss t3 m3) (h4 : SE w A0 ss t4 m4) (h5 : SE w A0 ss t5 m5) :
    SE w A0 ss (eTup (aCons t1 (aCons t2 (aCons t3 (aCons t4 (aCons t5 aNil)))))) (m1.bind fun a => m2.bind fun b => m3.bind fun c => m4.bind fun d => m5.bind fun e => .ok (T5.mk a b c d e)) := fun δ A Q e hw =>
  h1.run e hw (fun _ _ => id) fun a hw => h2.run e hw (fun _ _ => id) fun b hw => h3.run e hw (fun _ _ => id) fun c hw => h4.run e hw (fun _ _ => id) fun d hw => h5.run e hw (fun _ _ => id) fun d hw => ⟨by show (5 : Nat) < _; decide, hw⟩
theorem se_tup6 {t1 t2 t3 t4 t5 t6 : DE} {m1 : R α} {m2 : R β} {m3 : R γ} {m4 : R δ'} {m5 : R ε} {m6 : R ζ} (h1 : SE w A0 ss t1 m1) (h2 : SE w A0 ss t2 m2) (h3 : SE w A0 ss t3 m3) (h4 : SE w A0 ss t4 m4) (h5 : SE w A0 ss t5 m5) (h6 : SE w A0 ss t6 m6) :
    SE w A0 ss (eTup (aCons t1 (aCons t2 (aCons t3 (aCons t4 (aCons t5 (aCons t6 aNil))))))) (m1.bind fun a => m2.bind fun b => m3.bind fun c => m4.bind fun d => m5.bind fun e => m6.bind fun f => .ok (T6.mk a b c d e f)) := fun δ A Q e hw =>
  h1.run e hw (fun _ _ => id) fun a hw => h2.run e hw (fun _ _ => id) fun b hw => h3.run e hw (fun _ _ => id) fun c hw => h4.run e hw (fun _ _ => id) fun d hw => h5.run e hw (fun _ _ => id) fun d hw => h6.run e hw (fun _ _ => id) fun d hw => ⟨by show (6 : Nat) < _; decide, hw⟩
theorem ses_nil : SEs w A0 ss aNil (.ok ([] : List α)) := fun δ A Q e hw => hw
theorem ses_cons {t : DE} {u : DA} {m : R α} {n : R (List α)} (h : SE w A0 ss t m) (h2 : SEs w A0 ss u n) : SEs w A0 ss (aCons t u) (m.bind fun a => n.bind fun l => .ok (a :: l)) := fun δ A Q e hw =>
  h.run e hw (fun _ _ => id) fun a hw => h2.run e hw (fun _ _ => id) fun l hw => hw
/-- a list that is not too long -/
def few (l : List α) : R (List α) := if l.length < 1000000 then .ok l else .bad
omit [Enc α] in
theorem few_ok {l : List α} (h : l.length < 1000000) : few l = .ok l := if_pos h
omit [Enc α] in
@[simp] theorem few_nil : few ([] : List α) = .ok [] := rfl
omit [Enc α] in
theorem few_wp {l : List α} {V : List α → Prop} {X} (h : (few l).wp V X) : l.length < 1000000 ∧ V l := by
  unfold few at h
  split at h
  · rename_i hl; exact ⟨hl, h⟩
  · exact h.elim
theorem se_lst {t : DA} {m : R (List α)} (h : SEs w A0 ss t m) : SE w A0 ss (eLst mkF t) (m.bind few) := fun δ A Q e hw =>
  h.run e hw (fun _ _ => id) fun l hw => by
    obtain ⟨h1, h2⟩ := few_wp hw
    exact ⟨by simpa using h1, h2⟩
/-- a list's own object -/
abbrev oL (l : List α) : OT := .ao (.lst (l.map enc))
abbrev oD (d : Dic κ α) : OT := .ao (.dic (encKV d.l))
theorem so_lst {t : DA} {m : R (List α)} (h : SEs w A0 ss t m) : SO w A0 ss (eLst mkO t) (m.bind few) oL := fun δ A Q e hw =>
  h.run e hw (fun _ _ => id) fun l hw => by
    obtain ⟨h1, h2⟩ := few_wp hw
    exact ⟨by simpa using h1, fun p hp => h2 p _ (New.put hp)⟩
/-! ### operators -/
def OpE (rd : DOp) (F : α → β → R γ) : Prop := ∀ (A : AH) (a : α) (b : β) (Q : DK) X, (F a b).wp (fun c => Q (enc c) A) X → rd (enc a) (enc b) A Q
theorem se_bin {rd : DOp} {F : α → β → R γ} {t u : DE} {m : R α} {n : R β} (op : OpE rd F) (h : SE w A0 ss t m) (h2 : SE w A0 ss u n) : SE w A0 ss (eBin rd t u) (R.b2 m n F) := fun δ A Q e hw =>
  h.run e hw (fun _ _ => id) fun a hw => h2.run e hw (fun _ _ => id) fun b hw => op A a b Q _ hw
def OpV (rd : DOp) (F : α → β → R γ) : Prop := ∀ (A : AH) (x y : D) (a : α) (b : β) (Q : DK) X, vw A x a → vw A y b → (F a b).wp (fun c => Q (enc c) A) X → rd x y A Q
theorem sv_bin {rd : DOp} {F : α → β → R γ} {t u : DE} {m : R α} {n : R β} (op : OpV rd F) (h : SV w A0 ss t m) (h2 : SV w A0 ss u n) : SE w A0 ss (eBin rd t u) (R.b2 m n F) := fun δ A Q e hw =>
  h.run e hw (fun _ _ => id) fun a x hx hw => h2.run e hw (fun _ _ => id) fun b y hy hw => op A x y a b Q _ hx hy hw
theorem st_of {t : DE} {m : R Bool} (h : SE w A0 ss t m) : ST w A0 ss (bE t) m := fun δ A Q e hw => by
  rw [bE_eq]; exact h δ A _ e hw
abbrev addI (a b : Int) : R Int := .ok (a + b)
abbrev subI (a b : Int) : R Int := .ok (a - b)
theorem op_addI {mk : DL.Mk} : OpE (opAdd mk) addI := fun A a b Q X hw => hw
theorem op_subI : OpE opSub subI := fun A a b Q X hw => hw
open Classical in
noncomputable def mulI (a b : Int) : R Int := if DL.MulOk a b then .ok (a * b) else .bad
theorem mulI_ok {a b : Int} (h : DL.MulOk a b) : mulI a b = .ok (a * b) := by unfold mulI; rw [if_pos h]
theorem op_mulI : OpE opMul mulI := fun A a b Q X hw => by
  unfold mulI at hw
  split at hw
  · rename_i h; exact ⟨h, hw⟩
  · exact hw.elim
/-- a product with a number that is written -/
theorem se_mulL {t : DE} {m : R Int} (k : Int) (hk : -18446744073709551616 < k ∧ k < 18446744073709551616) (h : SE w A0 ss t m) : SE w A0 ss (eBin opMul (eC (.int k)) t) (m.map fun a => k * a) := fun δ A Q e hw =>
  h.run (Q := fun y A2 => opMul (.int k) y A2 Q) e hw (fun _ _ => id) fun a hw => ⟨.inl (by omega), hw⟩
theorem se_mulR {t : DE} {m : R Int} (k : Int) (hk : -18446744073709551616 < k ∧ k < 18446744073709551616) (h : SE w A0 ss t m) : SE w A0 ss (eBin opMul t (eC (.int k))) (m.map fun a => a * k) := fun δ A Q e hw =>
  h.run e hw (fun _ _ => id) fun a hw => ⟨.inr (.inl (by omega)), hw⟩
theorem se_divR {t : DE} {m : R Int} (k : Int) (hk : 0 < k ∧ k < 18446744073709551616) (h : SE w A0 ss t m) : SE w A0 ss (eBin opDiv t (eC (.int k))) (m.map fun a => a / k) := fun δ A Q e hw =>
  h.run e hw (fun _ _ => id) fun a hw => ⟨divOk_lit hk.1 hk.2, by rw [Int.fdiv_eq_ediv_of_nonneg _ (by omega)]; exact hw⟩
theorem se_modR {t : DE} {m : R Int} (k : Int) (hk : 0 < k) (h : SE w A0 ss t m) : SE w A0 ss (eBin opMod t (eC (.int k))) (m.map fun a => a % k) := fun δ A Q e hw =>
  h.run e hw (fun _ _ => id) fun a hw => ⟨by omega, by rw [Int.fmod_eq_emod_of_nonneg _ (by omega)]; exact hw⟩
open Classical in
noncomputable def divI (a b : Int) : R Int := if DL.DivOk b then .ok (a.fdiv b) else .bad
theorem divI_ok {a b : Int} (h : DL.DivOk b) : divI a b = .ok (a.fdiv b) := by unfold divI; rw [if_pos h]
theorem op_divI : OpE opDiv divI := fun A a b Q X hw => by
  unfold divI at hw
  split at hw
  · rename_i h; exact ⟨h, hw⟩
  · exact hw.elim
def modI (a b : Int) : R Int := if b = 0 then .bad else .ok (a.fmod b)
theorem modI_pos {a b : Int} (h : 0 < b) : modI a b = .ok (a % b) := by
  unfold modI; rw [if_neg (by omega), Int.fmod_eq_emod_of_nonneg _ (by omega)]
theorem op_modI : OpE opMod modI := fun A a b Q X hw => by
  unfold modI at hw
  split at hw
  · exact hw.elim
  · rename_i h; exact ⟨h, hw⟩
theorem se_neg {t : DE} {m : R Int} (h : SE w A0 ss t m) : SE w A0 ss (eNeg t) (m.map fun a => -a) := fun δ A Q e hw => h.run e hw (fun _ _ => id) fun a hw => hw
theorem op_cmpI {p : Int → Int → Bool} : OpE (opCmp p) (fun a b => .ok (p a b)) := fun A a b Q X hw => hw
def addS (a b : Str) : R Str := if a.length + b.length < 1000000 then .ok (a ++ b) else .bad
theorem addS_ok {a b : Str} (h : a.length + b.length < 1000000) : addS a b = .ok (a ++ b) := if_pos h
theorem op_addS {mk : DL.Mk} : OpE (opAdd mk) addS := fun A a b Q X hw => by
  unfold addS at hw
  split at hw
  · rename_i h; exact ⟨h, hw⟩
  · exact hw.elim
def mulS (s : Str) (n : Int) : R Str := if s.length ≤ 1000 ∧ n.natAbs ≤ 1000 then .ok (strRep s n.toNat) else .bad
theorem mulS_ok {s : Str} {n : Int} (h : s.length ≤ 1000 ∧ n.natAbs ≤ 1000) : mulS s n = .ok (strRep s n.toNat) := if_pos h
theorem op_mulS : OpE opMul mulS := fun A a b Q X hw => by
  unfold mulS at hw
  split at hw
  · rename_i h; exact ⟨h, hw⟩
  · exact hw.elim
theorem opAdd_seq {mk : DL.Mk} {x y : D} {l m : List D} {Q : DK} (hx : asL A x = some l) (hy : asL A y = some m) (hf : Few (l.length + m.length)) (h : mk (l ++ m) A Q) : opAdd mk x y A Q := by
  have e : opAdd mk x y A Q = (match asL A x, asL A y with | some l, some m => Few (l.length + m.length) ∧ mk (l ++ m) A Q | _, _ => False) := by
    cases x <;> (first | (exfalso; cases hx; done) | (cases y <;> first | (exfalso; cases hy; done) | rfl))
  rw [e, hx, hy]; exact ⟨hf, h⟩
theorem op_cat : OpV (opAdd mkF) (fun (a b : List α) => few (a ++ b)) := fun A x y a b Q X hx hy hw => by
  obtain ⟨h1, h2⟩ := few_wp hw
  refine opAdd_seq hx hy (by simpa using h1) ?_
  rw [← List.map_append]; exact h2
/-! ### and, or, not -/
theorem st_not {t : DT} {m : R Bool} (h : ST w A0 ss t m) : ST w A0 ss (bNot t) (m.map (!·)) := fun δ A Q e hw => h.run e hw (fun _ _ => id) fun a hw => hw
abbrev andB (m n : R Bool) : R Bool := m.bind fun b => if b = true then n else .ok false
abbrev orB (m n : R Bool) : R Bool := m.bind fun b => if b = true then .ok true else n
theorem st_and {t u : DT} {m n : R Bool} (h : ST w A0 ss t m) (h2 : ST w A0 ss u n) : ST w A0 ss (bAnd t u) (andB m n) := fun δ A Q e hw => h.run e hw (fun _ _ => id) fun a hw => by
  cases a with
  | true => exact ⟨fun _ => h2 δ A Q e hw, fun h => (nomatch h)⟩
  | false => exact ⟨fun h => (nomatch h), fun _ => hw⟩
theorem st_or {t u : DT} {m n : R Bool} (h : ST w A0 ss t m) (h2 : ST w A0 ss u n) : ST w A0 ss (bOr t u) (orB m n) := fun δ A Q e hw => h.run e hw (fun _ _ => id) fun a hw => by
  cases a with
  | true => exact ⟨fun _ => hw, fun h => (nomatch h)⟩
  | false => exact ⟨fun h => (nomatch h), fun _ => h2 δ A Q e hw⟩
theorem se_not {t : DE} {m : R Bool} (h : SE w A0 ss t m) : SE w A0 ss (eNot t) (m.map (!·)) := fun δ A Q e hw => h.run e hw (fun _ _ => id) fun a hw => hw
theorem se_and {t u : DE} {m n : R Bool} (h : SE w A0 ss t m) (h2 : SE w A0 ss u n) : SE w A0 ss (eAnd t u) (andB m n) := fun δ A Q e hw => h.run e hw (fun _ _ => id) fun a hw => by
  cases a with
  | true => exact ⟨fun _ => h2 δ A Q e hw, fun h => (nomatch h)⟩
  | false => exact ⟨fun h => (nomatch h), fun _ => hw⟩
end
/-! ### is None, == -/
class NN (α : Type) [Enc α] : Prop where
  nn : ∀ a : α, (enc a).isNon = false
instance : NN Int := ⟨fun _ => rfl⟩
instance : NN Bool := ⟨fun _ => rfl⟩
instance : NN Str := ⟨fun _ => rfl⟩
instance : NN Rat := ⟨fun q => non_fr⟩
instance : NN TieV := ⟨fun _ => rfl⟩
section
variable {α β γ δ' ε ζ κ : Type} [Enc α] [Enc β] [Enc γ] [Enc δ'] [Enc ε] [Enc ζ] [KeyT κ]
instance : NN (T1 α) := ⟨fun _ => rfl⟩
instance : NN (α × β) := ⟨fun _ => rfl⟩
instance : NN (T3 α β γ) := ⟨fun _ => rfl⟩
instance : NN (T4 α β γ δ') := ⟨fun _ => rfl⟩
instance : NN (T5 α β γ δ' ε) := ⟨fun _ => rfl⟩
instance : NN (T6 α β γ δ' ε ζ) := ⟨fun _ => rfl⟩
instance : NN (List α) := ⟨fun _ => rfl⟩
instance : NN (Dic κ α) := ⟨fun _ => rfl⟩
variable {w : DW} {A0 A : AH} {ss : List Sl} {δ : DSt} {Q : DK}
theorem se_isN [NN α] {t : DE} {m : R (Option α)} (neg : Bool) (h : SE w A0 ss t m) : SE w A0 ss (eBin (opIs neg) t (eC .non)) (m.map fun o => xor neg o.isNone) := fun δ A Q e hw =>
  h.run e hw (fun _ _ => id) fun o hw => by
    show Q (.bl (xor neg (enc o : D).isNon)) A
    cases o with
    | none => exact hw
    | some a =>
      have : (enc (some a) : D).isNon = false := NN.nn a
      rw [this]; exact hw
/-- data that may be compared -/
class EqD (α : Type) [Enc α] [DecidableEq α] where
  good : α → Prop
  dep : Nat
  dt_enc : ∀ (a : α) (n : Nat), good a → dep ≤ n → dt n (enc a) = true
  deq_enc : ∀ a b : α, good a → good b → deq (enc a) (enc b) = decide (a = b)
  vw_dt : ∀ (A : AH) (d : D) (a : α) (n : Nat), vw A d a → dt n (enc a) = true → dt n (drf A d) = true
  vw_deq : ∀ (A : AH) (x y : D) (a b : α), vw A x a → vw A y b → deq (drf A x) (drf A y) = deq (enc a) (enc b)
end
end TF


/-! TF2: typed statements. -/
namespace TF
open PySem PySem.Spec PyProof.Rows L2 DL FR
open Enc KeyT
/-- a turn's end -/
inductive Fl (σ ρ : Type) where
  | nx (s : σ) | bk (s : σ) | rt (r : ρ)
def R.flow {σ ρ τ : Type} (m : R (Fl σ ρ)) (k : σ → R τ) (kr : ρ → R τ) : R τ := m.bind fun r => match r with
  | .nx s => k s
  | .bk s => k s
  | .rt r => kr r
section
variable {α β γ σ ρ τ κ : Type} [Enc α] [Enc β] [Enc γ] [Enc ρ] [KeyT κ]
variable {w : DW} {A0 A : AH} {X : String → List (String × D) → Prop} {D0 : DEnds} {V : τ → Prop} {ss : List Sl} {δ : DSt} {Q : DK}
/-- what is let out is wished for -/
abbrev WX (A0 : AH) (w : DW) (X : String → List (String × D) → Prop) : Prop := ∀ c fs δ A, Sub A0 A → X c fs → w c fs δ A
/-- .. where the slots stand so -/
abbrev WE (A0 : AH) (w : DW) (X : String → List (String × D) → Prop) (ss : List Sl) : Prop := ∀ c fs δ A, Env A0 ss δ A → X c fs → w c fs δ A
theorem we {ss : List Sl} (h : WX A0 w X) : WE A0 w X ss := fun c fs δ A e => h c fs δ A e.sub
def SS (A0 : AH) (X : String → List (String × D) → Prop) (D0 : DEnds) (V : τ → Prop) (ss : List Sl) (s : DS) (m : R τ) : Prop := ∀ (δ : DSt) (A : AH), Env A0 ss δ A → m.wp V X → s D0 δ A
def mask : List Bool → List Sl → List Sl
  | true :: bs, s :: ss => s :: mask bs ss
  | false :: bs, _ :: ss => .emp :: mask bs ss
  | _, ss => ss
theorem EnvR.mask {B : List Addr} {ss : List Sl} {δ : DSt} (h : EnvR A0 A B ss δ) : ∀ bs, ∃ B', (∀ a ∈ B', a ∈ B) ∧ EnvR A0 A B' (mask bs ss) δ := by
  induction h with
  | nil => intro bs; cases bs with
    | nil => exact ⟨[], fun _ h => h, .nil⟩
    | cons b bs => cases b <;> exact ⟨[], fun _ h => h, .nil⟩
  | emp r ih => intro bs; cases bs with
    | nil => exact ⟨_, fun _ h => h, .emp r⟩
    | cons b bs => obtain ⟨B', h1, h2⟩ := ih bs; cases b <;> exact ⟨B', h1, .emp h2⟩
  | val r ih => intro bs; cases bs with
    | nil => exact ⟨_, fun _ h => h, .val r⟩
    | cons b bs => obtain ⟨B', h1, h2⟩ := ih bs; cases b with
      | true => exact ⟨B', h1, .val h2⟩
      | false => exact ⟨B', h1, .emp h2⟩
  | own r o h1 h2 ih => intro bs; cases bs with
    | nil => exact ⟨_, fun _ h => h, .own r o h1 h2⟩
    | cons b bs => obtain ⟨B', q1, q2⟩ := ih bs; cases b with
      | true => exact ⟨_, fun a h => (List.mem_append.mp h).elim (List.mem_append_left _) fun h => List.mem_append_right _ (q1 a h), .own q2 o (fun a ha hb => h1 a ha (q1 a hb)) h2⟩
      | false => exact ⟨_, fun a h => List.mem_append_right _ (q1 a h), .emp q2⟩
theorem Env.mask (h : Env A0 ss δ A) (bs : List Bool) : Env A0 (mask bs ss) δ A := by
  obtain ⟨s, B, h⟩ := h
  obtain ⟨B', _, q⟩ := h.mask bs
  exact ⟨s, B', q⟩
/-! ### targets -/
def SG (A0 : AH) (g : DG) (d : D) (ss ss' : List Sl) : Prop := ∀ (δ : DSt) (A : AH) (K : DSt → AH → Prop), Env A0 ss δ A → (∀ δ', Env A0 ss' δ' A → K δ' A) → g d δ A K
theorem sg_name {d : D} {i : Nat} : SG A0 (dgName i) d ss (ss.set i (.val d)) := fun δ A K e k => k _ (e.set_val i d)
theorem sg_tup2 {d a b : D} {i j : Nat} (h : d = .tup [a, b]) : SG A0 (dgTup 2 (dgCons (dgName i) (dgCons (dgName j) dgNil))) d ss ((ss.set i (.val a)).set j (.val b)) := fun δ A K e k => by
  subst h; exact ⟨rfl, k _ ((e.set_val i a).set_val j b)⟩
theorem sg_tup6 {d a b c x y z : D} {i j k l m n : Nat} (h : d = .tup [a, b, c, x, y, z]) : SG A0 (dgTup 6 (dgCons (dgName i) (dgCons (dgName j) (dgCons (dgName k) (dgCons (dgName l) (dgCons (dgName m) (dgCons (dgName n) dgNil))))))) d ss ((((((ss.set i (.val a)).set j (.val b)).set k (.val c)).set l (.val x)).set m (.val y)).set n (.val z)) := fun δ A K e kk => by
  subst h; exact ⟨rfl, kk _ ((((((e.set_val i a).set_val j b).set_val k c).set_val l x).set_val m y).set_val n z)⟩
/-! ### blocks -/
theorem ss_one {s : DS} {m : R τ} (h : SS A0 X D0 V ss (sSeq s sNext) m) : SS A0 X D0 V ss s m := h
theorem ss_norm {J : List Sl} {s : DS} {m : R τ} (hj : ss = J) (h : SS A0 X D0 V J s m) : SS A0 X D0 V ss s m := hj ▸ h
theorem ss_into {rest : DS} {m : R τ} (h : SS A0 X D0 V ss rest m) : SS A0 X { D0 with nx := rest D0 } V ss sNext m := h
theorem ss_next {v : τ} {J : List Sl} (bs : List Bool) (hj : mask bs ss = J) (hn : ∀ δ A, V v → Env A0 J δ A → D0.nx δ A) : SS A0 X D0 V ss sNext (.ok v) := fun δ A e hv =>
  hn δ A hv (hj ▸ e.mask bs)
/-! ### x = e -/
theorem ss_asg {i : Nat} {te : DE} {rest : DS} {m : R α} {k : α → R τ} (hw : WE A0 w X ss) (he : SE w A0 ss te m) (hr : ∀ a, SS A0 X D0 V (ss.set i (.val (enc a))) rest (k a)) : SS A0 X D0 V ss (sSeq (sAsg te (dgName i)) rest) (m.bind k) := fun δ A e h =>
  he.run (Q := fun d A1 => dgName i d δ A1 (rest D0)) e h (fun c fs => hw c fs δ A e) fun a ha => hr a _ _ (e.set_val i _) ha
theorem ss_asgO {i : Nat} {te : DE} {rest : DS} {m : R σ} {o : σ → OT} {k : σ → R τ} (hw : WE A0 w X ss) (he : SO w A0 ss te m o) (hr : ∀ a, SS A0 X D0 V (ss.set i (.own (o a))) rest (k a)) : SS A0 X D0 V ss (sSeq (sAsg te (dgName i)) rest) (m.bind k) := fun δ A e h =>
  he.run (Q := fun d A1 => dgName i d δ A1 (rest D0)) e h (fun c fs => hw c fs δ A e) fun a p A' hn ha => by
    obtain ⟨C, h1, h2, h3⟩ := hn.ex
    exact hr a _ _ (e.new h1 h2 h3) ha
theorem ss_asgT {g : DG} {te : DE} {rest : DS} {m : R α} {k : α → R τ} {J : α → List Sl} (hw : WE A0 w X ss) (he : SE w A0 ss te m) (hg : ∀ a, SG A0 g (enc a) ss (J a)) (hr : ∀ a, SS A0 X D0 V (J a) rest (k a)) : SS A0 X D0 V ss (sSeq (sAsg te g) rest) (m.bind k) := fun δ A e h =>
  he.run (Q := fun d A1 => g d δ A1 (rest D0)) e h (fun c fs => hw c fs δ A e) fun a ha => hg a δ A _ e fun δ' e' => hr a _ _ e' ha
/-! ### a list, a dict of its own is changed -/
theorem ss_app {i : Nat} {te : DE} {rest : DS} {m : R α} {l : List α} {k : List α → R τ} (hw : WE A0 w X ss) (hi : ss[i]? = some (.own (oL l))) (he : SE w A0 ss te m) (hr : ∀ l', SS A0 X D0 V (ss.set i (.own (oL l'))) rest (k l')) :
    SS A0 X D0 V ss (sSeq (sDrop (eMt "list" mApp (eVar i) (aCons te aNil))) rest) (m.bind fun a => (few l).bind fun _ => (R.ok (l ++ [a])).bind k) := fun δ A e h => by
  obtain ⟨p, h1, h2, _⟩ := e.get_own hi
  rw [sSeq_eq, sDrop_eq, eMt_eq, eVar_eq h1]
  refine ⟨by rw [tyM_ref h2], ?_⟩
  rw [aCons_eq]
  refine he.run e h (fun c fs => hw c fs δ A e) fun a ha => ?_
  rw [R.wp_bind] at ha
  obtain ⟨hl, ha⟩ := few_wp ha
  rw [aNil_eq, mApp_eq]; simp only [h2]
  refine ⟨by simpa using hl, ?_⟩
  obtain ⟨p', q1, q2, q3⟩ := e.upd_own (o' := .lst ((l ++ [a]).map enc)) hi
  rw [h1] at q1; cases q1
  have := hr (l ++ [a]) _ _ q3 ha
  rw [List.map_append] at this; exact this
/-- x[k] = e, x a list -/
def setL (l : List α) (k : Int) (a : α) : R (List α) := match ixN l.length k with
  | some j => .ok (l.set j a)
  | none => .bad
/-- a dict with a value put at a key -/
def Dic.put [DecidableEq κ] (d : Dic κ α) (k : κ) (a : α) : Dic κ α := ⟨if d.l.any (fun p => decide (p.1 = k)) then d.l.map (fun p => if p.1 = k then (p.1, a) else p) else d.l ++ [(k, a)]⟩
theorem encKV_put [DecidableEq κ] (d : Dic κ α) (k : κ) (a : α) : putKD (encKV d.l) (key k) (enc a) = encKV (d.put k a).l := by
  unfold putKD Dic.put encKV
  have e : ((d.l.map fun p => (key p.1, enc p.2)).any fun kv => decide (kv.1 = key k)) = d.l.any fun p => decide (p.1 = k) := by
    rw [List.any_map]; congr 1; funext p
    exact decide_eq_decide.mpr ⟨fun h => KeyT.inj h, fun h => by show key p.1 = key k; rw [h]⟩
  rw [e]
  dsimp only
  split
  · rw [List.map_map, List.map_map]
    apply List.map_congr_left
    intro p _
    by_cases hp : p.1 = k
    · simp [hp]
    · have : ¬ key p.1 = key k := fun h => hp (KeyT.inj h)
      simp [hp, this]
  · rw [List.map_append]; rfl
class KeyD (κ : Type) [Enc κ] [KeyT κ] : Prop where
  ok : ∀ k : κ, asKey (enc k) = some (key k)
instance : KeyD Int := ⟨fun _ => rfl⟩
instance : KeyD Str := ⟨fun _ => rfl⟩
def fewD (d : Dic κ α) : R Unit := if d.l.length < 1000000 then .ok () else .bad
theorem ss_setD [Enc κ] [KeyD κ] [DecidableEq κ] {i : Nat} {te ti : DE} {rest : DS} {m : R α} {n : R κ} {d : Dic κ α} {k : Dic κ α → R τ} (hw : WE A0 w X ss) (hi : ss[i]? = some (.own (oD d))) (he : SE w A0 ss te m) (hk : SE w A0 ss ti n) (hr : ∀ d', SS A0 X D0 V (ss.set i (.own (oD d'))) rest (k d')) :
    SS A0 X D0 V ss (sSeq (sAsg te (dgSub (eVar i) ti)) rest) (m.bind fun a => n.bind fun j => (fewD d).bind fun _ => (R.ok (d.put j a)).bind k) := fun δ A e h => by
  obtain ⟨p, h1, h2, _⟩ := e.get_own hi
  rw [sSeq_eq, sAsg_eq]
  refine he.run e h (fun c fs => hw c fs δ A e) fun a ha => ?_
  rw [dgSub_eq, eVar_eq h1]
  refine hk.run e ha (fun c fs => hw c fs δ A e) fun j hj => ?_
  unfold fewD at hj
  split at hj
  · rename_i hl
    show setD (.ref p) (enc j) (enc a) A _
    unfold setD
    simp only [h2, KeyD.ok]
    refine ⟨by simpa [encKV] using hl, ?_⟩
    obtain ⟨p', q1, q2, q3⟩ := e.upd_own (o' := .dic (encKV (d.put j a).l)) hi
    rw [h1] at q1; cases q1
    rw [encKV_put]; exact hr _ _ _ q3 hj
  · exact hj.elim
/-! ### return, raise -/
theorem ss_ret {te : DE} {m : R α} {k : α → R τ} (hw : WE A0 w X ss) (he : SE w A0 ss te m) (hrt : ∀ a A', Sub A0 A' → (k a).wp V X → D0.rt (enc a) A') : SS A0 X D0 V ss (sRet te) (m.bind k) := fun δ A e h =>
  he.run (Q := D0.rt) e h (fun c fs => hw c fs δ A e) fun a ha => hrt a A e.sub ha
theorem ss_ret1 {te : DE} {m : R τ} [Enc τ] (hw : WE A0 w X ss) (he : SE w A0 ss te m) (hrt : ∀ a A', Sub A0 A' → V a → D0.rt (enc a) A') : SS A0 X D0 V ss (sRet te) m := fun δ A e h =>
  he δ A D0.rt e (R.wp_imp h (fun a ha => hrt a A e.sub ha) fun c fs => hw c fs δ A e)
theorem ss_retO {te : DE} {m : R τ} {o : τ → OT} (hw : WE A0 w X ss) (he : SO w A0 ss te m o) (hrt : ∀ a A1 A' p, Sub A0 A1 → New A1 (o a) p A' → V a → D0.rt (.ref p) A') : SS A0 X D0 V ss (sRet te) m := fun δ A e h =>
  he δ A D0.rt e (R.wp_imp h (fun a ha p A' hn => hrt a A A' p e.sub hn ha) fun c fs => hw c fs δ A e)
theorem ss_raise {c : String} (hw : WE A0 w X ss) : SS A0 X D0 V ss (sRaise w c) (.exc c []) := fun δ A e h => hw c [] δ A e h
/-! ### if -/
theorem ss_if {c : DT} {s1 s2 : DS} {m : R Bool} {m1 m2 : R τ} (hw : WE A0 w X ss) (ht : ST w A0 ss c m) (h1 : SS A0 X D0 V ss s1 m1) (h2 : SS A0 X D0 V ss s2 m2) : SS A0 X D0 V ss (sIf c s1 s2) (R.cond m m1 m2) := fun δ A e h =>
  ht.run e h (fun c fs => hw c fs δ A e) fun a ha => by
    cases a with
    | true => exact ⟨fun _ => h1 _ _ e ha, fun h => (nomatch h)⟩
    | false => exact ⟨fun h => (nomatch h), fun _ => h2 _ _ e ha⟩
theorem ss_ifs {c : DT} {s1 s2 rest : DS} {m : R Bool} {m1 m2 : R τ} (hw : WE A0 w X ss) (ht : ST w A0 ss c m) (h1 : SS A0 X { D0 with nx := rest D0 } V ss s1 m1) (h2 : SS A0 X { D0 with nx := rest D0 } V ss s2 m2) : SS A0 X D0 V ss (sSeq (sIf c s1 s2) rest) (R.cond m m1 m2) :=
  ss_if (D0 := { D0 with nx := rest D0 }) hw ht h1 h2
/-! ### for -/
/-- what a for walks: it stays so as long as what stood at first stands -/
def SIF (w : DW) (A0 : AH) (ss : List Sl) (it : DI) (m : R (List σ)) (f : σ → D) : Prop := ∀ (δ : DSt) (A : AH) (K : List D → (AH → Prop) → AH → Prop), Env A0 ss δ A → m.wp (fun l => ∀ g : AH → Prop, (∀ A', Sub A0 A' → g A') → K (l.map f) g A) (fun c fs => w c fs δ A) → it δ A K
def foldR : List α → σ → (α → σ → R σ) → R σ
  | [], s, _ => .ok s
  | x :: l, s, f => (f x s).bind fun s => foldR l s f
def forR : List α → σ → (α → σ → R (Fl σ ρ)) → R (Fl σ ρ)
  | [], s, _ => .ok (.nx s)
  | x :: l, s, f => (f x s).bind fun r => match r with
    | .nx s => forR l s f
    | .bk s => .ok (.nx s)
    | .rt r => .ok (.rt r)
theorem ss_for {it : DI} {g : DG} {body rest : DS} {mi : R (List α)} {fe : α → D} {f : α → σ → R σ} {st0 : σ} {k : σ → R τ} (hw : WE A0 w X ss) (J : σ → List Sl) (J1 : α → σ → List Sl) (bs : List Bool) (hj : mask bs ss = J st0) (hi : SIF w A0 ss it mi fe)
    (hg : ∀ x st, SG A0 g (fe x) (J st) (J1 x st)) (hb : ∀ (V' : σ → Prop) (N B : DSt → AH → Prop), (∀ st δ A, V' st → Env A0 (J st) δ A → N δ A) → ∀ x st, SS A0 X { D0 with nx := N, ct := N, bk := B } V' (J1 x st) body (f x st))
    (hr : ∀ st, SS A0 X D0 V (J st) rest (k st)) : SS A0 X D0 V ss (sSeq (sFor it g body) rest) (mi.bind fun l => (foldR l st0 f).bind k) := fun δ A e h => by
  rw [R.wp_bind] at h
  rw [sSeq_eq, sFor_eq]
  refine hi δ A _ e (R.wp_imp h (fun l hl gd hgd => ?_) fun c fs => hw c fs δ A e)
  have key : ∀ (l : List α) (st : σ) (δ : DSt) (A : AH), Env A0 (J st) δ A → ((foldR l st f).bind k).wp V X → forD gd g body { D0 with nx := rest D0 } (l.map fe) δ A := by
    intro l
    induction l with
    | nil => intro st δ A e h; exact ⟨hgd A e.sub, hr st δ A e h⟩
    | cons x l ih =>
      intro st δ A e h
      refine ⟨hgd A e.sub, hg x st δ A _ e fun δ' e' => ?_⟩
      have h' : ((f x st).bind fun s => (foldR l s f).bind k).wp V X := by
        have : (foldR (x :: l) st f).bind k = (f x st).bind fun s => (foldR l s f).bind k := R.bind_assoc
        rw [← this]; exact h
      rw [R.wp_bind] at h'
      exact hb (fun s => ((foldR l s f).bind k).wp V X) _ _ (fun st δ A hv e => ih st δ A e hv) x st δ' A e' h'
  exact key l st0 δ A (hj ▸ e.mask bs) hl
theorem ss_forF {it : DI} {g : DG} {body rest : DS} {mi : R (List α)} {fe : α → D} {f : α → σ → R (Fl σ ρ)} {st0 : σ} {k : σ → R τ} {kr : ρ → R τ} (hw : WE A0 w X ss) (J : σ → List Sl) (J1 : α → σ → List Sl) (bs : List Bool) (hj : mask bs ss = J st0) (hi : SIF w A0 ss it mi fe)
    (hrt : ∀ r A', Sub A0 A' → (kr r).wp V X → D0.rt (enc r) A') (hg : ∀ x st, SG A0 g (fe x) (J st) (J1 x st))
    (hb : ∀ (V' : Fl σ ρ → Prop) (N B : DSt → AH → Prop), (∀ st δ A, V' (.nx st) → Env A0 (J st) δ A → N δ A) → (∀ st δ A, V' (.bk st) → Env A0 (J st) δ A → B δ A) → (∀ r A', Sub A0 A' → V' (.rt r) → D0.rt (enc r) A') → ∀ x st, SS A0 X { D0 with nx := N, ct := N, bk := B } V' (J1 x st) body (f x st))
    (hr : ∀ st, SS A0 X D0 V (J st) rest (k st)) : SS A0 X D0 V ss (sSeq (sFor it g body) rest) (mi.bind fun l => R.flow (forR l st0 f) k kr) := fun δ A e h => by
  rw [R.wp_bind] at h
  rw [sSeq_eq, sFor_eq]
  refine hi δ A _ e (R.wp_imp h (fun l hl gd hgd => ?_) fun c fs => hw c fs δ A e)
  have key : ∀ (l : List α) (st : σ) (δ : DSt) (A : AH), Env A0 (J st) δ A → ((forR l st f).bind fun r => match r with
      | .nx s => k s
      | .bk s => k s
      | .rt r => kr r).wp V X → forD gd g body { D0 with nx := rest D0 } (l.map fe) δ A := by
    intro l
    induction l with
    | nil => intro st δ A e h; exact ⟨hgd A e.sub, hr st δ A e h⟩
    | cons x l ih =>
      intro st δ A e h
      refine ⟨hgd A e.sub, hg x st δ A _ e fun δ' e' => ?_⟩
      have h' : (f x st).wp (fun r => match r with
          | .nx s => ((forR l s f).bind fun r => match r with
              | .nx s => k s
              | .bk s => k s
              | .rt r => kr r).wp V X
          | .bk s => (k s).wp V X
          | .rt r => (kr r).wp V X) X := by
        have h2 := h
        unfold forR at h2
        rw [R.bind_assoc, R.wp_bind] at h2
        refine R.wp_imp h2 (fun r hr => ?_) fun _ _ h => h
        cases r <;> exact hr
      exact hb _ _ _ (fun st δ A hv e => ih st δ A e hv) (fun st δ A hv e => hr st δ A e hv) (fun r A' s hv => hrt r A' s hv) x st δ' A e' h'
  exact key l st0 δ A (hj ▸ e.mask bs) hl
end
end TF


/-! TF3: ==, in, subscripts, slices, built-in functions, calls, comprehensions. -/
namespace TF
open PySem PySem.Spec PyProof.Rows L2 DL FR
open Enc KeyT
/-! ### data that may be compared -/
instance : EqD Int := ⟨fun _ => True, 0, fun a n _ _ => dt_int, fun a b _ _ => by simp [enc]; exact (Bool.beq_eq_decide_eq a b), fun A d a n h q => by rw [h]; exact q, fun A x y a b h k => by rw [h, k]; rfl⟩
instance : EqD Bool := ⟨fun _ => True, 0, fun a n _ _ => dt_bl, fun a b _ _ => by simp [enc]; exact (Bool.beq_eq_decide_eq a b), fun A d a n h q => by rw [h]; exact q, fun A x y a b h k => by rw [h, k]; rfl⟩
instance : EqD Str := ⟨fun s => PyData.strOk s = true, 0, fun a n h _ => by show dt n (.str a) = true; rw [dt_str]; exact h, fun a b _ _ => by simp [enc]; exact (Bool.beq_eq_decide_eq a b), fun A d a n h q => by rw [h]; exact q, fun A x y a b h k => by rw [h, k]; rfl⟩
theorem dt_frn {q : Rat} {n : Nat} (h : 1 ≤ n) : dt n (frD q) = true := by
  obtain ⟨k, rfl⟩ : ∃ k, n = k + 1 := ⟨n - 1, by omega⟩
  exact dt_fr
instance : EqD Rat := ⟨fun _ => True, 1, fun a n _ h => dt_frn h, fun a b _ _ => deq_fr, fun A d a n h q => by rw [h]; show dt n (drf A (frD a)) = true; rw [drf_fr]; exact q, fun A x y a b h k => by rw [h, k]; show deq (drf A (frD a)) (drf A (frD b)) = _; rw [drf_fr, drf_fr]; rfl⟩
theorem drf_nr {A : AH} {d : D} (h : ∀ a, d ≠ .ref a) : drf A d = d := by
  cases d with
  | ref a => exact absurd rfl (h a)
  | _ => rfl
/-- never a changing object -/
class NR (α : Type) [Enc α] : Prop where
  nr : ∀ (a : α) p, enc a ≠ .ref p
  vw : ∀ {A d} {a : α}, vw A d a → d = enc a
section
variable {α β γ δ' ε ζ κ : Type} [Enc α] [Enc β] [Enc γ] [Enc δ'] [Enc ε] [Enc ζ] [KeyT κ]
instance : NR Int := ⟨fun _ _ h => D.noConfusion h, fun h => h⟩
instance : NR Bool := ⟨fun _ _ h => D.noConfusion h, fun h => h⟩
instance : NR Str := ⟨fun _ _ h => D.noConfusion h, fun h => h⟩
instance : NR Rat := ⟨fun _ _ h => by rw [enc_rat, frD_def] at h; exact D.noConfusion h, fun h => h⟩
instance : NR TieV := ⟨fun _ _ h => D.noConfusion h, fun h => h⟩
instance : NR (T1 α) := ⟨fun _ _ h => D.noConfusion h, fun h => h⟩
instance : NR (α × β) := ⟨fun _ _ h => D.noConfusion h, fun h => h⟩
instance : NR (T3 α β γ) := ⟨fun _ _ h => D.noConfusion h, fun h => h⟩
instance : NR (T4 α β γ δ') := ⟨fun _ _ h => D.noConfusion h, fun h => h⟩
instance : NR (T5 α β γ δ' ε) := ⟨fun _ _ h => D.noConfusion h, fun h => h⟩
instance : NR (T6 α β γ δ' ε ζ) := ⟨fun _ _ h => D.noConfusion h, fun h => h⟩
theorem enc_none : (enc (none : Option α) : D) = .non := rfl
theorem enc_somE (a : α) : (enc (some a) : D) = enc a := rfl
instance [NR α] : NR (Option α) := ⟨fun a p h => by
  cases a with
  | none => exact D.noConfusion h
  | some a => exact NR.nr a p h, fun h => h⟩
theorem vw_dtNR [NR α] (A : AH) (d : D) (a : α) (n : Nat) (h : vw A d a) (q : dt n (enc a) = true) : dt n (drf A d) = true := by
  rw [NR.vw h, drf_nr (NR.nr a)]; exact q
theorem vw_deqNR [NR α] (A : AH) (x y : D) (a b : α) (h : vw A x a) (k : vw A y b) : deq (drf A x) (drf A y) = deq (enc a) (enc b) := by
  rw [NR.vw h, NR.vw k, drf_nr (NR.nr a), drf_nr (NR.nr b)]
def Dic.get? [DecidableEq κ] (d : Dic κ α) (k : κ) : Option α := (d.l.find? fun p => decide (p.1 = k)).map (·.2)
theorem dget_enc [DecidableEq κ] (d : Dic κ α) (k : κ) : dget (encKV d.l) (key k) = (d.get? k).map enc := by
  unfold dget Dic.get? encKV
  rw [List.find?_map]
  have e : ((fun kv : Key × D => decide (kv.1 = key k)) ∘ fun p : κ × α => (key p.1, enc p.2)) = fun p => decide (p.1 = k) := by
    funext p; exact decide_eq_decide.mpr ⟨fun h => KeyT.inj h, fun h => by show key p.1 = key k; rw [h]⟩
  rw [e]
  cases d.l.find? fun p => decide (p.1 = k) <;> rfl
variable [DecidableEq α] [DecidableEq β] [DecidableEq γ] [DecidableEq δ'] [DecidableEq ε] [DecidableEq ζ] [EqD α] [EqD β] [EqD γ] [EqD δ'] [EqD ε] [EqD ζ]
theorem deq_non {d : D} (h : d.isNon = false) : deq .non d = false ∧ deq d .non = false := by
  cases d <;> first | exact absurd h (by decide) | exact ⟨by simp [deq], by simp [deq]⟩
instance [NN α] [NR α] : EqD (Option α) where
  good o := ∀ a, o = some a → EqD.good a
  dep := EqD.dep α
  dt_enc a n h hn := by
    cases a with
    | none => exact dt_non
    | some a => exact EqD.dt_enc a n (h a rfl) hn
  deq_enc a b h k := by
    cases a with
    | none => cases b with
      | none => simp [enc_none, deq]
      | some b => rw [enc_none, enc_somE, (deq_non (NN.nn b)).1]; simp
    | some a => cases b with
      | none => rw [enc_none, enc_somE, (deq_non (NN.nn a)).2]; simp
      | some b => rw [enc_somE, enc_somE, EqD.deq_enc a b (h a rfl) (k b rfl)]; simp
  vw_dt A d a n h q := vw_dtNR A d a n h q
  vw_deq A x y a b h k := vw_deqNR A x y a b h k
theorem dt_t {l : List D} {n : Nat} (h : 1 ≤ n) (q : dts (n - 1) l = true) : dt n (.tup l) = true := by
  obtain ⟨k, rfl⟩ : ∃ k, n = k + 1 := ⟨n - 1, by omega⟩
  rw [dt_tup]; exact q
instance : EqD (T1 α) where
  good t := EqD.good t.a
  dep := EqD.dep α + 1
  dt_enc t n h hn := dt_t (by omega) (by simp only [dts_cons, dts_nil, Bool.and_true]; exact EqD.dt_enc _ _ h (by omega))
  deq_enc a b h k := by
    show deq (.tup [enc a.a]) (.tup [enc b.a]) = _
    rw [deq_tup, deqs_cons, deqs_nil, EqD.deq_enc _ _ h k, Bool.and_true]
    cases a; cases b; simp
  vw_dt A d a n h q := vw_dtNR A d a n h q
  vw_deq A x y a b h k := vw_deqNR A x y a b h k
instance : EqD (α × β) where
  good t := EqD.good t.1 ∧ EqD.good t.2
  dep := max (EqD.dep α) (EqD.dep β) + 1
  dt_enc t n h hn := dt_t (by omega) (by simp only [dts_cons, dts_nil, Bool.and_true, Bool.and_eq_true]; exact ⟨EqD.dt_enc _ _ h.1 (by omega), EqD.dt_enc _ _ h.2 (by omega)⟩)
  deq_enc a b h k := by
    show deq (.tup [enc a.1, enc a.2]) (.tup [enc b.1, enc b.2]) = _
    rw [deq_tup, deqs_cons, deqs_cons, deqs_nil, EqD.deq_enc _ _ h.1 k.1, EqD.deq_enc _ _ h.2 k.2, Bool.and_true]
    cases a; cases b; simp
  vw_dt A d a n h q := vw_dtNR A d a n h q
  vw_deq A x y a b h k := vw_deqNR A x y a b h k
instance : EqD (T3 α β γ) where
  good t := EqD.good t.a ∧ EqD.good t.b ∧ EqD.good t.c
  dep := max (EqD.dep α) (max (EqD.dep β) (EqD.dep γ)) + 1
  dt_enc t n h hn := dt_t (by omega) (by simp only [dts_cons, dts_nil, Bool.and_true, Bool.and_eq_true]; exact ⟨EqD.dt_enc _ _ h.1 (by omega), EqD.dt_enc _ _ h.2.1 (by omega), EqD.dt_enc _ _ h.2.2 (by omega)⟩)
  deq_enc a b h k := by
    show deq (.tup [enc a.a, enc a.b, enc a.c]) (.tup [enc b.a, enc b.b, enc b.c]) = _
    rw [deq_tup, deqs_cons, deqs_cons, deqs_cons, deqs_nil, EqD.deq_enc _ _ h.1 k.1, EqD.deq_enc _ _ h.2.1 k.2.1, EqD.deq_enc _ _ h.2.2 k.2.2, Bool.and_true]
    cases a; cases b; simp
  vw_dt A d a n h q := vw_dtNR A d a n h q
  vw_deq A x y a b h k := vw_deqNR A x y a b h k
instance : EqD (T4 α β γ δ') where
  good t := EqD.good t.a ∧ EqD.good t.b ∧ EqD.good t.c ∧ EqD.good t.d
  dep := max (EqD.dep α) (max (EqD.dep β) (max (EqD.dep γ) (EqD.dep δ'))) + 1
  dt_enc t n h hn := dt_t (by omega) (by simp only [dts_cons, dts_nil, Bool.and_true, Bool.and_eq_true]; exact ⟨EqD.dt_enc _ _ h.1 (by omega), EqD.dt_enc _ _ h.2.1 (by omega), EqD.dt_enc _ _ h.2.2.1 (by omega), EqD.dt_enc _ _ h.2.2.2 (by omega)⟩)
  deq_enc a b h k := by
    show deq (.tup [enc a.a, enc a.b, enc a.c, enc a.d]) (.tup [enc b.a, enc b.b, enc b.c, enc b.d]) = _
    rw [deq_tup, deqs_cons, deqs_cons, deqs_cons, deqs_cons, deqs_nil, EqD.deq_enc _ _ h.1 k.1, EqD.deq_enc _ _ h.2.1 k.2.1, EqD.deq_enc _ _ h.2.2.1 k.2.2.1, EqD.deq_enc _ _ h.2.2.2 k.2.2.2, Bool.and_true]
    cases a; cases b; simp
  vw_dt A d a n h q := vw_dtNR A d a n h q
  vw_deq A x y a b h k := vw_deqNR A x y a b h k
instance : EqD (T6 α β γ δ' ε ζ) where
  good t := EqD.good t.a ∧ EqD.good t.b ∧ EqD.good t.c ∧ EqD.good t.d ∧ EqD.good t.e ∧ EqD.good t.f
  dep := max (EqD.dep α) (max (EqD.dep β) (max (EqD.dep γ) (max (EqD.dep δ') (max (EqD.dep ε) (EqD.dep ζ))))) + 1
  dt_enc t n h hn := dt_t (by omega) (by simp only [dts_cons, dts_nil, Bool.and_true, Bool.and_eq_true]; exact ⟨EqD.dt_enc _ _ h.1 (by omega), EqD.dt_enc _ _ h.2.1 (by omega), EqD.dt_enc _ _ h.2.2.1 (by omega), EqD.dt_enc _ _ h.2.2.2.1 (by omega), EqD.dt_enc _ _ h.2.2.2.2.1 (by omega), EqD.dt_enc _ _ h.2.2.2.2.2 (by omega)⟩)
  deq_enc a b h k := by
    show deq (.tup [enc a.a, enc a.b, enc a.c, enc a.d, enc a.e, enc a.f]) (.tup [enc b.a, enc b.b, enc b.c, enc b.d, enc b.e, enc b.f]) = _
    rw [deq_tup, deqs_cons, deqs_cons, deqs_cons, deqs_cons, deqs_cons, deqs_cons, deqs_nil, EqD.deq_enc _ _ h.1 k.1, EqD.deq_enc _ _ h.2.1 k.2.1, EqD.deq_enc _ _ h.2.2.1 k.2.2.1, EqD.deq_enc _ _ h.2.2.2.1 k.2.2.2.1, EqD.deq_enc _ _ h.2.2.2.2.1 k.2.2.2.2.1, EqD.deq_enc _ _ h.2.2.2.2.2 k.2.2.2.2.2, Bool.and_true]
    cases a; cases b; simp
  vw_dt A d a n h q := vw_dtNR A d a n h q
  vw_deq A x y a b h k := vw_deqNR A x y a b h k
theorem dts_map : ∀ (l : List α) (n : Nat), (∀ a ∈ l, EqD.good a) → EqD.dep α ≤ n → dts n (l.map enc) = true
  | [], n, _, _ => dts_nil
  | a :: l, n, h, hn => by
    rw [List.map_cons, dts_cons, EqD.dt_enc a n (h a List.mem_cons_self) hn, dts_map l n (fun a ha => h a (List.mem_cons_of_mem _ ha)) hn]; rfl
theorem deqs_map : ∀ (l m : List α), (∀ a ∈ l, EqD.good a) → (∀ a ∈ m, EqD.good a) → deqs (l.map enc) (m.map enc) = decide (l = m)
  | [], [], _, _ => by simp
  | [], b :: m, _, _ => by simp [deqs]
  | a :: l, [], _, _ => by simp [deqs]
  | a :: l, b :: m, h, k => by
    rw [List.map_cons, List.map_cons, deqs_cons, EqD.deq_enc a b (h a List.mem_cons_self) (k b List.mem_cons_self), deqs_map l m (fun a ha => h a (List.mem_cons_of_mem _ ha)) fun a ha => k a (List.mem_cons_of_mem _ ha)]
    simp
/-- a list as it stands -/
theorem drf_asL {A : AH} {d : D} {l : List D} (h : asL A d = some l) : drf A d = .lst l ∨ drf A d = .rol l := by
  cases d with
  | lst m => cases (show some m = some l from h); exact .inl rfl
  | rol m => cases (show some m = some l from h); exact .inr rfl
  | ref a =>
    have h' : (match A a with | some (.lst l) => some l | _ => none) = some l := h
    split at h'
    · rename_i q; cases h'; exact .inl (drf_ref q)
    · cases h'
  | _ => cases h
theorem dt_l {l : List D} {n : Nat} (h : 1 ≤ n) (q : dts (n - 1) l = true) : dt n (.lst l) = true := by
  obtain ⟨k, rfl⟩ : ∃ k, n = k + 1 := ⟨n - 1, by omega⟩
  rw [dt_lst]; exact q
instance : EqD (List α) where
  good l := ∀ a ∈ l, EqD.good a
  dep := EqD.dep α + 1
  dt_enc l n h hn := dt_l (by omega) (dts_map l _ h (by omega))
  deq_enc a b h k := by
    show deq (.lst _) (.lst _) = _
    rw [deq_lst]; exact deqs_map a b h k
  vw_dt A d a n h q := by
    rcases drf_asL h with e | e
    · rw [e]; exact q
    · rw [e]
      cases n with
      | zero => exact absurd q (by show dt 0 (.lst _) ≠ true; simp [dt])
      | succ n =>
        rw [show (enc a : D) = .lst (a.map enc) from rfl, dt_lst] at q
        rw [dt]; exact q
  vw_deq A x y a b h k := by
    rcases drf_asL h with e | e <;> rcases drf_asL k with e2 | e2 <;> rw [e, e2] <;> simp [deq, enc]
variable {w : DW} {A0 A : AH} {ss : List Sl} {δ : DSt} {Q : DK}
open Classical in
noncomputable def eqR (neg : Bool) (a b : α) : R Bool := if EqD.good a ∧ EqD.good b then .ok (xor neg (decide (a = b))) else .bad
theorem eqR_ok {neg : Bool} {a b : α} (h : EqD.good a) (k : EqD.good b) : eqR neg a b = .ok (xor neg (decide (a = b))) := by unfold eqR; rw [if_pos ⟨h, k⟩]
theorem op_eqV (neg : Bool) (hd : EqD.dep α ≤ 60) : OpV (opEq neg) (eqR (α := α) neg) := fun A x y a b Q X hx hy hw => by
  unfold eqR at hw
  split at hw
  · rename_i h
    refine ⟨EqD.vw_dt A x a 60 hx (EqD.dt_enc a 60 h.1 hd), EqD.vw_dt A y b 60 hy (EqD.dt_enc b 60 h.2 hd), ?_⟩
    rw [EqD.vw_deq A x y a b hx hy, EqD.deq_enc a b h.1 h.2]; exact hw
  · exact hw.elim
/-! ### in -/
open Classical in
noncomputable def inR (neg : Bool) (a : α) (l : List α) : R Bool := if EqD.good a ∧ ∀ b ∈ l, EqD.good b then .ok (xor neg (decide (a ∈ l))) else .bad
theorem inR_ok {neg : Bool} {a : α} {l : List α} (h : EqD.good a) (k : ∀ b ∈ l, EqD.good b) : inR neg a l = .ok (xor neg (decide (a ∈ l))) := by unfold inR; rw [if_pos ⟨h, k⟩]
theorem asDic_asL {A : AH} {d : D} {l : List D} (h : asL A d = some l) : asDic A d = none := by
  cases d with
  | ref a =>
    have h' : (match A a with | some (.lst l) => some l | _ => none) = some l := h
    show (match A a with | some (.dic l) => some l | _ => none) = none
    split at h'
    · rename_i q; rw [q]
    · cases h'
  | lst m => rfl
  | rol m => rfl
  | _ => cases h
theorem any_deq (a : α) (ha : EqD.good a) : ∀ l : List α, (∀ b ∈ l, EqD.good b) → ((l.map enc).any fun z => deq z (enc a)) = decide (a ∈ l)
  | [], _ => by simp
  | b :: l, h => by
    rw [List.map_cons, List.any_cons, any_deq a ha l fun b hb => h b (List.mem_cons_of_mem _ hb), EqD.deq_enc b a (h b List.mem_cons_self) ha]
    by_cases e : b = a
    · simp [e]
    · have : ¬ a = b := fun z => e z.symm
      simp [e, this]
/-- in a list -/
theorem se_in {t u : DE} {m : R α} {n : R (List α)} (neg : Bool) (hd : EqD.dep α ≤ 59) [NR α] (h : SE w A0 ss t m) (h2 : SV w A0 ss u n) : SE w A0 ss (eBin (opIn neg) t u) (R.b2 m n (inR neg)) := fun δ A Q e hw =>
  h.run e hw (fun _ _ => id) fun a hw => h2.run e hw (fun _ _ => id) fun l d hl hw => by
    unfold inR at hw
    split at hw
    · rename_i g
      have hl' : asL A d = some (l.map enc) := hl
      unfold opIn
      rw [asDic_asL hl']
      have e1 : drf A (enc a) = enc a := drf_nr (NR.nr a)
      have fin : ∀ x, x = (enc a : D) → (match asL A d with
        | some l => dt 60 (drf A x) = true ∧ dts 59 l = true ∧ Q (.bl (xor neg (l.any fun z => deq z (drf A x)))) A
        | none => False) := fun x hx => by
        subst hx
        rw [hl', e1]
        refine ⟨EqD.dt_enc a 60 g.1 (by omega), dts_map l 59 g.2 hd, ?_⟩
        rw [any_deq a g.1 l g.2]; exact hw
      generalize hx : (enc a : D) = x at *
      cases d <;> first | (cases hl'; done) | (cases x <;> exact fin _ rfl)
    · exact hw.elim
omit [DecidableEq α] [DecidableEq β] [DecidableEq γ] [DecidableEq δ'] [DecidableEq ε] [DecidableEq ζ] [EqD α] [EqD β] [EqD γ] [EqD δ'] [EqD ε] [EqD ζ]
/-- in a dict -/
theorem se_inD [Enc κ] [KeyD κ] [DecidableEq κ] {t u : DE} {m : R κ} {n : R (Dic κ α)} (neg : Bool) (h : SE w A0 ss t m) (h2 : SV w A0 ss u n) : SE w A0 ss (eBin (opIn neg) t u) (R.b2 m n fun k d => .ok (xor neg (d.get? k).isSome)) := fun δ A Q e hw =>
  h.run e hw (fun _ _ => id) fun a hw => h2.run e hw (fun _ _ => id) fun l d hl hw => by
    have hl' : asDic A d = some (encKV l.l) := hl
    unfold opIn
    rw [hl', KeyD.ok]
    show Q (.bl (xor neg (dget (encKV l.l) (key a)).isSome)) A
    rw [dget_enc]
    have : ((l.get? a).map (enc (α := α))).isSome = (l.get? a).isSome := by cases l.get? a <;> rfl
    rw [this]; exact hw
/-! ### subscripts -/
omit [Enc α] in
theorem atI_map {ρ : Type} (f : α → ρ) (l : List α) (i : Int) : atI (l.map f) i = (atI l i).map f := by
  unfold atI
  rw [List.length_map]
  cases ixN l.length i with
  | none => rfl
  | some j => show (l.map f)[j]? = (l[j]?).map f; rw [List.getElem?_map]
def ixL (l : List α) (i : Int) : R α := match atI l i with
  | some a => .ok a
  | none => .bad
theorem opIx_asL {x : D} {l : List D} {i : Int} {d : D} {Q : DK} (h : asL A x = some l) (hd : atI l i = some d) (q : Q d A) : opIx x (.int i) A Q := by
  have e : opIx x (.int i) A Q = (match asL A x with | some l => (match atI l i with | some d => Q d A | none => False) | none => opIx x (.int i) A Q) := by
    cases x <;> first | (cases h; done) | (unfold opIx asS; simp only [h] <;> cases atI l i <;> rfl)
  rw [e, h]; dsimp only; rw [hd]; exact q
theorem se_ix {t u : DE} {m : R (List α)} {n : R Int} (h : SV w A0 ss t m) (h2 : SE w A0 ss u n) : SE w A0 ss (eBin opIx t u) (R.b2 m n ixL) := fun δ A Q e hw =>
  h.run e hw (fun _ _ => id) fun l d hl hw => h2.run e hw (fun _ _ => id) fun i hw => by
    unfold ixL at hw
    split at hw
    · rename_i a ha
      exact opIx_asL (show asL A d = some (l.map enc) from hl) (by rw [atI_map, ha]; rfl) hw
    · exact hw.elim
def ixS (s : Str) (i : Int) : R Str := if s.length < 1000000 then (match atI s.cps.toList i with
  | some c => .ok ⟨#[c]⟩
  | none => .bad) else .bad
theorem op_ixS : OpE opIx ixS := fun A s i Q X hw => by
  unfold ixS at hw
  split at hw
  · rename_i hl
    split at hw
    · rename_i c hc
      show opIx (.str s) (.int i) A Q
      rw [opIx_str, hc]; exact ⟨hl, hw⟩
    · exact hw.elim
  · exact hw.elim
/-- t[i], t a tuple, i written -/
theorem se_proj {t : DE} {m : R α} (f : α → β) (i : Int) (hf : ∀ a : α, ∃ l, (enc a : D) = .tup l ∧ atI l i = some (enc (f a))) (h : SE w A0 ss t m) : SE w A0 ss (eBin opIx t (eC (.int i))) (m.map f) := fun δ A Q e hw =>
  h.run e hw (fun _ _ => id) fun a hw => by
    obtain ⟨l, h1, h2⟩ := hf a
    rw [h1]
    show opIx (.tup l) (.int i) A Q
    rw [opIx_tup, h2]; exact hw
theorem ix_num : ∀ q : Rat, ∃ l, (enc q : D) = .tup l ∧ atI l 0 = some (enc q.num) := fun q => ⟨_, frD_def q, rfl⟩
theorem ix_den : ∀ q : Rat, ∃ l, (enc q : D) = .tup l ∧ atI l 1 = some (enc ((q.den : Int))) := fun q => ⟨_, frD_def q, rfl⟩
def getR [DecidableEq κ] (d : Dic κ α) (k : κ) : R α := match d.get? k with
  | some a => .ok a
  | none => .bad
theorem opIx_dic {x i : D} {kvs : List (Key × D)} {k : Key} {d : D} {Q : DK} (h : asDic A x = some kvs) (hi : asKey i = some k) (hd : dget kvs k = some d) (q : Q d A) : opIx x i A Q := by
  cases i with
  | int j =>
    cases (show some (Sum.inl j) = some k from hi)
    unfold opIx
    cases x with
    | ref a =>
      have h' : (match A a with | some (.dic l) => some l | _ => none) = some kvs := h
      have e : asS A (.ref a) = none := by
        show (match A a with | some (.lst l) => some l | _ => none) = none
        split at h'
        · rename_i q; rw [q]
        · cases h'
      simp only [e, h, hd]; exact q
    | dic ks vs => simp only [show asS A (.dic ks vs) = none from rfl, h, hd]; exact q
    | _ => cases h
  | str s =>
    cases (show some (Sum.inr s) = some k from hi)
    unfold opIx
    simp only [h, hd]; exact q
  | _ => cases hi
theorem se_get [Enc κ] [KeyD κ] [DecidableEq κ] {t u : DE} {m : R (Dic κ α)} {n : R κ} (h : SV w A0 ss t m) (h2 : SE w A0 ss u n) : SE w A0 ss (eBin opIx t u) (R.b2 m n getR) := fun δ A Q e hw =>
  h.run e hw (fun _ _ => id) fun l d hl hw => h2.run e hw (fun _ _ => id) fun k hw => by
    unfold getR at hw
    split at hw
    · rename_i a ha
      exact opIx_dic (show asDic A d = some (encKV l.l) from hl) (KeyD.ok k) (by rw [dget_enc, ha]; rfl) hw
    · exact hw.elim
/-! ### slices -/
def SOp (w : DW) (A0 : AH) (ss : List Sl) (t : DOpt) (m : R (Option Int)) : Prop := ∀ (δ : DSt) (A : AH) (Q : Option Int → AH → Prop), Env A0 ss δ A → m.wp (fun a => Q a A) (fun c fs => w c fs δ A) → t δ A Q
theorem sop_none : SOp w A0 ss oNone (.ok none) := fun δ A Q e hw => hw
theorem sop_some {t : DE} {m : R Int} (h : SE w A0 ss t m) : SOp w A0 ss (oSome t) (m.map some) := fun δ A Q e hw => by
  rw [oSome_eq]; exact h.run e hw (fun _ _ => id) fun a hw => hw
theorem SOp.run {t : DOpt} {m : R (Option Int)} {τ : Type} {k : Option Int → R τ} {V : τ → Prop} {X} {Q : Option Int → AH → Prop} (h : SOp w A0 ss t m) (e : Env A0 ss δ A) (hw : (m.bind k).wp V X) (hx : ∀ c fs, X c fs → w c fs δ A) (hk : ∀ a, (k a).wp V X → Q a A) : t δ A Q :=
  h δ A Q e (by rw [R.wp_bind] at hw; exact R.wp_imp hw hk hx)
def cut {α : Type} (l : List α) (lo hi : Option Int) : List α := (l.drop (HT.sIx l.length 0 lo)).take (HT.sIx l.length l.length hi - HT.sIx l.length 0 lo)
theorem cut_map {ρ : Type} {f : α → D} (l : List α) (lo hi : Option Int) : DL.cutD (l.map f) lo hi = (cut l lo hi).map f := by
  unfold DL.cutD cut
  rw [List.length_map, List.map_take, List.map_drop]
/-! ### built-in functions -/
def CbE (rd : DCall) (F : α → R β) : Prop := ∀ (A : AH) (a : α) (Q : DK) X, (F a).wp (fun c => Q (enc c) A) X → rd [enc a] A Q
theorem se_cb {rd : DCall} {F : α → R β} {t : DE} {m : R α} (op : CbE rd F) (h : SE w A0 ss t m) : SE w A0 ss (eCB rd (aCons t aNil)) (m.bind F) := fun δ A Q e hw =>
  h.run e hw (fun _ _ => id) fun a hw => op A a Q _ hw
def CbV (rd : DCall) (F : α → R β) : Prop := ∀ (A : AH) (d : D) (a : α) (Q : DK) X, vw A d a → (F a).wp (fun c => Q (enc c) A) X → rd [d] A Q
theorem sv_cb {rd : DCall} {F : α → R β} {t : DE} {m : R α} (op : CbV rd F) (h : SV w A0 ss t m) : SE w A0 ss (eCB rd (aCons t aNil)) (m.bind F) := fun δ A Q e hw =>
  h.run e hw (fun _ _ => id) fun a d hd hw => op A d a Q _ hd hw
def CbO {τ : Type} (rd : DCall) (F : α → R τ) (o : τ → OT) : Prop := ∀ (A : AH) (d : D) (a : α) (Q : DK) X, vw A d a → (F a).wp (fun c => ∀ p A', New A (o c) p A' → Q (.ref p) A') X → rd [d] A Q
theorem so_cb {τ : Type} {o : τ → OT} {rd : DCall} {F : α → R τ} {t : DE} {m : R α} (op : CbO rd F o) (h : SV w A0 ss t m) : SO w A0 ss (eCB rd (aCons t aNil)) (m.bind F) o := fun δ A Q e hw =>
  h.run e hw (fun _ _ => id) fun a d hd hw => op A d a Q _ hd hw
theorem asS_asL {A : AH} {d : D} {l : List D} (h : asL A d = some l) : asS A d = some l := by
  cases d <;> first | exact h | cases h
theorem cb_len : CbV bLen (fun (l : List α) => .ok (l.length : Int)) := fun A d a Q X hd hw => by
  have h : asL A d = some (a.map enc) := hd
  have e : bLen [d] A Q = (match asS A d with
    | some l => Q (.int l.length) A
    | none => match asDic A d with
      | some kvs => Q (.int kvs.length) A
      | none => False) := by
    cases d <;> first | (cases h; done) | rfl
  rw [e, asS_asL h]
  show Q (.int ((a.map enc).length : Nat)) A
  rw [List.length_map]; exact hw
theorem cb_abs : CbE bAbs (fun (i : Int) => .ok (i.natAbs : Int)) := fun A a Q X hw => hw
theorem se_min {t u : DE} {m n : R Int} (h : SE w A0 ss t m) (h2 : SE w A0 ss u n) : SE w A0 ss (eCB bMin (aCons t (aCons u aNil))) (R.b2 m n fun i j => .ok (if j < i then j else i)) := fun δ A Q e hw =>
  h.run e hw (fun _ _ => id) fun a hw => h2.run e hw (fun _ _ => id) fun b hw => hw
theorem bList_asL {mk : DL.Mk} {x : D} {l : List D} {Q : DK} (h : asL A x = some l) (q : mk l A Q) : bList mk [x] A Q := by
  have e : bList mk [x] A Q = (match asS A x with | some l => mk l A Q | none => bList mk [x] A Q) := by
    rw [asS_asL h]; unfold bList; simp only [asS_asL h]
  rw [e, asS_asL h]; exact q
theorem cb_list : CbV (bList mkF) (fun (l : List α) => .ok l) := fun A d a Q X hd hw => bList_asL (show asL A d = some (a.map enc) from hd) hw
theorem cb_listO : CbO (bList mkO) (fun (l : List α) => .ok l) oL := fun A d a Q X hd hw => bList_asL (show asL A d = some (a.map enc) from hd) fun p hp => hw p _ (New.put hp)
/-! ### calls -/
theorem se_call1 {sp : DSp} {dvs : List D} {ρ' : Type} {F : α → R ρ'} [Enc ρ'] {t : DE} {m : R α} (hs : ∀ A d a (Q : DK) E, vw A d a → (F a).wp (fun r => Q (enc r) A) (fun c fs => E c fs A) → sp ([d] ++ dvs) A Q E) (h : SV w A0 ss t m) : SE w A0 ss (eCall w sp dvs (aCons t aNil)) (m.bind F) := fun δ A Q e hw =>
  h.run e hw (fun _ _ => id) fun a d hd hw => hs A d a Q _ hd hw
theorem se_call2 {sp : DSp} {dvs : List D} {ρ' : Type} {F : α → β → R ρ'} [Enc ρ'] {t u : DE} {m : R α} {n : R β} (hs : ∀ A x y a b (Q : DK) E, vw A x a → vw A y b → (F a b).wp (fun r => Q (enc r) A) (fun c fs => E c fs A) → sp ([x, y] ++ dvs) A Q E) (h : SV w A0 ss t m) (h2 : SV w A0 ss u n) :
    SE w A0 ss (eCall w sp dvs (aCons t (aCons u aNil))) (m.bind fun a => n.bind fun b => F a b) := fun δ A Q e hw =>
  h.run e hw (fun _ _ => id) fun a d hd hw => h2.run e hw (fun _ _ => id) fun b y hy hw => hs A d y a b Q _ hd hy hw
theorem se_call3 {sp : DSp} {dvs : List D} {ρ' : Type} {F : α → β → γ → R ρ'} [Enc ρ'] {t u v : DE} {m : R α} {n : R β} {o : R γ} (hs : ∀ A x y z a b c (Q : DK) E, vw A x a → vw A y b → vw A z c → (F a b c).wp (fun r => Q (enc r) A) (fun c fs => E c fs A) → sp ([x, y, z] ++ dvs) A Q E) (h : SV w A0 ss t m) (h2 : SV w A0 ss u n) (h3 : SV w A0 ss v o) :
    SE w A0 ss (eCall w sp dvs (aCons t (aCons u (aCons v aNil)))) (m.bind fun a => n.bind fun b => o.bind fun c => F a b c) := fun δ A Q e hw =>
  h.run e hw (fun _ _ => id) fun a d hd hw => h2.run e hw (fun _ _ => id) fun b y hy hw => h3.run e hw (fun _ _ => id) fun c z hz hw => hs A d y z a b c Q _ hd hy hz hw
/-- a new list, frozen -/
theorem se_fzO {t : DE} {m : R (List α)} (h : SO w A0 ss t m oL) : SE w A0 ss (eFz t) m := fun δ A Q e hw => by
  rw [eFz_eq]
  refine h δ A _ e (R.wp_imp hw (fun a ha p A' hn => ?_) fun _ _ h => h)
  obtain ⟨C, ⟨h1, h2⟩, h3, h4⟩ := hn.ex
  subst h2
  simp only [h1]
  have : A'.del p = A := by
    funext b
    unfold AH.del
    by_cases hb : b = p
    · rw [if_pos hb, hb, h3 p (List.mem_singleton.mpr rfl)]
    · rw [if_neg hb, h4 b (by simpa using hb)]
  rw [this]; exact ha
/-! ### isinstance -/
/-! ### what is walked -/
theorem sif_seq {t : DE} {m : R (List α)} (h : SE w A0 ss t m) : SIF w A0 ss (iSeq t) m enc := fun δ A K e hw => by
  rw [iSeq_eq]
  refine h δ A _ e (R.wp_imp hw (fun l hl => ?_) fun _ _ h => h)
  exact hl _ fun _ _ => trivial
/-- a weak list that stands in a slot -/
theorem sif_var {i : Nat} {d : D} {l : List α} (h : ss[i]? = some (.val d)) (v : vw A0 d l) : SIF w A0 ss (iSeq (eVar i)) (.ok l) enc := fun δ A K e hw => by
  rw [iSeq_eq, eVar_eq (e.get_val h)]
  have v' : asL A0 d = some (l.map enc) := v
  cases d with
  | ref a =>
    have h' : (match A0 a with | some (.lst l) => some l | _ => none) = some _ := v'
    split at h'
    · rename_i m q
      cases h'
      simp only [e.sub _ _ q]
      exact hw _ fun A' s => s _ _ q
    · cases h'
  | lst m => cases (show some m = some _ from v'); exact hw _ fun _ _ => trivial
  | rol m => cases (show some m = some _ from v'); exact hw _ fun _ _ => trivial
  | _ => cases v'
/-- the numbers lo, lo + 1, .. -/
def rngL (lo : Int) (n : Nat) : List Int := (List.range n).map fun i => lo + (i : Nat)
theorem rng_map (lo : Int) (n : Nat) : rngD lo n = (rngL lo n).map enc := by unfold rngD rngL; rw [List.map_map]; rfl
def rng1 (n : Int) : R (List Int) := if n.natAbs < 2 ^ 62 then .ok (rngL 0 n.toNat) else .bad
theorem rng1_ok {n : Int} (h : n.natAbs < 4611686018427387904) : rng1 n = .ok (rngL 0 n.toNat) := if_pos (by simpa using h)
theorem sif_rng1 {t : DE} {m : R Int} (h : SE w A0 ss t m) : SIF w A0 ss (iRng1 (aCons t aNil)) (m.bind rng1) enc := fun δ A K e hw => by
  rw [iRng1_eq, aCons_eq]
  refine h.run e hw (fun _ _ => id) fun n hw => ?_
  unfold rng1 at hw
  split at hw
  · rename_i hn
    refine ⟨hn, ?_⟩
    rw [rng_map]; exact hw _ fun _ _ => trivial
  · exact hw.elim
end
end TF


/-! TF4: comprehensions, while, try, frozen slots, a def's promise. -/
namespace TF
open PySem PySem.Spec PyProof.Rows L2 DL FR
open Enc KeyT
section
variable {α β γ σ ρ τ κ : Type} [Enc α] [Enc β] [Enc γ] [Enc ρ] [KeyT κ]
variable {w : DW} {A0 A : AH} {X : String → List (String × D) → Prop} {D0 : DEnds} {V : τ → Prop} {ss : List Sl} {δ : DSt} {Q : DK}
/-! ### comprehensions -/
def SIC (w : DW) (A0 : AH) (ss : List Sl) (it : DI) (m : R (List σ)) (f : σ → D) : Prop := ∀ (δ : DSt) (A : AH) (K : List D → (AH → Prop) → AH → Prop), Env A0 ss δ A → m.wp (fun l => ∀ g : AH → Prop, (∀ A', Sub A A' → g A') → K (l.map f) g A) (fun c fs => w c fs δ A) → it δ A K
theorem sic_v {t : DE} {m : R (List α)} (h : SV w A0 ss t m) : SIC w A0 ss (iSeq t) m enc := fun δ A K e hw => by
  rw [iSeq_eq]
  refine h δ A _ e (R.wp_imp hw (fun l hl d hd => ?_) fun _ _ h => h)
  have v' : asL A d = some (l.map enc) := hd
  cases d with
  | ref a =>
    have h' : (match A a with | some (.lst l) => some l | _ => none) = some _ := v'
    split at h'
    · rename_i m q
      cases h'
      simp only [q]
      exact hl _ fun A' s => s _ _ q
    · cases h'
  | lst m => cases (show some m = some _ from v'); exact hl _ fun _ _ => trivial
  | rol m => cases (show some m = some _ from v'); exact hl _ fun _ _ => trivial
  | _ => cases v'
def wipeS (ss : List Sl) : List Nat → List Sl
  | [] => ss
  | v :: vs => (wipeS ss vs).set v .emp
theorem Env.wipe (h : Env A0 ss δ A) : ∀ vs : List Nat, Env A0 (wipeS ss vs) (wipeD δ vs) A
  | [] => h
  | v :: vs => (Env.wipe h vs).set_any v none
def compR (c : α → R Bool) (f : α → R β) : List α → List β → R (List β)
  | [], acc => .ok acc
  | x :: l, acc => (c x).noexc.bind fun b => if b = true then (f x).noexc.bind fun y => (few acc).bind fun _ => compR c f l (acc ++ [y]) else compR c f l acc
theorem comp_run {g : DG} {tt : DT} {te : DE} {vs : List Nat} {fe : α → D} {c : α → R Bool} {f : α → R β} (J1 : α → List Sl) {gd : AH → Prop} {fin : AH → Prop} {p : Addr} (hp : A p = none) (hgd : ∀ A', Sub A A' → gd A')
    (hg : ∀ x, SG A0 g (fe x) (wipeS ss vs) (J1 x)) (ht : ∀ x, ST w0 A0 (J1 x) tt (c x)) (he : ∀ x, SE w0 A0 (J1 x) te (f x)) (e : Env A0 ss δ A) {X'} : ∀ (l : List α) (acc : List β), (compR c f l acc).wp (fun r => fin (A.put p (.lst (r.map enc)))) X' → compD p gd g tt te vs fin δ (l.map fe) (A.put p (.lst (acc.map enc)))
  | [], acc, h => ⟨hgd _ ((Sub.refl A).put hp), h⟩
  | x :: l, acc, h => by
    refine ⟨hgd _ ((Sub.refl A).put hp), hg x _ _ _ ((e.wipe vs).put hp) fun δ' e' => ?_⟩
    unfold compR at h
    rw [R.wp_bind] at h
    refine ht x δ' _ _ e' (R.wp_noexc (R.wp_imp h (fun b hb => ?_) fun _ _ h => h))
    cases b with
    | true =>
      refine ⟨fun _ => ?_, fun h => (nomatch h)⟩
      have hb' : ((f x).noexc.bind fun y => (few acc).bind fun _ => compR c f l (acc ++ [y])).wp (fun r => fin (A.put p (.lst (r.map enc)))) X' := hb
      rw [R.wp_bind] at hb'
      refine he x δ' _ _ e' (R.wp_noexc (R.wp_imp hb' (fun y hy => ?_) fun _ _ h => h))
      rw [R.wp_bind] at hy
      obtain ⟨h1, h2⟩ := few_wp hy
      refine ⟨acc.map enc, AH.put_same .., by simpa using h1, ?_⟩
      rw [AH.put_put]
      have := comp_run J1 hp hgd hg ht he e l (acc ++ [y]) h2
      rw [List.map_append] at this
      exact this
    | false => exact ⟨fun h => (nomatch h), fun _ => comp_run J1 hp hgd hg ht he e l acc hb⟩
theorem so_lc {it : DI} {g : DG} {tt : DT} {te : DE} {vs : List Nat} {mi : R (List α)} {fe : α → D} {c : α → R Bool} {f : α → R β} (J1 : α → List Sl) (hi : SIC w A0 ss it mi fe) (hg : ∀ x, SG A0 g (fe x) (wipeS ss vs) (J1 x)) (ht : ∀ x, ST w0 A0 (J1 x) tt (c x)) (he : ∀ x, SE w0 A0 (J1 x) te (f x)) :
    SO w A0 ss (eLc finO it g tt te vs) (mi.bind fun l => (compR c f l []).noexc) oL := fun δ A Q e h => by
  rw [R.wp_bind] at h
  rw [eLc_eq]
  refine hi δ A _ e (R.wp_imp h (fun l hl gd hgd p hp => ?_) fun _ _ h => h)
  refine comp_run (β := β) J1 hp hgd hg ht he e l [] (X' := fun _ _ => False) ?_
  have hl' := R.wp_noexc (E' := fun _ _ => False) hl
  refine R.wp_imp hl' (fun r hr => ?_) fun _ _ h => h
  exact ⟨⟨_, AH.put_same ..⟩, hr p _ (New.put hp)⟩
theorem st_yes : ST w A0 ss bYes (.ok true) := fun δ A Q e h => h
/-- the comprehension that only tells values and tests that never fail -/
theorem compR_ok {c : α → R Bool} {f : α → R β} (p : α → Bool) (g : α → β) : ∀ (l : List α) (acc : List β), (∀ x ∈ l, c x = .ok (p x)) → (∀ x ∈ l, p x = true → f x = .ok (g x)) → acc.length + l.length < 1000000 → compR c f l acc = .ok (acc ++ (l.filter p).map g)
  | [], acc, _, _, _ => by simp [compR]
  | x :: l, acc, hc, hf, hl => by
    simp only [List.length_cons] at hl
    unfold compR
    rw [hc x List.mem_cons_self]
    by_cases h : p x = true
    · rw [h]
      simp only [R.noexc_ok, R.ok_bind, if_true]
      rw [hf x List.mem_cons_self h, R.noexc_ok, R.ok_bind, few_ok (by omega), R.ok_bind, compR_ok p g l _ (fun y hy => hc y (List.mem_cons_of_mem _ hy)) (fun y hy => hf y (List.mem_cons_of_mem _ hy)) (by simp only [List.length_append, List.length_cons, List.length_nil]; omega)]
      simp [h]
    · have h' : p x = false := by simpa using h
      rw [h']
      simp only [R.noexc_ok, R.ok_bind]
      rw [if_neg (by decide), compR_ok p g l _ (fun y hy => hc y (List.mem_cons_of_mem _ hy)) (fun y hy => hf y (List.mem_cons_of_mem _ hy)) (by omega)]
      simp [h']
theorem compR_map {f : α → R β} (g : α → β) (l : List α) (hf : ∀ x ∈ l, f x = .ok (g x)) (hl : l.length < 1000000) : compR (fun _ => .ok true) f l [] = .ok (l.map g) := by
  rw [compR_ok (fun _ => true) g l [] (fun _ _ => rfl) (fun x hx _ => hf x hx) (by simpa using hl)]
  have e : l.filter (fun _ => true) = l := List.filter_eq_self.mpr fun _ _ => rfl
  rw [e, List.nil_append]
/-! ### while -/
def whileF (c : σ → R Bool) (b : σ → R (Fl σ ρ)) : Nat → σ → R (Fl σ ρ)
  | 0, _ => .bad
  | n + 1, s => (c s).bind fun t => if t = true then (b s).bind fun r => match r with
    | .nx s => whileF c b n s
    | .bk s => .ok (.nx s)
    | .rt r => .ok (.rt r) else .ok (.nx s)
open Classical in
noncomputable def whileR (c : σ → R Bool) (b : σ → R (Fl σ ρ)) (s : σ) : R (Fl σ ρ) := if h : ∃ n, whileF c b n s ≠ .bad then whileF c b h.choose s else .bad
omit [Enc ρ] in
theorem whileF_s {c : σ → R Bool} {b : σ → R (Fl σ ρ)} (n : Nat) (s : σ) : whileF c b (n + 1) s = (c s).bind fun t => if t = true then (b s).bind fun r => match r with
    | .nx s => whileF c b n s
    | .bk s => .ok (.nx s)
    | .rt r => .ok (.rt r) else .ok (.nx s) := rfl
omit [Enc ρ] in
theorem whileF_mono {c : σ → R Bool} {b : σ → R (Fl σ ρ)} : ∀ (n : Nat) (s : σ), whileF c b n s ≠ .bad → whileF c b (n + 1) s = whileF c b n s
  | 0, s, h => absurd rfl h
  | n + 1, s, h => by
    rw [whileF_s (n + 1), whileF_s n]
    rw [whileF_s] at h
    cases hc : c s with
    | ok t =>
      rw [hc] at h
      simp only [R.ok_bind] at h ⊢
      cases t with
      | false => rfl
      | true =>
        simp only [if_true] at h ⊢
        cases hb : b s with
        | ok r =>
          rw [hb] at h
          simp only [R.ok_bind] at h ⊢
          cases r with
          | nx s' => exact whileF_mono n s' h
          | bk s' => rfl
          | rt r => rfl
        | exc c fs => rfl
        | bad => rfl
    | exc c fs => rfl
    | bad => rfl
omit [Enc ρ] in
theorem whileF_le {c : σ → R Bool} {b : σ → R (Fl σ ρ)} {n m : Nat} {s : σ} (h : whileF c b n s ≠ .bad) (hm : n ≤ m) : whileF c b m s = whileF c b n s := by
  induction m with
  | zero => have : n = 0 := by omega
            subst this; rfl
  | succ m ih =>
    by_cases e : n = m + 1
    · subst e; rfl
    · have := ih (by omega)
      rw [← this, whileF_mono m s (by rw [this]; exact h)]
omit [Enc ρ] in
theorem whileR_of {c : σ → R Bool} {b : σ → R (Fl σ ρ)} {n : Nat} {s : σ} (h : whileF c b n s ≠ .bad) : whileR c b s = whileF c b n s := by
  have hx : ∃ n, whileF c b n s ≠ .bad := ⟨n, h⟩
  unfold whileR
  rw [dif_pos hx]
  rcases Nat.le_total n hx.choose with q | q
  · exact whileF_le h q
  · exact (whileF_le hx.choose_spec q).symm
omit [Enc ρ] in
/-- a while unrolled once -/
theorem whileR_eq (c : σ → R Bool) (b : σ → R (Fl σ ρ)) (s : σ) : whileR c b s = (c s).bind fun t => if t = true then (b s).bind fun r => match r with
    | .nx s => whileR c b s
    | .bk s => .ok (.nx s)
    | .rt r => .ok (.rt r) else .ok (.nx s) := by
  by_cases h : ∃ n, whileF c b n s ≠ .bad
  · obtain ⟨n, h⟩ := h
    rw [whileR_of h]
    cases n with
    | zero => exact absurd rfl h
    | succ n =>
      rw [whileF_s] at h ⊢
      cases hc : c s with
      | ok t =>
        rw [hc] at h
        simp only [R.ok_bind] at h ⊢
        cases t with
        | false => rfl
        | true =>
          simp only [if_true] at h ⊢
          cases hb : b s with
          | ok r =>
            rw [hb] at h
            simp only [R.ok_bind] at h ⊢
            cases r with
            | nx s' => exact (whileR_of h).symm
            | bk s' => rfl
            | rt r => rfl
          | exc c fs => rfl
          | bad => rfl
      | exc c fs => rfl
      | bad => rfl
  · have e : whileR c b s = .bad := by unfold whileR; rw [dif_neg h]
    rw [e]
    have hn : ∀ n, whileF c b (n + 1) s = .bad := fun n => Classical.byContradiction fun q => h ⟨_, q⟩
    cases hc : c s with
    | ok t =>
      simp only [R.ok_bind]
      cases t with
      | false => have := hn 0; rw [whileF_s, hc] at this; simp at this
      | true =>
        simp only [if_true]
        cases hb : b s with
        | ok r =>
          simp only [R.ok_bind]
          cases r with
          | nx s' =>
            have h2 : ¬ ∃ n, whileF c b n s' ≠ .bad := fun ⟨n, q⟩ => by
              have := hn n
              rw [whileF_s, hc] at this
              simp only [R.ok_bind, if_true, hb] at this
              exact q this
            show R.bad = whileR c b s'
            unfold whileR; rw [dif_neg h2]
          | bk s' => have := hn 0; rw [whileF_s, hc] at this; simp [hb] at this
          | rt r => have := hn 0; rw [whileF_s, hc] at this; simp [hb] at this
        | exc c fs => have := hn 0; rw [whileF_s, hc] at this; simp [hb] at this
        | bad => rfl
    | exc c fs => have := hn 0; rw [whileF_s, hc] at this; simp at this
    | bad => rfl
theorem ss_while {c : DT} {body rest : DS} {f : σ → R (Fl σ ρ)} {cm : σ → R Bool} {st0 : σ} {k : σ → R τ} {kr : ρ → R τ} (hw : WX A0 w X) (J : σ → List Sl) (bs : List Bool) (hj : mask bs ss = J st0)
    (hrt : ∀ r A', Sub A0 A' → (kr r).wp V X → D0.rt (enc r) A') (hc : ∀ st, ST w A0 (J st) c (cm st))
    (hb : ∀ (V' : Fl σ ρ → Prop) (N B : DSt → AH → Prop), (∀ st δ A, V' (.nx st) → Env A0 (J st) δ A → N δ A) → (∀ st δ A, V' (.bk st) → Env A0 (J st) δ A → B δ A) → (∀ r A', Sub A0 A' → V' (.rt r) → D0.rt (enc r) A') → ∀ st, SS A0 X { D0 with nx := N, ct := N, bk := B } V' (J st) body (f st))
    (hr : ∀ st, SS A0 X D0 V (J st) rest (k st)) : SS A0 X D0 V ss (sSeq (sWhile c body) rest) (R.flow (whileR cm f st0) k kr) := fun δ A e h => by
  unfold R.flow at h
  rw [sSeq_eq, sWhile_eq]
  by_cases hx : ∃ n, whileF cm f n st0 ≠ .bad
  case neg =>
    unfold whileR at h
    rw [dif_neg hx] at h
    exact h.elim
  obtain ⟨n, hx⟩ := hx
  rw [whileR_of hx] at h
  refine ⟨n, ?_⟩
  have key : ∀ (n : Nat) (st : σ) (δ : DSt) (A : AH), Env A0 (J st) δ A → ((whileF cm f n st).bind fun r => match r with
      | .nx s => k s
      | .bk s => k s
      | .rt r => kr r).wp V X → whileN c body { D0 with nx := rest D0 } n δ A := by
    intro n
    induction n with
    | zero => intro st δ A e h; exact h.elim
    | succ n ih =>
      intro st δ A e h
      have h2 := h
      rw [whileF_s] at h2
      rw [R.bind_assoc, R.wp_bind] at h2
      unfold DL.whileN
      refine hc st δ A _ e (R.wp_imp h2 (fun t ht => ?_) fun c fs => hw c fs δ A e.sub)
      cases t with
      | false =>
        refine ⟨fun h => (nomatch h), fun _ => ?_⟩
        simp only [Bool.false_eq_true, if_false, R.ok_bind] at ht
        exact hr st δ A e ht
      | true =>
        refine ⟨fun _ => ?_, fun h => (nomatch h)⟩
        simp only [if_true] at ht
        rw [R.bind_assoc, R.wp_bind] at ht
        refine hb (fun r => match r with
          | .nx s => ((whileF cm f n s).bind fun r => match r with
              | .nx s => k s
              | .bk s => k s
              | .rt r => kr r).wp V X
          | .bk s => (k s).wp V X
          | .rt r => (kr r).wp V X) _ _ (fun st δ A hv e => ih st δ A e hv) (fun st δ A hv e => hr st δ A e hv) (fun r A' s hv => hrt r A' s hv) st δ A e (R.wp_imp ht (fun r hr => ?_) fun _ _ h => h)
        cases r <;> exact hr
  exact key n st0 δ A (hj ▸ e.mask bs) h
/-! ### try -/
def tryR (m : R σ) (sub : String → Option Bool) (h : String → List (String × D) → R σ) : R σ := match m with
  | .ok a => .ok a
  | .exc c fs => (match sub c with
    | some true => h c fs
    | some false => .exc c fs
    | none => .bad)
  | .bad => .bad
theorem ss_tryAs {body : DW → DS} {suite : Addr → String → List (String × D) → DS} {rest : DS} {sub : String → Option Bool} {i : Nat} {mb : R σ} {h : String → List (String × D) → R σ} {k : σ → R τ} (hw : WX A0 w X) (J : σ → List Sl) (J0 : List Sl) (bs : List Bool) (hj : mask bs ss = J0)
    (hJ : ∀ st δ A, Env A0 (J st) δ A → Env A0 (J st) (δ.set i none) A)
    (hb : ∀ (V' : σ → Prop) (N : DSt → AH → Prop) (w' : DW) (X' : String → List (String × D) → Prop), (∀ st δ A, V' st → Env A0 (J st) δ A → N δ A) → WE A0 w' X' J0 → SS A0 X' { D0 with nx := N } V' ss (body w') mb)
    (hh : ∀ (V' : σ → Prop) (N B C : DSt → AH → Prop), (∀ st δ A, V' st → Env A0 (J st) δ A → N δ A) → ∀ a c fs, SS A0 X { D0 with nx := N, bk := B, ct := C } V' (J0.set i (.val (.ref a))) (suite a c fs) (h c fs))
    (hr : ∀ st, SS A0 X D0 V (J st) rest (k st)) : SS A0 X D0 V ss (sSeq (sTryAs w sub i body suite) rest) ((tryR mb sub h).bind k) := fun δ A e hm => by
  rw [R.wp_bind] at hm
  rw [sSeq_eq, sTryAs_eq]
  refine hb (fun st => (k st).wp V X) (rest D0) _ (fun c fs => match sub c with
    | some true => (h c fs).wp (fun st => (k st).wp V X) X
    | some false => X c fs
    | none => False) (fun st δ A hv e => hr st δ A e hv) (fun c fs δ A e hx => ?_) δ A e ?_
  · dsimp only at hx ⊢
    cases hs : sub c with
    | none => rw [hs] at hx; exact hx
    | some b =>
      rw [hs] at hx
      cases b with
      | false => exact hw c fs δ A e.sub hx
      | true => exact fun a => hh (fun st => (k st).wp V X) (fun δ A => rest D0 (δ.set i none) A) _ _ (fun st δ A hv e => hr st _ _ (hJ st δ A e) hv) a c fs _ _ (e.set_val i _) hx
  · cases mb with
    | ok a => exact hm
    | exc c fs =>
      show (match sub c with
        | some true => (h c fs).wp (fun st => (k st).wp V X) X
        | some false => X c fs
        | none => False)
      have hm' : (match sub c with
        | some true => h c fs
        | some false => .exc c fs
        | none => .bad : R σ).wp (fun a => (k a).wp V X) X := hm
      cases hs : sub c with
      | none => rw [hs] at hm'; exact hm'
      | some b => rw [hs] at hm'; cases b <;> exact hm'
    | bad => exact hm.elim
/-- .. where what stands is as J0 says, after slots have changed -/
theorem we_try {J0 : List Sl} {w' : DW} {X'} (bs : List Bool) (hj : mask bs ss = J0) (h : WE A0 w' X' J0) : WE A0 w' X' ss := fun c fs δ A e => h c fs δ A (hj ▸ e.mask bs)
/-- isinstance(e, C), by a table -/
def isE (tb : List (String × Bool)) (c : String) (fs : List (String × D)) : R Bool := if fs.isEmpty = true then (match lookS c tb with
  | some b => .ok b
  | none => .bad) else .bad
theorem se_isE {i : Nat} {a : Addr} {c : String} {fs : List (String × D)} {tb : List (String × Bool)} (h : ss[i]? = some (.val (.ref a))) : SE w A0 ss (eIsE a c fs tb (eVar i)) (isE tb c fs) := fun δ A Q e hw => by
  unfold eIsE
  rw [eVar_eq (e.get_val h)]
  unfold isE at hw
  split at hw
  · rename_i hf
    refine ⟨rfl, by simpa using hf, ?_⟩
    split at hw
    · rename_i b hb; first | exact hw | (rw [hb]; exact hw)
    · exact hw.elim
  · exact hw.elim
end
/-! ### a slot is frozen -/
section
variable {K : PySem.W.Frag} {Z Z' Z0 : Hp} {X : Cx}
/-- from here on what stands in slot i changes no more -/
def sFz (i : Nat) (t : DS) : DS := fun D δ A => match δ[i]? with
  | some (some (.ref p)) => (match A p with
    | some (.lst l) => t D (δ.set i (some (.lst l))) (A.del p)
    | some (.dic kvs) => t D (δ.set i (some (.dic (kvs.map (·.1)) (kvs.map (·.2))))) (A.del p)
    | some (.obj c fs) => t D (δ.set i (some (.obj c (fs.map (·.1)) (fs.map (·.2))))) (A.del p)
    | _ => False)
  | _ => False
theorem rs_left {δ : DSt} {σ : L2.St} (r : RS K Z δ σ) {i : Nat} {d : D} {v : V} (h : σ[i]? = some (some v)) (q : RV K Z d v) : RS K Z (δ.set i (some d)) σ := by
  have := r.set i (a := some d) (b := some v) q
  have e : σ.set i (some v) = σ := by
    apply List.ext_getElem?
    intro j
    rw [List.getElem?_set]
    split
    · rename_i hj; subst hj
      split
      · exact h.symm
      · rename_i hl; exact (List.getElem?_eq_none (by omega)).symm
    · rfl
  rw [e] at this; exact this
theorem qss_fz {i : Nat} {rest : List Stmt} {t : DS} (h : QSs X Z0 rest t) : QSs X Z0 rest (sFz i t) := PSs.imp h fun D σ H ⟨Z, δ, A, DD, z, rs, ra, t, re⟩ => by
  unfold sFz at t
  split at t
  · rename_i p hp
    obtain ⟨v, h1, h2⟩ := rs.get hp
    have ev := rv_ref h2
    subst ev
    split at t
    · rename_i l q
      obtain ⟨Z2, s2, r2, q2⟩ := fz_ok ra q
      exact ⟨Z2, _, _, DD, z.trans s2, rs_left (rs.mono s2) h1 q2, r2, t, re.mono s2⟩
    · rename_i l q
      obtain ⟨Z2, s2, r2, q2⟩ := fz_ok ra q
      exact ⟨Z2, _, _, DD, z.trans s2, rs_left (rs.mono s2) h1 q2, r2, t, re.mono s2⟩
    · rename_i l q
      obtain ⟨Z2, s2, r2, q2⟩ := fz_ok ra q
      exact ⟨Z2, _, _, DD, z.trans s2, rs_left (rs.mono s2) h1 q2, r2, t, re.mono s2⟩
    · exact t.elim
  · exact t.elim
end
section
variable {α κ τ : Type} [Enc α] [KeyT κ] {A0 : AH} {X : String → List (String × D) → Prop} {D0 : DEnds} {V : τ → Prop} {ss : List Sl}
theorem ss_fz {i : Nat} {l : List α} {rest : DS} {m : R τ} (hi : ss[i]? = some (.own (oL l))) (hr : SS A0 X D0 V (ss.set i (.val (enc l))) rest m) : SS A0 X D0 V ss (sFz i rest) m := fun δ A e h => by
  obtain ⟨p, h1, h2, h3⟩ := e.del_own hi
  unfold sFz
  simp only [h1, h2]
  have := h3.set_val i (enc l)
  rw [List.set_set] at this
  exact hr _ _ this h
theorem ss_fzD {i : Nat} {l : Dic κ α} {rest : DS} {m : R τ} (hi : ss[i]? = some (.own (oD l))) (hr : SS A0 X D0 V (ss.set i (.val (enc l))) rest m) : SS A0 X D0 V ss (sFz i rest) m := fun δ A e h => by
  obtain ⟨p, h1, h2, h3⟩ := e.del_own hi
  unfold sFz
  simp only [h1, h2]
  have := h3.set_val i (enc l)
  rw [List.set_set] at this
  exact hr _ _ this h
end
/-! ### a def keeps its promise -/
def dropE (E : DX) : DX := fun c fs A => ∃ A2, Sub A2 A ∧ E c fs A2
theorem fn_okX {K : PySem.W.Frag} {P : Program} {w : World} {mg : Str → Option Value} {base : Heap} {x qual : Str} {params : Arguments} {body : List Stmt} {scope : Scope} {dvs : List V} {kws : List (Str × V)} {f : Addr} {fd : FuncData} {N ps : List Str} {k : Nat} {sp : DSp} {t : DW → DS}
    (F : FunD K x qual params body scope dvs kws f fd) (S : FnScope N ps scope) (len : ∀ ds A Q E, sp ds A Q E → ds.length = ps.length)
    (hder : ∀ (cdv : Value) (A : Around) (outer : List PySem.Env) (s : Shared) (H : Hp) (E : XK) (Z0 : Hp) (wd : DW), Room k (A.deeper (envOfC qual scope s.heap.objs.size f cdv)) → Takes (cxOf (CX P w) P w K mg base N qual scope f cdv A outer s H E) (liftW K Z0 wd) → QSs (cxOf (CX P w) P w K mg base N qual scope f cdv A outer s H E) Z0 body (t wd))
    (hrd : ∀ ds A Q E, sp ds A Q E → t (fun c fs _ A => dropE E c fs A) { nx := fun _ A => dropQ Q .non A, rt := dropQ Q } (startD N.length ds) A) : FnOk P w K mg base (CX P w) (k + 1) f fd ps (liftSp K sp) := by
  refine F.ok S (fun vs H Q E ⟨Z, ds, A, Kt, Ex, r, ra, h, _, _⟩ => by rw [r.len]; exact len ds A Kt Ex h) fun cdv A0 outer s H vs Q E hr ⟨Z, ds, A, Kt, Ex, r, ra, h, hq, he⟩ => ?_
  have tk : Takes (cxOf (CX P w) P w K mg base N qual scope f cdv A0 outer s H E) (liftW K Z fun c fs _ A => dropE Ex c fs A) :=
    Takes.imp (takes_of rfl rfl rfl rfl) fun cv dd σ H' ⟨Z', δ, A', c, fs, z, rs, ra', rx, A2, sb, q⟩ => he Z' c fs A2 cv dd H' z (ra'.same sb) rx q
  refine ⟨_, hder cdv A0 outer s H E Z (fun c fs _ A => dropE Ex c fs A) hr tk, Z, startD N.length ds, A, _, Same.refl Z, ?_, ra, hrd ds A Kt Ex h, ?_⟩
  · unfold startD L2.start
    rw [r.len]
    exact start_rs _ r
  · exact ⟨fun Z' δ A' σ H' s rs ra' ⟨A2, sb, q⟩ => hq Z' .non A2 .non H' s (ra'.same sb) mk_non q, fun Z' d A' v H' s ra' rv ⟨A2, sb, q⟩ => hq Z' d A2 v H' s (ra'.same sb) rv q, fun _ _ _ _ _ _ _ _ q => q.elim, fun _ _ _ _ _ _ _ _ q => q.elim⟩
end TF


/-! TF5: more of expressions, statements. -/
namespace TF
open PySem PySem.Spec PyProof.Rows L2 DL FR
open Enc KeyT
section
variable {α β γ δ' ε ζ η σ ρ τ κ : Type} [Enc α] [Enc β] [Enc γ] [Enc δ'] [Enc ε] [Enc ζ] [Enc η] [KeyT κ]
variable {w : DW} {A0 A : AH} {X : String → List (String × D) → Prop} {D0 : DEnds} {V : τ → Prop} {ss : List Sl} {δ : DSt} {Q : DK}
theorem se_powN (a b : Int) (n : Nat) (hb : b = n) (h : n ≤ 1000000 ∧ a.natAbs < 2 ^ 64) : SE w A0 ss (eBin opPow (eC (.int a)) (eC (.int b))) (.ok (a ^ n)) := fun δ A Q e hw => by
  subst hb
  exact ⟨⟨Int.natCast_nonneg n, by omega, h.2⟩, hw⟩
theorem se_modE {t u : DE} {m : R Int} (k : Int) (hk : 0 < k) (h : SE w A0 ss t m) (hu : SE w A0 ss u (.ok k)) : SE w A0 ss (eBin opMod t u) (m.map fun a => a % k) := fun δ A Q e hw =>
  h.run e hw (fun _ _ => id) fun a hw => hu δ A _ e ⟨by omega, by rw [Int.fmod_eq_emod_of_nonneg _ (by omega)]; exact hw⟩
theorem op_eqI : OpE (opEq false) (fun (i j : Int) => .ok (decide (i = j))) := fun A a b Q X hw => by
  refine ⟨dt_int, dt_int, ?_⟩
  show Q (.bl (xor false (deq (.int a) (.int b)))) A
  rw [deq_int, Bool.false_xor, Bool.beq_eq_decide_eq] <;> exact hw
theorem op_neI : OpE (opEq true) (fun (i j : Int) => .ok (!decide (i = j))) := fun A a b Q X hw => by
  refine ⟨dt_int, dt_int, ?_⟩
  show Q (.bl (xor true (deq (.int a) (.int b)))) A
  rw [deq_int, Bool.true_xor, Bool.beq_eq_decide_eq] <;> exact hw
theorem se_isN0 [NN α] {t : DE} {m : R (Option α)} (h : SE w A0 ss t m) : SE w A0 ss (eBin (opIs false) t (eC .non)) (m.map fun o => o.isNone) := fun δ A Q e hw => se_isN false h δ A Q e (by simpa using hw)
theorem se_isN1 [NN α] {t : DE} {m : R (Option α)} (h : SE w A0 ss t m) : SE w A0 ss (eBin (opIs true) t (eC .non)) (m.map fun o => !o.isNone) := fun δ A Q e hw => se_isN true h δ A Q e (by simpa using hw)
theorem se_inD0 [Enc κ] [KeyD κ] [DecidableEq κ] {t u : DE} {m : R κ} {n : R (Dic κ α)} (h : SE w A0 ss t m) (h2 : SV w A0 ss u n) : SE w A0 ss (eBin (opIn false) t u) (R.b2 m n fun k d => .ok (d.get? k).isSome) := fun δ A Q e hw => se_inD false h h2 δ A Q e (by simpa using hw)
theorem se_inD1 [Enc κ] [KeyD κ] [DecidableEq κ] {t u : DE} {m : R κ} {n : R (Dic κ α)} (h : SE w A0 ss t m) (h2 : SV w A0 ss u n) : SE w A0 ss (eBin (opIn true) t u) (R.b2 m n fun k d => .ok (!(d.get? k).isSome)) := fun δ A Q e hw => se_inD true h h2 δ A Q e (by simpa using hw)
theorem se_tup0 : SE w A0 ss (eTup aNil) (.ok (D.tup [])) := fun δ A Q e hw => ⟨by show (0 : Nat) < _; decide, hw⟩
/-! calls that tell a list of the asker's own -/
theorem env_none {i : Nat} {J : List Sl} (h : J[i]? = some .emp) (e : Env A0 J δ A) : Env A0 J (δ.set i none) A := by
  have := e.set_any i none
  have ej : J.set i .emp = J := by
    apply List.ext_getElem?
    intro j
    rw [List.getElem?_set]
    split
    · rename_i hj; subst hj
      split
      · exact h.symm
      · rename_i hl; exact (List.getElem?_eq_none (by omega)).symm
    · rfl
  rw [ej] at this; exact this
/-! methods of the text's objects -/
def MethOk (tb : List (String × DSp)) (m : String) (d : D) (A : AH) (ds : List D) (Q : DK) (E : DX) : Prop := match asObj A d with
  | some (c, fs) => lookS m fs = none ∧ (match lookS c tb with
    | some sp => sp (d :: ds) A Q E
    | none => False)
  | none => False
theorem so_meth0 {name : String} {tb : List (String × DSp)} {F : α → R σ} {oo : σ → OT} {o : DE} {m : R α} (hs : ∀ A x a (Q : DK) E, vw A x a → (F a).wp (fun r => ∀ p A', New A (oo r) p A' → Q (.ref p) A') (fun c fs => E c fs A) → MethOk tb name x A [] Q E) (h : SV w A0 ss o m) : SO w A0 ss (eMth w name tb o aNil) (m.bind F) oo := fun δ A Q e hw => by
  rw [eMth_eq]
  refine h.run e hw (fun _ _ => id) fun a d hd hw => ?_
  exact hs A d a Q (fun c fs A => w c fs δ A) hd hw
/-! objects of ties -/
structure TieO where
  t : TieV
instance : Enc TieO := { enc := fun o => tieO o.t }
end
instance : NN TieO := ⟨fun o => by show (tieO o.t).isNon = false; unfold tieO; rfl⟩
/-! ### what the program's first functions tell, typed -/
noncomputable section
open Classical
def F_divisor (a b : Int) : R Int := .ok (Int.gcd a b)
def F_plus (q r : Rat) : R Rat := if Sm q ∧ Sm r then .ok (q + r) else .bad
def F_minus (q r : Rat) : R Rat := if Sm q ∧ Sm r then .ok (q - r) else .bad
def F_times (q r : Rat) : R Rat := if Sm q ∧ Sm r then .ok (q * r) else .bad
def F_over (q r : Rat) : R Rat := if Sm q ∧ Sm r then (if r = 0 then .exc "NoNumber" [] else .ok (q / r)) else .bad
def F_under (q r : Rat) : R Bool := if Sm q ∧ Sm r then .ok (decide (q < r)) else .bad
def noHeap : AH := fun _ => none
def F_tie_of (d : D) : R TieO := if TieIn noHeap d then (match deTie d with
  | some t => .ok ⟨t⟩
  | none => .exc "NoTie" []) else .bad
def F_Tie_plain (o : TieO) : R TieV := .ok o.t
/-- a tie holds for a size -/
def tieHolds (t : TieV) (q : Rat) : Bool := (match t.low with | some l => decide (l ≤ q) | none => true) && (match t.high with | some h => decide (q ≤ h) | none => true)
/-- the steps of a tie -/
def tieSteps (t : TieV) : List (T4 Str Str Rat Bool) := (match t.high with | some h => [⟨t.start, t.fin, h, true⟩] | none => []) ++ (match t.low with | some l => [⟨t.fin, t.start, -l, false⟩] | none => [])
def F_Tie_steps (o : TieO) : R (List (T4 Str Str Rat Bool)) := if o.t.Sm then .ok (tieSteps o.t) else .bad
end
end TF


/-! TF6: the first functions' promises, typed. -/
namespace TF
open PySem PySem.Spec PyProof.Rows L2 DL FR
open Enc KeyT
section
variable {α β γ δ' ε ζ η σ ρ τ κ : Type} [Enc α] [Enc β] [Enc γ] [Enc δ'] [Enc ε] [Enc ζ] [Enc η] [KeyT κ]
variable {w : DW} {A0 A : AH} {X : String → List (String × D) → Prop} {D0 : DEnds} {V : τ → Prop} {ss : List Sl} {δ : DSt} {Q : DK}
theorem rtO {A1 A' : AH} {a : List α} {p : Addr} (s : Sub A A1) (hn : New A1 (oL a) p A') (h : ∀ p A', New A (oL a) p A' → Q (.ref p) A') : dropQ Q (.ref p) A' := by
  obtain ⟨C, ⟨h1, h2⟩, h3, h4⟩ := hn.ex
  subst h2
  have hp : A p = none := sub_none s (h3 p (List.mem_singleton.mpr rfl))
  refine ⟨A.put p (.lst (a.map enc)), fun b o e => ?_, h p _ (New.put hp)⟩
  by_cases hb : b = p
  · subst hb; rw [AH.put_same] at e; cases e; exact h1
  · rw [AH.put_ne A _ hb] at e
    rw [h4 b (by simpa using hb)]; exact s b o e
theorem rtW {A' : AH} {a : List α} {p : Addr} (s : Sub A A') (h1 : A' p = some (.lst (a.map enc))) (h2 : A p = none) (h : ∀ p A', New A (oL a) p A' → Q (.ref p) A') : dropQ Q (.ref p) A' := by
  refine ⟨A.put p (.lst (a.map enc)), fun b o e => ?_, h p _ (New.put h2)⟩
  by_cases hb : b = p
  · subst hb; rw [AH.put_same] at e; cases e; exact h1
  · rw [AH.put_ne A _ hb] at e; exact s b o e
/-! texts' signs -/
theorem opAdd_tt {mk : DL.Mk} {l m : List D} {Q : DK} (hf : Few (l.length + m.length)) (h : Q (.tup (l ++ m)) A) : opAdd mk (.tup l) (.tup m) A Q := ⟨hf, h⟩
theorem se_listT {t : DE} {m : R α} (f : α → D) (hf : ∀ a, ∃ l, (enc a : D) = .tup l ∧ f a = .lst l) (h : SE w A0 ss t m) : SE w A0 ss (eCB (bList mkF) (aCons t aNil)) (m.map f) := fun δ A Q e hw =>
  h.run e hw (fun _ _ => id) fun a hw => by
    obtain ⟨l, q1, q2⟩ := hf a
    show bList mkF [enc a] A Q
    rw [q1, bList_tup]
    have hw' : Q (f a) A := hw
    rw [q2] at hw'; exact hw'
/-! == of three, of four -/
section
variable [DecidableEq α] [EqD α]
end
/-! a list of its own, walked -/
theorem set_same {i : Nat} {x : Option D} (h : δ[i]? = some x) : δ.set i x = δ := by
  apply List.ext_getElem?
  intro j
  rw [List.getElem?_set]
  split
  · rename_i hj; subst hj
    split
    · exact h.symm
    · rename_i hl; exact (List.getElem?_eq_none (by omega)).symm
  · rfl
/-! joined texts -/
/-! objects' classes -/
def isCls (c : String) (o : TieO) : R Bool := .ok (decide (o.t.cls = c))
end
instance : DecidableEq TieV := fun a b => by
  obtain ⟨a1, a2, a3, a4, a5⟩ := a
  obtain ⟨b1, b2, b3, b4, b5⟩ := b
  exact decidable_of_iff (a1 = b1 ∧ a2 = b2 ∧ a3 = b3 ∧ a4 = b4 ∧ a5 = b5) (by simp)
instance : EqD TieV where
  good t := EqD.good t.name ∧ EqD.good t.start ∧ EqD.good t.fin
  dep := 3
  dt_enc t n h hn := dt_t (by omega) (by
    simp only [dts_cons, dts_nil, Bool.and_true, Bool.and_eq_true]
    exact ⟨EqD.dt_enc t.name _ h.1 (by show 0 ≤ _; omega), EqD.dt_enc t.start _ h.2.1 (by show 0 ≤ _; omega), EqD.dt_enc t.fin _ h.2.2 (by show 0 ≤ _; omega), EqD.dt_enc t.low _ (fun _ _ => trivial) (by show 1 ≤ _; omega), EqD.dt_enc t.high _ (fun _ _ => trivial) (by show 1 ≤ _; omega)⟩)
  deq_enc a b h k := by
    show deq (.tup [enc a.name, enc a.start, enc a.fin, enc a.low, enc a.high]) (.tup [enc b.name, enc b.start, enc b.fin, enc b.low, enc b.high]) = _
    rw [deq_tup, deqs_cons, deqs_cons, deqs_cons, deqs_cons, deqs_cons, deqs_nil, EqD.deq_enc _ _ h.1 k.1, EqD.deq_enc _ _ h.2.1 k.2.1, EqD.deq_enc _ _ h.2.2 k.2.2, EqD.deq_enc a.low b.low (fun _ _ => trivial) (fun _ _ => trivial), EqD.deq_enc a.high b.high (fun _ _ => trivial) (fun _ _ => trivial), Bool.and_true]
    cases a; cases b; simp
  vw_dt A d a n h q := vw_dtNR A d a n h q
  vw_deq A x y a b h k := vw_deqNR A x y a b h k
end TF


/-! TF7: things asked for their kinds; texts within texts, parted, read as numbers. -/
namespace TF
open PySem PySem.Spec PyProof.Rows L2 DL FR
open Enc
section
variable {α β γ : Type} [Enc α] [Enc β] [Enc γ] {w : DW} {A0 : AH} {ss : List Sl}
def deStr : D → R Str
  | .str z => .ok z
  | _ => .bad
@[simp] theorem deStr_str {z : Str} : deStr (.str z) = .ok z := rfl
theorem se_deStr {t : DE} {m : R D} (h : SE w A0 ss t m) : SE w A0 ss t (m.bind deStr) := se_coM deStr (fun a b e => by cases a <;> cases e; rfl) (fun a c fs e => by cases a <;> cases e) h
def isiD (T : String) (d : D) : R Bool := match tyD noHeap d with
  | some s => .ok (instB s T)
  | none => .bad
theorem tyD_no {d : D} {s : String} (h : tyD noHeap d = some s) (A : AH) : tyD A d = some s := by
  cases d with
  | ref a => exact nomatch h
  | _ => exact h
theorem se_isiD {t : DE} {m : R D} {T : String} (h : SE w A0 ss t m) : SE w A0 ss (eIsi T t) (m.bind (isiD T)) := fun δ A Q e hw => by
  rw [eIsi_eq]
  refine h.run e hw (fun _ _ => id) fun a hw => ?_
  unfold isiD at hw
  split at hw
  · rename_i s q
    show match tyD A a with | some s => Q (.bl (instB s T)) A | none => False
    rw [tyD_no q A]; exact hw
  · exact hw.elim
end
end TF


/-! TF8: an object of one's own: its fields read, set, its lists and dicts changed; dict.get; the first item taken out. -/
namespace TF
open PySem PySem.Spec PyProof.Rows L2 DL FR
open Enc
/-- a field told anew -/
def putF' (f : String) (x : D ⊕ AO) : List (String × (D ⊕ AO)) → List (String × (D ⊕ AO))
  | [] => [(f, x)]
  | (g, y) :: r => if g = f then (g, x) :: r else (g, y) :: putF' f x r
theorem OwnF.own {A : AH} {f : String} {o : AO} : ∀ {fs : List (String × (D ⊕ AO))} {r : List (String × D)} {B : List Addr}, OwnF A fs r B → lookS f fs = some (.inr o) → ∃ q, lookS f r = some (.ref q) ∧ A q = some o ∧ q ∈ B ∧ ∀ o', OwnF (A.put q o') (putF' f (.inr o') fs) r B
  | [], _, _, _, h => by simp at h
  | (g, .inl d) :: fs, r, B, ⟨r', e, h⟩, hf => by
    subst e
    rw [lookS_cons] at hf
    by_cases hg : g = f
    · rw [if_pos hg] at hf; cases hf
    · rw [if_neg hg] at hf
      obtain ⟨q, h1, h2, h3, h4⟩ := h.own hf
      refine ⟨q, by rw [lookS_cons, if_neg hg]; exact h1, h2, h3, fun o' => ?_⟩
      unfold putF'
      rw [if_neg hg]
      exact ⟨r', rfl, h4 o'⟩
  | (g, .inr o1) :: fs, r, B, ⟨r', x, B', e1, e2, e3, e4, h⟩, hf => by
    subst e1; subst e4
    rw [lookS_cons] at hf
    by_cases hg : g = f
    · rw [if_pos hg] at hf
      cases hf
      refine ⟨x, by rw [lookS_cons, if_pos hg], e2, List.mem_cons_self, fun o' => ?_⟩
      unfold putF'
      rw [if_pos hg]
      exact ⟨r', x, B', rfl, AH.put_same .., e3, rfl, h.frame fun a ha => AH.put_ne A o' fun e => e3 (e ▸ ha)⟩
    · rw [if_neg hg] at hf
      obtain ⟨q, h1, h2, h3, h4⟩ := h.own hf
      refine ⟨q, by rw [lookS_cons, if_neg hg]; exact h1, h2, List.mem_cons_of_mem _ h3, fun o' => ?_⟩
      unfold putF'
      rw [if_neg hg]
      have hne : x ≠ q := fun e => e3 (by rw [e]; exact h3)
      exact ⟨r', x, B', rfl, by rw [AH.put_ne A o' hne]; exact e2, e3, rfl, h4 o'⟩
theorem OwnF.val {A : AH} {f : String} {d : D} : ∀ {fs : List (String × (D ⊕ AO))} {r : List (String × D)} {B : List Addr}, OwnF A fs r B → lookS f fs = some (.inl d) → lookS f r = some d
  | [], _, _, _, h => by simp at h
  | (g, .inl e) :: fs, r, B, ⟨r', e', h⟩, hf => by
    subst e'
    rw [lookS_cons] at hf ⊢
    by_cases hg : g = f
    · rw [if_pos hg] at hf ⊢; cases hf; rfl
    · rw [if_neg hg] at hf ⊢; exact h.val hf
  | (g, .inr o1) :: fs, r, B, ⟨r', x, B', e1, e2, e3, e4, h⟩, hf => by
    subst e1
    rw [lookS_cons] at hf ⊢
    by_cases hg : g = f
    · rw [if_pos hg] at hf; cases hf
    · rw [if_neg hg] at hf ⊢; exact h.val hf
theorem OwnF.len {A : AH} : ∀ {fs : List (String × (D ⊕ AO))} {r : List (String × D)} {B : List Addr}, OwnF A fs r B → r.length = fs.length
  | [], _, _, ⟨e, _⟩ => by subst e; rfl
  | (_, .inl _) :: _, _, _, ⟨r', e, h⟩ => by subst e; simp [h.len]
  | (_, .inr _) :: _, _, _, ⟨r', x, B', e, _, _, _, h⟩ => by subst e; simp [h.len]
/-- a field set to a value -/
theorem OwnF.set {A : AH} {f : String} {d : D} : ∀ {fs : List (String × (D ⊕ AO))} {r : List (String × D)} {B : List Addr}, OwnF A fs r B → ∃ B', (∀ a ∈ B', a ∈ B) ∧ OwnF A (putF' f (.inl d) fs) (putD f d r) B'
  | [], _, _, ⟨e, e2⟩ => by subst e; subst e2; exact ⟨[], fun _ h => h, [], rfl, rfl, rfl⟩
  | (g, .inl y) :: fs, r, B, ⟨r', e, h⟩ => by
    subst e
    unfold putF'
    rw [putD_cons]
    by_cases hg : g = f
    · rw [if_pos hg, if_pos hg]; exact ⟨B, fun _ h => h, r', rfl, h⟩
    · rw [if_neg hg, if_neg hg]
      obtain ⟨B', h1, h2⟩ := h.set (f := f) (d := d)
      exact ⟨B', h1, _, rfl, h2⟩
  | (g, .inr o1) :: fs, r, B, ⟨r', x, B', e1, e2, e3, e4, h⟩ => by
    subst e1; subst e4
    unfold putF'
    rw [putD_cons]
    by_cases hg : g = f
    · rw [if_pos hg, if_pos hg]; exact ⟨B', fun _ h => List.mem_cons_of_mem _ h, r', rfl, h⟩
    · rw [if_neg hg, if_neg hg]
      obtain ⟨B2, h1, h2⟩ := h.set (f := f) (d := d)
      exact ⟨x :: B2, fun a ha => by rcases List.mem_cons.mp ha with rfl | ha; exact List.mem_cons_self; exact List.mem_cons_of_mem _ (h1 a ha), _, x, B2, rfl, e2, fun hh => e3 (h1 x hh), rfl, h2⟩
/-- a field set to a new own list or dict -/
theorem OwnF.setO {A : AH} {f : String} {o : AO} {q : Addr} (hq : A q = some o) : ∀ {fs : List (String × (D ⊕ AO))} {r : List (String × D)} {B : List Addr}, OwnF A fs r B → q ∉ B → ∃ B', (∀ a ∈ B', a = q ∨ a ∈ B) ∧ OwnF A (putF' f (.inr o) fs) (putD f (.ref q) r) B'
  | [], _, _, ⟨e, e2⟩, _ => by subst e; subst e2; exact ⟨[q], fun a h => .inl (List.mem_singleton.mp h), [], q, [], rfl, hq, fun h => (nomatch h), rfl, rfl, rfl⟩
  | (g, .inl y) :: fs, r, B, ⟨r', e, h⟩, hn => by
    subst e
    unfold putF'
    rw [putD_cons]
    by_cases hg : g = f
    · rw [if_pos hg, if_pos hg]
      exact ⟨q :: B, fun a ha => List.mem_cons.mp ha, r', q, B, rfl, hq, hn, rfl, h⟩
    · rw [if_neg hg, if_neg hg]
      obtain ⟨B', h1, h2⟩ := h.setO (f := f) hq hn
      exact ⟨B', h1, _, rfl, h2⟩
  | (g, .inr o1) :: fs, r, B, ⟨r', x, B', e1, e2, e3, e4, h⟩, hn => by
    subst e1; subst e4
    have hn' : q ∉ B' := fun h => hn (List.mem_cons_of_mem _ h)
    unfold putF'
    rw [putD_cons]
    by_cases hg : g = f
    · rw [if_pos hg, if_pos hg]
      exact ⟨q :: B', fun a ha => (List.mem_cons.mp ha).imp id (List.mem_cons_of_mem _), r', q, B', rfl, hq, hn', rfl, h⟩
    · rw [if_neg hg, if_neg hg]
      obtain ⟨B2, h1, h2⟩ := h.setO (f := f) hq hn'
      refine ⟨x :: B2, fun a ha => ?_, _, x, B2, rfl, e2, fun hh => ?_, rfl, h2⟩
      · rcases List.mem_cons.mp ha with rfl | ha
        · exact .inr List.mem_cons_self
        · exact (h1 a ha).imp id (List.mem_cons_of_mem _)
      · rcases h1 x hh with e | e
        · exact hn (e ▸ List.mem_cons_self)
        · exact e3 e
/-- a slot's own object changed within, new parts taken from what was free -/
theorem Env.change {A0 A : AH} {ss : List Sl} {δ : DSt} {i : Nat} {t : OT} (h : Env A0 ss δ A) (e : ss[i]? = some (.own t)) : ∃ p C, δ[i]? = some (some (.ref p)) ∧ Own A t p C ∧
    ∀ A' t' C', Own A' t' p C' → (∀ a ∈ C', a ∈ C ∨ A a = none) → (∀ a, a ∉ C → A a ≠ none → A' a = A a) → Env A0 (ss.set i (.own t')) δ A' := by
  obtain ⟨s, B, h⟩ := h
  have th := h.there
  obtain ⟨p, C, B', e1, e2, e3, e4, e5, e6, e7⟩ := h.split_own e
  refine ⟨p, C, e1, e2, fun A' t' C' o hC hA => ⟨fun a u q => ?_, ?_⟩⟩
  · have h1 := s a u q
    rw [hA a (fun hc => by rw [e3 a hc] at q; cases q) (by rw [h1]; intro z; cases z)]
    exact h1
  · have h' : EnvR A0 A' B' (ss.set i .emp) δ := e7.frame fun a ha => hA a (fun hc => e4 a hc ha) (th a (e6 a ha)).1
    obtain ⟨B2, _, q⟩ := h'.set_own i (t := t') (p := p) (C := C') o (fun a ha hb => (hC a ha).elim (fun hc => e4 a hc hb) fun hn => (th a (e6 a hb)).1 hn) fun a ha => (hC a ha).elim (fun hc => e3 a hc) fun hn => by
      cases h0 : A0 a with
      | none => rfl
      | some u => rw [s a u h0] at hn; cases hn
    rw [List.set_set, set_same e1] at q
    exact ⟨B2, q⟩
section
variable {α β κ τ : Type} [Enc α] [Enc β] {w : DW} {A0 : AH} {ss : List Sl} {X : String → List (String × D) → Prop} {D0 : DEnds} {V : τ → Prop} {i : Nat} {c f : String} {pin : Option Addr} {cs : List String} {fs fs' : List (String × (D ⊕ AO))}
theorem Env.fld {δ : DSt} {A : AH} {o : AO} (e : Env A0 ss δ A) (hi : ss[i]? = some (.own (.ob c pin fs))) (hf : fs.lookup f = some (.inr o)) : ∃ p q r, δ[i]? = some (some (.ref p)) ∧ A p = some (.obj c r) ∧ lookS f r = some (.ref q) ∧ A q = some o ∧ r.length = fs.length ∧
    ∀ o', Env A0 (ss.set i (.own (.ob c pin (putF' f (.inr o') fs)))) δ (A.put q o') := by
  obtain ⟨p, C, e1, ⟨r, B, h1, h2, h3, h4, hp⟩, h5⟩ := e.change hi
  subst h4
  obtain ⟨q, q1, q2, q3, q4⟩ := h2.own (f := f) (o := o) (by rw [lookS_eq]; exact hf)
  have hqp : p ≠ q := fun z => h3 (z ▸ q3)
  refine ⟨p, q, r, e1, h1, q1, q2, h2.len, fun o' => h5 _ _ (p :: B) ⟨r, B, by rw [AH.put_ne A o' hqp]; exact h1, q4 o', h3, rfl, hp⟩ (fun a ha => .inl ha) fun a ha _ => AH.put_ne A o' fun z => ha (z ▸ List.mem_cons_of_mem _ q3)⟩
theorem fld_eq {δ : DSt} {A : AH} {Q : DK} {p : Addr} {r : List (String × D)} {d : D} (h1 : δ[i]? = some (some (.ref p))) (h2 : A p = some (.obj c r)) (h3 : lookS f r = some d) (hc : c ∈ cs) (h : Q d A) : eFld cs f (eVar i) δ A Q := by
  rw [eFld_eq, eVar_eq h1]
  show (match asObj A (.ref p) with | some (c, fs) => c ∈ cs ∧ (match lookS f fs with | some d => Q d A | none => False) | none => False)
  rw [asObj_ref h2]
  refine ⟨hc, ?_⟩
  rw [h3]; exact h
/-- a list within, read -/
theorem sv_fldL {l : List α} (hi : ss[i]? = some (.own (.ob c pin fs))) (hc : c ∈ cs) (hf : fs.lookup f = some (.inr (.lst (l.map enc)))) : SV w A0 ss (eFld cs f (eVar i)) (R.ok l) := fun δ A Q e hw => by
  obtain ⟨p, q, r, e1, e2, e3, e4, _⟩ := e.fld hi hf
  refine fld_eq e1 e2 e3 hc (hw _ ?_)
  show asL A (.ref q) = some (l.map enc)
  unfold asL; simp only [e4]
theorem sv_fldD [Enc κ] [KeyT κ] [KeyD κ] {l : Dic κ α} (hi : ss[i]? = some (.own (.ob c pin fs))) (hc : c ∈ cs) (hf : fs.lookup f = some (.inr (.dic (encKV l.l)))) : SV w A0 ss (eFld cs f (eVar i)) (R.ok l) := fun δ A Q e hw => by
  obtain ⟨p, q, r, e1, e2, e3, e4, _⟩ := e.fld hi hf
  refine fld_eq e1 e2 e3 hc (hw _ ?_)
  show asDic A (.ref q) = some (encKV l.l)
  unfold asDic; simp only [e4]
/-- self.f.append(x) -/
theorem ss_fapp {te : DE} {rest : DS} {m : R α} {l : List α} {k : List α → R τ} (hw : WE A0 w X ss) (hi : ss[i]? = some (.own (.ob c pin fs))) (hc : c ∈ cs) (hf : fs.lookup f = some (.inr (.lst (l.map enc)))) (he : SE w A0 ss te m)
    (hr : ∀ l', SS A0 X D0 V (ss.set i (.own (.ob c pin (putF' f (.inr (.lst (l'.map enc))) fs)))) rest (k l')) :
    SS A0 X D0 V ss (sSeq (sDrop (eMt "list" mApp (eFld cs f (eVar i)) (aCons te aNil))) rest) (m.bind fun a => (few l).bind fun _ => (R.ok (l ++ [a])).bind k) := fun δ A e h => by
  obtain ⟨p, q, r, h1, h2, h3, h4, _, h5⟩ := e.fld hi hf
  rw [sSeq_eq, sDrop_eq, eMt_eq]
  refine fld_eq h1 h2 h3 hc ⟨by rw [tyM_ref h4], ?_⟩
  rw [aCons_eq]
  refine he.run e h (fun c fs => hw c fs δ A e) fun a ha => ?_
  rw [R.wp_bind] at ha
  obtain ⟨hl, ha⟩ := few_wp ha
  rw [aNil_eq, mApp_eq]; simp only [h4]
  refine ⟨by simpa using hl, ?_⟩
  have := hr (l ++ [a]) _ _ (h5 (.lst ((l ++ [a]).map enc))) ha
  rw [List.map_append] at this; exact this
/-- self.f[k] = x -/
theorem ss_fsetD [Enc κ] [KeyT κ] [KeyD κ] [DecidableEq κ] {te ti : DE} {rest : DS} {m : R α} {n : R κ} {d : Dic κ α} {k : Dic κ α → R τ} (hw : WE A0 w X ss) (hi : ss[i]? = some (.own (.ob c pin fs))) (hc : c ∈ cs) (hf : fs.lookup f = some (.inr (.dic (encKV d.l)))) (he : SE w A0 ss te m) (hk : SE w A0 ss ti n)
    (hr : ∀ d' : Dic κ α, SS A0 X D0 V (ss.set i (.own (.ob c pin (putF' f (.inr (.dic (encKV d'.l))) fs)))) rest (k d')) :
    SS A0 X D0 V ss (sSeq (sAsg te (dgSub (eFld cs f (eVar i)) ti)) rest) (m.bind fun a => n.bind fun j => (fewD d).bind fun _ => (R.ok (d.put j a)).bind k) := fun δ A e h => by
  obtain ⟨p, q, r, h1, h2, h3, h4, _, h5⟩ := e.fld hi hf
  rw [sSeq_eq, sAsg_eq]
  refine he.run e h (fun c fs => hw c fs δ A e) fun a ha => ?_
  rw [dgSub_eq]
  refine fld_eq h1 h2 h3 hc ?_
  refine hk.run e ha (fun c fs => hw c fs δ A e) fun j hj => ?_
  unfold fewD at hj
  split at hj
  · rename_i hl
    show setD (.ref q) (enc j) (enc a) A _
    unfold setD
    simp only [h4, KeyD.ok]
    refine ⟨by simpa [encKV] using hl, ?_⟩
    have := hr (d.put j a) _ _ (h5 (.dic (encKV (d.put j a).l))) hj
    rw [encKV_put]; exact this
  · exact hj.elim
/-- self.f = a new list or dict of its own -/
theorem ss_fown {σ : Type} {te : DE} {rest : DS} {m : R σ} {o : σ → AO} {k : σ → R τ} (hw : WE A0 w X ss) (hi : ss[i]? = some (.own (.ob c pin fs))) (hc : c ∈ cs) (hn : fs.length < 1000) (he : SO w A0 ss te m (fun a => .ao (o a))) (hr : ∀ a, SS A0 X D0 V (ss.set i (.own (.ob c pin (putF' f (.inr (o a)) fs)))) rest (k a)) :
    SS A0 X D0 V ss (sSeq (sFldSet cs f (eVar i) te) rest) (m.bind k) := fun δ A e h => by
  obtain ⟨p, C, e1, ⟨r, B, h1, h2, h3, h4, hp⟩, h5⟩ := e.change hi
  subst h4
  have th : ∀ a ∈ p :: B, A a ≠ none := fun a ha => by
    rcases List.mem_cons.mp ha with rfl | ha
    · rw [h1]; intro z; cases z
    · exact h2.there a ha
  rw [sSeq_eq, sFldSet_eq]
  refine he.run e h (fun c fs => hw c fs δ A e) fun a q A' hn' ha => ?_
  obtain ⟨C2, ⟨n1, n1'⟩, n2, n3⟩ := hn'.ex
  subst n1'
  have hqn := n2 q (List.mem_singleton.mpr rfl)
  have hpq : p ≠ q := fun z => th p List.mem_cons_self (z ▸ hqn)
  have hqB : q ∉ B := fun z => th q (List.mem_cons_of_mem _ z) hqn
  have old : ∀ x, x ≠ q → A' x = A x := fun x hx => n3 x fun z => hx (List.mem_singleton.mp z)
  rw [eVar_eq e1]
  have h1' : A' p = some (.obj c r) := by rw [old p hpq]; exact h1
  simp only [h1']
  refine ⟨⟨hc, by rw [h2.len]; exact hn⟩, ?_⟩
  have hf : OwnF A' fs r B := h2.frame fun x hx => old x fun z => hqB (z ▸ hx)
  obtain ⟨B', b1, b2⟩ := hf.setO (f := f) n1 hqB
  have hpB : p ∉ B' := fun hp => (b1 p hp).elim hpq h3
  exact hr a _ _ (h5 _ _ (p :: B') ⟨_, B', AH.put_same .., b2.frame fun x hx => AH.put_ne A' _ fun z => hpB (z ▸ hx), hpB, rfl, hp⟩
    (fun x hx => by
      rcases List.mem_cons.mp hx with rfl | hx
      · exact .inl List.mem_cons_self
      · rcases b1 x hx with rfl | hx
        · exact .inr hqn
        · exact .inl (List.mem_cons_of_mem _ hx)) fun x hx hxn => by
      have hxp : x ≠ p := fun z => hx (by rw [z]; exact List.mem_cons_self)
      rw [AH.put_ne A' _ hxp]
      exact old x fun z => hxn (by rw [z]; exact hqn)) ha
end
end TF


/-! TF9: methods that change their own object; objects made. -/
namespace TF
open PySem PySem.Spec PyProof.Rows L2 DL FR
open Enc
abbrev Flds := List (String × (D ⊕ AO))
theorem OwnF.none {A : AH} {f : String} : ∀ {fs : Flds} {r : List (String × D)} {B : List Addr}, OwnF A fs r B → lookS f fs = none → lookS f r = none
  | [], _, _, ⟨e, _⟩, _ => by subst e; simp
  | (g, .inl d) :: fs, r, B, ⟨r', e, h⟩, hf => by
    subst e
    rw [lookS_cons] at hf ⊢
    by_cases hg : g = f
    · rw [if_pos hg] at hf; cases hf
    · rw [if_neg hg] at hf ⊢; exact h.none hf
  | (g, .inr o1) :: fs, r, B, ⟨r', x, B', e1, e2, e3, e4, h⟩, hf => by
    subst e1
    rw [lookS_cons] at hf ⊢
    by_cases hg : g = f
    · rw [if_pos hg] at hf; cases hf
    · rw [if_neg hg] at hf ⊢; exact h.none hf
theorem Own.repin {A : AH} {c : String} {pin pin' : Option Addr} {fs : Flds} {p : Addr} {C : List Addr} (h : Own A (.ob c pin fs) p C) (hp : ∀ x, pin' = some x → p = x) : Own A (.ob c pin' fs) p C := by
  obtain ⟨r, B, h1, h2, h3, h4, _⟩ := h
  exact ⟨r, B, h1, h2, h3, h4, hp⟩
theorem Own.pinned {A : AH} {c : String} {pin : Option Addr} {fs : Flds} {p : Addr} {C : List Addr} (h : Own A (.ob c pin fs) p C) : ∀ x, pin = some x → p = x := by
  obtain ⟨r, B, h1, h2, h3, h4, h5⟩ := h
  exact h5
theorem New.repin {A A' : AH} {c : String} {pin pin' : Option Addr} {fs : Flds} {p : Addr} (h : New A (.ob c pin fs) p A') (hp : ∀ x, pin' = some x → p = x) : New A (.ob c pin' fs) p A' := by
  obtain ⟨C, h1, h2, h3⟩ := h.ex
  exact ⟨C, h1.repin hp, h2, h3⟩
theorem New.sub {A A' : AH} {t : OT} {p : Addr} (h : New A t p A') : Sub A A' := by
  obtain ⟨C, h1, h2, h3⟩ := h.ex
  intro a u e
  have : a ∉ C := fun hc => by rw [h2 a hc] at e; cases e
  rw [h3 a this]; exact e
open Classical in
/-- what stands without some -/
noncomputable def AH.less (A : AH) (C : List Addr) : AH := fun a => if a ∈ C then none else A a
theorem New.of_own {A : AH} {t : OT} {p : Addr} {C : List Addr} (h : Own A t p C) : New (AH.less A C) t p A := ⟨C, h, fun a ha => if_pos ha, fun a ha => (if_neg ha).symm⟩
section
variable {A0 A : AH} {ss : List Sl} {δ : DSt} {i : Nat} {c name : String} {pin : Option Addr} {fs fs' : Flds} {p : Addr}
/-- a def's first slot is its own object -/
theorem New.env {vs : List Sl} {δ' : DSt} {t : OT} (h : New A0 t p A) (hv : EnvR A0 A [] vs δ') : Env A0 (.own t :: vs) (some (.ref p) :: δ') A := by
  obtain ⟨C, h1, h2, h3⟩ := h.ex
  refine ⟨h.sub, C ++ [], .own hv h1 (fun a _ hb => (nomatch hb)) h2⟩
/-- what stands at its end -/
theorem Env.fin {t : OT} (h : Env A0 ss δ A) (e : ss[i]? = some (.own (.ob c (some p) fs))) : ∃ A2, Sub A2 A ∧ New A0 (.ob c (some p) fs) p A2 := by
  obtain ⟨s, B, h⟩ := h
  obtain ⟨q, C, B', e1, e2, e3, e4, e5, e6, e7⟩ := h.split_own e
  have hq : q = p := e2.pinned p rfl
  subst hq
  refine ⟨fun a => open Classical in if a ∈ C then A a else A0 a, fun a u hu => ?_, C, e2.frame fun a ha => if_pos ha, e3, fun a ha => if_neg ha⟩
  by_cases ha : a ∈ C
  · simpa [ha] using hu
  · exact s a u (by simpa [ha] using hu)
end
section
variable {α β γ σ τ : Type} [Enc α] [Enc β] [Enc γ] {w : DW} {A0 : AH} {ss : List Sl} {X : String → List (String × D) → Prop} {D0 : DEnds} {V : τ → Prop} {i : Nat} {c name : String} {pin : Option Addr} {flds : σ → Flds} {tb : List (String × DSp)} {sp : DSp} {x : σ}
/-- what a method that changes its object promises, its arguments given -/
def IoP (c : String) (flds : σ → Flds) (x : σ) (F : R σ) (g : (Addr → List D)) (sp : DSp) : Prop := ∀ (A0 A : AH) (p : Addr) (Q : DK) (E : DX), New A0 (.ob c (some p) (flds x)) p A →
  F.wp (fun x' => ∀ A', New A0 (.ob c (some p) (flds x')) p A' → Q .non A') (fun k gs => ∀ A', New A0 (.ob c (some p) (flds x)) p A' → E k gs A') → sp (g p) A Q E
theorem io_call {F : R σ} {rest : DS} {k : σ → R τ} {δ : DSt} {A : AH} {g : Addr → List D} (hw : WE A0 w X ss) (hi : ss[i]? = some (.own (.ob c pin (flds x)))) (hs : IoP c flds x F g sp)
    (hr : ∀ x', SS A0 X D0 V (ss.set i (.own (.ob c pin (flds x')))) rest (k x')) (e : Env A0 ss δ A) (h : (F.bind k).wp V X) : ∃ p, δ[i]? = some (some (.ref p)) ∧ (∃ r, A p = some (.obj c r) ∧ ∀ f, lookS f (flds x) = none → lookS f r = none) ∧
    sp (g p) A (fun _ A1 => rest D0 δ A1) (fun k gs A1 => w k gs δ A1) := by
  obtain ⟨p, C, e1, ho, h5⟩ := e.change hi
  have ho' := ho
  obtain ⟨r, B, o1, o2, o3, o4, o5⟩ := ho'
  have back : ∀ (y : σ) (A' : AH), New (AH.less A C) (.ob c (some p) (flds y)) p A' → Env A0 (ss.set i (.own (.ob c pin (flds y)))) δ A' := fun y A' hn => by
    obtain ⟨C', n1, n2, n3⟩ := hn.ex
    refine h5 A' _ C' (n1.repin o5) (fun a ha => ?_) fun a ha han => ?_
    · by_cases hc : a ∈ C
      · exact .inl hc
      · have := n2 a ha
        unfold AH.less at this
        rw [if_neg hc] at this
        exact .inr this
    · have e1 : AH.less A C a = A a := if_neg ha
      have : a ∉ C' := fun hc => han (by rw [← e1]; exact n2 a hc)
      rw [n3 a this, e1]
  refine ⟨p, e1, ⟨r, o1, fun f hf => o2.none hf⟩, hs (AH.less A C) A p _ _ (New.of_own (ho.repin fun y hy => by cases hy; rfl)) ?_⟩
  rw [R.wp_bind] at h
  refine R.wp_imp h (fun x' hx' A' hn => hr x' _ _ (back x' A' hn) hx') fun k gs hx' A' hn => ?_
  have := back x A' hn
  have es : ss.set i (.own (.ob c pin (flds x))) = ss := by
    apply List.ext_getElem?
    intro j
    rw [List.getElem?_set]
    by_cases hj : i = j
    · subst hj
      obtain ⟨h1, h2⟩ := List.getElem?_eq_some_iff.mp hi
      rw [if_pos rfl, if_pos h1, hi]
    · rw [if_neg hj]
  rw [es] at this
  exact hw k gs δ A' this hx'
theorem ss_io1 {F : σ → β → R σ} {te : DE} {m : R β} {rest : DS} {k : σ → R τ} (hw : WE A0 w X ss) (hi : ss[i]? = some (.own (.ob c pin (flds x)))) (hn : (flds x).lookup name = none) (ht : tb.lookup c = some sp) (hs : ∀ b, IoP c flds x (F x b) (fun p => [.ref p, enc b]) sp) (he : SE w A0 ss te m)
    (hr : ∀ x', SS A0 X D0 V (ss.set i (.own (.ob c pin (flds x')))) rest (k x')) : SS A0 X D0 V ss (sSeq (sDrop (eMth w name tb (eVar i) (aCons te aNil))) rest) (m.bind fun b => (F x b).bind k) := fun δ A e h => by
  obtain ⟨p, C, e1, ⟨r, B, o1, o2, _⟩, _⟩ := e.change hi
  rw [sSeq_eq, sDrop_eq, eMth_eq, eVar_eq e1, asObj_ref o1]
  refine ⟨o2.none (by rw [lookS_eq]; exact hn), ?_⟩
  rw [lookS_eq, ht]
  show aCons te aNil δ A _
  rw [aCons_eq]
  refine he.run e h (fun c fs => hw c fs δ A e) fun b hb => ?_
  obtain ⟨p', e1', _, q⟩ := io_call hw hi (hs b) hr e hb
  rw [e1] at e1'; cases e1'
  rw [aNil_eq]; exact q
/-- an object made: what its __init__ promises, its arguments given -/
def MkP (c : String) (flds : σ → Flds) (F : R σ) (A0 : AH) (g : Addr → List D) (sp : DSp) : Prop := ∀ (A : AH) (p : Addr) (Q : DK) (E : DX), New A0 (.ob c (some p) []) p A →
  F.wp (fun x' => ∀ A', New A0 (.ob c (some p) (flds x')) p A' → Q .non A') (fun k gs => E k gs A0) → sp (g p) A Q E
theorem new_blank {A : AH} {p : Addr} (h : A p = none) : New A (.ob c (some p) []) p (A.put p (.obj c [])) :=
  ⟨[p], ⟨[], [], AH.put_same .., ⟨rfl, rfl⟩, fun h => (nomatch h), rfl, fun x e => by cases e; rfl⟩, fun a ha => by rw [List.mem_singleton.mp ha]; exact h, fun a ha => AH.put_ne A _ fun e => ha (List.mem_singleton.mpr e)⟩
theorem so_mk2 {F : α → β → R σ} {t u : DE} {m : R α} {n : R β} (hs : ∀ A x y a b, vw A x a → vw A y b → MkP c flds (F a b) A (fun p => [.ref p, x, y]) sp) (h : SV w A0 ss t m) (h2 : SV w A0 ss u n) :
    SO w A0 ss (eMk w c sp (aCons t (aCons u aNil))) (m.bind fun a => n.bind fun b => F a b) (fun x => .ob c none (flds x)) := fun δ A Q e hw => by
  rw [eMk_eq, aCons_eq]
  refine h.run e hw (fun _ _ => id) fun a d hd hw => ?_
  rw [aCons_eq]
  refine h2.run e hw (fun _ _ => id) fun b y hy hw => ?_
  rw [aNil_eq]
  intro p hp
  refine hs A d y a b hd hy _ p _ _ (new_blank hp) (R.wp_imp hw (fun x' hx' A' hn => ⟨rfl, hx' p A' (hn.repin fun _ e => by cases e)⟩) fun k gs hk => hk)
/-! ### how such a def ends -/
/-- it falls off its end -/
theorem io_fin {p : Addr} {Q : DK} {rt : DK} {j : Nat} {x' : σ} (hi : ss[j]? = some (.own (.ob c (some p) (flds x')))) : SS A0 X { nx := fun _ A => dropQ Q .non A, rt := rt } (fun x' : σ => ∀ A', New A0 (.ob c (some p) (flds x')) p A' → Q .non A') ss sNext (R.ok x') := fun δ A e h => by
  obtain ⟨A2, s, n⟩ := e.fin (t := .ob c (some p) (flds x')) hi
  exact ⟨A2, s, h A2 n⟩
/-- it raises before it changes anything -/
theorem we_io {p : Addr} {E : DX} {j : Nat} (hi : ss[j]? = some (.own (.ob c (some p) (flds x)))) : WE A0 (fun k gs _ A => dropE E k gs A) (fun k gs => ∀ A', New A0 (.ob c (some p) (flds x)) p A' → E k gs A') ss := fun k gs δ A e h => by
  obtain ⟨A2, s, n⟩ := e.fin (t := .ob c (some p) (flds x)) hi
  exact ⟨A2, s, h A2 n⟩
/-- an __init__ raises -/
theorem we_mk {E : DX} : WE A0 (fun k gs _ A => dropE E k gs A) (fun k gs => E k gs A0) ss := fun k gs δ A e h => ⟨A0, e.sub, h⟩
end
end TF


/-! TFA: parts, gaps, things; dict.get; the first item taken out. -/
namespace TF
open PySem PySem.Spec PyProof.Rows L2 DL FR
open Enc
structure PartV where
  name : Str
  start : Str
  fin : Str
  size : Rat
  most : Rat
  weight : Int
  deriving DecidableEq
structure GapV where
  name : Str
  one : Str
  other : Str
  low : Rat
  high : Rat
  deriving DecidableEq
instance : Enc PartV := { enc := fun t => .tup [enc t.name, enc t.start, enc t.fin, enc t.size, enc t.most, enc t.weight] }
instance : Enc GapV := { enc := fun t => .tup [enc t.name, enc t.one, enc t.other, enc t.low, enc t.high] }
instance : NR PartV := ⟨fun _ _ h => D.noConfusion h, fun h => h⟩
instance : NR GapV := ⟨fun _ _ h => D.noConfusion h, fun h => h⟩
instance : EqD PartV where
  good t := EqD.good t.name ∧ EqD.good t.start ∧ EqD.good t.fin
  dep := 3
  dt_enc t n h hn := dt_t (by omega) (by
    simp only [dts_cons, dts_nil, Bool.and_true, Bool.and_eq_true]
    exact ⟨EqD.dt_enc t.name _ h.1 (by show 0 ≤ _; omega), EqD.dt_enc t.start _ h.2.1 (by show 0 ≤ _; omega), EqD.dt_enc t.fin _ h.2.2 (by show 0 ≤ _; omega), EqD.dt_enc t.size _ trivial (by show 1 ≤ _; omega), EqD.dt_enc t.most _ trivial (by show 1 ≤ _; omega), EqD.dt_enc t.weight _ trivial (by show 0 ≤ _; omega)⟩)
  deq_enc a b h k := by
    show deq (.tup [enc a.name, enc a.start, enc a.fin, enc a.size, enc a.most, enc a.weight]) (.tup [enc b.name, enc b.start, enc b.fin, enc b.size, enc b.most, enc b.weight]) = _
    rw [deq_tup, deqs_cons, deqs_cons, deqs_cons, deqs_cons, deqs_cons, deqs_cons, deqs_nil, EqD.deq_enc _ _ h.1 k.1, EqD.deq_enc _ _ h.2.1 k.2.1, EqD.deq_enc _ _ h.2.2 k.2.2, EqD.deq_enc a.size b.size trivial trivial, EqD.deq_enc a.most b.most trivial trivial, EqD.deq_enc a.weight b.weight trivial trivial, Bool.and_true]
    cases a; cases b; simp
  vw_dt A d a n h q := vw_dtNR A d a n h q
  vw_deq A x y a b h k := vw_deqNR A x y a b h k
instance : EqD GapV where
  good t := EqD.good t.name ∧ EqD.good t.one ∧ EqD.good t.other
  dep := 3
  dt_enc t n h hn := dt_t (by omega) (by
    simp only [dts_cons, dts_nil, Bool.and_true, Bool.and_eq_true]
    exact ⟨EqD.dt_enc t.name _ h.1 (by show 0 ≤ _; omega), EqD.dt_enc t.one _ h.2.1 (by show 0 ≤ _; omega), EqD.dt_enc t.other _ h.2.2 (by show 0 ≤ _; omega), EqD.dt_enc t.low _ trivial (by show 1 ≤ _; omega), EqD.dt_enc t.high _ trivial (by show 1 ≤ _; omega)⟩)
  deq_enc a b h k := by
    show deq (.tup [enc a.name, enc a.one, enc a.other, enc a.low, enc a.high]) (.tup [enc b.name, enc b.one, enc b.other, enc b.low, enc b.high]) = _
    rw [deq_tup, deqs_cons, deqs_cons, deqs_cons, deqs_cons, deqs_cons, deqs_nil, EqD.deq_enc _ _ h.1 k.1, EqD.deq_enc _ _ h.2.1 k.2.1, EqD.deq_enc _ _ h.2.2 k.2.2, EqD.deq_enc a.low b.low trivial trivial, EqD.deq_enc a.high b.high trivial trivial, Bool.and_true]
    cases a; cases b; simp
  vw_dt A d a n h q := vw_dtNR A d a n h q
  vw_deq A x y a b h k := vw_deqNR A x y a b h k
section
variable {α κ τ : Type} [Enc α] [Enc κ] [KeyT κ] [KeyD κ] [DecidableEq κ] {w : DW} {A0 : AH} {ss : List Sl} {X : String → List (String × D) → Prop} {D0 : DEnds} {V : τ → Prop} {i j : Nat}
theorem tyM_dic {A : AH} {d : D} {kvs : List (Key × D)} (h : asDic A d = some kvs) : tyM A d "dict" := by
  cases d with
  | dic ks vs => exact rfl
  | ref a =>
    have h' : (match A a with | some (.dic kvs) => some kvs | _ => none) = some kvs := h
    show (match A a with | some (.lst _) => ("dict" : String) = "list" | some (.dic _) => ("dict" : String) = "dict" | _ => False)
    split at h'
    · rename_i q; rw [q]
    · cases h'
  | _ => exact nomatch h
theorem se_dget {t u : DE} {m : R (Dic κ α)} {n : R κ} (h : SV w A0 ss t m) (h2 : SE w A0 ss u n) : SE w A0 ss (eMt "dict" mGet t (aCons u aNil)) (R.b2 m n fun d k => .ok (d.get? k)) := fun δ A Q e hw => by
  rw [eMt_eq]
  refine h.run e hw (fun _ _ => id) fun l d hd hw => ?_
  have hd' : asDic A d = some (encKV l.l) := hd
  refine ⟨tyM_dic hd', ?_⟩
  rw [aCons_eq]
  refine h2.run e hw (fun _ _ => id) fun k hk => ?_
  rw [aNil_eq]
  show mGet d [enc k] A Q
  unfold mGet
  simp only [hd', KeyD.ok]
  rw [dget_enc]
  have : ((l.get? k).map (enc (α := α))).getD .non = enc (l.get? k) := by cases l.get? k <;> rfl
  rw [this]; exact hk
def popR (l : List α) (i : Int) : R (α × List α) := match l with
  | y :: l => if i = 0 then .ok (y, l) else .bad
  | [] => .bad
theorem ss_popIA {te : DE} {n : R Int} {rest : DS} {l : List α} {k : α × List α → R τ} (hw : WE A0 w X ss) (hi : ss[i]? = some (.own (oL l))) (he : SE w A0 ss te n) (hr : ∀ p : α × List α, SS A0 X D0 V ((ss.set i (.own (oL p.2))).set j (.val (enc p.1))) rest (k p)) :
    SS A0 X D0 V ss (sSeq (sAsg (eMt "list" mPopI (eVar i) (aCons te aNil)) (dgName j)) rest) (n.bind fun z => (popR l z).bind k) := fun δ A e h => by
  obtain ⟨p, h1, h2, _⟩ := e.get_own hi
  rw [sSeq_eq, sAsg_eq, eMt_eq, eVar_eq h1]
  refine ⟨by rw [tyM_ref h2], ?_⟩
  rw [aCons_eq]
  refine he.run e h (fun c fs => hw c fs δ A e) fun z hz => ?_
  rw [aNil_eq]
  cases l with
  | nil => exact hz.elim
  | cons y l =>
    unfold popR at hz
    simp only at hz
    split at hz
    · rename_i h0
      show mPopI (.ref p) [.int z] A _
      unfold mPopI
      have h2' : A p = some (.lst (enc y :: l.map enc)) := h2
      simp only [h2']
      refine ⟨h0, ?_⟩
      obtain ⟨p', q1, q2, q3⟩ := e.upd_own (o' := .lst (l.map enc)) hi
      rw [h1] at q1; cases q1
      exact hr (y, l) _ _ (q3.set_val j _) hz
    · exact hz.elim
theorem Env.junk {δ : DSt} {A : AH} {p : Addr} {o : AO} (h : Env A0 ss δ A) (hp : A p = none) : Env A0 ss δ (A.put p o) := by
  obtain ⟨s, B, r⟩ := h
  exact ⟨s.put (sub_none s hp), B, r.frame fun a ha => AH.put_ne A o fun z => (r.there a ha).1 (z ▸ hp)⟩
theorem so_dic0 : SO w A0 ss eDic0 (R.ok (⟨[]⟩ : Dic κ α)) oD := fun δ A Q e hw p hp => hw p _ (New.put hp)
theorem so_dic1 {t u : DE} {m : R κ} {n : R α} (h : SE w A0 ss t m) (h2 : SE w A0 ss u n) (hm : ∀ c gs, m ≠ .exc c gs) (hn : ∀ c gs, n ≠ .exc c gs) : SO w A0 ss (eDic1 t u) (R.b2 m n fun k a => .ok (⟨[(k, a)]⟩ : Dic κ α)) oD := fun δ A Q e hw p hp => by
  have e' := e.junk (o := .dic []) hp
  cases m with
  | bad => exact hw.elim
  | exc c gs => exact absurd rfl (hm c gs)
  | ok k => cases n with
    | bad => exact hw.elim
    | exc c gs => exact absurd rfl (hn c gs)
    | ok a =>
      refine h δ _ _ e' ?_
      refine h2 δ _ _ e' ?_
      refine ⟨AH.put_same .., ?_⟩
      rw [KeyD.ok]
      refine hw p _ ⟨[p], ⟨AH.put_same .., rfl⟩, fun a ha => by rw [List.mem_singleton.mp ha]; exact hp, fun a ha => ?_⟩
      have hne : a ≠ p := fun z => ha (List.mem_singleton.mpr z)
      rw [AH.put_ne _ _ hne, AH.put_ne _ _ hne]
end
/-! things asked for what they are -/
def nmOk (z : Str) : Prop := Few z.length ∧ PyData.strOk z = true
/-- three names ahead, so many in all, the ends two -/
def endsB (a b c : Str) (k : Nat) (n : Int) : Bool := decide (((k : Nat) : Int) + 3 = n) && (nameB a && (nameB b && (nameB c && !decide (b = c))))
open Classical in
noncomputable def F_has_ends (d : D) (n : Int) : R Bool := match d with
  | .tup (.str a :: .str b :: .str c :: r) => if nmOk a ∧ nmOk b ∧ nmOk c then .ok (endsB a b c r.length n) else .bad
  | _ => .bad
def F_is_fraction (d : D) : R Bool := if tyOk noHeap d = true then .ok (fracB d) else .bad
def F_is_whole (d : D) : R Bool := if (tyD noHeap d).isSome = true then .ok (isIntD d) else .bad
end TF


/-! TFB: objects of one's own frozen; things. -/
namespace TF
open PySem PySem.Spec PyProof.Rows L2 DL FR
open Enc
def frzF : String × (D ⊕ AO) → String × D
  | (f, .inl d) => (f, d)
  | (f, .inr o) => (f, (fzD o).getD .non)
def okF (fs : Flds) : Prop := ∀ f o, (f, Sum.inr o) ∈ fs → (fzD o).isSome = true
open Classical in
theorem OwnF.fz {fs : Flds} : ∀ {A : AH} {r : List (String × D)} {B : List Addr}, OwnF A fs r B → okF fs → ∃ A2, FzF A r (fs.map frzF) A2 ∧ ∀ a, A2 a = if a ∈ B then (Option.none : Option AO) else A a := by
  induction fs with
  | nil =>
    intro A r B h _
    obtain ⟨h1, h2⟩ := h
    subst h1 h2
    exact ⟨A, .nil, fun a => by simp⟩
  | cons x fs ih =>
    intro A r B h ok
    have ok' : okF fs := fun f o hm => ok f o (List.mem_cons_of_mem _ hm)
    obtain ⟨f, y⟩ := x
    cases y with
    | inl d =>
      obtain ⟨r', e, h⟩ := h
      subst e
      obtain ⟨A2, q1, q2⟩ := ih h ok'
      exact ⟨A2, .val q1, q2⟩
    | inr o =>
      obtain ⟨r', q, B', e1, e2, e3, e4, h⟩ := h
      subst e1 e4
      have h' : OwnF (A.del q) fs r' B' := h.frame fun a ha => AH.del_ne A fun z => e3 (z ▸ ha)
      obtain ⟨A2, q1, q2⟩ := ih h' ok'
      obtain ⟨d, hd⟩ := Option.isSome_iff_exists.mp (ok f o List.mem_cons_self)
      refine ⟨A2, ?_, fun a => ?_⟩
      · show FzF A ((f, .ref q) :: r') ((f, (fzD o).getD .non) :: fs.map frzF) A2
        rw [hd]
        exact .ref e2 hd q1
      · rw [q2]
        by_cases ha : a ∈ B'
        · rw [if_pos ha, if_pos (List.mem_cons_of_mem _ ha)]
        · rw [if_neg ha]
          by_cases hq : a = q
          · subst hq; rw [if_pos List.mem_cons_self, AH.del_same]
          · rw [if_neg fun hm => (List.mem_cons.mp hm).elim hq ha, AH.del_ne A hq]
section
variable {α σ : Type} [Enc α] [Enc σ] {w : DW} {A0 : AH} {ss : List Sl} {c f : String} {cs : List String} {flds : σ → Flds}
theorem se_fzD {t : DE} {m : R σ} (he : ∀ x : σ, enc x = D.obj c (((flds x).map frzF).map (·.1)) (((flds x).map frzF).map (·.2))) (ok : ∀ x, okF (flds x)) (h : SO w A0 ss t m (fun x => .ob c none (flds x))) : SE w A0 ss (eFzD t) m := fun δ A Q e hw => by
  refine h δ A _ e (R.wp_imp hw (fun x hx p A' hn => ?_) fun c fs h => h)
  obtain ⟨C, ⟨r, B, h1, h2, h3, h4, _⟩, n1, n2⟩ := hn.ex
  subst h4
  have h2' : OwnF (A'.del p) (flds x) r B := h2.frame fun a ha => AH.del_ne A' fun z => h3 (z ▸ ha)
  obtain ⟨A2, q1, q2⟩ := h2'.fz (ok x)
  have eA : A2 = A := by
    funext a
    rw [q2]
    by_cases ha : a ∈ B
    · rw [if_pos ha, n1 a (List.mem_cons_of_mem _ ha)]
    · rw [if_neg ha]
      by_cases hp : a = p
      · subst hp; rw [AH.del_same, n1 a List.mem_cons_self]
      · rw [AH.del_ne A' hp]
        exact n2 a fun hm => (List.mem_cons.mp hm).elim hp ha
  subst eA
  exact ⟨p, c, r, _, A2, rfl, h1, q1, by rw [← he x]; exact hx⟩
/-- a frozen object's field -/
theorem se_fldO {t : DE} {m : R σ} (g : σ → α) (hc : ∀ (x : σ) (A : AH), ∃ fs, asObj A (enc x) = some (c, fs) ∧ lookS f fs = some (enc (g x))) (hcs : c ∈ cs) (h : SE w A0 ss t m) : SE w A0 ss (eFld cs f t) (m.map g) := fun δ A Q e hw => by
  rw [eFld_eq]
  refine h.run (k := fun x => .ok (g x)) e (by cases m <;> exact hw) (fun _ _ => id) fun x hx => ?_
  obtain ⟨fs, e1, e2⟩ := hc x A
  rw [e1]
  exact ⟨hcs, by rw [e2]; exact hx⟩
end
/-! ### things -/
structure ThingV where
  parts : List PartV
  gaps : List GapV
  sizes : Dic Str Rat
  ways : Dic Str (List (Str × Bool))
abbrev fThing (t : ThingV) : Flds := [("kept_parts", .inr (.lst (t.parts.map enc))), ("kept_gaps", .inr (.lst (t.gaps.map enc))), ("sizes", .inr (.dic (encKV t.sizes.l))), ("kept_ways", .inr (.dic (encKV t.ways.l)))]
instance : Enc ThingV := { enc := fun t => .obj "Thing" (((fThing t).map frzF).map (·.1)) (((fThing t).map frzF).map (·.2)) }
theorem okF_thing (t : ThingV) : okF (fThing t) := fun f o h => by
  simp only [List.mem_cons, List.not_mem_nil, or_false, Prod.mk.injEq, Sum.inr.injEq] at h
  rcases h with ⟨_, rfl⟩ | ⟨_, rfl⟩ | ⟨_, rfl⟩ | ⟨_, rfl⟩ <;> rfl
theorem thing_parts (x : ThingV) (A : AH) : ∃ fs, asObj A (enc x) = some ("Thing", fs) ∧ lookS "kept_parts" fs = some (enc x.parts) := ⟨_, rfl, by rw [lookS_eq]; rfl⟩
theorem thing_gaps (x : ThingV) (A : AH) : ∃ fs, asObj A (enc x) = some ("Thing", fs) ∧ lookS "kept_gaps" fs = some (enc x.gaps) := ⟨_, rfl, by rw [lookS_eq]; rfl⟩
section
variable {w : DW} {A0 : AH} {ss : List Sl} {cs : List String} {t : DE} {m : R ThingV}
theorem fld_parts (h : SE w A0 ss t m) (hc : "Thing" ∈ cs := by decide) : SE w A0 ss (eFld cs "kept_parts" t) (m.map ThingV.parts) := se_fldO ThingV.parts thing_parts hc h
theorem fld_gaps (h : SE w A0 ss t m) (hc : "Thing" ∈ cs := by decide) : SE w A0 ss (eFld cs "kept_gaps" t) (m.map ThingV.gaps) := se_fldO ThingV.gaps thing_gaps hc h
end
end TF


/-! TFC: ranges with a step, enumerate, zip, reversed; insert; sum, any, sorted; d.get(k, x). -/
namespace TF
open PySem PySem.Spec PyProof.Rows L2 DL FR
open Enc KeyT
section
variable {α β γ κ τ : Type} [Enc α] [Enc β] [Enc γ] [KeyT κ] {w : DW} {A0 A : AH} {ss : List Sl} {X : String → List (String × D) → Prop} {D0 : DEnds} {V : τ → Prop} {i j : Nat}
def rngC (lo c : Int) (n : Nat) : List Int := (List.range n).map fun i => lo + (i : Nat) * c
theorem rngC_map (lo c : Int) (n : Nat) : rngCD lo c n = (rngC lo c n).map enc := by unfold rngCD rngC; rw [List.map_map]; rfl
def rng3 (i j c : Int) : R (List Int) := if i.natAbs < 1000000000 ∧ j.natAbs < 1000000000 ∧ 0 < c ∧ c < 1000000 then .ok (rngC i c (cntC i j c)) else .bad
theorem sif_rng3 {t u v : DE} {m n o : R Int} (h : SE w A0 ss t m) (h2 : SE w A0 ss u n) (h3 : SE w A0 ss v o) : SIF w A0 ss (iRng3D (aCons t (aCons u (aCons v aNil)))) (m.bind fun i => n.bind fun j => o.bind fun k => rng3 i j k) enc := fun δ A K e hw => by
  show aCons t (aCons u (aCons v aNil)) δ A _
  rw [aCons_eq]
  refine h.run e hw (fun _ _ => id) fun i hw => ?_
  rw [aCons_eq]
  refine h2.run e hw (fun _ _ => id) fun j hw => ?_
  rw [aCons_eq]
  refine h3.run e hw (fun _ _ => id) fun k hw => ?_
  unfold rng3 at hw
  split at hw
  · rename_i hn
    refine ⟨hn, ?_⟩
    rw [rngC_map]; exact hw _ fun _ _ => trivial
  · exact hw.elim
/-! what may be read as it stood at first -/
def SW (w : DW) (A0 : AH) (ss : List Sl) (t : DE) (m : R α) : Prop := ∀ (δ : DSt) (A : AH) (Q : DK), Env A0 ss δ A → m.wp (fun a => ∀ d, vw A0 d a → Q d A) (fun c fs => w c fs δ A) → t δ A Q
theorem SW.run {t : DE} {m : R α} {τ : Type} {k : α → R τ} {V : τ → Prop} {X} {δ : DSt} {A : AH} {Q : DK} (h : SW w A0 ss t m) (e : Env A0 ss δ A) (hw : (m.bind k).wp V X) (hx : ∀ c fs, X c fs → w c fs δ A) (hk : ∀ a d, vw A0 d a → (k a).wp V X → Q d A) : t δ A Q :=
  h δ A Q e (by rw [R.wp_bind] at hw; exact R.wp_imp hw (fun a ha d hd => hk a d hd ha) hx)
def enumL (l : List α) : List (Int × α) := l.zipIdx.map fun p => (((p.2 : Nat) : Int), p.1)
/-! in comprehensions: what may be read now -/
/-! ### l.insert(i, x) -/
/-! ### sum, any, sorted -/
def sumR (l : List Int) : R Int := .ok l.sum
def anyR (l : List Bool) : R Bool := .ok (l.any id)
/-- texts in order -/
def leS (a b : Str) : Bool := !decide (b.cps.toList < a.cps.toList)
def sortS (l : List Str) : List Str := l.mergeSort leS
theorem sortS_perm (l : List Str) : (sortS l).Perm l := List.mergeSort_perm ..
/-! ### d.get(k, x) -/
theorem se_dget2 [Enc κ] [KeyD κ] [DecidableEq κ] {t u v : DE} {m : R (Dic κ α)} {n : R κ} {o : R α} (h : SV w A0 ss t m) (h2 : SE w A0 ss u n) (h3 : SE w A0 ss v o) : SE w A0 ss (eMt "dict" mGet t (aCons u (aCons v aNil))) (m.bind fun d => n.bind fun k => o.bind fun x => .ok ((d.get? k).getD x)) := fun δ A Q e hw => by
  rw [eMt_eq]
  refine h.run e hw (fun _ _ => id) fun l d hd hw => ?_
  have hd' : asDic A d = some (encKV l.l) := hd
  refine ⟨tyM_dic hd', ?_⟩
  rw [aCons_eq]
  refine h2.run e hw (fun _ _ => id) fun k hk => ?_
  rw [aCons_eq]
  refine h3.run e hk (fun _ _ => id) fun x hx => ?_
  rw [aNil_eq]
  show mGet d [enc k, enc x] A Q
  unfold mGet
  simp only [hd', KeyD.ok]
  rw [dget_enc]
  have : ((l.get? k).map (enc (α := α))).getD (enc x) = enc ((l.get? k).getD x) := by cases l.get? k <;> rfl
  rw [this]; exact hx
end
end TF
namespace TF
open PySem PySem.Spec PyProof.Rows L2 DL FR
open Enc KeyT
section
variable {α β : Type} [Enc α] [Enc β] {w : DW} {A0 : AH} {ss : List Sl}
def optR {α β : Type} (o : Option α) (k : α → R β) : R β := match o with
  | none => .bad
  | some a => k a
@[simp] theorem optR_some {α β : Type} {a : α} {k : α → R β} : optR (some a) k = k a := rfl
/-- the items of a tuple of one kind -/
theorem sif_tup {t : DE} {m : R α} (f : α → List β) (hf : ∀ x : α, enc x = D.tup ((f x).map enc)) (h : SE w A0 ss t m) : SIF w A0 ss (iSeq t) (m.map f) enc := fun δ A K e hw => by
  rw [iSeq_eq]
  refine h.run (k := fun x => .ok (f x)) e (by cases m <;> exact hw) (fun _ _ => id) fun x hx => ?_
  rw [hf x]
  exact hx _ fun _ _ => trivial
end
end TF
namespace TF
open PySem PySem.Spec PyProof.Rows L2 DL FR
open Enc KeyT
section
variable {α β γ σ : Type} [Enc α] [Enc β] [Enc γ] {w : DW} {A0 : AH} {ss : List Sl}
end
end TF
namespace TF
open PySem PySem.Spec PyProof.Rows L2 DL FR
open Enc KeyT
section
variable {α : Type} [Enc α] [DecidableEq α] [EqD α]
omit [DecidableEq α] [EqD α] in
instance : NR (Option (List α)) := ⟨fun a p h => by
  cases a with
  | none => exact D.noConfusion h
  | some a => exact D.noConfusion h, fun h => h⟩
instance : EqD (Option (List α)) where
  good o := ∀ a, o = some a → EqD.good a
  dep := EqD.dep (List α)
  dt_enc a n h hn := by
    cases a with
    | none => exact dt_non
    | some a => exact EqD.dt_enc a n (h a rfl) hn
  deq_enc a b h k := by
    cases a with
    | none => cases b with
      | none => simp [enc_none, deq]
      | some b => rw [enc_none, enc_somE, (deq_non (NN.nn b)).1]; simp
    | some a => cases b with
      | none => rw [enc_none, enc_somE, (deq_non (NN.nn a)).2]; simp
      | some b => rw [enc_somE, enc_somE, EqD.deq_enc a b (h a rfl) (k b rfl)]; simp
  vw_dt A d a n h q := vw_dtNR A d a n h q
  vw_deq A x y a b h k := vw_deqNR A x y a b h k
end
end TF


/-! TFD: defs that change dicts handed to them. -/
namespace TF
open PySem PySem.Spec PyProof.Rows L2 DL FR
open Enc KeyT
section
variable {A0 A : AH} {ss : List Sl} {δ : DSt} {i : Nat} {q : Addr} {o : AO}
theorem Env.get_pn (h : Env A0 ss δ A) (e : ss[i]? = some (.own (.pn q o))) : δ[i]? = some (some (.ref q)) ∧ A q = some o ∧ A0 q = none := by
  obtain ⟨s, B, h⟩ := h
  obtain ⟨p, C, B', e1, ⟨e2, e2', e2''⟩, e3, e4, e5, e6, e7⟩ := h.split_own e
  subst e2' e2''
  exact ⟨e1, e2, e3 p (List.mem_singleton.mpr rfl)⟩
theorem Env.upd_pn {o' : AO} (h : Env A0 ss δ A) (e : ss[i]? = some (.own (.pn q o))) : Env A0 (ss.set i (.own (.pn q o'))) δ (A.put q o') := by
  obtain ⟨s, B, h⟩ := h
  obtain ⟨p, C, B', e1, ⟨e2, e2', e2''⟩, e3, e4, e5, e6, e7⟩ := h.split_own e
  subst e2' e2''
  have hp : p ∈ [p] := List.mem_singleton.mpr rfl
  refine ⟨fun a u q => ?_, ?_⟩
  · have hn : a ≠ p := fun z => by rw [z, e3 p hp] at q; cases q
    rw [AH.put_ne A o' hn]; exact s a u q
  · have h' : EnvR A0 (A.put p o') B' (ss.set i .emp) δ := e7.frame fun a ha => AH.put_ne A o' fun z => e4 p hp (z ▸ ha)
    obtain ⟨B2, _, q⟩ := h'.set_own i (t := .pn p o') (p := p) (C := [p]) ⟨AH.put_same .., rfl, rfl⟩ e4 e3
    rw [List.set_set] at q
    have ed : δ.set i (some (.ref p)) = δ := by
      apply List.ext_getElem?
      intro j
      rw [List.getElem?_set]
      by_cases hj : i = j
      · subst hj
        obtain ⟨h1, h2⟩ := List.getElem?_eq_some_iff.mp e1
        rw [if_pos rfl, if_pos h1, e1]
      · rw [if_neg hj]
    rw [ed] at q
    exact ⟨_, q⟩
end
/-- what stands, and some objects beside it -/
structure NewL (A0 : AH) (os : List (Addr × AO)) (A : AH) : Prop where
  nd : (os.map (·.1)).Nodup
  non : ∀ x ∈ os, A0 x.1 = none
  at_ : ∀ x ∈ os, A x.1 = some x.2
  out : ∀ a, a ∉ os.map (·.1) → A a = A0 a
theorem NewL.sub {A0 A : AH} {os : List (Addr × AO)} (h : NewL A0 os A) : Sub A0 A := fun a u e => by
  have : a ∉ os.map (·.1) := fun hm => by
    obtain ⟨x, hx, e2⟩ := List.mem_map.mp hm
    rw [← e2, h.non x hx] at e; cases e
  rw [h.out a this]; exact e
section
variable {A0 A : AH} {p p2 : Addr} {o o2 o' o2' : AO}
theorem NewL.own (h : NewL A0 [(p, o)] A) : Own A (.pn p o) p [p] ∧ (∀ a ∈ [p], A0 a = none) :=
  ⟨⟨h.at_ _ List.mem_cons_self, rfl, rfl⟩, fun a ha => by rw [List.mem_singleton.mp ha]; exact h.non _ List.mem_cons_self⟩
open Classical in
/-- .. as it stands at a def's end -/
theorem Env.finL {J : List Sl} {δ : DSt} {os os' : List (Addr × AO)} (e : Env A0 J δ A) (nd : (os.map (·.1)).Nodup) (hos : os'.map (·.1) = os.map (·.1)) (h : ∀ x ∈ os', ∃ i : Nat, J[i]? = some (Sl.own (.pn x.1 x.2))) : ∃ A2, Sub A2 A ∧ NewL A0 os' A2 := by
  refine ⟨fun a => if a ∈ os'.map (·.1) then A a else A0 a, fun a u hu => ?_, ⟨hos ▸ nd, fun x hx => ?_, fun x hx => ?_, fun a ha => if_neg ha⟩⟩
  · by_cases ha : a ∈ os'.map (·.1)
    · have hu' : (if a ∈ os'.map (·.1) then A a else A0 a) = some u := hu
      rw [if_pos ha] at hu'; exact hu'
    · have hu' : (if a ∈ os'.map (·.1) then A a else A0 a) = some u := hu
      rw [if_neg ha] at hu'; exact e.sub _ _ hu'
  · obtain ⟨i, hi⟩ := h x hx
    exact (e.get_pn hi).2.2
  · obtain ⟨i, hi⟩ := h x hx
    show (if x.1 ∈ os'.map (·.1) then A x.1 else A0 x.1) = _
    rw [if_pos (List.mem_map_of_mem hx)]
    exact (e.get_pn hi).2.1
end
section
variable {α β γ δ' κ τ ρ σ : Type} [Enc α] [Enc β] [Enc γ] [Enc δ'] [KeyT κ] {w : DW} {A0 : AH} {ss : List Sl} {X : String → List (String × D) → Prop} {D0 : DEnds} {V : τ → Prop} {i j : Nat} {q : Addr}
abbrev oP (q : Addr) (d : Dic κ α) : OT := .pn q (.dic (encKV d.l))
theorem sv_ownDP {l : Dic κ α} (h : ss[i]? = some (.own (oP q l))) : SV w A0 ss (eVar i) (.ok l) := fun δ A Q e hw => by
  obtain ⟨h1, h2, _⟩ := e.get_pn h
  rw [eVar_eq h1]
  refine hw _ ?_
  show (match A q with | some (.dic l) => some l | _ => none) = _
  rw [h2]
theorem ss_setDP [Enc κ] [KeyD κ] [DecidableEq κ] {te ti : DE} {rest : DS} {m : R α} {n : R κ} {d : Dic κ α} {k : Dic κ α → R τ} (hw : WE A0 w X ss) (hi : ss[i]? = some (.own (oP q d))) (he : SE w A0 ss te m) (hk : SE w A0 ss ti n) (hr : ∀ d', SS A0 X D0 V (ss.set i (.own (oP q d'))) rest (k d')) :
    SS A0 X D0 V ss (sSeq (sAsg te (dgSub (eVar i) ti)) rest) (m.bind fun a => n.bind fun j => (fewD d).bind fun _ => (R.ok (d.put j a)).bind k) := fun δ A e h => by
  obtain ⟨h1, h2, _⟩ := e.get_pn hi
  rw [sSeq_eq, sAsg_eq]
  refine he.run e h (fun c fs => hw c fs δ A e) fun a ha => ?_
  rw [dgSub_eq, eVar_eq h1]
  refine hk.run e ha (fun c fs => hw c fs δ A e) fun j hj => ?_
  unfold fewD at hj
  split at hj
  · rename_i hl
    show setD (.ref q) (enc j) (enc a) A _
    unfold setD
    simp only [h2, KeyD.ok]
    refine ⟨by simpa [encKV] using hl, ?_⟩
    have q3 := e.upd_pn (o' := .dic (encKV (d.put j a).l)) hi
    rw [encKV_put]; exact hr _ _ _ q3 hj
  · exact hj.elim
/-! ### how such a def ends -/
theorem pn_fall {Q : DK} {rt : DK} {s' : σ} {os : List (Addr × AO)} {f : σ → List (Addr × AO)} (nd : (os.map (·.1)).Nodup) (hos : (f s').map (·.1) = os.map (·.1)) (h : ∀ x ∈ f s', ∃ i : Nat, ss[i]? = some (Sl.own (.pn x.1 x.2))) :
    SS A0 X { nx := fun _ A => dropQ Q .non A, rt := rt } (fun s' : σ => ∀ A', NewL A0 (f s') A' → Q .non A') ss sNext (R.ok s') := fun δ A e hq => by
  obtain ⟨A2, s, n⟩ := e.finL nd hos h
  exact ⟨A2, s, hq A2 n⟩
/-! ### such a def called -/
open Classical in
theorem less_new {A : AH} {p : Addr} {o : AO} (h : A p = some o) : NewL (AH.less A [p]) [(p, o)] A :=
  ⟨by simp, fun x hx => by rw [List.mem_singleton.mp hx]; exact if_pos (List.mem_singleton.mpr rfl), fun x hx => by rw [List.mem_singleton.mp hx]; exact h, fun a ha => (if_neg (by simpa using ha)).symm⟩
open Classical in
theorem new_put {A A' : AH} {p : Addr} {o o' : AO} (h : A p = some o) (n : NewL (AH.less A [p]) [(p, o')] A') : A' = A.put p o' := by
  funext a
  by_cases ha : a = p
  · subst ha; rw [AH.put_same]; exact n.at_ _ List.mem_cons_self
  · rw [AH.put_ne A o' ha, n.out a (by simpa using ha)]
    exact if_neg (by simpa using ha)
end
end TF
namespace TF
open PySem PySem.Spec PyProof.Rows L2 DL FR
open Enc KeyT
section
variable {α τ : Type} [Enc α] {w : DW} {A0 : AH} {ss : List Sl} {X : String → List (String × D) → Prop} {D0 : DEnds} {V : τ → Prop}
end
end TF
namespace TF
open PySem PySem.Spec PyProof.Rows L2 DL FR
open Enc KeyT
/-- some texts as a tuple -/
structure StopV where
  l : List Str
  deriving DecidableEq
instance : Enc StopV := { enc := fun t => .tup (t.l.map D.str) }
instance : NN StopV := ⟨fun _ => rfl⟩
instance : NR StopV := ⟨fun _ _ h => D.noConfusion h, fun h => h⟩
theorem deqs_strs : ∀ a b : List Str, deqs (a.map D.str) (b.map D.str) = decide (a = b)
  | [], [] => by simp [deqs]
  | [], _ :: _ => by simp [deqs]
  | _ :: _, [] => by simp [deqs]
  | x :: a, y :: b => by
    rw [List.map_cons, List.map_cons, deqs_cons, deqs_strs a b, deq_str]
    by_cases h : x = y <;> simp [h]
theorem dts_strs {n : Nat} : ∀ a : List Str, (∀ s ∈ a, PyData.strOk s = true) → dts n (a.map D.str) = true
  | [], _ => by simp [dts]
  | x :: a, h => by
    rw [List.map_cons, dts_cons, dt_str, h x List.mem_cons_self, dts_strs a fun s hs => h s (List.mem_cons_of_mem _ hs)]; rfl
instance : EqD StopV where
  good t := ∀ s ∈ t.l, PyData.strOk s = true
  dep := 2
  dt_enc t n h hn := dt_t (by omega) (dts_strs _ h)
  deq_enc a b h k := by
    show deq (.tup (a.l.map D.str)) (.tup (b.l.map D.str)) = _
    rw [deq_tup, deqs_strs]
    cases a; cases b; simp
  vw_dt A d a n h q := vw_dtNR A d a n h q
  vw_deq A x y a b h k := vw_deqNR A x y a b h k
section
variable {α β τ : Type} [Enc α] [Enc β] {w : DW} {A0 : AH} {ss : List Sl} {X : String → List (String × D) → Prop} {D0 : DEnds} {V : τ → Prop} {i j : Nat}
end
end TF


/-! TFE: how often, and where first, a truth stands in a list. -/
namespace TF
open PySem PySem.Spec PyProof.Rows L2 DL FR
open Enc KeyT
section
variable {w : DW} {A0 : AH} {ss : List Sl}
theorem tyM_asL {A : AH} {d : D} {l : List D} (h : asL A d = some l) : tyM A d "list" := by
  cases d with
  | lst m => exact rfl
  | rol m => exact rfl
  | ref p =>
    have h' : (match A p with | some (.lst l) => some l | _ => none) = some l := h
    show (match A p with | some (.lst _) => ("list" : String) = "list" | some (.dic _) => ("list" : String) = "dict" | _ => False)
    split at h'
    · rename_i q; rw [q]
    · cases h'
  | _ => exact nomatch h
theorem boolsD_enc : ∀ l : List Bool, boolsD (l.map enc) = some l
  | [] => rfl
  | b :: l => by
    show (boolsD (l.map enc)).map (b :: ·) = _
    rw [boolsD_enc l]; rfl
def idxB (l : List Bool) (b : Bool) : R Int := match l.findIdx? (· == b) with
  | some j => .ok (j : Nat)
  | none => .bad
theorem se_cntB {t u : DE} {m : R (List Bool)} {n : R Bool} (h : SV w A0 ss t m) (h2 : SE w A0 ss u n) : SE w A0 ss (eMt "list" mCntB t (aCons u aNil)) (R.b2 m n fun l b => .ok ((l.countP (· == b) : Nat) : Int)) := fun δ A Q e hw => by
  rw [eMt_eq]
  refine h.run e hw (fun _ _ => id) fun l d hd hw => ?_
  have hd' : asL A d = some (l.map enc) := hd
  refine ⟨tyM_asL hd', ?_⟩
  rw [aCons_eq]
  refine h2.run e hw (fun _ _ => id) fun b hb => ?_
  rw [aNil_eq]
  show mCntB d [.bl b] A Q
  unfold mCntB
  simp only [hd', boolsD_enc]
  exact hb
theorem se_idxB {t u : DE} {m : R (List Bool)} {n : R Bool} (h : SV w A0 ss t m) (h2 : SE w A0 ss u n) : SE w A0 ss (eMt "list" mIdxB t (aCons u aNil)) (R.b2 m n idxB) := fun δ A Q e hw => by
  rw [eMt_eq]
  refine h.run e hw (fun _ _ => id) fun l d hd hw => ?_
  have hd' : asL A d = some (l.map enc) := hd
  refine ⟨tyM_asL hd', ?_⟩
  rw [aCons_eq]
  refine h2.run e hw (fun _ _ => id) fun b hb => ?_
  rw [aNil_eq]
  show mIdxB d [.bl b] A Q
  unfold mIdxB
  simp only [hd', boolsD_enc]
  unfold idxB at hb
  split at hb
  · rename_i j hj
    first | exact hb | (simp only [hj]; exact hb)
  · exact hb.elim
end
end TF


/-! TFF: isinstance of a caught error, with fields or none. -/
namespace TF
open PySem PySem.Spec PyProof.Rows L2 DL FR
open Enc KeyT
section
variable {w : DW} {A0 : AH} {ss : List Sl}
/-! x in (a, b, ..) -/
class FlatT (α : Type) [Enc α] where
  flat : ∀ a : α, opIn.flatD (enc a) = true
instance : FlatT Int := ⟨fun _ => rfl⟩
instance : FlatT Bool := ⟨fun _ => rfl⟩
instance : FlatT Str := ⟨fun _ => rfl⟩
end
end TF


/-! TFG: list(reversed(range(n))). -/
namespace TF
open PySem PySem.Spec PyProof.Rows L2 DL FR
open Enc KeyT
section
variable {w : DW} {A0 : AH} {ss : List Sl}
end
end TF


/-! TFH: dict(d), d a dict: a copy of one's own. -/
namespace TF
open PySem PySem.Spec PyProof.Rows L2 DL FR
open Enc KeyT
section
variable {α κ : Type} [Enc α] [KeyT κ]
end
end TF


/-! TFI: a list handed in and changed there. -/
namespace TF
open PySem PySem.Spec PyProof.Rows L2 DL FR
open Enc KeyT
section
variable {α β γ δ' ε ζ η τ : Type} [Enc α] [Enc β] [Enc γ] [Enc δ'] [Enc ε] [Enc ζ] [Enc η] {w : DW} {A0 : AH} {ss : List Sl} {X : String → List (String × D) → Prop} {D0 : DEnds} {V : τ → Prop} {i j : Nat} {q : Addr}
end
end TF


/-! TFJ: sorted(set(texts)). -/
namespace TF
open PySem PySem.Spec PyProof.Rows L2 DL FR
open Enc KeyT
/-- each text once -/
def dedS : List Str → List Str
  | [] => []
  | x :: l => if x ∈ dedS l then dedS l else x :: dedS l
theorem dedS_mem : ∀ {l : List Str} {x : Str}, x ∈ dedS l ↔ x ∈ l
  | [], x => Iff.rfl
  | y :: l, x => by
    unfold dedS
    split
    · rename_i h
      rw [dedS_mem, List.mem_cons]
      refine ⟨.inr, fun h' => h'.elim (fun e => ?_) id⟩
      rw [e]; exact dedS_mem.mp h
    · rw [List.mem_cons, List.mem_cons, dedS_mem]
theorem dedS_nd (l : List Str) : (dedS l).Nodup := by
  induction l with
  | nil => exact List.nodup_nil
  | cons y l ih =>
    unfold dedS
    split
    · exact ih
    · rename_i h
      exact List.nodup_cons.mpr ⟨h, ih⟩
def sortSetR (l : List Str) : R (List Str) := if l.length < 4000 ∧ (dedS l).length < 64 then .ok (sortS (dedS l)) else .bad
section
variable {w : DW} {A0 : AH} {ss : List Sl}
end
end TF


/-! TFK: dict(pairs); list.index of a text. -/
namespace TF
open PySem PySem.Spec PyProof.Rows L2 DL FR
open Enc KeyT
section
variable {α : Type} [Enc α]
end
section
variable {w : DW} {A0 : AH} {ss : List Sl}
end
end TF


/-! TFL: x = f(a, d, e), f changing two dicts of one's own. -/
namespace TF
open PySem PySem.Spec PyProof.Rows L2 DL FR
open Enc KeyT
section
variable {α ρ δ1 δ2 κ1 κ2 τ : Type} [Enc α] [Enc ρ] [Enc δ1] [Enc δ2] [KeyT κ1] [KeyT κ2] {w : DW} {A0 : AH} {ss : List Sl} {X : String → List (String × D) → Prop} {D0 : DEnds} {V : τ → Prop} {i i2 j : Nat}
end
end TF


/-! TFM: books; t[i], t a tie, i its third or fourth place. -/
namespace TF
open PySem PySem.Spec PyProof.Rows L2 DL FR
open Enc KeyT
structure BookV where
  kept : List TieV
abbrev fBook (t : BookV) : Flds := [("kept", .inr (.lst (t.kept.map enc)))]
/-- a book: frozen, or one that may change, as it stands in the heap -/
instance : Enc BookV where
  enc := fun t => .obj "Book" (((fBook t).map frzF).map (·.1)) (((fBook t).map frzF).map (·.2))
  vw := fun A d b => ∃ dk, asObj A d = some ("Book", [("kept", dk)]) ∧ asL A dk = some (b.kept.map enc)
  vw_enc := fun A b => ⟨.lst (b.kept.map enc), rfl, rfl⟩
  vw_mono := fun {A B d a} s ⟨dk, h1, h2⟩ => ⟨dk, by
    cases d with
    | ref x =>
      have h' : (match A x with | some (.obj c fs) => some (c, fs) | _ => none) = some ("Book", [("kept", dk)]) := h1
      show (match B x with | some (.obj c fs) => some (c, fs) | _ => none) = some ("Book", [("kept", dk)])
      split at h'
      · rename_i q; rw [s _ _ q]; exact h'
      · cases h'
    | _ => exact h1, asL_sub s h2⟩
section
variable {α σ γ : Type} [Enc α] {w : DW} {A0 : AH} {ss : List Sl} {cs : List String} {c : String} {flds : σ → Flds} {sp : DSp}
end
end TF


/-! TFN: methods of two and three arguments. -/
namespace TF
open PySem PySem.Spec PyProof.Rows L2 DL FR
open Enc KeyT
@[simp] theorem toRat_exc {p : Int × Int} {c : String} {gs : List (String × D)} : toRat p = .exc c gs ↔ False := by
  unfold toRat
  split <;> simp
section
variable {α β γ δ' ρ : Type} [Enc α] [Enc β] [Enc γ] [Enc δ'] [Enc ρ] {w : DW} {A0 : AH} {ss : List Sl}
end
end TF


/-! TFO: told lists cleared by the asker: a def's own rows over lists taken back. -/
namespace TF
open PySem PySem.Spec PyProof.Rows L2 DL FR
open Enc KeyT
class SimpE (α : Type) [Enc α] where
  sm : ∀ a : α, Simp (enc a)
instance : SimpE Int := ⟨fun _ => trivial⟩
instance : SimpE Bool := ⟨fun _ => trivial⟩
instance : SimpE Str := ⟨fun _ => trivial⟩
instance : SimpE Rat := ⟨fun q => by show Simp (frD q); rw [frD_def]; exact ⟨trivial, trivial, trivial⟩⟩
section
variable {α β γ δ' : Type} [Enc α] [Enc β] [Enc γ] [Enc δ'] [SimpE α] [SimpE β] [SimpE γ] [SimpE δ']
instance : SimpE (α × β) := ⟨fun t => ⟨SimpE.sm t.1, SimpE.sm t.2, trivial⟩⟩
instance : SimpE (T3 α β γ) := ⟨fun t => ⟨SimpE.sm t.a, SimpE.sm t.b, SimpE.sm t.c, trivial⟩⟩
instance : SimpE (T4 α β γ δ') := ⟨fun t => ⟨SimpE.sm t.a, SimpE.sm t.b, SimpE.sm t.c, SimpE.sm t.d, trivial⟩⟩
instance : SimpE (Option α) := ⟨fun o => by cases o with | none => exact trivial | some a => exact SimpE.sm a⟩
end
instance : SimpE TieV := ⟨fun t => ⟨SimpE.sm t.name, SimpE.sm t.start, SimpE.sm t.fin, SimpE.sm t.low, SimpE.sm t.high, trivial⟩⟩
section
variable {A0 A : AH} {B : List Addr} {ss : List Sl} {δ : DSt}
theorem NoLs.mem {L : List (List D)} : ∀ {l : List D} {d : D}, NoLs L l → d ∈ l → NoL L d
  | x :: l, d, h, hd => by
    rcases List.mem_cons.mp hd with rfl | hd
    · exact h.1
    · exact NoLs.mem h.2 hd
theorem EnvR.len (h : EnvR A0 A B ss δ) : ss.length = δ.length := by
  induction h with
  | nil => rfl
  | emp _ ih => simp [ih]
  | val _ ih => simp [ih]
  | own _ _ _ _ ih => simp [ih]
end
section
variable {α β γ τ : Type} [Enc α] [Enc β] [Enc γ] [SimpE α] [SimpE β] [SimpE γ] {A0 : AH} {X : String → List (String × D) → Prop} {D0 : DEnds} {V : τ → Prop} {ss : List Sl}
end
section
variable {K : PySem.W.Frag} {Z0 : Hp} {Xc : Cx} {rest : List Stmt} {t : DS}
end
end TF


/-! TFP: sorted(d.items()); the pairs in an error's one field. -/
namespace TF
open PySem PySem.Spec PyProof.Rows L2 DL FR
open Enc KeyT
noncomputable def sortItR (d : Dic Str Rat) : R (List (Str × Rat)) := if d.l.length < 64 ∧ (d.l.map (·.1)).Nodup then .ok ((sortS (d.l.map (·.1))).map fun k => (k, (d.get? k).getD 0)) else .bad
section
variable {w : DW} {A0 : AH} {ss : List Sl}
end
end TF


/-! TFQ: two told lists of one content, cleared by the asker. -/
namespace TF
open PySem PySem.Spec PyProof.Rows L2 DL FR
open Enc KeyT
section
variable {α τ : Type} [Enc α] [SimpE α] {A0 : AH} {X : String → List (String × D) → Prop} {D0 : DEnds} {V : τ → Prop} {ss : List Sl}
end
end TF


/-! TFR: an object's own list: an item set, taken out; an own list's item dropped. -/
namespace TF
open PySem PySem.Spec PyProof.Rows L2 DL FR
open Enc
section
variable {α β κ τ : Type} [Enc α] [Enc β] {w : DW} {A0 : AH} {ss : List Sl} {X : String → List (String × D) → Prop} {D0 : DEnds} {V : τ → Prop} {i : Nat} {c f : String} {pin : Option Addr} {cs : List String} {fs fs' : List (String × (D ⊕ AO))}
end
end TF


/-! TFS: try with two clauses. -/
namespace TF
open PySem PySem.Spec PyProof.Rows L2 DL FR
open Enc
section
variable {σ τ : Type} {w : DW} {A0 : AH} {ss : List Sl} {X : String → List (String × D) → Prop} {D0 : DEnds} {V : τ → Prop}
end
end TF


/-! TFT: a def that changes an object and a list handed to it. -/
namespace TF
open PySem PySem.Spec PyProof.Rows L2 DL FR
open Enc
/-- what stands, and two own things beside it -/
def New2 (A0 : AH) (t : OT) (p : Addr) (u : OT) (q : Addr) (A : AH) : Prop := ∃ C E, Own A t p C ∧ Own A u q E ∧ (∀ a ∈ C, a ∉ E) ∧ (∀ a ∈ C, A0 a = none) ∧ (∀ a ∈ E, A0 a = none) ∧ ∀ a, a ∉ C → a ∉ E → A a = A0 a
section
variable {A0 A : AH} {ss : List Sl} {δ : DSt} {i j : Nat} {t u : OT} {p q : Addr}
theorem New2.sub (h : New2 A0 t p u q A) : Sub A0 A := by
  obtain ⟨C, E, _, _, _, h1, h2, h3⟩ := h
  intro a x e
  rw [h3 a (fun hc => by rw [h1 a hc] at e; cases e) fun hc => by rw [h2 a hc] at e; cases e]
  exact e
/-- a def's first two slots -/
theorem New2.env {vs : List Sl} {δ' : DSt} (h : New2 A0 t p u q A) (hv : EnvR A0 A [] vs δ') : Env A0 (.own t :: .own u :: vs) (some (.ref p) :: some (.ref q) :: δ') A := by
  have s := h.sub
  obtain ⟨C, E, o1, o2, dj, h1, h2, _⟩ := h
  refine ⟨s, C ++ (E ++ []), .own (.own hv o2 (fun a _ hb => (nomatch hb)) h2) o1 (fun a ha hb => ?_) h1⟩
  rw [List.append_nil] at hb
  exact dj a ha hb
end
section
variable {α β γ ρ τ : Type} [Enc α] [Enc β] [Enc γ] [Enc ρ] {w : DW} {A0 : AH} {ss : List Sl} {X : String → List (String × D) → Prop} {D0 : DEnds} {V : τ → Prop} {i j : Nat}
end
end TF


/-! TFU: data read as what it was; a list handed in, popped from and set. -/
namespace TF
open PySem PySem.Spec PyProof.Rows L2 DL FR
open Enc
class EncInj (α : Type) [Enc α] : Prop where
  inj : ∀ {a b : α}, enc a = enc b → a = b
instance : EncInj Str := ⟨fun h => by injection h⟩
instance : EncInj Bool := ⟨fun h => by injection h⟩
instance : EncInj Int := ⟨fun h => by injection h⟩
instance : EncInj Rat := ⟨fun {a b} h => by
  have h : frD a = frD b := h
  rw [frD_def, frD_def] at h
  injection h with h
  injection h with h1 h
  injection h with h2 _
  injection h1 with h1
  injection h2 with h2
  exact Rat.ext h1 (by exact_mod_cast h2)⟩
section
variable {α β γ : Type} [Enc α] [Enc β] [Enc γ] [EncInj α] [EncInj β] [EncInj γ]
theorem encL_inj : ∀ {l m : List α}, l.map enc = m.map enc → l = m
  | [], [], _ => rfl
  | [], _ :: _, h => by cases h
  | _ :: _, [], h => by cases h
  | x :: l, y :: m, h => by
    rw [List.map_cons, List.map_cons] at h
    injection h with h1 h2
    rw [EncInj.inj h1, encL_inj h2]
instance : EncInj (List α) := ⟨fun {a b} h => by
  have h : D.lst (a.map enc) = D.lst (b.map enc) := h
  injection h with h
  exact encL_inj h⟩
instance : EncInj (α × β) := ⟨fun {a b} h => by
  have h : D.tup [enc a.1, enc a.2] = D.tup [enc b.1, enc b.2] := h
  injection h with h
  injection h with h1 h
  injection h with h2 _
  exact Prod.ext (EncInj.inj h1) (EncInj.inj h2)⟩
instance : EncInj (T3 α β γ) := ⟨fun {a b} h => by
  have h : D.tup [enc a.a, enc a.b, enc a.c] = D.tup [enc b.a, enc b.b, enc b.c] := h
  injection h with h
  injection h with h1 h
  injection h with h2 h
  injection h with h3 _
  obtain ⟨_, _, _⟩ := a
  obtain ⟨_, _, _⟩ := b
  rw [T3.mk.injEq]
  exact ⟨EncInj.inj h1, EncInj.inj h2, EncInj.inj h3⟩⟩
end
theorem encO_inj {α : Type} [Enc α] [EncInj α] [NN α] {a b : Option α} (h : enc a = enc b) : a = b := by
  cases a with
  | none => cases b with
    | none => rfl
    | some y =>
      have h : D.non = enc y := h
      have := NN.nn y
      rw [← h] at this
      cases this
  | some x => cases b with
    | none =>
      have h : enc x = D.non := h
      have := NN.nn x
      rw [h] at this
      cases this
    | some y =>
      have h : enc x = enc y := h
      rw [EncInj.inj h]
instance {α : Type} [Enc α] [EncInj α] [NN α] : EncInj (Option α) := ⟨encO_inj⟩
instance : EncInj TieV := ⟨fun {a b} h => by
  have h : D.tup [enc a.name, enc a.start, enc a.fin, enc a.low, enc a.high] = D.tup [enc b.name, enc b.start, enc b.fin, enc b.low, enc b.high] := h
  injection h with h
  injection h with h1 h
  injection h with h2 h
  injection h with h3 h
  injection h with h4 h
  injection h with h5 _
  obtain ⟨_, _, _, _, _⟩ := a
  obtain ⟨_, _, _, _, _⟩ := b
  rw [TieV.mk.injEq]
  exact ⟨EncInj.inj h1, EncInj.inj h2, EncInj.inj h3, EncInj.inj h4, EncInj.inj h5⟩⟩
open Classical in
/-- data read as what it was -/
noncomputable def unE (α : Type) [Enc α] (d : D) : R α := if h : ∃ a : α, d = enc a then .ok h.choose else .bad
theorem unE_ok {α : Type} [Enc α] [EncInj α] {a : α} : unE α (enc a) = .ok a := by
  have h : ∃ b : α, (enc a : D) = enc b := ⟨a, rfl⟩
  unfold unE
  rw [dif_pos h]
  congr 1
  exact (EncInj.inj h.choose_spec).symm
section
variable {α τ : Type} [Enc α] {w : DW} {A0 : AH} {ss : List Sl} {X : String → List (String × D) → Prop} {D0 : DEnds} {V : τ → Prop} {i : Nat} {q : Addr}
theorem se_unE {t : DE} {m : R D} (h : SE w A0 ss t m) : SE w A0 ss t (m.bind (unE α)) := fun δ A Q e hw => by
  refine h.run e hw (fun _ _ => id) fun d hd => ?_
  unfold unE at hd
  split at hd
  · rename_i hx
    have e2 := hx.choose_spec
    rw [show (enc d : D) = d from rfl]
    exact e2 ▸ hd
  · exact hd.elim
end
end TF


/-! TFV: a book or None; what must raise; a def that changes a book and a list, called in a test; a list that is let go. -/
namespace TF
open PySem PySem.Spec PyProof.Rows L2 DL FR
open Enc
instance : EncInj D := ⟨fun h => h⟩
structure BookO where
  o : Option BookV
instance : Enc BookO where
  enc := fun b => match b.o with
    | none => .non
    | some x => enc x
  vw := fun A d b => match b.o with
    | none => d = .non
    | some x => vw A d x
  vw_enc := fun A b => by
    obtain ⟨o⟩ := b
    cases o with
    | none => rfl
    | some x => exact vw_enc A x
  vw_mono := fun {A B d b} s h => by
    obtain ⟨o⟩ := b
    cases o with
    | none => exact h
    | some x => exact vw_mono (α := BookV) s h
section
variable {α β ρ σ τ : Type} [Enc α] [Enc β] [Enc ρ] {w : DW} {A0 : AH} {ss : List Sl} {X : String → List (String × D) → Prop} {D0 : DEnds} {V : τ → Prop} {i j : Nat} {name : String} {tb : List (String × DSp)} {sp : DSp}
end
end TF


/-! TFW: a desk: an object whose first field is a book of its own. -/
namespace TF
open PySem PySem.Spec PyProof.Rows L2 DL FR
open Enc
structure DeskV where
  book : BookV
  thing : ThingV
instance : Enc DeskV where
  enc := fun d => .obj "Desk" ["book", "kept_thing"] [enc d.book, enc d.thing]
  vw := fun A x d => ∃ bk, asObj A x = some ("Desk", [("book", bk), ("kept_thing", enc d.thing)]) ∧ vw A bk d.book
  vw_enc := fun A d => ⟨enc d.book, rfl, vw_enc A d.book⟩
  vw_mono := fun {A B x d} s ⟨bk, h1, h2⟩ => ⟨bk, by
    cases x with
    | ref a =>
      have h' : (match A a with | some (.obj c fs) => some (c, fs) | _ => none) = some ("Desk", [("book", bk), ("kept_thing", enc d.thing)]) := h1
      show (match B a with | some (.obj c fs) => some (c, fs) | _ => none) = some ("Desk", [("book", bk), ("kept_thing", enc d.thing)])
      split at h'
      · rename_i q; rw [s _ _ q]; exact h'
      · cases h'
    | _ => exact h1, vw_mono (α := BookV) s h2⟩
section
variable {α β ρ σ τ : Type} [Enc α] [Enc β] [Enc ρ] {w : DW} {A0 : AH} {ss : List Sl} {X : String → List (String × D) → Prop} {D0 : DEnds} {V : τ → Prop} {i j : Nat} {cs : List String} {pin : Option Addr} {d : DeskV}
end
end TF


/-! TFX: a desk's book changed, its thing set; a desk made; defs that change a thing of one's own and tell something. -/
namespace TF
open PySem PySem.Spec PyProof.Rows L2 DL FR
open Enc
section
variable {α β ρ σ τ : Type} [Enc α] [Enc β] [Enc ρ] {w : DW} {A0 : AH} {ss : List Sl} {X : String → List (String × D) → Prop} {D0 : DEnds} {V : τ → Prop} {i j : Nat} {cs : List String} {pin : Option Addr} {d : DeskV} {name : String} {tb : List (String × DSp)} {sp : DSp}
end
end TF


/-! TFY: text.split(sep). -/
namespace TF
open PySem PySem.Spec PyProof.Rows L2 DL FR
open Enc
section
variable {w : DW} {A0 : AH} {ss : List Sl}
end
end TF


/-! TFZ: a desk's methods that change it and tell something. -/
namespace TF
open PySem PySem.Spec PyProof.Rows L2 DL FR
open Enc
section
variable {α β ρ σ τ : Type} [Enc α] [Enc β] [Enc ρ] {w : DW} {A0 : AH} {ss : List Sl} {X : String → List (String × D) → Prop} {D0 : DEnds} {V : τ → Prop} {i j : Nat} {pin : Option Addr} {d : DeskV} {name : String} {tb : List (String × DSp)} {sp : DSp}
end
end TF


/-! UF0: own dicts whose keys are pairs of a text and a truth. -/
namespace TF
open PySem PySem.Spec PyProof.Rows L2 DL FR
open TF.Enc
structure DicT (α : Type) where l : List (KP × α)
section
variable {α β τ : Type} [Enc α] [Enc β] [HashT] {A0 : AH} {X : String → List (String × D) → Prop} {D0 : DEnds} {V : τ → Prop} {ss : List Sl} {w : DW}
def encT (l : List (KP × α)) : List (KP × D) := l.map fun p => (p.1, enc p.2)
abbrev oT (d : DicT α) : OT := .ao (.tk HashT.hf (encT d.l))
omit [Enc α] [HashT] in
def DicT.get? (d : DicT α) (k : KP) : Option α := (d.l.find? fun p => decide (p.1 = k)).map (·.2)
omit [Enc α] [HashT] in
def DicT.put (d : DicT α) (k : KP) (a : α) : DicT α := ⟨if (d.l.any fun p => decide (p.1 = k)) = true then d.l.map (fun p => if p.1 = k then (p.1, a) else p) else d.l ++ [(k, a)]⟩
omit [Enc α] [HashT] in
def getT (d : DicT α) (k : KP) : R α := match d.get? k with
  | some a => .ok a
  | none => .bad
end
end TF


/-! UF1: expressions that change things of one's own and tell something; a desk's own methods. -/
namespace TF
open PySem PySem.Spec PyProof.Rows L2 DL FR
open Enc
open Classical in
noncomputable def F_is_name (d : D) : R Bool := match d with
  | .str z => if Few z.length then .ok (nameB z) else .bad
  | _ => .bad
instance : EncInj PartV := ⟨fun {a b} h => by
  obtain ⟨a1, a2, a3, a4, a5, a6⟩ := a
  obtain ⟨b1, b2, b3, b4, b5, b6⟩ := b
  have h : D.tup [enc a1, enc a2, enc a3, enc a4, enc a5, enc a6] = D.tup [enc b1, enc b2, enc b3, enc b4, enc b5, enc b6] := h
  simp only [D.tup.injEq, List.cons.injEq, and_true] at h
  obtain ⟨h1, h2, h3, h4, h5, h6⟩ := h
  rw [EncInj.inj h1, EncInj.inj h2, EncInj.inj h3, EncInj.inj h4, EncInj.inj h5, EncInj.inj h6]⟩
instance : EncInj GapV := ⟨fun {a b} h => by
  obtain ⟨a1, a2, a3, a4, a5⟩ := a
  obtain ⟨b1, b2, b3, b4, b5⟩ := b
  have h : D.tup [enc a1, enc a2, enc a3, enc a4, enc a5] = D.tup [enc b1, enc b2, enc b3, enc b4, enc b5] := h
  simp only [D.tup.injEq, List.cons.injEq, and_true] at h
  obtain ⟨h1, h2, h3, h4, h5⟩ := h
  rw [EncInj.inj h1, EncInj.inj h2, EncInj.inj h3, EncInj.inj h4, EncInj.inj h5]⟩
section
variable {α β γ ρ ρ' σ τ : Type} [Enc α] [Enc β] [Enc γ] [Enc ρ] [Enc ρ'] {w : DW} {A0 : AH} {ss : List Sl} {X : String → List (String × D) → Prop} {D0 : DEnds} {V : τ → Prop} {i j : Nat} {pin : Option Addr} {d : DeskV} {name : String} {tb : List (String × DSp)} {sp : DSp} {up : σ → List Sl}
/-- an expression that tells ρ and changes own things to σ -/
def SEf (w : DW) (A0 : AH) (ss : List Sl) (t : DE) (m : R (ρ × σ)) (up : σ → List Sl) : Prop := ∀ (δ : DSt) (A : AH) (K : DK) (X : String → List (String × D) → Prop), WE A0 w X ss → Env A0 ss δ A →
  m.wp (fun r => ∀ A', Env A0 (up r.2) δ A' → K (enc r.1) A') X → t δ A K
/-- arguments, as a nested tuple -/
def SAs (w : DW) (A0 : AH) (ss : List Sl) (t : DA) (m : R σ) (f : σ → List D) : Prop := ∀ (δ : DSt) (A : AH) (Q : List D → AH → Prop), Env A0 ss δ A → m.wp (fun a => Q (f a) A) (fun c fs => w c fs δ A) → t δ A Q
theorem SAs.run {ts : DA} {m : R σ} {f : σ → List D} {k : σ → R τ} {δ : DSt} {A : AH} {Q : List D → AH → Prop} (h : SAs w A0 ss ts m f) (e : Env A0 ss δ A) (hw : (m.bind k).wp V X) (hx : ∀ c fs, X c fs → w c fs δ A) (hk : ∀ a, (k a).wp V X → Q (f a) A) : ts δ A Q :=
  h δ A Q e (by rw [R.wp_bind] at hw; exact R.wp_imp hw hk hx)
theorem SEf.go {t : DE} {m : R (ρ × σ)} {k : ρ × σ → R τ} {δ : DSt} {A : AH} {K : DK} (h : SEf w A0 ss t m up) (hw : WE A0 w X ss) (e : Env A0 ss δ A) (hm : (m.bind k).wp V X) (hK : ∀ r A', Env A0 (up r.2) δ A' → (k r).wp V X → K (enc r.1) A') : t δ A K :=
  h δ A K X hw e (by rw [R.wp_bind] at hm; exact R.wp_imp hm (fun r hr A' e' => hK r A' e' hr) fun _ _ h => h)
end
end TF


/-! UF2: loops in defs that change things handed to them; such defs called with other things of one's own beside. -/
namespace TF
open PySem PySem.Spec PyProof.Rows L2 DL FR
open Enc
section
variable {α β γ ρ ρ' σ τ υ : Type} [Enc α] [Enc β] [Enc γ] [Enc ρ] [Enc ρ'] {w : DW} {A0 A : AH} {ss : List Sl} {δ : DSt} {X : String → List (String × D) → Prop} {D0 : DEnds} {V : τ → Prop} {i j : Nat} {pin : Option Addr} {d : DeskV} {name : String} {tb : List (String × DSp)} {sp : DSp} {up : σ → List Sl} {t u : OT}
/-! ### a list of three texts -/
structure L3 where (a b c : Str)
instance : Enc L3 := { enc := fun t => .lst [.str t.a, .str t.b, .str t.c] }
def L3.l (t : L3) : List Str := [t.a, t.b, t.c]
end
end TF


/-! UF4: a desk that stands frozen: what would change it must raise (k73). -/
namespace TF
open PySem PySem.Spec PyProof.Rows L2 DL FR
open Enc KeyT
section
variable {α β τ γ : Type} [Enc α] [Enc β] {A0 : AH} {X : String → List (String × D) → Prop} {D0 : DEnds} {V : τ → Prop} {ss : List Sl} {w : DW} {i : Nat} {name : String} {tb : List (String × DSp)} {sp : DSp} {cs : List String}
end
end TF


/-! UF5: tuples of any length; two lists of one's own in a list of one's own; a def that changes a dict and has two arguments beside. -/
namespace TF
open PySem PySem.Spec PyProof.Rows L2 DL FR
open Enc KeyT
structure TupD where
  l : List D
instance : Enc TupD := { enc := fun t => .tup t.l }
instance : EncInj TupD := ⟨fun {a b} h => by
  have h' : D.tup a.l = D.tup b.l := h
  cases a; cases b
  injection h' with e
  exact congrArg TupD.mk e⟩
theorem mapEnc (l : List D) : l.map (enc (α := D)) = l := List.map_id l
theorem encU (t : TupD) : (enc t : D) = D.tup (t.l.map enc) := by rw [mapEnc]; rfl
def ixTup (t : TupD) (i : Int) : R D := ixL t.l i
theorem op_ixTup : OpE opIx ixTup := fun A t i Q X hw => by
  show opIx (.tup t.l) (.int i) A Q
  unfold ixTup ixL at hw
  rw [opIx_tup]
  split at hw
  · rename_i a ha
    rw [ha]; exact hw
  · exact hw.elim
def catU (a b : TupD) : R TupD := if a.l.length + b.l.length < 1000000 then .ok ⟨a.l ++ b.l⟩ else .bad
theorem op_catU {mk : DL.Mk} : OpE (opAdd mk) catU := fun A a b Q X hw => by
  unfold catU at hw
  split at hw
  · rename_i h
    exact opAdd_tt h hw
  · exact hw.elim
theorem cb_lenU : CbE bLen (fun (t : TupD) => .ok (t.l.length : Int)) := fun A t Q X hw => by
  show bLen [.tup t.l] A Q
  rw [bLen_tup]; exact hw
section
variable {α β γ κ δ' τ : Type} [Enc α] [Enc β] [Enc γ] [KeyT κ] [Enc δ'] {w : DW} {A0 : AH} {ss : List Sl} {X : String → List (String × D) → Prop} {D0 : DEnds} {V : τ → Prop} {i : Nat}
theorem se_slU {mk : DL.Mk} {t : DE} {lo hi : DOpt} {m : R TupD} {ml mh : R (Option Int)} (h : SE w A0 ss t m) (h1 : SOp w A0 ss lo ml) (h2 : SOp w A0 ss hi mh) : SE w A0 ss (eSl mk t lo hi) (m.bind fun l => ml.bind fun a => mh.bind fun b => R.ok (⟨cut l.l a b⟩ : TupD)) := fun δ A Q e hw => by
  rw [eSl_eq]
  exact h.run e hw (fun _ _ => id) fun l hw => h1.run e hw (fun _ _ => id) fun a hw => h2.run e hw (fun _ _ => id) fun b hw => by
    show opSl mk (.tup l.l) a b A Q
    rw [opSl_tup]
    have e2 := cut_map (ρ := Unit) (f := (id : D → D)) l.l a b
    rw [List.map_id, List.map_id] at e2
    rw [e2]; exact hw
/-- f(d, a, b), d a dict of one's own -/
theorem ss_io1of3 {t1 t2 : DE} {m1 : R α} {m2 : R β} {sp : DSp} {d : Dic κ δ'} {F : Dic κ δ' → α → β → R (Dic κ δ')} {rest : DS} {k : Dic κ δ' → R τ} (hw : WE A0 w X ss) (hi : ss[i]? = some (.own (oD d)))
    (hs : ∀ A0 A p a b (Q : DK) (E : DX), NewL A0 [(p, .dic (encKV d.l))] A → (F d a b).wp (fun d' => ∀ A', NewL A0 [(p, .dic (encKV d'.l))] A' → Q .non A') (fun _ _ => False) → sp [.ref p, enc a, enc b] A Q E)
    (h1 : SE w A0 ss t1 m1) (h2 : SE w A0 ss t2 m2) (hr : ∀ d', SS A0 X D0 V (ss.set i (.own (oD d'))) rest (k d')) :
    SS A0 X D0 V ss (sSeq (sDrop (eCall w sp [] (aCons (eVar i) (aCons t1 (aCons t2 aNil))))) rest) (m1.bind fun a => m2.bind fun b => ((F d a b).noexc).bind k) := fun δ A e h => by
  obtain ⟨p, e1, e2, _⟩ := e.get_own hi
  rw [sSeq_eq, sDrop_eq]
  show aCons (eVar i) _ δ A _
  rw [aCons_eq, eVar_eq e1, aCons_eq]
  refine h1.run e h (fun c fs => hw c fs δ A e) fun a ha => ?_
  rw [aCons_eq]
  refine h2.run e ha (fun c fs => hw c fs δ A e) fun b hb => ?_
  rw [aNil_eq]
  rw [R.wp_bind] at hb
  refine hs (AH.less A [p]) A p a b _ _ (less_new e2) ?_
  refine R.wp_imp (R.wp_noexc (E' := fun _ _ => False) hb) (fun d' hd' A' hn => ?_) fun _ _ h => h
  obtain ⟨p', q1, q2, q3⟩ := e.upd_own (o' := .dic (encKV d'.l)) hi
  rw [e1] at q1; cases q1
  rw [new_put e2 hn]
  exact hr d' _ _ q3 hd'
end
theorem dic_not_seq {A : AH} {d : D} {l : List (Key × D)} (h : asDic A d = some l) : asS A d = none := by
  cases d with
  | ref a =>
    have h' : (match A a with | some (.dic l) => some l | _ => none) = some l := h
    show (match A a with | some (.lst l) => some l | _ => none) = none
    split at h'
    · rename_i q; rw [q]
    · cases h'
  | dic _ _ => rfl
  | _ => cases h
theorem cb_listD {β : Type} [Enc β] : CbV (α := Dic Str β) (bList mkF) (fun d => .ok (d.l.map (·.1))) := fun A d a Q X hd hw => by
  have h : asDic A d = some (encKV a.l) := hd
  have e : (encKV a.l).map (fun kv => keyD kv.1) = (a.l.map (·.1)).map enc := by
    unfold encKV
    rw [List.map_map, List.map_map]; rfl
  unfold bList
  simp only [dic_not_seq h, h, e]
  exact hw
instance : NN ThingV := ⟨fun _ => rfl⟩
theorem so_dynL {α : Type} [Enc α] {w : DW} {A0 : AH} {ss : List Sl} {t : DE} {m : R (List α)} (h : SO w A0 ss t m oL) : SO w A0 ss t (m.map fun l => l.map (enc (α := α))) oL := fun δ A Q e hw => by
  refine h δ A Q e ?_
  have hw' : (m.bind fun l => R.ok (l.map (enc (α := α)))).wp (fun a : List D => ∀ p A', New A (oL a) p A' → Q (.ref p) A') (fun c fs => w c fs δ A) := hw
  rw [R.wp_bind] at hw'
  refine R.wp_imp hw' (fun l hl p A' hn => hl p A' ?_) fun _ _ h => h
  have e2 : (l.map (enc (α := α))).map (enc (α := D)) = l.map enc := List.map_id _
  show New A (.ao (.lst ((l.map (enc (α := α))).map (enc (α := D))))) p A'
  rw [e2]; exact hn
/-! ### two lists of one's own in a list -/
structure Two where
  a : List D
  b : List D
def mkL : List (String × D) → AO := fun r => .lst (r.map (·.2))
abbrev fTwo (t : Two) : Flds := [("0", .inr (.lst t.a)), ("1", .inr (.lst t.b))]
abbrev oTwo (t : Two) : OT := .cn mkL none (fTwo t)
section
variable {τ : Type} {w : DW} {A0 A : AH} {δ : DSt} {ss : List Sl} {X : String → List (String × D) → Prop} {D0 : DEnds} {V : τ → Prop} {i : Nat} {x : Two}
theorem new_lst {A A' : AH} {o : AO} {p : Addr} (h : New A (.ao o) p A') : A p = none ∧ A' = A.put p o := by
  obtain ⟨C, ⟨h1, h1'⟩, h2, h3⟩ := h.ex
  subst h1'
  refine ⟨h2 p (List.mem_singleton.mpr rfl), ?_⟩
  funext a
  by_cases ha : a = p
  · subst ha; rw [AH.put_same]; exact h1
  · rw [AH.put_ne A o ha]; exact h3 a fun z => ha (List.mem_singleton.mp z)
theorem so_two {t u : DE} {m n : R (List D)} (h : SO w A0 ss t m oL) (h2 : SO w A0 ss u n oL) : SO w A0 ss (eLst mkO (aCons t (aCons u aNil))) (m.bind fun a => (n.noexc).bind fun b => R.ok (⟨a, b⟩ : Two)) oTwo := fun δ A Q e hw => by
  rw [eLst_eq, aCons_eq]
  refine h.run e hw (fun _ _ => id) fun a q A1 hn hw => ?_
  obtain ⟨n1, rfl⟩ := new_lst hn
  rw [mapEnc] at *
  rw [aCons_eq]
  have e1 : Env A0 ss δ (A.put q (.lst a)) := e.put n1
  rw [R.wp_bind] at hw
  have hw2 := R.wp_noexc (E' := fun c fs => w c fs δ (A.put q (.lst a))) hw
  refine h2 δ _ _ e1 (R.wp_imp hw2 (fun b hb r A2 hn2 => ?_) fun _ _ h => h)
  obtain ⟨n2, rfl⟩ := new_lst hn2
  rw [mapEnc] at *
  rw [aNil_eq]
  refine ⟨by show (2 : Nat) < _; decide, fun p hp => ?_⟩
  have hqr : q ≠ r := fun z => by rw [← z, AH.put_same] at n2; cases n2
  have hpr : p ≠ r := fun z => by rw [z, AH.put_same] at hp; cases hp
  rw [AH.put_ne _ _ hpr] at hp
  have hpq : p ≠ q := fun z => by rw [z, AH.put_same] at hp; cases hp
  rw [AH.put_ne _ _ hpq] at hp
  have hrA : A r = none := by rw [AH.put_ne _ _ (Ne.symm hqr)] at n2; exact n2
  refine hb p _ ⟨[p, q, r], ⟨[("0", .ref q), ("1", .ref r)], [q, r], AH.put_same .., ⟨[("1", .ref r)], q, [r], rfl, ?_, by simpa using hqr, rfl, [], r, [], rfl, ?_, by simp, rfl, rfl, rfl⟩, by simp [hpq, hpr], rfl, fun x e => (nomatch e)⟩, ?_, ?_⟩
  · rw [AH.put_ne _ _ (Ne.symm hpq), AH.put_ne _ _ hqr, AH.put_same]
  · rw [AH.put_ne _ _ (Ne.symm hpr), AH.put_same]
  · intro z hz
    simp only [List.mem_cons, List.not_mem_nil, or_false] at hz
    rcases hz with rfl | rfl | rfl
    · exact hp
    · exact n1
    · exact hrA
  · intro z hz
    simp only [List.mem_cons, List.not_mem_nil, or_false, not_or] at hz
    rw [AH.put_ne _ _ hz.1, AH.put_ne _ _ hz.2.2, AH.put_ne _ _ hz.2.1]
theorem Env.two (e : Env A0 ss δ A) (hi : ss[i]? = some (.own (oTwo x))) : ∃ p q r, δ[i]? = some (some (.ref p)) ∧ A p = some (.lst [.ref q, .ref r]) ∧ A q = some (.lst x.a) ∧ A r = some (.lst x.b) ∧
    (∀ a', Env A0 (ss.set i (.own (oTwo ⟨a', x.b⟩))) δ (A.put q (.lst a'))) ∧ ∀ b', Env A0 (ss.set i (.own (oTwo ⟨x.a, b'⟩))) δ (A.put r (.lst b')) := by
  obtain ⟨p, C, e1, ⟨rr, B, h1, h2, h3, h4, hp⟩, h5⟩ := e.change hi
  obtain ⟨r1, q, B1, rfl, hq, hq2, rfl, r2, r, B2, rfl, hr, hr2, rfl, rfl, rfl⟩ := h2
  subst h4
  have hpq : p ≠ q := fun z => h3 (by rw [z]; exact List.mem_cons_self)
  have hpr : p ≠ r := fun z => h3 (by rw [z]; exact List.mem_cons_of_mem _ List.mem_cons_self)
  have hqr : q ≠ r := fun z => hq2 (by rw [z]; exact List.mem_cons_self)
  refine ⟨p, q, r, e1, h1, hq, hr, fun a' => h5 _ _ [p, q, r] ⟨[("0", .ref q), ("1", .ref r)], [q, r], by rw [AH.put_ne _ _ hpq]; exact h1, ⟨[("1", .ref r)], q, [r], rfl, AH.put_same .., by simpa using hqr, rfl, [], r, [], rfl, by rw [AH.put_ne _ _ (Ne.symm hqr)]; exact hr, by simp, rfl, rfl, rfl⟩, h3, rfl, hp⟩ (fun a ha => .inl ha) fun a ha _ => AH.put_ne _ _ fun z => ha (by rw [z]; simp),
    fun b' => h5 _ _ [p, q, r] ⟨[("0", .ref q), ("1", .ref r)], [q, r], by rw [AH.put_ne _ _ hpr]; exact h1, ⟨[("1", .ref r)], q, [r], rfl, by rw [AH.put_ne _ _ hqr]; exact hq, by simpa using hqr, rfl, [], r, [], rfl, AH.put_same .., by simp, rfl, rfl, rfl⟩, h3, rfl, hp⟩ (fun a ha => .inl ha) fun a ha _ => AH.put_ne _ _ fun z => ha (by rw [z]; simp)⟩
theorem asL_ref {p : Addr} {l : List D} (h : A p = some (.lst l)) : asL A (.ref p) = some l := by
  show (match A p with | some (.lst l) => some l | _ => none) = _
  rw [h]
theorem two0 {Q : DK} {p q r : Addr} (h1 : δ[i]? = some (some (.ref p))) (h2 : A p = some (.lst [.ref q, .ref r])) (h : Q (.ref q) A) : eBin opIx (eVar i) (eC (.int 0)) δ A Q := by
  show eVar i δ A _
  rw [eVar_eq h1]
  exact opIx_asL (l := [.ref q, .ref r]) (d := .ref q) (asL_ref h2) rfl h
theorem two1 {Q : DK} {p q r : Addr} (h1 : δ[i]? = some (some (.ref p))) (h2 : A p = some (.lst [.ref q, .ref r])) (h : Q (.ref r) A) : eBin opIx (eVar i) (eC (.int 1)) δ A Q := by
  show eVar i δ A _
  rw [eVar_eq h1]
  exact opIx_asL (l := [.ref q, .ref r]) (d := .ref r) (asL_ref h2) rfl h
theorem sv_two0 (hi : ss[i]? = some (.own (oTwo x))) : SV w A0 ss (eBin opIx (eVar i) (eC (.int 0))) (R.ok x.a) := fun δ A Q e hw => by
  obtain ⟨p, q, r, e1, e2, e3, e4, _⟩ := e.two hi
  refine two0 e1 e2 (hw _ ?_)
  show asL A (.ref q) = some (x.a.map enc)
  rw [mapEnc]; unfold asL; simp only [e3]
theorem sv_two1 (hi : ss[i]? = some (.own (oTwo x))) : SV w A0 ss (eBin opIx (eVar i) (eC (.int 1))) (R.ok x.b) := fun δ A Q e hw => by
  obtain ⟨p, q, r, e1, e2, e3, e4, _⟩ := e.two hi
  refine two1 e1 e2 (hw _ ?_)
  show asL A (.ref r) = some (x.b.map enc)
  rw [mapEnc]; unfold asL; simp only [e4]
theorem ss_twoApp0 {te : DE} {rest : DS} {m : R D} {k : Two → R τ} (hw : WE A0 w X ss) (hi : ss[i]? = some (.own (oTwo x))) (he : SE w A0 ss te m) (hr : ∀ y, SS A0 X D0 V (ss.set i (.own (oTwo y))) rest (k y)) :
    SS A0 X D0 V ss (sSeq (sDrop (eMt "list" mApp (eBin opIx (eVar i) (eC (.int 0))) (aCons te aNil))) rest) (m.bind fun a => (few x.a).bind fun _ => (R.ok (⟨x.a ++ [a], x.b⟩ : Two)).bind k) := fun δ A e h => by
  obtain ⟨p, q, r, e1, e2, e3, e4, k1, k2⟩ := e.two hi
  rw [sSeq_eq, sDrop_eq, eMt_eq]
  refine two0 e1 e2 ⟨by rw [tyM_ref e3], ?_⟩
  rw [aCons_eq]
  refine he.run e h (fun c fs => hw c fs δ A e) fun a ha => ?_
  rw [R.wp_bind] at ha
  obtain ⟨hl, ha⟩ := few_wp ha
  rw [aNil_eq, mApp_eq]; simp only [e3]
  exact ⟨by simpa using hl, hr _ _ _ (k1 _) ha⟩
theorem ss_twoApp1 {te : DE} {rest : DS} {m : R D} {k : Two → R τ} (hw : WE A0 w X ss) (hi : ss[i]? = some (.own (oTwo x))) (he : SE w A0 ss te m) (hr : ∀ y, SS A0 X D0 V (ss.set i (.own (oTwo y))) rest (k y)) :
    SS A0 X D0 V ss (sSeq (sDrop (eMt "list" mApp (eBin opIx (eVar i) (eC (.int 1))) (aCons te aNil))) rest) (m.bind fun a => (few x.b).bind fun _ => (R.ok (⟨x.a, x.b ++ [a]⟩ : Two)).bind k) := fun δ A e h => by
  obtain ⟨p, q, r, e1, e2, e3, e4, k1, k2⟩ := e.two hi
  rw [sSeq_eq, sDrop_eq, eMt_eq]
  refine two1 e1 e2 ⟨by rw [tyM_ref e4], ?_⟩
  rw [aCons_eq]
  refine he.run e h (fun c fs => hw c fs δ A e) fun a ha => ?_
  rw [R.wp_bind] at ha
  obtain ⟨hl, ha⟩ := few_wp ha
  rw [aNil_eq, mApp_eq]; simp only [e4]
  exact ⟨by simpa using hl, hr _ _ _ (k2 _) ha⟩
theorem ss_twoRev1 {rest : DS} {k : Two → R τ} (hi : ss[i]? = some (.own (oTwo x))) (hr : ∀ y, SS A0 X D0 V (ss.set i (.own (oTwo y))) rest (k y)) :
    SS A0 X D0 V ss (sSeq (sDrop (eMt "list" mRev (eBin opIx (eVar i) (eC (.int 1))) aNil)) rest) ((R.ok (⟨x.a, x.b.reverse⟩ : Two)).bind k) := fun δ A e h => by
  obtain ⟨p, q, r, e1, e2, e3, e4, k1, k2⟩ := e.two hi
  rw [sSeq_eq, sDrop_eq, eMt_eq]
  refine two1 e1 e2 ⟨by rw [tyM_ref e4], ?_⟩
  rw [aNil_eq, mRev_eq]; simp only [e4]
  exact hr _ _ _ (k2 _) h
/-- is it another than this -/
def neTwo (x : Two) (k : List (List D)) : R Bool := if dt 60 (.lst [.lst x.a, .lst x.b]) = true ∧ dt 60 (enc k) = true then .ok (!(deq (.lst [.lst x.a, .lst x.b]) (enc k))) else .bad
theorem se_neTwo {u : DE} {n : R (List (List D))} (hi : ss[i]? = some (.own (oTwo x))) (h : SE w A0 ss u n) : SE w A0 ss (eBin opNe2 (eVar i) u) (n.bind fun k => neTwo x k) := fun δ A Q e hw => by
  obtain ⟨p, q, r, e1, e2, e3, e4, _⟩ := e.two hi
  show eVar i δ A _
  rw [eVar_eq e1]
  refine h.run e hw (fun _ _ => id) fun k hk => ?_
  unfold neTwo at hk
  split at hk
  · rename_i g
    have d1 : drf2 A (.ref p) = .lst [.lst x.a, .lst x.b] := by
      have : drf2 A (.ref p) = .lst ([D.ref q, D.ref r].map (drf A)) := by unfold drf2; simp only [e2]
      rw [this]
      have f1 : drf A (.ref q) = .lst x.a := by unfold drf; simp only [e3]
      have f2 : drf A (.ref r) = .lst x.b := by unfold drf; simp only [e4]
      rw [List.map_cons, List.map_cons, f1, f2]; rfl
    have d2 : drf2 A (enc k : D) = enc k := rfl
    show dt 60 (drf2 A (.ref p)) = true ∧ dt 60 (drf2 A (enc k)) = true ∧ _
    rw [d1, d2]
    exact ⟨g.1, g.2, hk⟩
  · exact hk.elim
end
mutual
theorem deq_self : ∀ (n : Nat) (d : D), dt n d = true → deq d d = true
  | _, .non, _ => by simp [deq]
  | _, .bl _, _ => by simp [deq]
  | _, .int _, _ => by simp [deq]
  | _, .str _, _ => by simp [deq]
  | 0, .tup l, h => by simp [dt] at h
  | 0, .lst l, h => by simp [dt] at h
  | 0, .rol l, h => by simp [dt] at h
  | n + 1, .tup l, h => by simp only [dt] at h; simp only [deq]; exact deqs_self n l h
  | n + 1, .lst l, h => by simp only [dt] at h; simp only [deq]; exact deqs_self n l h
  | n + 1, .rol l, h => by simp only [dt] at h; simp only [deq]; exact deqs_self n l h
  | _, .dic _ _, h => by simp [dt] at h
  | _, .obj _ _ _, h => by simp [dt] at h
  | _, .ref _, h => by simp [dt] at h
theorem deqs_self : ∀ (n : Nat) (l : List D), dts n l = true → deqs l l = true
  | _, [], _ => by simp [deqs]
  | n, d :: l, h => by
    simp only [dts, Bool.and_eq_true] at h
    simp only [deqs, Bool.and_eq_true]
    exact ⟨deq_self n d h.1, deqs_self n l h.2⟩
end
end TF


namespace TF
open PySem PySem.Spec PyProof.Rows L2 DL FR
open TF.Enc
noncomputable def F_is_part (v_thing : PartV) : R Bool :=
  R.cond (orB (((((((R.ok v_thing)).map enc)).bind fun c_3 => ((R.ok (6 : Int))).bind fun c_4 => F_has_ends c_3 c_4)).map (!·)) (orB (((((((((R.ok v_thing)).map (fun t : PartV => t.size))).map enc)).bind fun c_2 => F_is_fraction c_2)).map (!·)) (((((((((R.ok v_thing)).map (fun t : PartV => t.most))).map enc)).bind fun c_1 => F_is_fraction c_1)).map (!·))))
  ((R.ok false))
  ((andB (R.b2 (((((R.ok v_thing)).map (fun t : PartV => t.most))).map fun q : Rat => q.num) (R.ok (0 : Int)) fun i j => .ok (decide (j ≤ i))) (andB (((((((R.ok v_thing)).map (fun t : PartV => t.weight))).map enc)).bind fun c_5 => F_is_whole c_5) (R.b2 (((R.ok v_thing)).map (fun t : PartV => t.weight)) (R.ok (0 : Int)) fun i j => .ok (decide (j < i))))))
noncomputable def F_is_gap (v_thing : GapV) : R Bool :=
  R.cond (orB (((((((R.ok v_thing)).map enc)).bind fun c_3 => ((R.ok (5 : Int))).bind fun c_4 => F_has_ends c_3 c_4)).map (!·)) (orB (((((((((R.ok v_thing)).map (fun t : GapV => t.low))).map enc)).bind fun c_2 => F_is_fraction c_2)).map (!·)) (((((((((R.ok v_thing)).map (fun t : GapV => t.high))).map enc)).bind fun c_1 => F_is_fraction c_1)).map (!·))))
  ((R.ok false))
  ((((((((R.ok v_thing)).map (fun t : GapV => t.high))).bind fun c_5 => ((((R.ok v_thing)).map (fun t : GapV => t.low))).bind fun c_6 => F_under c_5 c_6)).map (!·)))
noncomputable def F_way_between (v_parts : (List PartV)) (v_one : Str) (v_other : Str) : R (Option (List (Str × Bool))) :=
  ((R.b2 (R.ok v_one) ((R.ok ([] : List (Str × Bool))).bind few) fun k a => .ok (⟨[(k, a)]⟩ : (Dic Str (List (Str × Bool)))))).bind fun (ways_1 : (Dic Str (List (Str × Bool)))) =>
  (((((R.ok v_one)).bind fun t_2 => (R.ok ([] : List Str)).bind fun t_3 => R.ok (t_2 :: t_3)).bind few)).bind fun (queue_4 : (List Str)) =>
  R.flow (whileR (fun (st_5 : (Dic Str (List (Str × Bool))) × (List Str)) => (R.b2 (((R.ok st_5.2)).bind fun l => .ok (l.length : Int)) (R.ok (0 : Int)) fun i j => .ok (decide (j < i)))) (fun (st_5 : (Dic Str (List (Str × Bool))) × (List Str)) =>
  (((R.ok (0 : Int))).bind fun k_177 => (popR st_5.2 k_177).bind fun (p_178 : Str × (List Str)) =>
  ((R.ok v_parts)).bind fun l_340 => (foldR l_340 ((st_5.1, p_178.2) : (Dic Str (List (Str × Bool))) × (List Str)) (fun (x_179 : PartV) (st_180 : (Dic Str (List (Str × Bool))) × (List Str)) =>
  R.cond (andB (R.b2 (R.ok x_179.start) (R.ok p_178.1) (eqR false)) (R.b2 (R.ok x_179.fin) (R.ok st_180.1) fun k d => .ok (!(d.get? k).isSome)))
  (((R.b2 (R.b2 (R.ok st_180.1) (R.ok p_178.1) getR) ((((((R.ok x_179.name)).bind fun t_304 => ((R.ok true)).bind fun t_305 => R.ok (t_304, t_305))).bind fun t_306 => (R.ok ([] : List (Str × Bool))).bind fun t_307 => R.ok (t_306 :: t_307)).bind few) fun a b => few (a ++ b))).bind fun a_310 => ((R.ok x_179.fin)).bind fun k_311 => (fewD st_180.1).bind fun _ => (R.ok (st_180.1.put k_311 a_310)).bind fun (ways_301 : (Dic Str (List (Str × Bool)))) =>
  ((R.ok x_179.fin)).bind fun a_313 => (few st_180.2).bind fun _ => (R.ok (st_180.2 ++ [a_313])).bind fun (queue_312 : (List Str)) =>
  .ok (ways_301, queue_312))
  (R.cond (andB (R.b2 (R.ok x_179.fin) (R.ok p_178.1) (eqR false)) (R.b2 (R.ok x_179.start) (R.ok st_180.1) fun k d => .ok (!(d.get? k).isSome)))
  (((R.b2 (R.b2 (R.ok st_180.1) (R.ok p_178.1) getR) ((((((R.ok x_179.name)).bind fun t_330 => ((R.ok false)).bind fun t_331 => R.ok (t_330, t_331))).bind fun t_332 => (R.ok ([] : List (Str × Bool))).bind fun t_333 => R.ok (t_332 :: t_333)).bind few) fun a b => few (a ++ b))).bind fun a_336 => ((R.ok x_179.start)).bind fun k_337 => (fewD st_180.1).bind fun _ => (R.ok (st_180.1.put k_337 a_336)).bind fun (ways_327 : (Dic Str (List (Str × Bool)))) =>
  ((R.ok x_179.start)).bind fun a_339 => (few st_180.2).bind fun _ => (R.ok (st_180.2 ++ [a_339])).bind fun (queue_338 : (List Str)) =>
  .ok (ways_327, queue_338))
  (.ok (st_180.1, st_180.2))))).bind fun (st_180 : (Dic Str (List (Str × Bool))) × (List Str)) =>
  .ok (.nx (st_180.1, st_180.2)) : R (Fl ((Dic Str (List (Str × Bool))) × (List Str)) (Option (List (Str × Bool)))))) ((ways_1, queue_4) : (Dic Str (List (Str × Bool))) × (List Str))) (fun (st_5 : (Dic Str (List (Str × Bool))) × (List Str)) =>
  (R.b2 (R.ok st_5.1) (R.ok v_other) fun d k => .ok (d.get? k))) (fun r_341 => .ok r_341)
noncomputable def F_Thing_parts (v_self : ThingV) : R (List PartV) :=
  (((((R.ok v_self)).map ThingV.parts)).bind fun l => .ok l)
noncomputable def F_Thing_gaps (v_self : ThingV) : R (List GapV) :=
  (((((R.ok v_self)).map ThingV.gaps)).bind fun l => .ok l)
noncomputable def F_Thing_way (v_self : ThingV) (v_name : Str) : R (List (Str × Bool)) :=
  R.cond (R.b2 (R.ok v_name) (((R.ok v_self)).map ThingV.ways) fun k d => .ok (!(d.get? k).isSome))
  (.exc "NoName" [])
  ((((R.b2 (((R.ok v_self)).map ThingV.ways) (R.ok v_name) getR)).bind fun l => .ok l))
noncomputable def F_Thing_middle (v_self : ThingV) (v_name : Str) : R Rat :=
  ((((((R.ok (0 : Int))).bind fun t_1 => ((R.ok (1 : Int))).bind fun t_2 => R.ok (t_1, t_2))).bind toRat)).bind fun (total_3 : Rat) =>
  ((((R.ok v_self)).bind fun c_4 => ((R.ok v_name)).bind fun c_5 => F_Thing_way c_4 c_5)).bind fun l_35 => (foldR l_35 (total_3 : Rat) (fun (x_6 : (Str × Bool)) (st_7 : Rat) =>
  R.cond (R.ok x_6.2)
  (((((R.ok st_7)).bind fun c_29 => ((R.b2 (((R.ok v_self)).map ThingV.sizes) (R.ok x_6.1) getR)).bind fun c_30 => F_plus c_29 c_30)).bind fun (total_31 : Rat) =>
  .ok total_31)
  (((((R.ok st_7)).bind fun c_32 => ((R.b2 (((R.ok v_self)).map ThingV.sizes) (R.ok x_6.1) getR)).bind fun c_33 => F_minus c_32 c_33)).bind fun (total_34 : Rat) =>
  .ok total_34))).bind fun (st_7 : Rat) =>
  (R.ok st_7)
noncomputable def F_Thing_room (v_self : ThingV) (v_name : Str) : R Rat :=
  ((R.ok v_self).bind fun a => (R.ok v_name).bind fun b => F_Thing_middle a b).bind fun (middle : Rat) =>
  (R.ok v_self.gaps).bind fun l => (foldR l (none : Option (Rat × Rat)) (fun (x : GapV) (st : Option (Rat × Rat)) =>
  R.cond (R.b2 ((R.ok x).map (fun t : GapV => t.name)) (R.ok v_name) (eqR false))
  (((R.ok middle).bind fun a => ((R.ok x).map (fun t : GapV => t.low)).bind fun b => F_minus a b).bind fun below => (((R.ok x).map (fun t : GapV => t.high)).bind fun a => (R.ok middle).bind fun b => F_minus a b).bind fun above => .ok (some (below, above)))
  (.ok st))).bind fun (st : Option (Rat × Rat)) => optR st fun p => R.cond ((R.ok p.2).bind fun a => (R.ok p.1).bind fun b => F_under a b) (.ok p.2) (.ok p.1)
noncomputable def F_gap_rows (v_thing : ThingV) : R (List (T3 Str Rat (List Str))) :=
  (((R.ok ([] : List (T3 Str Rat (List Str)))).bind few)).bind fun (rows_1 : (List (T3 Str Rat (List Str)))) =>
  ((((R.ok v_thing)).bind fun c_2 => F_Thing_gaps c_2)).bind fun l_30 => (foldR l_30 (rows_1 : (List (T3 Str Rat (List Str)))) (fun (x_3 : GapV) (st_4 : (List (T3 Str Rat (List Str)))) =>
  ((((((R.ok x_3)).map (fun t : GapV => t.name))).bind fun t_26 => ((((R.ok v_thing)).bind fun c_20 => ((((R.ok x_3)).map (fun t : GapV => t.name))).bind fun c_21 => F_Thing_room c_20 c_21)).bind fun t_27 => ((((((R.ok v_thing)).bind fun c_22 => ((((R.ok x_3)).map (fun t : GapV => t.name))).bind fun c_23 => F_Thing_way c_22 c_23)).bind fun l_25 => (compR (fun (x_24 : (Str × Bool)) => (R.ok true)) (fun (x_24 : (Str × Bool)) => (R.ok x_24.1)) l_25 []).noexc)).bind fun t_28 => R.ok (T3.mk t_26 t_27 t_28))).bind fun a_29 => (few st_4).bind fun _ => (R.ok (st_4 ++ [a_29])).bind fun (rows_19 : (List (T3 Str Rat (List Str)))) =>
  .ok rows_19)).bind fun (st_4 : (List (T3 Str Rat (List Str)))) =>
  (R.ok st_4)
noncomputable def F_sum_of (v_slacks : (Dic Str Rat)) (v_names : (List Str)) : R Rat :=
  ((((((R.ok (0 : Int))).bind fun t_1 => ((R.ok (1 : Int))).bind fun t_2 => R.ok (t_1, t_2))).bind toRat)).bind fun (total_3 : Rat) =>
  ((R.ok v_names)).bind fun l_19 => (foldR l_19 (total_3 : Rat) (fun (x_4 : Str) (st_5 : Rat) =>
  ((((R.ok st_5)).bind fun c_16 => ((((R.ok v_slacks)).bind fun d => ((R.ok x_4)).bind fun k => ((((((R.ok (0 : Int))).bind fun t_14 => ((R.ok (1 : Int))).bind fun t_15 => R.ok (t_14, t_15))).bind toRat)).bind fun x => .ok ((d.get? k).getD x))).bind fun c_17 => F_plus c_16 c_17)).bind fun (total_18 : Rat) =>
  .ok total_18)).bind fun (st_5 : Rat) =>
  (R.ok st_5)
noncomputable def F_least_of (v_numbers : (List Rat)) : R Rat :=
  ((R.b2 (R.ok v_numbers) (R.ok (0 : Int)) ixL)).bind fun (least_1 : Rat) =>
  ((((R.ok v_numbers)).bind fun l_2 => ((((R.ok (1 : Int))).map some)).bind fun lo_3 => ((R.ok none)).bind fun hi_4 => .ok (cut l_2 lo_3 hi_4))).bind fun l_18 => (foldR l_18 (least_1 : Rat) (fun (x_5 : Rat) (st_6 : Rat) =>
  R.cond (((R.ok x_5)).bind fun c_14 => ((R.ok st_6)).bind fun c_15 => F_under c_14 c_15)
  (((R.ok x_5)).bind fun (least_17 : Rat) =>
  .ok least_17)
  (.ok st_6))).bind fun (st_6 : Rat) =>
  (R.ok st_6)
noncomputable def F_gap_level (v_row : (T3 Str Rat (List Str))) (v_slacks : (Dic Str Rat)) (v_weights : (Dic Str Int)) : R (Option Rat) :=
  ((((((((R.ok v_row)).map (fun t : (T3 Str Rat (List Str)) => t.c))).bind fun l_2 => (compR (fun (x_1 : Str) => (R.b2 (R.ok x_1) (R.ok v_slacks) fun k d => .ok (!(d.get? k).isSome))) (fun (x_1 : Str) => (R.b2 (R.ok v_weights) (R.ok x_1) getR)) l_2 []).noexc)).bind sumR)).bind fun (many_3 : Int) =>
  R.cond (R.b2 (R.ok many_3) (R.ok (0 : Int)) fun i j => .ok (decide (i = j)))
  ((R.ok (none : Option Rat)))
  ((((((((((R.ok v_row)).map (fun t : (T3 Str Rat (List Str)) => t.b))).bind fun c_6 => ((((R.ok v_slacks)).bind fun c_4 => ((((R.ok v_row)).map (fun t : (T3 Str Rat (List Str)) => t.c))).bind fun c_5 => F_sum_of c_4 c_5)).bind fun c_7 => F_minus c_6 c_7)).bind fun c_10 => ((((((R.ok many_3)).bind fun t_8 => ((R.ok (1 : Int))).bind fun t_9 => R.ok (t_8, t_9))).bind toRat)).bind fun c_11 => F_over c_10 c_11)).map some))
noncomputable def F_part_level (v_part : PartV) : R Rat :=
  (((((R.ok v_part)).map (fun t : PartV => t.most))).bind fun c_3 => ((((((((R.ok v_part)).map (fun t : PartV => t.weight))).bind fun t_1 => ((R.ok (1 : Int))).bind fun t_2 => R.ok (t_1, t_2))).bind toRat)).bind fun c_4 => F_over c_3 c_4)
noncomputable def F_stop_some (v_parts : (List PartV)) (v_rows : (List (T3 Str Rat (List Str)))) (v_slacks : (Dic Str Rat)) (v_weights : (Dic Str Int)) : R ((Dic Str Rat)) :=
  ((((R.ok v_parts)).bind fun l_2 => (compR (fun (x_1 : PartV) => (R.b2 (((R.ok x_1)).map (fun t : PartV => t.name)) (R.ok v_slacks) fun k d => .ok (!(d.get? k).isSome))) (fun (x_1 : PartV) => (R.ok x_1)) l_2 []).noexc)).bind fun (rising_3 : (List PartV)) =>
  ((((R.ok v_rows)).bind fun l_10 => (compR (fun (x_4 : (T3 Str Rat (List Str))) => (R.ok true)) (fun (x_4 : (T3 Str Rat (List Str))) => (((((R.ok x_4)).bind fun c_5 => ((R.ok v_slacks)).bind fun c_6 => ((R.ok v_weights)).bind fun c_7 => F_gap_level c_5 c_6 c_7)).bind fun t_8 => ((((R.ok x_4)).map (fun t : (T3 Str Rat (List Str)) => t.c))).bind fun t_9 => R.ok (t_8, t_9))) l_10 []).noexc)).bind fun (levels_11 : (List ((Option Rat) × (List Str)))) =>
  ((((R.ok levels_11)).bind fun l_13 => (compR (fun (x_12 : ((Option Rat) × (List Str))) => (((((R.ok x_12)).map (fun t : ((Option Rat) × (List Str)) => t.1))).map fun o => !o.isNone)) (fun (x_12 : ((Option Rat) × (List Str))) => (R.ok x_12)) l_13 []).noexc)).bind fun (levels_14 : (List ((Option Rat) × (List Str)))) =>
  ((((R.b2 (((R.ok rising_3)).bind fun l_17 => (compR (fun (x_15 : PartV) => (R.ok true)) (fun (x_15 : PartV) => (((R.ok x_15)).bind fun c_16 => F_part_level c_16)) l_17 []).noexc) (((R.ok levels_14)).bind fun l_23 => (compR (fun (x_22 : ((Option Rat) × (List Str))) => (R.ok true)) (fun (x_22 : ((Option Rat) × (List Str))) => (((R.ok x_22.1)).bind unw)) l_23 []).noexc) fun a b => few (a ++ b))).bind fun c_24 => F_least_of c_24)).bind fun (level_25 : Rat) =>
  (((R.ok ([] : List PartV)).bind few)).bind fun (stopping_26 : (List PartV)) =>
  ((R.ok rising_3)).bind fun l_46 => (foldR l_46 (stopping_26 : (List PartV)) (fun (x_27 : PartV) (st_28 : (List PartV)) =>
  R.cond (orB (R.b2 (((R.ok x_27)).bind fun c_41 => F_part_level c_41) (R.ok level_25) fun i j => .ok (decide (i = j))) (((((R.ok levels_14)).bind fun l_40 => (compR (fun (x_39 : ((Option Rat) × (List Str))) => (R.ok true)) (fun (x_39 : ((Option Rat) × (List Str))) => (andB (R.b2 (R.ok x_39.1) (((R.ok level_25)).map some) (eqR false)) (R.b2 (((R.ok x_27)).map (fun t : PartV => t.name)) (R.ok x_39.2) (inR false)))) l_40 []).noexc)).bind anyR))
  (((R.ok x_27)).bind fun a_45 => (few st_28).bind fun _ => (R.ok (st_28 ++ [a_45])).bind fun (stopping_44 : (List PartV)) =>
  .ok stopping_44)
  (.ok st_28))).bind fun (st_28 : (List PartV)) =>
  ((R.ok st_28)).bind fun l_66 => (foldR l_66 (v_slacks : (Dic Str Rat)) (fun (x_47 : PartV) (st_48 : (Dic Str Rat)) =>
  ((((((((((R.ok x_47)).map (fun t : PartV => t.weight))).bind fun t_60 => ((R.ok (1 : Int))).bind fun t_61 => R.ok (t_60, t_61))).bind toRat)).bind fun c_62 => ((R.ok level_25)).bind fun c_63 => F_times c_62 c_63)).bind fun a_64 => ((((R.ok x_47)).map (fun t : PartV => t.name))).bind fun k_65 => (fewD st_48).bind fun _ => (R.ok (st_48.put k_65 a_64)).bind fun (slacks_59 : (Dic Str Rat)) =>
  .ok slacks_59)).bind fun (st_48 : (Dic Str Rat)) =>
  .ok st_48
noncomputable def F_slacks_of (v_thing : ThingV) : R (Dic Str Rat) :=
  ((((R.ok v_thing)).bind fun c_1 => F_gap_rows c_1)).bind fun (rows_2 : (List (T3 Str Rat (List Str)))) =>
  ((R.ok rows_2)).bind fun l_20 => (foldR l_20 (() : Unit) (fun (x_3 : (T3 Str Rat (List Str))) (st_4 : Unit) =>
  R.cond (((R.ok x_3.b)).bind fun c_16 => ((((((R.ok (0 : Int))).bind fun t_14 => ((R.ok (1 : Int))).bind fun t_15 => R.ok (t_14, t_15))).bind toRat)).bind fun c_17 => F_under c_16 c_17)
  (((R.ok x_3.a)).bind fun v_19 => .exc "Tight" [("tight_gap", enc v_19)])
  (.ok ()))).bind fun (st_4 : Unit) =>
  ((((R.ok v_thing)).bind fun c_21 => F_Thing_parts c_21)).bind fun (parts_22 : (List PartV)) =>
  ((R.ok (⟨[]⟩ : (Dic Str Int)))).bind fun (weights_23 : (Dic Str Int)) =>
  ((R.ok parts_22)).bind fun l_35 => (foldR l_35 (weights_23 : (Dic Str Int)) (fun (x_24 : PartV) (st_25 : (Dic Str Int)) =>
  ((((R.ok x_24)).map (fun t : PartV => t.weight))).bind fun a_33 => ((((R.ok x_24)).map (fun t : PartV => t.name))).bind fun k_34 => (fewD st_25).bind fun _ => (R.ok (st_25.put k_34 a_33)).bind fun (weights_32 : (Dic Str Int)) =>
  .ok weights_32)).bind fun (st_25 : (Dic Str Int)) =>
  ((R.ok (⟨[]⟩ : (Dic Str Rat)))).bind fun (slacks_36 : (Dic Str Rat)) =>
  R.flow (whileR (fun (st_37 : (Dic Str Rat)) => (R.b2 (((R.ok st_37)).bind fun l => .ok (l.l.length : Int)) (((R.ok parts_22)).bind fun l => .ok (l.length : Int)) fun i j => .ok (decide (i < j)))) (fun (st_37 : (Dic Str Rat)) =>
  (((R.ok parts_22)).bind fun c_45 => ((R.ok rows_2)).bind fun c_46 => ((R.ok st_25)).bind fun c_47 => ((F_stop_some c_45 c_46 st_37 c_47).noexc).bind fun (slacks_48 : (Dic Str Rat)) =>
  .ok (.nx slacks_48) : R (Fl ((Dic Str Rat)) (Dic Str Rat)))) (slacks_36 : (Dic Str Rat))) (fun (st_37 : (Dic Str Rat)) =>
  (R.ok st_37)) (fun r_49 => .ok r_49)
noncomputable def F_none_has_more (v_part : PartV) (v_names : (List Str)) (v_slacks : (Dic Str Rat)) (v_weights : (Dic Str Int)) : R Bool :=
  ((((R.b2 (R.ok v_slacks) (((R.ok v_part)).map (fun t : PartV => t.name)) getR)).bind fun c_3 => ((((((((R.ok v_part)).map (fun t : PartV => t.weight))).bind fun t_1 => ((R.ok (1 : Int))).bind fun t_2 => R.ok (t_1, t_2))).bind toRat)).bind fun c_4 => F_over c_3 c_4)).bind fun (mine_5 : Rat) =>
  ((R.ok v_names)).bind fun l_27 => R.flow (forR l_27 (() : Unit) (fun (x_6 : Str) (st_7 : Unit) =>
  R.cond (((R.ok mine_5)).bind fun c_23 => ((((R.b2 (R.ok v_slacks) (R.ok x_6) getR)).bind fun c_21 => ((((((R.b2 (R.ok v_weights) (R.ok x_6) getR)).bind fun t_19 => ((R.ok (1 : Int))).bind fun t_20 => R.ok (t_19, t_20))).bind toRat)).bind fun c_22 => F_over c_21 c_22)).bind fun c_24 => F_under c_23 c_24)
  (((R.ok false)).bind fun r_26 => .ok (.rt r_26))
  (.ok (.nx ()))) : R (Fl (Unit) Bool)) (fun (st_7 : Unit) =>
  (R.ok true)) (fun r_28 => .ok r_28)
noncomputable def F_stop_of (v_part : PartV) (v_rows : (List (T3 Str Rat (List Str)))) (v_slacks : (Dic Str Rat)) (v_weights : (Dic Str Int)) : R (Option StopV) :=
  R.cond (R.b2 (R.b2 (R.ok v_slacks) (((R.ok v_part)).map (fun t : PartV => t.name)) getR) (((R.ok v_part)).map (fun t : PartV => t.most)) fun i j => .ok (decide (i = j)))
  ((((((((R.ok ("most" : Str))).map T1.mk)).map (fun t : T1 Str => (⟨[t.a]⟩ : StopV)))).map some))
  (((R.ok v_rows)).bind fun l_32 => R.flow (forR l_32 (() : Unit) (fun (x_3 : (T3 Str Rat (List Str))) (st_4 : Unit) =>
  R.cond (andB (R.b2 (((R.ok v_part)).map (fun t : PartV => t.name)) (R.ok x_3.c) (inR false)) (andB (R.b2 (((R.ok v_slacks)).bind fun c_24 => ((R.ok x_3.c)).bind fun c_25 => F_sum_of c_24 c_25) (R.ok x_3.b) fun i j => .ok (decide (i = j))) (((R.ok v_part)).bind fun c_20 => ((R.ok x_3.c)).bind fun c_21 => ((R.ok v_slacks)).bind fun c_22 => ((R.ok v_weights)).bind fun c_23 => F_none_has_more c_20 c_21 c_22 c_23)))
  (((((((((R.ok ("gap" : Str))).bind fun t_29 => ((R.ok x_3.a)).bind fun t_30 => R.ok (t_29, t_30))).map (fun t : Str × Str => (⟨[t.1, t.2]⟩ : StopV)))).map some)).bind fun r_31 => .ok (.rt r_31))
  (.ok (.nx ()))) : R (Fl (Unit) (Option StopV))) (fun (st_4 : Unit) =>
  (R.ok (none : Option StopV))) (fun r_33 => .ok r_33))
noncomputable def F_share (v_thing : ThingV) : R (List (T3 Str Rat (Option StopV))) :=
  ((((R.ok v_thing)).bind fun c_1 => F_slacks_of c_1)).bind fun (slacks_2 : (Dic Str Rat)) =>
  ((((R.ok v_thing)).bind fun c_3 => F_gap_rows c_3)).bind fun (rows_4 : (List (T3 Str Rat (List Str)))) =>
  ((R.ok (⟨[]⟩ : (Dic Str Int)))).bind fun (weights_5 : (Dic Str Int)) =>
  ((((R.ok v_thing)).bind fun c_6 => F_Thing_parts c_6)).bind fun l_18 => (foldR l_18 (weights_5 : (Dic Str Int)) (fun (x_7 : PartV) (st_8 : (Dic Str Int)) =>
  ((((R.ok x_7)).map (fun t : PartV => t.weight))).bind fun a_16 => ((((R.ok x_7)).map (fun t : PartV => t.name))).bind fun k_17 => (fewD st_8).bind fun _ => (R.ok (st_8.put k_17 a_16)).bind fun (weights_15 : (Dic Str Int)) =>
  .ok weights_15)).bind fun (st_8 : (Dic Str Int)) =>
  (((((R.ok v_thing)).bind fun c_19 => F_Thing_parts c_19)).bind fun l_28 => (compR (fun (x_20 : PartV) => (R.ok true)) (fun (x_20 : PartV) => (((((R.ok x_20)).map (fun t : PartV => t.name))).bind fun t_25 => ((R.b2 (R.ok slacks_2) (((R.ok x_20)).map (fun t : PartV => t.name)) getR)).bind fun t_26 => ((((R.ok x_20)).bind fun c_21 => ((R.ok rows_4)).bind fun c_22 => ((R.ok slacks_2)).bind fun c_23 => ((R.ok st_8)).bind fun c_24 => F_stop_of c_21 c_22 c_23 c_24)).bind fun t_27 => R.ok (T3.mk t_25 t_26 t_27))) l_28 []).noexc)
noncomputable def F_faces_of (v_ties : (List TieV)) : R (List Str) :=
  (((R.b2 (((R.ok v_ties)).bind fun l_2 => (compR (fun (x_1 : TieV) => (R.ok true)) (fun (x_1 : TieV) => (((R.ok x_1)).map (fun t : TieV => t.start))) l_2 []).noexc) (((R.ok v_ties)).bind fun l_4 => (compR (fun (x_3 : TieV) => (R.ok true)) (fun (x_3 : TieV) => (((R.ok x_3)).map (fun t : TieV => t.fin))) l_4 []).noexc) fun a b => few (a ++ b))).bind sortSetR)
noncomputable def F_all_steps (v_ties : (List TieV)) : R (List (T4 Str Str Rat (Str × Bool))) :=
  (((R.ok ([] : List (T4 Str Str Rat (Str × Bool)))).bind few)).bind fun (steps_1 : (List (T4 Str Str Rat (Str × Bool)))) =>
  ((R.ok v_ties)).bind fun l_55 => (foldR l_55 (steps_1 : (List (T4 Str Str Rat (Str × Bool)))) (fun (x_2 : TieV) (st_3 : (List (T4 Str Str Rat (Str × Bool)))) =>
  ((((((((R.ok x_2)).map enc)).bind fun c_31 => F_tie_of c_31)).bind fun c_32 => F_Tie_steps c_32)).bind fun l_54 => (foldR l_54 (st_3 : (List (T4 Str Str Rat (Str × Bool)))) (fun (x_33 : (T4 Str Str Rat Bool)) (st_34 : (List (T4 Str Str Rat (Str × Bool)))) =>
  ((((R.ok x_33.a)).bind fun t_49 => ((R.ok x_33.b)).bind fun t_50 => ((R.ok x_33.c)).bind fun t_51 => ((((((R.ok x_2)).map (fun t : TieV => t.name))).bind fun t_47 => ((R.ok x_33.d)).bind fun t_48 => R.ok (t_47, t_48))).bind fun t_52 => R.ok (T4.mk t_49 t_50 t_51 t_52))).bind fun a_53 => (few st_34).bind fun _ => (R.ok (st_34 ++ [a_53])).bind fun (steps_46 : (List (T4 Str Str Rat (Str × Bool)))) =>
  .ok steps_46)).bind fun (st_34 : (List (T4 Str Str Rat (Str × Bool)))) =>
  .ok st_34)).bind fun (st_3 : (List (T4 Str Str Rat (Str × Bool)))) =>
  (R.ok st_3)
noncomputable def F_one_round (v_steps : (List (T4 Str Str Rat (Str × Bool)))) (v_sums : (Dic Str Rat)) (v_ways : (Dic Str (Str × (Str × Bool)))) : R (((Option Str) × (Dic Str Rat) × (Dic Str (Str × (Str × Bool))))) :=
  ((R.ok ())).bind fun (last_1 : Unit) =>
  ((R.ok v_steps)).bind fun l_145 => (foldR l_145 ((v_sums, v_ways, (none : Option Str)) : (Dic Str Rat) × (Dic Str (Str × (Str × Bool))) × (Option Str)) (fun (x_2 : (T4 Str Str Rat (Str × Bool))) (st_3 : (Dic Str Rat) × (Dic Str (Str × (Str × Bool))) × (Option Str)) =>
  R.cond (R.b2 (R.ok x_2.a) (R.ok st_3.1) fun k d => .ok ((d.get? k).isSome))
  (((((R.b2 (R.ok st_3.1) (R.ok x_2.a) getR)).bind fun c_122 => ((R.ok x_2.c)).bind fun c_123 => F_plus c_122 c_123)).bind fun (total_124 : Rat) =>
  R.cond (orB (R.b2 (R.ok x_2.b) (R.ok st_3.1) fun k d => .ok (!(d.get? k).isSome)) (((R.ok total_124)).bind fun c_125 => ((R.b2 (R.ok st_3.1) (R.ok x_2.b) getR)).bind fun c_126 => F_under c_125 c_126))
  (((R.ok total_124)).bind fun a_137 => ((R.ok x_2.b)).bind fun k_138 => (fewD st_3.1).bind fun _ => (R.ok (st_3.1.put k_138 a_137)).bind fun (sums_136 : (Dic Str Rat)) =>
  ((((R.ok x_2.a)).bind fun t_140 => ((R.ok x_2.d)).bind fun t_141 => R.ok (t_140, t_141))).bind fun a_142 => ((R.ok x_2.b)).bind fun k_143 => (fewD st_3.2.1).bind fun _ => (R.ok (st_3.2.1.put k_143 a_142)).bind fun (ways_139 : (Dic Str (Str × (Str × Bool)))) =>
  ((R.ok x_2.b)).bind fun (last_144 : Str) =>
  .ok (sums_136, ways_139, (some last_144)))
  (.ok (st_3.1, st_3.2.1, st_3.2.2)))
  (.ok (st_3.1, st_3.2.1, st_3.2.2)))).bind fun (st_3 : (Dic Str Rat) × (Dic Str (Str × (Str × Bool))) × (Option Str)) =>
  ((R.ok st_3.2.2)).bind fun r_146 => .ok (r_146, (st_3.1, st_3.2.1))
noncomputable def F_ring_from (v_ways : (Dic Str (Str × (Str × Bool)))) (v_face : Str) : R (List (Str × Bool)) :=
  (((R.ok ([] : List Str)).bind few)).bind fun (seen_1 : (List Str)) =>
  R.flow (whileR (fun (st_2 : Str × (List Str)) => (R.b2 (R.ok st_2.1) (R.ok st_2.2) (inR true))) (fun (st_2 : Str × (List Str)) =>
  (((R.ok st_2.1)).bind fun a_10 => (few st_2.2).bind fun _ => (R.ok (st_2.2 ++ [a_10])).bind fun (seen_9 : (List Str)) =>
  ((((R.b2 (R.ok v_ways) (R.ok st_2.1) getR)).map (fun t : (Str × (Str × Bool)) => t.1))).bind fun (face_11 : Str) =>
  .ok (.nx (face_11, seen_9)) : R (Fl (Str × (List Str)) (List (Str × Bool))))) ((v_face, seen_1) : Str × (List Str))) (fun (st_2 : Str × (List Str)) =>
  (((((((R.b2 (R.ok v_ways) (R.ok st_2.1) getR)).map (fun t : (Str × (Str × Bool)) => t.2))).bind fun t_12 => (R.ok ([] : List (Str × Bool))).bind fun t_13 => R.ok (t_12 :: t_13)).bind few)).bind fun (chain_14 : (List (Str × Bool))) =>
  ((((R.b2 (R.ok v_ways) (R.ok st_2.1) getR)).map (fun t : (Str × (Str × Bool)) => t.1))).bind fun (here_15 : Str) =>
  R.flow (whileR (fun (st_16 : (List (Str × Bool)) × Str) => (R.b2 (R.ok st_16.2) (R.ok st_2.1) (eqR true))) (fun (st_16 : (List (Str × Bool)) × Str) =>
  (((((R.b2 (R.ok v_ways) (R.ok st_16.2) getR)).map (fun t : (Str × (Str × Bool)) => t.2))).bind fun a_24 => (few st_16.1).bind fun _ => (R.ok (st_16.1 ++ [a_24])).bind fun (chain_23 : (List (Str × Bool))) =>
  ((((R.b2 (R.ok v_ways) (R.ok st_16.2) getR)).map (fun t : (Str × (Str × Bool)) => t.1))).bind fun (here_25 : Str) =>
  .ok (.nx (chain_23, here_25)) : R (Fl ((List (Str × Bool)) × Str) (List (Str × Bool))))) ((chain_14, here_15) : (List (Str × Bool)) × Str)) (fun (st_16 : (List (Str × Bool)) × Str) =>
  .ok (st_16.1.reverse)) (fun r_27 => .bad)) (fun r_28 => .bad)
noncomputable def F_least_places (v_ties : (List TieV)) : R ((Option (Dic Str Rat)) × (Option (List (Str × Bool)))) :=
  ((((R.ok v_ties)).bind fun c_1 => F_all_steps c_1)).bind fun (steps_2 : (List (T4 Str Str Rat (Str × Bool)))) =>
  ((((R.ok v_ties)).bind fun c_3 => F_faces_of c_3)).bind fun (faces_4 : (List Str)) =>
  ((R.ok (⟨[]⟩ : (Dic Str Rat)))).bind fun (sums_5 : (Dic Str Rat)) =>
  ((R.ok faces_4)).bind fun l_21 => (foldR l_21 (sums_5 : (Dic Str Rat)) (fun (x_6 : Str) (st_7 : (Dic Str Rat)) =>
  ((((((R.ok (0 : Int))).bind fun t_17 => ((R.ok (1 : Int))).bind fun t_18 => R.ok (t_17, t_18))).bind toRat)).bind fun a_19 => ((R.ok x_6)).bind fun k_20 => (fewD st_7).bind fun _ => (R.ok (st_7.put k_20 a_19)).bind fun (sums_16 : (Dic Str Rat)) =>
  .ok sums_16)).bind fun (st_7 : (Dic Str Rat)) =>
  ((R.ok (⟨[]⟩ : (Dic Str (Str × (Str × Bool)))))).bind fun (ways_22 : (Dic Str (Str × (Str × Bool)))) =>
  ((R.ok ())).bind fun (last_23 : Unit) =>
  ((((R.b2 (((R.ok faces_4)).bind fun l => .ok (l.length : Int)) (R.ok (1 : Int)) addI)).bind rng1)).bind fun l_64 => R.flow (forR l_64 ((st_7, ways_22, (none : Option Str)) : (Dic Str Rat) × (Dic Str (Str × (Str × Bool))) × (Option Str)) (fun (x_26 : Int) (st_27 : (Dic Str Rat) × (Dic Str (Str × (Str × Bool))) × (Option Str)) =>
  ((R.ok steps_2)).bind fun c_53 => ((F_one_round c_53 st_27.1 st_27.2.1).noexc).bind fun (pr_57 : (Option Str) × (Dic Str Rat) × (Dic Str (Str × (Str × Bool)))) =>
  R.cond (((R.ok pr_57.1)).map fun o => o.isNone)
  (((((((R.ok pr_57.2.1)).map some)).bind fun t_61 => ((R.ok (none : Option (List (Str × Bool))))).bind fun t_62 => R.ok (t_61, t_62))).bind fun r_63 => .ok (.rt r_63))
  (.ok (.nx (pr_57.2.1, pr_57.2.2, pr_57.1)))) : R (Fl ((Dic Str Rat) × (Dic Str (Str × (Str × Bool))) × (Option Str)) ((Option (Dic Str Rat)) × (Option (List (Str × Bool)))))) (fun (st_27 : (Dic Str Rat) × (Dic Str (Str × (Str × Bool))) × (Option Str)) =>
  (((R.ok (none : Option (Dic Str Rat)))).bind fun t_67 => ((((((R.ok st_27.2.1)).bind fun c_65 => ((((R.ok st_27.2.2)).bind unw)).bind fun c_66 => F_ring_from c_65 c_66)).map some)).bind fun t_68 => R.ok (t_67, t_68))) (fun r_69 => .ok r_69)
noncomputable def F_Book_places (v_self : BookV) : R (Dic Str Rat) :=
  ((((((R.ok v_self)).map BookV.kept)).bind fun c_1 => F_least_places c_1)).bind fun (p_2 : ((Option (Dic Str Rat)) × (Option (List (Str × Bool))))) =>
  R.cond (((R.ok p_2.2)).map fun o => !o.isNone)
  (((((R.ok p_2.2)).bind unw)).bind fun v_4 => .exc "Impossible" [("around", enc v_4)])
  ((((R.ok p_2.1)).bind unw))
noncomputable def F_Book_place_of (v_self : BookV) (v_name : Str) : R (Option Int) :=
  ((((((R.ok v_self)).map BookV.kept)).bind fun l => .ok (enumL l))).bind fun l_10 => R.flow (forR l_10 (() : Unit) (fun (x_1 : (Int × TieV)) (st_2 : Unit) =>
  R.cond (R.b2 (((R.ok x_1.2)).map (fun t : TieV => t.name)) (R.ok v_name) (eqR false))
  (((((R.ok x_1.1)).map some)).bind fun r_9 => .ok (.rt r_9))
  (.ok (.nx ()))) : R (Fl (Unit) (Option Int))) (fun (st_2 : Unit) =>
  (R.ok (none : Option Int))) (fun r_11 => .ok r_11)
noncomputable def F_Book_put (t : BookV) (x : D) : R BookV :=
  ((((R.ok x)).bind fun c => F_tie_of c).bind fun c => F_Tie_plain c).bind fun (pl : TieV) =>
  ((R.ok t).bind fun a => ((R.ok pl).map (fun t : TieV => t.name)).bind fun b => F_Book_place_of a b).bind fun (at_ : Option Int) =>
  R.cond ((R.ok at_).map fun o => o.isNone)
  ((R.ok pl).bind fun a => (few t.kept).bind fun _ => (R.ok (t.kept ++ [a])).bind fun (ks : List TieV) => R.ok (⟨ks⟩ : BookV))
  ((R.ok pl).bind fun a => ((R.ok at_).bind unw).bind fun j => (setL t.kept j a).bind fun (ks : List TieV) => R.ok (⟨ks⟩ : BookV))
end TF


/-! PL: reasoning on typed texts. -/
namespace TF
open PySem PySem.Spec PyProof.Rows L2 DL FR
open Enc KeyT
/-- it tells a value of which P is true -/
def R.sat {α : Type} (m : R α) (P : α → Prop) : Prop := ∃ a, m = .ok a ∧ P a
section
variable {α β γ σ ρ : Type}
theorem sat_ok {a : α} {P : α → Prop} (h : P a) : (R.ok a).sat P := ⟨a, rfl, h⟩
theorem sat_bind {m : R α} {f : α → R β} {P : α → Prop} {Q : β → Prop} (h : m.sat P) (k : ∀ a, P a → (f a).sat Q) : (m.bind f).sat Q := by
  obtain ⟨a, rfl, ha⟩ := h; exact k a ha
theorem sat_imp {m : R α} {P Q : α → Prop} (h : m.sat P) (k : ∀ a, P a → Q a) : m.sat Q := by
  obtain ⟨a, e, ha⟩ := h; exact ⟨a, e, k a ha⟩
/-! loops -/
theorem foldR_inv {l : List α} {f : α → σ → R σ} (I : σ → Prop) (h : ∀ x ∈ l, ∀ s, I s → (f x s).sat I) : ∀ s, I s → (foldR l s f).sat I := by
  induction l with
  | nil => intro s hs; exact sat_ok hs
  | cons x l ih =>
    intro s hs
    exact sat_bind (h x List.mem_cons_self s hs) fun s' hs' => ih (fun y hy => h y (List.mem_cons_of_mem _ hy)) s' hs'
/-- by what is walked already -/
theorem foldR_ind {l : List α} {f : α → σ → R σ} (I : List α → σ → Prop) (h : ∀ p x q s, l = p ++ x :: q → I p s → (f x s).sat (I (p ++ [x]))) {s : σ} (hs : I [] s) : (foldR l s f).sat (I l) := by
  have key : ∀ (q p : List α) (s : σ), l = p ++ q → I p s → (foldR q s f).sat (I l) := by
    intro q
    induction q with
    | nil => intro p s e hp; rw [List.append_nil] at e; subst e; exact sat_ok hp
    | cons x q ih =>
      intro p s e hp
      exact sat_bind (h p x q s e hp) fun s' hs' => ih (p ++ [x]) s' (by rw [e, List.append_assoc]; rfl) hs'
  exact key l [] s rfl hs
theorem rngL_len (lo : Int) (n : Nat) : (rngL lo n).length = n := by unfold rngL; simp
@[simp] theorem rngL_zero (lo : Int) : rngL lo 0 = [] := rfl
theorem ixL_ok {l : List α} {i : Int} (h0 : 0 ≤ i) (h1 : i < l.length) : ixL l i = .ok (l[i.toNat]'(by omega)) := by
  unfold ixL
  have : atI l i = some (l[i.toNat]'(by omega)) := by
    have := atI_nat l i.toNat
    rw [show ((i.toNat : Nat) : Int) = i by omega] at this
    rw [this, List.getElem?_eq_getElem (by omega)]
  rw [this]
theorem ixL_sat {l : List α} {i : Int} (h0 : 0 ≤ i) (h1 : i < l.length) : (ixL l i).sat fun a => a ∈ l := ⟨_, ixL_ok h0 h1, List.getElem_mem _⟩
/-! divisors -/
/-- the other way to write it: one, other, rest -/
theorem low_loop : ∀ (n : Nat) (x : Int) (y : Nat), y < n → 0 ≤ x ∨ 0 < y → whileR (ρ := ρ) (fun (st : Int × Int) => .ok (!decide (st.2 = 0))) (fun (st : Int × Int) =>
    (modI st.1 st.2).bind fun rest => .ok (.nx (st.2, rest))) ((x, (y : Int)) : Int × Int) = .ok (.nx (((Int.gcd x y : Nat) : Int), 0)) := by
  intro n
  induction n with
  | zero => intro x y h; omega
  | succ n ih =>
    intro x y hy hx
    rw [whileR_eq]
    simp only [R.ok_bind, R.b2]
    by_cases h0 : y = 0
    · subst h0
      have hx' : 0 ≤ x := by omega
      simp
      omega
    · have hp : (0 : Int) < (y : Int) := by omega
      have hne : ¬ (y : Int) = 0 := by omega
      rw [if_pos (by simp [h0]), modI_pos hp]
      simp only [R.ok_bind]
      have h1 := Int.emod_nonneg x hne
      have h2 := Int.emod_lt_of_pos x hp
      obtain ⟨r, hr⟩ : ∃ r : Nat, x % (y : Int) = r := ⟨(x % (y : Int)).toNat, by omega⟩
      rw [hr, ih y r (by omega) (.inl (by omega))]
      congr 3
      have e : Int.gcd x y = Int.gcd (x % y) y := by
        have e0 : Int.gcd x y = Int.gcd (x % y + y * (x / y)) y := by rw [Int.emod_add_mul_ediv x y]
        rw [e0]; simp
      rw [e, hr, Int.gcd_comm]
theorem low_parts {t b : Int} (hb : 0 < b) (hw : b.natAbs < 2 ^ 9000) : divI t ((Int.gcd t b : Nat) : Int) = .ok (Rat.divInt t b).num ∧ divI b ((Int.gcd t b : Nat) : Int) = .ok ((Rat.divInt t b).den : Int) := by
  have hg : 0 < Int.gcd t b := Int.gcd_pos_of_ne_zero_right _ (by omega)
  have hle : Int.gcd t b ≤ b.natAbs := Nat.le_of_dvd (by omega) (Int.natAbs_dvd_natAbs.mpr (Int.gcd_dvd_right ..) |> fun h => by simpa using h)
  have hd : DL.DivOk ((Int.gcd t b : Nat) : Int) := ⟨by omega, by simpa using Nat.lt_of_le_of_lt hle hw⟩
  rw [divI_ok hd, divI_ok hd]
  have e1 := low_num (a := t) (b := b) (by omega)
  have e2 := low_den (a := t) (b := b) (by omega)
  rw [if_neg (by omega)] at e1 e2
  exact ⟨by rw [e1], by rw [e2]⟩
theorem low_frac {t b : Int} (hb : 0 < b) (hw : b.natAbs < 2 ^ 9000) : ((divI t ((Int.gcd t b : Nat) : Int)).bind fun x => (divI b ((Int.gcd t b : Nat) : Int)).bind fun y => toRat (x, y)) = .ok (Rat.divInt t b) := by
  obtain ⟨h1, h2⟩ := low_parts (t := t) hb hw
  rw [h1, h2]; exact toRat_num _
/-- a fraction's size: its top below 2^B, its bottom at most d -/
def Fb (B d : Nat) (q : Rat) : Prop := q.num.natAbs < 2 ^ B ∧ q.den ≤ d
theorem Fb.sm {B d : Nat} {q : Rat} (h : Fb B d q) (hB : B ≤ 3000) (hd : d < 2 ^ 64) : Sm q := ⟨Nat.lt_of_lt_of_le h.1 (Nat.pow_le_pow_right (by decide) hB), Nat.lt_of_le_of_lt h.2 (Nat.lt_of_lt_of_le hd (Nat.pow_le_pow_right (by decide) (by decide)))⟩
theorem den_dvd {t b : Int} (hb : 0 < b) : ((Rat.divInt t b).den : Int) ∣ b := by
  rw [Rat.den_divInt]
  split
  · omega
  · have h := Int.gcd_dvd_left b t
    have : ((b.natAbs / b.gcd t : Nat) : Int) ∣ b := by
      have h2 : b.gcd t ∣ b.natAbs := Int.ofNat_dvd_left.mp h
      have h3 : (b.natAbs / b.gcd t) ∣ b.natAbs := Nat.div_dvd_of_dvd h2
      exact Int.ofNat_dvd_left.mpr h3
    exact this
theorem fb_divInt {t b : Int} {B d : Nat} (hb : 0 < b) (ht : t.natAbs < 2 ^ B) (hd : b ≤ d) : Fb B d (Rat.divInt t b) := by
  have h1 : (Rat.divInt t b).num.natAbs ≤ t.natAbs := by
    have e1 := low_num (a := t) (b := b) (by omega)
    rw [if_neg (by omega)] at e1
    rw [e1]
    have hg : (0 : Int) < (Int.gcd t b : Int) := by have := Int.gcd_pos_of_ne_zero_right t (show b ≠ 0 by omega); omega
    rw [Int.fdiv_eq_ediv_of_nonneg _ (by omega)]
    exact Int.natAbs_ediv_le_natAbs ..
  refine ⟨Nat.lt_of_le_of_lt h1 ht, ?_⟩
  have := Int.le_of_dvd hb (den_dvd (t := t) hb)
  omega
/-! fractions by their two numbers -/
theorem toRat_divInt {a b : Int} (hb : 0 < b) (hg : Int.gcd a b = 1) : toRat (a, b) = .ok (Rat.divInt a b) := by
  have h1 := low_num (a := a) (b := b) (by omega)
  have h2 := low_den (a := a) (b := b) (by omega)
  rw [if_neg (by omega), hg] at h1 h2
  have e1 : (Rat.divInt a b).num = a := by rw [h1]; simp
  have e2 : ((Rat.divInt a b).den : Int) = b := by rw [h2]; simp
  have := toRat_num (Rat.divInt a b)
  rw [e1, e2] at this
  exact this
theorem gcd_nd (q : Rat) : Int.gcd q.num (q.den : Int) = 1 := by
  have := q.reduced
  show q.num.natAbs.gcd ((q.den : Int).natAbs) = 1
  simpa using this
theorem den_pos' (q : Rat) : (0 : Int) < q.den := by have := q.den_pos; omega
theorem add_one (q : Rat) : Rat.divInt (q.num + (q.den : Int)) (q.den : Int) = q + 1 := by
  have := add_fr q 1
  simpa using this
theorem toRat_add (q : Rat) : toRat (q.num + (q.den : Int), (q.den : Int)) = .ok (q + 1) := by
  rw [toRat_divInt (den_pos' q) (by rw [show q.num + (q.den : Int) = q.num + (q.den : Int) * 1 by omega]; simp [gcd_nd]), add_one]
theorem Fb.up {B d : Nat} {q : Rat} (h : Fb B d q) : Fb (B + 1) d q := ⟨by have := h.1; rw [Nat.pow_succ]; omega, h.2⟩
theorem Fb.of {B d : Nat} {q : Rat} {a b : Int} (e : Rat.divInt a b = q) (hb : 0 < b) (ht : a.natAbs < 2 ^ B) (hd : b ≤ d) : Fb B d q := e ▸ fb_divInt hb ht hd
end
end TF


/-! PL2: texts by their letters. -/
namespace TF
open PySem PySem.Spec PyProof.Rows L2 DL FR
open Enc KeyT
/-- the text of these letters -/
def sl (cs : List Nat) : Str := ⟨cs.toArray⟩
theorem sl_inj {a b : List Nat} (h : sl a = sl b) : a = b := by
  have := congrArg (fun z : Str => z.cps.toList) h
  simpa [sl] using this
theorem sl_cps (a : List Nat) : (sl a).cps.toList = a := by simp [sl]
theorem sl_len (a : List Nat) : (sl a).length = a.length := by simp [sl, Str.length]
theorem sl_app (a b : List Nat) : sl a ++ sl b = sl (a ++ b) := by
  apply PyProof.Rows.ext_toList
  rw [cps_app, sl_cps, sl_cps, sl_cps]
theorem ixS_ok {cs : List Nat} {i : Int} (h : cs.length < 1000000) (h0 : 0 ≤ i) (h1 : i < cs.length) : ixS (sl cs) i = .ok (sl [cs[i.toNat]'(by omega)]) := by
  unfold ixS
  have e := atI_nat cs i.toNat
  rw [show ((i.toNat : Nat) : Int) = i by omega] at e
  rw [if_pos (by rw [sl_len]; exact h), sl_cps, e, List.getElem?_eq_getElem (by omega)]; rfl
theorem addS_sl {a b : List Nat} (h : a.length + b.length < 1000000) : addS (sl a) (sl b) = .ok (sl (a ++ b)) := by
  rw [addS_ok (by rw [sl_len, sl_len]; exact h), sl_app]
theorem strRep_sl (a : List Nat) (n : Nat) : strRep (sl a) n = sl (List.replicate n a).flatten := by
  unfold strRep; rw [sl_cps]; rfl
theorem mulS_sl {a : List Nat} {n : Int} (h : a.length ≤ 1000 ∧ n.natAbs ≤ 1000) : mulS (sl a) n = .ok (sl (List.replicate n.toNat a).flatten) := by
  rw [mulS_ok (by rw [sl_len]; exact h), strRep_sl]
theorem rep_one (c n : Nat) : (List.replicate n [c]).flatten = List.replicate n c := by
  induction n with
  | zero => rfl
  | succ n ih => rw [List.replicate_succ, List.flatten_cons, ih]; rfl
theorem mulS_one {c : Nat} {n : Int} (h : n.natAbs ≤ 1000) : mulS (sl [c]) n = .ok (sl (List.replicate n.toNat c)) := by
  rw [mulS_sl ⟨by simp, h⟩, rep_one]
theorem nameB_sl {cs : List Nat} : nameB (sl cs) = true ↔ (1 ≤ cs.length ∧ cs.length ≤ 8) ∧ ∀ c ∈ cs, 97 ≤ c ∧ c ≤ 122 := by
  unfold nameB
  rw [sl_len, sl_cps, Bool.and_eq_true, decide_eq_true_eq, List.all_eq_true]
  simp only [decide_eq_true_eq]
theorem nameB_ok {z : Str} (h : nameB z = true) : PyData.strOk z = true ∧ z.length ≤ 8 := by
  refine ⟨(nameB_few h).2, ?_⟩
  unfold nameB at h
  simp only [Bool.and_eq_true, decide_eq_true_eq] at h
  exact h.1.2
end TF


/-! PT0: dicts, whiles by an invariant. -/
namespace TF
open PySem PySem.Spec PyProof.Rows L2 DL FR
open Enc KeyT
section
variable {α κ : Type} [DecidableEq κ]
abbrev Dic.keys (d : Dic κ α) : List κ := d.l.map (·.1)
omit [DecidableEq κ] in
theorem Dic.len_keys (d : Dic κ α) : d.keys.length = d.l.length := by simp
theorem Dic.get_some_mem {d : Dic κ α} {k : κ} {a : α} (h : d.get? k = some a) : (k, a) ∈ d.l := by
  unfold Dic.get? at h
  rw [Option.map_eq_some_iff] at h
  obtain ⟨p, h1, h2⟩ := h
  have h3 := List.find?_some h1
  have h4 := List.mem_of_find?_eq_some h1
  have h5 : p.1 = k := by simpa using h3
  rw [← h5, ← h2]; exact h4
theorem Dic.isSome_iff {d : Dic κ α} {k : κ} : (d.get? k).isSome = true ↔ k ∈ d.keys := by
  unfold Dic.get?
  rw [Option.isSome_map, List.find?_isSome]
  constructor
  · rintro ⟨p, h1, h2⟩
    exact List.mem_map.mpr ⟨p, h1, by simpa using h2⟩
  · intro h
    obtain ⟨p, h1, h2⟩ := List.mem_map.mp h
    exact ⟨p, h1, by simpa using h2⟩
theorem Dic.none_iff {d : Dic κ α} {k : κ} : d.get? k = none ↔ k ∉ d.keys := by
  rw [← Dic.isSome_iff]
  cases d.get? k <;> simp
theorem Dic.isSome_dec {d : Dic κ α} {k : κ} : (d.get? k).isSome = decide (k ∈ d.keys) := by
  by_cases h : k ∈ d.keys
  · rw [decide_eq_true h, Dic.isSome_iff.mpr h]
  · rw [decide_eq_false h, Dic.none_iff.mpr h]; rfl
theorem Dic.put_new {d : Dic κ α} {k : κ} {a : α} (h : k ∉ d.keys) : (d.put k a).l = d.l ++ [(k, a)] := by
  unfold Dic.put
  have : (d.l.any fun p => decide (p.1 = k)) = false := by
    rw [List.any_eq_false]
    intro p hp e
    exact h (List.mem_map.mpr ⟨p, hp, by simpa using e⟩)
  simp only [this]; rfl
theorem Dic.put_old {d : Dic κ α} {k : κ} {a : α} (h : k ∈ d.keys) : (d.put k a).l = d.l.map (fun p => if p.1 = k then (p.1, a) else p) := by
  unfold Dic.put
  have : (d.l.any fun p => decide (p.1 = k)) = true := by
    rw [List.any_eq_true]
    obtain ⟨p, h1, h2⟩ := List.mem_map.mp h
    exact ⟨p, h1, by simpa using h2⟩
  simp only [this, if_true]
theorem Dic.keys_put_old {d : Dic κ α} {k : κ} {a : α} (h : k ∈ d.keys) : (d.put k a).keys = d.keys := by
  unfold Dic.keys
  rw [Dic.put_old h, List.map_map]
  apply List.map_congr_left
  intro p _
  show (if p.1 = k then (p.1, a) else p).1 = p.1
  split <;> rfl
theorem Dic.keys_put_new {d : Dic κ α} {k : κ} {a : α} (h : k ∉ d.keys) : (d.put k a).keys = d.keys ++ [k] := by
  unfold Dic.keys
  rw [Dic.put_new h, List.map_append]; rfl
theorem Dic.mem_put {d : Dic κ α} {k k' : κ} {a : α} : k' ∈ (d.put k a).keys ↔ k' = k ∨ k' ∈ d.keys := by
  by_cases h : k ∈ d.keys
  · rw [Dic.keys_put_old h]
    constructor
    · exact .inr
    · rintro (rfl | h')
      · exact h
      · exact h'
  · rw [Dic.keys_put_new h, List.mem_append, List.mem_singleton, or_comm]
theorem Dic.nodup_put {d : Dic κ α} {k : κ} {a : α} (hn : d.keys.Nodup) : (d.put k a).keys.Nodup := by
  by_cases h : k ∈ d.keys
  · rw [Dic.keys_put_old h]; exact hn
  · rw [Dic.keys_put_new h, List.nodup_append]
    refine ⟨hn, by simp, fun x hx y hy e => ?_⟩
    rw [List.mem_singleton] at hy
    subst hy; subst e; exact h hx
theorem Dic.get_put (d : Dic κ α) (k k' : κ) (a : α) : (d.put k a).get? k' = if k' = k then some a else d.get? k' := by
  by_cases h : k ∈ d.keys
  · unfold Dic.get?
    rw [Dic.put_old h, List.find?_map]
    have e : ((fun p : κ × α => decide (p.1 = k')) ∘ fun p => if p.1 = k then (p.1, a) else p) = fun p => decide (p.1 = k') := by
      funext p
      show decide ((if p.1 = k then (p.1, a) else p).1 = k') = _
      split <;> rfl
    rw [e]
    split
    · rename_i hk
      subst hk
      obtain ⟨p, h1, h2⟩ := List.mem_map.mp h
      have : (d.l.find? fun p => decide (p.1 = k')).isSome := by
        rw [List.find?_isSome]; exact ⟨p, h1, by simpa using h2⟩
      obtain ⟨q, hq⟩ := Option.isSome_iff_exists.mp this
      have hq1 : q.1 = k' := by simpa using List.find?_some hq
      rw [hq]
      simp [hq1]
    · rename_i hk
      cases hq : (d.l.find? fun p => decide (p.1 = k')) with
      | none => rfl
      | some q =>
        have hq1 : q.1 = k' := by simpa using List.find?_some hq
        have : ¬ q.1 = k := fun e => hk (hq1.symm.trans e)
        simp [this]
  · unfold Dic.get?
    rw [Dic.put_new h, List.find?_append]
    split
    · rename_i hk
      subst hk
      have : (d.l.find? fun p => decide (p.1 = k')) = none := by
        rw [List.find?_eq_none]
        intro p hp e
        exact h (List.mem_map.mpr ⟨p, hp, by simpa using e⟩)
      rw [this]; simp
    · rename_i hk
      have hk' : ¬ k = k' := fun e => hk e.symm
      simp [hk']
theorem getR_ok {d : Dic κ α} {k : κ} {a : α} (h : d.get? k = some a) : getR d k = .ok a := by
  unfold getR; rw [h]
theorem getR_of {d : Dic κ α} {k : κ} (h : k ∈ d.keys) : ∃ a, d.get? k = some a ∧ (k, a) ∈ d.l ∧ getR d k = .ok a := by
  obtain ⟨a, ha⟩ := Option.isSome_iff_exists.mp (Dic.isSome_iff.mpr h)
  exact ⟨a, ha, Dic.get_some_mem ha, getR_ok ha⟩
end
section
variable {σ ρ α : Type}
theorem whileR_inv {c : σ → R Bool} {b : σ → R (Fl σ ρ)} (I : σ → Prop) (μ : σ → Nat) (h : ∀ s, I s → ∃ t, c s = .ok t ∧ (t = true → (b s).sat fun r => ∃ s', r = .nx s' ∧ I s' ∧ μ s' < μ s)) : ∀ {s : σ}, I s → (whileR c b s).sat fun r => ∃ s', r = .nx s' ∧ I s' ∧ c s' = .ok false := by
  have key : ∀ (n : Nat) (s : σ), μ s < n → I s → (whileR c b s).sat fun r => ∃ s', r = .nx s' ∧ I s' ∧ c s' = .ok false := by
    intro n
    induction n with
    | zero => intro s hs; omega
    | succ n ih =>
      intro s hs hi
      obtain ⟨t, ht, hb⟩ := h s hi
      rw [whileR_eq, ht, R.ok_bind]
      cases t with
      | false => rw [if_neg (by decide)]; exact sat_ok ⟨s, rfl, hi, ht⟩
      | true =>
        rw [if_pos rfl]
        refine sat_bind (hb rfl) fun r ⟨s', e, hi', hm⟩ => ?_
        subst e
        exact ih s' (by omega) hi'
  intro s hi
  exact key _ s (Nat.lt_succ_self _) hi
theorem fewD_ok [KeyT σ] [Enc α] {d : Dic σ α} (h : d.l.length < 1000000) : fewD d = .ok () := if_pos h
end
end TF


/-! PT1: ways between faces. -/
namespace TF
open PySem PySem.Spec PyProof.Rows L2 DL FR
open Enc KeyT
/-- a part gone from a face to a face -/
def StepP (ps : List PartV) (f : Str) (s : Str × Bool) (g : Str) : Prop := ∃ p ∈ ps, p.name = s.1 ∧ ((s.2 = true ∧ p.start = f ∧ p.fin = g) ∨ (s.2 = false ∧ p.fin = f ∧ p.start = g))
inductive WalkP (ps : List PartV) : Str → List (Str × Bool) → Str → Prop
  | nil (f) : WalkP ps f [] f
  | snoc {f w g s h} : WalkP ps f w g → StepP ps g s h → WalkP ps f (w ++ [s]) h
/-- faces joined -/
inductive JoinP (ps : List PartV) : Str → Str → Prop
  | refl (f) : JoinP ps f f
  | fwd {f p} : JoinP ps f p.start → p ∈ ps → JoinP ps f p.fin
  | bwd {f p} : JoinP ps f p.fin → p ∈ ps → JoinP ps f p.start
theorem WalkP.join {ps : List PartV} {f w g} (h : WalkP ps f w g) : JoinP ps f g := by
  induction h with
  | nil => exact .refl _
  | snoc _ hs ih =>
    obtain ⟨p, hp, _, ⟨_, rfl, rfl⟩ | ⟨_, rfl, rfl⟩⟩ := hs
    · exact .fwd ih hp
    · exact .bwd ih hp
/-- names that texts may be compared by -/
def GdS (z : Str) : Prop := PyData.strOk z = true
structure GdP (ps : List PartV) : Prop where
  few : ps.length < 1000
  st : ∀ p ∈ ps, GdS p.start
  fi : ∀ p ∈ ps, GdS p.fin
theorem eqS {a b : Str} (h : GdS a) (k : GdS b) : eqR false a b = .ok (decide (a = b)) := by
  rw [eqR_ok h k]; simp
abbrev WSt := Dic Str (List (Str × Bool)) × List Str
def facesP (ps : List PartV) : List Str := ps.map (·.start) ++ ps.map (·.fin)
def unseen (ps : List PartV) (one : Str) (ks : List Str) : Nat := ((one :: facesP ps).filter fun f => decide (f ∉ ks)).length
theorem unseen_lt {ps : List PartV} {one k : Str} {ks : List Str} (hk : k ∈ one :: facesP ps) (hn : k ∉ ks) : unseen ps one (ks ++ [k]) < unseen ps one ks := by
  unfold unseen
  generalize one :: facesP ps = L at hk
  induction L with
  | nil => cases hk
  | cons x L ih =>
    have hle : ∀ M : List Str, (M.filter fun f => decide (f ∉ ks ++ [k])).length ≤ (M.filter fun f => decide (f ∉ ks)).length := by
      intro M
      induction M with
      | nil => exact Nat.le_refl _
      | cons y M ih2 =>
        rw [List.filter_cons, List.filter_cons]
        by_cases h1 : y ∈ ks
        · have h2 : y ∈ ks ++ [k] := List.mem_append_left _ h1
          simp only [h1, h2, not_true, decide_false, if_false, Bool.false_eq_true]; exact ih2
        · by_cases h2 : y ∈ ks ++ [k]
          · simp only [h1, h2, not_true, not_false_eq_true, decide_false, decide_true, if_false, if_true, Bool.false_eq_true, List.length_cons]; omega
          · simp only [h1, h2, not_false_eq_true, decide_true, if_true, List.length_cons]; omega
    rw [List.filter_cons, List.filter_cons]
    by_cases hx : x = k
    · subst hx
      have h2 : x ∈ ks ++ [x] := List.mem_append_right _ List.mem_cons_self
      simp only [hn, h2, not_true, not_false_eq_true, decide_false, decide_true, if_false, if_true, Bool.false_eq_true, List.length_cons]
      have := hle L
      omega
    · have hk' : k ∈ L := (List.mem_cons.mp hk).resolve_left fun e => hx e.symm
      have := ih hk'
      by_cases h1 : x ∈ ks
      · have h2 : x ∈ ks ++ [k] := List.mem_append_left _ h1
        simp only [h1, h2, not_true, decide_false, if_false, Bool.false_eq_true]; exact this
      · have h2 : x ∉ ks ++ [k] := fun h => (List.mem_append.mp h).elim h1 fun h => hx (List.mem_singleton.mp h)
        simp only [h1, h2, not_false_eq_true, decide_true, if_true, List.length_cons]; omega
/-- what stands while faces are found -/
structure InvW (ps : List PartV) (one : Str) (st : WSt) : Prop where
  nd : st.1.keys.Nodup
  one_ : one ∈ st.1.keys
  good : ∀ f ∈ st.1.keys, GdS f
  walk : ∀ f w, (f, w) ∈ st.1.l → WalkP ps one w f
  names : ∀ f w, (f, w) ∈ st.1.l → (w.map (·.1)).Nodup ∧ ∀ n ∈ w.map (·.1), ∃ p ∈ ps, p.name = n ∧ p.start ∈ st.1.keys ∧ p.fin ∈ st.1.keys
  len : ∀ f w, (f, w) ∈ st.1.l → w.length < st.1.l.length
  q : ∀ f ∈ st.2, f ∈ st.1.keys
  card : st.1.l.length + unseen ps one st.1.keys ≤ 2 * ps.length + 1
theorem unseen_le (ps : List PartV) (one : Str) : 1 + unseen ps one [one] ≤ 2 * ps.length + 1 := by
  unfold unseen
  rw [List.filter_cons]
  have : ((facesP ps).filter fun f => decide (f ∉ [one])).length ≤ (facesP ps).length := List.length_filter_le ..
  have e : (facesP ps).length = 2 * ps.length := by unfold facesP; simp; omega
  simp only [List.mem_cons, true_or, not_true, decide_false, if_false, Bool.false_eq_true]
  simp only [List.mem_cons] at this
  omega
theorem InvW.add {ps : List PartV} {one here g : Str} {st : WSt} {s : Str × Bool} {w : List (Str × Bool)} (nn : (ps.map (·.name)).Nodup) (hp : GdP ps) (I : InvW ps one st) (hw : (here, w) ∈ st.1.l) (hs : StepP ps here s g) (hg : g ∉ st.1.keys) (gg : GdS g) :
    InvW ps one (st.1.put g (w ++ [s]), st.2 ++ [g]) ∧ unseen ps one (st.1.put g (w ++ [s])).keys < unseen ps one st.1.keys := by
  have hgm : g ∈ one :: facesP ps := by
    obtain ⟨p, hp, _, ⟨_, _, rfl⟩ | ⟨_, _, rfl⟩⟩ := hs
    · exact List.mem_cons_of_mem _ (List.mem_append_right _ (List.mem_map_of_mem hp))
    · exact List.mem_cons_of_mem _ (List.mem_append_left _ (List.mem_map_of_mem hp))
  have hun : unseen ps one (st.1.put g (w ++ [s])).keys < unseen ps one st.1.keys := by
    rw [Dic.keys_put_new hg]; exact unseen_lt hgm hg
  have hl : (st.1.put g (w ++ [s])).l = st.1.l ++ [(g, w ++ [s])] := Dic.put_new hg
  refine ⟨⟨Dic.nodup_put I.nd, Dic.mem_put.mpr (.inr I.one_), fun f hf => ?_, fun f v hv => ?_, fun f v hv => ?_, fun f v hv => ?_, fun f hf => ?_, ?_⟩, hun⟩
  · rcases Dic.mem_put.mp hf with rfl | hf
    · exact gg
    · exact I.good f hf
  · rw [hl] at hv
    rcases List.mem_append.mp hv with hv | hv
    · exact I.walk f v hv
    · cases List.mem_singleton.mp hv
      exact .snoc (I.walk here w hw) hs
  · rw [hl] at hv
    rcases List.mem_append.mp hv with hv | hv
    · obtain ⟨h1, h2⟩ := I.names f v hv
      refine ⟨h1, fun n hn => ?_⟩
      obtain ⟨p, a, b, c, d⟩ := h2 n hn
      exact ⟨p, a, b, Dic.mem_put.mpr (.inr c), Dic.mem_put.mpr (.inr d)⟩
    · cases List.mem_singleton.mp hv
      obtain ⟨h1, h2⟩ := I.names here w hw
      have hk : here ∈ st.1.keys := List.mem_map.mpr ⟨_, hw, rfl⟩
      obtain ⟨p, hp, en, hd⟩ := hs
      constructor
      · rw [List.map_append, List.nodup_append]
        refine ⟨h1, by simp, fun x hx y hy e => ?_⟩
        have hy' : y = s.1 := by simpa using hy
        subst hy'; subst e
        obtain ⟨p', a, b, c, d⟩ := h2 _ hx
        have : p' = p := by
          obtain ⟨i, hi, ei⟩ := List.getElem_of_mem a
          obtain ⟨j, hj, ej⟩ := List.getElem_of_mem hp
          have hij : i = j := by
            have := List.pairwise_iff_getElem.mp nn
            rcases Nat.lt_trichotomy i j with h | h | h
            · exact absurd (show (ps.map (·.name))[i]'(by simpa using hi) = (ps.map (·.name))[j]'(by simpa using hj) by rw [List.getElem_map, List.getElem_map, ei, ej, b, en]) (this i j (by simpa using hi) (by simpa using hj) h)
            · exact h
            · exact absurd (show (ps.map (·.name))[j]'(by simpa using hj) = (ps.map (·.name))[i]'(by simpa using hi) by rw [List.getElem_map, List.getElem_map, ei, ej, b, en]) (this j i (by simpa using hj) (by simpa using hi) h)
          subst hij; exact ei.symm.trans ej
        subst this
        rcases hd with ⟨_, _, rfl⟩ | ⟨_, _, rfl⟩
        · exact hg d
        · exact hg c
      · intro n hn
        rw [List.map_append, List.mem_append] at hn
        rcases hn with hn | hn
        · obtain ⟨p, a, b, c, d⟩ := h2 n hn
          exact ⟨p, a, b, Dic.mem_put.mpr (.inr c), Dic.mem_put.mpr (.inr d)⟩
        · have hn' : n = s.1 := by simpa using hn
          subst hn'
          refine ⟨p, hp, en, ?_⟩
          rcases hd with ⟨_, rfl, rfl⟩ | ⟨_, rfl, rfl⟩
          · exact ⟨Dic.mem_put.mpr (.inr hk), Dic.mem_put.mpr (.inl rfl)⟩
          · exact ⟨Dic.mem_put.mpr (.inl rfl), Dic.mem_put.mpr (.inr hk)⟩
  · rw [hl] at hv ⊢
    rw [List.length_append]
    rcases List.mem_append.mp hv with hv | hv
    · have := I.len f v hv; omega
    · cases List.mem_singleton.mp hv
      have := I.len here w hw
      simp; omega
  · rcases List.mem_append.mp hf with hf | hf
    · exact Dic.mem_put.mpr (.inr (I.q f hf))
    · exact Dic.mem_put.mpr (.inl (List.mem_singleton.mp hf))
  · show (st.1.put g (w ++ [s])).l.length + unseen ps one (st.1.put g (w ++ [s])).keys ≤ _
    rw [hl, List.length_append]
    have := I.card
    simp; omega


/-- a face's neighbours are found -/
def ClosedP (ks : List Str) (f : Str) (p : PartV) : Prop := (p.start = f → p.fin ∈ ks) ∧ (p.fin = f → p.start ∈ ks)
theorem ClosedP.mono {ks ks' : List Str} {f : Str} {p : PartV} (h : ClosedP ks f p) (hs : ∀ k ∈ ks, k ∈ ks') : ClosedP ks' f p := ⟨fun e => hs _ (h.1 e), fun e => hs _ (h.2 e)⟩
structure InvF (ps : List PartV) (one here : Str) (M : Nat) (pre : List PartV) (st : WSt) : Prop where
  I : InvW ps one st
  here_ : here ∈ st.1.keys
  closed : ∀ f ∈ st.1.keys, f ∉ st.2 → f ≠ here → ∀ p ∈ ps, ClosedP st.1.keys f p
  now : ∀ p ∈ pre, ClosedP st.1.keys here p
  m : unseen ps one st.1.keys + st.2.length ≤ M
theorem InvF.add {ps : List PartV} {one here g : Str} {M : Nat} {pre : List PartV} {x : PartV} {st : WSt} {s : Str × Bool} {w : List (Str × Bool)} (nn : (ps.map (·.name)).Nodup) (hp : GdP ps) (F : InvF ps one here M pre st) (hw : (here, w) ∈ st.1.l) (hs : StepP ps here s g) (hg : g ∉ st.1.keys) (gg : GdS g)
    (hx : ∀ ks : List Str, g ∈ ks → ClosedP ks here x ∨ True) (hc : ClosedP (st.1.put g (w ++ [s])).keys here x) : InvF ps one here M (pre ++ [x]) (st.1.put g (w ++ [s]), st.2 ++ [g]) := by
  obtain ⟨h1, h2⟩ := F.I.add nn hp hw hs hg gg
  have mono : ∀ k ∈ st.1.keys, k ∈ (st.1.put g (w ++ [s])).keys := fun k hk => Dic.mem_put.mpr (.inr hk)
  refine ⟨h1, mono _ F.here_, fun f hf hq hne p hp => ?_, fun p hp => ?_, ?_⟩
  · have hfq : f ∉ st.2 := fun h => hq (List.mem_append_left _ h)
    have hfg : f ≠ g := fun e => hq (List.mem_append_right _ (List.mem_singleton.mpr e))
    exact (F.closed f ((Dic.mem_put.mp hf).resolve_left hfg) hfq hne p hp).mono mono
  · rcases List.mem_append.mp hp with hp | hp
    · exact (F.now p hp).mono mono
    · cases List.mem_singleton.mp hp
      exact hc
  · show unseen ps one (st.1.put g (w ++ [s])).keys + (st.2 ++ [g]).length ≤ M
    have := F.m
    rw [List.length_append, List.length_singleton]; omega
theorem way_ok (ps : List PartV) (nn : (ps.map (·.name)).Nodup) (hp : GdP ps) (one other : Str) (go : GdS one) : ∃ r, F_way_between ps one other = .ok r ∧
    (∀ w, r = some w → WalkP ps one w other ∧ (w.map (·.1)).Nodup ∧ w.length ≤ 2 * ps.length + 1) ∧ (r = none → ¬ JoinP ps one other) := by
  have hfew := hp.few
  have key : (F_way_between ps one other).sat fun r => (∀ w, r = some w → WalkP ps one w other ∧ (w.map (·.1)).Nodup ∧ w.length ≤ 2 * ps.length + 1) ∧ (r = none → ¬ JoinP ps one other) := by
    unfold F_way_between
    simp only [R.ok_bind, R.exc_bind, R.bad_bind, R.bind_assoc, R.noexc_ok, R.b2, R.map, R.cond, R.flow, addI, subI, andB, orB, unw_some, unw_none, few_nil, ofRat, isCls, Option.isNone_none, Option.isNone_some, Bool.not_true, Bool.not_false, Bool.false_eq_true, if_true, if_false]
    rw [few_ok (by simp), R.ok_bind]
    refine sat_bind (whileR_inv (fun st : WSt => InvW ps one st ∧ (∀ f ∈ st.1.keys, f ∉ st.2 → ∀ p ∈ ps, ClosedP st.1.keys f p) ∧ unseen ps one st.1.keys + st.2.length ≤ 2 * ps.length + 1) (fun st => unseen ps one st.1.keys + st.2.length) ?_ ?_) ?_
    · rintro ⟨d, qu⟩ ⟨I, hcl, hM⟩
      refine ⟨_, rfl, fun ht => ?_⟩
      cases qu with
      | nil => simp at ht
      | cons here qu =>
        have hk : here ∈ d.keys := I.q here List.mem_cons_self
        have gh := I.good here hk
        show (((R.ok (here, qu) : R (Str × List Str)).bind _) : R _).sat _
        rw [R.ok_bind]
        dsimp only
        have hM' : unseen ps one d.keys + qu.length ≤ 2 * ps.length := by
          have : unseen ps one d.keys + (qu.length + 1) ≤ 2 * ps.length + 1 := hM
          omega
        refine sat_bind (foldR_ind (InvF ps one here (unseen ps one d.keys + qu.length)) ?_ ?_) ?_
        · intro pre x post st epx F
          have hx : x ∈ ps := by rw [epx]; exact List.mem_append_right _ List.mem_cons_self
          obtain ⟨w, hw1, hw2, hw3⟩ := getR_of F.here_
          have hlen := F.I.len _ _ hw2
          have hcard := F.I.card
          have hq : st.2.length < 1000000 := by have := F.m; omega
          have fA : ∀ b : Bool, few [(x.name, b)] = .ok [(x.name, b)] := fun b => few_ok (by simp)
          have fB : ∀ b : Bool, few (w ++ [(x.name, b)]) = .ok (w ++ [(x.name, b)]) := fun b => few_ok (by rw [List.length_append]; simp; omega)
          have fC : fewD st.1 = .ok () := fewD_ok (by omega)
          have fD : few st.2 = .ok st.2 := few_ok hq
          have back : x.fin = here → x.start ∉ st.1.keys → (R.ok (st.1.put x.start (w ++ [(x.name, false)]), st.2 ++ [x.start])).sat (InvF ps one here (unseen ps one d.keys + qu.length) (pre ++ [x])) := fun h3 h4 =>
            sat_ok (F.add nn hp hw2 ⟨x, hx, rfl, .inr ⟨rfl, h3, rfl⟩⟩ h4 (hp.st x hx) (fun _ _ => .inr trivial) ⟨fun e => absurd (e ▸ F.here_) h4, fun _ => Dic.mem_put.mpr (.inl rfl)⟩)
          have stay : ClosedP st.1.keys here x → (R.ok st).sat (InvF ps one here (unseen ps one d.keys + qu.length) (pre ++ [x])) := fun hc =>
            sat_ok ⟨F.I, F.here_, F.closed, fun p hp => by
              rcases List.mem_append.mp hp with hp | hp
              · exact F.now p hp
              · cases List.mem_singleton.mp hp; exact hc, F.m⟩
          rw [eqS (hp.st x hx) gh, R.ok_bind, eqS (hp.fi x hx) gh]
          simp only [R.ok_bind, R.exc_bind, R.bad_bind, R.bind_assoc, R.noexc_ok, R.b2, R.map, R.cond, R.flow, addI, subI, andB, orB, unw_some, unw_none, few_nil, ofRat, isCls, Option.isNone_none, Option.isNone_some, Bool.not_true, Bool.not_false, Bool.false_eq_true, if_true, if_false, hw3, fA, fB, fC, fD, Dic.isSome_dec]
          by_cases h1 : x.start = here
          · by_cases h2 : x.fin ∈ st.1.keys
            · simp only [h1, h2, decide_true, decide_false, Bool.not_true, Bool.not_false, if_true, if_false, R.ok_bind, Bool.false_eq_true]
              by_cases h3 : x.fin = here
              · have h4 : here ∈ st.1.keys := F.here_
                simp only [h3, h4, decide_true, decide_false, Bool.not_true, Bool.not_false, if_true, if_false, R.ok_bind, Bool.false_eq_true]
                exact stay ⟨fun _ => h2, fun _ => h1 ▸ F.here_⟩
              · simp only [h3, decide_false, if_false, R.ok_bind, Bool.false_eq_true]
                exact stay ⟨fun _ => h2, fun e => absurd e h3⟩
            · simp only [h1, h2, decide_true, decide_false, Bool.not_true, Bool.not_false, if_true, if_false, R.ok_bind, Bool.false_eq_true]
              exact sat_ok (F.add nn hp hw2 ⟨x, hx, rfl, .inl ⟨rfl, h1, rfl⟩⟩ h2 (hp.fi x hx) (fun _ _ => .inr trivial) ⟨fun _ => Dic.mem_put.mpr (.inl rfl), fun e => absurd (e ▸ F.here_) h2⟩)
          · simp only [h1, decide_false, if_false, R.ok_bind, Bool.false_eq_true]
            by_cases h3 : x.fin = here
            · by_cases h4 : x.start ∈ st.1.keys
              · simp only [h3, h4, decide_true, decide_false, Bool.not_true, Bool.not_false, if_true, if_false, R.ok_bind, Bool.false_eq_true]
                exact stay ⟨fun e => absurd e h1, fun _ => h4⟩
              · simp only [h3, h4, decide_true, decide_false, Bool.not_true, Bool.not_false, if_true, if_false, R.ok_bind, Bool.false_eq_true]
                exact back h3 h4
            · simp only [h3, decide_false, if_false, R.ok_bind, Bool.false_eq_true]
              exact stay ⟨fun e => absurd e h1, fun e => absurd e h3⟩
        · refine ⟨⟨I.nd, I.one_, I.good, I.walk, I.names, I.len, fun f hf => I.q f (List.mem_cons_of_mem _ hf), I.card⟩, hk, fun f hf hq hne => hcl f hf ?_, fun p hp => (nomatch hp), Nat.le_refl _⟩
          intro h
          rcases List.mem_cons.mp h with h | h
          · exact hne h
          · exact hq h
        · intro st F
          refine sat_ok ⟨st, rfl, ⟨F.I, fun f hf hq p hp => ?_, ?_⟩, ?_⟩
          · by_cases e : f = here
            · subst e; exact F.now p hp
            · exact F.closed f hf hq e p hp
          · have := F.m; omega
          · show unseen ps one st.1.keys + st.2.length < unseen ps one d.keys + (qu.length + 1)
            have := F.m; omega
    · refine ⟨⟨?_, ?_, ?_, ?_, ?_, ?_, ?_, ?_⟩, ?_, ?_⟩
      · show [one].Nodup; simp
      · show one ∈ [one]; simp
      · intro f hf
        have : f ∈ [one] := hf
        rw [List.mem_singleton.mp this]; exact go
      · intro f w h
        have : (f, w) ∈ [(one, ([] : List (Str × Bool)))] := h
        cases List.mem_singleton.mp this; exact .nil _
      · intro f w h
        have : (f, w) ∈ [(one, ([] : List (Str × Bool)))] := h
        cases List.mem_singleton.mp this
        exact ⟨by simp, fun n hn => (nomatch hn)⟩
      · intro f w h
        have : (f, w) ∈ [(one, ([] : List (Str × Bool)))] := h
        cases List.mem_singleton.mp this
        show 0 < 1; decide
      · intro f hf
        exact hf
      · show 1 + unseen ps one [one] ≤ _
        exact unseen_le ps one
      · intro f hf hq
        exact absurd hf hq
      · show unseen ps one [one] + 1 ≤ _
        have := unseen_le ps one; omega
    · rintro r ⟨⟨d, qu⟩, rfl, ⟨I, hcl, _⟩, hc⟩
      have hq : qu = [] := by
        have : decide ((0 : Int) < (qu.length : Int)) = false := R.ok.inj hc
        have h2 : ¬ (0 : Int) < (qu.length : Int) := of_decide_eq_false this
        exact List.eq_nil_of_length_eq_zero (by omega)
      subst hq
      refine sat_ok ⟨fun w hw => ?_, fun hn hj => ?_⟩
      · have hm := Dic.get_some_mem hw
        have := I.len _ _ hm
        have hcd : d.l.length + unseen ps one d.keys ≤ 2 * ps.length + 1 := I.card
        have h5 : w.length < d.l.length := this
        exact ⟨I.walk _ _ hm, (I.names _ _ hm).1, by omega⟩
      · have hn' := Dic.none_iff.mp hn
        refine hn' ?_
        clear hn hn' hc
        induction hj with
        | refl => exact I.one_
        | fwd _ hp ih => exact (hcl _ ih (fun h => nomatch h) _ hp).1 rfl
        | bwd _ hp ih => exact (hcl _ ih (fun h => nomatch h) _ hp).2 rfl
  obtain ⟨r, e, h1, h2⟩ := key
  exact ⟨r, e, h1, h2⟩
end TF


/-! PT2: things made; middles, rooms. -/
namespace TF
open PySem PySem.Spec PyProof.Rows L2 DL FR
open Enc KeyT
structure OkP (p : PartV) : Prop where
  n : nameB p.name = true
  s : nameB p.start = true
  f : nameB p.fin = true
  ne : p.start ≠ p.fin
  most : 0 ≤ p.most
  w : 0 < p.weight
structure OkG (g : GapV) : Prop where
  n : nameB g.name = true
  s : nameB g.one = true
  f : nameB g.other = true
  ne : g.one ≠ g.other
  lo : Sm g.low
  hi : Sm g.high
  le : g.low ≤ g.high
theorem gd_of {z : Str} (h : nameB z = true) : GdS z := (nameB_few h).2
theorem gdP {ps : List PartV} (h : ∀ p ∈ ps, OkP p) (hl : ps.length < 1000) : GdP ps := ⟨hl, fun p hp => gd_of (h p hp).s, fun p hp => gd_of (h p hp).f⟩
/-- a thing of these parts and gaps -/
structure ThOk (ps : List PartV) (gs : List GapV) (t : ThingV) : Prop where
  parts : t.parts = ps
  gaps : t.gaps = gs
  sizes : t.sizes.l = ps.map fun p => (p.name, p.size)
  ways : t.ways.keys = gs.map (·.name)
  way : ∀ g ∈ gs, ∃ w, t.ways.get? g.name = some w ∧ WalkP ps g.one w g.other ∧ (w.map (·.1)).Nodup ∧ w.length ≤ 2 * ps.length + 1
/-- parts and gaps that make a thing -/
structure Fit (ps : List PartV) (gs : List GapV) : Prop where
  lp : ps.length < 1000
  lg : gs.length < 1000
  okP : ∀ p ∈ ps, OkP p
  okG : ∀ g ∈ gs, OkG g
  nP : (ps.map (·.name)).Nodup
  nG : (gs.map (·.name)).Nodup
  tree : ∀ pre x post, ps = pre ++ x :: post → ¬ JoinP pre x.start x.fin
  join : ∀ g ∈ gs, JoinP ps g.one g.other
theorem nodup_pre {α : Type} {l m : List α} {x : α} (h : (l ++ x :: m).Nodup) : l.Nodup ∧ x ∉ l := by
  rw [List.nodup_append] at h
  refine ⟨h.1, fun hx => h.2.2 x hx x List.mem_cons_self rfl⟩
/-! ### sums along a way -/
/-- places that the sizes of parts keep -/
def PosP (ps : List PartV) (φ : Str → Rat) : Prop := ∀ p ∈ ps, φ p.fin = φ p.start + p.size
theorem JoinP.mono {ps qs : List PartV} (h : ∀ p ∈ ps, p ∈ qs) {f g : Str} (j : JoinP ps f g) : JoinP qs f g := by
  induction j with
  | refl => exact .refl _
  | fwd _ hp ih => exact .fwd ih (h _ hp)
  | bwd _ hp ih => exact .bwd ih (h _ hp)
theorem JoinP.trans {ps : List PartV} {f g h : Str} (a : JoinP ps f g) (b : JoinP ps g h) : JoinP ps f h := by
  induction b with
  | refl => exact a
  | fwd _ hp ih => exact .fwd ih hp
  | bwd _ hp ih => exact .bwd ih hp
theorem JoinP.symm {ps : List PartV} {f g : Str} (a : JoinP ps f g) : JoinP ps g f := by
  induction a with
  | refl => exact .refl _
  | fwd _ hp ih => exact JoinP.trans (.bwd (.refl _) hp) ih
  | bwd _ hp ih => exact JoinP.trans (.fwd (.refl _) hp) ih
theorem JoinP.const {α : Type} {ps : List PartV} {f g : Str} (φ : Str → α) (h : ∀ p ∈ ps, φ p.start = φ p.fin) (a : JoinP ps f g) : φ f = φ g := by
  induction a with
  | refl => rfl
  | fwd _ hp ih => rw [ih, h _ hp]
  | bwd _ hp ih => rw [ih, h _ hp]
/-- parts form no ring where each has a mark that it alone changes -/
theorem tree_of {α : Type} {ps : List PartV} (nn : (ps.map (·.name)).Nodup) (φ : Str → Str → α) (h1 : ∀ p ∈ ps, φ p.name p.start ≠ φ p.name p.fin) (h2 : ∀ p ∈ ps, ∀ q ∈ ps, p.name ≠ q.name → φ p.name q.start = φ p.name q.fin) :
    ∀ pre x post, ps = pre ++ x :: post → ¬ JoinP pre x.start x.fin := by
  intro pre x post e j
  have hx : x ∈ ps := by rw [e]; exact List.mem_append_right _ List.mem_cons_self
  rw [e, List.map_append, List.map_cons] at nn
  obtain ⟨n1, n2⟩ := nodup_pre nn
  refine h1 x hx (j.const (φ x.name) fun p hp => h2 x hx p (by rw [e]; exact List.mem_append_left _ hp) fun e2 => n2 (e2 ▸ List.mem_map_of_mem hp))
/-- the parts on a way are those whose marks its ends have unlike -/
theorem walk_names {ps : List PartV} {f g : Str} {w : List (Str × Bool)} {n : Str} (φ : Str → Bool) (h1 : ∀ p ∈ ps, p.name = n → φ p.start ≠ φ p.fin) (h2 : ∀ p ∈ ps, p.name ≠ n → φ p.start = φ p.fin) (h : WalkP ps f w g) (nd : (w.map (·.1)).Nodup) :
    n ∈ w.map (·.1) ↔ φ f ≠ φ g := by
  induction h with
  | nil => simp
  | @snoc w g s h hw hs ih =>
    rw [List.map_append, List.nodup_append] at nd
    have ih := ih nd.1
    obtain ⟨p, hp, en, hd⟩ := hs
    have hne : p.name = n → φ g ≠ φ h := fun e => by
      rcases hd with ⟨_, rfl, rfl⟩ | ⟨_, rfl, rfl⟩
      · exact h1 p hp e
      · exact fun e2 => h1 p hp e e2.symm
    have heq : p.name ≠ n → φ g = φ h := fun e => by
      rcases hd with ⟨_, rfl, rfl⟩ | ⟨_, rfl, rfl⟩
      · exact h2 p hp e
      · exact (h2 p hp e).symm
    rw [List.map_append, List.mem_append]
    by_cases e : p.name = n
    · have hs : s.1 = n := en.symm.trans e
      have hnw : n ∉ w.map (·.1) := fun hm => nd.2.2 n hm n (by simp [hs]) rfl
      have e1 : φ f = φ g := Classical.byContradiction fun hh => hnw (ih.mpr hh)
      constructor
      · intro _; rw [e1]; exact hne e
      · intro _; exact .inr (by simp [hs])
    · have hs : ¬ s.1 = n := fun h => e (en.trans h)
      rw [← heq e]
      constructor
      · rintro (h | h)
        · exact ih.mp h
        · simp at h; exact absurd h.symm hs
      · intro h; exact .inl (ih.mpr h)
theorem same_name {α : Type} {f : α → Str} {l : List α} (nn : (l.map f).Nodup) {a b : α} (ha : a ∈ l) (hb : b ∈ l) (h : f a = f b) : a = b := by
  induction l with
  | nil => cases ha
  | cons x l ih =>
    rw [List.map_cons, List.nodup_cons] at nn
    rcases List.mem_cons.mp ha with e1 | e1 <;> rcases List.mem_cons.mp hb with e2 | e2
    · exact e1.trans e2.symm
    · exact (nn.1 (List.mem_map.mpr ⟨b, e2, by rw [← e1]; exact h.symm⟩)).elim
    · exact (nn.1 (List.mem_map.mpr ⟨a, e1, by rw [← e2]; exact h⟩)).elim
    · exact ih nn.2 e1 e2
/-- the room that a gap leaves a middle -/
def roomV (g : GapV) (m : Rat) : Rat := if g.high - m < m - g.low then g.high - m else m - g.low
end TF


/-! PT3: fractions over a common bottom; what the laws on things draw. -/
namespace TF
open PySem PySem.Spec PyProof.Rows L2 DL FR
open Enc KeyT
/-- a fraction over a common bottom, not too great -/
def Gd (N M : Nat) (q : Rat) : Prop := (∃ k : Int, q * (N : Rat) = (k : Rat)) ∧ -(M : Rat) ≤ q ∧ q ≤ (M : Rat)
section
variable {N M M' : Nat} {q r : Rat}
theorem Gd.mono (h : Gd N M q) (hm : M ≤ M') : Gd N M' q := by
  have : (M : Rat) ≤ (M' : Rat) := Rat.natCast_le_natCast.mpr hm
  obtain ⟨h1, h2, h3⟩ := h
  exact ⟨h1, by grind, by grind⟩
theorem Gd.add (h : Gd N M q) (g : Gd N M' r) : Gd N (M + M') (q + r) := by
  obtain ⟨⟨k, hk⟩, h2, h3⟩ := h
  obtain ⟨⟨l, hl⟩, g2, g3⟩ := g
  refine ⟨⟨k + l, ?_⟩, ?_, ?_⟩
  · rw [Rat.intCast_add]; grind
  · rw [Rat.natCast_add]; grind
  · rw [Rat.natCast_add]; grind
theorem Gd.neg (h : Gd N M q) : Gd N M (-q) := by
  obtain ⟨⟨k, hk⟩, h2, h3⟩ := h
  refine ⟨⟨-k, ?_⟩, by grind, by grind⟩
  rw [Rat.intCast_neg]; grind
theorem Gd.sub (h : Gd N M q) (g : Gd N M' r) : Gd N (M + M') (q - r) := by
  rw [Rat.sub_eq_add_neg]; exact h.add g.neg
theorem Gd.zero : Gd N 0 0 := ⟨⟨0, by simp⟩, by simp, by simp⟩
theorem Gd.eq (hN : 0 < N) (h : Gd N M q) : ∃ k : Int, q = Rat.divInt k N ∧ k.natAbs ≤ M * N := by
  obtain ⟨⟨k, hk⟩, h2, h3⟩ := h
  have hN0 : (0 : Rat) < (N : Rat) := Rat.natCast_pos.mpr hN
  have hne : (N : Rat) ≠ 0 := by grind
  refine ⟨k, ?_, ?_⟩
  · rw [Rat.divInt_eq_div, Rat.intCast_natCast]
    grind
  · have a1 : (k : Rat) ≤ (M : Rat) * (N : Rat) := by rw [← hk]; exact Rat.mul_le_mul_of_nonneg_right h3 (Rat.le_of_lt hN0)
    have a2 : -((M : Rat) * (N : Rat)) ≤ (k : Rat) := by
      have := Rat.mul_le_mul_of_nonneg_right h2 (Rat.le_of_lt hN0)
      grind
    have b1 : k ≤ ((M * N : Nat) : Int) := by
      rw [← Rat.intCast_le_intCast, Rat.intCast_natCast, Rat.natCast_mul]; exact a1
    have b2 : -((M * N : Nat) : Int) ≤ k := by
      rw [← Rat.intCast_le_intCast, Rat.intCast_neg, Rat.intCast_natCast, Rat.natCast_mul]; exact a2
    omega
theorem Gd.sm (h : Gd N M q) (hN : 0 < N) (hM : M * N < 2 ^ 3000) (hN2 : N < 2 ^ 3000) : Sm q := by
  obtain ⟨k, e, hk⟩ := h.eq hN
  rw [e]
  exact sm_low (k := 3000) (by omega) (by omega) (by simpa using hN2) (Nat.le_refl _)
theorem gd_div {t b : Int} (hb : 0 < b) (hd : b ∣ (N : Int)) (ht : t.natAbs ≤ M) : Gd N M (Rat.divInt t b) := by
  obtain ⟨c, hc⟩ := hd
  have hb0 : (0 : Rat) < (b : Rat) := by
    have := Rat.intCast_lt_intCast.mpr hb; simpa using this
  have hne : (b : Rat) ≠ 0 := by grind
  rw [Rat.divInt_eq_div]
  have hN : (N : Rat) = (b : Rat) * (c : Rat) := by rw [← Rat.intCast_natCast, hc, Rat.intCast_mul]
  have hb1 : (1 : Rat) ≤ (b : Rat) := by
    have := Rat.intCast_le_intCast.mpr (show (1 : Int) ≤ b by omega); simpa using this
  refine ⟨⟨t * c, ?_⟩, ?_, ?_⟩
  · rw [hN, Rat.intCast_mul]; grind
  · refine Rat.not_lt.mp fun hlt => ?_
    have hx : (t : Rat) / (b : Rat) * (b : Rat) = (t : Rat) := Rat.div_mul_cancel hne
    have hlt := Rat.mul_lt_mul_of_pos_right hlt hb0
    have a1 : (-(M : Int) : Int) ≤ t := by omega
    have a2 : -(M : Rat) ≤ (t : Rat) := by
      have := Rat.intCast_le_intCast.mpr a1
      rw [Rat.intCast_neg, Rat.intCast_natCast] at this; exact this
    have a3 : (0 : Rat) ≤ (M : Rat) := Rat.natCast_nonneg
    have a4 : (M : Rat) * 1 ≤ (M : Rat) * (b : Rat) := Rat.mul_le_mul_of_nonneg_left hb1 a3
    grind
  · refine Rat.not_lt.mp fun hlt => ?_
    have hx : (t : Rat) / (b : Rat) * (b : Rat) = (t : Rat) := Rat.div_mul_cancel hne
    have hlt := Rat.mul_lt_mul_of_pos_right hlt hb0
    have a1 : t ≤ (M : Int) := by omega
    have a2 : (t : Rat) ≤ (M : Rat) := by
      have := Rat.intCast_le_intCast.mpr a1
      rw [Rat.intCast_natCast] at this; exact this
    have a3 : (0 : Rat) ≤ (M : Rat) := Rat.natCast_nonneg
    have a4 : (M : Rat) * 1 ≤ (M : Rat) * (b : Rat) := Rat.mul_le_mul_of_nonneg_left hb1 a3
    grind
end
/-! ### the laws' own functions -/
noncomputable def L_low (v_top : Int) (v_bottom : Int) : R Rat :=
  ((R.ok v_top)).bind fun (one_1 : Int) =>
  ((R.ok v_bottom)).bind fun (other_2 : Int) =>
  R.flow (whileR (fun (st_3 : Int × Int) => (R.b2 (R.ok st_3.2) (R.ok (0 : Int)) fun i j => .ok (!decide (i = j)))) (fun (st_3 : Int × Int) =>
  (((R.b2 (R.ok st_3.1) (R.ok st_3.2) modI)).bind fun (rest_14 : Int) =>
  ((R.ok st_3.2)).bind fun (one_15 : Int) =>
  ((R.ok rest_14)).bind fun (other_16 : Int) =>
  .ok (.nx (one_15, other_16)) : R (Fl (Int × Int) Rat))) ((one_1, other_2) : Int × Int)) (fun (st_3 : Int × Int) =>
  (((((R.b2 (R.ok v_top) (((R.ok st_3.1)).bind fun i => .ok (i.natAbs : Int)) divI)).bind fun t_21 => ((R.b2 (R.ok v_bottom) (((R.ok st_3.1)).bind fun i => .ok (i.natAbs : Int)) divI)).bind fun t_22 => R.ok (t_21, t_22))).bind toRat)) (fun r_23 => .ok r_23)
theorem low_ok {t b : Int} (hb : 0 < b) (hw : b.natAbs < 2 ^ 9000) : L_low t b = .ok (Rat.divInt t b) := by
  unfold L_low
  simp only [R.ok_bind, R.exc_bind, R.bad_bind, R.bind_assoc, R.noexc_ok, R.b2, R.map, R.cond, R.flow, addI, subI, andB, orB, unw_some, unw_none, few_nil, ofRat, isCls, Option.isNone_none, Option.isNone_some, Bool.not_true, Bool.not_false, Bool.false_eq_true, if_true, if_false]
  obtain ⟨n, rfl⟩ : ∃ n : Nat, b = n := ⟨b.toNat, by omega⟩
  rw [low_loop (n + 1) t n (by omega) (.inr (by omega)), R.ok_bind]
  simp only [Int.natAbs_natCast]
  have := low_frac (t := t) (b := (n : Int)) hb hw
  exact this
theorem rngC_mem {lo j c x : Int} (hc : 0 < c) (h : x ∈ rngC lo c (cntC lo j c)) : lo ≤ x ∧ x < j := by
  unfold rngC at h
  rw [List.mem_map] at h
  obtain ⟨i, hi, rfl⟩ := h
  rw [List.mem_range] at hi
  unfold cntC at hi
  have h1 : (i : Int) + 1 ≤ (j - lo + c - 1) / c := by omega
  have h2 : ((i : Int) + 1) * c ≤ j - lo + c - 1 := by
    have := Int.ediv_mul_le (j - lo + c - 1) (show c ≠ 0 by omega)
    have := Int.mul_le_mul_of_nonneg_right h1 (show 0 ≤ c by omega)
    omega
  have h3 : 0 ≤ (i : Int) * c := Int.mul_nonneg (by omega) (by omega)
  rw [Int.add_mul] at h2
  omega
noncomputable def L_cell (step : Int) (v_script : (List Int)) (v_k : Int) : R Int :=
  ((R.ok (0 : Int))).bind fun (total_1 : Int) =>
  ((((R.ok v_k)).bind fun i => ((R.b2 (((R.ok v_script)).bind fun l => .ok (l.length : Int)) (R.ok (98 : Int)) fun i j => .ok (if j < i then j else i))).bind fun j => ((R.ok step)).bind fun k => rng3 i j k)).bind fun l_21 => (foldR l_21 (total_1 : Int) (fun (x_2 : Int) (st_3 : Int) =>
  ((R.b2 (R.ok st_3) (R.b2 (R.b2 (R.ok v_script) (R.ok x_2) ixL) (R.b2 (R.ok (1 : Int)) (R.ok x_2) addI) mulI) addI)).bind fun (total_20 : Int) =>
  .ok total_20)).bind fun (st_3 : Int) =>
  (R.ok st_3)
theorem cell_ok {step : Int} {ns : List Int} {k : Int} (hn : ns.length ≤ 63) (h0 : 0 ≤ k) (h1 : k < 1000) (hs : 0 < step ∧ step < 1000) : (L_cell step ns k).sat fun _ => True := by
  unfold L_cell
  simp only [R.ok_bind, R.exc_bind, R.bad_bind, R.bind_assoc, R.noexc_ok, R.b2, R.map, R.cond, R.flow, addI, subI, andB, orB, unw_some, unw_none, few_nil, ofRat, isCls, Option.isNone_none, Option.isNone_some, Bool.not_true, Bool.not_false, Bool.false_eq_true, if_true, if_false]
  have hm : (if (98 : Int) < (ns.length : Int) then (98 : Int) else (ns.length : Int)) = (ns.length : Int) := if_neg (by omega)
  rw [hm]
  unfold rng3
  rw [if_pos ⟨by omega, by omega, hs.1, by omega⟩, R.ok_bind]
  refine sat_bind (foldR_inv (fun _ => True) ?_ _ trivial) fun _ _ => sat_ok trivial
  intro x hx s _
  obtain ⟨q1, q2⟩ := rngC_mem hs.1 hx
  rw [ixL_ok (by omega) (by omega), R.ok_bind, mulI_ok (.inr (.inl (by omega))), R.ok_bind]
  exact sat_ok trivial
noncomputable def L_signed (v_cell_here : Int) (v_most : Int) : R Int :=
  R.cond (R.b2 (R.ok v_cell_here) (R.ok (0 : Int)) fun i j => .ok (decide (i < j)))
  ((R.b2 (R.ok (0 : Int)) (R.b2 (R.b2 (R.ok (0 : Int)) (R.ok v_cell_here) subI) (R.ok v_most) modI) subI))
  ((R.b2 (R.ok v_cell_here) (R.ok v_most) modI))
theorem signed_ok {c m : Int} (hm : 0 < m) : (L_signed c m).sat fun x => x.natAbs < m.natAbs := by
  unfold L_signed
  simp only [R.ok_bind, R.exc_bind, R.bad_bind, R.bind_assoc, R.noexc_ok, R.b2, R.map, R.cond, R.flow, addI, subI, andB, orB, unw_some, unw_none, few_nil, ofRat, isCls, Option.isNone_none, Option.isNone_some, Bool.not_true, Bool.not_false, Bool.false_eq_true, if_true, if_false]
  rw [modI_pos hm, modI_pos hm]
  have h1 := Int.emod_nonneg (0 - c) (show m ≠ 0 by omega)
  have h2 := Int.emod_lt_of_pos (0 - c) hm
  have h3 := Int.emod_nonneg c (show m ≠ 0 by omega)
  have h4 := Int.emod_lt_of_pos c hm
  split
  · exact sat_ok (by omega)
  · exact sat_ok (by omega)
/-- a name: a letter among others -/
def nmT (c : Nat) (k style : Nat) : Str := sl (List.replicate style c ++ [97 + k] ++ List.replicate (3 - style) c)
theorem nmT_ok {c k style : Nat} (hc : 97 ≤ c ∧ c ≤ 122) (hk : k < 26) (hs : style ≤ 3) : nameB (nmT c k style) = true := by
  unfold nmT
  rw [nameB_sl]
  constructor
  · simp only [List.length_append, List.length_replicate, List.length_cons, List.length_nil]; omega
  · intro x hx
    rcases List.mem_append.mp hx with hx | hx
    · rcases List.mem_append.mp hx with hx | hx
      · rw [List.eq_of_mem_replicate hx]; exact hc
      · rw [List.mem_singleton.mp hx]; omega
    · rw [List.eq_of_mem_replicate hx]; exact hc
theorem nmT_inj {c k k' style : Nat} (h : nmT c k style = nmT c k' style) : k = k' := by
  unfold nmT at h
  have := sl_inj h
  simp only [List.append_assoc, List.append_cancel_left_eq, List.cons_append, List.nil_append, List.cons.injEq] at this
  omega
noncomputable def L_name (abc : Str) (v_k : Int) (v_sign : Str) (v_style : Int) : R Str :=
  (R.b2 (R.b2 (R.b2 (R.ok v_sign) (R.ok v_style) mulS) (R.b2 (R.ok abc) (R.ok v_k) ixS) addS) (R.b2 (R.ok v_sign) (R.b2 (R.ok (3 : Int)) (R.ok v_style) subI) mulS) addS)
theorem name_ok {abc : Str} {n c : Nat} {k st : Int} (ha : abc = sl ((List.range n).map (97 + ·))) (hn : n < 100) (h0 : 0 ≤ k) (h1 : k < n) (h2 : 0 ≤ st) (h3 : st ≤ 3) : L_name abc k (sl [c]) st = .ok (nmT c k.toNat st.toNat) := by
  unfold L_name
  simp only [R.ok_bind, R.exc_bind, R.bad_bind, R.bind_assoc, R.noexc_ok, R.b2, R.map, R.cond, R.flow, addI, subI, andB, orB, unw_some, unw_none, few_nil, ofRat, isCls, Option.isNone_none, Option.isNone_some, Bool.not_true, Bool.not_false, Bool.false_eq_true, if_true, if_false]
  subst ha
  rw [mulS_one (by omega), R.ok_bind, ixS_ok (by simp; omega) h0 (by simpa using h1), R.ok_bind, addS_sl (by simp; omega), R.ok_bind, mulS_one (by omega), R.ok_bind, addS_sl (by simp; omega)]
  unfold nmT
  have : (3 - st).toNat = 3 - st.toNat := by omega
  rw [this]
  simp
theorem sf : (Str.ofString "f") = sl [102] := by decide +kernel
theorem sp_ : (Str.ofString "p") = sl [112] := by decide +kernel
theorem sg : (Str.ofString "g") = sl [103] := by decide +kernel
end TF


/-! PT4: parts drawn as trees. -/
namespace TF
open PySem PySem.Spec PyProof.Rows L2 DL FR
open Enc KeyT
/-- parts that grew as trees over faces: each face's root, its place, the parts from its root -/
structure TreeI (ps : List PartV) (ks : List Str) (root : Str → Str) (pos : Str → Rat) (ch : Str → List Str) : Prop where
  ok : ∀ p ∈ ps, OkP p
  nP : (ps.map (·.name)).Nodup
  st : ∀ p ∈ ps, p.start ∈ ks
  fi : ∀ p ∈ ps, p.fin ∈ ks
  pos : PosP ps pos
  rt : ∀ f ∈ ks, JoinP ps (root f) f
  rc : ∀ p ∈ ps, root p.start = root p.fin
  ch1 : ∀ f ∈ ks, ∀ n ∈ ch f, n ∈ ps.map (·.name)
  ch2 : ∀ p ∈ ps, (ch p.fin = ch p.start ++ [p.name] ∧ p.name ∉ ch p.start) ∨ (ch p.start = ch p.fin ++ [p.name] ∧ p.name ∉ ch p.fin)
  two : ∀ f ∈ ks, ∃ g ∈ ks, g ≠ f ∧ root g = root f
theorem TreeI.empty {root pos ch} : TreeI [] [] root pos ch := ⟨fun _ h => (nomatch h), by simp, fun _ h => (nomatch h), fun _ h => (nomatch h), fun _ h => (nomatch h), fun _ h => (nomatch h), fun _ h => (nomatch h), fun _ h => (nomatch h), fun _ h => (nomatch h), fun _ h => (nomatch h)⟩
theorem JoinP.more {ps qs : List PartV} {f g : Str} (j : JoinP ps f g) : JoinP (ps ++ qs) f g := j.mono fun p hp => List.mem_append_left _ hp
theorem TreeI.add {ps ks ks' root pos ch root' pos' ch'} (T : TreeI ps ks root pos ch) {p : PartV} {here there : Str} (ok : OkP p) (hn : p.name ∉ ps.map (·.name)) (ht : there ∉ ks) (hne : here ≠ there) (hk : ∀ f, f ∈ ks' ↔ f = there ∨ f = here ∨ f ∈ ks)
    (hr : ∀ f ∈ ks, root' f = root f) (hp : ∀ f ∈ ks, pos' f = pos f) (hc : ∀ f ∈ ks, ch' f = ch f) (hnew : here ∉ ks → root' here = here ∧ ch' here = [])
    (hr' : root' there = root' here) (hc' : ch' there = ch' here ++ [p.name]) (he : (p.start = here ∧ p.fin = there ∧ pos' there = pos' here + p.size) ∨ (p.start = there ∧ p.fin = here ∧ pos' there = pos' here - p.size)) : TreeI (ps ++ [p]) ks' root' pos' ch' := by
  have hst : ∀ q ∈ ps, q.start ∈ ks := T.st
  have hfi : ∀ q ∈ ps, q.fin ∈ ks := T.fi
  have ks_ : ∀ f ∈ ks, f ∈ ks' := fun f h => (hk f).mpr (.inr (.inr h))
  have hereK : here ∈ ks' := (hk here).mpr (.inr (.inl rfl))
  have thereK : there ∈ ks' := (hk there).mpr (.inl rfl)
  have split : ∀ {P : PartV → Prop}, (∀ q ∈ ps, P q) → P p → ∀ q ∈ ps ++ [p], P q := fun h1 h2 q hq => by
    rcases List.mem_append.mp hq with hq | hq
    · exact h1 q hq
    · cases List.mem_singleton.mp hq; exact h2
  have hch1 : ∀ f ∈ ks, ∀ n ∈ ch' f, n ∈ ps.map (·.name) := fun f hf n h => T.ch1 f hf n (by rw [← hc f hf]; exact h)
  have hhere : ∀ n ∈ ch' here, n ∈ ps.map (·.name) := fun n h => by
    by_cases hh : here ∈ ks
    · exact hch1 here hh n h
    · rw [(hnew hh).2] at h; cases h
  have jhere : JoinP (ps ++ [p]) (root' here) here := by
    by_cases hh : here ∈ ks
    · rw [hr here hh]; exact (T.rt here hh).more
    · rw [(hnew hh).1]; exact .refl _
  have pm : p ∈ ps ++ [p] := List.mem_append_right _ List.mem_cons_self
  refine ⟨split T.ok ok, ?_, split (fun q hq => ks_ _ (hst q hq)) ?_, split (fun q hq => ks_ _ (hfi q hq)) ?_, split (fun q hq => ?_) ?_, fun f hf => ?_, split (fun q hq => ?_) ?_, fun f hf n h => ?_, split (fun q hq => ?_) ?_, fun f hf => ?_⟩
  · rw [List.map_append, List.nodup_append]
    refine ⟨T.nP, by simp, fun x hx y hy e => ?_⟩
    have : y = p.name := by simpa using hy
    subst this; subst e; exact hn hx
  · rcases he with ⟨e, _, _⟩ | ⟨e, _, _⟩
    · rw [e]; exact hereK
    · rw [e]; exact thereK
  · rcases he with ⟨_, e, _⟩ | ⟨_, e, _⟩
    · rw [e]; exact thereK
    · rw [e]; exact hereK
  · rw [hp _ (hfi q hq), hp _ (hst q hq)]; exact T.pos q hq
  · rcases he with ⟨e1, e2, e3⟩ | ⟨e1, e2, e3⟩
    · rw [e1, e2]; exact e3
    · rw [e1, e2, e3]; grind
  · rcases (hk f).mp hf with rfl | rfl | hf
    · rw [hr']
      rcases he with ⟨e1, e2, _⟩ | ⟨e1, e2, _⟩
      · rw [← e2]; refine .fwd ?_ pm; rw [e1]; exact jhere
      · rw [← e1]; refine .bwd ?_ pm; rw [e2]; exact jhere
    · exact jhere
    · rw [hr f hf]; exact (T.rt f hf).more
  · rw [hr _ (hst q hq), hr _ (hfi q hq)]; exact T.rc q hq
  · rcases he with ⟨e1, e2, _⟩ | ⟨e1, e2, _⟩
    · rw [e1, e2]; exact hr'.symm
    · rw [e1, e2]; exact hr'
  · rw [List.map_append, List.mem_append]
    rcases (hk f).mp hf with rfl | rfl | hf
    · rw [hc'] at h
      rcases List.mem_append.mp h with h | h
      · exact .inl (hhere n h)
      · exact .inr (by simpa using h)
    · exact .inl (hhere n h)
    · exact .inl (hch1 f hf n h)
  · rw [hc _ (hfi q hq), hc _ (hst q hq)]; exact T.ch2 q hq
  · have hnot : p.name ∉ ch' here := fun h => hn (hhere _ h)
    rcases he with ⟨e1, e2, _⟩ | ⟨e1, e2, _⟩
    · rw [e1, e2]; exact .inl ⟨hc', hnot⟩
    · rw [e1, e2]; exact .inr ⟨hc', hnot⟩
  · rcases (hk f).mp hf with rfl | rfl | hf
    · exact ⟨here, hereK, hne, hr'.symm⟩
    · exact ⟨there, thereK, fun e => hne e.symm, hr'⟩
    · obtain ⟨g, h1, h2, h3⟩ := T.two f hf
      exact ⟨g, ks_ g h1, h2, by rw [hr g h1, hr f hf]; exact h3⟩
theorem mem_app1 {n m : Str} {l : List Str} : n ∈ l ++ [m] ↔ n ∈ l ∨ n = m := by simp
/-- each part alone changes whether it stands in a chain -/
theorem TreeI.mark {ps ks root pos ch} (T : TreeI ps ks root pos ch) (n : Str) : (∀ p ∈ ps, p.name = n → decide (n ∈ ch p.start) ≠ decide (n ∈ ch p.fin)) ∧ ∀ p ∈ ps, p.name ≠ n → decide (n ∈ ch p.start) = decide (n ∈ ch p.fin) := by
  refine ⟨fun p hp e => ?_, fun p hp e => ?_⟩
  · subst e
    rcases T.ch2 p hp with ⟨h1, h2⟩ | ⟨h1, h2⟩
    · rw [h1, decide_eq_false h2, decide_eq_true (mem_app1.mpr (.inr rfl))]; decide
    · rw [h1, decide_eq_false h2, decide_eq_true (mem_app1.mpr (.inr rfl))]; decide
  · have e' : ¬ n = p.name := fun h => e h.symm
    rcases T.ch2 p hp with ⟨h1, h2⟩ | ⟨h1, h2⟩
    · rw [h1]
      exact decide_eq_decide.mpr ⟨fun h => mem_app1.mpr (.inl h), fun h => (mem_app1.mp h).resolve_right e'⟩
    · rw [h1]
      exact decide_eq_decide.mpr ⟨fun h => (mem_app1.mp h).resolve_right e', fun h => mem_app1.mpr (.inl h)⟩
theorem TreeI.tree {ps ks root pos ch} (T : TreeI ps ks root pos ch) : ∀ pre x post, ps = pre ++ x :: post → ¬ JoinP pre x.start x.fin :=
  tree_of T.nP (fun n f => decide (n ∈ ch f)) (fun p hp => (T.mark p.name).1 p hp rfl) fun p hp q hq e => (T.mark p.name).2 q hq fun h => e h.symm
theorem TreeI.join {ps ks root pos ch} (T : TreeI ps ks root pos ch) {f g : Str} (h1 : f ∈ ks) (h2 : g ∈ ks) (h3 : root f = root g) : JoinP ps f g := by
  have j2 := T.rt _ h2
  rw [← h3] at j2
  exact (T.rt _ h1).symm.trans j2
/-- the parts on a way: those that stand in one end's chain alone -/
theorem TreeI.way {ps ks root pos ch} (T : TreeI ps ks root pos ch) {f g : Str} {w : List (Str × Bool)} (h : WalkP ps f w g) (nd : (w.map (·.1)).Nodup) (n : Str) : n ∈ w.map (·.1) ↔ ¬ (n ∈ ch f ↔ n ∈ ch g) := by
  rw [walk_names (fun f => decide (n ∈ ch f)) (T.mark n).1 (T.mark n).2 h nd]
  constructor
  · intro h1 h2; exact h1 (decide_eq_decide.mpr h2)
  · intro h1 h2; exact h1 (decide_eq_decide.mp h2)

/-! ### faces by their numbers, a table of them -/
section
variable {V : Type} {c st : Nat} {d : Dic Str V}
def FaceI (c st : Nat) (d : Dic Str V) : Prop := d.keys = (List.range d.l.length).map fun k => nmT c k st
theorem FaceI.empty : FaceI c st (⟨[]⟩ : Dic Str V) := rfl
theorem FaceI.fresh (h : FaceI c st d) : nmT c d.l.length st ∉ d.keys := by
  rw [show d.keys = _ from h]
  intro hm
  obtain ⟨k, hk, e⟩ := List.mem_map.mp hm
  have := nmT_inj e
  rw [List.mem_range] at hk
  omega
theorem FaceI.put (h : FaceI c st d) (v : V) : FaceI c st (d.put (nmT c d.l.length st) v) ∧ (d.put (nmT c d.l.length st) v).l.length = d.l.length + 1 := by
  have hl : (d.put (nmT c d.l.length st) v).l.length = d.l.length + 1 := by rw [Dic.put_new h.fresh, List.length_append]; rfl
  refine ⟨?_, hl⟩
  unfold FaceI
  rw [hl, Dic.keys_put_new h.fresh, List.range_succ, List.map_append, show d.keys = _ from h]; rfl
theorem FaceI.nd (h : FaceI c st d) : d.keys.Nodup := by
  rw [show d.keys = _ from h]
  exact List.pairwise_map.mpr ((List.nodup_range (n := d.l.length)).imp fun hne e => hne (nmT_inj e))
theorem FaceI.nm (h : FaceI c st d) (hl : d.l.length ≤ 26) (hc : 97 ≤ c ∧ c ≤ 122) (hs : st ≤ 3) : ∀ f ∈ d.keys, nameB f = true := by
  intro f hf
  rw [show d.keys = _ from h] at hf
  obtain ⟨k, hk, e⟩ := List.mem_map.mp hf
  rw [List.mem_range] at hk
  rw [← e]; exact nmT_ok hc (by omega) hs
variable (rV : V → Str) (pV : V → Rat)
def rtV (d : Dic Str V) (f : Str) : Str := ((d.get? f).map rV).getD f
def poV (d : Dic Str V) (f : Str) : Rat := ((d.get? f).map pV).getD 0
theorem rtV_put {f g : Str} {v : V} : rtV rV (d.put g v) f = if f = g then rV v else rtV rV d f := by
  unfold rtV; rw [Dic.get_put]; split <;> rfl
theorem poV_put {f g : Str} {v : V} : poV pV (d.put g v) f = if f = g then pV v else poV pV d f := by
  unfold poV; rw [Dic.get_put]; split <;> rfl
structure PI (st N S : Nat) (k : Nat) (ps : List PartV) (d : Dic Str V) (ch : Str → List Str) : Prop where
  fa : FaceI 102 st d
  len : d.l.length ≤ 2 * k
  pos_ : 0 < k → 0 < d.l.length
  nm : ps.map (·.name) = (List.range k).map fun j => nmT 112 j st
  T : TreeI ps d.keys (rtV rV d) (poV pV d) ch
  gs : ∀ p ∈ ps, Gd N S p.size
  gp : ∀ f ∈ d.keys, Gd N (k * S) (poV pV d f)
theorem PI.empty {st N S : Nat} {ch} : PI rV pV st N S 0 [] (⟨[]⟩ : Dic Str V) ch := ⟨.empty, Nat.le_refl _, fun h => absurd h (by decide), rfl, .empty, fun _ h => (nomatch h), fun _ h => (nomatch h)⟩
theorem PI.step {rV : V → Str} {pV : V → Rat} {st N S k : Nat} {ps : List PartV} {d d' : Dic Str V} {ch ch' : Str → List Str} {here : Str} {v v0 : V} {p : PartV} (I : PI rV pV st N S k ps d ch) (hk : k < 13) (hst : st ≤ 3)
    (hd : (d' = d ∧ here ∈ d.keys) ∨ (d' = d.put here v0 ∧ here = nmT 102 d.l.length st ∧ rV v0 = here ∧ pV v0 = 0)) (hs : Gd N S p.size) (hn : p.name = nmT 112 k st) (hm : 0 ≤ p.most) (hw : 0 < p.weight)
    (he : (p.start = here ∧ p.fin = nmT 102 d'.l.length st ∧ pV v = poV pV d' here + p.size) ∨ (p.start = nmT 102 d'.l.length st ∧ p.fin = here ∧ pV v = poV pV d' here - p.size)) (hr : rV v = rtV rV d' here)
    (hc : ∀ f ∈ d.keys, ch' f = ch f) (hc0 : here ∉ d.keys → ch' here = []) (hc1 : ch' (nmT 102 d'.l.length st) = ch' here ++ [p.name]) : PI rV pV st N S (k + 1) (ps ++ [p]) (d'.put (nmT 102 d'.l.length st) v) ch' := by
  have fa' : FaceI 102 st d' ∧ d'.l.length ≤ 2 * k + 1 ∧ here ∈ d'.keys ∧ (∀ f, f ∈ d'.keys ↔ f = here ∨ f ∈ d.keys) ∧ (∀ f ∈ d.keys, rtV rV d' f = rtV rV d f ∧ poV pV d' f = poV pV d f) ∧ (here ∉ d.keys → rtV rV d' here = here) ∧ Gd N (k * S) (poV pV d' here) ∧ 0 < d'.l.length := by
    rcases hd with ⟨rfl, hh⟩ | ⟨rfl, e, r0, p0⟩
    · refine ⟨I.fa, by have := I.len; omega, hh, fun f => ⟨.inr, fun h => h.elim (fun e => e ▸ hh) id⟩, fun _ _ => ⟨rfl, rfl⟩, fun h => absurd hh h, I.gp _ hh, ?_⟩
      have : d'.keys.length = d'.l.length := by simp
      rw [← this]; exact List.length_pos_of_mem hh
    · have hf := I.fa.fresh
      rw [← e] at hf
      obtain ⟨q1, q2⟩ := I.fa.put v0
      rw [← e] at q1 q2
      refine ⟨q1, by have := I.len; omega, Dic.mem_put.mpr (.inl rfl), fun f => Dic.mem_put, fun f h => ?_, fun _ => ?_, ?_, by omega⟩
      · have hne : f ≠ here := fun z => hf (z ▸ h)
        rw [rtV_put, poV_put, if_neg hne, if_neg hne]; exact ⟨rfl, rfl⟩
      · rw [rtV_put, if_pos rfl, r0]
      · rw [poV_put, if_pos rfl, p0]; exact Gd.zero.mono (Nat.zero_le _)
  obtain ⟨fa, len, hereK, keys, same, rt0, gp, lpos⟩ := fa'
  have fresh := fa.fresh
  obtain ⟨q1, q2⟩ := fa.put v
  have hne : here ≠ nmT 102 d'.l.length st := fun z => fresh (z ▸ hereK)
  have hlen := I.len
  have nmh : ∀ f ∈ d'.keys, nameB f = true := fa.nm (by omega) (by decide) hst
  have nmt : nameB (nmT 102 d'.l.length st) = true := nmT_ok (by decide) (by omega) hst
  have ok : OkP p := by
    have nmp : nameB p.name = true := by rw [hn]; exact nmT_ok (by decide) (by omega) hst
    rcases he with ⟨e1, e2, _⟩ | ⟨e1, e2, _⟩
    · exact ⟨nmp, by rw [e1]; exact nmh _ hereK, by rw [e2]; exact nmt, by rw [e1, e2]; exact hne, hm, hw⟩
    · exact ⟨nmp, by rw [e1]; exact nmt, by rw [e2]; exact nmh _ hereK, by rw [e1, e2]; exact hne.symm, hm, hw⟩
  have kS : k * S + S = (k + 1) * S := by rw [Nat.add_mul, Nat.one_mul]
  refine ⟨q1, by omega, fun _ => by omega, ?_, ?_, fun q hq => ?_, fun f hf => ?_⟩
  · rw [List.map_append, I.nm, List.range_succ, List.map_append]
    simp [hn]
  · refine I.T.add (here := here) (there := nmT 102 d'.l.length st) ok ?_ ?_ hne (fun f => ?_) (fun f hf => ?_) (fun f hf => ?_) hc (fun h => ⟨?_, hc0 h⟩) ?_ hc1 ?_
    · rw [I.nm, hn]
      intro hm
      obtain ⟨j, hj, e⟩ := List.mem_map.mp hm
      have := nmT_inj e
      rw [List.mem_range] at hj
      omega
    · exact fun h => fresh ((keys _).mpr (.inr h))
    · rw [Dic.mem_put, keys]
    · have : f ≠ nmT 102 d'.l.length st := fun z => fresh (z ▸ (keys f).mpr (.inr hf))
      rw [rtV_put, if_neg this]; exact (same f hf).1
    · have : f ≠ nmT 102 d'.l.length st := fun z => fresh (z ▸ (keys f).mpr (.inr hf))
      rw [poV_put, if_neg this]; exact (same f hf).2
    · rw [rtV_put, if_neg hne]; exact rt0 h
    · rw [rtV_put, if_pos rfl, rtV_put, if_neg hne]; exact hr
    · rw [poV_put, if_pos rfl, poV_put, if_neg hne]; exact he
  · rcases List.mem_append.mp hq with hq | hq
    · exact I.gs q hq
    · cases List.mem_singleton.mp hq; exact hs
  · rw [poV_put]
    split
    · rw [← kS]
      rcases he with ⟨_, _, e⟩ | ⟨_, _, e⟩
      · rw [e]; exact gp.add hs
      · rw [e]; exact gp.sub hs
    · rename_i hne2
      have hf' := (Dic.mem_put.mp hf).resolve_left hne2
      rw [← kS]
      refine Gd.mono ?_ (Nat.le_add_right _ S)
      rcases (keys f).mp hf' with rfl | h
      · exact gp
      · rw [(same f h).2]; exact I.gp f h
end
theorem rngL_at {lo : Int} {n : Nat} {pre post : List Int} {x : Int} (h : rngL lo n = pre ++ x :: post) : x = lo + pre.length ∧ pre.length < n := by
  have h1 := congrArg (·[pre.length]?) h
  have hlen := congrArg List.length h
  rw [rngL_len, List.length_append, List.length_cons] at hlen
  have hlt : pre.length < n := by omega
  refine ⟨?_, hlt⟩
  simp only [List.getElem?_append_right (Nat.le_refl _), Nat.sub_self, List.getElem?_cons_zero] at h1
  unfold rngL at h1
  rw [List.getElem?_map, List.getElem?_range hlt] at h1
  exact (Option.some.inj h1).symm
theorem ixL_of {α : Type} {l : List α} {i : Int} (h0 : 0 ≤ i) (h1 : i < l.length) : ∃ a, a ∈ l ∧ ixL l i = .ok a := ⟨_, List.getElem_mem _, ixL_ok h0 h1⟩
theorem sat_ix {α : Type} {l : List α} {i : Int} {β : Type} {f : α → R β} {Q : β → Prop} (h0 : 0 ≤ i) (h1 : i < l.length) (h : ∀ a ∈ l, (f a).sat Q) : ((ixL l i).bind f).sat Q := by
  obtain ⟨a, ha, e⟩ := ixL_of h0 h1
  rw [e]; exact h a ha
theorem toRat01 : toRat (0, 1) = .ok 0 := by rw [show ((0 : Int), (1 : Int)) = ((0 : Rat).num, ((0 : Rat).den : Int)) from rfl]; exact toRat_num 0
end TF


/-! PT5: a step of a drawn tree; a face drawn; lists drawn anew. -/
namespace TF
open PySem PySem.Spec PyProof.Rows L2 DL FR
open Enc KeyT
section
variable {V : Type} {rV : V → Str} {pV : V → Rat}
/-- the table with the face to go from -/
def FromI (rV : V → Str) (pV : V → Rat) (st : Nat) (d d' : Dic Str V) (here : Str) : Prop := (d' = d ∧ here ∈ d.keys) ∨ ∃ v0, d' = d.put here v0 ∧ here = nmT 102 d.l.length st ∧ rV v0 = here ∧ pV v0 = 0
theorem FromI.facts {st N S k : Nat} {ps : List PartV} {d d' : Dic Str V} {ch : Str → List Str} {here : Str} (h : FromI rV pV st d d' here) (I : PI rV pV st N S k ps d ch) :
    here ∈ d'.keys ∧ d'.l.length ≤ 2 * k + 1 ∧ FaceI 102 st d' ∧ (∀ f ∈ d.keys, f ∈ d'.keys) ∧ Gd N (k * S) (poV pV d' here) := by
  have := I.len
  rcases h with ⟨rfl, h⟩ | ⟨v0, rfl, e, r0, p0⟩
  · exact ⟨h, by omega, I.fa, fun _ h => h, I.gp _ h⟩
  · obtain ⟨q1, q2⟩ := I.fa.put v0
    rw [← e] at q1 q2
    exact ⟨Dic.mem_put.mpr (.inl rfl), by omega, q1, fun f h => Dic.mem_put.mpr (.inr h), by rw [poV_put, if_pos rfl, p0]; exact Gd.zero.mono (Nat.zero_le _)⟩
theorem PI.grow {st N S k : Nat} {ps : List PartV} {d d' : Dic Str V} {ch : Str → List Str} {here : Str} {v : V} {p : PartV} (I : PI rV pV st N S k ps d ch) (hk : k < 13) (hst : st ≤ 3) (hd : FromI rV pV st d d' here)
    (hs : Gd N S p.size) (hn : p.name = nmT 112 k st) (hm : 0 ≤ p.most) (hw : 0 < p.weight)
    (he : (p.start = here ∧ p.fin = nmT 102 d'.l.length st ∧ pV v = poV pV d' here + p.size) ∨ (p.start = nmT 102 d'.l.length st ∧ p.fin = here ∧ pV v = poV pV d' here - p.size)) (hr : rV v = rtV rV d' here) :
    ∃ ch', PI rV pV st N S (k + 1) (ps ++ [p]) (d'.put (nmT 102 d'.l.length st) v) ch' := by
  obtain ⟨f1, f2, f3, f4, f5⟩ := hd.facts I
  have hnt : ∀ f ∈ d'.keys, f ≠ nmT 102 d'.l.length st := fun f h e => f3.fresh (e ▸ h)
  have hd2 : ∃ v0, (d' = d ∧ here ∈ d.keys) ∨ (d' = d.put here v0 ∧ here = nmT 102 d.l.length st ∧ rV v0 = here ∧ pV v0 = 0) := by
    rcases hd with h | ⟨v0, h⟩
    · exact ⟨v, .inl h⟩
    · exact ⟨v0, .inr h⟩
  obtain ⟨v0, hd2⟩ := hd2
  refine ⟨fun f => if f = nmT 102 d'.l.length st then (if here ∈ d.keys then ch here else []) ++ [p.name] else if f ∈ d.keys then ch f else [], I.step hk hst hd2 hs hn hm hw he hr (fun f h => ?_) (fun h => ?_) ?_⟩
  · show (if _ then _ else _) = _
    rw [if_neg (hnt f (f4 f h)), if_pos h]
  · show (if _ then _ else _) = _
    rw [if_neg (hnt here f1), if_neg h]
  · show (if _ then _ else _) = _
    rw [if_pos rfl]
    congr 1
    show _ = (if _ then _ else _)
    rw [if_neg (hnt here f1)]
/-- .. with the chains told by the table -/
theorem PI.growC {cV : V → List Str} {st N S k : Nat} {ps : List PartV} {d d' : Dic Str V} {here : Str} {v v0 : V} {p : PartV} (I : PI rV pV st N S k ps d (fun f => ((d.get? f).map cV).getD [])) (hk : k < 13) (hst : st ≤ 3)
    (hd : (d' = d ∧ here ∈ d.keys) ∨ (d' = d.put here v0 ∧ here = nmT 102 d.l.length st ∧ rV v0 = here ∧ pV v0 = 0 ∧ cV v0 = []))
    (hs : Gd N S p.size) (hn : p.name = nmT 112 k st) (hm : 0 ≤ p.most) (hw : 0 < p.weight)
    (he : (p.start = here ∧ p.fin = nmT 102 d'.l.length st ∧ pV v = poV pV d' here + p.size) ∨ (p.start = nmT 102 d'.l.length st ∧ p.fin = here ∧ pV v = poV pV d' here - p.size)) (hr : rV v = rtV rV d' here)
    (hc : cV v = ((d'.get? here).map cV).getD [] ++ [p.name]) :
    PI rV pV st N S (k + 1) (ps ++ [p]) (d'.put (nmT 102 d'.l.length st) v) (fun f => (((d'.put (nmT 102 d'.l.length st) v).get? f).map cV).getD []) := by
  have hd' : FromI rV pV st d d' here := by
    rcases hd with h | ⟨h1, h2, h3, h4, _⟩
    · exact .inl h
    · exact .inr ⟨v0, h1, h2, h3, h4⟩
  obtain ⟨f1, f2, f3, f4, f5⟩ := hd'.facts I
  have hnt : ∀ f ∈ d'.keys, f ≠ nmT 102 d'.l.length st := fun f h e => f3.fresh (e ▸ h)
  refine I.step (v0 := v0) hk hst (hd.imp id fun h => ⟨h.1, h.2.1, h.2.2.1, h.2.2.2.1⟩) hs hn hm hw he hr (fun f h => ?_) (fun h => ?_) ?_
  · show ((Dic.get? _ f).map cV).getD [] = ((d.get? f).map cV).getD []
    rw [Dic.get_put, if_neg (hnt f (f4 f h))]
    rcases hd with ⟨rfl, _⟩ | ⟨rfl, e, _⟩
    · rfl
    · rw [Dic.get_put, if_neg]
      intro z
      have := I.fa.fresh
      rw [← e] at this
      exact this (z ▸ h)
  · show ((Dic.get? _ here).map cV).getD [] = []
    rw [Dic.get_put, if_neg (hnt here f1)]
    rcases hd with ⟨rfl, h2⟩ | ⟨rfl, e, _, _, h5⟩
    · exact absurd h2 h
    · rw [Dic.get_put, if_pos rfl]; exact h5
  · show ((Dic.get? _ _).map cV).getD [] = ((Dic.get? _ here).map cV).getD [] ++ [p.name]
    rw [Dic.get_put, if_pos rfl, Dic.get_put, if_neg (hnt here f1)]
    exact hc
end
theorem gd_parts {ps : List PartV} (h : ∀ p ∈ ps, OkP p) : EqD.good ps := fun p hp => ⟨gd_of (h p hp).n, gd_of (h p hp).s, gd_of (h p hp).f⟩
theorem gd_gaps {gs : List GapV} (h : ∀ p ∈ gs, OkG p) : EqD.good gs := fun p hp => ⟨gd_of (h p hp).n, gd_of (h p hp).s, gd_of (h p hp).f⟩
/-! ### ways walked anew -/
inductive WalkC (ps : List PartV) : Str → List (Str × Bool) → Str → Prop
  | nil (f) : WalkC ps f [] f
  | cons {f s g w h} : StepP ps f s g → WalkC ps g w h → WalkC ps f (s :: w) h
theorem WalkC.snoc {ps : List PartV} {f w g s h} (a : WalkC ps f w g) (b : StepP ps g s h) : WalkC ps f (w ++ [s]) h := by
  induction a with
  | nil => exact .cons b (.nil _)
  | cons x _ ih => exact .cons x (ih b)
end TF


/-! PS0: slack shared: sums, levels. -/
namespace TF
open PySem PySem.Spec PyProof.Rows L2 DL FR
open Enc KeyT
abbrev RowV := T3 Str Rat (List Str)
theorem Gd.div {N M : Nat} {q : Rat} {m : Int} (h : Gd N M q) (hm : 0 < m) : Gd (N * m.toNat) M (q / (m : Rat)) := by
  obtain ⟨⟨k, hk⟩, h2, h3⟩ := h
  have hm0 : (0 : Rat) < (m : Rat) := by have := Rat.intCast_lt_intCast.mpr hm; simpa using this
  have hne : (m : Rat) ≠ 0 := by grind
  have hm1 : (1 : Rat) ≤ (m : Rat) := by have := Rat.intCast_le_intCast.mpr (show (1 : Int) ≤ m by omega); simpa using this
  have hx : q / (m : Rat) * (m : Rat) = q := Rat.div_mul_cancel hne
  have em : ((m.toNat : Nat) : Rat) = (m : Rat) := by
    rw [← Rat.intCast_natCast]; congr 1; omega
  have hM : (0 : Rat) ≤ (M : Rat) := Rat.natCast_nonneg
  have hMm : (M : Rat) * 1 ≤ (M : Rat) * (m : Rat) := Rat.mul_le_mul_of_nonneg_left hm1 hM
  refine ⟨⟨k, ?_⟩, ?_, ?_⟩
  · rw [Rat.natCast_mul, em]; grind
  · refine Rat.not_lt.mp fun hlt => ?_
    have := Rat.mul_lt_mul_of_pos_right hlt hm0
    grind
  · refine Rat.not_lt.mp fun hlt => ?_
    have := Rat.mul_lt_mul_of_pos_right hlt hm0
    grind
theorem Gd.up {N N' M : Nat} {q : Rat} (h : Gd N M q) (hd : N ∣ N') : Gd N' M q := by
  obtain ⟨⟨k, hk⟩, h2, h3⟩ := h
  obtain ⟨c, rfl⟩ := hd
  refine ⟨⟨k * c, ?_⟩, h2, h3⟩
  rw [Rat.natCast_mul, Rat.intCast_mul, Rat.intCast_natCast]
  grind
/-! ### sums -/
def sumV (d : Dic Str Rat) (ns : List Str) : Rat := (ns.map fun n => (d.get? n).getD 0).sum
theorem sumV_nil {d : Dic Str Rat} : sumV d [] = 0 := rfl
theorem sumV_cons {d : Dic Str Rat} {n : Str} {ns : List Str} : sumV d (n :: ns) = (d.get? n).getD 0 + sumV d ns := by unfold sumV; simp
theorem sumV_snoc {d : Dic Str Rat} {n : Str} {ns : List Str} : sumV d (ns ++ [n]) = sumV d ns + (d.get? n).getD 0 := by
  induction ns with
  | nil => rw [List.nil_append, sumV_cons, sumV_nil]; grind
  | cons x ns ih => rw [List.cons_append, sumV_cons, ih, sumV_cons]; grind
theorem Gd.sumV {N M : Nat} {d : Dic Str Rat} (h : ∀ n s, d.get? n = some s → Gd N M s) : ∀ ns : List Str, Gd N (ns.length * M) (sumV d ns)
  | [] => by rw [sumV_nil]; exact Gd.zero.mono (Nat.zero_le _)
  | n :: ns => by
    rw [sumV_cons, List.length_cons, Nat.add_mul, Nat.one_mul, Nat.add_comm]
    refine Gd.add ?_ (Gd.sumV h ns)
    cases e : d.get? n with
    | none => exact Gd.zero.mono (Nat.zero_le _)
    | some s => exact h n s e
theorem sum_of_ok {N M : Nat} {d : Dic Str Rat} {ns : List Str} (h : ∀ n s, d.get? n = some s → Gd N M s) (hN : 0 < N) (hM : (ns.length * M + M) * N < 2 ^ 3000) (hN2 : N < 2 ^ 3000) : F_sum_of d ns = .ok (sumV d ns) := by
  unfold F_sum_of
  simp only [R.ok_bind, R.exc_bind, R.bad_bind, R.bind_assoc, R.noexc_ok, R.b2, R.map, R.cond, R.flow, addI, subI, andB, orB, unw_some, unw_none, few_nil, ofRat, isCls, Option.isNone_none, Option.isNone_some, Bool.not_true, Bool.not_false, Bool.false_eq_true, if_true, if_false]
  rw [toRat01, R.ok_bind]
  have key : (foldR ns (0 : Rat) fun x_4 st_5 => (R.ok 0).bind fun a => (F_plus st_5 ((d.get? x_4).getD a)).bind fun total_18 => R.ok total_18).sat fun q => q = sumV d ns := by
    refine foldR_ind (fun pre (q : Rat) => q = sumV d pre) ?_ rfl
    rintro pre x post q e rfl
    have hl : pre.length < ns.length := by rw [e, List.length_append, List.length_cons]; omega
    rw [R.ok_bind]
    unfold F_plus
    have hle : ∀ a, a ≤ ns.length * M + M → a * N < 2 ^ 3000 := fun a ha => Nat.lt_of_le_of_lt (Nat.mul_le_mul_right _ ha) hM
    have g1 := Gd.sumV h pre
    have s1 : Sm (sumV d pre) := g1.sm hN (hle _ (Nat.le_trans (Nat.mul_le_mul_right _ (Nat.le_of_lt hl)) (Nat.le_add_right _ _))) hN2
    have g2 : Gd N M ((d.get? x).getD 0) := by
      cases e : d.get? x with
      | none => exact Gd.zero.mono (Nat.zero_le _)
      | some s => exact h x s e
    have s2 : Sm ((d.get? x).getD 0) := g2.sm hN (hle _ (Nat.le_add_left _ _)) hN2
    rw [if_pos ⟨s1, s2⟩, R.ok_bind]
    exact sat_ok sumV_snoc.symm
  obtain ⟨q, e, rfl⟩ := key
  rw [e]; rfl
/-! ### the least -/
/-! ### what stands ready -/
structure ShC (N M : Nat) (ps : List PartV) (rows : List RowV) (wd : Dic Str Int) : Prop where
  nP : (ps.map (·.name)).Nodup
  ok : ∀ p ∈ ps, OkP p
  lp : ps.length ≤ 30
  lr : rows.length ≤ 1000
  rn : ∀ r ∈ rows, r.c.Nodup
  rs : ∀ r ∈ rows, ∀ n ∈ r.c, ∃ p ∈ ps, p.name = n
  rb : ∀ r ∈ rows, 0 ≤ r.b
  wt : ∀ p ∈ ps, wd.get? p.name = some p.weight
  wle : ∀ p ∈ ps, p.weight ≤ 10 ^ 6
  gr : ∀ r ∈ rows, Gd N M r.b
  gm : ∀ p ∈ ps, Gd N M p.most
  Np : 0 < N
  Mp : 0 < M
  big : 100 * M * (N * (30 * 10 ^ 6) ^ 31) < 2 ^ 3000
theorem nodup_sub_len {l m : List Str} (h : l.Nodup) (hs : ∀ x ∈ l, x ∈ m) : l.length ≤ m.length := by
  induction l generalizing m with
  | nil => exact Nat.zero_le _
  | cons x l ih =>
    rw [List.nodup_cons] at h
    have hx := hs x List.mem_cons_self
    obtain ⟨a, b, rfl⟩ := List.append_of_mem hx
    have := ih (m := a ++ b) h.2 fun y hy => by
      have hy' := hs y (List.mem_cons_of_mem _ hy)
      rcases List.mem_append.mp hy' with h1 | h1
      · exact List.mem_append_left _ h1
      · rcases List.mem_cons.mp h1 with rfl | h1
        · exact absurd hy h.1
        · exact List.mem_append_right _ h1
    rw [List.length_append] at this ⊢
    rw [List.length_cons, List.length_cons]; omega
theorem ShC.rl {N M ps rows wd} (S : ShC N M ps rows wd) {r : RowV} (hr : r ∈ rows) : r.c.length ≤ 30 := by
  refine Nat.le_trans (nodup_sub_len (m := ps.map (·.name)) (S.rn r hr) fun n hn => ?_) (by rw [List.length_map]; exact S.lp)
  obtain ⟨p, hp, e⟩ := S.rs r hr n hn
  exact List.mem_map.mpr ⟨p, hp, e⟩
/-- the weights of a row that still rise -/
def manyV (wd : Dic Str Int) (d : Dic Str Rat) (ns : List Str) : Int := ((ns.filter fun n => decide (n ∉ d.keys)).map fun n => (wd.get? n).getD 0).sum
theorem manyV_nil {wd : Dic Str Int} {d : Dic Str Rat} : manyV wd d [] = 0 := rfl
theorem manyV_cons {wd : Dic Str Int} {d : Dic Str Rat} {n : Str} {ns : List Str} : manyV wd d (n :: ns) = (if n ∈ d.keys then 0 else (wd.get? n).getD 0) + manyV wd d ns := by
  unfold manyV
  rw [List.filter_cons]
  by_cases h : n ∈ d.keys
  · simp [h]
  · simp [h]
theorem manyV_ge {wd : Dic Str Int} {d : Dic Str Rat} : ∀ {ns : List Str}, (∀ n ∈ ns, 1 ≤ (wd.get? n).getD 0 ∧ (wd.get? n).getD 0 ≤ 10 ^ 6) → 0 ≤ manyV wd d ns ∧ manyV wd d ns ≤ ns.length * 10 ^ 6 ∧ ((∃ n ∈ ns, n ∉ d.keys) → 0 < manyV wd d ns) ∧ (manyV wd d ns = 0 → ∀ n ∈ ns, n ∈ d.keys)
  | [], _ => ⟨Int.le_refl _, by simp [manyV_nil], fun ⟨n, h, _⟩ => (nomatch h), fun _ n h => (nomatch h)⟩
  | n :: ns, h => by
    obtain ⟨i1, i2, i3, i4⟩ := manyV_ge (d := d) (ns := ns) fun m hm => h m (List.mem_cons_of_mem _ hm)
    have hn := h n List.mem_cons_self
    rw [manyV_cons, List.length_cons]
    by_cases hk : n ∈ d.keys
    · rw [if_pos hk]
      refine ⟨by omega, by omega, fun ⟨m, hm, hm2⟩ => ?_, fun hz m hm => ?_⟩
      · rcases List.mem_cons.mp hm with rfl | hm
        · exact absurd hk hm2
        · have := i3 ⟨m, hm, hm2⟩; omega
      · rcases List.mem_cons.mp hm with rfl | hm
        · exact hk
        · exact i4 (by omega) m hm
    · rw [if_neg hk]
      exact ⟨by omega, by omega, fun _ => by omega, fun hz => by omega⟩
end TF


/-! PS1: one round of the levels. -/
namespace TF
open PySem PySem.Spec PyProof.Rows L2 DL FR
open Enc KeyT
theorem intNonnegR {m : Int} (h : 0 ≤ m) : (0 : Rat) ≤ (m : Rat) := by have := Rat.intCast_le_intCast.mpr h; simpa using this
/-! ### a row's level -/
abbrev BL : Nat := 30 * 10 ^ 6
structure SI (N M : Nat) (ps : List PartV) (rows : List RowV) (wd : Dic Str Int) (N' : Nat) (d : Dic Str Rat) (L : Rat) : Prop where
  dn : d.keys.Nodup
  ds : ∀ n ∈ d.keys, ∃ p ∈ ps, p.name = n
  L0 : 0 ≤ L
  np : 0 < N'
  dv : N ∣ N'
  nb : N' ≤ N * BL ^ d.keys.length
  nb2 : ∀ W : Nat, 1 ≤ W → (∀ p ∈ ps, p.weight ≤ (W : Int)) → (∀ r ∈ rows, ∀ e : Dic Str Rat, manyV wd e r.c ≤ (W : Int)) → N' ≤ N * W ^ d.keys.length
  gd : ∀ n s, d.get? n = some s → Gd N' M s
  st : ∀ p ∈ ps, ∀ s, d.get? p.name = some s → 0 ≤ s ∧ s ≤ p.most ∧ s ≤ (p.weight : Rat) * L ∧ (s = p.most ∨ ∃ r ∈ rows, p.name ∈ r.c ∧ (∀ n ∈ r.c, n ∈ d.keys) ∧ sumV d r.c = r.b ∧ ∀ p' ∈ ps, p'.name ∈ r.c → ∀ s', d.get? p'.name = some s' → (p.weight : Rat) * s' ≤ (p'.weight : Rat) * s)
  ri : ∀ p ∈ ps, p.name ∉ d.keys → (p.weight : Rat) * L ≤ p.most
  rw : ∀ r ∈ rows, sumV d r.c + L * (manyV wd d r.c : Rat) ≤ r.b
theorem pow_le {a b : Nat} (h : a ≤ b) : BL ^ a ≤ BL ^ b := Nat.pow_le_pow_right (by decide) h
section
variable {N M : Nat} {ps : List PartV} {rows : List RowV} {wd : Dic Str Int}
/-- numbers that stay small -/
theorem ShC.small (S : ShC N M ps rows wd) {N' K : Nat} {q : Rat} (h : Gd N' K q) (hp : 0 < N') (hN : N' ≤ N * BL ^ 31) (hK : K ≤ 100 * M) : Sm q := by
  have b := S.big
  have hM := S.Mp
  refine h.sm hp (Nat.lt_of_le_of_lt (Nat.mul_le_mul hK hN) b) (Nat.lt_of_le_of_lt (Nat.le_trans hN ?_) b)
  exact Nat.le_mul_of_pos_left _ (by omega)
theorem ShC.wpos (S : ShC N M ps rows wd) {p : PartV} (hp : p ∈ ps) : 0 < p.weight := (S.ok p hp).w
theorem ShC.wts (S : ShC N M ps rows wd) {r : RowV} (hr : r ∈ rows) : ∀ n ∈ r.c, 1 ≤ (wd.get? n).getD 0 ∧ (wd.get? n).getD 0 ≤ 10 ^ 6 := by
  intro n hn
  obtain ⟨p, hp, rfl⟩ := S.rs r hr n hn
  rw [S.wt p hp]
  exact ⟨S.wpos hp, S.wle p hp⟩
theorem ShC.many (S : ShC N M ps rows wd) {r : RowV} (hr : r ∈ rows) (d : Dic Str Rat) : 0 ≤ manyV wd d r.c ∧ manyV wd d r.c ≤ BL := by
  obtain ⟨h1, h2, _⟩ := manyV_ge (d := d) (S.wts hr)
  have := S.rl hr
  refine ⟨h1, ?_⟩
  have : ((r.c.length : Nat) : Int) * 10 ^ 6 ≤ 30 * 10 ^ 6 := by omega
  exact Int.le_trans h2 this
theorem SI.keyl (S : ShC N M ps rows wd) {N' d L} (I : SI N M ps rows wd N' d L) : d.keys.length ≤ ps.length := by
  have := nodup_sub_len I.dn (m := ps.map (·.name)) fun n hn => by
    obtain ⟨p, hp, e⟩ := I.ds n hn
    exact List.mem_map.mpr ⟨p, hp, e⟩
  have e : (ps.map (·.name)).length = ps.length := List.length_map ..
  rw [e] at this
  exact this
theorem SI.nb30 (S : ShC N M ps rows wd) {N' d L} (I : SI N M ps rows wd N' d L) : N' ≤ N * BL ^ 31 :=
  Nat.le_trans I.nb (Nat.mul_le_mul_left _ (pow_le (Nat.le_trans (I.keyl S) (Nat.le_trans S.lp (by decide)))))
theorem SI.gsum (S : ShC N M ps rows wd) {N' d L} (I : SI N M ps rows wd N' d L) {r : RowV} (hr : r ∈ rows) : Gd N' (30 * M) (sumV d r.c) :=
  (Gd.sumV I.gd r.c).mono (Nat.mul_le_mul_right _ (S.rl hr))
theorem SI.sum (S : ShC N M ps rows wd) {N' d L} (I : SI N M ps rows wd N' d L) {r : RowV} (hr : r ∈ rows) : F_sum_of d r.c = .ok (sumV d r.c) := by
  have b := S.big
  have hM := S.Mp
  refine sum_of_ok I.gd I.np (Nat.lt_of_le_of_lt (Nat.mul_le_mul ?_ (I.nb30 S)) b) (Nat.lt_of_le_of_lt (Nat.le_trans (I.nb30 S) ?_) b)
  · have := Nat.mul_le_mul_right M (S.rl hr)
    omega
  · exact Nat.le_mul_of_pos_left _ (by omega)
end
end TF


/-! PS2: one round of the levels: its law. -/
namespace TF
open PySem PySem.Spec PyProof.Rows L2 DL FR
open Enc KeyT
section
variable {N M : Nat} {ps : List PartV} {rows : List RowV} {wd : Dic Str Int}
end
end TF


/-! PS3: the levels rise: slacks_of. -/
namespace TF
open PySem PySem.Spec PyProof.Rows L2 DL FR
open Enc KeyT
section
variable {N M : Nat} {ps : List PartV} {rows : List RowV} {wd : Dic Str Int}
/-- what the shares are -/
structure Shared (N M : Nat) (ps : List PartV) (rows : List RowV) (d : Dic Str Rat) : Prop where
  si : ∃ N' L wd, SI N M ps rows wd N' d L
  dom : ∀ p ∈ ps, ∃ s, d.get? p.name = some s
theorem SI.start (S : ShC N M ps rows wd) : SI N M ps rows wd N ⟨[]⟩ 0 where
  dn := List.nodup_nil
  ds := fun _ h => nomatch h
  L0 := Rat.le_refl
  np := S.Np
  dv := Nat.dvd_refl _
  nb := by show N ≤ N * BL ^ 0; rw [Nat.pow_zero, Nat.mul_one]; exact Nat.le_refl _
  nb2 := fun W _ _ _ => by show N ≤ N * W ^ 0; rw [Nat.pow_zero, Nat.mul_one]; exact Nat.le_refl _
  gd := fun _ _ h => nomatch h
  st := fun _ _ _ h => nomatch h
  ri := fun p hp _ => by have := (S.ok p hp).most; grind
  rw := fun r hr => by
    have e : ∀ ns : List Str, sumV (⟨[]⟩ : Dic Str Rat) ns = 0 := fun ns => by
      induction ns with
      | nil => rfl
      | cons n ns ih => rw [sumV_cons, ih]; show (0 : Rat) + 0 = 0; grind
    have := S.rb r hr
    rw [e]; grind
end
end TF


/-! PS4: share. -/
namespace TF
open PySem PySem.Spec PyProof.Rows L2 DL FR
open Enc KeyT
def dV (d : Dic Str Rat) (n : Str) : Rat := (d.get? n).getD 0
def wdV (ps : List PartV) : Dic Str Int := ⟨ps.map fun p => (p.name, p.weight)⟩
structure Fin (N M : Nat) (ps : List PartV) (rows : List RowV) (wd : Dic Str Int) (d : Dic Str Rat) : Prop where
  si : ∃ N' L, SI N M ps rows wd N' d L
  dom : ∀ p ∈ ps, d.get? p.name = some (dV d p.name)
section
variable {N M : Nat} {ps : List PartV} {rows : List RowV} {wd : Dic Str Int} {d : Dic Str Rat}
theorem Fin.sm (S : ShC N M ps rows wd) (F : Fin N M ps rows wd d) {p : PartV} (hp : p ∈ ps) : Sm (dV d p.name) ∧ Sm (dV d p.name / (p.weight : Rat)) := by
  obtain ⟨N', L, I⟩ := F.si
  have hM := S.Mp
  have g := I.gd _ _ (F.dom p hp)
  refine ⟨S.small g I.np (I.nb30 S) (by omega), ?_⟩
  have hw := S.wpos hp
  have hwl := S.wle p hp
  refine S.small (g.div hw) (Nat.mul_pos I.np (by omega)) ?_ (by omega)
  have h1 : N' ≤ N * BL ^ 30 := Nat.le_trans I.nb (Nat.mul_le_mul_left _ (pow_le (Nat.le_trans (I.keyl S) S.lp)))
  have h2 : p.weight.toNat ≤ BL := by show _ ≤ 30 * 10 ^ 6; omega
  have := Nat.mul_le_mul h1 h2
  rwa [Nat.mul_assoc, ← Nat.pow_succ] at this
structure ShT (N M : Nat) (ps : List PartV) (gs : List GapV) (t : ThingV) (rows : List RowV) : Prop where
  T : ThOk ps gs t
  R : F_gap_rows t = .ok rows
  S : ShC N M ps rows (wdV ps)
end
end TF


/-! PT6: parts drawn with chains in the table (the draw of k54, k55). -/
namespace TF
open PySem PySem.Spec PyProof.Rows L2 DL FR
open Enc KeyT
abbrev SpV := T3 Str Rat (List Str)
abbrev cR : SpV → Str := fun v => v.a
abbrev cP : SpV → Rat := fun v => v.b
abbrev cC : SpV → List Str := fun v => v.c
abbrev chV (d : Dic Str SpV) (f : Str) : List Str := ((d.get? f).map cC).getD []
abbrev NQ : Nat := 27720
abbrev SQ : Nat := 10 ^ 40
abbrev MQ : Nat := 10 ^ 30
/-- parts drawn so far -/
structure PI3 (st k : Nat) (ps : List PartV) (d : Dic Str SpV) : Prop where
  I : PI cR cP st NQ SQ k ps d (chV d)
  cn : ∀ f, (chV d f).Nodup
  gm : ∀ p ∈ ps, Gd NQ MQ p.most
  wl : ∀ p ∈ ps, p.weight ≤ 10 ^ 6
theorem PI3.empty {st : Nat} : PI3 st 0 [] ⟨[]⟩ := ⟨.empty _ _, fun _ => List.nodup_nil, fun _ h => (nomatch h), fun _ h => (nomatch h)⟩
/-- one step of the draw -/
theorem PI3.next {st k : Nat} {ps : List PartV} {d d' : Dic Str SpV} {here : Str} {p : PartV} (J : PI3 st k ps d) (hk : k < 13) (hst : st ≤ 3) (hd : (d' = d ∧ here ∈ d.keys) ∨ (d' = d.put here (T3.mk here 0 []) ∧ here = nmT 102 d.l.length st))
    {v : SpV} (hv : d'.get? here = some v) {pl : Rat} (hs : Gd NQ SQ p.size) (hn : p.name = nmT 112 k st) (hm : Gd NQ MQ p.most) (hm0 : 0 ≤ p.most) (hw : 0 < p.weight) (hwl : p.weight ≤ 10 ^ 6)
    (he : (p.start = here ∧ p.fin = nmT 102 d'.l.length st ∧ pl = v.b + p.size) ∨ (p.start = nmT 102 d'.l.length st ∧ p.fin = here ∧ pl = v.b - p.size)) :
    PI3 st (k + 1) (ps ++ [p]) (d'.put (nmT 102 d'.l.length st) (T3.mk v.a pl (v.c ++ [p.name]))) := by
  have e1 : poV cP d' here = v.b := by unfold poV; rw [hv]; rfl
  have e2 : rtV cR d' here = v.a := by unfold rtV; rw [hv]; rfl
  have e3 : chV d' here = v.c := by unfold chV; rw [hv]; rfl
  have hd2 : (d' = d ∧ here ∈ d.keys) ∨ (d' = d.put here (T3.mk here 0 []) ∧ here = nmT 102 d.l.length st ∧ cR (T3.mk here 0 []) = here ∧ cP (T3.mk here 0 []) = 0 ∧ cC (T3.mk here 0 []) = []) := hd.imp id fun h => ⟨h.1, h.2, rfl, rfl, rfl⟩
  have cn' : ∀ f, (chV d' f).Nodup ∧ ∀ n ∈ chV d' f, n ∈ ps.map (·.name) := fun f => by
    have old : ∀ f, ∀ n ∈ chV d f, n ∈ ps.map (·.name) := fun f n hn => by
      by_cases hf : f ∈ d.keys
      · exact J.I.T.ch1 f hf n hn
      · unfold chV at hn; rw [Dic.none_iff.mpr hf] at hn; exact nomatch hn
    rcases hd with ⟨rfl, _⟩ | ⟨rfl, _⟩
    · exact ⟨J.cn f, old f⟩
    · by_cases hf : f = here
      · unfold chV; rw [Dic.get_put, if_pos hf]; exact ⟨List.nodup_nil, fun _ h => nomatch h⟩
      · have : chV (d.put here (T3.mk here 0 [])) f = chV d f := by unfold chV; rw [Dic.get_put, if_neg hf]
        rw [this]; exact ⟨J.cn f, old f⟩
  refine ⟨J.I.growC (v0 := T3.mk here 0 []) (here := here) hk hst hd2 hs hn hm0 hw ?_ e2.symm (by show v.c ++ _ = chV d' here ++ _; rw [e3]), fun f => ?_, fun q hq => ?_, fun q hq => ?_⟩
  · rw [e1]; exact he
  · by_cases hf : f = nmT 102 d'.l.length st
    · unfold chV; rw [Dic.get_put, if_pos hf]
      obtain ⟨h1, h2⟩ := cn' here
      rw [e3] at h1 h2
      show (v.c ++ [p.name]).Nodup
      refine List.nodup_append.mpr ⟨h1, by simp, fun a ha b hb e => ?_⟩
      have hb := List.mem_singleton.mp hb
      subst e
      have := h2 a ha
      rw [hb, hn, J.I.nm] at this
      obtain ⟨j, hj, e⟩ := List.mem_map.mp this
      have := nmT_inj e
      rw [List.mem_range] at hj
      omega
    · have : chV (d'.put (nmT 102 d'.l.length st) (T3.mk v.a pl (v.c ++ [p.name]))) f = chV d' f := by unfold chV; rw [Dic.get_put, if_neg hf]
      rw [this]; exact (cn' f).1
  · rcases List.mem_append.mp hq with hq | hq
    · exact J.gm q hq
    · cases List.mem_singleton.mp hq; exact hm
  · rcases List.mem_append.mp hq with hq | hq
    · exact J.wl q hq
    · cases List.mem_singleton.mp hq; exact hwl
end TF


/-! PS5: a drawn thing stands ready for sharing. -/
namespace TF
open PySem PySem.Spec PyProof.Rows L2 DL FR
open Enc KeyT
abbrev rmV (d : Dic Str SpV) (g : GapV) : Rat := roomV g (poV cP d g.other - poV cP d g.one)
def wyN (t : ThingV) (g : GapV) : List Str := ((t.ways.get? g.name).getD []).map (·.1)
structure GapI (d : Dic Str SpV) (g : GapV) : Prop where
  ok : OkG g
  one : g.one ∈ d.keys
  other : g.other ∈ d.keys
  root : rtV cR d g.one = rtV cR d g.other
  room : Gd NQ MQ (rmV d g)
  room0 : 0 ≤ rmV d g
  g1 : Gd NQ (30 * SQ) (poV cP d g.other - poV cP d g.one - g.low)
  g2 : Gd NQ (30 * SQ) (g.high - (poV cP d g.other - poV cP d g.one))
theorem PI3.len {st k ps d} (J : PI3 st k ps d) : ps.length = k := by
  have := congrArg List.length J.I.nm
  simpa using this
/-- the shares: what holds of them -/
theorem Fin.facts {N M : Nat} {ps : List PartV} {rows : List RowV} {wd : Dic Str Int} {d : Dic Str Rat} (S : ShC N M ps rows wd) (F : Fin N M ps rows wd d) :
    ∃ N', (∀ q K, Gd N' K q → K ≤ 100 * M → Sm q) ∧ (∀ p ∈ ps, Gd N' M (dV d p.name)) ∧ (∀ p ∈ ps, 0 ≤ dV d p.name ∧ dV d p.name ≤ p.most) ∧ (∀ r ∈ rows, sumV d r.c ≤ r.b ∧ Gd N' (30 * M) (sumV d r.c)) ∧
      (∀ p ∈ ps, dV d p.name = p.most ∨ ∃ r ∈ rows, p.name ∈ r.c) := by
  obtain ⟨N', L, I⟩ := F.si
  refine ⟨N', fun q K g hK => S.small g I.np (I.nb30 S) hK, fun p hp => I.gd _ _ (F.dom p hp), fun p hp => ?_, fun r hr => ⟨?_, I.gsum S hr⟩, fun p hp => ?_⟩
  · have := I.st p hp _ (F.dom p hp)
    exact ⟨this.1, this.2.1⟩
  · have h1 := I.rw r hr
    have h2 : 0 ≤ L * (manyV wd d r.c : Rat) := Rat.mul_nonneg I.L0 (intNonnegR (S.many hr d).1)
    grind
  · rcases (I.st p hp _ (F.dom p hp)).2.2.2 with h | ⟨r, hr, h, _⟩
    · exact .inl h
    · exact .inr ⟨r, hr, h⟩
end TF


/-! PS6: shares compared by weight. -/
namespace TF
open PySem PySem.Spec PyProof.Rows L2 DL FR
open Enc KeyT
end TF


/-! PS7: the rows of a drawn thing, whatever its rooms. -/
namespace TF
open PySem PySem.Spec PyProof.Rows L2 DL FR
open Enc KeyT
structure GapB (d : Dic Str SpV) (g : GapV) : Prop where
  ok : OkG g
  one : g.one ∈ d.keys
  other : g.other ∈ d.keys
  root : rtV cR d g.one = rtV cR d g.other
  room : Gd NQ (2 * MQ) (rmV d g)
  g1 : Gd NQ (30 * SQ) (poV cP d g.other - poV cP d g.one - g.low)
  g2 : Gd NQ (30 * SQ) (g.high - (poV cP d g.other - poV cP d g.one))
end TF


/-! PS8: a thing of trees stands ready for sharing. -/
namespace TF
open PySem PySem.Spec PyProof.Rows L2 DL FR
open Enc KeyT
def rowP (pos : Str → Rat) (t : ThingV) (g : GapV) : RowV := T3.mk g.name (roomV g (pos g.other - pos g.one)) (wyN t g)
end TF


/-! PS9: any thing of trees made: middles, rooms, rows, shared or refused. -/
namespace TF
open PySem PySem.Spec PyProof.Rows L2 DL FR
open Enc KeyT
abbrev KQ : Nat := 10 ^ 45
theorem smN {N M : Nat} {q : Rat} (h : Gd N M q) (hM : M ≤ 10 ^ 50) (Np : 0 < N) (Nb : N ≤ 10 ^ 60) : Sm q := by
  refine h.sm Np (Nat.lt_of_le_of_lt (Nat.mul_le_mul hM Nb) ?_) (Nat.lt_of_le_of_lt Nb ?_)
  · exact Nat.lt_of_lt_of_le (show 10 ^ 50 * 10 ^ 60 < 2 ^ 450 by decide) (Nat.pow_le_pow_right (by decide) (by decide))
  · exact Nat.lt_of_lt_of_le (show 10 ^ 60 < 2 ^ 450 by decide) (Nat.pow_le_pow_right (by decide) (by decide))
/-- a thing to be made: its tree and its gaps, over a common bottom -/
structure TreeG (N : Nat) (ps : List PartV) (ks : List Str) (root : Str → Str) (pos : Str → Rat) (ch : Str → List Str) (gs : List GapV) : Prop where
  T : TreeI ps ks root pos ch
  lp : ps.length ≤ 30
  lg : gs.length < 1000
  okG : ∀ g ∈ gs, OkG g
  nG : (gs.map (·.name)).Nodup
  hk : ∀ g ∈ gs, g.one ∈ ks ∧ g.other ∈ ks ∧ root g.one = root g.other
  sz : ∀ p ∈ ps, Gd N KQ p.size
  po : ∀ f ∈ ks, Gd N KQ (pos f)
  lo : ∀ g ∈ gs, Gd N KQ g.low
  hi : ∀ g ∈ gs, Gd N KQ g.high
  mo : ∀ p ∈ ps, Gd N KQ p.most
  wl : ∀ p ∈ ps, p.weight ≤ 10 ^ 6
  Np : 0 < N
  Nb : N ≤ 10 ^ 60
structure ReadyT (ps : List PartV) (pos : Str → Rat) (ch : Str → List Str) (gs : List GapV) (t : ThingV) : Prop where
  TO : ThOk ps gs t
  mid : ∀ g ∈ gs, F_Thing_middle t g.name = .ok (pos g.other - pos g.one)
  room : ∀ g ∈ gs, F_Thing_room t g.name = .ok (roomV g (pos g.other - pos g.one))
  rows : F_gap_rows t = .ok (gs.map (rowP pos t))
  wy : ∀ g ∈ gs, (wyN t g).Nodup ∧ (∀ n ∈ wyN t g, n ∈ ps.map (·.name)) ∧ ∀ n, n ∈ wyN t g ↔ ¬ (n ∈ ch g.one ↔ n ∈ ch g.other)
  way : ∀ g ∈ gs, ∃ w, F_Thing_way t g.name = .ok w ∧ w.length ≤ 100 ∧ ∀ s ∈ w, GdS s.1
  shared : (∃ told, F_share t = .ok told ∧ EqD.good told) ∨ ∃ n, F_share t = .exc "Tight" [("tight_gap", enc n)] ∧ GdS n
variable {N : Nat} {ps : List PartV} {ks : List Str} {root : Str → Str} {pos : Str → Rat} {ch : Str → List Str} {gs : List GapV} {t : ThingV}
theorem TreeG.sm (G : TreeG N ps ks root pos ch gs) {M : Nat} {q : Rat} (h : Gd N M q) (hM : M ≤ 10 ^ 50) : Sm q := smN h hM G.Np G.Nb
/-! ### a part measured -/
theorem JoinP.mapP {ps : List PartV} {φ : PartV → PartV} (h1 : ∀ p ∈ ps, (φ p).start = p.start) (h2 : ∀ p ∈ ps, (φ p).fin = p.fin) {f g : Str} (j : JoinP ps f g) : JoinP (ps.map φ) f g := by
  induction j with
  | refl => exact .refl _
  | fwd _ hp ih =>
    rw [← h2 _ hp]
    refine .fwd ?_ (List.mem_map.mpr ⟨_, hp, rfl⟩)
    rw [h1 _ hp]; exact ih
  | bwd _ hp ih =>
    rw [← h1 _ hp]
    refine .bwd ?_ (List.mem_map.mpr ⟨_, hp, rfl⟩)
    rw [h2 _ hp]; exact ih
theorem TreeI.mapP {φ : PartV → PartV} {pos' : Str → Rat} (T : TreeI ps ks root pos ch) (h0 : ∀ p ∈ ps, (φ p).name = p.name) (h1 : ∀ p ∈ ps, (φ p).start = p.start) (h2 : ∀ p ∈ ps, (φ p).fin = p.fin) (ok : ∀ p ∈ ps, OkP (φ p)) (hp : ∀ p ∈ ps, pos' p.fin = pos' p.start + (φ p).size) : TreeI (ps.map φ) ks root pos' ch := by
  have nm : (ps.map φ).map (·.name) = ps.map (·.name) := by
    rw [List.map_map]; exact List.map_congr_left fun x hx => h0 x hx
  have all : ∀ {P : PartV → Prop}, (∀ p ∈ ps, P (φ p)) → ∀ q ∈ ps.map φ, P q := fun h q hq => by
    obtain ⟨p, hp, rfl⟩ := List.mem_map.mp hq
    exact h p hp
  refine ⟨all ok, by rw [nm]; exact T.nP, all fun p hp => by rw [h1 p hp]; exact T.st p hp, all fun p hp => by rw [h2 p hp]; exact T.fi p hp, all fun p hq => by rw [h1 p hq, h2 p hq]; exact hp p hq, fun f hf => (T.rt f hf).mapP h1 h2, all fun p hp => by rw [h1 p hp, h2 p hp]; exact T.rc p hp, fun f hf n hn => by rw [nm]; exact T.ch1 f hf n hn, all fun p hp => by rw [h0 p hp, h1 p hp, h2 p hp]; exact T.ch2 p hp, T.two⟩
def msP (n : Str) (s : Rat) (p : PartV) : PartV := if p.name = n then { name := p.name, start := p.start, fin := p.fin, size := s, most := 0, weight := p.weight } else p
theorem msP_keep (n : Str) (s : Rat) (p : PartV) : (msP n s p).name = p.name ∧ (msP n s p).start = p.start ∧ (msP n s p).fin = p.fin ∧ (msP n s p).weight = p.weight := by
  unfold msP; split <;> exact ⟨rfl, rfl, rfl, rfl⟩
/-- gone forward from the root, or backward -/
def SgT (ps : List PartV) (ch : Str → List Str) (sgn : Str → Int) : Prop := ∀ p ∈ ps, (sgn p.name = 1 ∧ ch p.fin = ch p.start ++ [p.name]) ∨ (sgn p.name = -1 ∧ ch p.start = ch p.fin ++ [p.name])
def sgC (ch : Str → List Str) (sgn : Str → Int) (f n : Str) : Int := if n ∈ ch f then sgn n else 0
theorem app_ne {α : Type} {l m : List α} {a : α} (h : l = m ++ [a]) (k : m = l ++ [a]) : False := by
  have h1 := congrArg List.length h
  have h2 := congrArg List.length k
  simp at h1 h2; omega
theorem TreeI.moved {sgn : Str → Int} (T : TreeI ps ks root pos ch) (sg : SgT ps ch sgn) {p : PartV} (hp : p ∈ ps) (off : Rat) : TreeI (ps.map (msP p.name (p.size + off))) ks root (fun f => pos f + off * ((sgC ch sgn f p.name : Int) : Rat)) ch := by
  refine T.mapP (fun q _ => (msP_keep _ _ q).1) (fun q _ => (msP_keep _ _ q).2.1) (fun q _ => (msP_keep _ _ q).2.2.1) (fun q hq => ?_) (fun q hq => ?_)
  · have o := T.ok q hq
    unfold msP
    split
    · exact ⟨o.n, o.s, o.f, o.ne, Rat.le_refl, o.w⟩
    · exact o
  · show pos q.fin + _ = pos q.start + _ + _
    rw [T.pos q hq]
    by_cases e : q.name = p.name
    · have : q = p := same_name T.nP hq hp e
      subst this
      unfold msP
      rw [if_pos rfl]
      unfold sgC
      have i1 : ((1 : Int) : Rat) = 1 := rfl
      have i0 : ((0 : Int) : Rat) = 0 := rfl
      have im : ((-1 : Int) : Rat) = -1 := rfl
      rcases T.ch2 q hq with ⟨c1, c2⟩ | ⟨c1, c2⟩
      · rcases sg q hq with ⟨s1, s2⟩ | ⟨s1, s2⟩
        · rw [if_neg c2, c1, if_pos (mem_app1.mpr (.inr rfl)), s1, i1, i0]; grind
        · exact (app_ne c1 s2).elim
      · rcases sg q hq with ⟨s1, s2⟩ | ⟨s1, s2⟩
        · exact (app_ne c1 s2).elim
        · rw [if_neg c2, c1, if_pos (mem_app1.mpr (.inr rfl)), s1, im, i0]; grind
    · have := (T.mark p.name).2 q hq e
      have := decide_eq_decide.mp this
      unfold msP sgC
      rw [if_neg e]
      simp only [this]
      grind
end TF


/-! PSA: what is_sharing tells, of any slacks. -/
namespace TF
open PySem PySem.Spec PyProof.Rows L2 DL FR
open Enc KeyT
end TF


/-! PSB: levels put in order; which list is fairer. -/
namespace TF
open PySem PySem.Spec PyProof.Rows L2 DL FR
open Enc KeyT
/-! ### fractions of some bottom -/
def Bd (q : Rat) : Prop := ∃ N, 0 < N ∧ N ≤ 10 ^ 250 ∧ Gd N (10 ^ 200) q
theorem Bd.of {N M : Nat} {q : Rat} (h : Gd N M q) (hN : 0 < N) (hb : N ≤ 10 ^ 250) (hM : M ≤ 10 ^ 200) : Bd q := ⟨N, hN, hb, h.mono hM⟩
theorem sm_of {N M : Nat} {q : Rat} (h : Gd N M q) (hN : 0 < N) (hb : N ≤ 10 ^ 256) (hM : M ≤ 10 ^ 300) : Sm q := by
  refine h.sm hN (Nat.lt_of_le_of_lt (Nat.mul_le_mul hM hb) ?_) (Nat.lt_of_le_of_lt hb ?_)
  · exact Nat.lt_of_lt_of_le (show 10 ^ 300 * 10 ^ 256 < 2 ^ 1900 by decide) (Nat.pow_le_pow_right (by decide) (by decide))
  · exact Nat.lt_of_lt_of_le (show 10 ^ 256 < 2 ^ 1900 by decide) (Nat.pow_le_pow_right (by decide) (by decide))
theorem Bd.sm {q : Rat} (h : Bd q) : Sm q := by
  obtain ⟨N, h1, h2, h3⟩ := h
  exact sm_of h3 h1 (Nat.le_trans h2 (by decide)) (by decide)
/-! ### in order -/
/-! ### fairer -/
def fairV (a b : List Rat) : Bool := match (a.zip b).find? (fun x => !decide (x.1 = x.2)) with
  | some x => decide (x.2 < x.1)
  | none => false
end TF


/-! PSC: none is fairer. -/
namespace TF
open PySem PySem.Spec PyProof.Rows L2 DL FR
open Enc KeyT
/-! ### lists in order, the first place where they differ -/
theorem fairV_cons (m : Rat) (a b : List Rat) : fairV (m :: a) (m :: b) = fairV a b := by
  unfold fairV
  rw [List.zip_cons_cons, List.find?_cons]
  simp
def LexLt (a b : List Rat) : Prop := fairV b a = true ∧ fairV a b = false ∧ a ≠ b
theorem LexLt.cons {m : Rat} {a b : List Rat} (h : LexLt a b) : LexLt (m :: a) (m :: b) := ⟨by rw [fairV_cons]; exact h.1, by rw [fairV_cons]; exact h.2.1, fun e => h.2.2 (List.cons.inj e).2⟩
/-! ### sharings -/
structure Keeps (ps : List PartV) (rows : List RowV) (y : Str → Rat) : Prop where
  lo : ∀ p ∈ ps, 0 ≤ y p.name
  hi : ∀ p ∈ ps, y p.name ≤ p.most
  row : ∀ r ∈ rows, (r.c.map y).sum ≤ r.b
structure Maxmin (ps : List PartV) (rows : List RowV) (x : Str → Rat) : Prop where
  K : Keeps ps rows x
  stop : ∀ p ∈ ps, x p.name = p.most ∨ ∃ r ∈ rows, p.name ∈ r.c ∧ (r.c.map x).sum = r.b ∧ ∀ q ∈ ps, q.name ∈ r.c → x q.name / (q.weight : Rat) ≤ x p.name / (p.weight : Rat)
  rs : ∀ r ∈ rows, ∀ n ∈ r.c, ∃ p ∈ ps, p.name = n
  w : ∀ p ∈ ps, 0 < p.weight
variable {ps : List PartV} {rows : List RowV} {x y : Str → Rat}
theorem sum_le {l : List Str} (h : ∀ n ∈ l, x n ≤ y n) : (l.map x).sum ≤ (l.map y).sum := by
  induction l with
  | nil => exact Rat.le_refl
  | cons n l ih =>
    rw [List.map_cons, List.map_cons, List.sum_cons, List.sum_cons]
    have h1 := h n List.mem_cons_self
    have h2 := ih fun m hm => h m (List.mem_cons_of_mem _ hm)
    grind
theorem sum_lt {l : List Str} (h : ∀ n ∈ l, x n ≤ y n) {m : Str} (hm : m ∈ l) (hl : x m < y m) : (l.map x).sum < (l.map y).sum := by
  induction l with
  | nil => exact nomatch hm
  | cons n l ih =>
    rw [List.map_cons, List.map_cons, List.sum_cons, List.sum_cons]
    have h1 := h n List.mem_cons_self
    have h2 : ∀ m ∈ l, x m ≤ y m := fun m hm => h m (List.mem_cons_of_mem _ hm)
    rcases List.mem_cons.mp hm with rfl | hm
    · have := sum_le h2
      grind
    · have := ih h2 hm
      grind
theorem Maxmin.less (hx : Maxmin ps rows x) (hy : Keeps ps rows y) {p : PartV} (hp : p ∈ ps) (h : x p.name < y p.name) : ∃ q ∈ ps, y q.name < x q.name ∧ x q.name / (q.weight : Rat) ≤ x p.name / (p.weight : Rat) := by
  rcases hx.stop p hp with h1 | ⟨r, hr, h1, h2, h3⟩
  · have := hy.hi p hp
    rw [h1] at h
    exact absurd h (Rat.not_lt.mpr this)
  · have : ∃ n ∈ r.c, y n < x n := by
      apply Classical.byContradiction
      intro hn
      have hle : ∀ n ∈ r.c, x n ≤ y n := fun n hn2 => Rat.not_lt.mp fun hl => hn ⟨n, hn2, hl⟩
      have := sum_lt hle h1 h
      have := hy.row r hr
      rw [h2] at *
      grind
    obtain ⟨n, hn, hl⟩ := this
    obtain ⟨q, hq, rfl⟩ := hx.rs r hr n hn
    exact ⟨q, hq, hl, h3 q hq hn⟩
/-! ### what is told -/
end TF


/-! PK0: what the laws of ties and chains share: their own lowest, plus, less, places; faces told. -/
namespace TF
open PySem PySem.Spec PyProof.Rows L2 DL FR
open Enc KeyT
/-! ### the drawn faces' places: over 60, to 10 ^ 40 -/
/-! ### faces -/
def faceL (ts : List TieV) : List Str := ts.map (·.start) ++ ts.map (·.fin)
def facesV (ts : List TieV) : List Str := sortS (dedS (faceL ts))
theorem facesV_mem {ts : List TieV} {f : Str} : f ∈ facesV ts ↔ f ∈ faceL ts := by
  unfold facesV
  rw [(sortS_perm _).mem_iff, dedS_mem]
theorem facesV_nd (ts : List TieV) : (facesV ts).Nodup := (sortS_perm _).nodup_iff.mpr (dedS_nd _)
theorem smW {N M : Nat} {q : Rat} (h : Gd N M q) (hM : M ≤ 10 ^ 50) (Np : 0 < N) (Nb : N ≤ 2 ^ 1500) : Sm q := by
  refine h.sm Np (Nat.lt_of_le_of_lt (Nat.mul_le_mul hM Nb) ?_) (Nat.lt_of_le_of_lt Nb (Nat.pow_lt_pow_right (by decide) (by decide)))
  refine Nat.lt_of_lt_of_le (Nat.mul_lt_mul_of_lt_of_le (show 10 ^ 50 < 2 ^ 200 by decide) (Nat.le_refl (2 ^ 1500)) (Nat.pow_pos (by decide))) ?_
  rw [← Nat.pow_add]
  exact Nat.pow_le_pow_right (by decide) (by decide)
theorem nbW {N : Nat} (h : N ≤ 10 ^ 60) : N ≤ 2 ^ 1500 := Nat.le_trans h (Nat.le_trans (show 10 ^ 60 ≤ 2 ^ 200 by decide) (Nat.pow_le_pow_right (by decide) (by decide)))
end TF


/-! PK1: least sums along steps (Bellman and Ford), in plain Lean. -/
namespace TF
open PySem PySem.Spec PyProof.Rows L2 DL FR
open Enc KeyT
abbrev StepV := T4 Str Str Rat (Str × Bool)
abbrev WayV := Str × (Str × Bool)
def Ch (S : List StepV) (a : Str) : List StepV → Str → Prop
  | [], f => a = f
  | s :: l, f => s ∈ S ∧ s.a = a ∧ Ch S s.b l f
def costL (l : List StepV) : Rat := (l.map (·.c)).sum
def Pot (S : List StepV) (pl : Str → Rat) : Prop := ∀ s ∈ S, pl s.b - pl s.a ≤ s.c
theorem costL_cons (s : StepV) (l : List StepV) : costL (s :: l) = s.c + costL l := by unfold costL; rw [List.map_cons, List.sum_cons]
theorem costL_nil : costL [] = 0 := rfl
theorem costL_app (l m : List StepV) : costL (l ++ m) = costL l + costL m := by
  induction l with
  | nil => rw [List.nil_append, costL_nil]; grind
  | cons s l ih => rw [List.cons_append, costL_cons, costL_cons, ih]; grind
section
variable {S : List StepV} {pl : Str → Rat}
theorem Ch.app : ∀ {l : List StepV} {a x f : Str} {m : List StepV}, Ch S a l x → Ch S x m f → Ch S a (l ++ m) f
  | [], a, x, f, m, h, g => by cases h; exact g
  | s :: l, a, x, f, m, h, g => ⟨h.1, h.2.1, Ch.app h.2.2 g⟩
theorem Ch.snoc {l : List StepV} {a : Str} {s : StepV} (h : Ch S a l s.a) (hs : s ∈ S) : Ch S a (l ++ [s]) s.b := h.app ⟨hs, rfl, rfl⟩
theorem Ch.split : ∀ {l : List StepV} {a f : Str} {m : List StepV}, Ch S a (l ++ m) f → ∃ x, Ch S a l x ∧ Ch S x m f
  | [], a, f, m, h => ⟨a, rfl, h⟩
  | s :: l, a, f, m, h => by
    obtain ⟨h1, h2, h3⟩ := h
    obtain ⟨x, g1, g2⟩ := Ch.split h3
    exact ⟨x, ⟨h1, h2, g1⟩, g2⟩
theorem Ch.pot (P : Pot S pl) : ∀ {l : List StepV} {a f : Str}, Ch S a l f → pl f - pl a ≤ costL l
  | [], a, f, h => by cases h; rw [costL_nil]; grind
  | s :: l, a, f, h => by
    obtain ⟨h1, h2, h3⟩ := h
    have := Ch.pot P h3
    have := P s h1
    rw [costL_cons, ← h2]
    grind
theorem Ch.ring (P : Pot S pl) {l : List StepV} {a : Str} (h : Ch S a l a) : 0 ≤ costL l := by
  have := h.pot P
  grind
theorem Ch.faces {F : List Str} (hb : ∀ s ∈ S, s.b ∈ F) : ∀ {l : List StepV} {a f : Str}, Ch S a l f → ∀ x ∈ l.map (·.b), x ∈ F
  | [], _, _, _, x, hx => (nomatch hx)
  | s :: l, a, f, h, x, hx => by
    rw [List.map_cons] at hx
    rcases List.mem_cons.mp hx with rfl | hx
    · exact hb s h.1
    · exact Ch.faces hb h.2.2 x hx
end
/-! ### one round -/
structure BF where
  sums : Dic Str Rat
  ways : Dic Str WayV
  last : Option Str
def BF.upd (st : BF) (s : StepV) (t : Rat) : BF := ⟨st.sums.put s.b t, st.ways.put s.b (s.a, s.d), some s.b⟩
def relax (st : BF) (s : StepV) : BF := match st.sums.get? s.a with
  | none => st
  | some x => (match st.sums.get? s.b with
    | none => st.upd s (x + s.c)
    | some y => if x + s.c < y then st.upd s (x + s.c) else st)
def SumsLe (p q : Dic Str Rat) : Prop := ∀ f x, p.get? f = some x → ∃ y, q.get? f = some y ∧ y ≤ x
theorem SumsLe.refl (p : Dic Str Rat) : SumsLe p p := fun _ x h => ⟨x, h, Rat.le_refl⟩
theorem SumsLe.trans {p q r : Dic Str Rat} (h : SumsLe p q) (g : SumsLe q r) : SumsLe p r := fun f x e => by
  obtain ⟨y, e1, l1⟩ := h f x e
  obtain ⟨z, e2, l2⟩ := g f y e1
  exact ⟨z, e2, Rat.le_trans l2 l1⟩
theorem relax_le (st : BF) (s : StepV) : SumsLe st.sums (relax st s).sums := by
  unfold relax
  cases hx : st.sums.get? s.a with
  | none => exact .refl _
  | some x =>
    simp only
    cases hy : st.sums.get? s.b with
    | none =>
      intro f z hz
      show ∃ y, (st.sums.put s.b (x + s.c)).get? f = some y ∧ y ≤ z
      rw [Dic.get_put]
      by_cases hf : f = s.b
      · rw [hf, hy] at hz; cases hz
      · rw [if_neg hf]; exact ⟨z, hz, Rat.le_refl⟩
    | some y =>
      simp only
      split
      · rename_i hlt
        intro f z hz
        show ∃ y, (st.sums.put s.b (x + s.c)).get? f = some y ∧ y ≤ z
        rw [Dic.get_put]
        by_cases hf : f = s.b
        · rw [if_pos hf]
          rw [hf, hy] at hz; cases hz
          exact ⟨_, rfl, Rat.le_of_lt hlt⟩
        · rw [if_neg hf]; exact ⟨z, hz, Rat.le_refl⟩
      · exact .refl _
theorem relax_at (st : BF) (s : StepV) {x : Rat} (h : st.sums.get? s.a = some x) : ∃ y, (relax st s).sums.get? s.b = some y ∧ y ≤ x + s.c := by
  unfold relax
  rw [h]
  simp only
  cases hy : st.sums.get? s.b with
  | none =>
    refine ⟨x + s.c, ?_, Rat.le_refl⟩
    show (st.sums.put s.b (x + s.c)).get? s.b = _
    rw [Dic.get_put, if_pos rfl]
  | some y =>
    simp only
    split
    · refine ⟨x + s.c, ?_, Rat.le_refl⟩
      show (st.sums.put s.b (x + s.c)).get? s.b = _
      rw [Dic.get_put, if_pos rfl]
    · rename_i hn
      exact ⟨y, hy, Rat.not_lt.mp hn⟩
theorem fold_le : ∀ (S : List StepV) (st : BF), SumsLe st.sums (S.foldl relax st).sums
  | [], st => .refl _
  | s :: S, st => (relax_le st s).trans (fold_le S _)
theorem fold_at : ∀ (S : List StepV) (st : BF) {s : StepV} {x : Rat}, s ∈ S → st.sums.get? s.a = some x → ∃ y, (S.foldl relax st).sums.get? s.b = some y ∧ y ≤ x + s.c
  | t :: S, st, s, x, hs, hx => by
    rw [List.foldl_cons]
    rcases List.mem_cons.mp hs with rfl | hs
    · obtain ⟨y, h1, h2⟩ := relax_at st s hx
      obtain ⟨z, h3, h4⟩ := fold_le S _ _ _ h1
      exact ⟨z, h3, Rat.le_trans h4 h2⟩
    · obtain ⟨z, h3, h4⟩ := relax_le st t _ _ hx
      obtain ⟨y, h1, h2⟩ := fold_at S (relax st t) hs h3
      exact ⟨y, h1, by grind⟩
/-- nothing to be made less: nothing is done -/
def Fixed (S : List StepV) (sums : Dic Str Rat) : Prop := ∀ s ∈ S, ∀ x, sums.get? s.a = some x → ∃ y, sums.get? s.b = some y ∧ y ≤ x + s.c
/-! ### the rounds -/
structure Inv (S : List StepV) (start : Str → Prop) (k : Nat) (sums : Dic Str Rat) : Prop where
  real : ∀ f x, sums.get? f = some x → ∃ a l, start a ∧ Ch S a l f ∧ costL l = x
  cover : ∀ a l f, start a → Ch S a l f → l.length ≤ k → ∃ y, sums.get? f = some y ∧ y ≤ costL l
def Real (S : List StepV) (start : Str → Prop) (sums : Dic Str Rat) : Prop := ∀ f x, sums.get? f = some x → ∃ a l, start a ∧ Ch S a l f ∧ costL l = x
theorem real_put {S : List StepV} {start : Str → Prop} {sums : Dic Str Rat} (h : Real S start sums) {s : StepV} (hs : s ∈ S) {x : Rat} (hx : sums.get? s.a = some x) : Real S start (sums.put s.b (x + s.c)) := fun f y hy => by
  rw [Dic.get_put] at hy
  by_cases hf : f = s.b
  · rw [if_pos hf] at hy
    cases hy
    obtain ⟨a, l, h1, h2, h3⟩ := h s.a x hx
    refine ⟨a, l ++ [s], h1, by rw [hf]; exact h2.snoc hs, ?_⟩
    rw [costL_app, costL_cons, costL_nil, h3]; grind
  · rw [if_neg hf] at hy
    exact h f y hy
theorem relax_real {S : List StepV} {start : Str → Prop} {st : BF} (h : Real S start st.sums) {s : StepV} (hs : s ∈ S) : Real S start (relax st s).sums := by
  unfold relax
  cases hx : st.sums.get? s.a with
  | none => exact h
  | some x =>
    simp only
    cases st.sums.get? s.b with
    | none => exact real_put h hs hx
    | some y =>
      simp only
      split
      · exact real_put h hs hx
      · exact h
theorem fold_real {S : List StepV} {start : Str → Prop} : ∀ (T : List StepV), (∀ s ∈ T, s ∈ S) → ∀ {st : BF}, Real S start st.sums → Real S start (T.foldl relax st).sums
  | [], _, _, h => h
  | s :: T, hT, st, h => fold_real T (fun t ht => hT t (List.mem_cons_of_mem _ ht)) (relax_real h (hT s List.mem_cons_self))
theorem Inv.round {S : List StepV} {start : Str → Prop} {k : Nat} {st : BF} (I : Inv S start k st.sums) : Inv S start (k + 1) (S.foldl relax st).sums := by
  refine ⟨fold_real S (fun _ h => h) I.real, fun a l f ha hc hl => ?_⟩
  by_cases hl2 : l.length ≤ k
  · obtain ⟨y, h1, h2⟩ := I.cover a l f ha hc hl2
    obtain ⟨z, h3, h4⟩ := fold_le S st f y h1
    exact ⟨z, h3, Rat.le_trans h4 h2⟩
  · have hne : l ≠ [] := fun e => by rw [e] at hl2; simp at hl2
    have e := List.dropLast_concat_getLast hne
    generalize l.getLast hne = s at e
    have hlen : l.dropLast.length = l.length - 1 := List.length_dropLast
    generalize l.dropLast = m at e hlen
    subst e
    obtain ⟨x, g1, g2⟩ := Ch.split hc
    obtain ⟨hs, rfl, rfl⟩ := g2
    obtain ⟨y, h1, h2⟩ := I.cover a m s.a ha g1 (by omega)
    obtain ⟨z, h3, h4⟩ := fold_at S st hs h1
    refine ⟨z, h3, ?_⟩
    rw [costL_app, costL_cons, costL_nil]
    grind
/-- and then all chains are covered -/
theorem Inv.all {S : List StepV} {start : Str → Prop} {k : Nat} {sums : Dic Str Rat} (I : Inv S start k sums) (h : Fixed S sums) : ∀ (l : List StepV) (a f : Str), start a → Ch S a l f → ∃ y, sums.get? f = some y ∧ y ≤ costL l := by
  have key : ∀ (l : List StepV) (a f : Str) (x : Rat), sums.get? a = some x → Ch S a l f → ∃ y, sums.get? f = some y ∧ y ≤ x + costL l := by
    intro l
    induction l with
    | nil => intro a f x hx hc; cases hc; exact ⟨x, hx, by rw [costL_nil]; grind⟩
    | cons s l ih =>
      intro a f x hx hc
      obtain ⟨h1, rfl, h3⟩ := hc
      obtain ⟨y, g1, g2⟩ := h s h1 x hx
      obtain ⟨z, k1, k2⟩ := ih s.b f y g1 h3
      exact ⟨z, k1, by rw [costL_cons]; grind⟩
  intro l a f ha hc
  obtain ⟨x, h1, h2⟩ := I.cover a [] a ha rfl (Nat.zero_le _)
  obtain ⟨y, g1, g2⟩ := key l a f x h1 hc
  rw [costL_nil] at h2
  exact ⟨y, g1, by grind⟩
end TF


/-! PK2: what the program's steps, rounds and walks tell. -/
namespace TF
open PySem PySem.Spec PyProof.Rows L2 DL FR
open Enc KeyT
def stepsT (t : TieV) : List StepV := (tieSteps t).map fun x => T4.mk x.a x.b x.c (t.name, x.d)
def stepsV (ts : List TieV) : List StepV := ts.flatMap stepsT
theorem tieof_ok {t : TieV} (h : t.Ok) (s : t.Sm) : F_tie_of (enc t) = .ok ⟨t⟩ := by
  unfold F_tie_of
  rw [enc_tie, if_pos (tieIn_tie h s), deTie_tie h]
def Bnd (N B : Nat) (d : Dic Str Rat) : Prop := ∀ f x, d.get? f = some x → Gd N B x
theorem Bnd.put {N B : Nat} {d : Dic Str Rat} (h : Bnd N B d) {k : Str} {x : Rat} (hx : Gd N B x) : Bnd N B (d.put k x) := fun f y hy => by
  rw [Dic.get_put] at hy
  by_cases hf : f = k
  · rw [if_pos hf] at hy; cases hy; exact hx
  · rw [if_neg hf] at hy; exact h f y hy
theorem Bnd.mono {N B B' : Nat} {d : Dic Str Rat} (h : Bnd N B d) (hb : B ≤ B') : Bnd N B' d := fun f x hx => (h f x hx).mono hb
structure Small (N B L : Nat) (st : BF) : Prop where
  bnd : Bnd N B st.sums
  l1 : st.sums.l.length ≤ L
  l2 : st.ways.l.length ≤ L
end TF


/-! PK3: least_places tells places where the ties can be kept. -/
namespace TF
open PySem PySem.Spec PyProof.Rows L2 DL FR
open Enc KeyT
/-- ties that some places keep: their steps, faces and numbers -/
structure Book0 (N C : Nat) (ts : List TieV) (pl : Str → Rat) : Prop where
  ok : ∀ t ∈ ts, t.Ok ∧ t.Sm
  len : ts.length ≤ 100
  P : Pot (stepsV ts) pl
  c : ∀ s ∈ stepsV ts, Gd N C s.c
  Np : 0 < N
  Nb : N ≤ 2 ^ 1500
  C0 : C ≤ 10 ^ 43
  fo : F_faces_of ts = .ok (facesV ts)
  fl : (facesV ts).length ≤ 20
section
variable {N C : Nat} {ts : List TieV} {pl : Str → Rat}
theorem steps_mem {s : StepV} (h : s ∈ stepsV ts) : s.a ∈ facesV ts ∧ s.b ∈ facesV ts := by
  unfold stepsV at h
  obtain ⟨t, ht, hs⟩ := List.mem_flatMap.mp h
  unfold stepsT at hs
  obtain ⟨x, hx, rfl⟩ := List.mem_map.mp hs
  have h1 : t.start ∈ facesV ts := facesV_mem.mpr (List.mem_append_left _ (List.mem_map.mpr ⟨t, ht, rfl⟩))
  have h2 : t.fin ∈ facesV ts := facesV_mem.mpr (List.mem_append_right _ (List.mem_map.mpr ⟨t, ht, rfl⟩))
  unfold tieSteps at hx
  rcases List.mem_append.mp hx with hx | hx
  · cases hh : t.high with
    | none => rw [hh] at hx; exact nomatch hx
    | some u => rw [hh] at hx; rw [List.mem_singleton.mp hx]; exact ⟨h1, h2⟩
  · cases hh : t.low with
    | none => rw [hh] at hx; exact nomatch hx
    | some u => rw [hh] at hx; rw [List.mem_singleton.mp hx]; exact ⟨h2, h1⟩
structure Placed (N : Nat) (ts : List TieV) (sums : Dic Str Rat) : Prop where
  fx : Fixed (stepsV ts) sums
  all : ∀ f ∈ facesV ts, ∃ x, sums.get? f = some x
  bnd : Bnd N (10 ^ 48) sums
end
end TF


/-! PK4: the ways back to the face that is asked from. -/
namespace TF
open PySem PySem.Spec PyProof.Rows L2 DL FR
open Enc KeyT
def Back (ways : Dic Str WayV) (one : Str) : List Str → Str → Prop
  | [], f => f = one
  | g :: l, f => f = g ∧ f ≠ one ∧ ∃ p pr, ways.get? f = some (p, pr) ∧ Back ways one l p
theorem Back.det {ways : Dic Str WayV} {one : Str} : ∀ {l m : List Str} {f : Str}, Back ways one l f → Back ways one m f → l = m
  | [], [], f, _, _ => rfl
  | [], g :: m, f, h, k => absurd h k.2.1
  | g :: l, [], f, h, k => absurd k h.2.1
  | g :: l, g' :: m, f, h, k => by
    obtain ⟨rfl, h1, p, pr, h2, h3⟩ := h
    obtain ⟨rfl, k1, q, qr, k2, k3⟩ := k
    rw [h2] at k2
    cases k2
    rw [Back.det h3 k3]
theorem Back.mem {ways : Dic Str WayV} {one : Str} : ∀ {l : List Str} {f g : Str}, Back ways one l f → g ∈ l → ∃ m, Back ways one m g ∧ m.length ≤ l.length
  | g' :: l, f, g, h, hg => by
    rcases List.mem_cons.mp hg with rfl | hg
    · have := h.1
      subst this
      exact ⟨_, h, Nat.le_refl _⟩
    · obtain ⟨_, _, p, pr, _, h3⟩ := h
      obtain ⟨m, k1, k2⟩ := Back.mem h3 hg
      exact ⟨m, k1, by rw [List.length_cons]; omega⟩
theorem Back.nd {ways : Dic Str WayV} {one : Str} : ∀ {l : List Str} {f : Str}, Back ways one l f → l.Nodup
  | [], _, _ => List.nodup_nil
  | g :: l, f, h => by
    have h0 := h
    obtain ⟨rfl, h1, p, pr, h2, h3⟩ := h
    refine List.nodup_cons.mpr ⟨fun hm => ?_, Back.nd h3⟩
    obtain ⟨m, k1, k2⟩ := Back.mem h3 hm
    have := congrArg List.length (Back.det h0 k1)
    rw [List.length_cons] at this
    omega
theorem Back.keys {ways : Dic Str WayV} {one : Str} : ∀ {l : List Str} {f : Str}, Back ways one l f → ∀ g ∈ l, g ∈ ways.keys
  | g' :: l, f, h, g, hg => by
    obtain ⟨rfl, h1, p, pr, h2, h3⟩ := h
    rcases List.mem_cons.mp hg with rfl | hg
    · exact Dic.isSome_iff.mp (by rw [h2]; rfl)
    · exact Back.keys h3 g hg
structure WI (S : List StepV) (one : Str) (st : BF) : Prop where
  wk : ∀ f p pr, st.ways.get? f = some (p, pr) → ∃ s ∈ S, ∃ y x, s.a = p ∧ s.b = f ∧ s.d = pr ∧ st.sums.get? p = some y ∧ st.sums.get? f = some x ∧ y + s.c ≤ x
  s1 : ∃ z, st.sums.get? one = some z
  bk : ∀ f x, st.sums.get? f = some x → ∃ l, Back st.ways one l f
section
variable {S : List StepV} {one : Str} {st : BF}
theorem WI.anc (W : WI S one st) : ∀ {l : List Str} {f b : Str} {x : Rat}, Back st.ways one l f → st.sums.get? f = some x → (b ∈ l ∨ b = one) → ∃ z m, st.sums.get? b = some z ∧ Ch S b m f ∧ z + costL m ≤ x
  | [], f, b, x, h, hx, hb => by
    have e : f = one := h
    rcases hb with hb | hb
    · exact nomatch hb
    · rw [e] at hx ⊢
      rw [hb]
      exact ⟨x, [], hx, rfl, by rw [costL_nil]; grind⟩
  | g :: l, f, b, x, h, hx, hb => by
    obtain ⟨rfl, h1, p, pr, h2, h3⟩ := h
    by_cases hbf : b = f
    · subst hbf
      exact ⟨x, [], hx, rfl, by rw [costL_nil]; grind⟩
    · obtain ⟨s, hs, y, x', rfl, e2, e3, e4, e5, e6⟩ := W.wk f p pr h2
      rw [hx] at e5; cases e5
      have hb' : b ∈ l ∨ b = one := hb.imp_left fun h => (List.mem_cons.mp h).resolve_left hbf
      obtain ⟨z, m, k1, k2, k3⟩ := WI.anc W h3 e4 hb'
      refine ⟨z, m ++ [s], k1, ?_, ?_⟩
      · rw [← e2]; exact k2.snoc hs
      · rw [costL_app, costL_cons, costL_nil]; grind
theorem back_keep {ways : Dic Str WayV} {b : Str} {w : WayV} : ∀ {l : List Str} {f : Str}, Back ways one l f → b ∉ l → Back (ways.put b w) one l f
  | [], f, h, _ => h
  | g :: l, f, h, hb => by
    obtain ⟨rfl, h1, p, pr, h2, h3⟩ := h
    rw [List.mem_cons, not_or] at hb
    refine ⟨rfl, h1, p, pr, ?_, back_keep h3 hb.2⟩
    rw [Dic.get_put, if_neg (fun e => hb.1 e.symm)]; exact h2
theorem back_turn {ways : Dic Str WayV} {b a : Str} {d : Str × Bool} (hb : b ≠ one) {la : List Str} (ha : Back (ways.put b (a, d)) one la a) : ∀ {l : List Str} {f : Str}, Back ways one l f → ∃ l', Back (ways.put b (a, d)) one l' f
  | [], f, h => ⟨[], h⟩
  | g :: l, f, h => by
    obtain ⟨rfl, h1, p, pr, h2, h3⟩ := h
    by_cases hf : f = b
    · subst hf
      exact ⟨f :: la, rfl, h1, a, d, by rw [Dic.get_put, if_pos rfl], ha⟩
    · obtain ⟨l', k⟩ := back_turn hb ha h3
      exact ⟨f :: l', rfl, h1, p, pr, by rw [Dic.get_put, if_neg hf]; exact h2, k⟩
theorem WI.upd {pl : Str → Rat} (P : Pot S pl) (W : WI S one st) {s : StepV} (hs : s ∈ S) {x : Rat} (hx : st.sums.get? s.a = some x) (hy : ∀ y, st.sums.get? s.b = some y → x + s.c < y) : WI S one (st.upd s (x + s.c)) := by
  obtain ⟨la, hla⟩ := W.bk s.a x hx
  have no : ¬ (s.b ∈ la ∨ s.b = one) := fun hb => by
    obtain ⟨z, m, h1, h2, h3⟩ := W.anc hla hx hb
    have := (h2.snoc hs).ring P
    rw [costL_app, costL_cons, costL_nil] at this
    have := hy z h1
    grind
  rw [not_or] at no
  have hab : s.a ≠ s.b := fun e => by
    have h2 : Ch S s.b [s] s.b := ⟨hs, e, rfl⟩
    have := h2.ring P
    rw [costL_cons, costL_nil] at this
    rw [e] at hx
    have := hy x hx
    grind
  have ha2 := back_keep (b := s.b) (w := (s.a, s.d)) hla no.1
  have gs : ∀ f, (st.upd s (x + s.c)).sums.get? f = if f = s.b then some (x + s.c) else st.sums.get? f := fun f => Dic.get_put ..
  have gw : ∀ f, (st.upd s (x + s.c)).ways.get? f = if f = s.b then some (s.a, s.d) else st.ways.get? f := fun f => Dic.get_put ..
  refine ⟨fun f p pr hw => ?_, ?_, fun f z hz => ?_⟩
  · rw [gw] at hw
    by_cases hf : f = s.b
    · rw [if_pos hf] at hw
      cases hw
      exact ⟨s, hs, x, x + s.c, rfl, hf.symm, rfl, by rw [gs, if_neg hab]; exact hx, by rw [gs, if_pos hf], Rat.le_refl⟩
    · rw [if_neg hf] at hw
      obtain ⟨t, ht, y, z, e1, e2, e3, e4, e5, e6⟩ := W.wk f p pr hw
      by_cases hp : p = s.b
      · rw [hp] at e4
        exact ⟨t, ht, x + s.c, z, e1, e2, e3, by rw [gs, if_pos hp], by rw [gs, if_neg hf]; exact e5, by have := hy y e4; grind⟩
      · exact ⟨t, ht, y, z, e1, e2, e3, by rw [gs, if_neg hp]; exact e4, by rw [gs, if_neg hf]; exact e5, e6⟩
  · obtain ⟨z, hz⟩ := W.s1
    exact ⟨z, by rw [gs, if_neg (Ne.symm no.2)]; exact hz⟩
  · rw [gs] at hz
    by_cases hf : f = s.b
    · rw [hf]
      exact ⟨s.b :: la, rfl, no.2, s.a, s.d, by rw [gw, if_pos rfl], ha2⟩
    · rw [if_neg hf] at hz
      obtain ⟨l, hl⟩ := W.bk f z hz
      exact back_turn no.2 ha2 hl
theorem WI.relax {pl : Str → Rat} (P : Pot S pl) (W : WI S one st) {s : StepV} (hs : s ∈ S) : WI S one (relax st s) := by
  unfold TF.relax
  cases hx : st.sums.get? s.a with
  | none => exact W
  | some x =>
    simp only
    cases hy : st.sums.get? s.b with
    | none => exact W.upd P hs hx fun y h => by rw [hy] at h; cases h
    | some y =>
      simp only
      split
      · rename_i hlt
        exact W.upd P hs hx fun y' h => by rw [hy] at h; cases h; exact hlt
      · exact W
end
def prOf (ways : Dic Str WayV) (g : Str) : Str × Bool := match ways.get? g with
  | some w => w.2
  | none => (g, true)
theorem Back.ne {ways : Dic Str WayV} {one : Str} : ∀ {l : List Str} {f : Str}, Back ways one l f → one ∉ l
  | [], _, _ => by simp
  | g :: l, f, h => by
    obtain ⟨rfl, h1, p, pr, h2, h3⟩ := h
    rw [List.mem_cons, not_or]
    exact ⟨fun e => h1 e.symm, Back.ne h3⟩
end TF


/-! PK5: reached tells the least sums. -/
namespace TF
open PySem PySem.Spec PyProof.Rows L2 DL FR
open Enc KeyT
theorem Ch.end_ {S : List StepV} {F : List Str} (hb : ∀ s ∈ S, s.b ∈ F) : ∀ {l : List StepV} {a f : Str}, a ∈ F → Ch S a l f → f ∈ F
  | [], a, f, ha, h => by cases h; exact ha
  | s :: l, a, f, _, h => Ch.end_ hb (hb s h.1) h.2.2
/-- the least sums from a face -/
structure Reach (N : Nat) (ts : List TieV) (one : Str) (D : Dic Str Rat) : Prop where
  fx : Fixed (stepsV ts) D
  real : ∀ f x, D.get? f = some x → ∃ l, Ch (stepsV ts) one l f ∧ costL l = x
  all : ∀ l f, Ch (stepsV ts) one l f → ∃ y, D.get? f = some y ∧ y ≤ costL l
  bnd : Bnd N (10 ^ 48) D
  nd : D.keys.Nodup
structure RSt (N : Nat) (ts : List TieV) (one : Str) (D : Dic Str Rat) (ways : Dic Str WayV) : Prop where
  R : Reach N ts one D
  W : WI (stepsV ts) one ⟨D, ways, none⟩
  len : ways.l.length ≤ 6000
section
variable {N C : Nat} {ts : List TieV} {pl : Str → Rat} {one : Str}
theorem Reach.face {D : Dic Str Rat} (R : Reach N ts one D) (h1 : one ∈ facesV ts) {f : Str} {x : Rat} (h : D.get? f = some x) : f ∈ facesV ts := by
  obtain ⟨l, hl, _⟩ := R.real f x h
  exact hl.end_ (fun s hs => (steps_mem hs).2) h1
theorem Reach.zero {D : Dic Str Rat} (R : Reach N ts one D) (P : Pot (stepsV ts) pl) : D.get? one = some 0 := by
  obtain ⟨y, h1, h2⟩ := R.all [] one rfl
  obtain ⟨l, h3, h4⟩ := R.real one y h1
  have := h3.ring P
  rw [costL_nil] at h2
  rw [h1]
  congr 1
  grind
end
end TF


/-! PK6: what a book tells: places, gaps. -/
namespace TF
open PySem PySem.Spec PyProof.Rows L2 DL FR
open Enc KeyT
section
variable {N C : Nat} {ts : List TieV} {pl : Str → Rat} {one other : Str}
end
end TF


/-! PK7: how far faces not reached are moved. -/
namespace TF
open PySem PySem.Spec PyProof.Rows L2 DL FR
open Enc KeyT
section
variable {N C : Nat} {ts : List TieV} {pl : Str → Rat} {one other : Str}
end
end TF


/-! PK8: what is shown; narrowed ties; books made. -/
namespace TF
open PySem PySem.Spec PyProof.Rows L2 DL FR
open Enc KeyT
section
variable {N C : Nat} {ts : List TieV} {pl : Str → Rat} {one other : Str}
structure Made (N : Nat) (ts : List TieV) (v : Str → Rat) : Prop where
  pot : Pot (stepsV ts) v
  gd : ∀ f ∈ facesV ts, Gd N (10 ^ 49) (v f)
def plV (ts : List TieV) (v : Str → Rat) : List (Str × Rat) := (facesV ts).map fun f => (f, v f)
/-! ### narrowed -/
/-! steps of ties -/
theorem mem_steps {s : StepV} : s ∈ stepsV ts ↔ ∃ t ∈ ts, (∃ u, t.high = some u ∧ s = ⟨t.start, t.fin, u, (t.name, true)⟩) ∨ ∃ u, t.low = some u ∧ s = ⟨t.fin, t.start, -u, (t.name, false)⟩ := by
  unfold stepsV stepsT tieSteps
  rw [List.mem_flatMap]
  constructor
  · rintro ⟨t, ht, hs⟩
    refine ⟨t, ht, ?_⟩
    obtain ⟨x, hx, rfl⟩ := List.mem_map.mp hs
    rcases List.mem_append.mp hx with hx | hx
    · cases hh : t.high with
      | none => rw [hh] at hx; exact nomatch hx
      | some u => rw [hh] at hx; rw [List.mem_singleton.mp hx]; exact .inl ⟨u, rfl, rfl⟩
    · cases hh : t.low with
      | none => rw [hh] at hx; exact nomatch hx
      | some u => rw [hh] at hx; rw [List.mem_singleton.mp hx]; exact .inr ⟨u, rfl, rfl⟩
  · rintro ⟨t, ht, ⟨u, hu, rfl⟩ | ⟨u, hu, rfl⟩⟩
    · refine ⟨t, ht, List.mem_map.mpr ⟨⟨t.start, t.fin, u, true⟩, List.mem_append_left _ ?_, rfl⟩⟩
      rw [hu]; exact List.mem_singleton.mpr rfl
    · refine ⟨t, ht, List.mem_map.mpr ⟨⟨t.fin, t.start, -u, false⟩, List.mem_append_right _ ?_, rfl⟩⟩
      rw [hu]; exact List.mem_singleton.mpr rfl
theorem holds_pot {v : Str → Rat} : (∀ t ∈ ts, tieHolds t (v t.fin - v t.start) = true) ↔ Pot (stepsV ts) v := by
  constructor
  · intro h s hs
    obtain ⟨t, ht, ⟨u, hu, rfl⟩ | ⟨u, hu, rfl⟩⟩ := mem_steps.mp hs
    · have := h t ht
      unfold tieHolds at this
      rw [hu] at this
      simp only [Bool.and_eq_true, decide_eq_true_eq] at this
      simp only
      exact this.2
    · have := h t ht
      unfold tieHolds at this
      rw [hu] at this
      simp only [Bool.and_eq_true, decide_eq_true_eq] at this
      simp only
      have := this.1
      grind
  · intro h t ht
    unfold tieHolds
    rw [Bool.and_eq_true]
    constructor
    · cases hl : t.low with
      | none => rfl
      | some u =>
        have := h _ (mem_steps.mpr ⟨t, ht, .inr ⟨u, hl, rfl⟩⟩)
        simp only at this ⊢
        exact decide_eq_true (by grind)
    · cases hl : t.high with
      | none => rfl
      | some u =>
        have := h _ (mem_steps.mpr ⟨t, ht, .inl ⟨u, hl, rfl⟩⟩)
        simp only at this ⊢
        exact decide_eq_true (by grind)
/-! ### faces, books made -/
theorem facesV_len' {F : List Str} (h : ∀ f ∈ faceL ts, f ∈ F) : (facesV ts).length ≤ F.length := nodup_sub_len (facesV_nd ts) fun f hf => h f (facesV_mem.mp hf)
theorem sortSet_ok' {F : List Str} (h : ∀ f ∈ faceL ts, f ∈ F) (hF : F.length ≤ 60) (hl : ts.length ≤ 1000) : sortSetR (faceL ts) = .ok (facesV ts) := by
  unfold sortSetR
  have h1 := nodup_sub_len (dedS_nd (faceL ts)) (m := F) fun f hf => h f (dedS_mem.mp hf)
  have h3 : (faceL ts).length ≤ 2000 := by unfold faceL; rw [List.length_append, List.length_map, List.length_map]; omega
  rw [if_pos ⟨by omega, by omega⟩]; rfl
theorem faces_of_ok {F : List Str} (h : ∀ f ∈ faceL ts, f ∈ F) (hF : F.length ≤ 60) (hl : ts.length ≤ 1000) : F_faces_of ts = .ok (facesV ts) := by
  unfold F_faces_of
  simp only [R.ok_bind, R.exc_bind, R.bad_bind, R.bind_assoc, R.noexc_ok, R.b2, R.map, R.cond, R.flow, addI, subI, andB, orB, unw_some, unw_none, few_nil, ofRat, isCls, Option.isNone_none, Option.isNone_some, Bool.not_true, Bool.not_false, Bool.false_eq_true, if_true, if_false]
  rw [compR_map (fun t : TieV => t.start) ts (fun _ _ => rfl) (by omega), R.noexc_ok, R.ok_bind, compR_map (fun t : TieV => t.fin) ts (fun _ _ => rfl) (by omega), R.noexc_ok, R.ok_bind, few_ok (by rw [List.length_append, List.length_map, List.length_map]; omega), R.ok_bind]
  exact sortSet_ok' h hF hl
end
end TF


/-! PK9: drawn ties whose bounds drawn places keep. -/
namespace TF
open PySem PySem.Spec PyProof.Rows L2 DL FR
open Enc KeyT
def plF (F : List Str) (pl : List Rat) (f : Str) : Rat := pl.getD (F.findIdx (· == f)) 0
section
variable {F : List Str} {pl : List Rat} {N B : Nat}
structure TiG (F : List Str) (pl : List Rat) (N B : Nat) (t : TieV) : Prop where
  ok : t.Ok
  s : t.start ∈ F.take pl.length
  f : t.fin ∈ F.take pl.length
  keep : tieHolds t (plF F pl t.fin - plF F pl t.start) = true
  lo : ∀ q, t.low = some q → Gd N B q
  hi : ∀ q, t.high = some q → Gd N B q
theorem TiG.sm {t : TieV} (h : TiG F pl N B t) (hB : B ≤ 10 ^ 50) (Np : 0 < N) (Nb : N ≤ 10 ^ 60) : t.Sm := ⟨fun q e => smN (h.lo q e) hB Np Nb, fun q e => smN (h.hi q e) hB Np Nb⟩
structure TisG (F : List Str) (pl : List Rat) (N B : Nat) (ts : List TieV) : Prop where
  ok : ∀ t ∈ ts, TiG F pl N B t
  len : ts.length ≤ 100
  fl : F.length ≤ 20
  B0 : B ≤ 10 ^ 43
  Np : 0 < N
  Nb : N ≤ 10 ^ 60
variable {ts : List TieV}
theorem TisG.fn (T : TisG F pl N B ts) : ∀ f ∈ faceL ts, f ∈ F.take pl.length := fun f hf => by
  unfold faceL at hf
  rcases List.mem_append.mp hf with hf | hf
  · obtain ⟨t, ht, rfl⟩ := List.mem_map.mp hf; exact (T.ok t ht).s
  · obtain ⟨t, ht, rfl⟩ := List.mem_map.mp hf; exact (T.ok t ht).f
theorem TisG.okSm (T : TisG F pl N B ts) : ∀ t ∈ ts, t.Ok ∧ t.Sm := fun t ht => ⟨(T.ok t ht).ok, (T.ok t ht).sm (Nat.le_trans T.B0 (by decide)) T.Np T.Nb⟩
theorem TisG.book (T : TisG F pl N B ts) : Book0 N B ts (plF F pl) where
  ok := T.okSm
  len := T.len
  P := holds_pot.mp fun t ht => (T.ok t ht).keep
  c s hs := by
    obtain ⟨t, ht, ⟨u, hu, rfl⟩ | ⟨u, hu, rfl⟩⟩ := mem_steps.mp hs
    · exact (T.ok t ht).hi u hu
    · exact ((T.ok t ht).lo u hu).neg
  Np := T.Np
  Nb := nbW T.Nb
  C0 := T.B0
  fo := faces_of_ok (F := F) (fun f hf => List.mem_of_mem_take (T.fn f hf)) (by have := T.fl; omega) (by have := T.len; omega)
  fl := Nat.le_trans (facesV_len' (F := F) fun f hf => List.mem_of_mem_take (T.fn f hf)) T.fl
end
end TF


/-! PKA: the laws' own steps and walks of chains; lists that no address holds both of. -/
namespace TF
open PySem PySem.Spec PyProof.Rows L2 DL FR
open Enc KeyT
section
variable {N C : Nat} {ts : List TieV} {pl : Str → Rat} {one other : Str}
theorem Ch.sub {S : List StepV} : ∀ {m : List StepV} {a f : Str}, Ch S a m f → ∀ s ∈ m, s ∈ S
  | [], _, _, _, _, hs => (nomatch hs)
  | t :: m, _, _, h, s, hs => by
    obtain ⟨h1, _, h3⟩ := h
    rcases List.mem_cons.mp hs with rfl | hs
    · exact h1
    · exact Ch.sub h3 s hs
end
/-! ### lists of unlike content -/
end TF


/-! PKB: a book of ties made of a tree's parts, each with room on both sides. -/
namespace TF
open PySem PySem.Spec PyProof.Rows L2 DL FR
open Enc KeyT
/-! sums over some names -/
def fsum (p : Str → Bool) (x : Str → Rat) : List Str → Rat
  | [] => 0
  | n :: l => (if p n then x n else 0) + fsum p x l
section
variable {ps : List PartV} {ks : List Str} {root : Str → Str} {pos : Str → Rat} {ch : Str → List Str} {x : Str → Rat}
/-- the rooms on the way from a face to a face -/
def apart (ps : List PartV) (ch : Str → List Str) (x : Str → Rat) (f g : Str) : Rat := fsum (fun n => decide (n ∈ ch f) != decide (n ∈ ch g)) x (ps.map (·.name))
end
/-! parts made between their bounds -/
end TF


/-! PKC: rings below nought. -/
namespace TF
open PySem PySem.Spec PyProof.Rows L2 DL FR
open Enc KeyT
/-- a step that stands in the ways -/
def Rec (w : Dic Str WayV) (s : StepV) : Prop := w.get? s.b = some (s.a, s.d)
structure NI (S : List StepV) (st : BF) : Prop where
  wk : ∀ f p pr, st.ways.get? f = some (p, pr) → ∃ s ∈ S, s.a = p ∧ s.b = f ∧ s.d = pr
  le : ∀ s ∈ S, Rec st.ways s → ∃ y x, st.sums.get? s.a = some y ∧ st.sums.get? s.b = some x ∧ y + s.c ≤ x
  ring : ∀ a m, Ch S a m a → m ≠ [] → (∀ s ∈ m, Rec st.ways s) → (m.map (·.b)).Nodup → costL m < 0
section
variable {S : List StepV} {st : BF}
theorem d_uniq : ∀ {S : List StepV}, (S.map (·.d)).Nodup → ∀ {s s' : StepV}, s ∈ S → s' ∈ S → s.d = s'.d → s = s'
  | [], _, _, _, h, _, _ => (nomatch h)
  | x :: S, nd, s, s', h, h', e => by
    rw [List.map_cons, List.nodup_cons] at nd
    rcases List.mem_cons.mp h with h1 | h1
    · rcases List.mem_cons.mp h' with h2 | h2
      · rw [h1, h2]
      · exact absurd (List.mem_map.mpr ⟨s', h2, by rw [← e, h1]⟩) nd.1
    · rcases List.mem_cons.mp h' with h2 | h2
      · exact absurd (List.mem_map.mpr ⟨s, h1, by rw [e, h2]⟩) nd.1
      · exact d_uniq nd.2 h1 h2 e
theorem NI.tele (N : NI S st) : ∀ {r : List StepV} {f g : Str} {y : Rat}, Ch S f r g → (∀ s ∈ r, Rec st.ways s) → st.sums.get? f = some y → ∃ x, st.sums.get? g = some x ∧ y + costL r ≤ x
  | [], f, g, y, h, _, hy => by
    obtain rfl : f = g := h
    exact ⟨y, hy, by rw [costL_nil]; grind⟩
  | s :: r, f, g, y, h, hr, hy => by
    obtain ⟨hs, rfl, hc⟩ := h
    obtain ⟨y', x', e1, e2, e3⟩ := N.le s hs (hr s List.mem_cons_self)
    rw [e1] at hy; cases hy
    obtain ⟨x, e4, e5⟩ := NI.tele N hc (fun s' h' => hr s' (List.mem_cons_of_mem _ h')) e2
    exact ⟨x, e4, by rw [costL_cons]; grind⟩
theorem NI.upd (nd : (S.map (·.d)).Nodup) (N : NI S st) {s : StepV} (hs : s ∈ S) (hne : s.a ≠ s.b) {x y : Rat} (hx : st.sums.get? s.a = some x) (hy : st.sums.get? s.b = some y) (lt : x + s.c < y) : NI S (st.upd s (x + s.c)) := by
  have wn : ∀ f, (st.upd s (x + s.c)).ways.get? f = if f = s.b then some (s.a, s.d) else st.ways.get? f := fun f => Dic.get_put ..
  have sn : ∀ f, (st.upd s (x + s.c)).sums.get? f = if f = s.b then some (x + s.c) else st.sums.get? f := fun f => Dic.get_put ..
  have recB : ∀ s' ∈ S, Rec (st.upd s (x + s.c)).ways s' → s'.b = s.b → s' = s := fun s' hs' h e => by
    unfold Rec at h
    rw [wn, if_pos e] at h
    injection h with h
    have := (Prod.mk.inj h).2
    exact d_uniq nd hs' hs this.symm
  have recN : ∀ s' : StepV, Rec (st.upd s (x + s.c)).ways s' → s'.b ≠ s.b → Rec st.ways s' := fun s' h e => by
    unfold Rec at h ⊢
    rw [wn, if_neg e] at h
    exact h
  refine ⟨fun f p pr h => ?_, fun s' hs' h => ?_, fun a m hc hm hr hn => ?_⟩
  · rw [wn] at h
    by_cases e : f = s.b
    · rw [if_pos e] at h
      injection h with h
      obtain ⟨h1, h2⟩ := Prod.mk.inj h
      exact ⟨s, hs, h1, e.symm, h2⟩
    · rw [if_neg e] at h
      exact N.wk f p pr h
  · by_cases e : s'.b = s.b
    · have := recB s' hs' h e
      subst this
      exact ⟨x, x + s'.c, by rw [sn, if_neg hne]; exact hx, by rw [sn, if_pos rfl], Rat.le_refl⟩
    · obtain ⟨y', x', e1, e2, e3⟩ := N.le s' hs' (recN s' h e)
      by_cases e4 : s'.a = s.b
      · rw [e4, hy] at e1; cases e1
        exact ⟨x + s.c, x', by rw [sn, if_pos e4], by rw [sn, if_neg e]; exact e2, by grind⟩
      · exact ⟨y', x', by rw [sn, if_neg e4]; exact e1, by rw [sn, if_neg e]; exact e2, e3⟩
  · by_cases hb : s.b ∈ m.map (·.b)
    · obtain ⟨s', hs', e⟩ := List.mem_map.mp hb
      obtain ⟨p, q, rfl⟩ := List.append_of_mem hs'
      have hS := hc.sub
      have es := recB s' (hS s' (by simp)) (hr s' (by simp)) e
      subst es
      obtain ⟨z, c1, c2⟩ := hc.split
      obtain ⟨_, ez, c3⟩ := c2
      subst ez
      rw [List.map_append, List.map_cons] at hn
      have hn2 := List.nodup_append.mp hn
      have hn3 := List.nodup_cons.mp hn2.2.1
      have c4 := c3.app c1
      have rr : ∀ t ∈ q ++ p, Rec st.ways t := fun t ht => by
        refine recN t (hr t ?_) fun e => ?_
        · rcases List.mem_append.mp ht with h | h
          · simp [h]
          · simp [h]
        · rcases List.mem_append.mp ht with h | h
          · exact hn3.1 (by rw [← e]; exact List.mem_map.mpr ⟨t, h, rfl⟩)
          · exact hn2.2.2 _ (List.mem_map.mpr ⟨t, h, rfl⟩) _ List.mem_cons_self e
      obtain ⟨x', e5, e6⟩ := N.tele c4 rr hy
      rw [hx] at e5; cases e5
      rw [costL_app] at e6
      rw [costL_app, costL_cons]
      grind
    · exact N.ring a m hc hm (fun t ht => recN t (hr t ht) fun e => hb (by rw [← e]; exact List.mem_map.mpr ⟨t, ht, rfl⟩)) hn
def LeS (st : BF) (s : StepV) : Prop := ∃ x y, st.sums.get? s.a = some x ∧ st.sums.get? s.b = some y ∧ y ≤ x + s.c
/-- when each face became less: t; round k, T done, U to do -/
structure LB (k : Nat) (T U : List StepV) (st : BF) (t : Str → Nat) : Prop where
  ge : ∀ f p pr, st.ways.get? f = some (p, pr) → 1 ≤ t f ∧ t f ≤ t p + 1
  way : ∀ f, 1 ≤ t f → ∃ w, st.ways.get? f = some w
  tk : ∀ f, t f ≤ k
  done : ∀ s ∈ T, t s.a < k → LeS st s
  todo : ∀ s ∈ U, t s.a + 1 < k → LeS st s
  last : ∀ f, st.last = some f → t f = k
theorem LB.step {k : Nat} {T U : List StepV} {t : Str → Nat} {s : StepV} (L : LB k T (s :: U) st t) (hk : 1 ≤ k) (hne : s.a ≠ s.b) {x y : Rat} (hx : st.sums.get? s.a = some x) (hy : st.sums.get? s.b = some y) : ∃ t', LB k (T ++ [s]) U (relax st s) t' := by
  unfold relax
  rw [hx, hy]
  simp only
  split
  · rename_i lt
    have wn : ∀ f, (st.upd s (x + s.c)).ways.get? f = if f = s.b then some (s.a, s.d) else st.ways.get? f := fun f => Dic.get_put ..
    have sn : ∀ f, (st.upd s (x + s.c)).sums.get? f = if f = s.b then some (x + s.c) else st.sums.get? f := fun f => Dic.get_put ..
    have keep : ∀ s' : StepV, s'.a ≠ s.b → LeS st s' → LeS (st.upd s (x + s.c)) s' := fun s' h ⟨x', y', e1, e2, e3⟩ => by
      by_cases e : s'.b = s.b
      · rw [e, hy] at e2; cases e2
        exact ⟨x', x + s.c, by rw [sn, if_neg h]; exact e1, by rw [sn, if_pos e], by grind⟩
      · exact ⟨x', y', by rw [sn, if_neg h]; exact e1, by rw [sn, if_neg e]; exact e2, e3⟩
    have tg : k ≤ t s.a + 1 := by
      rcases Nat.lt_or_ge (t s.a + 1) k with h | h
      · obtain ⟨x', y', e1, e2, e3⟩ := L.todo s List.mem_cons_self h
        rw [hx] at e1; cases e1
        rw [hy] at e2; cases e2
        grind
      · exact h
    refine ⟨fun f => if f = s.b then k else t f, ⟨fun f p pr h => ?_, fun f h => ?_, fun f => ?_, fun s' hs' h => ?_, fun s' hs' h => ?_, fun f h => ?_⟩⟩
    · rw [wn] at h
      have mono : ∀ g, t g ≤ (if g = s.b then k else t g) := fun g => by
        split
        · exact L.tk g
        · exact Nat.le_refl _
      by_cases e : f = s.b
      · rw [if_pos e] at h ⊢
        injection h with h
        have h1 := (Prod.mk.inj h).1
        subst h1
        rw [if_neg hne]
        exact ⟨hk, tg⟩
      · rw [if_neg e] at h ⊢
        obtain ⟨h1, h2⟩ := L.ge f p pr h
        exact ⟨h1, Nat.le_trans h2 (Nat.succ_le_succ (mono p))⟩
    · rw [wn]
      by_cases e : f = s.b
      · rw [if_pos e]; exact ⟨_, rfl⟩
      · rw [if_neg e] at h ⊢
        exact L.way f h
    · show (if f = s.b then k else t f) ≤ k
      split
      · exact Nat.le_refl _
      · exact L.tk f
    · have ne : s'.a ≠ s.b := fun e => by simp only [if_pos e] at h; omega
      simp only [if_neg ne] at h
      rcases List.mem_append.mp hs' with q | q
      · exact keep s' ne (L.done s' q h)
      · rw [List.mem_singleton.mp q]
        exact ⟨x, x + s.c, by rw [sn, if_neg hne]; exact hx, by rw [sn, if_pos rfl], Rat.le_refl⟩
    · have ne : s'.a ≠ s.b := fun e => by simp only [if_pos e] at h; omega
      simp only [if_neg ne] at h
      exact keep s' ne (L.todo s' (List.mem_cons_of_mem _ hs') h)
    · have : s.b = f := Option.some.inj h
      simp only [this, if_true]
  · rename_i nlt
    refine ⟨t, ⟨L.ge, L.way, L.tk, fun s' hs' h => ?_, fun s' hs' h => L.todo s' (List.mem_cons_of_mem _ hs') h, L.last⟩⟩
    rcases List.mem_append.mp hs' with q | q
    · exact L.done s' q h
    · rw [List.mem_singleton.mp q]
      exact ⟨x, y, hx, hy, Rat.not_lt.mp nlt⟩
/-- what stands in every round -/
structure RI (S : List StepV) (F : List Str) (st : BF) : Prop where
  N : NI S st
  all : ∀ f ∈ F, ∃ x, st.sums.get? f = some x
  ks : st.sums.keys = F
theorem RI.relax {F : List Str} (nd : (S.map (·.d)).Nodup) (R : RI S F st) {s : StepV} (hs : s ∈ S) (hne : s.a ≠ s.b) {x y : Rat} (hx : st.sums.get? s.a = some x) (hy : st.sums.get? s.b = some y) : RI S F (relax st s) := by
  unfold TF.relax
  rw [hx, hy]
  simp only
  split
  · rename_i lt
    refine ⟨R.N.upd nd hs hne hx hy lt, fun f hf => ?_, ?_⟩
    · show ∃ z, (st.sums.put s.b (x + s.c)).get? f = some z
      rw [Dic.get_put]
      split
      · exact ⟨_, rfl⟩
      · exact R.all f hf
    · show (st.sums.put s.b (x + s.c)).keys = F
      rw [Dic.keys_put_old (Dic.isSome_iff.mp (by rw [hy]; rfl))]
      exact R.ks
  · exact R
theorem LB.round {F : List Str} {k : Nat} (nd : (S.map (·.d)).Nodup) (hk : 1 ≤ k) (hF : ∀ s ∈ S, s.a ∈ F ∧ s.b ∈ F ∧ s.a ≠ s.b) : ∀ (U T : List StepV) {st : BF} {t : Str → Nat}, (∀ s ∈ U, s ∈ S) → RI S F st → LB k T U st t → ∃ t', RI S F (U.foldl TF.relax st) ∧ LB k (T ++ U) [] (U.foldl TF.relax st) t'
  | [], T, st, t, _, R, L => ⟨t, R, by rw [List.append_nil]; exact L⟩
  | s :: U, T, st, t, hU, R, L => by
    obtain ⟨f1, f2, f3⟩ := hF s (hU s List.mem_cons_self)
    obtain ⟨x, hx⟩ := R.all _ f1
    obtain ⟨y, hy⟩ := R.all _ f2
    obtain ⟨t1, L1⟩ := L.step hk f3 hx hy
    have := LB.round nd hk hF U (T ++ [s]) (fun s' h => hU s' (List.mem_cons_of_mem _ h)) (R.relax nd (hU s List.mem_cons_self) f3 hx hy) L1
    rw [List.append_assoc, List.singleton_append] at this
    exact this
theorem LB.next {k : Nat} {t : Str → Nat} (L : LB k S [] st t) : LB (k + 1) [] S ⟨st.sums, st.ways, none⟩ t :=
  ⟨L.ge, L.way, fun f => Nat.le_succ_of_le (L.tk f), fun _ h => (nomatch h), fun s hs h => L.done s hs (by omega), fun _ h => (nomatch h)⟩
/-- the walk back -/
def Pd (w : Dic Str WayV) : Str → List Str → Str → Prop
  | f, [], e => f = e
  | f, h :: l, e => h = f ∧ ∃ g d, w.get? f = some (g, d) ∧ Pd w g l e
theorem Pd.snoc {w : Dic Str WayV} : ∀ {l : List Str} {f e g : Str} {d : Str × Bool}, Pd w f l e → w.get? e = some (g, d) → Pd w f (l ++ [e]) g
  | [], f, e, g, d, h, hw => by
    obtain rfl : f = e := h
    exact ⟨rfl, g, d, hw, rfl⟩
  | h :: l, f, e, g, d, hp, hw => by
    obtain ⟨rfl, g', d', h1, h2⟩ := hp
    exact ⟨rfl, g', d', h1, Pd.snoc h2 hw⟩
theorem Pd.split {w : Dic Str WayV} : ∀ {p q : List Str} {f e : Str}, Pd w f (p ++ q) e → ∃ x, Pd w f p x ∧ Pd w x q e
  | [], q, f, e, h => ⟨f, rfl, h⟩
  | h :: p, q, f, e, hp => by
    obtain ⟨rfl, g, d, h1, h2⟩ := hp
    obtain ⟨x, a, b⟩ := Pd.split h2
    exact ⟨x, ⟨rfl, g, d, h1, a⟩, b⟩
theorem Pd.steps (N : NI S st) : ∀ {l : List Str} {f e : Str}, Pd st.ways f l e → ∃ m, Ch S e m f ∧ (∀ s ∈ m, Rec st.ways s) ∧ m.map (·.b) = l.reverse ∧ m.map (·.d) = (l.map (prOf st.ways)).reverse
  | [], f, e, h => ⟨[], h.symm, fun _ h => (nomatch h), rfl, rfl⟩
  | h :: l, f, e, hp => by
    obtain ⟨rfl, g, d, h1, h2⟩ := hp
    obtain ⟨m, c1, c2, c3, c4⟩ := Pd.steps N h2
    obtain ⟨s, hs, e1, e2, e3⟩ := N.wk _ _ _ h1
    have hr : Rec st.ways s := by unfold Rec; rw [e1, e2, e3]; exact h1
    subst e1
    refine ⟨m ++ [s], ?_, fun s' h' => ?_, ?_, ?_⟩
    · have := c1.snoc hs
      rw [e2] at this; exact this
    · rcases List.mem_append.mp h' with h' | h'
      · exact c2 s' h'
      · rw [List.mem_singleton.mp h']; exact hr
    · rw [List.map_append, c3, List.map_cons, List.map_nil, e2, List.reverse_cons]
    · have ep : prOf st.ways h = s.d := by unfold prOf; rw [h1, ← e3]
      rw [List.map_append, c4, List.map_cons, List.map_nil, List.map_cons, List.reverse_cons, ep]
/-- a ring of steps, its costs below nought -/
def RingT (S : List StepV) (c : List (Str × Bool)) : Prop := ∃ a m, Ch S a m a ∧ m ≠ [] ∧ (m.map (·.b)).Nodup ∧ costL m < 0 ∧ c = m.map (·.d)
end

/-! ### all places, or a ring -/
/-- what is asked of ties but that they hold -/
structure BookB (N C : Nat) (ts : List TieV) : Prop where
  ok : ∀ t ∈ ts, t.Ok ∧ t.Sm
  len : ts.length ≤ 100
  c : ∀ s ∈ stepsV ts, Gd N C s.c
  Np : 0 < N
  Nb : N ≤ 2 ^ 1500
  C0 : C ≤ 10 ^ 43
  fo : F_faces_of ts = .ok (facesV ts)
  fl : (facesV ts).length ≤ 20
theorem BookB.book {N C : Nat} {ts : List TieV} {pl : Str → Rat} (B : BookB N C ts) (P : Pot (stepsV ts) pl) : Book0 N C ts pl := ⟨B.ok, B.len, P, B.c, B.Np, B.Nb, B.C0, B.fo, B.fl⟩
theorem Book0.b {N C : Nat} {ts : List TieV} {pl : Str → Rat} (K : Book0 N C ts pl) : BookB N C ts := ⟨K.ok, K.len, K.c, K.Np, K.Nb, K.C0, K.fo, K.fl⟩
section
variable {N C : Nat} {ts : List TieV}
def valP (sums : Dic Str Rat) (f : Str) : Rat := (sums.get? f).getD 0
theorem Placed.pot {sums : Dic Str Rat} (P : Placed N ts sums) : Pot (stepsV ts) (valP sums) := fun s hs => by
  obtain ⟨x, hx⟩ := P.all _ (steps_mem hs).1
  obtain ⟨y, hy, le⟩ := P.fx s hs x hx
  unfold valP
  rw [hx, hy]
  show y - x ≤ s.c
  grind
theorem RingT.no {S : List StepV} {c : List (Str × Bool)} (h : RingT S c) {v : Str → Rat} (P : Pot S v) : False := by
  obtain ⟨a, m, hc, _, _, hl, _⟩ := h
  have := hc.ring P
  grind
end
end TF


/-! PKD: drawn ties that places need not keep; what a book tells of rings and placings. -/
namespace TF
open PySem PySem.Spec PyProof.Rows L2 DL FR
open Enc KeyT
section
variable {F : List Str} {pl : List Rat} {N B : Nat}
structure TiB (F : List Str) (n : Nat) (N B : Nat) (t : TieV) : Prop where
  ok : t.Ok
  s : t.start ∈ F.take n
  f : t.fin ∈ F.take n
  lo : ∀ q, t.low = some q → Gd N B q
  hi : ∀ q, t.high = some q → Gd N B q
theorem TiB.sm {n : Nat} {t : TieV} (h : TiB F n N B t) (hB : B ≤ 10 ^ 50) (Np : 0 < N) (Nb : N ≤ 2 ^ 1500) : t.Sm := ⟨fun q e => smW (h.lo q e) hB Np Nb, fun q e => smW (h.hi q e) hB Np Nb⟩
structure TisB (F : List Str) (n : Nat) (N B : Nat) (ts : List TieV) : Prop where
  ok : ∀ t ∈ ts, TiB F n N B t
  len : ts.length ≤ 100
  fl : F.length ≤ 20
  B0 : B ≤ 10 ^ 43
  Np : 0 < N
  Nb : N ≤ 2 ^ 1500
variable {ts : List TieV} {n : Nat}
theorem TisB.fn (T : TisB F n N B ts) : ∀ f ∈ faceL ts, f ∈ F.take n := fun f hf => by
  unfold faceL at hf
  rcases List.mem_append.mp hf with hf | hf
  · obtain ⟨t, ht, rfl⟩ := List.mem_map.mp hf; exact (T.ok t ht).s
  · obtain ⟨t, ht, rfl⟩ := List.mem_map.mp hf; exact (T.ok t ht).f
theorem TisB.okSm (T : TisB F n N B ts) : ∀ t ∈ ts, t.Ok ∧ t.Sm := fun t ht => ⟨(T.ok t ht).ok, (T.ok t ht).sm (Nat.le_trans T.B0 (by decide)) T.Np T.Nb⟩
theorem TisB.book (T : TisB F n N B ts) : BookB N B ts where
  ok := T.okSm
  len := T.len
  c s hs := by
    obtain ⟨t, ht, ⟨u, hu, rfl⟩ | ⟨u, hu, rfl⟩⟩ := mem_steps.mp hs
    · exact (T.ok t ht).hi u hu
    · exact ((T.ok t ht).lo u hu).neg
  Np := T.Np
  Nb := T.Nb
  C0 := T.B0
  fo := faces_of_ok (F := F) (fun f hf => List.mem_of_mem_take (T.fn f hf)) (by have := T.fl; omega) (by have := T.len; omega)
  fl := Nat.le_trans (facesV_len' (F := F) fun f hf => List.mem_of_mem_take (T.fn f hf)) T.fl
end
section
variable {N C : Nat} {ts : List TieV}
noncomputable def B_ring (v_self : BookV) : R (Option (List (Str × Bool))) :=
  (((((((R.ok v_self)).map BookV.kept)).bind fun c_1 => F_least_places c_1)).map (fun t : ((Option (Dic Str Rat)) × (Option (List (Str × Bool)))) => t.2))
noncomputable def B_placing (v_self : BookV) : R (List (Str × Rat)) :=
  (((((R.ok v_self)).bind fun c_1 => F_Book_places c_1)).bind sortItR)
/-- what a book of ties tells of rings and placings -/
inductive Told3 (N : Nat) (ts : List TieV) : Prop
  | pl (v : Str → Rat) (sums : Dic Str Rat) : B_ring ⟨ts⟩ = .ok none → F_Book_places ⟨ts⟩ = .ok sums → B_placing ⟨ts⟩ = .ok (plV ts v) → Pot (stepsV ts) v → (∀ f ∈ facesV ts, Gd N (10 ^ 48) (v f)) → Told3 N ts
  | rg (c : List (Str × Bool)) : B_ring ⟨ts⟩ = .ok (some c) → F_Book_places ⟨ts⟩ = .exc "Impossible" [("around", enc c)] → RingT (stepsV ts) c → Told3 N ts
end
end TF


/-! PKE: ties that close to one loop: a ring below nought goes through all of them; just ties. -/
namespace TF
open PySem PySem.Spec PyProof.Rows L2 DL FR
open Enc KeyT
section
/-- ties of one loop, each just; without one of them places keep the others -/
structure Loop (ts : List TieV) (q : TieV → Rat) : Prop where
  nd : (ts.map (·.name)).Nodup
  lo : ∀ t ∈ ts, t.low = some (q t)
  hi : ∀ t ∈ ts, t.high = some (q t)
  fl : (facesV ts).length ≤ ts.length
  pot : ∀ u ∈ ts, ∃ pl : Str → Rat, ∀ t ∈ ts, t.name ≠ u.name → pl t.fin - pl t.start = q t
variable {ts : List TieV} {q : TieV → Rat}
end
end TF


/-! PKF: ties put and dropped. -/
namespace TF
open PySem PySem.Spec PyProof.Rows L2 DL FR
open Enc KeyT
section
/-- where the tie of a name stands -/
def placeV (l : List TieV) (n : Str) : Option Nat := l.findIdx? fun t => decide (t.name = n)
def putV (l : List TieV) (t : TieV) : List TieV := match placeV l t.name with
  | none => l ++ [t]
  | some i => l.set i t
theorem place_of_ok {l : List TieV} {n : Str} (gl : ∀ t ∈ l, GdS t.name) (gn : GdS n) : F_Book_place_of ⟨l⟩ n = .ok (Option.map (fun i : Nat => (i : Int)) (placeV l n)) := by
  unfold F_Book_place_of
  simp only [R.ok_bind, R.exc_bind, R.bad_bind, R.bind_assoc, R.noexc_ok, R.b2, R.map, R.cond, R.flow, addI, subI, andB, orB, unw_some, unw_none, few_nil, ofRat, isCls, Option.isNone_none, Option.isNone_some, Bool.not_true, Bool.not_false, Bool.false_eq_true, if_true, if_false]
  have key : ∀ (l : List TieV) (k : Nat), (∀ t ∈ l, GdS t.name) → forR ((l.zipIdx k).map fun p => (((p.2 : Nat) : Int), p.1)) () (fun (x : Int × TieV) (_ : Unit) => (eqR false x.2.name n).bind fun c => if c = true then R.ok (Fl.rt (some x.1) : Fl Unit (Option Int)) else R.ok (Fl.nx ())) =
      .ok (match placeV l n with | some i => .rt (some ((i + k : Nat) : Int)) | none => .nx ()) := by
    intro l
    induction l with
    | nil => intro k _; rfl
    | cons t l ih =>
      intro k hg
      rw [List.zipIdx_cons, List.map_cons]
      show R.bind ((eqR false t.name n).bind fun c => if c = true then R.ok (Fl.rt (some ((k : Nat) : Int)) : Fl Unit (Option Int)) else R.ok (Fl.nx ())) _ = _
      rw [eqR_ok (hg t List.mem_cons_self) gn, R.ok_bind]
      unfold placeV
      rw [List.findIdx?_cons]
      by_cases h : t.name = n
      · simp only [h, decide_true, Bool.xor_true, Bool.not_false, Bool.false_xor, if_true, R.ok_bind]
        simp
      · simp only [h, decide_false, Bool.xor_false, if_false, Bool.false_eq_true, R.ok_bind]
        refine (ih (k + 1) fun u hu => hg u (List.mem_cons_of_mem _ hu)).trans ?_
        unfold placeV
        cases l.findIdx? fun t => decide (t.name = n) with
        | none => rfl
        | some i => simp; omega
  have := key l 0 gl
  unfold enumL
  rw [this]
  cases placeV l n <;> rfl
variable {l : List TieV} {n : Str}
theorem placeV_some {i : Nat} (h : placeV l n = some i) : ∃ t, l[i]? = some t ∧ t.name = n ∧ i < l.length := by
  unfold placeV at h
  obtain ⟨hi, h2, _⟩ := List.findIdx?_eq_some_iff_getElem.mp h
  exact ⟨l[i], List.getElem?_eq_getElem hi, by simpa using h2, hi⟩
theorem put_ok {t : TieV} (gl : ∀ u ∈ l, GdS u.name) (o : t.Ok) (s : t.Sm) (hl : l.length ≤ 1000) : F_Book_put ⟨l⟩ (enc t) = .ok ⟨putV l t⟩ := by
  have e : F_Tie_plain ⟨t⟩ = .ok t := rfl
  unfold F_Book_put
  simp only [R.ok_bind, R.exc_bind, R.bad_bind, R.bind_assoc, R.noexc_ok, R.b2, R.map, R.cond, R.flow, addI, subI, andB, orB, unw_some, unw_none, few_nil, ofRat, isCls, Option.isNone_none, Option.isNone_some, Bool.not_true, Bool.not_false, Bool.false_eq_true, if_true, if_false]
  rw [tieof_ok o s, R.ok_bind, e, R.ok_bind, place_of_ok gl (nameB_ok o.n1).1, R.ok_bind]
  unfold putV
  cases h : placeV l t.name with
  | none =>
    simp only [Option.map_none, Option.isNone_none, if_true]
    rw [few_ok (by omega), R.ok_bind]
  | some i =>
    obtain ⟨_, _, _, hi⟩ := placeV_some h
    simp only [Option.map_some, Option.isNone_some, Bool.false_eq_true, if_false, unw, R.ok_bind]
    unfold setL
    have hx : ixN l.length (i : Int) = some i := ixN_in (by omega) (by omega)
    rw [hx]; rfl
end
end TF


/-! PKG: what a book refuses. -/
namespace TF
open PySem PySem.Spec PyProof.Rows L2 DL FR
open Enc KeyT
section
variable {N C : Nat} {ts : List TieV} {one other : Str} {k : String} {fs : List (String × D)}
end
end TF


namespace K41
open PySem PySem.Spec PyProof.Rows L2 DL FR TF
open TF.Enc
def tb_SlackError : List (String × Bool) := [("Apart", true), ("InRing", true), ("NoGap", true), ("NoPart", true), ("Twice", true)]
def ti_Apart : List (String × Bool) := [("Apart", true), ("InRing", false), ("NoGap", false), ("NoPart", false), ("Twice", false)]
def ti_Impossible : List (String × Bool) := [("Apart", false), ("InRing", false), ("NoGap", false), ("NoPart", false), ("Twice", false)]
def ti_InRing : List (String × Bool) := [("Apart", false), ("InRing", true), ("NoGap", false), ("NoPart", false), ("Twice", false)]
def ti_NoFace : List (String × Bool) := [("Apart", false), ("InRing", false), ("NoGap", false), ("NoPart", false), ("Twice", false)]
def ti_NoGap : List (String × Bool) := [("Apart", false), ("InRing", false), ("NoGap", true), ("NoPart", false), ("Twice", false)]
def ti_NoName : List (String × Bool) := [("Apart", false), ("InRing", false), ("NoGap", false), ("NoPart", false), ("Twice", false)]
def ti_NoNumber : List (String × Bool) := [("Apart", false), ("InRing", false), ("NoGap", false), ("NoPart", false), ("Twice", false)]
def ti_NoPart : List (String × Bool) := [("Apart", false), ("InRing", false), ("NoGap", false), ("NoPart", true), ("Twice", false)]
def ti_NoRow : List (String × Bool) := [("Apart", false), ("InRing", false), ("NoGap", false), ("NoPart", false), ("Twice", false)]
def ti_NoTie : List (String × Bool) := [("Apart", false), ("InRing", false), ("NoGap", false), ("NoPart", false), ("Twice", false)]
def ti_Off : List (String × Bool) := [("Apart", false), ("InRing", false), ("NoGap", false), ("NoPart", false), ("Twice", false)]
def ti_Tight : List (String × Bool) := [("Apart", false), ("InRing", false), ("NoGap", false), ("NoPart", false), ("Twice", false)]
def ti_Twice : List (String × Bool) := [("Apart", false), ("InRing", false), ("NoGap", false), ("NoPart", false), ("Twice", true)]
def ti_ValueError : List (String × Bool) := [("Apart", true), ("InRing", true), ("NoGap", true), ("NoPart", true), ("Twice", true)]
open Classical in
/-- is_name over any data -/
noncomputable def F_is_name (d : D) : R Bool := if (tyD noHeap d).isSome = true ∧ ∀ z, d = .str z → Few z.length then .ok (nameD d) else .bad
noncomputable def F_has_ends (v_thing : D) (v_many : Int) : R Bool :=
  R.cond (orB (((((R.ok v_thing)).bind (isiD "tuple"))).map (!·)) (R.b2 (((((R.ok v_thing)).bind (unE TupD))).bind fun l => .ok (l.l.length : Int)) (R.ok v_many) fun i j => .ok (!decide (i = j))))
  ((R.ok false))
  (((((((((R.ok v_thing)).bind (unE TupD))).bind fun l_1 => ((R.ok none)).bind fun lo_2 => ((((R.ok (3 : Int))).map some)).bind fun hi_3 => R.ok (⟨cut l_1.l lo_2 hi_3⟩ : TupD))).map fun t : TupD => t.l)).bind fun l_15 => R.flow (forR l_15 (() : Unit) (fun (x_4 : D) (st_5 : Unit) =>
  R.cond (((((R.ok x_4)).bind fun c_12 => F_is_name c_12)).map (!·))
  (((R.ok false)).bind fun r_14 => .ok (.rt r_14))
  (.ok (.nx ()))) : R (Fl (Unit) Bool)) (fun (st_5 : Unit) =>
  (R.b2 (((R.b2 (((R.ok v_thing)).bind (unE TupD)) (R.ok (1 : Int)) ixTup)).bind deStr) (((R.b2 (((R.ok v_thing)).bind (unE TupD)) (R.ok (2 : Int)) ixTup)).bind deStr) (eqR true))) (fun r_16 => .ok r_16))
noncomputable def F_is_part (v_thing : D) : R Bool :=
  R.cond (orB (((((R.ok v_thing)).bind fun c_3 => ((R.ok (6 : Int))).bind fun c_4 => F_has_ends c_3 c_4)).map (!·)) (orB (((((R.b2 (((R.ok v_thing)).bind (unE TupD)) (R.ok (3 : Int)) ixTup)).bind fun c_2 => F_is_fraction c_2)).map (!·)) (((((R.b2 (((R.ok v_thing)).bind (unE TupD)) (R.ok (4 : Int)) ixTup)).bind fun c_1 => F_is_fraction c_1)).map (!·))))
  ((R.ok false))
  ((andB (R.b2 (((((R.b2 (((R.ok v_thing)).bind (unE TupD)) (R.ok (4 : Int)) ixTup)).bind (unE (Int × Int)))).map (fun t : (Int × Int) => t.1)) (R.ok (0 : Int)) fun i j => .ok (decide (j ≤ i))) (andB (((R.b2 (((R.ok v_thing)).bind (unE TupD)) (R.ok (5 : Int)) ixTup)).bind fun c_5 => F_is_whole c_5) (R.b2 (((R.b2 (((R.ok v_thing)).bind (unE TupD)) (R.ok (5 : Int)) ixTup)).bind (unE Int)) (R.ok (0 : Int)) fun i j => .ok (decide (j < i))))))
noncomputable def F_is_gap (v_thing : D) : R Bool :=
  R.cond (orB (((((R.ok v_thing)).bind fun c_3 => ((R.ok (5 : Int))).bind fun c_4 => F_has_ends c_3 c_4)).map (!·)) (orB (((((R.b2 (((R.ok v_thing)).bind (unE TupD)) (R.ok (3 : Int)) ixTup)).bind fun c_2 => F_is_fraction c_2)).map (!·)) (((((R.b2 (((R.ok v_thing)).bind (unE TupD)) (R.ok (4 : Int)) ixTup)).bind fun c_1 => F_is_fraction c_1)).map (!·))))
  ((R.ok false))
  ((((((((R.b2 (((R.ok v_thing)).bind (unE TupD)) (R.ok (4 : Int)) ixTup)).bind (unE Rat))).bind fun c_5 => ((((R.b2 (((R.ok v_thing)).bind (unE TupD)) (R.ok (3 : Int)) ixTup)).bind (unE Rat))).bind fun c_6 => F_under c_5 c_6)).map (!·)))
noncomputable def F_Thing_add_partD (t : ThingV) (x : D) : R ThingV :=
  R.cond ((((R.ok x)).bind fun c => F_is_part c).map (!·)) (.exc "NoPart" [])
  (R.cond (R.b2 (((R.ok x).bind (unE PartV)).map (fun t : PartV => t.name)) (R.ok t.sizes) fun k d => .ok ((d.get? k).isSome)) (.exc "Twice" [])
  (R.cond (((R.ok t.parts).bind fun a => (((R.ok x).bind (unE PartV)).map (fun t : PartV => t.start)).bind fun b => (((R.ok x).bind (unE PartV)).map (fun t : PartV => t.fin)).bind fun c => F_way_between a b c).map fun o => !o.isNone) (.exc "InRing" [])
  (((R.ok x).bind (unE PartV)).bind fun a => (few t.parts).bind fun _ => (R.ok (t.parts ++ [a])).bind fun ps =>
  (((R.ok x).bind (unE PartV)).map (fun t : PartV => t.size)).bind fun a => (((R.ok x).bind (unE PartV)).map (fun t : PartV => t.name)).bind fun j => (fewD t.sizes).bind fun _ => (R.ok (t.sizes.put j a)).bind fun sz => R.ok { t with parts := ps, sizes := sz })))
noncomputable def F_Thing_add_gapD (t : ThingV) (x : D) : R ThingV :=
  R.cond ((((R.ok x)).bind fun c => F_is_gap c).map (!·)) (.exc "NoGap" [])
  (R.cond (R.b2 (((R.ok x).bind (unE GapV)).map (fun t : GapV => t.name)) (R.ok t.ways) fun k d => .ok ((d.get? k).isSome)) (.exc "Twice" [])
  (((R.ok t.parts).bind fun a => (((R.ok x).bind (unE GapV)).map (fun t : GapV => t.one)).bind fun b => (((R.ok x).bind (unE GapV)).map (fun t : GapV => t.other)).bind fun c => F_way_between a b c).bind fun (found : Option (List (Str × Bool))) =>
  R.cond ((R.ok found).map fun o => o.isNone) (.exc "Apart" [])
  (((R.ok x).bind (unE GapV)).bind fun a => (few t.gaps).bind fun _ => (R.ok (t.gaps ++ [a])).bind fun gs =>
  ((R.ok found).bind unw).bind fun a => (((R.ok x).bind (unE GapV)).map (fun t : GapV => t.name)).bind fun j => (fewD t.ways).bind fun _ => (R.ok (t.ways.put j a)).bind fun ws => R.ok { t with gaps := gs, ways := ws })))
noncomputable def F_ThingD (parts gaps : List D) : R ThingV :=
  ((R.ok ([] : List PartV)).bind few).bind fun l1 => ((R.ok ([] : List GapV)).bind few).bind fun l2 => (R.ok (⟨[]⟩ : Dic Str Rat)).bind fun d1 => (R.ok (⟨[]⟩ : Dic Str (List (Str × Bool)))).bind fun d2 =>
  (R.ok parts).bind fun l => (foldR l (⟨l1, l2, d1, d2⟩ : ThingV) (fun (x : D) (st : ThingV) => (R.ok x).bind fun b => (F_Thing_add_partD st b).bind fun t' => .ok t')).bind fun (st : ThingV) =>
  (R.ok gaps).bind fun l => (foldR l st (fun (x : D) (st : ThingV) => (R.ok x).bind fun b => (F_Thing_add_gapD st b).bind fun t' => .ok t')).bind fun (st : ThingV) => .ok st
noncomputable def F__law_cell (v_script : (List Int)) (v_k : Int) : R Int :=
  ((R.ok (0 : Int))).bind fun (total_1 : Int) =>
  ((((R.ok v_k)).bind fun i => ((R.b2 (((R.ok v_script)).bind fun l => .ok (l.length : Int)) (R.ok (98 : Int)) fun i j => .ok (if j < i then j else i))).bind fun j => ((R.ok (30 : Int))).bind fun k => rng3 i j k)).bind fun l_21 => (foldR l_21 (total_1 : Int) (fun (x_2 : Int) (st_3 : Int) =>
  ((R.b2 (R.ok st_3) (R.b2 (R.b2 (R.ok v_script) (R.ok x_2) ixL) (R.b2 (R.ok (1 : Int)) (R.ok x_2) addI) mulI) addI)).bind fun (total_20 : Int) =>
  .ok total_20)).bind fun (st_3 : Int) =>
  (R.ok st_3)
noncomputable def F__law_signed (v_cell_here : Int) (v_most : Int) : R Int :=
  R.cond (R.b2 (R.ok v_cell_here) (R.ok (0 : Int)) fun i j => .ok (decide (i < j)))
  ((R.b2 (R.ok (0 : Int)) (R.b2 (R.b2 (R.ok (0 : Int)) (R.ok v_cell_here) subI) (R.ok v_most) modI) subI))
  ((R.b2 (R.ok v_cell_here) (R.ok v_most) modI))
noncomputable def F__law_low (v_top : Int) (v_bottom : Int) : R Rat :=
  ((R.ok v_top)).bind fun (one_1 : Int) =>
  ((R.ok v_bottom)).bind fun (other_2 : Int) =>
  R.flow (whileR (fun (st_3 : Int × Int) => (R.b2 (R.ok st_3.2) (R.ok (0 : Int)) fun i j => .ok (!decide (i = j)))) (fun (st_3 : Int × Int) =>
  (((R.b2 (R.ok st_3.1) (R.ok st_3.2) modI)).bind fun (rest_14 : Int) =>
  ((R.ok st_3.2)).bind fun (one_15 : Int) =>
  ((R.ok rest_14)).bind fun (other_16 : Int) =>
  .ok (.nx (one_15, other_16)) : R (Fl (Int × Int) Rat))) ((one_1, other_2) : Int × Int)) (fun (st_3 : Int × Int) =>
  (((((R.b2 (R.ok v_top) (((R.ok st_3.1)).bind fun i => .ok (i.natAbs : Int)) divI)).bind fun t_21 => ((R.b2 (R.ok v_bottom) (((R.ok st_3.1)).bind fun i => .ok (i.natAbs : Int)) divI)).bind fun t_22 => R.ok (t_21, t_22))).bind toRat)) (fun r_23 => .ok r_23)
noncomputable def F__law_name (v_k : Int) (v_sign : Str) (v_style : Int) : R Str :=
  (R.b2 (R.b2 (R.b2 (R.ok v_sign) (R.ok v_style) mulS) (R.b2 (R.ok ("abcdefgh" : Str)) (R.ok v_k) ixS) addS) (R.b2 (R.ok v_sign) (R.b2 (R.ok (3 : Int)) (R.ok v_style) subI) mulS) addS)
noncomputable def F__law_part (v_k : Int) (v_cells : (List Int)) (v_style : Int) : R PartV :=
  ((((((((R.b2 (R.ok v_cells) (R.ok (0 : Int)) ixL)).map fun a_1 => a_1 * 48271)).map fun a_3 => a_3 % 2147483647)).map fun a_5 => a_5 / 37)).bind fun (mixed_7 : Int) =>
  ((R.b2 ((((R.ok (9 : Int))).bind fun t_10 => (((R.ok ((10 : Int) ^ 40))).bind fun t_8 => (R.ok ([] : List Int)).bind fun t_9 => R.ok (t_8 :: t_9)).bind fun t_11 => R.ok (t_10 :: t_11)).bind few) (((((R.ok mixed_7)).map fun a_12 => a_12 / 4096)).map fun a_14 => a_14 % 2) ixL)).bind fun (far_16 : Int) =>
  ((((R.b2 ((((R.ok v_k)).bind fun t_31 => (((R.ok v_k)).bind fun t_29 => (((R.ok v_k)).bind fun t_27 => (((((((R.ok mixed_7)).map fun a_21 => a_21 / 8)).map fun a_23 => a_23 % 6)).bind fun t_25 => (R.ok ([] : List Int)).bind fun t_26 => R.ok (t_25 :: t_26)).bind fun t_28 => R.ok (t_27 :: t_28)).bind fun t_30 => R.ok (t_29 :: t_30)).bind fun t_32 => R.ok (t_31 :: t_32)).bind few) (((((R.ok mixed_7)).map fun a_33 => a_33 / 64)).map fun a_35 => a_35 % 4) ixL)).bind fun c_37 => ((R.ok ("p" : Str))).bind fun c_38 => ((R.ok v_style)).bind fun c_39 => F__law_name c_37 c_38 c_39)).bind fun (name_here_40 : Str) =>
  ((((((((R.ok mixed_7)).map fun a_41 => a_41 / 512)).map fun a_43 => a_43 % 7)).bind fun c_45 => ((R.ok ("f" : Str))).bind fun c_46 => ((R.ok v_style)).bind fun c_47 => F__law_name c_45 c_46 c_47)).bind fun (one_48 : Str) =>
  ((((((R.b2 (R.b2 (((R.ok mixed_7)).map fun a_49 => a_49 / 512) (R.ok (1 : Int)) addI) (((((R.ok mixed_7)).map fun a_53 => a_53 / 16)).map fun a_55 => a_55 % 6) addI)).map fun a_59 => a_59 % 7)).bind fun c_61 => ((R.ok ("f" : Str))).bind fun c_62 => ((R.ok v_style)).bind fun c_63 => F__law_name c_61 c_62 c_63)).bind fun (other_64 : Str) =>
  ((((((R.b2 (R.ok v_cells) (R.ok (1 : Int)) ixL)).bind fun c_65 => ((R.ok far_16)).bind fun c_66 => F__law_signed c_65 c_66)).bind fun c_73 => ((R.b2 (R.ok (1 : Int)) (((((R.ok mixed_7)).map fun a_67 => a_67 / 32)).map fun a_69 => a_69 % 12) addI)).bind fun c_74 => F__law_low c_73 c_74)).bind fun (size_75 : Rat) =>
  ((((((R.b2 (R.ok v_cells) (R.ok (1 : Int)) ixL)).map fun a_76 => a_76 % 13)).bind fun c_84 => ((R.b2 (R.ok (1 : Int)) (((((R.ok mixed_7)).map fun a_78 => a_78 / 128)).map fun a_80 => a_80 % 6) addI)).bind fun c_85 => F__law_low c_84 c_85)).bind fun (most_86 : Rat) =>
  (((((R.ok name_here_40)).bind fun t_111 => ((R.ok one_48)).bind fun t_112 => ((R.ok other_64)).bind fun t_113 => ((R.ok size_75)).bind fun t_114 => ((R.ok most_86)).bind fun t_115 => ((R.b2 ((((R.b2 (R.ok (1 : Int)) (((R.ok mixed_7)).map fun a_95 => a_95 % 4) addI)).bind fun t_105 => (((R.b2 (R.ok (1 : Int)) (((R.b2 (R.ok v_cells) (R.ok (1 : Int)) ixL)).map fun a_99 => a_99 % (10 ^ 6)) addI)).bind fun t_103 => (R.ok ([] : List Int)).bind fun t_104 => R.ok (t_103 :: t_104)).bind fun t_106 => R.ok (t_105 :: t_106)).bind few) (((((R.ok mixed_7)).map fun a_107 => a_107 / 8192)).map fun a_109 => a_109 % 2) ixL)).bind fun t_116 => R.ok (T6.mk t_111 t_112 t_113 t_114 t_115 t_116))).map (fun t : (T6 Str Str Str Rat Rat Int) => ({ name := t.a, start := t.b, fin := t.c, size := t.d, most := t.e, weight := t.f } : PartV)))
noncomputable def F__law_gap (v_k : Int) (v_cells : (List Int)) (v_style : Int) : R GapV :=
  ((((((((R.b2 (R.ok v_cells) (R.ok (0 : Int)) ixL)).map fun a_1 => a_1 * 39373)).map fun a_3 => a_3 % 2147483629)).map fun a_5 => a_5 / 37)).bind fun (mixed_7 : Int) =>
  ((((R.b2 ((((R.ok v_k)).bind fun t_22 => (((R.ok v_k)).bind fun t_20 => (((R.ok v_k)).bind fun t_18 => (((((((R.ok mixed_7)).map fun a_12 => a_12 / 8)).map fun a_14 => a_14 % 5)).bind fun t_16 => (R.ok ([] : List Int)).bind fun t_17 => R.ok (t_16 :: t_17)).bind fun t_19 => R.ok (t_18 :: t_19)).bind fun t_21 => R.ok (t_20 :: t_21)).bind fun t_23 => R.ok (t_22 :: t_23)).bind few) (((((R.ok mixed_7)).map fun a_24 => a_24 / 64)).map fun a_26 => a_26 % 4) ixL)).bind fun c_36 => ((R.b2 ((((R.ok ("g" : Str))).bind fun t_30 => (((R.ok ("p" : Str))).bind fun t_28 => (R.ok ([] : List Str)).bind fun t_29 => R.ok (t_28 :: t_29)).bind fun t_31 => R.ok (t_30 :: t_31)).bind few) (((((R.ok mixed_7)).map fun a_32 => a_32 / 1024)).map fun a_34 => a_34 % 2) ixL)).bind fun c_37 => ((R.ok v_style)).bind fun c_38 => F__law_name c_36 c_37 c_38)).bind fun (name_here_39 : Str) =>
  ((((((((R.ok mixed_7)).map fun a_40 => a_40 / 512)).map fun a_42 => a_42 % 7)).bind fun c_44 => ((R.ok ("f" : Str))).bind fun c_45 => ((R.ok v_style)).bind fun c_46 => F__law_name c_44 c_45 c_46)).bind fun (one_47 : Str) =>
  ((((((R.b2 (R.b2 (((R.ok mixed_7)).map fun a_48 => a_48 / 512) (R.ok (1 : Int)) addI) (((((R.ok mixed_7)).map fun a_52 => a_52 / 16)).map fun a_54 => a_54 % 6) addI)).map fun a_58 => a_58 % 7)).bind fun c_60 => ((R.ok ("f" : Str))).bind fun c_61 => ((R.ok v_style)).bind fun c_62 => F__law_name c_60 c_61 c_62)).bind fun (other_63 : Str) =>
  ((((((R.b2 (R.ok v_cells) (R.ok (1 : Int)) ixL)).bind fun c_64 => ((R.ok ((10 : Int) ^ 40))).bind fun c_65 => F__law_signed c_64 c_65)).bind fun c_72 => ((R.b2 (R.ok (1 : Int)) (((((R.ok mixed_7)).map fun a_66 => a_66 / 32)).map fun a_68 => a_68 % 12) addI)).bind fun c_73 => F__law_low c_72 c_73)).bind fun (low_here_74 : Rat) =>
  (((((R.ok name_here_39)).bind fun t_83 => ((R.ok one_47)).bind fun t_84 => ((R.ok other_63)).bind fun t_85 => ((R.ok low_here_74)).bind fun t_86 => ((((((R.b2 (((R.ok low_here_74)).map fun q : Rat => q.num) (R.b2 (((R.ok low_here_74)).map fun q : Rat => (q.den : Int)) (((R.ok mixed_7)).map fun a_75 => a_75 % 3) mulI) addI)).bind fun t_81 => ((((R.ok low_here_74)).map fun q : Rat => (q.den : Int))).bind fun t_82 => R.ok (t_81, t_82))).bind toRat)).bind fun t_87 => R.ok (T5.mk t_83 t_84 t_85 t_86 t_87))).map (fun t : (T5 Str Str Str Rat Rat) => ({ name := t.a, one := t.b, other := t.c, low := t.d, high := t.e } : GapV)))
noncomputable def F__law_with (v_thing : TupD) (v_at : Int) (v_part_here : D) : R TupD :=
  (R.b2 (R.b2 (((R.ok v_thing)).bind fun l_1 => ((R.ok none)).bind fun lo_2 => ((((R.ok v_at)).map some)).bind fun hi_3 => R.ok (⟨cut l_1.l lo_2 hi_3⟩ : TupD)) (((((R.ok v_part_here)).map T1.mk)).map (fun t : (T1 D) => (⟨[enc t.a]⟩ : TupD))) catU) (((R.ok v_thing)).bind fun l_9 => ((((R.b2 (R.ok v_at) (R.ok (1 : Int)) addI)).map some)).bind fun lo_10 => ((R.ok none)).bind fun hi_11 => R.ok (⟨cut l_9.l lo_10 hi_11⟩ : TupD)) catU)
noncomputable def F__law_spoiled (v_thing : TupD) (v_way : Int) : R D :=
  ((R.b2 (((R.ok v_way)).map fun a_1 => a_1 / 16) (((R.ok v_thing)).bind fun l => .ok (l.l.length : Int)) modI)).bind fun (at_5 : Int) =>
  R.cond (R.b2 (((R.ok v_way)).map fun a_6 => a_6 % 8) (R.ok (0 : Int)) fun i j => .ok (decide (i = j)))
  ((R.b2 ((((((R.ok v_thing)).map fun t : TupD => D.lst t.l)).bind fun t_62 => (((((((R.ok v_thing)).bind fun l_44 => ((R.ok none)).bind fun lo_45 => ((((((R.ok (1 : Int))).map fun a => -a)).map some)).bind fun hi_46 => R.ok (⟨cut l_44.l lo_45 hi_46⟩ : TupD))).map enc)).bind fun t_60 => (((((R.b2 (R.ok v_thing) (((((R.ok (1 : Int))).map T1.mk)).map (fun t : (T1 Int) => (⟨[enc t.a]⟩ : TupD))) catU)).map enc)).bind fun t_58 => (((((R.ok ())).map enc)).bind fun t_56 => (((((R.ok (7 : Int))).map enc)).bind fun t_54 => (((R.b2 (R.ok v_thing) (R.ok (0 : Int)) ixTup)).bind fun t_52 => (((R.ok (D.tup []))).bind fun t_50 => (R.ok ([] : List D)).bind fun t_51 => R.ok (t_50 :: t_51)).bind fun t_53 => R.ok (t_52 :: t_53)).bind fun t_55 => R.ok (t_54 :: t_55)).bind fun t_57 => R.ok (t_56 :: t_57)).bind fun t_59 => R.ok (t_58 :: t_59)).bind fun t_61 => R.ok (t_60 :: t_61)).bind fun t_63 => R.ok (t_62 :: t_63)).bind few) (((((R.ok v_way)).map fun a_64 => a_64 / 8)).map fun a_66 => a_66 % 7) ixL))
  (R.cond (R.b2 (((R.ok v_way)).map fun a_68 => a_68 % 8) (R.ok (1 : Int)) fun i j => .ok (decide (i = j)))
  ((((((R.ok v_thing)).bind fun c_141 => ((R.ok at_5)).bind fun c_142 => ((R.b2 ((((((R.ok ())).map enc)).bind fun t_135 => (((((R.ok true)).map enc)).bind fun t_133 => (((((R.ok false)).map enc)).bind fun t_131 => (((((((R.ok []).bind few)) : R (List D)).map enc)).bind fun t_129 => (((((((R.ok (1 : Int))).map T1.mk)).map enc)).bind fun t_127 => (((((((R.ok (2 : Int))).bind fun t_115 => ((R.ok (2 : Int))).bind fun t_116 => R.ok (t_115, t_116))).map enc)).bind fun t_125 => (((((((R.ok (1 : Int))).bind fun t_117 => ((R.ok (0 : Int))).bind fun t_118 => R.ok (t_117, t_118))).map enc)).bind fun t_123 => (((((((R.ok true)).bind fun t_119 => ((R.ok (1 : Int))).bind fun t_120 => R.ok (t_119, t_120))).map enc)).bind fun t_121 => (R.ok ([] : List D)).bind fun t_122 => R.ok (t_121 :: t_122)).bind fun t_124 => R.ok (t_123 :: t_124)).bind fun t_126 => R.ok (t_125 :: t_126)).bind fun t_128 => R.ok (t_127 :: t_128)).bind fun t_130 => R.ok (t_129 :: t_130)).bind fun t_132 => R.ok (t_131 :: t_132)).bind fun t_134 => R.ok (t_133 :: t_134)).bind fun t_136 => R.ok (t_135 :: t_136)).bind few) (((((R.ok v_way)).map fun a_137 => a_137 / 8)).map fun a_139 => a_139 % 8) ixL)).bind fun c_143 => F__law_with c_141 c_142 c_143)).map enc))
  (R.cond (R.b2 (((R.ok v_way)).map fun a_144 => a_144 % 8) (R.ok (2 : Int)) fun i j => .ok (decide (i = j)))
  ((((((R.ok v_thing)).bind fun c_197 => ((((((R.ok v_way)).map fun a_173 => a_173 / 16)).map fun a_175 => a_175 % 3)).bind fun c_198 => ((R.b2 ((((((R.ok ("" : Str))).map enc)).bind fun t_191 => (((((R.ok ("A" : Str))).map enc)).bind fun t_189 => (((((R.ok ("a b" : Str))).map enc)).bind fun t_187 => (((((R.ok ("abcdefghi" : Str))).map enc)).bind fun t_185 => (((((R.ok ("a1" : Str))).map enc)).bind fun t_183 => (((((R.ok (7 : Int))).map enc)).bind fun t_181 => (((((R.ok ())).map enc)).bind fun t_179 => (((((R.ok ("a\n" : Str))).map enc)).bind fun t_177 => (R.ok ([] : List D)).bind fun t_178 => R.ok (t_177 :: t_178)).bind fun t_180 => R.ok (t_179 :: t_180)).bind fun t_182 => R.ok (t_181 :: t_182)).bind fun t_184 => R.ok (t_183 :: t_184)).bind fun t_186 => R.ok (t_185 :: t_186)).bind fun t_188 => R.ok (t_187 :: t_188)).bind fun t_190 => R.ok (t_189 :: t_190)).bind fun t_192 => R.ok (t_191 :: t_192)).bind few) (((((R.ok v_way)).map fun a_193 => a_193 / 8)).map fun a_195 => a_195 % 8) ixL)).bind fun c_199 => F__law_with c_197 c_198 c_199)).map enc))
  (R.cond (R.b2 (((R.ok v_way)).map fun a_200 => a_200 % 8) (R.ok (3 : Int)) fun i j => .ok (decide (i = j)))
  ((((((R.ok v_thing)).bind fun c_205 => ((R.ok (2 : Int))).bind fun c_206 => ((R.b2 (R.ok v_thing) (R.ok (1 : Int)) ixTup)).bind fun c_207 => F__law_with c_205 c_206 c_207)).map enc))
  (R.cond (andB (R.b2 (((R.ok v_thing)).bind fun l => .ok (l.l.length : Int)) (R.ok (6 : Int)) fun i j => .ok (decide (i = j))) (R.b2 (((R.ok v_way)).map fun a_208 => a_208 % 8) (R.ok (4 : Int)) fun i j => .ok (decide (i = j))))
  ((((((R.ok v_thing)).bind fun c_229 => ((R.ok (4 : Int))).bind fun c_230 => ((((((R.b2 (((R.ok (1 : Int))).map fun a => -a) (((((R.ok v_way)).map fun a_221 => a_221 / 8)).map fun a_223 => a_223 % 5) subI)).bind fun t_227 => ((R.ok (7 : Int))).bind fun t_228 => R.ok (t_227, t_228))).map enc)).bind fun c_231 => F__law_with c_229 c_230 c_231)).map enc))
  (R.cond (R.b2 (((R.ok v_thing)).bind fun l => .ok (l.l.length : Int)) (R.ok (6 : Int)) fun i j => .ok (decide (i = j)))
  ((((((R.ok v_thing)).bind fun c_271 => ((R.ok (5 : Int))).bind fun c_272 => ((R.b2 ((((((R.ok (0 : Int))).map enc)).bind fun t_265 => (((((((R.ok (1 : Int))).map fun a => -a)).map enc)).bind fun t_263 => (((((R.ok true)).map enc)).bind fun t_261 => (((((((R.ok (1 : Int))).bind fun t_255 => ((R.ok (1 : Int))).bind fun t_256 => R.ok (t_255, t_256))).map enc)).bind fun t_259 => (((((R.ok ())).map enc)).bind fun t_257 => (R.ok ([] : List D)).bind fun t_258 => R.ok (t_257 :: t_258)).bind fun t_260 => R.ok (t_259 :: t_260)).bind fun t_262 => R.ok (t_261 :: t_262)).bind fun t_264 => R.ok (t_263 :: t_264)).bind fun t_266 => R.ok (t_265 :: t_266)).bind few) (((((R.ok v_way)).map fun a_267 => a_267 / 8)).map fun a_269 => a_269 % 5) ixL)).bind fun c_273 => F__law_with c_271 c_272 c_273)).map enc))
  ((((((R.ok v_thing)).bind fun c_278 => ((R.ok (3 : Int))).bind fun c_279 => ((((((R.b2 (((((R.b2 (R.ok v_thing) (R.ok (4 : Int)) ixTup)).bind (unE (Int × Int)))).map (fun t : (Int × Int) => t.1)) (((((R.b2 (R.ok v_thing) (R.ok (4 : Int)) ixTup)).bind (unE (Int × Int)))).map (fun t : (Int × Int) => t.2)) addI)).bind fun t_276 => ((((((R.b2 (R.ok v_thing) (R.ok (4 : Int)) ixTup)).bind (unE (Int × Int)))).map (fun t : (Int × Int) => t.2))).bind fun t_277 => R.ok (t_276, t_277))).map enc)).bind fun c_280 => F__law_with c_278 c_279 c_280)).map enc)))))))
noncomputable def F__law_joined (v_marks : (Dic Str Str)) (v_one : Str) (v_other : Str) : R ((Dic Str Str)) :=
  ((((R.ok v_marks)).bind fun d => ((R.ok v_one)).bind fun k => ((R.ok v_one)).bind fun x => .ok ((d.get? k).getD x))).bind fun (here_1 : Str) =>
  ((((R.ok v_marks)).bind fun d => ((R.ok v_other)).bind fun k => ((R.ok v_other)).bind fun x => .ok ((d.get? k).getD x))).bind fun (there_2 : Str) =>
  ((((R.ok v_marks)).bind fun l => .ok (l.l.map (·.1)))).bind fun l_20 => (foldR l_20 (v_marks : (Dic Str Str)) (fun (x_3 : Str) (st_4 : (Dic Str Str)) =>
  R.cond (R.b2 (R.b2 (R.ok st_4) (R.ok x_3) getR) (R.ok there_2) (eqR false))
  (((R.ok here_1)).bind fun a_18 => ((R.ok x_3)).bind fun k_19 => (fewD st_4).bind fun _ => (R.ok (st_4.put k_19 a_18)).bind fun (marks_17 : (Dic Str Str)) =>
  .ok marks_17)
  (.ok st_4))).bind fun (st_4 : (Dic Str Str)) =>
  ((R.ok here_1)).bind fun a_22 => ((R.ok v_one)).bind fun k_23 => (fewD st_4).bind fun _ => (R.ok (st_4.put k_23 a_22)).bind fun (marks_21 : (Dic Str Str)) =>
  ((R.ok here_1)).bind fun a_25 => ((R.ok v_other)).bind fun k_26 => (fewD marks_21).bind fun _ => (R.ok (marks_21.put k_26 a_25)).bind fun (marks_24 : (Dic Str Str)) =>
  .ok marks_24
noncomputable def F__law_due (v_parts : (List (Bool × D))) (v_gaps : (List (Bool × D))) : R Str :=
  ((R.ok (⟨[]⟩ : (Dic Str Str)))).bind fun (marks_1 : (Dic Str Str)) =>
  ((R.ok (⟨[]⟩ : (Dic Str Bool)))).bind fun (names_2 : (Dic Str Bool)) =>
  ((R.ok v_parts)).bind fun l_32 => R.flow (forR l_32 ((marks_1, names_2) : (Dic Str Str) × (Dic Str Bool)) (fun (x_3 : (Bool × D)) (st_4 : (Dic Str Str) × (Dic Str Bool)) =>
  R.cond (((R.ok x_3.1)).map (!·))
  (((R.ok ("part" : Str))).bind fun r_21 => .ok (.rt r_21))
  (R.cond (R.b2 (((((R.ok x_3.2)).bind (unE PartV))).map (fun t : PartV => t.name)) (R.ok st_4.2) fun k d => .ok ((d.get? k).isSome))
  (((R.ok ("twice" : Str))).bind fun r_23 => .ok (.rt r_23))
  (R.cond (andB (R.b2 (((((R.ok x_3.2)).bind (unE PartV))).map (fun t : PartV => t.start)) (R.ok st_4.1) fun k d => .ok ((d.get? k).isSome)) (andB (R.b2 (((((R.ok x_3.2)).bind (unE PartV))).map (fun t : PartV => t.fin)) (R.ok st_4.1) fun k d => .ok ((d.get? k).isSome)) (R.b2 (R.b2 (R.ok st_4.1) (((((R.ok x_3.2)).bind (unE PartV))).map (fun t : PartV => t.start)) getR) (R.b2 (R.ok st_4.1) (((((R.ok x_3.2)).bind (unE PartV))).map (fun t : PartV => t.fin)) getR) (eqR false))))
  (((R.ok ("ring" : Str))).bind fun r_25 => .ok (.rt r_25))
  (((R.ok true)).bind fun a_27 => ((((((R.ok x_3.2)).bind (unE PartV))).map (fun t : PartV => t.name))).bind fun k_28 => (fewD st_4.2).bind fun _ => (R.ok (st_4.2.put k_28 a_27)).bind fun (names_26 : (Dic Str Bool)) =>
  ((((((R.ok x_3.2)).bind (unE PartV))).map (fun t : PartV => t.start))).bind fun c_29 => ((((((R.ok x_3.2)).bind (unE PartV))).map (fun t : PartV => t.fin))).bind fun c_30 => ((F__law_joined st_4.1 c_29 c_30).noexc).bind fun (marks_31 : (Dic Str Str)) =>
  .ok (.nx (marks_31, names_26)))))) : R (Fl ((Dic Str Str) × (Dic Str Bool)) Str)) (fun (st_4 : (Dic Str Str) × (Dic Str Bool)) =>
  ((R.ok (⟨[]⟩ : (Dic Str Bool)))).bind fun (names_33 : (Dic Str Bool)) =>
  ((R.ok v_gaps)).bind fun l_57 => R.flow (forR l_57 (names_33 : (Dic Str Bool)) (fun (x_34 : (Bool × D)) (st_35 : (Dic Str Bool)) =>
  R.cond (((R.ok x_34.1)).map (!·))
  (((R.ok ("gap" : Str))).bind fun r_49 => .ok (.rt r_49))
  (R.cond (R.b2 (((((R.ok x_34.2)).bind (unE GapV))).map (fun t : GapV => t.name)) (R.ok st_35) fun k d => .ok ((d.get? k).isSome))
  (((R.ok ("twice" : Str))).bind fun r_51 => .ok (.rt r_51))
  (R.cond (orB (R.b2 (((((R.ok x_34.2)).bind (unE GapV))).map (fun t : GapV => t.one)) (R.ok st_4.1) fun k d => .ok (!(d.get? k).isSome)) (orB (R.b2 (((((R.ok x_34.2)).bind (unE GapV))).map (fun t : GapV => t.other)) (R.ok st_4.1) fun k d => .ok (!(d.get? k).isSome)) (R.b2 (R.b2 (R.ok st_4.1) (((((R.ok x_34.2)).bind (unE GapV))).map (fun t : GapV => t.one)) getR) (R.b2 (R.ok st_4.1) (((((R.ok x_34.2)).bind (unE GapV))).map (fun t : GapV => t.other)) getR) (eqR true))))
  (((R.ok ("apart" : Str))).bind fun r_53 => .ok (.rt r_53))
  (((R.ok true)).bind fun a_55 => ((((((R.ok x_34.2)).bind (unE GapV))).map (fun t : GapV => t.name))).bind fun k_56 => (fewD st_35).bind fun _ => (R.ok (st_35.put k_56 a_55)).bind fun (names_54 : (Dic Str Bool)) =>
  .ok (.nx names_54))))) : R (Fl ((Dic Str Bool)) Str)) (fun (st_35 : (Dic Str Bool)) =>
  (R.ok ("made" : Str))) (fun r_58 => .ok r_58)) (fun r_59 => .ok r_59)
noncomputable def F__law_made (v_parts : (List D)) (v_gaps : (List D)) : R (Str × (Option ThingV)) :=
  (((R.ok ([] : List Bool)).bind few)).bind fun (named_1 : (List Bool)) =>
  (((R.ok ([] : List Bool)).bind few)).bind fun (others_2 : (List Bool)) =>
  ((R.ok (none : Option ThingV))).bind fun (found_3 : (Option ThingV)) =>
  (tryR (((((((R.ok v_parts)).bind fun c_41 => ((R.ok v_gaps)).bind fun c_42 => F_ThingD c_41 c_42)).map some)).bind fun (found_43 : (Option ThingV)) =>
  .ok (named_1, others_2, found_43)) (excT tb_SlackError) (fun xc xfs =>
  (((((isE ti_NoPart xc xfs)).bind fun t_52 => (((isE ti_Twice xc xfs)).bind fun t_50 => (((isE ti_InRing xc xfs)).bind fun t_48 => (((isE ti_NoGap xc xfs)).bind fun t_46 => (((isE ti_Apart xc xfs)).bind fun t_44 => (R.ok ([] : List Bool)).bind fun t_45 => R.ok (t_44 :: t_45)).bind fun t_47 => R.ok (t_46 :: t_47)).bind fun t_49 => R.ok (t_48 :: t_49)).bind fun t_51 => R.ok (t_50 :: t_51)).bind fun t_53 => R.ok (t_52 :: t_53)).bind few)).bind fun (named_54 : (List Bool)) =>
  (((((isE ti_NoTie xc xfs)).bind fun t_71 => (((isE ti_NoName xc xfs)).bind fun t_69 => (((isE ti_NoFace xc xfs)).bind fun t_67 => (((isE ti_Impossible xc xfs)).bind fun t_65 => (((isE ti_NoNumber xc xfs)).bind fun t_63 => (((isE ti_Tight xc xfs)).bind fun t_61 => (((isE ti_Off xc xfs)).bind fun t_59 => (((isE ti_NoRow xc xfs)).bind fun t_57 => (((((isE ti_ValueError xc xfs)).map (!·))).bind fun t_55 => (R.ok ([] : List Bool)).bind fun t_56 => R.ok (t_55 :: t_56)).bind fun t_58 => R.ok (t_57 :: t_58)).bind fun t_60 => R.ok (t_59 :: t_60)).bind fun t_62 => R.ok (t_61 :: t_62)).bind fun t_64 => R.ok (t_63 :: t_64)).bind fun t_66 => R.ok (t_65 :: t_66)).bind fun t_68 => R.ok (t_67 :: t_68)).bind fun t_70 => R.ok (t_69 :: t_70)).bind fun t_72 => R.ok (t_71 :: t_72)).bind few)).bind fun (others_73 : (List Bool)) =>
  .ok (named_54, others_73, found_3))).bind fun (st_37 : (List Bool) × (List Bool) × (Option ThingV)) =>
  R.cond (((R.ok st_37.2.2)).map fun o => !o.isNone)
  ((((R.ok ("made" : Str))).bind fun t_76 => ((R.ok st_37.2.2)).bind fun t_77 => R.ok (t_76, t_77)))
  (R.cond (orB (R.b2 (R.ok true) (R.ok st_37.2.1) (inR false)) (R.b2 (R.b2 (R.ok st_37.1) (R.ok true) fun l b => .ok ((l.countP (· == b) : Nat) : Int)) (R.ok (1 : Int)) fun i j => .ok (!decide (i = j))))
  ((((R.ok ("none" : Str))).bind fun t_80 => ((R.ok (none : Option ThingV))).bind fun t_81 => R.ok (t_80, t_81)))
  ((((R.b2 ((((R.ok ("part" : Str))).bind fun t_90 => (((R.ok ("twice" : Str))).bind fun t_88 => (((R.ok ("ring" : Str))).bind fun t_86 => (((R.ok ("gap" : Str))).bind fun t_84 => (((R.ok ("apart" : Str))).bind fun t_82 => (R.ok ([] : List Str)).bind fun t_83 => R.ok (t_82 :: t_83)).bind fun t_85 => R.ok (t_84 :: t_85)).bind fun t_87 => R.ok (t_86 :: t_87)).bind fun t_89 => R.ok (t_88 :: t_89)).bind fun t_91 => R.ok (t_90 :: t_91)).bind few) (R.b2 (R.ok st_37.1) (R.ok true) idxB) ixL)).bind fun t_92 => ((R.ok (none : Option ThingV))).bind fun t_93 => R.ok (t_92, t_93))))
noncomputable def F__law_drawn (v_script : (List Int)) (v_style : Int) : R ((List (Bool × D)) × (List (Bool × D))) :=
  (((R.ok ([] : List (Bool × D))).bind few)).bind fun (parts_1 : (List (Bool × D))) =>
  ((((((((R.ok v_script)).bind fun c_2 => ((R.ok (0 : Int))).bind fun c_3 => F__law_cell c_2 c_3)).map fun a_4 => a_4 % 7)).bind rng1)).bind fun l_125 => (foldR l_125 (parts_1 : (List (Bool × D))) (fun (x_6 : Int) (st_7 : (List (Bool × D))) =>
  ((((R.ok x_6)).bind fun c_84 => (((((((R.ok v_script)).bind fun c_72 => ((R.b2 (R.ok (3 : Int)) (((R.ok x_6)).map fun a_68 => 2 * a_68) addI)).bind fun c_73 => F__law_cell c_72 c_73)).bind fun t_82 => (((((R.ok v_script)).bind fun c_78 => ((R.b2 (R.ok (4 : Int)) (((R.ok x_6)).map fun a_74 => 2 * a_74) addI)).bind fun c_79 => F__law_cell c_78 c_79)).bind fun t_80 => (R.ok ([] : List Int)).bind fun t_81 => R.ok (t_80 :: t_81)).bind fun t_83 => R.ok (t_82 :: t_83)).bind few)).bind fun c_85 => ((R.ok v_style)).bind fun c_86 => F__law_part c_84 c_85 c_86)).bind fun (part_here_87 : PartV) =>
  ((((((((((R.ok v_script)).bind fun c_92 => ((R.b2 (R.ok (3 : Int)) (((R.ok x_6)).map fun a_88 => 2 * a_88) addI)).bind fun c_93 => F__law_cell c_92 c_93)).map fun a_94 => a_94 * 69621)).map fun a_96 => a_96 % 2147483587)).map fun a_98 => a_98 / 37)).bind fun (way_100 : Int) =>
  R.cond (R.b2 (((((R.ok way_100)).map fun a_101 => a_101 / 8192)).map fun a_103 => a_103 % 11) (R.ok (1 : Int)) fun i j => .ok (decide (i = j)))
  (((((R.ok false)).bind fun t_118 => ((((((R.ok part_here_87)).map (fun t : PartV => (⟨[enc t.name, enc t.start, enc t.fin, enc t.size, enc t.most, enc t.weight]⟩ : TupD)))).bind fun c_116 => ((R.ok way_100)).bind fun c_117 => F__law_spoiled c_116 c_117)).bind fun t_119 => R.ok (t_118, t_119))).bind fun a_120 => (few st_7).bind fun _ => (R.ok (st_7 ++ [a_120])).bind fun (parts_115 : (List (Bool × D))) =>
  .ok parts_115)
  (((((R.ok true)).bind fun t_122 => ((((R.ok part_here_87)).map enc)).bind fun t_123 => R.ok (t_122, t_123))).bind fun a_124 => (few st_7).bind fun _ => (R.ok (st_7 ++ [a_124])).bind fun (parts_121 : (List (Bool × D))) =>
  .ok parts_121))).bind fun (st_7 : (List (Bool × D))) =>
  (((R.ok ([] : List (Bool × D))).bind few)).bind fun (gaps_126 : (List (Bool × D))) =>
  ((((((((R.ok v_script)).bind fun c_127 => ((R.ok (1 : Int))).bind fun c_128 => F__law_cell c_127 c_128)).map fun a_129 => a_129 % 6)).bind rng1)).bind fun l_250 => (foldR l_250 (gaps_126 : (List (Bool × D))) (fun (x_131 : Int) (st_132 : (List (Bool × D))) =>
  ((((R.ok x_131)).bind fun c_209 => (((((((R.ok v_script)).bind fun c_197 => ((R.b2 (R.ok (15 : Int)) (((R.ok x_131)).map fun a_193 => 2 * a_193) addI)).bind fun c_198 => F__law_cell c_197 c_198)).bind fun t_207 => (((((R.ok v_script)).bind fun c_203 => ((R.b2 (R.ok (16 : Int)) (((R.ok x_131)).map fun a_199 => 2 * a_199) addI)).bind fun c_204 => F__law_cell c_203 c_204)).bind fun t_205 => (R.ok ([] : List Int)).bind fun t_206 => R.ok (t_205 :: t_206)).bind fun t_208 => R.ok (t_207 :: t_208)).bind few)).bind fun c_210 => ((R.ok v_style)).bind fun c_211 => F__law_gap c_209 c_210 c_211)).bind fun (gap_here_212 : GapV) =>
  ((((((((((R.ok v_script)).bind fun c_217 => ((R.b2 (R.ok (15 : Int)) (((R.ok x_131)).map fun a_213 => 2 * a_213) addI)).bind fun c_218 => F__law_cell c_217 c_218)).map fun a_219 => a_219 * 69621)).map fun a_221 => a_221 % 2147483587)).map fun a_223 => a_223 / 37)).bind fun (way_225 : Int) =>
  R.cond (R.b2 (((((R.ok way_225)).map fun a_226 => a_226 / 8192)).map fun a_228 => a_228 % 11) (R.ok (1 : Int)) fun i j => .ok (decide (i = j)))
  (((((R.ok false)).bind fun t_243 => ((((((R.ok gap_here_212)).map (fun t : GapV => (⟨[enc t.name, enc t.one, enc t.other, enc t.low, enc t.high]⟩ : TupD)))).bind fun c_241 => ((R.ok way_225)).bind fun c_242 => F__law_spoiled c_241 c_242)).bind fun t_244 => R.ok (t_243, t_244))).bind fun a_245 => (few st_132).bind fun _ => (R.ok (st_132 ++ [a_245])).bind fun (gaps_240 : (List (Bool × D))) =>
  .ok gaps_240)
  (((((R.ok true)).bind fun t_247 => ((((R.ok gap_here_212)).map enc)).bind fun t_248 => R.ok (t_247, t_248))).bind fun a_249 => (few st_132).bind fun _ => (R.ok (st_132 ++ [a_249])).bind fun (gaps_246 : (List (Bool × D))) =>
  .ok gaps_246))).bind fun (st_132 : (List (Bool × D))) =>
  (((R.ok st_7)).bind fun t_251 => ((R.ok st_132)).bind fun t_252 => R.ok (t_251, t_252))
noncomputable def F_law (v_script : (List Int)) : R Bool :=
  ((((((R.ok v_script)).bind fun c_1 => ((R.ok (2 : Int))).bind fun c_2 => F__law_cell c_1 c_2)).map fun a_3 => a_3 % 4)).bind fun (style_5 : Int) =>
  ((((R.ok v_script)).bind fun c_6 => ((R.ok style_5)).bind fun c_7 => F__law_drawn c_6 c_7)).bind fun (p_8 : ((List (Bool × D)) × (List (Bool × D)))) =>
  ((((R.ok p_8.1)).bind fun c_9 => ((R.ok p_8.2)).bind fun c_10 => F__law_due c_9 c_10)).bind fun (due_here_11 : Str) =>
  (((((R.ok p_8.1)).bind fun l_13 => (compR (fun (x_12 : (Bool × D)) => (R.ok true)) (fun (x_12 : (Bool × D)) => (((R.ok x_12)).map (fun t : (Bool × D) => t.2))) l_13 []).noexc)).bind fun a_17 => (((((R.ok p_8.2)).bind fun l_15 => (compR (fun (x_14 : (Bool × D)) => (R.ok true)) (fun (x_14 : (Bool × D)) => (((R.ok x_14)).map (fun t : (Bool × D) => t.2))) l_15 []).noexc)).noexc).bind fun b_18 => R.ok (⟨a_17, b_18⟩ : Two)).bind fun (handed_16 : Two) =>
  (((((((R.ok handed_16.a)).bind fun l => .ok l)).bind fun t_21 => (((((R.ok handed_16.b)).bind fun l => .ok l)).bind fun t_19 => (R.ok ([] : List (List D))).bind fun t_20 => R.ok (t_19 :: t_20)).bind fun t_22 => R.ok (t_21 :: t_22)).bind few)).bind fun (kept_23 : (List (List D))) =>
  ((((R.ok handed_16.a)).bind fun c_24 => ((R.ok handed_16.b)).bind fun c_25 => F__law_made c_24 c_25)).bind fun (p_26 : (Str × (Option ThingV))) =>
  R.cond (orB (R.b2 (R.ok p_26.1) (R.ok due_here_11) (eqR true)) (((R.ok kept_23)).bind fun k_27 => neTwo handed_16 k_27))
  ((R.ok false))
  (R.cond (((R.ok p_26.2)).map fun o => o.isNone)
  ((R.ok true))
  (((((R.ok (1 : Int))).map enc)).bind fun a_29 => (few handed_16.a).bind fun _ => (R.ok (⟨handed_16.a ++ [a_29], handed_16.b⟩ : Two)).bind fun (handed_28 : Two) =>
  (R.ok (⟨handed_28.a, handed_28.b.reverse⟩ : Two)).bind fun (handed_30 : Two) =>
  R.cond (orB (R.b2 (((((R.ok p_26.2)).bind unw)).bind fun c_33 => F_Thing_parts c_33) ((((R.b2 (R.ok kept_23) (R.ok (0 : Int)) ixL)).map enc).bind (unE (List PartV))) (eqR true)) (R.b2 (((((R.ok p_26.2)).bind unw)).bind fun c_32 => F_Thing_gaps c_32) ((((R.b2 (R.ok kept_23) (R.ok (1 : Int)) ixL)).map enc).bind (unE (List GapV))) (eqR true)))
  ((R.ok false))
  ((((((((((R.ok p_26.2)).bind unw)).bind fun c_34 => F_Thing_parts c_34)).map fun l => l.map (enc (α := PartV)))).bind fun a_37 => (((((((((R.ok p_26.2)).bind unw)).bind fun c_35 => F_Thing_gaps c_35)).map fun l => l.map (enc (α := GapV)))).noexc).bind fun b_38 => R.ok (⟨a_37, b_38⟩ : Two)).bind fun (told_36 : Two) =>
  ((((R.ok (1 : Int))).map enc)).bind fun a_40 => (few told_36.a).bind fun _ => (R.ok (⟨told_36.a ++ [a_40], told_36.b⟩ : Two)).bind fun (told_39 : Two) =>
  ((((R.ok (1 : Int))).map enc)).bind fun a_42 => (few told_39.b).bind fun _ => (R.ok (⟨told_39.a, told_39.b ++ [a_42]⟩ : Two)).bind fun (told_41 : Two) =>
  (andB (R.b2 (((((R.ok p_26.2)).bind unw)).bind fun c_44 => F_Thing_parts c_44) ((((R.b2 (R.ok kept_23) (R.ok (0 : Int)) ixL)).map enc).bind (unE (List PartV))) (eqR false)) (R.b2 (((((R.ok p_26.2)).bind unw)).bind fun c_43 => F_Thing_gaps c_43) ((((R.b2 (R.ok kept_23) (R.ok (1 : Int)) ixL)).map enc).bind (unE (List GapV))) (eqR false))))))
end K41


namespace K41
open PySem PySem.Spec PyProof.Rows L2 DL FR TF
open TF.Enc
/-! ### what is a part, a gap: any data asked -/
/-- data whose kind can be asked -/
def Q1 (d : D) : Prop := (tyD noHeap d).isSome = true ∧ ∀ z, d = .str z → Few z.length
theorem name_eval {d : D} (h : Q1 d) : F_is_name d = .ok (nameD d) := if_pos h
theorem q1_str {z : Str} (h : nameB z = true) : Q1 (.str z) := ⟨rfl, fun y e => by cases e; exact (nameB_few h).1⟩
theorem un_tup (l : List D) : unE TupD (.tup l) = .ok ⟨l⟩ := unE_ok (a := (⟨l⟩ : TupD))
theorem ends_no {d : D} {n : Int} (h : isiD "tuple" d = .ok false) : F_has_ends d n = .ok false := by
  unfold F_has_ends
  simp only [R.ok_bind, R.exc_bind, R.bad_bind, R.bind_assoc, R.noexc_ok, R.b2, R.map, R.cond, R.flow, addI, subI, andB, orB, unw_some, unw_none, few_nil, ofRat, isCls, Option.isNone_none, Option.isNone_some, Bool.not_true, Bool.not_false, Bool.false_eq_true, if_true, if_false, h]
theorem isi_tup (l : List D) : isiD "tuple" (.tup l) = .ok true := by
  show R.ok (instB "tuple" "tuple") = _
  exact congrArg R.ok (by decide +kernel)
theorem ends_len {l : List D} {n : Int} (h : (l.length : Int) ≠ n) : F_has_ends (.tup l) n = .ok false := by
  unfold F_has_ends
  simp only [R.ok_bind, R.exc_bind, R.bad_bind, R.bind_assoc, R.noexc_ok, R.b2, R.map, R.cond, R.flow, addI, subI, andB, orB, unw_some, unw_none, few_nil, ofRat, isCls, Option.isNone_none, Option.isNone_some, Bool.not_true, Bool.not_false, Bool.false_eq_true, if_true, if_false, isi_tup, un_tup]
  rw [decide_eq_false h]; rfl
theorem ends_eval {x0 x1 x2 : D} {r : List D} {n : Int} (hn : (r.length : Int) + 3 = n) (q0 : Q1 x0) (q1 : Q1 x1) (q2 : Q1 x2) :
    F_has_ends (.tup (x0 :: x1 :: x2 :: r)) n = if nameD x0 = true ∧ nameD x1 = true ∧ nameD x2 = true then (deStr x1).bind fun a => (deStr x2).bind fun b => eqR true a b else .ok false := by
  unfold F_has_ends
  have hl : decide (((x0 :: x1 :: x2 :: r).length : Int) = n) = true := decide_eq_true (by simp only [List.length_cons]; omega)
  have hc : cut (x0 :: x1 :: x2 :: r) none (some 3) = [x0, x1, x2] := by
    unfold cut HT.sIx
    simp
  have i1 : ixTup ⟨x0 :: x1 :: x2 :: r⟩ 1 = .ok x1 := by unfold ixTup; rw [ixL_ok (by decide) (by simp only [List.length_cons]; omega)]; rfl
  have i2 : ixTup ⟨x0 :: x1 :: x2 :: r⟩ 2 = .ok x2 := by unfold ixTup; rw [ixL_ok (by decide) (by simp only [List.length_cons]; omega)]; rfl
  simp only [R.ok_bind, R.exc_bind, R.bad_bind, R.bind_assoc, R.noexc_ok, R.b2, R.map, R.cond, R.flow, addI, subI, andB, orB, unw_some, unw_none, few_nil, ofRat, isCls, Option.isNone_none, Option.isNone_some, Bool.not_true, Bool.not_false, Bool.false_eq_true, if_true, if_false, isi_tup, un_tup]
  rw [hl, hc]
  simp only [R.ok_bind, R.exc_bind, R.bad_bind, R.bind_assoc, R.noexc_ok, R.b2, R.map, R.cond, R.flow, addI, subI, andB, orB, unw_some, unw_none, few_nil, ofRat, isCls, Option.isNone_none, Option.isNone_some, Bool.not_true, Bool.not_false, Bool.false_eq_true, if_true, if_false, i1, i2]
  cases h0 : nameD x0 with
  | false => simp [forR, name_eval q0, h0]
  | true =>
    cases h1 : nameD x1 with
    | false => simp [forR, name_eval q0, h0, name_eval q1, h1]
    | true =>
      cases h2 : nameD x2 with
      | false => simp [forR, name_eval q0, h0, name_eval q1, h1, name_eval q2, h2]
      | true => simp [forR, name_eval q0, h0, name_eval q1, h1, name_eval q2, h2]
theorem ends_bad {x0 x1 x2 : D} {r : List D} {n : Int} (hn : (r.length : Int) + 3 = n) (q0 : Q1 x0) (q1 : Q1 x1) (q2 : Q1 x2) (h : nameD x0 = false ∨ nameD x1 = false ∨ nameD x2 = false) : F_has_ends (.tup (x0 :: x1 :: x2 :: r)) n = .ok false := by
  rw [ends_eval hn q0 q1 q2, if_neg]
  rintro ⟨a, b, c⟩
  rcases h with h | h | h
  · rw [a] at h; cases h
  · rw [b] at h; cases h
  · rw [c] at h; cases h
theorem ends_names {a b c : Str} {r : List D} {n : Int} (hn : (r.length : Int) + 3 = n) (ha : nameB a = true) (hb : nameB b = true) (hc : nameB c = true) : F_has_ends (.tup (.str a :: .str b :: .str c :: r)) n = .ok (!decide (b = c)) := by
  rw [ends_eval hn (q1_str ha) (q1_str hb) (q1_str hc), if_pos ⟨ha, hb, hc⟩]
  simp only [deStr_str, R.ok_bind]
  rw [eqR_ok (nameB_few hb).2 (nameB_few hc).2]; simp
theorem frac_eval {d : D} (h : tyOk noHeap d = true) : F_is_fraction d = .ok (fracB d) := if_pos h
theorem whole_eval {d : D} (h : (tyD noHeap d).isSome = true) : F_is_whole d = .ok (isIntD d) := if_pos h
theorem ix_tup {l : List D} {i : Int} {d : D} (h : atI l i = some d) : ixTup ⟨l⟩ i = .ok d := by
  unfold ixTup ixL; rw [h]
/-- no part: its ends are none -/
theorem part_ends {d : D} (h : F_has_ends d 6 = .ok false) : F_is_part d = .ok false := by
  unfold F_is_part
  simp only [R.ok_bind, R.exc_bind, R.bad_bind, R.bind_assoc, R.noexc_ok, R.b2, R.map, R.cond, R.flow, addI, subI, andB, orB, unw_some, unw_none, few_nil, ofRat, isCls, Option.isNone_none, Option.isNone_some, Bool.not_true, Bool.not_false, Bool.false_eq_true, if_true, if_false, h]
theorem gap_ends {d : D} (h : F_has_ends d 5 = .ok false) : F_is_gap d = .ok false := by
  unfold F_is_gap
  simp only [R.ok_bind, R.exc_bind, R.bad_bind, R.bind_assoc, R.noexc_ok, R.b2, R.map, R.cond, R.flow, addI, subI, andB, orB, unw_some, unw_none, few_nil, ofRat, isCls, Option.isNone_none, Option.isNone_some, Bool.not_true, Bool.not_false, Bool.false_eq_true, if_true, if_false, h]
theorem tyOk_fr (q : Rat) : tyOk noHeap (enc q) = true := by show tyOk noHeap (frD q) = true; rw [frD_def]; rfl
theorem fracB_q (q : Rat) : fracB (enc q) = true := by show fracB (frD q) = true; rw [fracB_eq, deFr_frD]; rfl
theorem un_fr (q : Rat) : unE (Int × Int) (enc q) = .ok (q.num, (q.den : Int)) := by
  have e : (enc q : D) = enc (q.num, (q.den : Int)) := by show frD q = _; rw [frD_def]; rfl
  rw [e, unE_ok]
section
variable {a b c : Str} (ha : nameB a = true) (hb : nameB b = true) (hc : nameB c = true) (hne : b ≠ c)
include ha hb hc hne
theorem ends6 {x y z : D} : F_has_ends (.tup [.str a, .str b, .str c, x, y, z]) 6 = .ok true := by
  rw [ends_names (r := [x, y, z]) (n := 6) rfl ha hb hc, decide_eq_false hne]; rfl
theorem ends5 {x y : D} : F_has_ends (.tup [.str a, .str b, .str c, x, y]) 5 = .ok true := by
  rw [ends_names (r := [x, y]) (n := 5) rfl ha hb hc, decide_eq_false hne]; rfl
/-- no part: a size or most that is no fraction -/
theorem part_frac {x y z : D} (tx : tyOk noHeap x = true) (ty : tyOk noHeap y = true) (h : fracB x = false ∨ fracB y = false) : F_is_part (.tup [.str a, .str b, .str c, x, y, z]) = .ok false := by
  unfold F_is_part
  simp only [R.ok_bind, R.exc_bind, R.bad_bind, R.bind_assoc, R.noexc_ok, R.b2, R.map, R.cond, R.flow, addI, subI, andB, orB, unw_some, unw_none, few_nil, ofRat, isCls, Option.isNone_none, Option.isNone_some, Bool.not_true, Bool.not_false, Bool.false_eq_true, if_true, if_false, ends6 ha hb hc hne, un_tup, ix_tup (l := [.str a, .str b, .str c, x, y, z]) (i := 3) (d := x) rfl, ix_tup (l := [.str a, .str b, .str c, x, y, z]) (i := 4) (d := y) rfl, frac_eval tx, frac_eval ty]
  cases hx : fracB x with
  | false => rfl
  | true =>
    rcases h with h | h
    · rw [h] at hx; cases hx
    · rw [h]; rfl
theorem gap_frac {x y : D} (tx : tyOk noHeap x = true) (ty : tyOk noHeap y = true) (h : fracB x = false ∨ fracB y = false) : F_is_gap (.tup [.str a, .str b, .str c, x, y]) = .ok false := by
  unfold F_is_gap
  simp only [R.ok_bind, R.exc_bind, R.bad_bind, R.bind_assoc, R.noexc_ok, R.b2, R.map, R.cond, R.flow, addI, subI, andB, orB, unw_some, unw_none, few_nil, ofRat, isCls, Option.isNone_none, Option.isNone_some, Bool.not_true, Bool.not_false, Bool.false_eq_true, if_true, if_false, ends5 ha hb hc hne, un_tup, ix_tup (l := [.str a, .str b, .str c, x, y]) (i := 3) (d := x) rfl, ix_tup (l := [.str a, .str b, .str c, x, y]) (i := 4) (d := y) rfl, frac_eval tx, frac_eval ty]
  cases hx : fracB x with
  | false => rfl
  | true =>
    rcases h with h | h
    · rw [h] at hx; cases hx
    · rw [h]; rfl
theorem part_rest (q r : Rat) {z : D} (tz : (tyD noHeap z).isSome = true) : F_is_part (.tup [.str a, .str b, .str c, enc q, enc r, z]) = if 0 ≤ r.num ∧ isIntD z = true then (unE Int z).bind fun k => .ok (decide (0 < k)) else .ok false := by
  unfold F_is_part
  simp only [R.ok_bind, R.exc_bind, R.bad_bind, R.bind_assoc, R.noexc_ok, R.b2, R.map, R.cond, R.flow, addI, subI, andB, orB, unw_some, unw_none, few_nil, ofRat, isCls, Option.isNone_none, Option.isNone_some, Bool.not_true, Bool.not_false, Bool.false_eq_true, if_true, if_false, ends6 ha hb hc hne, un_tup, ix_tup (l := [.str a, .str b, .str c, enc q, enc r, z]) (i := 3) (d := enc q) rfl, ix_tup (l := [.str a, .str b, .str c, enc q, enc r, z]) (i := 4) (d := enc r) rfl, ix_tup (l := [.str a, .str b, .str c, enc q, enc r, z]) (i := 5) (d := z) rfl,
    frac_eval (tyOk_fr q), frac_eval (tyOk_fr r), fracB_q, un_fr, whole_eval tz]
  by_cases h0 : 0 ≤ r.num
  · rw [decide_eq_true h0]
    cases hz : isIntD z with
    | false => simp
    | true => simp [h0]
  · rw [decide_eq_false h0, if_neg fun h : 0 ≤ r.num ∧ isIntD z = true => h0 h.1]; rfl
theorem gap_rest {q r : Rat} (hq : Sm q) (hr : Sm r) : F_is_gap (.tup [.str a, .str b, .str c, enc q, enc r]) = .ok (!decide (r < q)) := by
  unfold F_is_gap
  simp only [R.ok_bind, R.exc_bind, R.bad_bind, R.bind_assoc, R.noexc_ok, R.b2, R.map, R.cond, R.flow, addI, subI, andB, orB, unw_some, unw_none, few_nil, ofRat, isCls, Option.isNone_none, Option.isNone_some, Bool.not_true, Bool.not_false, Bool.false_eq_true, if_true, if_false, ends5 ha hb hc hne, un_tup, ix_tup (l := [.str a, .str b, .str c, enc q, enc r]) (i := 3) (d := enc q) rfl, ix_tup (l := [.str a, .str b, .str c, enc q, enc r]) (i := 4) (d := enc r) rfl,
    frac_eval (tyOk_fr q), frac_eval (tyOk_fr r), fracB_q, unE_ok]
  unfold F_under
  rw [if_pos ⟨hr, hq⟩]; rfl
end
theorem encP (p : PartV) : (enc p : D) = .tup [.str p.name, .str p.start, .str p.fin, enc p.size, enc p.most, .int p.weight] := rfl
theorem encG (g : GapV) : (enc g : D) = .tup [.str g.name, .str g.one, .str g.other, enc g.low, enc g.high] := rfl
theorem part_good {p : PartV} (h : OkP p) : F_is_part (enc p) = .ok true := by
  rw [encP, part_rest h.n h.s h.f h.ne p.size p.most rfl, if_pos ⟨Rat.num_nonneg.mpr h.most, rfl⟩]
  rw [show (D.int p.weight) = enc p.weight from rfl, unE_ok, R.ok_bind, decide_eq_true h.w]
theorem gap_good {g : GapV} (h : OkG g) : F_is_gap (enc g) = .ok true := by
  rw [encG, gap_rest h.n h.s h.f h.ne h.lo h.hi, decide_eq_false (Rat.not_lt.mpr h.le)]; rfl
end K41
namespace K41
open PySem PySem.Spec PyProof.Rows L2 DL FR TF
open TF.Enc
/-! ### the marks of faces that are joined -/
structure MK (ps : List PartV) (m : Dic Str Str) : Prop where
  pr : ∀ p ∈ ps, ∃ a, m.get? p.start = some a ∧ m.get? p.fin = some a
  jo : ∀ f a, m.get? f = some a → JoinP ps f a ∧ a ∈ m.keys
  gd : ∀ f ∈ m.keys, GdS f
  nd : m.keys.Nodup
  len : m.l.length ≤ 2 * ps.length
theorem MK.gv {ps m} (M : MK ps m) {f a : Str} (h : m.get? f = some a) : GdS a := M.gd a (M.jo f a h).2
theorem mk_empty : MK [] ⟨[]⟩ := ⟨fun _ h => (nomatch h), fun f a h => (nomatch h), fun _ h => (nomatch h), List.nodup_nil, Nat.zero_le _⟩
theorem join_faces {ps : List PartV} {f g : Str} (h : JoinP ps f g) : f = g ∨ ((∃ p ∈ ps, p.start = f ∨ p.fin = f) ∧ ∃ p ∈ ps, p.start = g ∨ p.fin = g) := by
  induction h with
  | refl => exact .inl rfl
  | @fwd p j hp ih =>
    refine .inr ⟨?_, p, hp, .inr rfl⟩
    rcases ih with rfl | ⟨h1, _⟩
    · exact ⟨p, hp, .inl rfl⟩
    · exact h1
  | @bwd p j hp ih =>
    refine .inr ⟨?_, p, hp, .inl rfl⟩
    rcases ih with rfl | ⟨h1, _⟩
    · exact ⟨p, hp, .inr rfl⟩
    · exact h1
/-- joined faces have one mark -/
theorem MK.same {ps m} (M : MK ps m) {f g : Str} (hne : f ≠ g) : JoinP ps f g ↔ ∃ a, m.get? f = some a ∧ m.get? g = some a := by
  constructor
  · intro h
    have key := h.const (fun f => m.get? f) fun p hp => by obtain ⟨a, h1, h2⟩ := M.pr p hp; rw [h1, h2]
    rcases join_faces h with e | ⟨⟨p, hp, hf⟩, _⟩
    · exact absurd e hne
    · obtain ⟨a, h1, h2⟩ := M.pr p hp
      refine ⟨a, ?_, ?_⟩
      · rcases hf with rfl | rfl
        · exact h1
        · exact h2
      · rw [← key]
        rcases hf with rfl | rfl
        · exact h1
        · exact h2
  · rintro ⟨a, h1, h2⟩
    exact (M.jo f a h1).1.trans (M.jo g a h2).1.symm
/-- the test of the law's walk: are two faces joined -/
theorem MK.test {ps m} (M : MK ps m) {f g : Str} (hne : f ≠ g) : ∃ b : Bool, (if (m.get? f).isSome = true then if (m.get? g).isSome = true then (getR m f).bind fun a => (getR m g).bind fun b => eqR false a b else R.ok false else R.ok false) = .ok b ∧ (b = true ↔ JoinP ps f g) := by
  have S := M.same hne
  cases hf : m.get? f with
  | none =>
    have : ¬ JoinP ps f g := fun h => by obtain ⟨a, h1, _⟩ := S.mp h; rw [hf] at h1; cases h1
    exact ⟨false, rfl, fun h => (nomatch h), fun h => absurd h this⟩
  | some a =>
    cases hg : m.get? g with
    | none =>
      have : ¬ JoinP ps f g := fun h => by obtain ⟨a, _, h1⟩ := S.mp h; rw [hg] at h1; cases h1
      exact ⟨false, rfl, fun h => (nomatch h), fun h => absurd h this⟩
    | some b =>
      refine ⟨decide (a = b), ?_, fun e => ?_, fun h => ?_⟩
      · simp only [Option.isSome_some, if_true]
        rw [getR_ok hf, R.ok_bind, getR_ok hg, R.ok_bind, eqS (M.gv hf) (M.gv hg)]
      · have := of_decide_eq_true e
        subst this; exact S.mpr ⟨a, hf, hg⟩
      · obtain ⟨c, h1, h2⟩ := S.mp h
        rw [hf] at h1; rw [hg] at h2
        cases h1; cases h2; exact decide_eq_true rfl
theorem MK.test2 {ps m} (M : MK ps m) {f g : Str} (hne : f ≠ g) : ∃ b : Bool, (if (!(m.get? f).isSome) = true then R.ok true else if (!(m.get? g).isSome) = true then R.ok true else (getR m f).bind fun a => (getR m g).bind fun b => eqR true a b) = .ok b ∧ (b = false ↔ JoinP ps f g) := by
  have S := M.same hne
  cases hf : m.get? f with
  | none =>
    have : ¬ JoinP ps f g := fun h => by obtain ⟨a, h1, _⟩ := S.mp h; rw [hf] at h1; cases h1
    exact ⟨true, rfl, fun h => (nomatch h), fun h => absurd h this⟩
  | some a =>
    cases hg : m.get? g with
    | none =>
      have : ¬ JoinP ps f g := fun h => by obtain ⟨a, _, h1⟩ := S.mp h; rw [hg] at h1; cases h1
      exact ⟨true, rfl, fun h => (nomatch h), fun h => absurd h this⟩
    | some b =>
      refine ⟨!decide (a = b), ?_, fun e => ?_, fun h => ?_⟩
      · simp only [Option.isSome_some, Bool.not_true, Bool.false_eq_true, if_false]
        rw [getR_ok hf, R.ok_bind, getR_ok hg, R.ok_bind, eqR_ok (M.gv hf) (M.gv hg)]; simp
      · have : a = b := by simpa using e
        subst this; exact S.mpr ⟨a, hf, hg⟩
      · obtain ⟨c, h1, h2⟩ := S.mp h
        rw [hf] at h1; rw [hg] at h2
        cases h1; cases h2; simp
/-- marks changed from one to another -/
def chg (there here a : Str) : Str := if a = there then here else a
theorem recolor {m : Dic Str Str} (gk : ∀ f a, m.get? f = some a → GdS a) {there here : Str} (gt : GdS there) (gh : GdS here) (hl : m.l.length < 1000) : (foldR (m.l.map (·.1)) m fun x_3 st_4 => (getR st_4 x_3).bind fun a => (eqR false a there).bind fun c => if c = true then (fewD st_4).bind fun x => R.ok (st_4.put x_3 here) else R.ok st_4).sat
    fun d => d.keys = m.keys ∧ ∀ f, d.get? f = (m.get? f).map (chg there here) := by
  have main : (foldR (m.l.map (·.1)) m fun x_3 st_4 => (getR st_4 x_3).bind fun a => (eqR false a there).bind fun c => if c = true then (fewD st_4).bind fun x => R.ok (st_4.put x_3 here) else R.ok st_4).sat
      fun d => d.keys = m.keys ∧ (∀ f, f ∈ m.l.map (·.1) → d.get? f = (m.get? f).map (chg there here)) ∧ ∀ f, f ∉ m.l.map (·.1) → d.get? f = m.get? f := by
    refine foldR_ind (fun pre (d : Dic Str Str) => d.keys = m.keys ∧ (∀ f, f ∈ pre → d.get? f = (m.get? f).map (chg there here)) ∧ ∀ f, f ∉ pre → d.get? f = m.get? f) ?_ ⟨rfl, fun _ h => (nomatch h), fun _ _ => rfl⟩
    rintro pre x post d e ⟨h1, h2, h3⟩
    have hx : x ∈ m.keys := by show x ∈ m.l.map (·.1); rw [e]; simp
    obtain ⟨a0, ha0⟩ := Option.isSome_iff_exists.mp (Dic.isSome_iff.mpr hx)
    have hdl : d.l.length < 1000000 := by rw [← Dic.len_keys, h1, Dic.len_keys]; omega
    have hxd : x ∈ d.keys := by rw [h1]; exact hx
    have hd : ∃ a, d.get? x = some a ∧ GdS a ∧ chg there here a = chg there here a0 ∧ (x ∉ pre → a = a0) := by
      by_cases hp : x ∈ pre
      · refine ⟨chg there here a0, by rw [h2 x hp, ha0]; rfl, ?_, ?_, fun h => absurd hp h⟩
        · unfold chg; split
          · exact gh
          · exact gk x a0 ha0
        · unfold chg
          by_cases h : a0 = there
          · rw [if_pos h]; split <;> rfl
          · rw [if_neg h, if_neg h]
      · exact ⟨a0, by rw [h3 x hp]; exact ha0, gk x a0 ha0, rfl, fun _ => rfl⟩
    obtain ⟨a, ea, ga, ca, _⟩ := hd
    rw [getR_ok ea, R.ok_bind, eqS ga gt, R.ok_bind]
    by_cases h : a = there
    · rw [decide_eq_true h, if_pos rfl, fewD_ok hdl, R.ok_bind]
      refine sat_ok ⟨by rw [Dic.keys_put_old hxd]; exact h1, fun f hf => ?_, fun f hf => ?_⟩
      · rw [Dic.get_put]
        by_cases hfx : f = x
        · subst hfx
          rw [if_pos rfl, ha0, Option.map_some, ← ca]
          unfold chg; rw [if_pos h]
        · rw [if_neg hfx]
          rcases List.mem_append.mp hf with hf | hf
          · exact h2 f hf
          · exact absurd (List.mem_singleton.mp hf) hfx
      · rw [Dic.get_put, if_neg fun z => hf (by rw [z]; simp)]
        exact h3 f fun z => hf (List.mem_append_left _ z)
    · rw [decide_eq_false h, if_neg (by decide)]
      refine sat_ok ⟨h1, fun f hf => ?_, fun f hf => h3 f fun z => hf (List.mem_append_left _ z)⟩
      by_cases hfx : f = x
      · subst hfx
        rw [ea, ha0, Option.map_some, ← ca]
        unfold chg; rw [if_neg h]
      · rcases List.mem_append.mp hf with hf | hf
        · exact h2 f hf
        · exact absurd (List.mem_singleton.mp hf) hfx
  obtain ⟨d, e, h1, h2, h3⟩ := main
  refine ⟨d, e, h1, fun f => ?_⟩
  by_cases hf : f ∈ m.l.map (·.1)
  · exact h2 f hf
  · rw [h3 f hf, Dic.none_iff.mpr hf]; rfl
theorem joined_ok {ps m} (M : MK ps m) {p : PartV} (hs : GdS p.start) (hf : GdS p.fin) (hl : ps.length < 100) : (F__law_joined m p.start p.fin).sat (MK (ps ++ [p])) := by
  unfold F__law_joined
  simp only [R.ok_bind, R.exc_bind, R.bad_bind, R.bind_assoc, R.noexc_ok, R.b2, R.map, R.cond, R.flow, addI, subI, andB, orB, unw_some, unw_none, few_nil, ofRat, isCls, Option.isNone_none, Option.isNone_some, Bool.not_true, Bool.not_false, Bool.false_eq_true, if_true, if_false]
  have hm := M.len
  let here : Str := (m.get? p.start).getD p.start
  let there : Str := (m.get? p.fin).getD p.fin
  have gh : GdS here := by
    show GdS ((m.get? p.start).getD p.start)
    cases h : m.get? p.start with
    | none => exact hs
    | some a => exact M.gv h
  have gt : GdS there := by
    show GdS ((m.get? p.fin).getD p.fin)
    cases h : m.get? p.fin with
    | none => exact hf
    | some a => exact M.gv h
  refine sat_bind (recolor (there := there) (here := here) (fun f a h => M.gv h) gt gh (by omega)) fun d ⟨k1, k2⟩ => ?_
  have hdl : d.l.length = m.l.length := by rw [← Dic.len_keys, k1, Dic.len_keys]
  have l1 : ∀ (d : Dic Str Str) (k a : Str), (d.put k a).l.length ≤ d.l.length + 1 := fun d k a => by
    rw [← Dic.len_keys, ← Dic.len_keys]
    by_cases h : k ∈ d.keys
    · rw [Dic.keys_put_old h]; omega
    · rw [Dic.keys_put_new h]; simp
  have q1 := l1 d p.start here
  have q2 := l1 (d.put p.start here) p.fin here
  rw [fewD_ok (by omega), R.ok_bind, fewD_ok (by show (d.put p.start here).l.length < _; omega), R.ok_bind]
  have jn : JoinP (ps ++ [p]) p.start p.fin := .fwd (.refl _) (by simp)
  have jh : JoinP (ps ++ [p]) p.start here := by
    show JoinP _ _ ((m.get? p.start).getD p.start)
    cases h : m.get? p.start with
    | none => exact .refl _
    | some a => exact (M.jo _ _ h).1.more
  have get : ∀ f, ((d.put p.start here).put p.fin here).get? f = if f = p.fin then some here else if f = p.start then some here else (m.get? f).map (chg there here) := fun f => by
    rw [Dic.get_put, Dic.get_put, k2]
  have hmem : ∀ f, f ∈ ((d.put p.start here).put p.fin here).keys ↔ f = p.fin ∨ f = p.start ∨ f ∈ m.keys := fun f => by rw [Dic.mem_put, Dic.mem_put, k1]
  have hin0 : here = p.start ∨ here ∈ m.keys := by
    have : ∀ o : Option Str, (∀ a, o = some a → a ∈ m.keys) → o.getD p.start = p.start ∨ o.getD p.start ∈ m.keys := fun o h => by
      cases o with
      | none => exact .inl rfl
      | some a => exact .inr (h a rfl)
    exact this _ fun a h => (M.jo _ _ h).2
  have hin : here ∈ ((d.put p.start here).put p.fin here).keys := by
    rw [hmem]
    rcases hin0 with h | h
    · exact .inr (.inl h)
    · exact .inr (.inr h)
  -- a face's mark now, where it had one
  have now : ∀ f a, m.get? f = some a → ((d.put p.start here).put p.fin here).get? f = some (if f = p.fin then here else if f = p.start then here else chg there here a) := fun f a h => by
    rw [get]
    split
    · rfl
    · split
      · rfl
      · rw [h]; rfl
  have uni : ∀ f a, m.get? f = some a → (if f = p.fin then here else if f = p.start then here else chg there here a) = chg there here a := fun f a h => by
    split
    · rename_i e
      have : there = a := by show (m.get? p.fin).getD p.fin = a; rw [← e, h]; rfl
      unfold chg; rw [if_pos this.symm]
    · split
      · rename_i e
        have : here = a := by show (m.get? p.start).getD p.start = a; rw [← e, h]; rfl
        unfold chg; split
        · rfl
        · exact this
      · rfl
  refine sat_ok ⟨fun q hq => ?_, fun f b hb => ?_, fun f hfm => ?_, ?_, ?_⟩
  · rcases List.mem_append.mp hq with hq | hq
    · obtain ⟨a, h1, h2⟩ := M.pr q hq
      exact ⟨chg there here a, by rw [now _ _ h1, uni _ _ h1], by rw [now _ _ h2, uni _ _ h2]⟩
    · cases List.mem_singleton.mp hq
      refine ⟨here, ?_, by rw [get, if_pos rfl]⟩
      rw [get]
      split
      · rfl
      · rw [if_pos rfl]
  · rw [get] at hb
    split at hb
    · rename_i e; cases hb; subst e
      exact ⟨jn.symm.trans jh, hin⟩
    · split at hb
      · rename_i e; cases hb; subst e
        exact ⟨jh, hin⟩
      · cases h : m.get? f with
        | none => rw [h] at hb; cases hb
        | some a =>
          rw [h] at hb
          cases hb
          obtain ⟨j1, j2⟩ := M.jo f a h
          unfold chg
          split
          · rename_i e
            refine ⟨?_, hin⟩
            have jt : JoinP (ps ++ [p]) p.fin a := by
              rw [e]
              show JoinP _ _ ((m.get? p.fin).getD p.fin)
              cases h2 : m.get? p.fin with
              | none => exact .refl _
              | some b => exact (M.jo _ _ h2).1.more
            exact j1.more.trans (jt.symm.trans (jn.symm.trans jh))
          · exact ⟨j1.more, (hmem a).mpr (.inr (.inr j2))⟩
  · rcases (hmem f).mp hfm with rfl | rfl | h
    · exact hf
    · exact hs
    · exact M.gd f h
  · exact Dic.nodup_put (Dic.nodup_put (by rw [k1]; exact M.nd))
  · rw [List.length_append, List.length_singleton]
    show ((d.put p.start here).put p.fin here).l.length ≤ _
    omega
end K41
namespace K41
open PySem PySem.Spec PyProof.Rows L2 DL FR TF
open TF.Enc
/-! ### the walk over parts and gaps, here and there -/
inductive PtK : Bool × D → Prop
  | good {p : PartV} (h : OkP p) : PtK (true, enc p)
  | bad {d : D} (h : F_is_part d = .ok false) : PtK (false, d)
inductive GpK : Bool × D → Prop
  | good {g : GapV} (h : OkG g) : GpK (true, enc g)
  | bad {d : D} (h : F_is_gap d = .ok false) : GpK (false, d)
/-- parts so far: the law's marks and names, the thing as it stands -/
structure JP (ps : List PartV) (mrk : Dic Str Str) (nm : Dic Str Bool) (t : ThingV) : Prop where
  M : MK ps mrk
  ok : ∀ p ∈ ps, OkP p
  nn : (ps.map (·.name)).Nodup
  nk : nm.keys = ps.map (·.name)
  tp : t.parts = ps
  tg : t.gaps = []
  tw : t.ways = ⟨[]⟩
  ts : t.sizes.l = ps.map fun p => (p.name, p.size)
abbrev PSt : Type := Dic Str Str × Dic Str Bool
noncomputable abbrev BP : Bool × D → PSt → R (Fl PSt Str) := fun x_3 st_4 =>
  if (!x_3.fst) = true then R.ok (Fl.rt (Str.ofString "part"))
  else (unE PartV x_3.snd).bind fun a => if (st_4.snd.get? a.name).isSome = true then R.ok (Fl.rt (Str.ofString "twice"))
    else (unE PartV x_3.snd).bind fun a => (if (st_4.fst.get? a.start).isSome = true then (unE PartV x_3.snd).bind fun a => if (st_4.fst.get? a.fin).isSome = true then (unE PartV x_3.snd).bind fun a => (getR st_4.fst a.start).bind fun a => (unE PartV x_3.snd).bind fun a_1 => (getR st_4.fst a_1.fin).bind fun b => eqR false a b else R.ok false else R.ok false).bind fun c =>
      if c = true then R.ok (Fl.rt (Str.ofString "ring"))
      else (unE PartV x_3.snd).bind fun a => (fewD st_4.snd).bind fun x => (unE PartV x_3.snd).bind fun a_1 => (unE PartV x_3.snd).bind fun a_2 => (F__law_joined st_4.fst a_1.start a_2.fin).noexc.bind fun marks_31 => R.ok (Fl.nx (marks_31, st_4.snd.put a.name true))
noncomputable abbrev AP : D → ThingV → R ThingV := fun x st => (F_Thing_add_partD st x).bind fun t' => R.ok t'
/-- what the walk here tells, and what is raised there -/
def MW : Str → String → Prop := fun w c => (w = Str.ofString "part" ∧ c = "NoPart") ∨ (w = Str.ofString "twice" ∧ c = "Twice") ∨ (w = Str.ofString "ring" ∧ c = "InRing") ∨ (w = Str.ofString "gap" ∧ c = "NoGap") ∨ (w = Str.ofString "apart" ∧ c = "Apart")
theorem add_bad {d : D} {t : ThingV} (h : F_is_part d = .ok false) : F_Thing_add_partD t d = .exc "NoPart" [] := by
  unfold F_Thing_add_partD
  simp only [R.ok_bind, R.exc_bind, R.bad_bind, R.bind_assoc, R.noexc_ok, R.b2, R.map, R.cond, R.flow, addI, subI, andB, orB, unw_some, unw_none, few_nil, ofRat, isCls, Option.isNone_none, Option.isNone_some, Bool.not_true, Bool.not_false, Bool.false_eq_true, if_true, if_false, h]
section
variable {ps : List PartV} {mrk : Dic Str Str} {nm : Dic Str Bool} {t : ThingV} {p : PartV}
theorem JP.keys (J : JP ps mrk nm t) : t.sizes.keys = ps.map (·.name) := by
  unfold Dic.keys; rw [J.ts, List.map_map]; rfl
theorem part_step (J : JP ps mrk nm t) (h : OkP p) (hl : ps.length < 90) :
    (∃ w c, BP (true, enc p) (mrk, nm) = .ok (.rt w) ∧ AP (enc p) t = .exc c [] ∧ MW w c) ∨ ∃ mrk' nm' t', BP (true, enc p) (mrk, nm) = .ok (.nx (mrk', nm')) ∧ AP (enc p) t = .ok t' ∧ JP (ps ++ [p]) mrk' nm' t' := by
  have hu : unE PartV (enc p) = .ok p := unE_ok
  obtain ⟨b, eb, hb⟩ := J.M.test h.ne
  obtain ⟨r, er, hr1, hr2⟩ := way_ok ps J.nn (gdP J.ok (by omega)) p.start p.fin (gd_of h.s)
  have hname : (nm.get? p.name).isSome = decide (p.name ∈ ps.map (·.name)) := by rw [Dic.isSome_dec, J.nk]
  have hname2 : (t.sizes.get? p.name).isSome = decide (p.name ∈ ps.map (·.name)) := by rw [Dic.isSome_dec, J.keys]
  by_cases hn : p.name ∈ ps.map (·.name)
  · refine .inl ⟨_, _, ?_, ?_, .inr (.inl ⟨rfl, rfl⟩)⟩
    · show (if (!true) = true then _ else _) = _
      rw [if_neg (by decide), hu, R.ok_bind, hname, decide_eq_true hn, if_pos rfl]
    · show (F_Thing_add_partD t (enc p)).bind _ = _
      unfold F_Thing_add_partD
      simp only [R.ok_bind, R.exc_bind, R.bad_bind, R.bind_assoc, R.noexc_ok, R.b2, R.map, R.cond, R.flow, addI, subI, andB, orB, unw_some, unw_none, few_nil, ofRat, isCls, Option.isNone_none, Option.isNone_some, Bool.not_true, Bool.not_false, Bool.false_eq_true, if_true, if_false, part_good h, hu]
      rw [hname2, decide_eq_true hn]; rfl
  · have hfew : fewD nm = .ok () := fewD_ok (by rw [← Dic.len_keys, J.nk, List.length_map]; omega)
    have hfew2 : fewD t.sizes = .ok () := fewD_ok (by rw [← Dic.len_keys, J.keys, List.length_map]; omega)
    by_cases hj : JoinP ps p.start p.fin
    · refine .inl ⟨_, _, ?_, ?_, .inr (.inr (.inl ⟨rfl, rfl⟩))⟩
      · show (if (!true) = true then _ else _) = _
        rw [if_neg (by decide)]
        simp only [hu, R.ok_bind]
        rw [hname, decide_eq_false hn, if_neg (by decide), eb, R.ok_bind, hb.mpr hj, if_pos rfl]
      · show (F_Thing_add_partD t (enc p)).bind _ = _
        unfold F_Thing_add_partD
        simp only [R.ok_bind, R.exc_bind, R.bad_bind, R.bind_assoc, R.noexc_ok, R.b2, R.map, R.cond, R.flow, addI, subI, andB, orB, unw_some, unw_none, few_nil, ofRat, isCls, Option.isNone_none, Option.isNone_some, Bool.not_true, Bool.not_false, Bool.false_eq_true, if_true, if_false, part_good h, hu]
        rw [hname2, decide_eq_false hn, J.tp, er]
        cases r with
        | none => exact absurd hj (hr2 rfl)
        | some w => rfl
    · have hbf : b = false := by cases b with
        | false => rfl
        | true => exact absurd (hb.mp rfl) hj
      obtain ⟨mrk', em, M'⟩ := joined_ok J.M (gd_of h.s) (gd_of h.f) (by omega)
      have hrn : r = none := by
        cases r with
        | none => rfl
        | some w => exact absurd (hr1 w rfl).1.join hj
      subst hrn
      refine .inr ⟨mrk', nm.put p.name true, { t with parts := ps ++ [p], sizes := t.sizes.put p.name p.size }, ?_, ?_, ?_⟩
      · show (if (!true) = true then _ else _) = _
        rw [if_neg (by decide)]
        simp only [hu, R.ok_bind]
        rw [hname, decide_eq_false hn, if_neg (by decide), eb, R.ok_bind, hbf, if_neg (by decide), hfew, R.ok_bind, em]
        rfl
      · show (F_Thing_add_partD t (enc p)).bind _ = _
        unfold F_Thing_add_partD
        simp only [R.ok_bind, R.exc_bind, R.bad_bind, R.bind_assoc, R.noexc_ok, R.b2, R.map, R.cond, R.flow, addI, subI, andB, orB, unw_some, unw_none, few_nil, ofRat, isCls, Option.isNone_none, Option.isNone_some, Bool.not_true, Bool.not_false, Bool.false_eq_true, if_true, if_false, part_good h, hu]
        rw [hname2, decide_eq_false hn, J.tp, er, few_ok (by omega), hfew2]
        rfl
      · refine ⟨M', fun q hq => ?_, ?_, ?_, rfl, J.tg, J.tw, ?_⟩
        · rcases List.mem_append.mp hq with hq | hq
          · exact J.ok q hq
          · cases List.mem_singleton.mp hq; exact h
        · rw [List.map_append, List.nodup_append]
          refine ⟨J.nn, by simp, fun a ha b hb2 => ?_⟩
          cases List.mem_singleton.mp hb2
          exact fun e => hn (by have e : a = p.name := e; rw [← e]; exact ha)
        · rw [Dic.keys_put_new (by rw [J.nk]; exact hn), J.nk, List.map_append]; rfl
        · show (t.sizes.put p.name p.size).l = _
          rw [Dic.put_new (by rw [J.keys]; exact hn), J.ts, List.map_append]; rfl
end
theorem walk_parts : ∀ (xs : List (Bool × D)) (ps : List PartV) (mrk : Dic Str Str) (nm : Dic Str Bool) (t : ThingV), JP ps mrk nm t → (∀ x ∈ xs, PtK x) → ps.length + xs.length < 90 →
    (∃ w c, forR xs (mrk, nm) BP = .ok (.rt w) ∧ foldR (xs.map (·.2)) t AP = .exc c [] ∧ MW w c) ∨
    ∃ ps' mrk' nm' t', forR xs (mrk, nm) BP = .ok (.nx (mrk', nm')) ∧ foldR (xs.map (·.2)) t AP = .ok t' ∧ JP ps' mrk' nm' t' ∧ (ps'.map enc : List D) = ps.map enc ++ xs.map (·.2) ∧ ps'.length < 90
  | [], ps, mrk, nm, t, J, _, hl => .inr ⟨ps, mrk, nm, t, rfl, rfl, J, by simp, by simpa using hl⟩
  | x :: xs, ps, mrk, nm, t, J, hk, hl => by
    have hx := hk x List.mem_cons_self
    have hxs : ∀ y ∈ xs, PtK y := fun y hy => hk y (List.mem_cons_of_mem _ hy)
    rw [List.length_cons] at hl
    cases hx with
    | bad h =>
      rename_i d
      refine .inl ⟨Str.ofString "part", "NoPart", ?_, ?_, .inl ⟨rfl, rfl⟩⟩
      · rw [forR]; rfl
      · show (AP d t).bind _ = _
        show ((F_Thing_add_partD t d).bind _).bind _ = _
        rw [add_bad h]; rfl
    | good h =>
      rename_i p
      rcases part_step J h (by omega) with ⟨w, c, e1, e2, hm⟩ | ⟨mrk', nm', t', e1, e2, J'⟩
      · refine .inl ⟨w, c, ?_, ?_, hm⟩
        · rw [forR, e1]; rfl
        · show (AP (enc p) t).bind _ = _
          rw [e2]; rfl
      · rcases walk_parts xs (ps ++ [p]) mrk' nm' t' J' hxs (by rw [List.length_append, List.length_singleton]; omega) with ⟨w, c, f1, f2, hm⟩ | ⟨ps', mk2, nm2, t2, f1, f2, J2, e3, e4⟩
        · refine .inl ⟨w, c, ?_, ?_, hm⟩
          · rw [forR, e1, R.ok_bind]; exact f1
          · show (AP (enc p) t).bind _ = _
            rw [e2, R.ok_bind]; exact f2
        · refine .inr ⟨ps', mk2, nm2, t2, ?_, ?_, J2, ?_, e4⟩
          · rw [forR, e1, R.ok_bind]; exact f1
          · show (AP (enc p) t).bind _ = _
            rw [e2, R.ok_bind]; exact f2
          · rw [e3, List.map_append, List.append_assoc]; rfl
/-! ### gaps -/
structure JG (ps : List PartV) (gs : List GapV) (nm : Dic Str Bool) (t : ThingV) : Prop where
  ok : ∀ g ∈ gs, OkG g
  nk : nm.keys = gs.map (·.name)
  tp : t.parts = ps
  tg : t.gaps = gs
  tw : t.ways.keys = gs.map (·.name)
noncomputable abbrev BG (mrk : Dic Str Str) : Bool × D → Dic Str Bool → R (Fl (Dic Str Bool) Str) := fun x_34 st_35 =>
  if (!x_34.fst) = true then R.ok (Fl.rt (Str.ofString "gap"))
  else (unE GapV x_34.snd).bind fun a => if (st_35.get? a.name).isSome = true then R.ok (Fl.rt (Str.ofString "twice"))
    else (unE GapV x_34.snd).bind fun a => (if (!(mrk.get? a.one).isSome) = true then R.ok true else (unE GapV x_34.snd).bind fun a => if (!(mrk.get? a.other).isSome) = true then R.ok true else (unE GapV x_34.snd).bind fun a => (getR mrk a.one).bind fun a => (unE GapV x_34.snd).bind fun a_1 => (getR mrk a_1.other).bind fun b => eqR true a b).bind fun c =>
      if c = true then R.ok (Fl.rt (Str.ofString "apart")) else (unE GapV x_34.snd).bind fun a => (fewD st_35).bind fun x => R.ok (Fl.nx (st_35.put a.name true))
noncomputable abbrev AG : D → ThingV → R ThingV := fun x st => (F_Thing_add_gapD st x).bind fun t' => R.ok t'
theorem addg_bad {d : D} {t : ThingV} (h : F_is_gap d = .ok false) : F_Thing_add_gapD t d = .exc "NoGap" [] := by
  unfold F_Thing_add_gapD
  simp only [R.ok_bind, R.exc_bind, R.bad_bind, R.bind_assoc, R.noexc_ok, R.b2, R.map, R.cond, R.flow, addI, subI, andB, orB, unw_some, unw_none, few_nil, ofRat, isCls, Option.isNone_none, Option.isNone_some, Bool.not_true, Bool.not_false, Bool.false_eq_true, if_true, if_false, h]
section
variable {ps : List PartV} {gs : List GapV} {mrk : Dic Str Str} {nm : Dic Str Bool} {t : ThingV} {g : GapV} (M : MK ps mrk) (ok : ∀ p ∈ ps, OkP p) (nn : (ps.map (·.name)).Nodup) (lp : ps.length < 90)
include M ok nn lp
theorem gap_step (J : JG ps gs nm t) (h : OkG g) (hl : gs.length < 90) :
    (∃ w c, BG mrk (true, enc g) nm = .ok (.rt w) ∧ AG (enc g) t = .exc c [] ∧ MW w c) ∨ ∃ nm' t', BG mrk (true, enc g) nm = .ok (.nx nm') ∧ AG (enc g) t = .ok t' ∧ JG ps (gs ++ [g]) nm' t' := by
  have hu : unE GapV (enc g) = .ok g := unE_ok
  obtain ⟨b, eb, hb⟩ := M.test2 h.ne
  obtain ⟨r, er, hr1, hr2⟩ := way_ok ps nn (gdP ok (by omega)) g.one g.other (gd_of h.s)
  have hname : (nm.get? g.name).isSome = decide (g.name ∈ gs.map (·.name)) := by rw [Dic.isSome_dec, J.nk]
  have hname2 : (t.ways.get? g.name).isSome = decide (g.name ∈ gs.map (·.name)) := by rw [Dic.isSome_dec, J.tw]
  by_cases hn : g.name ∈ gs.map (·.name)
  · refine .inl ⟨_, _, ?_, ?_, .inr (.inl ⟨rfl, rfl⟩)⟩
    · show (if (!true) = true then _ else _) = _
      rw [if_neg (by decide), hu, R.ok_bind, hname, decide_eq_true hn, if_pos rfl]
    · show (F_Thing_add_gapD t (enc g)).bind _ = _
      unfold F_Thing_add_gapD
      simp only [R.ok_bind, R.exc_bind, R.bad_bind, R.bind_assoc, R.noexc_ok, R.b2, R.map, R.cond, R.flow, addI, subI, andB, orB, unw_some, unw_none, few_nil, ofRat, isCls, Option.isNone_none, Option.isNone_some, Bool.not_true, Bool.not_false, Bool.false_eq_true, if_true, if_false, gap_good h, hu]
      rw [hname2, decide_eq_true hn]; rfl
  · have hfew : fewD nm = .ok () := fewD_ok (by rw [← Dic.len_keys, J.nk, List.length_map]; omega)
    have hfew2 : fewD t.ways = .ok () := fewD_ok (by rw [← Dic.len_keys, J.tw, List.length_map]; omega)
    by_cases hj : JoinP ps g.one g.other
    · obtain ⟨w, rfl⟩ : ∃ w, r = some w := by
        cases r with
        | none => exact absurd hj (hr2 rfl)
        | some w => exact ⟨w, rfl⟩
      refine .inr ⟨nm.put g.name true, { t with gaps := gs ++ [g], ways := t.ways.put g.name w }, ?_, ?_, ?_⟩
      · show (if (!true) = true then _ else _) = _
        rw [if_neg (by decide)]
        simp only [hu, R.ok_bind]
        rw [hname, decide_eq_false hn, if_neg (by decide), eb, R.ok_bind, hb.mpr hj, if_neg (by decide), hfew, R.ok_bind]
      · show (F_Thing_add_gapD t (enc g)).bind _ = _
        unfold F_Thing_add_gapD
        simp only [R.ok_bind, R.exc_bind, R.bad_bind, R.bind_assoc, R.noexc_ok, R.b2, R.map, R.cond, R.flow, addI, subI, andB, orB, unw_some, unw_none, few_nil, ofRat, isCls, Option.isNone_none, Option.isNone_some, Bool.not_true, Bool.not_false, Bool.false_eq_true, if_true, if_false, gap_good h, hu]
        rw [hname2, decide_eq_false hn, J.tp, er, J.tg, few_ok (by omega), hfew2]
        rfl
      · refine ⟨fun q hq => ?_, ?_, J.tp, rfl, ?_⟩
        · rcases List.mem_append.mp hq with hq | hq
          · exact J.ok q hq
          · cases List.mem_singleton.mp hq; exact h
        · rw [Dic.keys_put_new (by rw [J.nk]; exact hn), J.nk, List.map_append]; rfl
        · show (t.ways.put g.name w).keys = _
          rw [Dic.keys_put_new (by rw [J.tw]; exact hn), J.tw, List.map_append]; rfl
    · have hbt : b = true := by cases b with
        | true => rfl
        | false => exact absurd (hb.mp rfl) hj
      have hrn : r = none := by
        cases r with
        | none => rfl
        | some w => exact absurd (hr1 w rfl).1.join hj
      subst hrn
      refine .inl ⟨_, _, ?_, ?_, .inr (.inr (.inr (.inr ⟨rfl, rfl⟩)))⟩
      · show (if (!true) = true then _ else _) = _
        rw [if_neg (by decide)]
        simp only [hu, R.ok_bind]
        rw [hname, decide_eq_false hn, if_neg (by decide), eb, R.ok_bind, hbt, if_pos rfl]
      · show (F_Thing_add_gapD t (enc g)).bind _ = _
        unfold F_Thing_add_gapD
        simp only [R.ok_bind, R.exc_bind, R.bad_bind, R.bind_assoc, R.noexc_ok, R.b2, R.map, R.cond, R.flow, addI, subI, andB, orB, unw_some, unw_none, few_nil, ofRat, isCls, Option.isNone_none, Option.isNone_some, Bool.not_true, Bool.not_false, Bool.false_eq_true, if_true, if_false, gap_good h, hu]
        rw [hname2, decide_eq_false hn, J.tp, er]; rfl
theorem walk_gaps : ∀ (xs : List (Bool × D)) (gs : List GapV) (nm : Dic Str Bool) (t : ThingV), JG ps gs nm t → (∀ x ∈ xs, GpK x) → gs.length + xs.length < 90 →
    (∃ w c, forR xs nm (BG mrk) = .ok (.rt w) ∧ foldR (xs.map (·.2)) t AG = .exc c [] ∧ MW w c) ∨
    ∃ gs' nm' t', forR xs nm (BG mrk) = .ok (.nx nm') ∧ foldR (xs.map (·.2)) t AG = .ok t' ∧ JG ps gs' nm' t' ∧ (gs'.map enc : List D) = gs.map enc ++ xs.map (·.2) ∧ gs'.length < 90
  | [], gs, nm, t, J, _, hl => .inr ⟨gs, nm, t, rfl, rfl, J, by simp, by simpa using hl⟩
  | x :: xs, gs, nm, t, J, hk, hl => by
    have hx := hk x List.mem_cons_self
    have hxs : ∀ y ∈ xs, GpK y := fun y hy => hk y (List.mem_cons_of_mem _ hy)
    rw [List.length_cons] at hl
    cases hx with
    | bad h =>
      rename_i d
      refine .inl ⟨Str.ofString "gap", "NoGap", ?_, ?_, .inr (.inr (.inr (.inl ⟨rfl, rfl⟩)))⟩
      · rw [forR]; rfl
      · show ((F_Thing_add_gapD t d).bind _).bind _ = _
        rw [addg_bad h]; rfl
    | good h =>
      rename_i g
      rcases gap_step M ok nn lp J h (by omega) with ⟨w, c, e1, e2, hm⟩ | ⟨nm', t', e1, e2, J'⟩
      · refine .inl ⟨w, c, ?_, ?_, hm⟩
        · rw [forR, e1]; rfl
        · show (AG (enc g) t).bind _ = _
          rw [e2]; rfl
      · rcases walk_gaps xs (gs ++ [g]) nm' t' J' hxs (by rw [List.length_append, List.length_singleton]; omega) with ⟨w, c, f1, f2, hm⟩ | ⟨gs', nm2, t2, f1, f2, J2, e3, e4⟩
        · refine .inl ⟨w, c, ?_, ?_, hm⟩
          · rw [forR, e1, R.ok_bind]; exact f1
          · show (AG (enc g) t).bind _ = _
            rw [e2, R.ok_bind]; exact f2
        · refine .inr ⟨gs', nm2, t2, ?_, ?_, J2, ?_, e4⟩
          · rw [forR, e1, R.ok_bind]; exact f1
          · show (AG (enc g) t).bind _ = _
            rw [e2, R.ok_bind]; exact f2
          · rw [e3, List.map_append, List.append_assoc]; rfl
end
/-- both walks at once -/
theorem both {xs ys : List (Bool × D)} (hx : ∀ x ∈ xs, PtK x) (hy : ∀ y ∈ ys, GpK y) (lx : xs.length < 80) (ly : ys.length < 80) :
    (∃ w c, F__law_due xs ys = .ok w ∧ F_ThingD (xs.map (·.2)) (ys.map (·.2)) = .exc c [] ∧ MW w c) ∨
    ∃ ps gs t, F__law_due xs ys = .ok (Str.ofString "made") ∧ F_ThingD (xs.map (·.2)) (ys.map (·.2)) = .ok t ∧ (∀ p ∈ ps, OkP p) ∧ (∀ g ∈ gs, OkG g) ∧ t.parts = ps ∧ t.gaps = gs ∧ xs.map (·.2) = ps.map enc ∧ ys.map (·.2) = gs.map enc := by
  have J0 : JP [] ⟨[]⟩ ⟨[]⟩ ({ parts := [], gaps := [], sizes := ⟨[]⟩, ways := ⟨[]⟩ } : ThingV) := ⟨mk_empty, fun _ h => (nomatch h), List.nodup_nil, rfl, rfl, rfl, rfl, rfl⟩
  have eT : F_ThingD (xs.map (·.2)) (ys.map (·.2)) = (foldR (xs.map (·.2)) ({ parts := [], gaps := [], sizes := ⟨[]⟩, ways := ⟨[]⟩ } : ThingV) AP).bind fun st => (foldR (ys.map (·.2)) st AG).bind fun st => .ok st := by
    unfold F_ThingD
    simp only [R.ok_bind, R.exc_bind, R.bad_bind, R.bind_assoc, R.noexc_ok, R.b2, R.map, R.cond, R.flow, addI, subI, andB, orB, unw_some, unw_none, few_nil, ofRat, isCls, Option.isNone_none, Option.isNone_some, Bool.not_true, Bool.not_false, Bool.false_eq_true, if_true, if_false]
  rcases walk_parts xs [] ⟨[]⟩ ⟨[]⟩ _ J0 hx (by simpa using (by omega : xs.length < 90)) with ⟨w, c, e1, e2, hm⟩ | ⟨ps, mrk, nm, t, e1, e2, J, e3, e4⟩
  · refine .inl ⟨w, c, ?_, ?_, hm⟩
    · unfold F__law_due
      simp only [R.ok_bind, R.exc_bind, R.bad_bind, R.bind_assoc, R.noexc_ok, R.b2, R.map, R.cond, R.flow, addI, subI, andB, orB, unw_some, unw_none, few_nil, ofRat, isCls, Option.isNone_none, Option.isNone_some, Bool.not_true, Bool.not_false, Bool.false_eq_true, if_true, if_false]
      refine (congrArg (fun m => R.bind m _) e1).trans rfl
    · rw [eT, e2]; rfl
  · have JG0 : JG ps [] ⟨[]⟩ t := ⟨fun _ h => (nomatch h), rfl, J.tp, J.tg, by rw [J.tw]; rfl⟩
    rcases walk_gaps J.M J.ok J.nn e4 ys [] ⟨[]⟩ t JG0 hy (by simpa using (by omega : ys.length < 90)) with ⟨w, c, f1, f2, hm⟩ | ⟨gs, nm2, t2, f1, f2, J2, f3, f4⟩
    · refine .inl ⟨w, c, ?_, ?_, hm⟩
      · unfold F__law_due
        simp only [R.ok_bind, R.exc_bind, R.bad_bind, R.bind_assoc, R.noexc_ok, R.b2, R.map, R.cond, R.flow, addI, subI, andB, orB, unw_some, unw_none, few_nil, ofRat, isCls, Option.isNone_none, Option.isNone_some, Bool.not_true, Bool.not_false, Bool.false_eq_true, if_true, if_false]
        refine (congrArg (fun m => R.bind m _) e1).trans ?_
        rw [R.ok_bind]
        dsimp only
        refine (congrArg (fun m => R.bind m _) f1).trans rfl
      · rw [eT, e2, R.ok_bind, f2]; rfl
    · refine .inr ⟨ps, gs, t2, ?_, ?_, J.ok, J2.ok, J2.tp, J2.tg, by rw [e3]; rfl, by rw [f3]; rfl⟩
      · unfold F__law_due
        simp only [R.ok_bind, R.exc_bind, R.bad_bind, R.bind_assoc, R.noexc_ok, R.b2, R.map, R.cond, R.flow, addI, subI, andB, orB, unw_some, unw_none, few_nil, ofRat, isCls, Option.isNone_none, Option.isNone_some, Bool.not_true, Bool.not_false, Bool.false_eq_true, if_true, if_false]
        refine (congrArg (fun m => R.bind m _) e1).trans ?_
        rw [R.ok_bind]
        dsimp only
        refine (congrArg (fun m => R.bind m _) f1).trans rfl
      · rw [eT, e2, R.ok_bind, f2]; rfl
end K41
namespace K41
open PySem PySem.Spec PyProof.Rows L2 DL FR TF
open TF.Enc
/-! ### parts and gaps drawn, spoiled -/
theorem cell_eq : F__law_cell = L_cell 30 := rfl
theorem low_eq : F__law_low = L_low := rfl
theorem signed_eq : F__law_signed = L_signed := rfl
theorem name_eq : F__law_name = L_name (Str.ofString "abcdefgh") := rfl
theorem abc8 : (Str.ofString "abcdefgh") = sl ((List.range 8).map (97 + ·)) := by decide +kernel
theorem ix2 {α : Type} {a b : α} {i : Int} (h : i = 0 ∨ i = 1) : ∃ x, ixL [a, b] i = .ok x ∧ (x = a ∨ x = b) := by
  rcases h with rfl | rfl
  · exact ⟨a, rfl, .inl rfl⟩
  · exact ⟨b, rfl, .inr rfl⟩
theorem nameE {c : Nat} {k st : Int} (h0 : 0 ≤ k) (h1 : k < 8) (h2 : 0 ≤ st) (h3 : st ≤ 3) : L_name (Str.ofString "abcdefgh") k (sl [c]) st = .ok (nmT c k.toNat st.toNat) := name_ok abc8 (by decide) h0 h1 h2 h3
abbrev N12 : Nat := 27720
theorem bot12 {b : Int} (h0 : 1 ≤ b) (h1 : b ≤ 12) : 0 < b ∧ b ∣ (N12 : Int) ∧ b.natAbs < 2 ^ 9000 := by
  have h : b = 1 ∨ b = 2 ∨ b = 3 ∨ b = 4 ∨ b = 5 ∨ b = 6 ∨ b = 7 ∨ b = 8 ∨ b = 9 ∨ b = 10 ∨ b = 11 ∨ b = 12 := by omega
  refine ⟨by omega, ?_, Nat.lt_of_lt_of_le (show b.natAbs < 2 ^ 4 by omega) (Nat.pow_le_pow_right (by decide) (by decide))⟩
  rcases h with rfl | rfl | rfl | rfl | rfl | rfl | rfl | rfl | rfl | rfl | rfl | rfl <;> decide
theorem smE {M : Nat} {q : Rat} (h : Gd N12 M q) (hM : M ≤ 10 ^ 50) : Sm q := by
  refine h.sm (by decide) ?_ ?_
  · exact Nat.lt_of_le_of_lt (Nat.mul_le_mul_right _ hM) (Nat.lt_of_lt_of_le (show 10 ^ 50 * N12 < 2 ^ 250 by decide) (Nat.pow_le_pow_right (by decide) (by decide)))
  · exact Nat.lt_of_lt_of_le (show N12 < 2 ^ 250 by decide) (Nat.pow_le_pow_right (by decide) (by decide))
theorem ix4 {k m : Int} {i : Int} (h0 : 0 ≤ i) (h1 : i < 4) : ∃ x, ixL [k, k, k, m] i = .ok x ∧ (x = k ∨ x = m) := by
  have h : i = 0 ∨ i = 1 ∨ i = 2 ∨ i = 3 := by omega
  rcases h with rfl | rfl | rfl | rfl
  · exact ⟨k, rfl, .inl rfl⟩
  · exact ⟨k, rfl, .inl rfl⟩
  · exact ⟨k, rfl, .inl rfl⟩
  · exact ⟨m, rfl, .inr rfl⟩
theorem nm_ne {c st : Nat} {i j : Int} (hi : 0 ≤ i) (hj : 0 ≤ j) (h : i ≠ j) : nmT c i.toNat st ≠ nmT c j.toNat st := fun e => h (by
  have := nmT_inj e
  omega)
theorem part_drawn {k st c0 c1 : Int} (h0 : 0 ≤ k) (h1 : k < 8) (h2 : 0 ≤ st) (h3 : st ≤ 3) : (F__law_part k [c0, c1] st).sat OkP := by
  unfold F__law_part
  simp only [R.ok_bind, R.exc_bind, R.bad_bind, R.bind_assoc, R.noexc_ok, R.b2, R.map, R.cond, R.flow, addI, subI, andB, orB, unw_some, unw_none, few_nil, ofRat, isCls, Option.isNone_none, Option.isNone_some, Bool.not_true, Bool.not_false, Bool.false_eq_true, if_true, if_false]
  rw [low_eq, signed_eq, name_eq]
  have i0 : ixL [c0, c1] 0 = .ok c0 := rfl
  have i1 : ixL [c0, c1] 1 = .ok c1 := rfl
  rw [i0, i1]
  simp only [R.ok_bind]
  have hm : 0 ≤ c0 * 48271 % 2147483647 / 37 := by omega
  generalize c0 * 48271 % 2147483647 / 37 = m at hm
  rw [few_ok (by simp), R.ok_bind]
  obtain ⟨far, ef, hf⟩ := ix2 (a := (9 : Int)) (b := 10 ^ 40) (i := m / 4096 % 2) (by omega)
  have hfar : 0 < far := by
    rcases hf with rfl | rfl
    · decide
    · decide
  rw [ef, R.ok_bind, few_ok (by simp), R.ok_bind]
  obtain ⟨i, ei, hi⟩ := ix4 (k := k) (m := m / 8 % 6) (i := m / 64 % 4) (by omega) (by omega)
  rw [ei, R.ok_bind, sp_, nameE (by omega) (by omega) h2 h3, R.ok_bind, sf, nameE (by omega) (by omega) h2 h3, R.ok_bind, nameE (by omega) (by omega) h2 h3, R.ok_bind]
  refine sat_bind (signed_ok hfar) fun a5 _ => ?_
  have b1 := bot12 (b := 1 + m / 32 % 12) (by omega) (by omega)
  have b2 := bot12 (b := 1 + m / 128 % 6) (by omega) (by omega)
  rw [low_ok b1.1 b1.2.2, R.ok_bind, low_ok b2.1 b2.2.2, R.ok_bind, few_ok (by simp), R.ok_bind]
  obtain ⟨wt, ew, hw⟩ := ix2 (a := 1 + m % 4) (b := 1 + c1 % 10 ^ 6) (i := m / 8192 % 2) (by omega)
  rw [ew, R.ok_bind]
  refine sat_ok ⟨nmT_ok (by omega) (by omega) (by omega), nmT_ok (by omega) (by omega) (by omega), nmT_ok (by omega) (by omega) (by omega), nm_ne (by omega) (by omega) (by omega), ?_, ?_⟩
  · show 0 ≤ Rat.divInt (c1 % 13) (1 + m / 128 % 6)
    exact Rat.divInt_nonneg (by omega) (by omega)
  · show 0 < wt
    have : (0 : Int) ≤ c1 % 10 ^ 6 := Int.emod_nonneg _ (by decide)
    rcases hw with rfl | rfl <;> omega
/-- numbers of gaps drawn, and one more -/
structure GapE (g : GapV) : Prop where
  ok : OkG g
  h1 : Sm (g.high + 1)
theorem toRat_addM (q : Rat) (j : Int) : toRat (q.num + (q.den : Int) * j, (q.den : Int)) = .ok (q + (j : Rat)) := by
  have hd : (0 : Int) < (q.den : Int) := by have := q.den_pos; omega
  have hg : Int.gcd (q.num + (q.den : Int) * j) (q.den : Int) = 1 := by
    rw [Int.gcd_comm, Int.gcd_add_mul_left_right, Int.gcd_comm]
    exact q.reduced
  rw [toRat_divInt hd hg]
  congr 1
  rw [Rat.divInt_eq_div, Rat.intCast_add, Rat.intCast_mul]
  have e : (q.num : Rat) / ((q.den : Int) : Rat) = q := by rw [← Rat.divInt_eq_div]; exact Rat.num_divInt_den q
  have hz : (((q.den : Int) : Rat)) ≠ 0 := fun h => by
    have : (q.den : Int) = 0 := by exact_mod_cast h
    omega
  generalize ((q.den : Int) : Rat) = d at e hz
  have e2 : q * d = (q.num : Rat) := by
    have := Rat.div_mul_cancel (a := (q.num : Rat)) hz
    rw [e] at this; exact this
  have : ((q.num : Rat) + d * (j : Rat)) / d = q + (j : Rat) := by
    rw [← e2]
    have e3 : (q * d + d * (j : Rat)) = (q + (j : Rat)) * d := by grind
    rw [e3, Rat.mul_div_cancel hz]
  exact this
theorem gap_drawn {k st c0 c1 : Int} (h0 : 0 ≤ k) (h1 : k < 8) (h2 : 0 ≤ st) (h3 : st ≤ 3) : (F__law_gap k [c0, c1] st).sat GapE := by
  unfold F__law_gap
  simp only [R.ok_bind, R.exc_bind, R.bad_bind, R.bind_assoc, R.noexc_ok, R.b2, R.map, R.cond, R.flow, addI, subI, andB, orB, unw_some, unw_none, few_nil, ofRat, isCls, Option.isNone_none, Option.isNone_some, Bool.not_true, Bool.not_false, Bool.false_eq_true, if_true, if_false]
  rw [low_eq, signed_eq, name_eq]
  have i0 : ixL [c0, c1] 0 = .ok c0 := rfl
  have i1 : ixL [c0, c1] 1 = .ok c1 := rfl
  rw [i0, i1]
  simp only [R.ok_bind]
  have hm : 0 ≤ c0 * 39373 % 2147483629 / 37 := by omega
  generalize c0 * 39373 % 2147483629 / 37 = m at hm
  rw [few_ok (by simp), R.ok_bind]
  obtain ⟨i, ei, hi⟩ := ix4 (k := k) (m := m / 8 % 5) (i := m / 64 % 4) (by omega) (by omega)
  rw [ei, R.ok_bind, few_ok (by simp), R.ok_bind]
  obtain ⟨sgn, es, hs⟩ := ix2 (a := Str.ofString "g") (b := Str.ofString "p") (i := m / 1024 % 2) (by omega)
  rw [es, R.ok_bind]
  have hc : ∃ c : Nat, sgn = sl [c] ∧ 97 ≤ c ∧ c ≤ 122 := by
    rcases hs with rfl | rfl
    · exact ⟨103, sg, by decide, by decide⟩
    · exact ⟨112, sp_, by decide, by decide⟩
  obtain ⟨c, rfl, hc⟩ := hc
  rw [nameE (by omega) (by omega) h2 h3, R.ok_bind, sf, nameE (by omega) (by omega) h2 h3, R.ok_bind, nameE (by omega) (by omega) h2 h3, R.ok_bind]
  refine sat_bind (signed_ok (show (0 : Int) < 10 ^ 40 by decide)) fun a5 h5 => ?_
  have b1 := bot12 (b := 1 + m / 32 % 12) (by omega) (by omega)
  rw [low_ok b1.1 b1.2.2, R.ok_bind]
  have g0 : Gd N12 (10 ^ 40) (Rat.divInt a5 (1 + m / 32 % 12)) := gd_div b1.1 b1.2.1 (Nat.le_of_lt (Nat.lt_of_lt_of_le h5 (by decide)))
  generalize Rat.divInt a5 (1 + m / 32 % 12) = q at g0
  have em : mulI (q.den : Int) (m % 3) = .ok ((q.den : Int) * (m % 3)) := by
    exact mulI_ok (.inr (.inl (by omega)))
  rw [em, R.ok_bind, toRat_addM, R.ok_bind]
  have j0 : m % 3 = 0 ∨ m % 3 = 1 ∨ m % 3 = 2 := by omega
  have gj : ∀ n : Nat, Gd N12 n (n : Rat) := fun n => by
    have := gd_div (N := N12) (M := n) (t := (n : Int)) (b := 1) (by decide) ⟨(N12 : Int), by decide⟩ (by simp)
    have e : Rat.divInt (n : Int) 1 = (n : Rat) := by
      rw [Rat.divInt_eq_div, Rat.intCast_natCast, show ((1 : Int) : Rat) = 1 from rfl]
      clear this
      generalize (n : Rat) = z
      grind
    rw [e] at this; exact this
  obtain ⟨n, en, hn⟩ : ∃ n : Nat, m % 3 = (n : Int) ∧ n ≤ 2 := ⟨(m % 3).toNat, by omega, by omega⟩
  rw [en]
  have gh : Gd N12 (10 ^ 40 + 2) (q + ((n : Int) : Rat)) := by
    rw [Rat.intCast_natCast]
    exact (g0.add (gj n)).mono (by omega)
  refine sat_ok ⟨⟨nmT_ok hc (by omega) (by omega), nmT_ok (by omega) (by omega) (by omega), nmT_ok (by omega) (by omega) (by omega), nm_ne (by omega) (by omega) (by omega), smE g0 (by decide), smE gh (by decide), ?_⟩, smE (gh.add (gj 1)) (by decide)⟩
  show q ≤ q + ((n : Int) : Rat)
  have : (0 : Rat) ≤ ((n : Int) : Rat) := by rw [Rat.intCast_natCast]; exact Rat.natCast_nonneg
  grind
end K41
namespace K41
open PySem PySem.Spec PyProof.Rows L2 DL FR TF
open TF.Enc
/-! ### spoiled -/
section
variable {a b c x y z v : D}
theorem with6 {l : List D} {i : Int} {u : D} {r : List D} (h : cut l none (some i) ++ [u] ++ cut l (some (i + 1)) none = r) (hl : l.length < 100) : F__law_with ⟨l⟩ i u = .ok ⟨r⟩ := by
  have cl : ∀ lo hi, (cut l lo hi).length ≤ l.length := fun lo hi => by
    unfold cut
    rw [List.length_take, List.length_drop]; omega
  have c1 := cl none (some i)
  have c2 := cl (some (i + 1)) none
  unfold F__law_with
  simp only [R.ok_bind, R.exc_bind, R.bad_bind, R.bind_assoc, R.noexc_ok, R.b2, R.map, R.cond, R.flow, addI, subI, andB, orB, unw_some, unw_none, few_nil, ofRat, isCls, Option.isNone_none, Option.isNone_some, Bool.not_true, Bool.not_false, Bool.false_eq_true, if_true, if_false]
  have e1 : catU ⟨cut l none (some i)⟩ ⟨[enc u]⟩ = .ok ⟨cut l none (some i) ++ [u]⟩ := if_pos (by show (cut l none (some i)).length + 1 < _; omega)
  rw [e1, R.ok_bind, ← h]
  exact if_pos (by
    show (cut l none (some i) ++ [u]).length + (cut l (some (i + 1)) none).length < _
    rw [List.length_append, List.length_singleton]; omega)
end
/-- what is neither a name nor a fraction nor a whole number -/
structure Odd (x : D) : Prop where
  q : Q1 x
  t : tyOk noHeap x = true
  n : nameD x = false
  f : fracB x = false
  i : isIntD x = false
  d : dt 57 x = true
theorem odd_all : ∀ x ∈ ([.non, .bl true, .bl false, .lst [], .tup [.int 1], .tup [.int 2, .int 2], .tup [.int 1, .int 0], .tup [.bl true, .int 1]] : List D), Odd x := by
  intro x hx
  simp only [List.mem_cons, List.not_mem_nil, or_false] at hx
  rcases hx with rfl | rfl | rfl | rfl | rfl | rfl | rfl | rfl <;> exact ⟨⟨rfl, fun z e => (nomatch e)⟩, by decide, by decide, by decide, by decide, by decide +kernel⟩
def BadP (d : D) : Prop := F_is_part d = .ok false ∧ dt 58 d = true
def BadG (d : D) : Prop := F_is_gap d = .ok false ∧ dt 58 d = true
theorem dtq (q : Rat) : dt 57 (enc q) = true := dt_frn (by decide)
section
variable {a b c : Str} (ha : nameB a = true) (hb : nameB b = true) (hc : nameB c = true) (hne : b ≠ c)
theorem dts6 {a b c x y z : D} (h1 : dt 57 a = true) (h2 : dt 57 b = true) (h3 : dt 57 c = true) (h4 : dt 57 x = true) (h5 : dt 57 y = true) (h6 : dt 57 z = true) : dt 58 (.tup [a, b, c, x, y, z]) = true := by
  rw [dt_tup]; simp [h1, h2, h3, h4, h5, h6]
theorem dts5 {a b c x y : D} (h1 : dt 57 a = true) (h2 : dt 57 b = true) (h3 : dt 57 c = true) (h4 : dt 57 x = true) (h5 : dt 57 y = true) : dt 58 (.tup [a, b, c, x, y]) = true := by
  rw [dt_tup]; simp [h1, h2, h3, h4, h5]
theorem dtS {a : Str} (h : nameB a = true) : dt 57 (.str a) = true := by rw [dt_str]; exact (nameB_few h).2
end
/-- the row of a part's things -/
abbrev pl (p : PartV) : List D := [.str p.name, .str p.start, .str p.fin, enc p.size, enc p.most, .int p.weight]
abbrev gl (g : GapV) : List D := [.str g.name, .str g.one, .str g.other, enc g.low, enc g.high]
theorem cut6 {a b c x y z u : D} {i : Int} {r : List D} (h : (i = 0 ∧ r = [u, b, c, x, y, z]) ∨ (i = 1 ∧ r = [a, u, c, x, y, z]) ∨ (i = 2 ∧ r = [a, b, u, x, y, z]) ∨ (i = 3 ∧ r = [a, b, c, u, y, z]) ∨ (i = 4 ∧ r = [a, b, c, x, u, z]) ∨ (i = 5 ∧ r = [a, b, c, x, y, u])) :
    F__law_with ⟨[a, b, c, x, y, z]⟩ i u = .ok ⟨r⟩ := by
  rcases h with ⟨rfl, rfl⟩ | ⟨rfl, rfl⟩ | ⟨rfl, rfl⟩ | ⟨rfl, rfl⟩ | ⟨rfl, rfl⟩ | ⟨rfl, rfl⟩ <;> exact with6 rfl (by simp)
theorem cut5 {a b c x y u : D} {i : Int} {r : List D} (h : (i = 0 ∧ r = [u, b, c, x, y]) ∨ (i = 1 ∧ r = [a, u, c, x, y]) ∨ (i = 2 ∧ r = [a, b, u, x, y]) ∨ (i = 3 ∧ r = [a, b, c, u, y]) ∨ (i = 4 ∧ r = [a, b, c, x, u])) :
    F__law_with ⟨[a, b, c, x, y]⟩ i u = .ok ⟨r⟩ := by
  rcases h with ⟨rfl, rfl⟩ | ⟨rfl, rfl⟩ | ⟨rfl, rfl⟩ | ⟨rfl, rfl⟩ | ⟨rfl, rfl⟩ <;> exact with6 rfl (by simp)
section
variable {p : PartV} (h : OkP p)
include h
theorem name_bad {x : D} (q : Q1 x) (n : nameD x = false) (d : dt 57 x = true) {i : Int} (h0 : 0 ≤ i) (h1 : i < 3) : ∃ r, F__law_with ⟨pl p⟩ i x = .ok ⟨r⟩ ∧ BadP (.tup r) := by
  have hi : i = 0 ∨ i = 1 ∨ i = 2 := by omega
  rcases hi with rfl | rfl | rfl
  · exact ⟨_, cut6 (.inl ⟨rfl, rfl⟩), part_ends (ends_bad rfl q (q1_str h.s) (q1_str h.f) (.inl n)), dts6 d (dtS h.s) (dtS h.f) (dtq _) (dtq _) dt_int⟩
  · exact ⟨_, cut6 (.inr (.inl ⟨rfl, rfl⟩)), part_ends (ends_bad rfl (q1_str h.n) q (q1_str h.f) (.inr (.inl n))), dts6 (dtS h.n) d (dtS h.f) (dtq _) (dtq _) dt_int⟩
  · exact ⟨_, cut6 (.inr (.inr (.inl ⟨rfl, rfl⟩))), part_ends (ends_bad rfl (q1_str h.n) (q1_str h.s) q (.inr (.inr n))), dts6 (dtS h.n) (dtS h.s) d (dtq _) (dtq _) dt_int⟩
theorem weight_bad {x : D} (t : (tyD noHeap x).isSome = true) (d : dt 57 x = true) (n : isIntD x = false ∨ ∃ k : Int, x = .int k ∧ k ≤ 0) : ∃ r, F__law_with ⟨pl p⟩ 5 x = .ok ⟨r⟩ ∧ BadP (.tup r) := by
  refine ⟨_, cut6 (.inr (.inr (.inr (.inr (.inr ⟨rfl, rfl⟩))))), ?_, dts6 (dtS h.n) (dtS h.s) (dtS h.f) (dtq _) (dtq _) d⟩
  rw [part_rest h.n h.s h.f h.ne _ _ t]
  rcases n with n | ⟨k, rfl, hk⟩
  · rw [if_neg fun z => by rw [n] at z; exact nomatch z.2]
  · split
    · rw [show (D.int k) = enc k from rfl, unE_ok, R.ok_bind, decide_eq_false (by omega)]
    · rfl
theorem odd_bad {x : D} (o : Odd x) {i : Int} (h0 : 0 ≤ i) (h1 : i < 6) : ∃ r, F__law_with ⟨pl p⟩ i x = .ok ⟨r⟩ ∧ BadP (.tup r) := by
  by_cases h3 : i < 3
  · exact name_bad h o.q o.n o.d h0 h3
  · have hi : i = 3 ∨ i = 4 ∨ i = 5 := by omega
    rcases hi with rfl | rfl | rfl
    · exact ⟨_, cut6 (.inr (.inr (.inr (.inl ⟨rfl, rfl⟩)))), part_frac h.n h.s h.f h.ne o.t (tyOk_fr _) (.inl o.f), dts6 (dtS h.n) (dtS h.s) (dtS h.f) o.d (dtq _) dt_int⟩
    · exact ⟨_, cut6 (.inr (.inr (.inr (.inr (.inl ⟨rfl, rfl⟩))))), part_frac h.n h.s h.f h.ne (tyOk_fr _) o.t (.inr o.f), dts6 (dtS h.n) (dtS h.s) (dtS h.f) (dtq _) o.d dt_int⟩
    · exact weight_bad h o.q.1 o.d (.inl o.i)
end
/-- names that are none -/
theorem nonames : ∀ x ∈ ([.str (Str.ofString ""), .str (Str.ofString "A"), .str (Str.ofString "a b"), .str (Str.ofString "abcdefghi"), .str (Str.ofString "a1"), .int 7, .non, .str (Str.ofString "a\n")] : List D), Q1 x ∧ nameD x = false ∧ dt 57 x = true := by
  intro x hx
  simp only [List.mem_cons, List.not_mem_nil, or_false] at hx
  have few : ∀ s : Str, s.length < 100 → ∀ z, D.str s = .str z → Few z.length := fun s hs z e => by cases e; exact Nat.lt_of_lt_of_le hs (by decide)
  rcases hx with rfl | rfl | rfl | rfl | rfl | rfl | rfl | rfl
  · exact ⟨⟨rfl, few _ (by decide +kernel)⟩, by decide +kernel, by rw [dt_str]; decide +kernel⟩
  · exact ⟨⟨rfl, few _ (by decide +kernel)⟩, by decide +kernel, by rw [dt_str]; decide +kernel⟩
  · exact ⟨⟨rfl, few _ (by decide +kernel)⟩, by decide +kernel, by rw [dt_str]; decide +kernel⟩
  · exact ⟨⟨rfl, few _ (by decide +kernel)⟩, by decide +kernel, by rw [dt_str]; decide +kernel⟩
  · exact ⟨⟨rfl, few _ (by decide +kernel)⟩, by decide +kernel, by rw [dt_str]; decide +kernel⟩
  · exact ⟨⟨rfl, fun z e => (nomatch e)⟩, rfl, dt_int⟩
  · exact ⟨⟨rfl, fun z e => (nomatch e)⟩, rfl, dt_non⟩
  · exact ⟨⟨rfl, few _ (by decide +kernel)⟩, by decide +kernel, by rw [dt_str]; decide +kernel⟩
theorem with_sat {l : List D} {i : Int} {x : D} {P : D → Prop} (h : ∃ r, F__law_with ⟨l⟩ i x = .ok ⟨r⟩ ∧ P (.tup r)) : ((F__law_with ⟨l⟩ i x).bind fun a => R.ok (enc a)).sat P := by
  obtain ⟨r, e, hr⟩ := h
  rw [e, R.ok_bind]
  exact sat_ok hr
theorem spoil_part {p : PartV} (h : OkP p) {way : Int} (hw : 0 ≤ way) : (F__law_spoiled ⟨pl p⟩ way).sat BadP := by
  have en : ∀ {n : Nat} {l : List D}, (∀ d ∈ l, dt n d = true) → dts n l = true := fun {n l} => by
    induction l with
    | nil => intro _; exact dts_nil
    | cons d l ih => intro q; rw [dts_cons, q d List.mem_cons_self, ih fun e he => q e (List.mem_cons_of_mem _ he)]; rfl
  have dl : ∀ d ∈ pl p, dt 57 d = true := fun d hd => by
    simp only [List.mem_cons, List.not_mem_nil, or_false] at hd
    rcases hd with rfl | rfl | rfl | rfl | rfl | rfl
    · exact dtS h.n
    · exact dtS h.s
    · exact dtS h.f
    · exact dtq _
    · exact dtq _
    · exact dt_int
  unfold F__law_spoiled
  simp only [R.ok_bind, R.exc_bind, R.bad_bind, R.bind_assoc, R.noexc_ok, R.b2, R.map, R.cond, R.flow, addI, subI, andB, orB, unw_some, unw_none, few_nil, ofRat, isCls, Option.isNone_none, Option.isNone_some, Bool.not_true, Bool.not_false, Bool.false_eq_true, if_true, if_false]
  rw [show (((pl p).length : Nat) : Int) = 6 from rfl, modI_pos (by decide), R.ok_bind]
  have a0 : 0 ≤ way / 16 % 6 ∧ way / 16 % 6 < 6 := by omega
  generalize way / 16 % 6 = at_ at a0
  by_cases w0 : way % 8 = 0
  · rw [decide_eq_true w0, if_pos rfl]
    have e1 : catU ⟨pl p⟩ ⟨[enc (1 : Int)]⟩ = .ok ⟨pl p ++ [enc (1 : Int)]⟩ := if_pos (by show 6 + 1 < _; decide)
    have e2 : ixTup ⟨pl p⟩ 0 = .ok (.str p.name) := ix_tup rfl
    rw [e1, R.ok_bind, e2, R.ok_bind, few_ok (by simp), R.ok_bind]
    refine sat_imp (ixL_sat (by omega) (by simp only [List.length_cons, List.length_nil]; omega)) fun d hd => ?_
    simp only [List.mem_cons, List.not_mem_nil, or_false] at hd
    rcases hd with rfl | rfl | rfl | rfl | rfl | rfl | rfl
    · exact ⟨part_ends (ends_no rfl), by rw [dt_lst]; exact en dl⟩
    · refine ⟨part_ends (ends_len (l := cut (pl p) none (some (-1))) (show ((5 : Nat) : Int) ≠ 6 by decide)), ?_⟩
      show dt 58 (.tup [.str p.name, .str p.start, .str p.fin, enc p.size, enc p.most]) = true
      exact dts5 (dtS h.n) (dtS h.s) (dtS h.f) (dtq _) (dtq _)
    · refine ⟨part_ends (ends_len (l := pl p ++ [enc (1 : Int)]) (show ((7 : Nat) : Int) ≠ 6 by decide)), ?_⟩
      show dt 58 (.tup (pl p ++ [enc (1 : Int)])) = true
      rw [dt_tup]
      refine en fun d hd => ?_
      rcases List.mem_append.mp hd with hd | hd
      · exact dl d hd
      · rw [List.mem_singleton.mp hd]; exact dt_int
    · exact ⟨part_ends (ends_no rfl), dt_non⟩
    · exact ⟨part_ends (ends_no rfl), dt_int⟩
    · exact ⟨part_ends (ends_no rfl), by rw [dt_str]; exact (nameB_few h.n).2⟩
    · exact ⟨part_ends (ends_len (l := []) (by decide)), by rw [dt_tup]; rfl⟩
  rw [decide_eq_false w0, if_neg (by decide)]
  by_cases w1 : way % 8 = 1
  · rw [decide_eq_true w1, if_pos rfl, few_ok (by simp), R.ok_bind]
    refine sat_ix (by omega) (by simp only [List.length_cons, List.length_nil]; omega) fun x hx => ?_
    exact with_sat (odd_bad h (odd_all x hx) a0.1 a0.2)
  rw [decide_eq_false w1, if_neg (by decide)]
  by_cases w2 : way % 8 = 2
  · rw [decide_eq_true w2, if_pos rfl, few_ok (by simp), R.ok_bind]
    refine sat_ix (by omega) (by simp only [List.length_cons, List.length_nil]; omega) fun x hx => ?_
    obtain ⟨n1, n2, n3⟩ := nonames x hx
    exact with_sat (name_bad h n1 n2 n3 (by omega) (by omega))
  rw [decide_eq_false w2, if_neg (by decide)]
  by_cases w3 : way % 8 = 3
  · rw [decide_eq_true w3, if_pos rfl, show ixTup ⟨pl p⟩ 1 = .ok (.str p.start) from ix_tup rfl, R.ok_bind]
    refine with_sat ⟨_, cut6 (.inr (.inr (.inl ⟨rfl, rfl⟩))), part_ends ?_, dts6 (dtS h.n) (dtS h.s) (dtS h.s) (dtq _) (dtq _) dt_int⟩
    rw [ends_names (r := [enc p.size, enc p.most, .int p.weight]) (n := 6) rfl h.n h.s h.s, decide_eq_true rfl]; rfl
  rw [decide_eq_false w3, if_neg (by decide), if_pos (by decide), R.ok_bind]
  by_cases w4 : way % 8 = 4
  · rw [decide_eq_true w4, if_pos rfl]
    have hr : ∃ r : Rat, (enc (-1 - way / 8 % 5, (7 : Int)) : D) = enc r ∧ r.num < 0 := by
      have hk : way / 8 % 5 = 0 ∨ way / 8 % 5 = 1 ∨ way / 8 % 5 = 2 ∨ way / 8 % 5 = 3 ∨ way / 8 % 5 = 4 := by omega
      rcases hk with e | e | e | e | e <;> rw [e]
      · exact ⟨-1/7, by show D.tup [.int (-1), .int 7] = frD (-1/7); rw [frD_def, show (-1/7 : Rat).num = -1 by decide +kernel, show (-1/7 : Rat).den = 7 by decide +kernel]; rfl, by decide +kernel⟩
      · exact ⟨-2/7, by show D.tup [.int (-2), .int 7] = frD (-2/7); rw [frD_def, show (-2/7 : Rat).num = -2 by decide +kernel, show (-2/7 : Rat).den = 7 by decide +kernel]; rfl, by decide +kernel⟩
      · exact ⟨-3/7, by show D.tup [.int (-3), .int 7] = frD (-3/7); rw [frD_def, show (-3/7 : Rat).num = -3 by decide +kernel, show (-3/7 : Rat).den = 7 by decide +kernel]; rfl, by decide +kernel⟩
      · exact ⟨-4/7, by show D.tup [.int (-4), .int 7] = frD (-4/7); rw [frD_def, show (-4/7 : Rat).num = -4 by decide +kernel, show (-4/7 : Rat).den = 7 by decide +kernel]; rfl, by decide +kernel⟩
      · exact ⟨-5/7, by show D.tup [.int (-5), .int 7] = frD (-5/7); rw [frD_def, show (-5/7 : Rat).num = -5 by decide +kernel, show (-5/7 : Rat).den = 7 by decide +kernel]; rfl, by decide +kernel⟩
    obtain ⟨r, er, hr⟩ := hr
    rw [er]
    refine with_sat ⟨_, cut6 (.inr (.inr (.inr (.inr (.inl ⟨rfl, rfl⟩))))), ?_, dts6 (dtS h.n) (dtS h.s) (dtS h.f) (dtq _) (dtq _) dt_int⟩
    rw [part_rest h.n h.s h.f h.ne _ _ rfl, if_neg fun z : 0 ≤ r.num ∧ _ => absurd z.1 (by omega)]
  rw [decide_eq_false w4, if_neg (by decide), if_pos (by decide), few_ok (by simp), R.ok_bind]
  refine sat_ix (by omega) (by simp only [List.length_cons, List.length_nil]; omega) fun x hx => ?_
  refine with_sat ?_
  simp only [List.mem_cons, List.not_mem_nil, or_false] at hx
  rcases hx with rfl | rfl | rfl | rfl | rfl
  · exact weight_bad h rfl dt_int (.inr ⟨0, rfl, by decide⟩)
  · exact weight_bad h rfl dt_int (.inr ⟨-1, rfl, by decide⟩)
  · exact weight_bad h rfl dt_bl (.inl rfl)
  · exact weight_bad h rfl (by decide +kernel) (.inl rfl)
  · exact weight_bad h rfl dt_non (.inl rfl)
section
variable {g : GapV} (h : OkG g)
include h
theorem gname_bad {x : D} (q : Q1 x) (n : nameD x = false) (d : dt 57 x = true) {i : Int} (h0 : 0 ≤ i) (h1 : i < 3) : ∃ r, F__law_with ⟨gl g⟩ i x = .ok ⟨r⟩ ∧ BadG (.tup r) := by
  have hi : i = 0 ∨ i = 1 ∨ i = 2 := by omega
  rcases hi with rfl | rfl | rfl
  · exact ⟨_, cut5 (.inl ⟨rfl, rfl⟩), gap_ends (ends_bad rfl q (q1_str h.s) (q1_str h.f) (.inl n)), dts5 d (dtS h.s) (dtS h.f) (dtq _) (dtq _)⟩
  · exact ⟨_, cut5 (.inr (.inl ⟨rfl, rfl⟩)), gap_ends (ends_bad rfl (q1_str h.n) q (q1_str h.f) (.inr (.inl n))), dts5 (dtS h.n) d (dtS h.f) (dtq _) (dtq _)⟩
  · exact ⟨_, cut5 (.inr (.inr (.inl ⟨rfl, rfl⟩))), gap_ends (ends_bad rfl (q1_str h.n) (q1_str h.s) q (.inr (.inr n))), dts5 (dtS h.n) (dtS h.s) d (dtq _) (dtq _)⟩
theorem godd_bad {x : D} (o : Odd x) {i : Int} (h0 : 0 ≤ i) (h1 : i < 5) : ∃ r, F__law_with ⟨gl g⟩ i x = .ok ⟨r⟩ ∧ BadG (.tup r) := by
  by_cases h3 : i < 3
  · exact gname_bad h o.q o.n o.d h0 h3
  · have hi : i = 3 ∨ i = 4 := by omega
    rcases hi with rfl | rfl
    · exact ⟨_, cut5 (.inr (.inr (.inr (.inl ⟨rfl, rfl⟩)))), gap_frac h.n h.s h.f h.ne o.t (tyOk_fr _) (.inl o.f), dts5 (dtS h.n) (dtS h.s) (dtS h.f) o.d (dtq _)⟩
    · exact ⟨_, cut5 (.inr (.inr (.inr (.inr ⟨rfl, rfl⟩)))), gap_frac h.n h.s h.f h.ne (tyOk_fr _) o.t (.inr o.f), dts5 (dtS h.n) (dtS h.s) (dtS h.f) (dtq _) o.d⟩
end
theorem enc_add1 (q : Rat) : (enc (q.num + (q.den : Int), (q.den : Int)) : D) = enc (q + 1) := by
  show D.tup [.int (q.num + (q.den : Int)), .int (q.den : Int)] = frD (q + 1)
  have h := toRat_add q
  unfold toRat at h
  split at h
  · rename_i g
    injection h with h
    rw [← h, frD_def]
    show _ = D.tup [.int (q.num + (q.den : Int)), .int (((q.den : Int).natAbs : Nat) : Int)]
    rw [Int.natAbs_natCast]
  · cases h
theorem spoil_gap {g : GapV} (E : GapE g) {way : Int} (hw : 0 ≤ way) : (F__law_spoiled ⟨gl g⟩ way).sat BadG := by
  have h := E.ok
  have en : ∀ {n : Nat} {l : List D}, (∀ d ∈ l, dt n d = true) → dts n l = true := fun {n l} => by
    induction l with
    | nil => intro _; exact dts_nil
    | cons d l ih => intro q; rw [dts_cons, q d List.mem_cons_self, ih fun e he => q e (List.mem_cons_of_mem _ he)]; rfl
  have dl : ∀ d ∈ gl g, dt 57 d = true := fun d hd => by
    simp only [List.mem_cons, List.not_mem_nil, or_false] at hd
    rcases hd with rfl | rfl | rfl | rfl | rfl
    · exact dtS h.n
    · exact dtS h.s
    · exact dtS h.f
    · exact dtq _
    · exact dtq _
  unfold F__law_spoiled
  simp only [R.ok_bind, R.exc_bind, R.bad_bind, R.bind_assoc, R.noexc_ok, R.b2, R.map, R.cond, R.flow, addI, subI, andB, orB, unw_some, unw_none, few_nil, ofRat, isCls, Option.isNone_none, Option.isNone_some, Bool.not_true, Bool.not_false, Bool.false_eq_true, if_true, if_false]
  rw [show (((gl g).length : Nat) : Int) = 5 from rfl, modI_pos (by decide), R.ok_bind]
  have a0 : 0 ≤ way / 16 % 5 ∧ way / 16 % 5 < 5 := by omega
  generalize way / 16 % 5 = at_ at a0
  by_cases w0 : way % 8 = 0
  · rw [decide_eq_true w0, if_pos rfl]
    have e1 : catU ⟨gl g⟩ ⟨[enc (1 : Int)]⟩ = .ok ⟨gl g ++ [enc (1 : Int)]⟩ := if_pos (by show 5 + 1 < _; decide)
    have e2 : ixTup ⟨gl g⟩ 0 = .ok (.str g.name) := ix_tup rfl
    rw [e1, R.ok_bind, e2, R.ok_bind, few_ok (by simp), R.ok_bind]
    refine sat_imp (ixL_sat (by omega) (by simp only [List.length_cons, List.length_nil]; omega)) fun d hd => ?_
    simp only [List.mem_cons, List.not_mem_nil, or_false] at hd
    rcases hd with rfl | rfl | rfl | rfl | rfl | rfl | rfl
    · exact ⟨gap_ends (ends_no rfl), by rw [dt_lst]; exact en dl⟩
    · refine ⟨gap_ends (ends_len (l := cut (gl g) none (some (-1))) (show ((4 : Nat) : Int) ≠ 5 by decide)), ?_⟩
      show dt 58 (.tup [.str g.name, .str g.one, .str g.other, enc g.low]) = true
      rw [dt_tup]
      exact en fun d hd => dl d (by
        simp only [List.mem_cons, List.not_mem_nil, or_false] at hd ⊢
        rcases hd with rfl | rfl | rfl | rfl <;> simp)
    · refine ⟨gap_ends (ends_len (l := gl g ++ [enc (1 : Int)]) (show ((6 : Nat) : Int) ≠ 5 by decide)), ?_⟩
      show dt 58 (.tup (gl g ++ [enc (1 : Int)])) = true
      rw [dt_tup]
      refine en fun d hd => ?_
      rcases List.mem_append.mp hd with hd | hd
      · exact dl d hd
      · rw [List.mem_singleton.mp hd]; exact dt_int
    · exact ⟨gap_ends (ends_no rfl), dt_non⟩
    · exact ⟨gap_ends (ends_no rfl), dt_int⟩
    · exact ⟨gap_ends (ends_no rfl), by rw [dt_str]; exact (nameB_few h.n).2⟩
    · exact ⟨gap_ends (ends_len (l := []) (by decide)), by rw [dt_tup]; rfl⟩
  rw [decide_eq_false w0, if_neg (by decide)]
  by_cases w1 : way % 8 = 1
  · rw [decide_eq_true w1, if_pos rfl, few_ok (by simp), R.ok_bind]
    refine sat_ix (by omega) (by simp only [List.length_cons, List.length_nil]; omega) fun x hx => ?_
    exact with_sat (godd_bad h (odd_all x hx) a0.1 a0.2)
  rw [decide_eq_false w1, if_neg (by decide)]
  by_cases w2 : way % 8 = 2
  · rw [decide_eq_true w2, if_pos rfl, few_ok (by simp), R.ok_bind]
    refine sat_ix (by omega) (by simp only [List.length_cons, List.length_nil]; omega) fun x hx => ?_
    obtain ⟨n1, n2, n3⟩ := nonames x hx
    exact with_sat (gname_bad h n1 n2 n3 (by omega) (by omega))
  rw [decide_eq_false w2, if_neg (by decide)]
  by_cases w3 : way % 8 = 3
  · rw [decide_eq_true w3, if_pos rfl, show ixTup ⟨gl g⟩ 1 = .ok (.str g.one) from ix_tup rfl, R.ok_bind]
    refine with_sat ⟨_, cut5 (.inr (.inr (.inl ⟨rfl, rfl⟩))), gap_ends ?_, dts5 (dtS h.n) (dtS h.s) (dtS h.s) (dtq _) (dtq _)⟩
    rw [ends_names (r := [enc g.low, enc g.high]) (n := 5) rfl h.n h.s h.s, decide_eq_true rfl]; rfl
  rw [decide_eq_false w3, if_neg (by decide), if_neg (by decide), R.ok_bind, if_neg (by decide), if_neg (by decide), show ixTup ⟨gl g⟩ 4 = .ok (enc g.high) from ix_tup rfl]
  simp only [R.ok_bind, un_fr]
  rw [enc_add1]
  refine with_sat ⟨_, cut5 (.inr (.inr (.inr (.inl ⟨rfl, rfl⟩)))), ?_, dts5 (dtS h.n) (dtS h.s) (dtS h.f) (dtq _) (dtq _)⟩
  rw [gap_rest h.n h.s h.f h.ne E.h1 h.hi, decide_eq_true (by grind)]; rfl
end K41
namespace K41
open PySem PySem.Spec PyProof.Rows L2 DL FR TF
open TF.Enc
/-! ### the lists drawn -/
theorem dtP {p : PartV} (h : OkP p) : dt 58 (enc p) = true := dts6 (dtS h.n) (dtS h.s) (dtS h.f) (dtq _) (dtq _) dt_int
theorem dtG {g : GapV} (h : OkG g) : dt 58 (enc g) = true := dts5 (dtS h.n) (dtS h.s) (dtS h.f) (dtq _) (dtq _)
theorem drawn_ok {ns : List Int} (hn : ns.length ≤ 63) {st : Int} (h2 : 0 ≤ st) (h3 : st ≤ 3) : (F__law_drawn ns st).sat fun r => (∀ x ∈ r.1, PtK x ∧ dt 58 x.2 = true) ∧ (∀ x ∈ r.2, GpK x ∧ dt 58 x.2 = true) ∧ r.1.length ≤ 7 ∧ r.2.length ≤ 6 := by
  unfold F__law_drawn
  simp only [R.ok_bind, R.exc_bind, R.bad_bind, R.bind_assoc, R.noexc_ok, R.b2, R.map, R.cond, R.flow, addI, subI, andB, orB, unw_some, unw_none, few_nil, ofRat, isCls, Option.isNone_none, Option.isNone_some, Bool.not_true, Bool.not_false, Bool.false_eq_true, if_true, if_false]
  rw [cell_eq]
  refine sat_bind (cell_ok hn (by omega) (by omega) (by omega)) fun c _ => ?_
  have hc : 0 ≤ c % 7 ∧ c % 7 < 7 := by omega
  generalize c % 7 = many at hc
  rw [rng1_ok (by omega), R.ok_bind]
  refine sat_bind (foldR_ind (fun pre (s : List (Bool × D)) => (∀ x ∈ s, PtK x ∧ dt 58 x.2 = true) ∧ s.length = pre.length) ?_ ⟨fun _ h => (nomatch h), rfl⟩) ?_
  · rintro pre x post s e ⟨I1, I2⟩
    obtain ⟨rfl, hk⟩ := rngL_at e
    have hm : many.toNat < 8 := by omega
    refine sat_bind (cell_ok hn (by omega) (by omega) (by omega)) fun c0 _ => ?_
    refine sat_bind (cell_ok hn (by omega) (by omega) (by omega)) fun c1 _ => ?_
    rw [few_ok (by simp), R.ok_bind]
    refine sat_bind (part_drawn (by omega) (by omega) h2 h3) fun p hp => ?_
    refine sat_bind (cell_ok hn (by omega) (by omega) (by omega)) fun c2 _ => ?_
    have hw : 0 ≤ c2 * 69621 % 2147483587 / 37 := by omega
    generalize c2 * 69621 % 2147483587 / 37 = way at hw
    have add : ∀ y : Bool × D, PtK y ∧ dt 58 y.2 = true → (∀ x ∈ s ++ [y], PtK x ∧ dt 58 x.2 = true) ∧ (s ++ [y]).length = (pre ++ [0 + (pre.length : Int)]).length := fun y hy => by
      refine ⟨fun z hz => ?_, by simp [I2]⟩
      rcases List.mem_append.mp hz with hz | hz
      · exact I1 z hz
      · rw [List.mem_singleton.mp hz]; exact hy
    split
    · refine sat_bind (spoil_part hp hw) fun d hd => ?_
      rw [few_ok (by omega), R.ok_bind]
      exact sat_ok (add (false, d) ⟨.bad hd.1, hd.2⟩)
    · rw [few_ok (by omega), R.ok_bind]
      exact sat_ok (add (true, enc p) ⟨.good hp, dtP hp⟩)
  rintro ps ⟨I1, I2⟩
  rw [rngL_len] at I2
  refine sat_bind (cell_ok hn (by omega) (by omega) (by omega)) fun c _ => ?_
  have hc : 0 ≤ c % 6 ∧ c % 6 < 6 := by omega
  generalize c % 6 = many2 at hc
  rw [rng1_ok (by omega), R.ok_bind]
  refine sat_bind (foldR_ind (fun pre (s : List (Bool × D)) => (∀ x ∈ s, GpK x ∧ dt 58 x.2 = true) ∧ s.length = pre.length) ?_ ⟨fun _ h => (nomatch h), rfl⟩) ?_
  · rintro pre x post s e ⟨J1, J2⟩
    obtain ⟨rfl, hk⟩ := rngL_at e
    have hm : many2.toNat < 8 := by omega
    refine sat_bind (cell_ok hn (by omega) (by omega) (by omega)) fun c0 _ => ?_
    refine sat_bind (cell_ok hn (by omega) (by omega) (by omega)) fun c1 _ => ?_
    rw [few_ok (by simp), R.ok_bind]
    refine sat_bind (gap_drawn (by omega) (by omega) h2 h3) fun g hg => ?_
    refine sat_bind (cell_ok hn (by omega) (by omega) (by omega)) fun c2 _ => ?_
    have hw : 0 ≤ c2 * 69621 % 2147483587 / 37 := by omega
    generalize c2 * 69621 % 2147483587 / 37 = way at hw
    have add : ∀ y : Bool × D, GpK y ∧ dt 58 y.2 = true → (∀ x ∈ s ++ [y], GpK x ∧ dt 58 x.2 = true) ∧ (s ++ [y]).length = (pre ++ [0 + (pre.length : Int)]).length := fun y hy => by
      refine ⟨fun z hz => ?_, by simp [J2]⟩
      rcases List.mem_append.mp hz with hz | hz
      · exact J1 z hz
      · rw [List.mem_singleton.mp hz]; exact hy
    split
    · refine sat_bind (spoil_gap hg hw) fun d hd => ?_
      rw [few_ok (by omega), R.ok_bind]
      exact sat_ok (add (false, d) ⟨.bad hd.1, hd.2⟩)
    · rw [few_ok (by omega), R.ok_bind]
      exact sat_ok (add (true, enc g) ⟨.good hg.ok, dtG hg.ok⟩)
  rintro gs ⟨J1, J2⟩
  rw [rngL_len] at J2
  exact sat_ok ⟨I1, J1, by show ps.length ≤ 7; omega, by show gs.length ≤ 6; omega⟩
/-! ### made or refused -/
theorem isE_eq {tb : List (String × Bool)} {c : String} {b : Bool} (h : tb.lookup c = some b) : isE tb c [] = .ok b := by
  unfold isE
  rw [lookS_eq, h]; rfl
theorem excT_e {tb : List (String × Bool)} {c : String} {b : Bool} (h : tb.lookup c = some b) : excT tb c = some b := by unfold excT; rw [lookS_eq, h]
abbrev WS5 : List Str := [Str.ofString "part", Str.ofString "twice", Str.ofString "ring", Str.ofString "gap", Str.ofString "apart"]
theorem fin_named {named others : List Bool} {w : Str} {j : Int} (ho : decide (true ∈ others) = false) (hc : named.countP (fun x => x == true) = 1) (hi : idxB named true = .ok j) (hw : ixL WS5 j = .ok w) :
    ((TF.inR false true others).bind fun a => (if a = true then R.ok true else R.ok !decide (((named.countP (fun x => x == true) : Nat) : Int) = 1)).bind fun c => if c = true then R.ok (Str.ofString "none", (none : Option ThingV)) else (few WS5).bind fun a => (idxB named true).bind fun a_1 => (ixL a a_1).bind fun t_80 => R.ok (t_80, none)) = .ok (w, none) := by
  rw [inR_ok trivial (fun _ _ => trivial), ho, R.ok_bind, Bool.false_xor, if_neg (by decide), hc, R.ok_bind, if_neg (by decide), few_ok (by simp), R.ok_bind, hi, R.ok_bind, hw, R.ok_bind]
theorem tryR_exc {σ : Type} {c : String} {fs : List (String × D)} {sub : String → Option Bool} {h : String → List (String × D) → R σ} (e : sub c = some true) : tryR (.exc c fs) sub h = h c fs := by
  unfold tryR; simp only [e]
theorem made_gen {xs ys : List D} {c : String} (h : F_ThingD xs ys = .exc c []) (hs : tb_SlackError.lookup c = some true) {b0 : Bool} {b1 : Bool} {b2 : Bool} {b3 : Bool} {b4 : Bool} {b5 : Bool} {b6 : Bool} {b7 : Bool} {b8 : Bool} {b9 : Bool} {b10 : Bool} {b11 : Bool} {b12 : Bool} {b13 : Bool} (e0 : ti_NoPart.lookup c = some b0) (e1 : ti_Twice.lookup c = some b1) (e2 : ti_InRing.lookup c = some b2) (e3 : ti_NoGap.lookup c = some b3) (e4 : ti_Apart.lookup c = some b4) (e5 : ti_NoTie.lookup c = some b5) (e6 : ti_NoName.lookup c = some b6) (e7 : ti_NoFace.lookup c = some b7) (e8 : ti_Impossible.lookup c = some b8) (e9 : ti_NoNumber.lookup c = some b9) (e10 : ti_Tight.lookup c = some b10) (e11 : ti_Off.lookup c = some b11) (e12 : ti_NoRow.lookup c = some b12) (e13 : ti_ValueError.lookup c = some b13)
    {w : Str} {j : Int} (ho : decide (true ∈ [b5, b6, b7, b8, b9, b10, b11, b12, !b13]) = false) (hc : [b0, b1, b2, b3, b4].countP (fun x => x == true) = 1) (hi : idxB [b0, b1, b2, b3, b4] true = .ok j) (hw : ixL WS5 j = .ok w) : F__law_made xs ys = .ok (w, none) := by
  unfold F__law_made
  simp only [R.ok_bind, R.exc_bind, R.bad_bind, R.bind_assoc, R.noexc_ok, R.b2, R.map, R.cond, R.flow, addI, subI, andB, orB, unw_some, unw_none, few_nil, ofRat, isCls, Option.isNone_none, Option.isNone_some, Bool.not_true, Bool.not_false, Bool.false_eq_true, if_true, if_false]
  rw [h]
  simp only [R.exc_bind]
  rw [tryR_exc (excT_e hs)]
  have f5 : few [b0, b1, b2, b3, b4] = .ok [b0, b1, b2, b3, b4] := few_ok (by simp)
  have f9 : few [b5, b6, b7, b8, b9, b10, b11, b12, !b13] = .ok [b5, b6, b7, b8, b9, b10, b11, b12, !b13] := few_ok (by simp)
  rw [isE_eq e0, R.ok_bind]
  rw [isE_eq e1, R.ok_bind]
  rw [isE_eq e2, R.ok_bind]
  rw [isE_eq e3, R.ok_bind]
  rw [isE_eq e4, R.ok_bind]
  rw [f5, R.ok_bind]
  rw [isE_eq e5, R.ok_bind]
  rw [isE_eq e6, R.ok_bind]
  rw [isE_eq e7, R.ok_bind]
  rw [isE_eq e8, R.ok_bind]
  rw [isE_eq e9, R.ok_bind]
  rw [isE_eq e10, R.ok_bind]
  rw [isE_eq e11, R.ok_bind]
  rw [isE_eq e12, R.ok_bind]
  rw [isE_eq e13, R.ok_bind]
  rw [f9, R.ok_bind, R.ok_bind, if_neg (show ¬ (!(none : Option ThingV).isNone) = true by decide)]
  exact fin_named ho hc hi hw
theorem made_exc {xs ys : List D} {c : String} {w : Str} (h : F_ThingD xs ys = .exc c []) (hm : MW w c) : F__law_made xs ys = .ok (w, none) := by
  rcases hm with ⟨rfl, rfl⟩ | ⟨rfl, rfl⟩ | ⟨rfl, rfl⟩ | ⟨rfl, rfl⟩ | ⟨rfl, rfl⟩
  · exact made_gen (b0 := true) (b1 := false) (b2 := false) (b3 := false) (b4 := false) (b5 := false) (b6 := false) (b7 := false) (b8 := false) (b9 := false) (b10 := false) (b11 := false) (b12 := false) (b13 := true) (j := 0) h (by decide +kernel) (by decide +kernel) (by decide +kernel) (by decide +kernel) (by decide +kernel) (by decide +kernel) (by decide +kernel) (by decide +kernel) (by decide +kernel) (by decide +kernel) (by decide +kernel) (by decide +kernel) (by decide +kernel) (by decide +kernel) (by decide +kernel) (by decide) (by decide) rfl rfl
  · exact made_gen (b0 := false) (b1 := true) (b2 := false) (b3 := false) (b4 := false) (b5 := false) (b6 := false) (b7 := false) (b8 := false) (b9 := false) (b10 := false) (b11 := false) (b12 := false) (b13 := true) (j := 1) h (by decide +kernel) (by decide +kernel) (by decide +kernel) (by decide +kernel) (by decide +kernel) (by decide +kernel) (by decide +kernel) (by decide +kernel) (by decide +kernel) (by decide +kernel) (by decide +kernel) (by decide +kernel) (by decide +kernel) (by decide +kernel) (by decide +kernel) (by decide) (by decide) rfl rfl
  · exact made_gen (b0 := false) (b1 := false) (b2 := true) (b3 := false) (b4 := false) (b5 := false) (b6 := false) (b7 := false) (b8 := false) (b9 := false) (b10 := false) (b11 := false) (b12 := false) (b13 := true) (j := 2) h (by decide +kernel) (by decide +kernel) (by decide +kernel) (by decide +kernel) (by decide +kernel) (by decide +kernel) (by decide +kernel) (by decide +kernel) (by decide +kernel) (by decide +kernel) (by decide +kernel) (by decide +kernel) (by decide +kernel) (by decide +kernel) (by decide +kernel) (by decide) (by decide) rfl rfl
  · exact made_gen (b0 := false) (b1 := false) (b2 := false) (b3 := true) (b4 := false) (b5 := false) (b6 := false) (b7 := false) (b8 := false) (b9 := false) (b10 := false) (b11 := false) (b12 := false) (b13 := true) (j := 3) h (by decide +kernel) (by decide +kernel) (by decide +kernel) (by decide +kernel) (by decide +kernel) (by decide +kernel) (by decide +kernel) (by decide +kernel) (by decide +kernel) (by decide +kernel) (by decide +kernel) (by decide +kernel) (by decide +kernel) (by decide +kernel) (by decide +kernel) (by decide) (by decide) rfl rfl
  · exact made_gen (b0 := false) (b1 := false) (b2 := false) (b3 := false) (b4 := true) (b5 := false) (b6 := false) (b7 := false) (b8 := false) (b9 := false) (b10 := false) (b11 := false) (b12 := false) (b13 := true) (j := 4) h (by decide +kernel) (by decide +kernel) (by decide +kernel) (by decide +kernel) (by decide +kernel) (by decide +kernel) (by decide +kernel) (by decide +kernel) (by decide +kernel) (by decide +kernel) (by decide +kernel) (by decide +kernel) (by decide +kernel) (by decide +kernel) (by decide +kernel) (by decide) (by decide) rfl rfl
theorem neS2 {s : String} (h : PyData.strOk (Str.ofString s) = true) : eqR true (Str.ofString s) (Str.ofString s) = .ok false := by
  rw [eqR_ok (show EqD.good (Str.ofString s) from h) (show EqD.good (Str.ofString s) from h), decide_eq_true rfl]; rfl
theorem compR_snd {l : List (Bool × D)} (h : l.length < 1000) : (compR (fun (_ : Bool × D) => R.ok true) (fun a => R.ok a.snd) l []) = .ok (l.map (·.2)) := compR_map (·.2) l (fun _ _ => rfl) (by omega)
theorem made_ok {xs ys : List D} {t : ThingV} (h : F_ThingD xs ys = .ok t) : F__law_made xs ys = .ok (Str.ofString "made", some t) := by
  unfold F__law_made
  simp only [R.ok_bind, R.exc_bind, R.bad_bind, R.bind_assoc, R.noexc_ok, R.b2, R.map, R.cond, R.flow, addI, subI, andB, orB, unw_some, unw_none, few_nil, ofRat, isCls, Option.isNone_none, Option.isNone_some, Bool.not_true, Bool.not_false, Bool.false_eq_true, if_true, if_false]
  rw [h]
  rfl
theorem dts_of {n : Nat} {l : List D} (h : ∀ d ∈ l, dt n d = true) : dts n l = true := by
  induction l with
  | nil => exact dts_nil
  | cons d l ih => rw [dts_cons, h d List.mem_cons_self, ih fun e he => h e (List.mem_cons_of_mem _ he)]; rfl
theorem ne_two {A B : List D} (hA : ∀ d ∈ A, dt 58 d = true) (hB : ∀ d ∈ B, dt 58 d = true) : neTwo ⟨A, B⟩ [A, B] = .ok false := by
  have e : (enc [A, B] : D) = .lst [.lst A, .lst B] := by
    show D.lst [D.lst (A.map enc), D.lst (B.map enc)] = _
    rw [mapEnc, mapEnc]
  have d : dt 60 (.lst [.lst A, .lst B]) = true := by
    rw [dt_lst, dts_cons, dts_cons, dts_nil, dt_lst, dt_lst, dts_of hA, dts_of hB]; rfl
  unfold neTwo
  rw [e, if_pos ⟨d, d⟩, deq_self 60 _ d]; rfl
theorem mw_good {w : Str} {c : String} (h : MW w c) : PyData.strOk w = true := by
  rcases h with ⟨rfl, _⟩ | ⟨rfl, _⟩ | ⟨rfl, _⟩ | ⟨rfl, _⟩ | ⟨rfl, _⟩ <;> decide +kernel
theorem parts_t (t : ThingV) : F_Thing_parts t = .ok t.parts := by unfold F_Thing_parts; simp only [R.ok_bind, R.exc_bind, R.bad_bind, R.bind_assoc, R.noexc_ok, R.b2, R.map, R.cond, R.flow, addI, subI, andB, orB, unw_some, unw_none, few_nil, ofRat, isCls, Option.isNone_none, Option.isNone_some, Bool.not_true, Bool.not_false, Bool.false_eq_true, if_true, if_false]
theorem gaps_t (t : ThingV) : F_Thing_gaps t = .ok t.gaps := by unfold F_Thing_gaps; simp only [R.ok_bind, R.exc_bind, R.bad_bind, R.bind_assoc, R.noexc_ok, R.b2, R.map, R.cond, R.flow, addI, subI, andB, orB, unw_some, unw_none, few_nil, ofRat, isCls, Option.isNone_none, Option.isNone_some, Bool.not_true, Bool.not_false, Bool.false_eq_true, if_true, if_false]
theorem unP (ps : List PartV) : unE (List PartV) (enc (ps.map (enc : PartV → D))) = .ok ps := by
  have e : (enc (ps.map (enc : PartV → D)) : D) = enc ps := by
    show D.lst ((ps.map enc).map enc) = D.lst (ps.map enc)
    rw [mapEnc]
  rw [e, unE_ok]
theorem unG (ps : List GapV) : unE (List GapV) (enc (ps.map (enc : GapV → D))) = .ok ps := by
  have e : (enc (ps.map (enc : GapV → D)) : D) = enc ps := by
    show D.lst ((ps.map enc).map enc) = D.lst (ps.map enc)
    rw [mapEnc]
  rw [e, unE_ok]
theorem law_ok (ns : List Int) (h : ns.length ≤ 63) : F_law ns = .ok true := by
  have key : (F_law ns).sat fun b => b = true := by
    unfold F_law
    simp only [R.ok_bind, R.exc_bind, R.bad_bind, R.bind_assoc, R.noexc_ok, R.b2, R.map, R.cond, R.flow, addI, subI, andB, orB, unw_some, unw_none, few_nil, ofRat, isCls, Option.isNone_none, Option.isNone_some, Bool.not_true, Bool.not_false, Bool.false_eq_true, if_true, if_false]
    rw [cell_eq]
    refine sat_bind (cell_ok h (by omega) (by omega) (by omega)) fun c _ => ?_
    refine sat_bind (drawn_ok h (by omega) (by omega)) fun r hr => ?_
    obtain ⟨xs, ys⟩ := r
    obtain ⟨h1, h2, l1, l2⟩ := hr
    dsimp only at h1 h2 l1 l2 ⊢
    have dA : ∀ d ∈ xs.map (·.2), dt 58 d = true := fun d hd => by obtain ⟨x, hx, rfl⟩ := List.mem_map.mp hd; exact (h1 x hx).2
    have dB : ∀ d ∈ ys.map (·.2), dt 58 d = true := fun d hd => by obtain ⟨x, hx, rfl⟩ := List.mem_map.mp hd; exact (h2 x hx).2
    rw [compR_snd (l := xs) (by omega), compR_snd (l := ys) (by omega)]
    rcases both (fun x hx => (h1 x hx).1) (fun x hx => (h2 x hx).1) (by omega) (by omega) with ⟨w, c, e1, e2, hm⟩ | ⟨ps, gs, t, e1, e2, o1, o2, t1, t2, x1, y1⟩
    · have g := mw_good hm
      have en : eqR true w w = .ok false := by rw [eqR_ok (show EqD.good w from g) (show EqD.good w from g), decide_eq_true rfl]; rfl
      rw [e1, R.ok_bind]
      simp only [R.noexc_ok, R.ok_bind]
      rw [few_ok (by simp), R.ok_bind, made_exc e2 hm, R.ok_bind, en, R.ok_bind, if_neg (by decide), ne_two dA dB, R.ok_bind, if_neg (by decide)]
      exact sat_ok rfl
    · have en : eqR true (Str.ofString "made") (Str.ofString "made") = .ok false := neS2 (by decide +kernel)
      have ep : eqR true ps ps = .ok false := by rw [eqR_ok (gd_parts o1) (gd_parts o1), decide_eq_true rfl]; rfl
      have eg : eqR true gs gs = .ok false := by rw [eqR_ok (gd_gaps o2) (gd_gaps o2), decide_eq_true rfl]; rfl
      have ep2 : eqR false ps ps = .ok true := by rw [eqR_ok (gd_parts o1) (gd_parts o1), decide_eq_true rfl]; rfl
      have eg2 : eqR false gs gs = .ok true := by rw [eqR_ok (gd_gaps o2) (gd_gaps o2), decide_eq_true rfl]; rfl
      have lx : (xs.map (·.2)).length < 1000000 := by rw [List.length_map]; omega
      have ly : (ys.map (·.2)).length < 1000000 := by rw [List.length_map]; omega
      have lp : few (ps.map (enc : PartV → D)) = .ok (ps.map enc) := few_ok (by rw [← x1]; exact lx)
      have lg : few (gs.map (enc : GapV → D)) = .ok (gs.map enc) := few_ok (by rw [← y1]; exact ly)
      rw [e1, R.ok_bind]
      simp only [R.noexc_ok, R.ok_bind]
      rw [few_ok (by simp), R.ok_bind, made_ok e2, R.ok_bind, en, R.ok_bind, if_neg (by decide), ne_two dA dB, R.ok_bind, if_neg (by decide), if_neg (show ¬ (some t).isNone = true by simp), few_ok lx, R.ok_bind]
      have i0 : ixL [xs.map (·.2), ys.map (·.2)] 0 = .ok (ps.map enc) := by rw [← x1]; rfl
      have i1 : ixL [xs.map (·.2), ys.map (·.2)] 1 = .ok (gs.map enc) := by rw [← y1]; rfl
      simp only [unw_some, parts_t, gaps_t, t1, t2, i0, i1, unP, unG, ep, eg, ep2, eg2, lp, lg, R.ok_bind, R.noexc_ok, Bool.false_eq_true, if_false, if_true]
      exact sat_ok rfl
  obtain ⟨b, e, rfl⟩ := key
  exact e
end K41


namespace K41
open PySem PySem.Spec PyProof.Rows L2 DL FR TF
open TF.Enc
def sp_divisor : DSp := fun ds A Q _ => match ds with
  | [.int a, .int b] => Q (.int (Int.gcd a b)) A
  | _ => False
@[simp ↓] theorem sp_divisor_eq {A : AH} {Q : DK} {E : DX} {a b : Int} : sp_divisor [.int a, .int b] A Q E = Q (.int (Int.gcd a b)) A := rfl
theorem hs_divisor : ∀ (A : AH) (d0 d1 : D) (x y : Int) (Q : DK) (E : DX), vw A d0 x → vw A d1 y → (F_divisor x y).wp (fun r => Q (enc r) A) (fun c fs => E c fs A) → sp_divisor ([d0, d1] ++ []) A Q E := by
  intro A d0 d1 x y Q E h0 h1 h
  have e0 : d0 = .int x := h0
  have e1 : d1 = .int y := h1
  subst e0 e1
  exact h
def sp_under : DSp := fun ds A Q _ => match ds with
  | [x, y] => (match deFr x, deFr y with
    | some q, some r => (Sm q ∧ Sm r) ∧ Q (.bl (decide (q < r))) A
    | _, _ => False)
  | _ => False
@[simp ↓] theorem sp_under_eq {A : AH} {Q : DK} {E : DX} {q r : Rat} : sp_under [frD q, frD r] A Q E = ((Sm q ∧ Sm r) ∧ Q (.bl (decide (q < r))) A) := by
  simp [sp_under]
theorem hs_under : ∀ (A : AH) (d0 d1 : D) (x y : Rat) (Q : DK) (E : DX), vw A d0 x → vw A d1 y → (F_under x y).wp (fun r => Q (enc r) A) (fun c fs => E c fs A) → sp_under ([d0, d1] ++ []) A Q E := by
  intro A d0 d1 x y Q E h0 h1 h
  have e0 : d0 = frD x := h0
  have e1 : d1 = frD y := h1
  subst e0 e1
  show sp_under [frD x, frD y] A Q E
  rw [sp_under_eq]
  unfold F_under at h
  split at h
  · rename_i g; exact ⟨g, h⟩
  · exact h.elim
def sp_is_whole : DSp := fun ds A Q _ => match ds with
  | [d] => (tyD A d).isSome = true ∧ Q (.bl (isIntD d)) A
  | _ => False
@[simp ↓] theorem sp_is_whole_eq {A : AH} {Q : DK} {E : DX} {d : D} : sp_is_whole [d] A Q E = ((tyD A d).isSome = true ∧ Q (.bl (isIntD d)) A) := rfl
theorem hs_is_whole : ∀ (A : AH) (d0 : D) (x : D) (Q : DK) (E : DX), vw A d0 x → (F_is_whole x).wp (fun r => Q (enc r) A) (fun c fs => E c fs A) → sp_is_whole ([d0] ++ []) A Q E := by
  intro A d0 x Q E h0 h
  have ty : ∀ d : D, (tyD noHeap d).isSome = true → (tyD A d).isSome = true := fun d h => by
    cases d with
    | ref a => exact absurd h (by show ¬ (Option.isSome (none : Option String) = true); decide)
    | _ => exact h
  have e0 : x = d0 := h0.symm
  subst e0
  unfold F_is_whole at h
  split at h
  · rename_i g
    show sp_is_whole [x] A Q E
    exact ⟨ty x g, h⟩
  · exact h.elim
def sp_is_name : DSp := fun ds A Q _ => match ds with
  | [.str z] => Few z.length ∧ Q (.bl (nameB z)) A
  | [d] => ((tyD A d).isSome = true ∧ tyD A d ≠ some "str") ∧ Q (.bl false) A
  | _ => False
@[simp ↓] theorem sp_is_name_str {A : AH} {Q : DK} {E : DX} {z : Str} : sp_is_name [.str z] A Q E = (Few z.length ∧ Q (.bl (nameB z)) A) := rfl
@[simp ↓] theorem sp_is_name_tup {A : AH} {Q : DK} {E : DX} {l : List D} : sp_is_name [.tup l] A Q E = Q (.bl false) A := by simp [sp_is_name]
@[simp ↓] theorem sp_is_name_lst {A : AH} {Q : DK} {E : DX} {l : List D} : sp_is_name [.lst l] A Q E = Q (.bl false) A := by simp [sp_is_name]
@[simp ↓] theorem sp_is_name_int {A : AH} {Q : DK} {E : DX} {i : Int} : sp_is_name [.int i] A Q E = Q (.bl false) A := by simp [sp_is_name]
@[simp ↓] theorem sp_is_name_non {A : AH} {Q : DK} {E : DX} : sp_is_name [.non] A Q E = Q (.bl false) A := by simp [sp_is_name]
theorem is_name_any {A : AH} {Q : DK} {E : DX} {x : D} (h1 : (tyD A x).isSome = true) (h2 : ∀ z, x = .str z → Few z.length) : sp_is_name [x] A Q E = Q (.bl (nameD x)) A := by
  cases x with
  | str z => exact propext ⟨fun h => h.2, fun h => ⟨h2 z rfl, h⟩⟩
  | ref a =>
    have hn : tyD A (.ref a) ≠ some "str" := fun e => by
      have e' : (match A a with | some (.lst _) => some "list" | some (.dic _) => some "dict" | _ => none) = some "str" := e
      split at e' <;> simp at e'
    exact propext ⟨fun h => h.2, fun h => ⟨⟨h1, hn⟩, h⟩⟩
  | obj _ _ _ => cases h1
  | _ => exact propext ⟨fun h => h.2, fun h => ⟨⟨rfl, by simp⟩, h⟩⟩
theorem hs_is_name : ∀ (A : AH) (d0 : D) (x : D) (Q : DK) (E : DX), vw A d0 x → (F_is_name x).wp (fun r => Q (enc r) A) (fun c fs => E c fs A) → sp_is_name ([d0] ++ []) A Q E := by
  intro A d0 x Q E h0 h
  have ty : ∀ d : D, (tyD noHeap d).isSome = true → (tyD A d).isSome = true := fun d h => by
    cases d with
    | ref a => exact absurd h (by show ¬ (Option.isSome (none : Option String) = true); decide)
    | _ => exact h
  have e0 : x = d0 := h0.symm
  subst e0
  unfold F_is_name at h
  split at h
  · rename_i g
    show sp_is_name [x] A Q E
    rw [is_name_any (ty x g.1) g.2]; exact h
  · exact h.elim
def sp_is_fraction : DSp := fun ds A Q _ => match ds with
  | [d] => tyOk A d = true ∧ Q (.bl (fracB d)) A
  | _ => False
@[simp ↓] theorem sp_is_fraction_eq {A : AH} {Q : DK} {E : DX} {d : D} : sp_is_fraction [d] A Q E = (tyOk A d = true ∧ Q (.bl (fracB d)) A) := rfl
theorem hs_is_fraction : ∀ (A : AH) (d0 : D) (x : D) (Q : DK) (E : DX), vw A d0 x → (F_is_fraction x).wp (fun r => Q (enc r) A) (fun c fs => E c fs A) → sp_is_fraction ([d0] ++ []) A Q E := by
  intro A d0 x Q E h0 h
  have ty : ∀ d : D, (tyD noHeap d).isSome = true → (tyD A d).isSome = true := fun d h => by
    cases d with
    | ref a => exact absurd h (by show ¬ (Option.isSome (none : Option String) = true); decide)
    | _ => exact h
  have e0 : x = d0 := h0.symm
  subst e0
  unfold F_is_fraction at h
  split at h
  · rename_i g
    show sp_is_fraction [x] A Q E
    refine ⟨?_, h⟩
    cases x with
    | tup m =>
      have h1' : (m.all fun d => (tyD noHeap d).isSome) = true := g
      show (m.all fun d => (tyD A d).isSome) = true
      rw [List.all_eq_true] at h1' ⊢
      exact fun y hy => ty y (h1' y hy)
    | ref a => exact absurd g (by show ¬ (Option.isSome (none : Option String) = true); decide)
    | _ => exact g
  · exact h.elim
def sp_has_ends : DSp := fun ds A Q E => ∃ (d0 : D) (d1 : D) (v_thing : D) (v_many : Int), ds = [d0, d1] ∧ vw A d0 v_thing ∧ vw A d1 v_many ∧ (F_has_ends v_thing v_many).wp (fun r => Q (enc r) A) (fun c fs => E c fs A)
theorem hs_has_ends : ∀ (A : AH) (d0 : D) (d1 : D) (v_thing : D) (v_many : Int) (Q : DK) (E : DX), vw A d0 v_thing → vw A d1 v_many → (F_has_ends v_thing v_many).wp (fun r => Q (enc r) A) (fun c fs => E c fs A) → sp_has_ends ([d0, d1] ++ []) A Q E :=
  fun A d0 d1 v_thing v_many Q E h0 h1 h => ⟨d0, d1, v_thing, v_many, rfl, h0, h1, h⟩
def sp_is_part : DSp := fun ds A Q E => ∃ (d0 : D) (v_thing : D), ds = [d0] ∧ vw A d0 v_thing ∧ (F_is_part v_thing).wp (fun r => Q (enc r) A) (fun c fs => E c fs A)
theorem hs_is_part : ∀ (A : AH) (d0 : D) (v_thing : D) (Q : DK) (E : DX), vw A d0 v_thing → (F_is_part v_thing).wp (fun r => Q (enc r) A) (fun c fs => E c fs A) → sp_is_part ([d0] ++ []) A Q E :=
  fun A d0 v_thing Q E h0 h => ⟨d0, v_thing, rfl, h0, h⟩
def sp_is_gap : DSp := fun ds A Q E => ∃ (d0 : D) (v_thing : D), ds = [d0] ∧ vw A d0 v_thing ∧ (F_is_gap v_thing).wp (fun r => Q (enc r) A) (fun c fs => E c fs A)
theorem hs_is_gap : ∀ (A : AH) (d0 : D) (v_thing : D) (Q : DK) (E : DX), vw A d0 v_thing → (F_is_gap v_thing).wp (fun r => Q (enc r) A) (fun c fs => E c fs A) → sp_is_gap ([d0] ++ []) A Q E :=
  fun A d0 v_thing Q E h0 h => ⟨d0, v_thing, rfl, h0, h⟩
def sp_way_between : DSp := fun ds A Q E => ∃ (d0 : D) (d1 : D) (d2 : D) (v_parts : (List PartV)) (v_one : Str) (v_other : Str), ds = [d0, d1, d2] ∧ vw A d0 v_parts ∧ vw A d1 v_one ∧ vw A d2 v_other ∧ (F_way_between v_parts v_one v_other).wp (fun r => Q (enc r) A) (fun c fs => E c fs A)
theorem hs_way_between : ∀ (A : AH) (d0 : D) (d1 : D) (d2 : D) (v_parts : (List PartV)) (v_one : Str) (v_other : Str) (Q : DK) (E : DX), vw A d0 v_parts → vw A d1 v_one → vw A d2 v_other → (F_way_between v_parts v_one v_other).wp (fun r => Q (enc r) A) (fun c fs => E c fs A) → sp_way_between ([d0, d1, d2] ++ []) A Q E :=
  fun A d0 d1 d2 v_parts v_one v_other Q E h0 h1 h2 h => ⟨d0, d1, d2, v_parts, v_one, v_other, rfl, h0, h1, h2, h⟩
def sp_Thing_add_part : DSp := fun ds A Q E => ∃ (A0 : AH) (p : Addr) (t : ThingV) (x : D), ds = [.ref p, enc x] ∧ New A0 (.ob "Thing" (some p) (fThing t)) p A ∧
  (F_Thing_add_partD t x).wp (fun t' => ∀ A', New A0 (.ob "Thing" (some p) (fThing t')) p A' → Q .non A') (fun k gs => ∀ A', New A0 (.ob "Thing" (some p) (fThing t)) p A' → E k gs A')
theorem io_add_part (t : ThingV) (x : D) : IoP "Thing" fThing t (F_Thing_add_partD t x) (fun p => [.ref p, enc x]) sp_Thing_add_part := fun A0 A p Q E hn h => ⟨A0, p, t, x, rfl, hn, h⟩
def sp_Thing_add_gap : DSp := fun ds A Q E => ∃ (A0 : AH) (p : Addr) (t : ThingV) (x : D), ds = [.ref p, enc x] ∧ New A0 (.ob "Thing" (some p) (fThing t)) p A ∧
  (F_Thing_add_gapD t x).wp (fun t' => ∀ A', New A0 (.ob "Thing" (some p) (fThing t')) p A' → Q .non A') (fun k gs => ∀ A', New A0 (.ob "Thing" (some p) (fThing t)) p A' → E k gs A')
theorem io_add_gap (t : ThingV) (x : D) : IoP "Thing" fThing t (F_Thing_add_gapD t x) (fun p => [.ref p, enc x]) sp_Thing_add_gap := fun A0 A p Q E hn h => ⟨A0, p, t, x, rfl, hn, h⟩
def sp_Thing___init__ : DSp := fun ds A Q E => ∃ (A0 : AH) (p : Addr) (d1 d2 : D) (parts gaps : List D), ds = [.ref p, d1, d2] ∧ New A0 (.ob "Thing" (some p) []) p A ∧ vw A0 d1 parts ∧ vw A0 d2 gaps ∧
  (F_ThingD parts gaps).wp (fun t' => ∀ A', New A0 (.ob "Thing" (some p) (fThing t')) p A' → Q .non A') (fun k gs => E k gs A0)
theorem mk_ThingD (A : AH) (x y : D) (a b : List D) (h1 : vw A x a) (h2 : vw A y b) : MkP "Thing" fThing (F_ThingD a b) A (fun p => [.ref p, x, y]) sp_Thing___init__ := fun A' p Q E hn h => ⟨A, p, x, y, a, b, rfl, hn, h1, h2, h⟩
def sp_Thing_parts : DSp := fun ds A Q E => ∃ (d0 : D) (v_self : ThingV), ds = [d0] ∧ vw A d0 v_self ∧ (F_Thing_parts v_self).wp (fun r => ∀ p A', New A (oL r) p A' → Q (.ref p) A') (fun c fs => E c fs A)
theorem hs_Thing_parts : ∀ (A : AH) (d0 : D) (v_self : ThingV) (Q : DK) (E : DX), vw A d0 v_self → (F_Thing_parts v_self).wp (fun r => ∀ p A', New A (oL r) p A' → Q (.ref p) A') (fun c fs => E c fs A) → sp_Thing_parts ([d0] ++ []) A Q E :=
  fun A d0 v_self Q E h0 h => ⟨d0, v_self, rfl, h0, h⟩
def sp_Thing_gaps : DSp := fun ds A Q E => ∃ (d0 : D) (v_self : ThingV), ds = [d0] ∧ vw A d0 v_self ∧ (F_Thing_gaps v_self).wp (fun r => ∀ p A', New A (oL r) p A' → Q (.ref p) A') (fun c fs => E c fs A)
theorem hs_Thing_gaps : ∀ (A : AH) (d0 : D) (v_self : ThingV) (Q : DK) (E : DX), vw A d0 v_self → (F_Thing_gaps v_self).wp (fun r => ∀ p A', New A (oL r) p A' → Q (.ref p) A') (fun c fs => E c fs A) → sp_Thing_gaps ([d0] ++ []) A Q E :=
  fun A d0 v_self Q E h0 h => ⟨d0, v_self, rfl, h0, h⟩
def sp__law_cell : DSp := fun ds A Q E => ∃ (d0 : D) (d1 : D) (v_script : (List Int)) (v_k : Int), ds = [d0, d1] ∧ vw A d0 v_script ∧ vw A d1 v_k ∧ (F__law_cell v_script v_k).wp (fun r => Q (enc r) A) (fun c fs => E c fs A)
theorem hs__law_cell : ∀ (A : AH) (d0 : D) (d1 : D) (v_script : (List Int)) (v_k : Int) (Q : DK) (E : DX), vw A d0 v_script → vw A d1 v_k → (F__law_cell v_script v_k).wp (fun r => Q (enc r) A) (fun c fs => E c fs A) → sp__law_cell ([d0, d1] ++ []) A Q E :=
  fun A d0 d1 v_script v_k Q E h0 h1 h => ⟨d0, d1, v_script, v_k, rfl, h0, h1, h⟩
def sp__law_signed : DSp := fun ds A Q E => ∃ (d0 : D) (d1 : D) (v_cell_here : Int) (v_most : Int), ds = [d0, d1] ∧ vw A d0 v_cell_here ∧ vw A d1 v_most ∧ (F__law_signed v_cell_here v_most).wp (fun r => Q (enc r) A) (fun c fs => E c fs A)
theorem hs__law_signed : ∀ (A : AH) (d0 : D) (d1 : D) (v_cell_here : Int) (v_most : Int) (Q : DK) (E : DX), vw A d0 v_cell_here → vw A d1 v_most → (F__law_signed v_cell_here v_most).wp (fun r => Q (enc r) A) (fun c fs => E c fs A) → sp__law_signed ([d0, d1] ++ []) A Q E :=
  fun A d0 d1 v_cell_here v_most Q E h0 h1 h => ⟨d0, d1, v_cell_here, v_most, rfl, h0, h1, h⟩
def sp__law_low : DSp := fun ds A Q E => ∃ (d0 : D) (d1 : D) (v_top : Int) (v_bottom : Int), ds = [d0, d1] ∧ vw A d0 v_top ∧ vw A d1 v_bottom ∧ (F__law_low v_top v_bottom).wp (fun r => Q (enc r) A) (fun c fs => E c fs A)
theorem hs__law_low : ∀ (A : AH) (d0 : D) (d1 : D) (v_top : Int) (v_bottom : Int) (Q : DK) (E : DX), vw A d0 v_top → vw A d1 v_bottom → (F__law_low v_top v_bottom).wp (fun r => Q (enc r) A) (fun c fs => E c fs A) → sp__law_low ([d0, d1] ++ []) A Q E :=
  fun A d0 d1 v_top v_bottom Q E h0 h1 h => ⟨d0, d1, v_top, v_bottom, rfl, h0, h1, h⟩
def sp__law_name : DSp := fun ds A Q E => ∃ (d0 : D) (d1 : D) (d2 : D) (v_k : Int) (v_sign : Str) (v_style : Int), ds = [d0, d1, d2] ∧ vw A d0 v_k ∧ vw A d1 v_sign ∧ vw A d2 v_style ∧ (F__law_name v_k v_sign v_style).wp (fun r => Q (enc r) A) (fun c fs => E c fs A)
theorem hs__law_name : ∀ (A : AH) (d0 : D) (d1 : D) (d2 : D) (v_k : Int) (v_sign : Str) (v_style : Int) (Q : DK) (E : DX), vw A d0 v_k → vw A d1 v_sign → vw A d2 v_style → (F__law_name v_k v_sign v_style).wp (fun r => Q (enc r) A) (fun c fs => E c fs A) → sp__law_name ([d0, d1, d2] ++ []) A Q E :=
  fun A d0 d1 d2 v_k v_sign v_style Q E h0 h1 h2 h => ⟨d0, d1, d2, v_k, v_sign, v_style, rfl, h0, h1, h2, h⟩
def sp__law_part : DSp := fun ds A Q E => ∃ (d0 : D) (d1 : D) (d2 : D) (v_k : Int) (v_cells : (List Int)) (v_style : Int), ds = [d0, d1, d2] ∧ vw A d0 v_k ∧ vw A d1 v_cells ∧ vw A d2 v_style ∧ (F__law_part v_k v_cells v_style).wp (fun r => Q (enc r) A) (fun c fs => E c fs A)
theorem hs__law_part : ∀ (A : AH) (d0 : D) (d1 : D) (d2 : D) (v_k : Int) (v_cells : (List Int)) (v_style : Int) (Q : DK) (E : DX), vw A d0 v_k → vw A d1 v_cells → vw A d2 v_style → (F__law_part v_k v_cells v_style).wp (fun r => Q (enc r) A) (fun c fs => E c fs A) → sp__law_part ([d0, d1, d2] ++ []) A Q E :=
  fun A d0 d1 d2 v_k v_cells v_style Q E h0 h1 h2 h => ⟨d0, d1, d2, v_k, v_cells, v_style, rfl, h0, h1, h2, h⟩
def sp__law_gap : DSp := fun ds A Q E => ∃ (d0 : D) (d1 : D) (d2 : D) (v_k : Int) (v_cells : (List Int)) (v_style : Int), ds = [d0, d1, d2] ∧ vw A d0 v_k ∧ vw A d1 v_cells ∧ vw A d2 v_style ∧ (F__law_gap v_k v_cells v_style).wp (fun r => Q (enc r) A) (fun c fs => E c fs A)
theorem hs__law_gap : ∀ (A : AH) (d0 : D) (d1 : D) (d2 : D) (v_k : Int) (v_cells : (List Int)) (v_style : Int) (Q : DK) (E : DX), vw A d0 v_k → vw A d1 v_cells → vw A d2 v_style → (F__law_gap v_k v_cells v_style).wp (fun r => Q (enc r) A) (fun c fs => E c fs A) → sp__law_gap ([d0, d1, d2] ++ []) A Q E :=
  fun A d0 d1 d2 v_k v_cells v_style Q E h0 h1 h2 h => ⟨d0, d1, d2, v_k, v_cells, v_style, rfl, h0, h1, h2, h⟩
def sp__law_with : DSp := fun ds A Q E => ∃ (d0 : D) (d1 : D) (d2 : D) (v_thing : TupD) (v_at : Int) (v_part_here : D), ds = [d0, d1, d2] ∧ vw A d0 v_thing ∧ vw A d1 v_at ∧ vw A d2 v_part_here ∧ (F__law_with v_thing v_at v_part_here).wp (fun r => Q (enc r) A) (fun c fs => E c fs A)
theorem hs__law_with : ∀ (A : AH) (d0 : D) (d1 : D) (d2 : D) (v_thing : TupD) (v_at : Int) (v_part_here : D) (Q : DK) (E : DX), vw A d0 v_thing → vw A d1 v_at → vw A d2 v_part_here → (F__law_with v_thing v_at v_part_here).wp (fun r => Q (enc r) A) (fun c fs => E c fs A) → sp__law_with ([d0, d1, d2] ++ []) A Q E :=
  fun A d0 d1 d2 v_thing v_at v_part_here Q E h0 h1 h2 h => ⟨d0, d1, d2, v_thing, v_at, v_part_here, rfl, h0, h1, h2, h⟩
def sp__law_spoiled : DSp := fun ds A Q E => ∃ (d0 : D) (d1 : D) (v_thing : TupD) (v_way : Int), ds = [d0, d1] ∧ vw A d0 v_thing ∧ vw A d1 v_way ∧ (F__law_spoiled v_thing v_way).wp (fun r => Q (enc r) A) (fun c fs => E c fs A)
theorem hs__law_spoiled : ∀ (A : AH) (d0 : D) (d1 : D) (v_thing : TupD) (v_way : Int) (Q : DK) (E : DX), vw A d0 v_thing → vw A d1 v_way → (F__law_spoiled v_thing v_way).wp (fun r => Q (enc r) A) (fun c fs => E c fs A) → sp__law_spoiled ([d0, d1] ++ []) A Q E :=
  fun A d0 d1 v_thing v_way Q E h0 h1 h => ⟨d0, d1, v_thing, v_way, rfl, h0, h1, h⟩
def sp__law_joined : DSp := fun ds A Q E => ∃ (A0 : AH) (p0 : Addr) (d1 : D) (d2 : D) (v_marks : (Dic Str Str)) (v_one : Str) (v_other : Str), ds = [.ref p0, d1, d2] ∧ NewL A0 [(p0, .dic (encKV v_marks.l))] A ∧ vw A0 d1 v_one ∧ vw A0 d2 v_other ∧ (F__law_joined v_marks v_one v_other).wp (fun s' => ∀ A', NewL A0 [(p0, .dic (encKV s'.l))] A' → Q .non A') (fun _ _ => False)
theorem hs__law_joined {v_marks : (Dic Str Str)} : ∀ (A0 A : AH) (p0 : Addr) (v_one : Str) (v_other : Str) (Q : DK) (E : DX), NewL A0 [(p0, .dic (encKV v_marks.l))] A → (F__law_joined v_marks v_one v_other).wp (fun s' => ∀ A', NewL A0 [(p0, .dic (encKV s'.l))] A' → Q .non A') (fun _ _ => False) → sp__law_joined [.ref p0, enc v_one, enc v_other] A Q E :=
  fun A0 A p0 v_one v_other Q E hn h => ⟨A0, p0, enc v_one, enc v_other, v_marks, v_one, v_other, rfl, hn, vw_enc A0 v_one, vw_enc A0 v_other, h⟩
def sp__law_due : DSp := fun ds A Q E => ∃ (d0 : D) (d1 : D) (v_parts : (List (Bool × D))) (v_gaps : (List (Bool × D))), ds = [d0, d1] ∧ vw A d0 v_parts ∧ vw A d1 v_gaps ∧ (F__law_due v_parts v_gaps).wp (fun r => Q (enc r) A) (fun c fs => E c fs A)
theorem hs__law_due : ∀ (A : AH) (d0 : D) (d1 : D) (v_parts : (List (Bool × D))) (v_gaps : (List (Bool × D))) (Q : DK) (E : DX), vw A d0 v_parts → vw A d1 v_gaps → (F__law_due v_parts v_gaps).wp (fun r => Q (enc r) A) (fun c fs => E c fs A) → sp__law_due ([d0, d1] ++ []) A Q E :=
  fun A d0 d1 v_parts v_gaps Q E h0 h1 h => ⟨d0, d1, v_parts, v_gaps, rfl, h0, h1, h⟩
def sp__law_made : DSp := fun ds A Q E => ∃ (d0 : D) (d1 : D) (v_parts : (List D)) (v_gaps : (List D)), ds = [d0, d1] ∧ vw A d0 v_parts ∧ vw A d1 v_gaps ∧ (F__law_made v_parts v_gaps).wp (fun r => Q (enc r) A) (fun c fs => E c fs A)
theorem hs__law_made : ∀ (A : AH) (d0 : D) (d1 : D) (v_parts : (List D)) (v_gaps : (List D)) (Q : DK) (E : DX), vw A d0 v_parts → vw A d1 v_gaps → (F__law_made v_parts v_gaps).wp (fun r => Q (enc r) A) (fun c fs => E c fs A) → sp__law_made ([d0, d1] ++ []) A Q E :=
  fun A d0 d1 v_parts v_gaps Q E h0 h1 h => ⟨d0, d1, v_parts, v_gaps, rfl, h0, h1, h⟩
def sp__law_drawn : DSp := fun ds A Q E => ∃ (d0 : D) (d1 : D) (v_script : (List Int)) (v_style : Int), ds = [d0, d1] ∧ vw A d0 v_script ∧ vw A d1 v_style ∧ (F__law_drawn v_script v_style).wp (fun r => Q (enc r) A) (fun c fs => E c fs A)
theorem hs__law_drawn : ∀ (A : AH) (d0 : D) (d1 : D) (v_script : (List Int)) (v_style : Int) (Q : DK) (E : DX), vw A d0 v_script → vw A d1 v_style → (F__law_drawn v_script v_style).wp (fun r => Q (enc r) A) (fun c fs => E c fs A) → sp__law_drawn ([d0, d1] ++ []) A Q E :=
  fun A d0 d1 v_script v_style Q E h0 h1 h => ⟨d0, d1, v_script, v_style, rfl, h0, h1, h⟩
def exl : List String := ["Apart", "InRing", "NoGap", "NoPart", "Twice"]
def mt_add_gap : List (String × DSp) := [("Thing", sp_Thing_add_gap)]
def mt_add_part : List (String × DSp) := [("Thing", sp_Thing_add_part)]
def mt_gaps : List (String × DSp) := [("Thing", sp_Thing_gaps)]
def mt_parts : List (String × DSp) := [("Thing", sp_Thing_parts)]
def t_divisor (w : DW) : DS :=
  (sSeq (sAsg (eCB bAbs (aCons (eVar 0) aNil)) (dgName 0))
  (sSeq (sAsg (eCB bAbs (aCons (eVar 1) aNil)) (dgName 1))
  (sSeq (sWhile (bE (eBin (opCmp fun i j => decide (j < i)) (eVar 1) (eC (.int 0))))
  (sPar 0 1 (aCons (eVar 1) (aCons (eBin opMod (eVar 0) (eVar 1)) aNil))))
  (sRet (eVar 0)))))
def t_under (w : DW) : DS :=
  (sRet (eBin (opCmp fun i j => decide (i < j)) (eBin opMul (eBin opIx (eVar 0) (eC (.int 0))) (eBin opIx (eVar 1) (eC (.int 1)))) (eBin opMul (eBin opIx (eVar 1) (eC (.int 0))) (eBin opIx (eVar 0) (eC (.int 1))))))
def t_is_whole (w : DW) : DS :=
  (sRet (eAnd (eIsi "int" (eVar 0)) (eNot (eIsi "bool" (eVar 0)))))
def t_is_name (w : DW) : DS :=
  (sSeq (sIf (bOr (bNot (bE (eIsi "str" (eVar 0)))) (bOr (bE (eBin (opCmp fun i j => decide (i < j)) (eCB bLen (aCons (eVar 0) aNil)) (eC (.int 1)))) (bE (eBin (opCmp fun i j => decide (j < i)) (eCB bLen (aCons (eVar 0) aNil)) (eC (.int 8))))))
  (sRet (eC (.bl false)))
  sNext)
  (sSeq (sFor (iText (eVar 0)) (dgName 1)
  (sIf (bE (eBin (opIn true) (eVar 1) (eC (.str ("abcdefghijklmnopqrstuvwxyz" : Str)))))
  (sRet (eC (.bl false)))
  sNext))
  (sRet (eC (.bl true)))))
def t_is_fraction (w : DW) : DS :=
  (sSeq (sIf (bOr (bNot (bE (eIsi "tuple" (eVar 0)))) (bE (eBin (opEq true) (eCB bLen (aCons (eVar 0) aNil)) (eC (.int 2)))))
  (sRet (eC (.bl false)))
  sNext)
  (sSeq (sIf (bOr (bNot (bE (eCall w sp_is_whole [] (aCons (eBin opIx (eVar 0) (eC (.int 0))) aNil)))) (bOr (bNot (bE (eCall w sp_is_whole [] (aCons (eBin opIx (eVar 0) (eC (.int 1))) aNil)))) (bE (eBin (opCmp fun i j => decide (i < j)) (eBin opIx (eVar 0) (eC (.int 1))) (eC (.int 1))))))
  (sRet (eC (.bl false)))
  sNext)
  (sRet (eBin (opEq false) (eCall w sp_divisor [] (aCons (eBin opIx (eVar 0) (eC (.int 0))) (aCons (eBin opIx (eVar 0) (eC (.int 1))) aNil))) (eC (.int 1))))))
def t_has_ends (w : DW) : DS :=
  (sSeq (sIf (bOr (bNot (bE (eIsi "tuple" (eVar 0)))) (bE (eBin (opEq true) (eCB bLen (aCons (eVar 0) aNil)) (eVar 1))))
  (sRet (eC (.bl false)))
  sNext)
  (sSeq (sFor (iSeq (eSl mkF (eVar 0) oNone (oSome (eC (.int 3))))) (dgName 2)
  (sIf (bNot (bE (eCall w sp_is_name [] (aCons (eVar 2) aNil))))
  (sRet (eC (.bl false)))
  sNext))
  (sRet (eBin (opEq true) (eBin opIx (eVar 0) (eC (.int 1))) (eBin opIx (eVar 0) (eC (.int 2)))))))
def t_is_part (w : DW) : DS :=
  (sSeq (sIf (bOr (bNot (bE (eCall w sp_has_ends [] (aCons (eVar 0) (aCons (eC (.int 6)) aNil))))) (bOr (bNot (bE (eCall w sp_is_fraction [] (aCons (eBin opIx (eVar 0) (eC (.int 3))) aNil)))) (bNot (bE (eCall w sp_is_fraction [] (aCons (eBin opIx (eVar 0) (eC (.int 4))) aNil))))))
  (sRet (eC (.bl false)))
  sNext)
  (sRet (eAnd (eBin (opCmp fun i j => decide (j ≤ i)) (eBin opIx (eBin opIx (eVar 0) (eC (.int 4))) (eC (.int 0))) (eC (.int 0))) (eAnd (eCall w sp_is_whole [] (aCons (eBin opIx (eVar 0) (eC (.int 5))) aNil)) (eBin (opCmp fun i j => decide (j < i)) (eBin opIx (eVar 0) (eC (.int 5))) (eC (.int 0)))))))
def t_is_gap (w : DW) : DS :=
  (sSeq (sIf (bOr (bNot (bE (eCall w sp_has_ends [] (aCons (eVar 0) (aCons (eC (.int 5)) aNil))))) (bOr (bNot (bE (eCall w sp_is_fraction [] (aCons (eBin opIx (eVar 0) (eC (.int 3))) aNil)))) (bNot (bE (eCall w sp_is_fraction [] (aCons (eBin opIx (eVar 0) (eC (.int 4))) aNil))))))
  (sRet (eC (.bl false)))
  sNext)
  (sRet (eNot (eCall w sp_under [] (aCons (eBin opIx (eVar 0) (eC (.int 4))) (aCons (eBin opIx (eVar 0) (eC (.int 3))) aNil))))))
def t_way_between (w : DW) : DS :=
  (sSeq (sAsg (eDic1 (eVar 1) (eLst mkF aNil)) (dgName 3))
  (sSeq (sAsg (eLst mkO (aCons (eVar 1) aNil)) (dgName 4))
  (sSeq (sWhile (bE (eBin (opCmp fun i j => decide (j < i)) (eCB bLen (aCons (eVar 4) aNil)) (eC (.int 0))))
  (sSeq (sAsg (eMt "list" mPopI (eVar 4) (aCons (eC (.int 0)) aNil)) (dgName 5))
  (sFor (iSeq (eVar 0)) (dgTup 6 (dgCons (dgName 6) (dgCons (dgName 7) (dgCons (dgName 8) (dgCons (dgName 9) (dgCons (dgName 10) (dgCons (dgName 11) dgNil)))))))
  (sIf (bAnd (bE (eBin (opEq false) (eVar 7) (eVar 5))) (bE (eBin (opIn true) (eVar 8) (eVar 3))))
  (sSeq (sAsg (eBin (opAdd mkF) (eBin opIx (eVar 3) (eVar 5)) (eLst mkF (aCons (eTup (aCons (eVar 6) (aCons (eC (.bl true)) aNil))) aNil))) (dgSub (eVar 3) (eVar 8)))
  (sDrop (eMt "list" mApp (eVar 4) (aCons (eVar 8) aNil))))
  (sIf (bAnd (bE (eBin (opEq false) (eVar 8) (eVar 5))) (bE (eBin (opIn true) (eVar 7) (eVar 3))))
  (sSeq (sAsg (eBin (opAdd mkF) (eBin opIx (eVar 3) (eVar 5)) (eLst mkF (aCons (eTup (aCons (eVar 6) (aCons (eC (.bl false)) aNil))) aNil))) (dgSub (eVar 3) (eVar 7)))
  (sDrop (eMt "list" mApp (eVar 4) (aCons (eVar 7) aNil))))
  sNext)))))
  (sFz 3
  (sRet (eMt "dict" mGet (eVar 3) (aCons (eVar 2) aNil)))))))
def t_Thing_add_part (w : DW) : DS :=
  (sSeq (sIf (bNot (bE (eCall w sp_is_part [] (aCons (eVar 1) aNil))))
  (sRaise w "NoPart")
  sNext)
  (sSeq (sIf (bE (eBin (opIn false) (eBin opIx (eVar 1) (eC (.int 0))) (eFld ["Thing"] "sizes" (eVar 0))))
  (sRaise w "Twice")
  sNext)
  (sSeq (sIf (bE (eBin (opIs true) (eCall w sp_way_between [] (aCons (eFld ["Thing"] "kept_parts" (eVar 0)) (aCons (eBin opIx (eVar 1) (eC (.int 1))) (aCons (eBin opIx (eVar 1) (eC (.int 2))) aNil)))) (eC .non)))
  (sRaise w "InRing")
  sNext)
  (sSeq (sDrop (eMt "list" mApp (eFld ["Thing"] "kept_parts" (eVar 0)) (aCons (eVar 1) aNil)))
  (sAsg (eBin opIx (eVar 1) (eC (.int 3))) (dgSub (eFld ["Thing"] "sizes" (eVar 0)) (eBin opIx (eVar 1) (eC (.int 0)))))))))
def t_Thing_add_gap (w : DW) : DS :=
  (sSeq (sIf (bNot (bE (eCall w sp_is_gap [] (aCons (eVar 1) aNil))))
  (sRaise w "NoGap")
  sNext)
  (sSeq (sIf (bE (eBin (opIn false) (eBin opIx (eVar 1) (eC (.int 0))) (eFld ["Thing"] "kept_ways" (eVar 0))))
  (sRaise w "Twice")
  sNext)
  (sSeq (sAsg (eCall w sp_way_between [] (aCons (eFld ["Thing"] "kept_parts" (eVar 0)) (aCons (eBin opIx (eVar 1) (eC (.int 1))) (aCons (eBin opIx (eVar 1) (eC (.int 2))) aNil)))) (dgName 2))
  (sSeq (sIf (bE (eBin (opIs false) (eVar 2) (eC .non)))
  (sRaise w "Apart")
  sNext)
  (sSeq (sDrop (eMt "list" mApp (eFld ["Thing"] "kept_gaps" (eVar 0)) (aCons (eVar 1) aNil)))
  (sAsg (eVar 2) (dgSub (eFld ["Thing"] "kept_ways" (eVar 0)) (eBin opIx (eVar 1) (eC (.int 0))))))))))
def t_Thing___init__ (w : DW) : DS :=
  (sSeq (sFldSet ["Thing"] "kept_parts" (eVar 0) (eLst mkO aNil))
  (sSeq (sFldSet ["Thing"] "kept_gaps" (eVar 0) (eLst mkO aNil))
  (sSeq (sFldSet ["Thing"] "sizes" (eVar 0) eDic0)
  (sSeq (sFldSet ["Thing"] "kept_ways" (eVar 0) eDic0)
  (sSeq (sFor (iSeq (eVar 1)) (dgName 3)
  (sDrop (eMth w "add_part" mt_add_part (eVar 0) (aCons (eVar 3) aNil))))
  (sFor (iSeq (eVar 2)) (dgName 4)
  (sDrop (eMth w "add_gap" mt_add_gap (eVar 0) (aCons (eVar 4) aNil)))))))))
def t_Thing_parts (w : DW) : DS :=
  (sRet (eCB (bList mkO) (aCons (eFld ["Thing"] "kept_parts" (eVar 0)) aNil)))
def t_Thing_gaps (w : DW) : DS :=
  (sRet (eCB (bList mkO) (aCons (eFld ["Thing"] "kept_gaps" (eVar 0)) aNil)))
def t__law_cell (w : DW) : DS :=
  (sSeq (sAsg (eC (.int 0)) (dgName 2))
  (sSeq (sFor (iRng3D (aCons (eVar 1) (aCons (eCB bMin (aCons (eCB bLen (aCons (eVar 0) aNil)) (aCons (eC (.int 98)) aNil))) (aCons (eC (.int 30)) aNil)))) (dgName 3)
  (sAsg (eBin (opAdd mkF) (eVar 2) (eBin opMul (eBin opIx (eVar 0) (eVar 3)) (eBin (opAdd mkF) (eC (.int 1)) (eVar 3)))) (dgName 2)))
  (sRet (eVar 2))))
def t__law_signed (w : DW) : DS :=
  (sSeq (sIf (bE (eBin (opCmp fun i j => decide (i < j)) (eVar 0) (eC (.int 0))))
  (sRet (eBin opSub (eC (.int 0)) (eBin opMod (eBin opSub (eC (.int 0)) (eVar 0)) (eVar 1))))
  sNext)
  (sRet (eBin opMod (eVar 0) (eVar 1))))
def t__law_low (w : DW) : DS :=
  (sSeq (sAsg (eVar 0) (dgName 2))
  (sSeq (sAsg (eVar 1) (dgName 3))
  (sSeq (sWhile (bE (eBin (opEq true) (eVar 3) (eC (.int 0))))
  (sSeq (sAsg (eBin opMod (eVar 2) (eVar 3)) (dgName 4))
  (sSeq (sAsg (eVar 3) (dgName 2))
  (sAsg (eVar 4) (dgName 3)))))
  (sRet (eTup (aCons (eBin opDiv (eVar 0) (eCB bAbs (aCons (eVar 2) aNil))) (aCons (eBin opDiv (eVar 1) (eCB bAbs (aCons (eVar 2) aNil))) aNil)))))))
def t__law_name (w : DW) : DS :=
  (sRet (eBin (opAdd mkF) (eBin (opAdd mkF) (eBin opMul (eVar 1) (eVar 2)) (eBin opIx (eC (.str ("abcdefgh" : Str))) (eVar 0))) (eBin opMul (eVar 1) (eBin opSub (eC (.int 3)) (eVar 2)))))
def t__law_part (w : DW) : DS :=
  (sSeq (sAsg (eBin opDiv (eBin opMod (eBin opMul (eBin opIx (eVar 1) (eC (.int 0))) (eC (.int 48271))) (eC (.int 2147483647))) (eC (.int 37))) (dgName 3))
  (sSeq (sAsg (eBin opIx (eLst mkF (aCons (eC (.int 9)) (aCons (eBin opPow (eC (.int 10)) (eC (.int 40))) aNil))) (eBin opMod (eBin opDiv (eVar 3) (eC (.int 4096))) (eC (.int 2)))) (dgName 4))
  (sSeq (sAsg (eCall w sp__law_name [] (aCons (eBin opIx (eLst mkF (aCons (eVar 0) (aCons (eVar 0) (aCons (eVar 0) (aCons (eBin opMod (eBin opDiv (eVar 3) (eC (.int 8))) (eC (.int 6))) aNil))))) (eBin opMod (eBin opDiv (eVar 3) (eC (.int 64))) (eC (.int 4)))) (aCons (eC (.str ("p" : Str))) (aCons (eVar 2) aNil)))) (dgName 5))
  (sSeq (sAsg (eCall w sp__law_name [] (aCons (eBin opMod (eBin opDiv (eVar 3) (eC (.int 512))) (eC (.int 7))) (aCons (eC (.str ("f" : Str))) (aCons (eVar 2) aNil)))) (dgName 6))
  (sSeq (sAsg (eCall w sp__law_name [] (aCons (eBin opMod (eBin (opAdd mkF) (eBin (opAdd mkF) (eBin opDiv (eVar 3) (eC (.int 512))) (eC (.int 1))) (eBin opMod (eBin opDiv (eVar 3) (eC (.int 16))) (eC (.int 6)))) (eC (.int 7))) (aCons (eC (.str ("f" : Str))) (aCons (eVar 2) aNil)))) (dgName 7))
  (sSeq (sAsg (eCall w sp__law_low [] (aCons (eCall w sp__law_signed [] (aCons (eBin opIx (eVar 1) (eC (.int 1))) (aCons (eVar 4) aNil))) (aCons (eBin (opAdd mkF) (eC (.int 1)) (eBin opMod (eBin opDiv (eVar 3) (eC (.int 32))) (eC (.int 12)))) aNil))) (dgName 8))
  (sSeq (sAsg (eCall w sp__law_low [] (aCons (eBin opMod (eBin opIx (eVar 1) (eC (.int 1))) (eC (.int 13))) (aCons (eBin (opAdd mkF) (eC (.int 1)) (eBin opMod (eBin opDiv (eVar 3) (eC (.int 128))) (eC (.int 6)))) aNil))) (dgName 9))
  (sRet (eTup (aCons (eVar 5) (aCons (eVar 6) (aCons (eVar 7) (aCons (eVar 8) (aCons (eVar 9) (aCons (eBin opIx (eLst mkF (aCons (eBin (opAdd mkF) (eC (.int 1)) (eBin opMod (eVar 3) (eC (.int 4)))) (aCons (eBin (opAdd mkF) (eC (.int 1)) (eBin opMod (eBin opIx (eVar 1) (eC (.int 1))) (eBin opPow (eC (.int 10)) (eC (.int 6))))) aNil))) (eBin opMod (eBin opDiv (eVar 3) (eC (.int 8192))) (eC (.int 2)))) aNil)))))))))))))))
def t__law_gap (w : DW) : DS :=
  (sSeq (sAsg (eBin opDiv (eBin opMod (eBin opMul (eBin opIx (eVar 1) (eC (.int 0))) (eC (.int 39373))) (eC (.int 2147483629))) (eC (.int 37))) (dgName 3))
  (sSeq (sAsg (eCall w sp__law_name [] (aCons (eBin opIx (eLst mkF (aCons (eVar 0) (aCons (eVar 0) (aCons (eVar 0) (aCons (eBin opMod (eBin opDiv (eVar 3) (eC (.int 8))) (eC (.int 5))) aNil))))) (eBin opMod (eBin opDiv (eVar 3) (eC (.int 64))) (eC (.int 4)))) (aCons (eBin opIx (eLst mkF (aCons (eC (.str ("g" : Str))) (aCons (eC (.str ("p" : Str))) aNil))) (eBin opMod (eBin opDiv (eVar 3) (eC (.int 1024))) (eC (.int 2)))) (aCons (eVar 2) aNil)))) (dgName 4))
  (sSeq (sAsg (eCall w sp__law_name [] (aCons (eBin opMod (eBin opDiv (eVar 3) (eC (.int 512))) (eC (.int 7))) (aCons (eC (.str ("f" : Str))) (aCons (eVar 2) aNil)))) (dgName 5))
  (sSeq (sAsg (eCall w sp__law_name [] (aCons (eBin opMod (eBin (opAdd mkF) (eBin (opAdd mkF) (eBin opDiv (eVar 3) (eC (.int 512))) (eC (.int 1))) (eBin opMod (eBin opDiv (eVar 3) (eC (.int 16))) (eC (.int 6)))) (eC (.int 7))) (aCons (eC (.str ("f" : Str))) (aCons (eVar 2) aNil)))) (dgName 6))
  (sSeq (sAsg (eCall w sp__law_low [] (aCons (eCall w sp__law_signed [] (aCons (eBin opIx (eVar 1) (eC (.int 1))) (aCons (eBin opPow (eC (.int 10)) (eC (.int 40))) aNil))) (aCons (eBin (opAdd mkF) (eC (.int 1)) (eBin opMod (eBin opDiv (eVar 3) (eC (.int 32))) (eC (.int 12)))) aNil))) (dgName 7))
  (sRet (eTup (aCons (eVar 4) (aCons (eVar 5) (aCons (eVar 6) (aCons (eVar 7) (aCons (eTup (aCons (eBin (opAdd mkF) (eBin opIx (eVar 7) (eC (.int 0))) (eBin opMul (eBin opIx (eVar 7) (eC (.int 1))) (eBin opMod (eVar 3) (eC (.int 3))))) (aCons (eBin opIx (eVar 7) (eC (.int 1))) aNil))) aNil))))))))))))
def t__law_with (w : DW) : DS :=
  (sRet (eBin (opAdd mkF) (eBin (opAdd mkF) (eSl mkF (eVar 0) oNone (oSome (eVar 1))) (eTup (aCons (eVar 2) aNil))) (eSl mkF (eVar 0) (oSome (eBin (opAdd mkF) (eVar 1) (eC (.int 1)))) oNone)))
def t__law_spoiled (w : DW) : DS :=
  (sSeq (sAsg (eBin opMod (eBin opDiv (eVar 1) (eC (.int 16))) (eCB bLen (aCons (eVar 0) aNil))) (dgName 2))
  (sSeq (sIf (bE (eBin (opEq false) (eBin opMod (eVar 1) (eC (.int 8))) (eC (.int 0))))
  (sRet (eBin opIx (eLst mkF (aCons (eCB (bList mkF) (aCons (eVar 0) aNil)) (aCons (eSl mkF (eVar 0) oNone (oSome (eNeg (eC (.int 1))))) (aCons (eBin (opAdd mkF) (eVar 0) (eTup (aCons (eC (.int 1)) aNil))) (aCons (eC .non) (aCons (eC (.int 7)) (aCons (eBin opIx (eVar 0) (eC (.int 0))) (aCons (eTup aNil) aNil)))))))) (eBin opMod (eBin opDiv (eVar 1) (eC (.int 8))) (eC (.int 7)))))
  sNext)
  (sSeq (sIf (bE (eBin (opEq false) (eBin opMod (eVar 1) (eC (.int 8))) (eC (.int 1))))
  (sRet (eCall w sp__law_with [] (aCons (eVar 0) (aCons (eVar 2) (aCons (eBin opIx (eLst mkF (aCons (eC .non) (aCons (eC (.bl true)) (aCons (eC (.bl false)) (aCons (eLst mkF aNil) (aCons (eTup (aCons (eC (.int 1)) aNil)) (aCons (eTup (aCons (eC (.int 2)) (aCons (eC (.int 2)) aNil))) (aCons (eTup (aCons (eC (.int 1)) (aCons (eC (.int 0)) aNil))) (aCons (eTup (aCons (eC (.bl true)) (aCons (eC (.int 1)) aNil))) aNil))))))))) (eBin opMod (eBin opDiv (eVar 1) (eC (.int 8))) (eC (.int 8)))) aNil)))))
  sNext)
  (sSeq (sIf (bE (eBin (opEq false) (eBin opMod (eVar 1) (eC (.int 8))) (eC (.int 2))))
  (sRet (eCall w sp__law_with [] (aCons (eVar 0) (aCons (eBin opMod (eBin opDiv (eVar 1) (eC (.int 16))) (eC (.int 3))) (aCons (eBin opIx (eLst mkF (aCons (eC (.str ("" : Str))) (aCons (eC (.str ("A" : Str))) (aCons (eC (.str ("a b" : Str))) (aCons (eC (.str ("abcdefghi" : Str))) (aCons (eC (.str ("a1" : Str))) (aCons (eC (.int 7)) (aCons (eC .non) (aCons (eC (.str ("a\n" : Str))) aNil))))))))) (eBin opMod (eBin opDiv (eVar 1) (eC (.int 8))) (eC (.int 8)))) aNil)))))
  sNext)
  (sSeq (sIf (bE (eBin (opEq false) (eBin opMod (eVar 1) (eC (.int 8))) (eC (.int 3))))
  (sRet (eCall w sp__law_with [] (aCons (eVar 0) (aCons (eC (.int 2)) (aCons (eBin opIx (eVar 0) (eC (.int 1))) aNil)))))
  sNext)
  (sSeq (sIf (bAnd (bE (eBin (opEq false) (eCB bLen (aCons (eVar 0) aNil)) (eC (.int 6)))) (bE (eBin (opEq false) (eBin opMod (eVar 1) (eC (.int 8))) (eC (.int 4)))))
  (sRet (eCall w sp__law_with [] (aCons (eVar 0) (aCons (eC (.int 4)) (aCons (eTup (aCons (eBin opSub (eNeg (eC (.int 1))) (eBin opMod (eBin opDiv (eVar 1) (eC (.int 8))) (eC (.int 5)))) (aCons (eC (.int 7)) aNil))) aNil)))))
  sNext)
  (sSeq (sIf (bE (eBin (opEq false) (eCB bLen (aCons (eVar 0) aNil)) (eC (.int 6))))
  (sRet (eCall w sp__law_with [] (aCons (eVar 0) (aCons (eC (.int 5)) (aCons (eBin opIx (eLst mkF (aCons (eC (.int 0)) (aCons (eNeg (eC (.int 1))) (aCons (eC (.bl true)) (aCons (eTup (aCons (eC (.int 1)) (aCons (eC (.int 1)) aNil))) (aCons (eC .non) aNil)))))) (eBin opMod (eBin opDiv (eVar 1) (eC (.int 8))) (eC (.int 5)))) aNil)))))
  sNext)
  (sRet (eCall w sp__law_with [] (aCons (eVar 0) (aCons (eC (.int 3)) (aCons (eTup (aCons (eBin (opAdd mkF) (eBin opIx (eBin opIx (eVar 0) (eC (.int 4))) (eC (.int 0))) (eBin opIx (eBin opIx (eVar 0) (eC (.int 4))) (eC (.int 1)))) (aCons (eBin opIx (eBin opIx (eVar 0) (eC (.int 4))) (eC (.int 1))) aNil))) aNil))))))))))))
def t__law_joined (w : DW) : DS :=
  (sSeq (sAsg (eMt "dict" mGet (eVar 0) (aCons (eVar 1) (aCons (eVar 1) aNil))) (dgName 3))
  (sSeq (sAsg (eMt "dict" mGet (eVar 0) (aCons (eVar 2) (aCons (eVar 2) aNil))) (dgName 4))
  (sSeq (sFor (iSeq (eCB (bList mkF) (aCons (eVar 0) aNil))) (dgName 5)
  (sIf (bE (eBin (opEq false) (eBin opIx (eVar 0) (eVar 5)) (eVar 4)))
  (sAsg (eVar 3) (dgSub (eVar 0) (eVar 5)))
  sNext))
  (sSeq (sAsg (eVar 3) (dgSub (eVar 0) (eVar 1)))
  (sAsg (eVar 3) (dgSub (eVar 0) (eVar 2)))))))
def t__law_due (w : DW) : DS :=
  (sSeq (sAsg eDic0 (dgName 2))
  (sSeq (sAsg eDic0 (dgName 3))
  (sSeq (sFor (iSeq (eVar 0)) (dgTup 2 (dgCons (dgName 4) (dgCons (dgName 5) dgNil)))
  (sSeq (sIf (bNot (bE (eVar 4)))
  (sRet (eC (.str ("part" : Str))))
  sNext)
  (sSeq (sIf (bE (eBin (opIn false) (eBin opIx (eVar 5) (eC (.int 0))) (eVar 3)))
  (sRet (eC (.str ("twice" : Str))))
  sNext)
  (sSeq (sIf (bAnd (bE (eBin (opIn false) (eBin opIx (eVar 5) (eC (.int 1))) (eVar 2))) (bAnd (bE (eBin (opIn false) (eBin opIx (eVar 5) (eC (.int 2))) (eVar 2))) (bE (eBin (opEq false) (eBin opIx (eVar 2) (eBin opIx (eVar 5) (eC (.int 1)))) (eBin opIx (eVar 2) (eBin opIx (eVar 5) (eC (.int 2))))))))
  (sRet (eC (.str ("ring" : Str))))
  sNext)
  (sSeq (sAsg (eC (.bl true)) (dgSub (eVar 3) (eBin opIx (eVar 5) (eC (.int 0)))))
  (sDrop (eCall w sp__law_joined [] (aCons (eVar 2) (aCons (eBin opIx (eVar 5) (eC (.int 1))) (aCons (eBin opIx (eVar 5) (eC (.int 2))) aNil))))))))))
  (sFz 2
  (sSeq (sAsg eDic0 (dgName 3))
  (sSeq (sFor (iSeq (eVar 1)) (dgTup 2 (dgCons (dgName 4) (dgCons (dgName 6) dgNil)))
  (sSeq (sIf (bNot (bE (eVar 4)))
  (sRet (eC (.str ("gap" : Str))))
  sNext)
  (sSeq (sIf (bE (eBin (opIn false) (eBin opIx (eVar 6) (eC (.int 0))) (eVar 3)))
  (sRet (eC (.str ("twice" : Str))))
  sNext)
  (sSeq (sIf (bOr (bE (eBin (opIn true) (eBin opIx (eVar 6) (eC (.int 1))) (eVar 2))) (bOr (bE (eBin (opIn true) (eBin opIx (eVar 6) (eC (.int 2))) (eVar 2))) (bE (eBin (opEq true) (eBin opIx (eVar 2) (eBin opIx (eVar 6) (eC (.int 1)))) (eBin opIx (eVar 2) (eBin opIx (eVar 6) (eC (.int 2))))))))
  (sRet (eC (.str ("apart" : Str))))
  sNext)
  (sAsg (eC (.bl true)) (dgSub (eVar 3) (eBin opIx (eVar 6) (eC (.int 0)))))))))
  (sRet (eC (.str ("made" : Str))))))))))
def t__law_made (w : DW) : DS :=
  (sSeq (sAsg (eLst mkF aNil) (dgName 2))
  (sSeq (sAsg (eLst mkF aNil) (dgName 3))
  (sSeq (sAsg (eC .non) (dgName 4))
  (sSeq (sTryAs w (excT tb_SlackError) 5 (fun w => (sAsg (eFzD (eMk w "Thing" sp_Thing___init__ (aCons (eVar 0) (aCons (eVar 1) aNil)))) (dgName 4))) (fun xa xc xfs =>
  (sSeq (sAsg (eLst mkF (aCons (eIsE xa xc xfs ti_NoPart (eVar 5)) (aCons (eIsE xa xc xfs ti_Twice (eVar 5)) (aCons (eIsE xa xc xfs ti_InRing (eVar 5)) (aCons (eIsE xa xc xfs ti_NoGap (eVar 5)) (aCons (eIsE xa xc xfs ti_Apart (eVar 5)) aNil)))))) (dgName 2))
  (sAsg (eLst mkF (aCons (eIsE xa xc xfs ti_NoTie (eVar 5)) (aCons (eIsE xa xc xfs ti_NoName (eVar 5)) (aCons (eIsE xa xc xfs ti_NoFace (eVar 5)) (aCons (eIsE xa xc xfs ti_Impossible (eVar 5)) (aCons (eIsE xa xc xfs ti_NoNumber (eVar 5)) (aCons (eIsE xa xc xfs ti_Tight (eVar 5)) (aCons (eIsE xa xc xfs ti_Off (eVar 5)) (aCons (eIsE xa xc xfs ti_NoRow (eVar 5)) (aCons (eNot (eIsE xa xc xfs ti_ValueError (eVar 5))) aNil)))))))))) (dgName 3)))))
  (sSeq (sIf (bE (eBin (opIs true) (eVar 4) (eC .non)))
  (sRet (eTup (aCons (eC (.str ("made" : Str))) (aCons (eVar 4) aNil))))
  sNext)
  (sSeq (sIf (bOr (bE (eBin (opIn false) (eC (.bl true)) (eVar 3))) (bE (eBin (opEq true) (eMt "list" mCntB (eVar 2) (aCons (eC (.bl true)) aNil)) (eC (.int 1)))))
  (sRet (eTup (aCons (eC (.str ("none" : Str))) (aCons (eC .non) aNil))))
  sNext)
  (sRet (eTup (aCons (eBin opIx (eLst mkF (aCons (eC (.str ("part" : Str))) (aCons (eC (.str ("twice" : Str))) (aCons (eC (.str ("ring" : Str))) (aCons (eC (.str ("gap" : Str))) (aCons (eC (.str ("apart" : Str))) aNil)))))) (eMt "list" mIdxB (eVar 2) (aCons (eC (.bl true)) aNil))) (aCons (eC .non) aNil))))))))))
def t__law_drawn (w : DW) : DS :=
  (sSeq (sAsg (eLst mkO aNil) (dgName 2))
  (sSeq (sFor (iRng1 (aCons (eBin opMod (eCall w sp__law_cell [] (aCons (eVar 0) (aCons (eC (.int 0)) aNil))) (eC (.int 7))) aNil)) (dgName 3)
  (sSeq (sAsg (eCall w sp__law_part [] (aCons (eVar 3) (aCons (eLst mkF (aCons (eCall w sp__law_cell [] (aCons (eVar 0) (aCons (eBin (opAdd mkF) (eC (.int 3)) (eBin opMul (eC (.int 2)) (eVar 3))) aNil))) (aCons (eCall w sp__law_cell [] (aCons (eVar 0) (aCons (eBin (opAdd mkF) (eC (.int 4)) (eBin opMul (eC (.int 2)) (eVar 3))) aNil))) aNil))) (aCons (eVar 1) aNil)))) (dgName 4))
  (sSeq (sAsg (eBin opDiv (eBin opMod (eBin opMul (eCall w sp__law_cell [] (aCons (eVar 0) (aCons (eBin (opAdd mkF) (eC (.int 3)) (eBin opMul (eC (.int 2)) (eVar 3))) aNil))) (eC (.int 69621))) (eC (.int 2147483587))) (eC (.int 37))) (dgName 5))
  (sIf (bE (eBin (opEq false) (eBin opMod (eBin opDiv (eVar 5) (eC (.int 8192))) (eC (.int 11))) (eC (.int 1))))
  (sDrop (eMt "list" mApp (eVar 2) (aCons (eTup (aCons (eC (.bl false)) (aCons (eCall w sp__law_spoiled [] (aCons (eVar 4) (aCons (eVar 5) aNil))) aNil))) aNil)))
  (sDrop (eMt "list" mApp (eVar 2) (aCons (eTup (aCons (eC (.bl true)) (aCons (eVar 4) aNil))) aNil)))))))
  (sFz 2
  (sSeq (sAsg (eLst mkO aNil) (dgName 6))
  (sSeq (sFor (iRng1 (aCons (eBin opMod (eCall w sp__law_cell [] (aCons (eVar 0) (aCons (eC (.int 1)) aNil))) (eC (.int 6))) aNil)) (dgName 3)
  (sSeq (sAsg (eCall w sp__law_gap [] (aCons (eVar 3) (aCons (eLst mkF (aCons (eCall w sp__law_cell [] (aCons (eVar 0) (aCons (eBin (opAdd mkF) (eC (.int 15)) (eBin opMul (eC (.int 2)) (eVar 3))) aNil))) (aCons (eCall w sp__law_cell [] (aCons (eVar 0) (aCons (eBin (opAdd mkF) (eC (.int 16)) (eBin opMul (eC (.int 2)) (eVar 3))) aNil))) aNil))) (aCons (eVar 1) aNil)))) (dgName 7))
  (sSeq (sAsg (eBin opDiv (eBin opMod (eBin opMul (eCall w sp__law_cell [] (aCons (eVar 0) (aCons (eBin (opAdd mkF) (eC (.int 15)) (eBin opMul (eC (.int 2)) (eVar 3))) aNil))) (eC (.int 69621))) (eC (.int 2147483587))) (eC (.int 37))) (dgName 5))
  (sIf (bE (eBin (opEq false) (eBin opMod (eBin opDiv (eVar 5) (eC (.int 8192))) (eC (.int 11))) (eC (.int 1))))
  (sDrop (eMt "list" mApp (eVar 6) (aCons (eTup (aCons (eC (.bl false)) (aCons (eCall w sp__law_spoiled [] (aCons (eVar 7) (aCons (eVar 5) aNil))) aNil))) aNil)))
  (sDrop (eMt "list" mApp (eVar 6) (aCons (eTup (aCons (eC (.bl true)) (aCons (eVar 7) aNil))) aNil)))))))
  (sFz 6
  (sRet (eTup (aCons (eVar 2) (aCons (eVar 6) aNil))))))))))
def t_law (w : DW) : DS :=
  (sSeq (sAsg (eBin opMod (eCall w sp__law_cell [] (aCons (eVar 0) (aCons (eC (.int 2)) aNil))) (eC (.int 4))) (dgName 1))
  (sSeq (sAsg (eCall w sp__law_drawn [] (aCons (eVar 0) (aCons (eVar 1) aNil))) (dgTup 2 (dgCons (dgName 2) (dgCons (dgName 3) dgNil))))
  (sSeq (sAsg (eCall w sp__law_due [] (aCons (eVar 2) (aCons (eVar 3) aNil))) (dgName 4))
  (sSeq (sAsg (eLst mkO (aCons (eLc finO (iSeq (eVar 2)) (dgName 6) bYes (eBin opIx (eVar 6) (eC (.int 1))) [6]) (aCons (eLc finO (iSeq (eVar 3)) (dgName 6) bYes (eBin opIx (eVar 6) (eC (.int 1))) [6]) aNil))) (dgName 5))
  (sSeq (sAsg (eLst mkF (aCons (eCB (bList mkF) (aCons (eBin opIx (eVar 5) (eC (.int 0))) aNil)) (aCons (eCB (bList mkF) (aCons (eBin opIx (eVar 5) (eC (.int 1))) aNil)) aNil))) (dgName 7))
  (sSeq (sAsg (eCall w sp__law_made [] (aCons (eBin opIx (eVar 5) (eC (.int 0))) (aCons (eBin opIx (eVar 5) (eC (.int 1))) aNil))) (dgTup 2 (dgCons (dgName 8) (dgCons (dgName 9) dgNil))))
  (sSeq (sIf (bOr (bE (eBin (opEq true) (eVar 8) (eVar 4))) (bE (eBin opNe2 (eVar 5) (eVar 7))))
  (sRet (eC (.bl false)))
  sNext)
  (sSeq (sIf (bE (eBin (opIs false) (eVar 9) (eC .non)))
  (sRet (eC (.bl true)))
  sNext)
  (sSeq (sDrop (eMt "list" mApp (eBin opIx (eVar 5) (eC (.int 0))) (aCons (eC (.int 1)) aNil)))
  (sSeq (sDrop (eMt "list" mRev (eBin opIx (eVar 5) (eC (.int 1))) aNil))
  (sSeq (sIf (bOr (bE (eBin (opEq true) (eFz (eMth w "parts" mt_parts (eVar 9) aNil)) (eBin opIx (eVar 7) (eC (.int 0))))) (bE (eBin (opEq true) (eFz (eMth w "gaps" mt_gaps (eVar 9) aNil)) (eBin opIx (eVar 7) (eC (.int 1))))))
  (sRet (eC (.bl false)))
  sNext)
  (sSeq (sAsg (eLst mkO (aCons (eMth w "parts" mt_parts (eVar 9) aNil) (aCons (eMth w "gaps" mt_gaps (eVar 9) aNil) aNil))) (dgName 10))
  (sSeq (sDrop (eMt "list" mApp (eBin opIx (eVar 10) (eC (.int 0))) (aCons (eC (.int 1)) aNil)))
  (sSeq (sDrop (eMt "list" mApp (eBin opIx (eVar 10) (eC (.int 1))) (aCons (eC (.int 1)) aNil)))
  (sRet (eAnd (eBin (opEq false) (eFz (eMth w "parts" mt_parts (eVar 9) aNil)) (eBin opIx (eVar 7) (eC (.int 0)))) (eBin (opEq false) (eFz (eMth w "gaps" mt_gaps (eVar 9) aNil)) (eBin opIx (eVar 7) (eC (.int 1))))))))))))))))))))
theorem mt_parts_ok : lookS "Thing" mt_parts = some sp_Thing_parts := by rw [lookS_eq]; rfl
theorem hm_Thing_parts : ∀ (A : AH) (x : D)  (a : ThingV)  (Q : DK) (E : DX), vw A x a → (F_Thing_parts a).wp (fun r => ∀ p A', New A (oL r) p A' → Q (.ref p) A') (fun c fs => E c fs A) → MethOk mt_parts "parts" x A [] Q E := by
  intro A x  a  Q E hx  h
  have e : x = enc a := hx
  subst e
  unfold MethOk
  refine ⟨by rw [lookS_eq]; rfl, ?_⟩
  rw [mt_parts_ok]
  exact hs_Thing_parts A _  a  Q E rfl  h
theorem mt_gaps_ok : lookS "Thing" mt_gaps = some sp_Thing_gaps := by rw [lookS_eq]; rfl
theorem hm_Thing_gaps : ∀ (A : AH) (x : D)  (a : ThingV)  (Q : DK) (E : DX), vw A x a → (F_Thing_gaps a).wp (fun r => ∀ p A', New A (oL r) p A' → Q (.ref p) A') (fun c fs => E c fs A) → MethOk mt_gaps "gaps" x A [] Q E := by
  intro A x  a  Q E hx  h
  have e : x = enc a := hx
  subst e
  unfold MethOk
  refine ⟨by rw [lookS_eq]; rfl, ?_⟩
  rw [mt_gaps_ok]
  exact hs_Thing_gaps A _  a  Q E rfl  h
theorem len_divisor {ds A Q E} (h : sp_divisor ds A Q E) : ds.length = 2 := by first | (unfold sp_divisor at h; split at h <;> first | rfl | exact h.elim) | (obtain ⟨_, rfl, _⟩ := h; rfl) | (obtain ⟨_, _, rfl, _⟩ := h; rfl)
theorem rd_divisor {ds A Q E} (h : sp_divisor ds A Q E) : t_divisor (fun c fs _ A => E c fs A) { nx := fun _ A => Q .non A, rt := Q } (startD 2 ds) A := by
  unfold sp_divisor at h
  split at h
  case h_2 => exact h.elim
  rename_i a b
  have q := h
  unfold t_divisor
  simp [sWhile_eq]
  have key : ∀ (n : Nat) (x y : Nat), y < n → Int.gcd a b = Nat.gcd x y → whileN (bE (eBin (opCmp fun i j => decide (j < i)) (eVar 1) (eC (.int 0)))) (sPar 0 1 (aCons (eVar 1) (aCons (eBin opMod (eVar 0) (eVar 1)) aNil)))
      { nx := sRet (eVar 0) { nx := fun _ A => Q .non A, rt := Q }, rt := Q } n [some (.int x), some (.int y)] A := by
    intro n
    induction n with
    | zero => intro x y h; omega
    | succ n ih =>
      intro x y hy e
      unfold whileN
      by_cases h0 : y = 0
      · subst h0
        simp
        rw [Nat.gcd_zero_right] at e
        rw [e] at q
        exact q
      · have hp : 0 < y := by omega
        simp [hp, h0]
        have e2 : (x : Int).fmod (y : Int) = ((x % y : Nat) : Int) := by rw [Int.fmod_eq_emod_of_nonneg _ (by omega)]; rfl
        rw [e2]
        refine ih y (x % y) (by have := Nat.mod_lt x (show 0 < y by omega); omega) ?_
        rw [e, Nat.gcd_comm x y, Nat.gcd_rec y x, Nat.gcd_comm]
  exact ⟨b.natAbs + 1, key _ a.natAbs b.natAbs (by omega) rfl⟩
theorem len_under {ds A Q E} (h : sp_under ds A Q E) : ds.length = 2 := by first | (unfold sp_under at h; split at h <;> first | rfl | exact h.elim) | (obtain ⟨_, rfl, _⟩ := h; rfl) | (obtain ⟨_, _, rfl, _⟩ := h; rfl)
theorem rd_under {ds A Q E} (h : sp_under ds A Q E) : t_under (fun c fs _ A => E c fs A) { nx := fun _ A => Q .non A, rt := Q } (startD 2 ds) A := by
  unfold sp_under at h
  split at h
  case h_2 => exact h.elim
  split at h
  case h_2 => exact h.elim
  rename_i q r hq hr
  rw [deFr_ok hq, deFr_ok hr]
  obtain ⟨⟨sq, sr⟩, k⟩ := h
  unfold t_under
  simp [mm1 sq sr, mm1 sr sq]
  simpa [Rat.lt_iff] using k
theorem len_is_whole {ds A Q E} (h : sp_is_whole ds A Q E) : ds.length = 1 := by first | (unfold sp_is_whole at h; split at h <;> first | rfl | exact h.elim) | (obtain ⟨_, rfl, _⟩ := h; rfl) | (obtain ⟨_, _, rfl, _⟩ := h; rfl)
theorem ty_int_iff {A : AH} {d : D} {s : String} (h : tyD A d = some s) : isIntD d = (instB s "int" && !instB s "bool") := by
  cases d with
  | ref a =>
    have h' : (match A a with | some (.lst _) => some "list" | some (.dic _) => some "dict" | _ => none) = some s := h
    split at h' <;> cases h' <;> rfl
  | obj _ _ _ => cases h
  | _ => cases h; rfl
theorem rd_is_whole {ds A Q E} (h : sp_is_whole ds A Q E) : t_is_whole (fun c fs _ A => E c fs A) { nx := fun _ A => Q .non A, rt := Q } (startD 1 ds) A := by
  unfold sp_is_whole at h
  split at h
  case h_2 => exact h.elim
  rename_i d
  obtain ⟨h1, k⟩ := h
  obtain ⟨s, hs⟩ := Option.isSome_iff_exists.mp h1
  rw [ty_int_iff hs] at k
  unfold t_is_whole
  simp [eAnd_eq, hs]
  cases h2 : instB s "int" <;> simp [h2] at k ⊢ <;> exact k
theorem len_is_name {ds A Q E} (h : sp_is_name ds A Q E) : ds.length = 1 := by first | (unfold sp_is_name at h; split at h <;> first | rfl | exact h.elim) | (obtain ⟨_, rfl, _⟩ := h; rfl) | (obtain ⟨_, _, rfl, _⟩ := h; rfl)
theorem letters_mem (c : Nat) : decide (c ∈ ("abcdefghijklmnopqrstuvwxyz" : Str).cps.toList) = decide (97 ≤ c ∧ c ≤ 122) := by
  have e : ("abcdefghijklmnopqrstuvwxyz" : Str).cps.toList = [97,98,99,100,101,102,103,104,105,106,107,108,109,110,111,112,113,114,115,116,117,118,119,120,121,122] := by decide +kernel
  rw [e]
  apply decide_eq_decide.mpr
  simp only [List.mem_cons, List.not_mem_nil, or_false]
  omega
theorem instB_str {s : String} (h : s ≠ "str") : instB s "str" = false := by
  unfold instB; simp [h]
theorem rd_is_name {ds A Q E} (h : sp_is_name ds A Q E) : t_is_name (fun c fs _ A => E c fs A) { nx := fun _ A => Q .non A, rt := Q } (startD 2 ds) A := by
  unfold sp_is_name at h
  split at h
  · rename_i z
    obtain ⟨hf, k⟩ := h
    unfold t_is_name
    by_cases hl : 1 ≤ z.length ∧ z.length ≤ 8
    · have h1 : ¬ ((z.length : Int) < 1) := by omega
      have h2 : ¬ ((8 : Int) < z.length) := by omega
      have h3 : z.length ≠ 0 := by omega
      have h4 : ¬ 8 < z.length := by omega
      simp [sIf_eq, bOr_eq, instB, hf, h1, h2, h3, h4, sFor_eq]
      have hall : nameB z = z.cps.toList.all fun c => decide (97 ≤ c ∧ c ≤ 122) := by unfold nameB; simp [hl]
      rw [hall] at k
      refine forD_ind (fun l δ A' => A' = A ∧ (∃ o, δ = [some (.str z), o]) ∧ ∃ cs : List Nat, l = cs.map (fun c => D.str ⟨#[c]⟩) ∧ Q (.bl (cs.all fun c => decide (97 ≤ c ∧ c ≤ 122))) A) (fun _ _ _ _ => trivial) ?_ ?_ _ _ _ ⟨rfl, ⟨_, rfl⟩, _, rfl, k⟩
      · rintro δ A' ⟨rfl, ⟨o, rfl⟩, cs, e, k⟩
        cases cs with
        | nil => simpa using k
        | cons c cs => cases e
      · rintro x l δ A' N hN ⟨rfl, ⟨o, rfl⟩, cs, e, k⟩
        cases cs with
        | nil => cases e
        | cons c cs =>
          simp only [List.map_cons, List.cons.injEq] at e
          obtain ⟨rfl, rfl⟩ := e
          have lm := letters_mem c
          simp [sIf_eq, -List.mem_toArray]
          rw [List.all_cons] at k
          have lm2 : (c ∈ ("abcdefghijklmnopqrstuvwxyz" : Str).cps.toList) ↔ (97 ≤ c ∧ c ≤ 122) := decide_eq_decide.mp lm
          simp only [Array.mem_toList_iff] at lm2
          by_cases hc : 97 ≤ c ∧ c ≤ 122
          · rw [decide_eq_true hc, Bool.true_and] at k
            exact ⟨fun hh => absurd (lm2.mpr hc) hh, fun _ => hN _ _ ⟨rfl, ⟨_, rfl⟩, cs, rfl, k⟩⟩
          · rw [decide_eq_false hc, Bool.false_and] at k
            exact ⟨fun _ => k, fun hh => absurd (lm2.mp hh) hc⟩
    · have e : nameB z = false := by unfold nameB; simp [hl]
      rw [e] at k
      by_cases h1 : z.length < 1
      · have h3 : z.length = 0 := by omega
        simp [sIf_eq, bOr_eq, instB, h3]
        simpa using k
      · have h2 : 8 < z.length := by omega
        have h3 : z.length ≠ 0 := by omega
        have h5 : ¬ z.length ≤ 0 := by omega
        have h6 : ¬ ((z.length : Int) < 1) := by omega
        simp [sIf_eq, bOr_eq, instB, hf, h2, h3, h6]
        first | exact k | exact ⟨fun _ => k, fun hh => absurd hh (by omega)⟩ | exact fun hh => absurd hh (by omega)
  · rename_i d _
    obtain ⟨⟨h1, h2⟩, k⟩ := h
    obtain ⟨s, hs⟩ := Option.isSome_iff_exists.mp h1
    have hi := instB_str (s := s) (fun e => h2 (by rw [hs, e]))
    unfold t_is_name
    simp [sIf_eq, bOr_eq, hs, hi]
    exact k
  · exact h.elim
theorem len_is_fraction {ds A Q E} (h : sp_is_fraction ds A Q E) : ds.length = 1 := by first | (unfold sp_is_fraction at h; split at h <;> first | rfl | exact h.elim) | (obtain ⟨_, rfl, _⟩ := h; rfl) | (obtain ⟨_, _, rfl, _⟩ := h; rfl)
theorem isInt_ok {d : D} (h : isIntD d = true) : ∃ i, d = .int i := by
  cases d <;> first | exact ⟨_, rfl⟩ | cases h
theorem ty_tup_iff {A : AH} {d : D} {s : String} (h : tyD A d = some s) (hn : ∀ l, d ≠ .tup l) : instB s "tuple" = false := by
  cases d with
  | ref a =>
    have h' : (match A a with | some (.lst _) => some "list" | some (.dic _) => some "dict" | _ => none) = some s := h
    split at h' <;> cases h' <;> rfl
  | obj _ _ _ => cases h
  | tup l => exact absurd rfl (hn l)
  | _ => cases h; rfl
theorem rd_is_fraction {ds A Q E} (h : sp_is_fraction ds A Q E) : t_is_fraction (fun c fs _ A => E c fs A) { nx := fun _ A => Q .non A, rt := Q } (startD 1 ds) A := by
  unfold sp_is_fraction at h
  split at h
  case h_2 => exact h.elim
  rename_i d
  obtain ⟨h1, k⟩ := h
  unfold t_is_fraction
  by_cases ht : ∃ l, d = .tup l
  · obtain ⟨l, rfl⟩ := ht
    match l, h1, k with
    | [], _, k =>
      have e : fracB (.tup []) = false := rfl
      rw [e] at k
      simp [sIf_eq, bOr_eq, instB]; exact k
    | [x], _, k =>
      have e : fracB (.tup [x]) = false := by cases x <;> rfl
      rw [e] at k
      simp [sIf_eq, bOr_eq, instB]; exact k
    | x :: y :: z :: r, _, k =>
      have e : fracB (.tup (x :: y :: z :: r)) = false := by cases x <;> first | rfl | (cases y <;> rfl)
      rw [e] at k
      simp [sIf_eq, bOr_eq, instB]
      exact ⟨fun _ => k, fun hh => absurd hh (by omega)⟩
    | [x, y], h1, k =>
      simp only [tyOk, List.all_cons, List.all_nil, Bool.and_true, Bool.and_eq_true] at h1
      obtain ⟨g1, g2⟩ := h1
      cases hx : isIntD x with
      | false =>
        have e : fracB (.tup [x, y]) = false := by cases x <;> first | rfl | cases hx
        rw [e] at k
        simp [sIf_eq, bOr_eq, instB, g1, g2, hx]
        exact k
      | true =>
        obtain ⟨a, rfl⟩ := isInt_ok hx
        cases hy : isIntD y with
        | false =>
          have e : fracB (.tup [.int a, y]) = false := by cases y <;> first | rfl | cases hy
          rw [e] at k
          simp [sIf_eq, bOr_eq, instB, g1, g2, hx, hy]
          exact k
        | true =>
          obtain ⟨b, rfl⟩ := isInt_ok hy
          have e : fracB (.tup [.int a, .int b]) = (decide (1 ≤ b) && decide (Int.gcd a b = 1)) := rfl
          rw [e] at k
          by_cases hb : b < 1
          · have hb2 : ¬ 1 ≤ b := by omega
            simp [hb2] at k
            simp [sIf_eq, bOr_eq, instB, hx, hy, hb]
            exact k
          · have hb2 : 1 ≤ b := by omega
            simp [hb2] at k
            simp [sIf_eq, bOr_eq, instB, hx, hy, hb]
            have e2 : ((Int.gcd a b : Int) == 1) = decide (Int.gcd a b = 1) := by
              by_cases hg : Int.gcd a b = 1
              · simp [hg]
              · simp [hg]; omega
            first | exact k | (rw [e2]; exact k) | simpa [e2] using k
  · have h2 : (tyD A d).isSome = true := by
      cases d with
      | tup l => exact absurd ⟨l, rfl⟩ ht
      | _ => exact h1
    obtain ⟨s, hs⟩ := Option.isSome_iff_exists.mp h2
    have hi := ty_tup_iff hs fun l e => ht ⟨l, e⟩
    have e : fracB d = false := by cases d <;> first | rfl | exact absurd ⟨_, rfl⟩ ht
    rw [e] at k
    simp [sIf_eq, bOr_eq, hs, hi]
    exact k
theorem len_has_ends {ds A Q E} (h : sp_has_ends ds A Q E) : ds.length = 2 := by obtain ⟨_, _, _, _, e, _⟩ := h; rw [e]; rfl
theorem rd_has_ends {ds A Q E} (h : sp_has_ends ds A Q E) : t_has_ends (fun c fs _ A => dropE E c fs A) { nx := fun _ A => dropQ Q .non A, rt := dropQ Q } (startD 3 ds) A := by
  obtain ⟨d0, d1, v_thing, v_many, rfl, h0, h1, h⟩ := h
  have e0 : v_thing = d0 := h0.symm
  subst e0
  have e1 : d1 = enc v_many := h1
  subst e1
  have hw : WX A (fun c fs _ A' => dropE E c fs A') (fun c fs => E c fs A) := fun c fs δ A' s h => ⟨A, s, h⟩
  have hrt : ∀ (a : Bool) A', Sub A A' → Q (enc a) A → dropQ Q (enc a) A' := fun a A' s h => ⟨A, s, h⟩
  have key : SS A (fun c fs => E c fs A) { nx := fun _ A => dropQ Q .non A, rt := dropQ Q } (fun (r : Bool) => Q (enc r) A) [.val (enc v_thing), .val (enc v_many), .emp] (t_has_ends (fun c fs _ A => dropE E c fs A)) (F_has_ends v_thing v_many) := by unfold F_has_ends; exact
  (ss_ifs (we hw) (st_or (st_not (st_of (se_isiD (se_var (i := 0) rfl)))) (st_of (se_bin op_neI (se_cb cb_lenU (se_unE (se_var (i := 0) rfl))) (se_var (i := 1) rfl))))
  (ss_one (ss_ret1 (we hw) (se_bl false) (fun a A' s h => hrt a A' s h)))
  (ss_into (ss_forF (we hw) (fun (st_5 : Unit) => [.val (enc v_thing), .val (enc v_many), .emp]) _ [true, true, false] rfl (sif_tup (fun t : TupD => t.l) encU (se_slU (se_unE (se_var (i := 0) rfl)) sop_none (sop_some (se_int 3)))) hrt (fun x_4 st_5 => (sg_name (i := 2))) (fun V' N B hN_9 hB_10 hR_11 x_4 st_5 =>
  (ss_one (ss_ifs (we hw) (st_not (st_of (se_call1 hs_is_name ((se_var (i := 2) rfl)).v)))
  (ss_one (ss_ret (we hw) (se_bl false) (fun a A' s h => hR_11 a A' s h)))
  (ss_next [true, true, false] rfl fun δ A v e => hN_9 _ δ A v e)))) fun st_5 =>
  (ss_one (ss_ret1 (we hw) (sv_bin (op_eqV true (by decide)) ((se_deStr (se_bin op_ixTup (se_unE (se_var (i := 0) rfl)) (se_int 1)))).v ((se_deStr (se_bin op_ixTup (se_unE (se_var (i := 0) rfl)) (se_int 2)))).v) (fun a A' s h => hrt a A' s h))))))
  exact key _ _ ⟨Sub.refl A, [], (.val (.val (.emp .nil)))⟩ h
theorem len_is_part {ds A Q E} (h : sp_is_part ds A Q E) : ds.length = 1 := by obtain ⟨_, _, e, _⟩ := h; rw [e]; rfl
theorem rd_is_part {ds A Q E} (h : sp_is_part ds A Q E) : t_is_part (fun c fs _ A => dropE E c fs A) { nx := fun _ A => dropQ Q .non A, rt := dropQ Q } (startD 1 ds) A := by
  obtain ⟨d0, v_thing, rfl, h0, h⟩ := h
  have e0 : v_thing = d0 := h0.symm
  subst e0
  have hw : WX A (fun c fs _ A' => dropE E c fs A') (fun c fs => E c fs A) := fun c fs δ A' s h => ⟨A, s, h⟩
  have hrt : ∀ (a : Bool) A', Sub A A' → Q (enc a) A → dropQ Q (enc a) A' := fun a A' s h => ⟨A, s, h⟩
  have key : SS A (fun c fs => E c fs A) { nx := fun _ A => dropQ Q .non A, rt := dropQ Q } (fun (r : Bool) => Q (enc r) A) [.val (enc v_thing)] (t_is_part (fun c fs _ A => dropE E c fs A)) (F_is_part v_thing) := by unfold F_is_part; exact
  (ss_ifs (we hw) (st_or (st_not (st_of (se_call2 hs_has_ends ((se_var (i := 0) rfl)).v ((se_int 6)).v))) (st_or (st_not (st_of (se_call1 hs_is_fraction ((se_bin op_ixTup (se_unE (se_var (i := 0) rfl)) (se_int 3))).v))) (st_not (st_of (se_call1 hs_is_fraction ((se_bin op_ixTup (se_unE (se_var (i := 0) rfl)) (se_int 4))).v)))))
  (ss_one (ss_ret1 (we hw) (se_bl false) (fun a A' s h => hrt a A' s h)))
  (ss_into (ss_one (ss_ret1 (we hw) (se_and (se_bin op_cmpI (se_proj (fun t : (Int × Int) => t.1) 0 (fun _ => ⟨_, rfl, rfl⟩) (se_unE (se_bin op_ixTup (se_unE (se_var (i := 0) rfl)) (se_int 4)))) (se_int 0)) (se_and (se_call1 hs_is_whole ((se_bin op_ixTup (se_unE (se_var (i := 0) rfl)) (se_int 5))).v) (se_bin op_cmpI (se_unE (se_bin op_ixTup (se_unE (se_var (i := 0) rfl)) (se_int 5))) (se_int 0)))) (fun a A' s h => hrt a A' s h)))))
  exact key _ _ ⟨Sub.refl A, [], (.val .nil)⟩ h
theorem len_is_gap {ds A Q E} (h : sp_is_gap ds A Q E) : ds.length = 1 := by obtain ⟨_, _, e, _⟩ := h; rw [e]; rfl
theorem rd_is_gap {ds A Q E} (h : sp_is_gap ds A Q E) : t_is_gap (fun c fs _ A => dropE E c fs A) { nx := fun _ A => dropQ Q .non A, rt := dropQ Q } (startD 1 ds) A := by
  obtain ⟨d0, v_thing, rfl, h0, h⟩ := h
  have e0 : v_thing = d0 := h0.symm
  subst e0
  have hw : WX A (fun c fs _ A' => dropE E c fs A') (fun c fs => E c fs A) := fun c fs δ A' s h => ⟨A, s, h⟩
  have hrt : ∀ (a : Bool) A', Sub A A' → Q (enc a) A → dropQ Q (enc a) A' := fun a A' s h => ⟨A, s, h⟩
  have key : SS A (fun c fs => E c fs A) { nx := fun _ A => dropQ Q .non A, rt := dropQ Q } (fun (r : Bool) => Q (enc r) A) [.val (enc v_thing)] (t_is_gap (fun c fs _ A => dropE E c fs A)) (F_is_gap v_thing) := by unfold F_is_gap; exact
  (ss_ifs (we hw) (st_or (st_not (st_of (se_call2 hs_has_ends ((se_var (i := 0) rfl)).v ((se_int 5)).v))) (st_or (st_not (st_of (se_call1 hs_is_fraction ((se_bin op_ixTup (se_unE (se_var (i := 0) rfl)) (se_int 3))).v))) (st_not (st_of (se_call1 hs_is_fraction ((se_bin op_ixTup (se_unE (se_var (i := 0) rfl)) (se_int 4))).v)))))
  (ss_one (ss_ret1 (we hw) (se_bl false) (fun a A' s h => hrt a A' s h)))
  (ss_into (ss_one (ss_ret1 (we hw) (se_not (se_call2 hs_under ((se_unE (se_bin op_ixTup (se_unE (se_var (i := 0) rfl)) (se_int 4)))).v ((se_unE (se_bin op_ixTup (se_unE (se_var (i := 0) rfl)) (se_int 3)))).v)) (fun a A' s h => hrt a A' s h)))))
  exact key _ _ ⟨Sub.refl A, [], (.val .nil)⟩ h
theorem len_way_between {ds A Q E} (h : sp_way_between ds A Q E) : ds.length = 3 := by obtain ⟨_, _, _, _, _, _, e, _⟩ := h; rw [e]; rfl
theorem rd_way_between {ds A Q E} (h : sp_way_between ds A Q E) : t_way_between (fun c fs _ A => dropE E c fs A) { nx := fun _ A => dropQ Q .non A, rt := dropQ Q } (startD 12 ds) A := by
  obtain ⟨d0, d1, d2, v_parts, v_one, v_other, rfl, h0, h1, h2, h⟩ := h
  have e1 : d1 = enc v_one := h1
  subst e1
  have e2 : d2 = enc v_other := h2
  subst e2
  have hw : WX A (fun c fs _ A' => dropE E c fs A') (fun c fs => E c fs A) := fun c fs δ A' s h => ⟨A, s, h⟩
  have hrt : ∀ (a : (Option (List (Str × Bool)))) A', Sub A A' → Q (enc a) A → dropQ Q (enc a) A' := fun a A' s h => ⟨A, s, h⟩
  have key : SS A (fun c fs => E c fs A) { nx := fun _ A => dropQ Q .non A, rt := dropQ Q } (fun (r : (Option (List (Str × Bool)))) => Q (enc r) A) [.val d0, .val (enc v_one), .val (enc v_other), .emp, .emp, .emp, .emp, .emp, .emp, .emp, .emp, .emp] (t_way_between (fun c fs _ A => dropE E c fs A)) (F_way_between v_parts v_one v_other) := 
  (ss_asgO (we hw) (so_dic1 (se_var (i := 1) rfl) (se_lst ses_nil) (by intros; simp) (by intros; simp)) fun ways_1 =>
  (ss_asgO (we hw) (so_lst (ses_cons (se_var (i := 1) rfl) ses_nil)) fun queue_4 =>
  (ss_norm (J := [.val d0, .val (enc v_one), .val (enc v_other), .own (oD ways_1), .own (oL queue_4), .emp, .emp, .emp, .emp, .emp, .emp, .emp]) rfl
  (ss_while hw (fun (st_5 : (Dic Str (List (Str × Bool))) × (List Str)) => [.val d0, .val (enc v_one), .val (enc v_other), .own (oD st_5.1), .own (oL st_5.2), .emp, .emp, .emp, .emp, .emp, .emp, .emp]) [true, true, true, true, true, false, false, false, false, false, false, false] rfl hrt (fun st_5 => (st_of (se_bin op_cmpI (sv_cb cb_len (sv_own (i := 4) rfl)) (se_int 0)))) (fun V' N B hN_172 hB_173 hR_174 st_5 =>
  (ss_popIA (we hw) rfl (se_int 0) fun p_178 =>
  (ss_norm (J := [.val d0, .val (enc v_one), .val (enc v_other), .own (oD st_5.1), .own (oL p_178.2), .val (enc p_178.1), .emp, .emp, .emp, .emp, .emp, .emp]) rfl
  (ss_one (ss_for (we hw) (fun (st_180 : (Dic Str (List (Str × Bool))) × (List Str)) => [.val d0, .val (enc v_one), .val (enc v_other), .own (oD st_180.1), .own (oL st_180.2), .val (enc p_178.1), .emp, .emp, .emp, .emp, .emp, .emp]) _ [true, true, true, true, true, true, false, false, false, false, false, false] rfl (sif_var (i := 0) rfl h0) (fun x_179 st_180 => (sg_tup6 rfl)) (fun V' N B hN_259 x_179 st_180 =>
  (ss_norm (J := [.val d0, .val (enc v_one), .val (enc v_other), .own (oD st_180.1), .own (oL st_180.2), .val (enc p_178.1), .val (enc x_179.name), .val (enc x_179.start), .val (enc x_179.fin), .val (enc x_179.size), .val (enc x_179.most), .val (enc x_179.weight)]) rfl
  (ss_one (ss_ifs (we hw) (st_and (st_of (sv_bin (op_eqV false (by decide)) ((se_var (i := 7) rfl)).v ((se_var (i := 5) rfl)).v)) (st_of (se_inD1 (se_var (i := 8) rfl) (sv_ownD (i := 3) rfl))))
  (ss_setD (we hw) rfl (sv_bin op_cat ((se_get (sv_ownD (i := 3) rfl) (se_var (i := 5) rfl))).v ((se_lst (ses_cons (se_tup2 (se_var (i := 6) rfl) (se_bl true)) ses_nil))).v) (se_var (i := 8) rfl) fun ways_301 =>
  (ss_one (ss_app (we hw) rfl (se_var (i := 8) rfl) fun queue_312 =>
  (ss_next [true, true, true, true, true, true, false, false, false, false, false, false] rfl fun δ A v e => hN_259 _ δ A v e))))
  (ss_one (ss_ifs (we hw) (st_and (st_of (sv_bin (op_eqV false (by decide)) ((se_var (i := 8) rfl)).v ((se_var (i := 5) rfl)).v)) (st_of (se_inD1 (se_var (i := 7) rfl) (sv_ownD (i := 3) rfl))))
  (ss_setD (we hw) rfl (sv_bin op_cat ((se_get (sv_ownD (i := 3) rfl) (se_var (i := 5) rfl))).v ((se_lst (ses_cons (se_tup2 (se_var (i := 6) rfl) (se_bl false)) ses_nil))).v) (se_var (i := 7) rfl) fun ways_327 =>
  (ss_one (ss_app (we hw) rfl (se_var (i := 7) rfl) fun queue_338 =>
  (ss_next [true, true, true, true, true, true, false, false, false, false, false, false] rfl fun δ A v e => hN_259 _ δ A v e))))
  (ss_next [true, true, true, true, true, true, false, false, false, false, false, false] rfl fun δ A v e => hN_259 _ δ A v e))))))) fun st_180 =>
  (ss_next [true, true, true, true, true, false, false, false, false, false, false, false] rfl fun δ A v e => hN_172 _ δ A v e)))))) fun st_5 =>
  (ss_fzD (i := 3) rfl
  (ss_one (ss_ret1 (we hw) (se_dget ((se_var (i := 3) rfl)).v (se_var (i := 2) rfl)) (fun a A' s h => hrt a A' s h))))))))
  exact key _ _ ⟨Sub.refl A, [], (.val (.val (.val (.emp (.emp (.emp (.emp (.emp (.emp (.emp (.emp (.emp .nil))))))))))))⟩ h
theorem len_Thing_add_part {ds A Q E} (h : sp_Thing_add_part ds A Q E) : ds.length = 2 := by
  obtain ⟨_, _, _, _, e, _⟩ := h; rw [e]; rfl
theorem rd_Thing_add_part {ds A Q E} (h : sp_Thing_add_part ds A Q E) : t_Thing_add_part (fun c fs _ A => dropE E c fs A) { nx := fun _ A => dropQ Q .non A, rt := dropQ Q } (startD 2 ds) A := by
  obtain ⟨A0, p, t, x, rfl, hn, h⟩ := h
  have he : Env A0 [.own (.ob "Thing" (some p) (fThing t)), .val (enc x)] (startD 2 [.ref p, enc x]) A := hn.env (.val .nil)
  have we0 : ∀ {ss : List Sl}, ss[0]? = some (.own (.ob "Thing" (some p) (fThing t))) → WE A0 (fun k gs _ A => dropE E k gs A) (fun k gs => ∀ A', New A0 (.ob "Thing" (some p) (fThing t)) p A' → E k gs A') ss := fun h => we_io (flds := fThing) (x := t) h
  have key : SS A0 (fun k gs => ∀ A', New A0 (.ob "Thing" (some p) (fThing t)) p A' → E k gs A') { nx := fun _ A => dropQ Q .non A, rt := dropQ Q } (fun t' : ThingV => ∀ A', New A0 (.ob "Thing" (some p) (fThing t')) p A' → Q .non A') [.own (.ob "Thing" (some p) (fThing t)), .val (enc x)] (t_Thing_add_part (fun c fs _ A => dropE E c fs A)) (F_Thing_add_partD t x) :=
    (ss_ifs (we0 rfl) (st_not (st_of (se_call1 hs_is_part ((se_var (α := D) (i := 1) rfl)).v)))
    (ss_one (ss_raise (we0 rfl)))
    (ss_ifs (we0 rfl) (st_of (se_inD0 (se_proj (fun t : PartV => t.name) 0 (fun _ => ⟨_, rfl, rfl⟩) (se_unE (α := PartV) (se_var (α := D) (i := 1) rfl))) (sv_fldD (i := 0) rfl (by decide) rfl)))
    (ss_one (ss_raise (we0 rfl)))
    (ss_ifs (we0 rfl) (st_of (se_isN1 (se_call3 hs_way_between (sv_fldL (i := 0) rfl (by decide) rfl) ((se_proj (fun t : PartV => t.start) 1 (fun _ => ⟨_, rfl, rfl⟩) (se_unE (α := PartV) (se_var (α := D) (i := 1) rfl)))).v ((se_proj (fun t : PartV => t.fin) 2 (fun _ => ⟨_, rfl, rfl⟩) (se_unE (α := PartV) (se_var (α := D) (i := 1) rfl)))).v)))
    (ss_one (ss_raise (we0 rfl)))
    (ss_fapp (we0 rfl) (i := 0) rfl (by decide) rfl (se_unE (α := PartV) (se_var (α := D) (i := 1) rfl)) fun ps =>
    (ss_norm (J := [.own (.ob "Thing" (some p) (fThing { t with parts := ps })), .val (enc x)]) rfl
    (ss_one (ss_fsetD (w := fun k gs _ _ => ∀ A', New A0 (.ob "Thing" (some p) (fThing t)) p A' → E k gs A') (fun _ _ _ _ _ h => h) (i := 0) rfl (by decide) rfl (se_proj (fun t : PartV => t.size) 3 (fun _ => ⟨_, rfl, rfl⟩) (se_unE (α := PartV) (se_var (α := D) (i := 1) rfl))) (se_proj (fun t : PartV => t.name) 0 (fun _ => ⟨_, rfl, rfl⟩) (se_unE (α := PartV) (se_var (α := D) (i := 1) rfl))) fun sz =>
    (ss_norm (J := [.own (.ob "Thing" (some p) (fThing { t with parts := ps, sizes := sz })), .val (enc x)]) rfl
    (io_fin (j := 0) rfl)))))))))
  exact key _ _ he h
theorem len_Thing_add_gap {ds A Q E} (h : sp_Thing_add_gap ds A Q E) : ds.length = 2 := by
  obtain ⟨_, _, _, _, e, _⟩ := h; rw [e]; rfl
theorem rd_Thing_add_gap {ds A Q E} (h : sp_Thing_add_gap ds A Q E) : t_Thing_add_gap (fun c fs _ A => dropE E c fs A) { nx := fun _ A => dropQ Q .non A, rt := dropQ Q } (startD 3 ds) A := by
  obtain ⟨A0, p, t, x, rfl, hn, h⟩ := h
  have he : Env A0 [.own (.ob "Thing" (some p) (fThing t)), .val (enc x), .emp] (startD 3 [.ref p, enc x]) A := hn.env (.val (.emp .nil))
  have we0 : ∀ {ss : List Sl}, ss[0]? = some (.own (.ob "Thing" (some p) (fThing t))) → WE A0 (fun k gs _ A => dropE E k gs A) (fun k gs => ∀ A', New A0 (.ob "Thing" (some p) (fThing t)) p A' → E k gs A') ss := fun h => we_io (flds := fThing) (x := t) h
  have key : SS A0 (fun k gs => ∀ A', New A0 (.ob "Thing" (some p) (fThing t)) p A' → E k gs A') { nx := fun _ A => dropQ Q .non A, rt := dropQ Q } (fun t' : ThingV => ∀ A', New A0 (.ob "Thing" (some p) (fThing t')) p A' → Q .non A') [.own (.ob "Thing" (some p) (fThing t)), .val (enc x), .emp] (t_Thing_add_gap (fun c fs _ A => dropE E c fs A)) (F_Thing_add_gapD t x) :=
    (ss_ifs (we0 rfl) (st_not (st_of (se_call1 hs_is_gap ((se_var (α := D) (i := 1) rfl)).v)))
    (ss_one (ss_raise (we0 rfl)))
    (ss_ifs (we0 rfl) (st_of (se_inD0 (se_proj (fun t : GapV => t.name) 0 (fun _ => ⟨_, rfl, rfl⟩) (se_unE (α := GapV) (se_var (α := D) (i := 1) rfl))) (sv_fldD (i := 0) rfl (by decide) rfl)))
    (ss_one (ss_raise (we0 rfl)))
    (ss_asg (we0 rfl) (se_call3 hs_way_between (sv_fldL (i := 0) rfl (by decide) rfl) ((se_proj (fun t : GapV => t.one) 1 (fun _ => ⟨_, rfl, rfl⟩) (se_unE (α := GapV) (se_var (α := D) (i := 1) rfl)))).v ((se_proj (fun t : GapV => t.other) 2 (fun _ => ⟨_, rfl, rfl⟩) (se_unE (α := GapV) (se_var (α := D) (i := 1) rfl)))).v) fun found =>
    (ss_norm (J := [.own (.ob "Thing" (some p) (fThing t)), .val (enc x), .val (enc found)]) rfl
    (ss_ifs (we0 rfl) (st_of (se_isN0 (se_var (i := 2) rfl)))
    (ss_one (ss_raise (we0 rfl)))
    (ss_fapp (we0 rfl) (i := 0) rfl (by decide) rfl (se_unE (α := GapV) (se_var (α := D) (i := 1) rfl)) fun gs =>
    (ss_norm (J := [.own (.ob "Thing" (some p) (fThing { t with gaps := gs })), .val (enc x), .val (enc found)]) rfl
    (ss_one (ss_fsetD (w := fun k gs _ _ => ∀ A', New A0 (.ob "Thing" (some p) (fThing t)) p A' → E k gs A') (fun _ _ _ _ _ h => h) (i := 0) rfl (by decide) rfl (se_unw (se_var (i := 2) rfl)) (se_proj (fun t : GapV => t.name) 0 (fun _ => ⟨_, rfl, rfl⟩) (se_unE (α := GapV) (se_var (α := D) (i := 1) rfl))) fun ws =>
    (ss_norm (J := [.own (.ob "Thing" (some p) (fThing { t with gaps := gs, ways := ws })), .val (enc x), .val (enc found)]) rfl
    (io_fin (j := 0) rfl)))))))))))
  exact key _ _ he h
theorem len_Thing___init__ {ds A Q E} (h : sp_Thing___init__ ds A Q E) : ds.length = 3 := by
  obtain ⟨_, _, _, _, _, _, e, _⟩ := h; rw [e]; rfl
theorem rd_Thing___init__ {ds A Q E} (h : sp_Thing___init__ ds A Q E) : t_Thing___init__ (fun c fs _ A => dropE E c fs A) { nx := fun _ A => dropQ Q .non A, rt := dropQ Q } (startD 5 ds) A := by
  obtain ⟨A0, p, d1, d2, parts, gaps, rfl, hn, h1, h2, h⟩ := h
  have he : Env A0 [.own (.ob "Thing" (some p) []), .val d1, .val d2, .emp, .emp] (startD 5 [.ref p, d1, d2]) A := hn.env (.val (.val (.emp (.emp .nil))))
  have key : SS A0 (fun k gs => E k gs A0) { nx := fun _ A => dropQ Q .non A, rt := dropQ Q } (fun t' : ThingV => ∀ A', New A0 (.ob "Thing" (some p) (fThing t')) p A' → Q .non A') [.own (.ob "Thing" (some p) []), .val d1, .val d2, .emp, .emp] (t_Thing___init__ (fun c fs _ A => dropE E c fs A)) (F_ThingD parts gaps) :=
    (ss_fown (cs := ["Thing"]) (i := 0) we_mk rfl (by decide) (by simp) (so_lst (α := PartV) ses_nil) fun l1 =>
    (ss_norm (J := [.own (.ob "Thing" (some p) [("kept_parts", .inr (.lst (l1.map enc)))]), .val d1, .val d2, .emp, .emp]) rfl
    (ss_fown (cs := ["Thing"]) (i := 0) we_mk rfl (by decide) (by simp) (so_lst (α := GapV) ses_nil) fun l2 =>
    (ss_norm (J := [.own (.ob "Thing" (some p) [("kept_parts", .inr (.lst (l1.map enc))), ("kept_gaps", .inr (.lst (l2.map enc)))]), .val d1, .val d2, .emp, .emp]) rfl
    (ss_fown (cs := ["Thing"]) (i := 0) we_mk rfl (by decide) (by simp) (so_dic0 (κ := Str) (α := Rat)) fun e1 =>
    (ss_norm (J := [.own (.ob "Thing" (some p) [("kept_parts", .inr (.lst (l1.map enc))), ("kept_gaps", .inr (.lst (l2.map enc))), ("sizes", .inr (.dic (encKV e1.l)))]), .val d1, .val d2, .emp, .emp]) rfl
    (ss_fown (cs := ["Thing"]) (i := 0) we_mk rfl (by decide) (by simp) (so_dic0 (κ := Str) (α := List (Str × Bool))) fun e2 =>
    (ss_norm (J := [.own (.ob "Thing" (some p) (fThing ⟨l1, l2, e1, e2⟩)), .val d1, .val d2, .emp, .emp]) rfl
    (ss_for we_mk (fun (st : ThingV) => [.own (.ob "Thing" (some p) (fThing st)), .val d1, .val d2, .emp, .emp]) _ [true, true, true, false, false] rfl (sif_var (i := 1) rfl h1) (fun x st => (sg_name (i := 3))) (fun V' N B hN x st =>
    (ss_one (ss_io1 (i := 0) we_mk rfl rfl rfl (io_add_part st) (se_var (α := D) (i := 3) rfl) fun t' =>
    (ss_next [true, true, true, false, false] rfl fun δ A v e => hN _ δ A v e)))) fun st =>
    (ss_one (ss_for we_mk (fun (st : ThingV) => [.own (.ob "Thing" (some p) (fThing st)), .val d1, .val d2, .emp, .emp]) _ [true, true, true, false, false] rfl (sif_var (i := 2) rfl h2) (fun x st => (sg_name (i := 4))) (fun V' N B hN x st =>
    (ss_one (ss_io1 (i := 0) we_mk rfl rfl rfl (io_add_gap st) (se_var (α := D) (i := 4) rfl) fun t' =>
    (ss_next [true, true, true, false, false] rfl fun δ A v e => hN _ δ A v e)))) fun st =>
    (io_fin (j := 0) rfl))))))))))))
  exact key _ _ he h
theorem len_Thing_parts {ds A Q E} (h : sp_Thing_parts ds A Q E) : ds.length = 1 := by obtain ⟨_, _, e, _⟩ := h; rw [e]; rfl
theorem rd_Thing_parts {ds A Q E} (h : sp_Thing_parts ds A Q E) : t_Thing_parts (fun c fs _ A => dropE E c fs A) { nx := fun _ A => dropQ Q .non A, rt := dropQ Q } (startD 1 ds) A := by
  obtain ⟨d0, v_self, rfl, h0, h⟩ := h
  have e0 : d0 = enc v_self := h0
  subst e0
  have hw : WX A (fun c fs _ A' => dropE E c fs A') (fun c fs => E c fs A) := fun c fs δ A' s h => ⟨A, s, h⟩
  have hrtO : ∀ (a : (List PartV)) A1 A' p, Sub A A1 → New A1 (oL a) p A' → (∀ p A', New A (oL a) p A' → Q (.ref p) A') → dropQ Q (.ref p) A' := fun a A1 A' p s hn h => rtO s hn h
  have hrtW : ∀ (a : (List PartV)) A' p, Sub A A' → A' p = some (.lst (a.map enc)) → A p = none → (∀ p A', New A (oL a) p A' → Q (.ref p) A') → dropQ Q (.ref p) A' := fun a A' p s h1 h2 h => rtW s h1 h2 h
  have key : SS A (fun c fs => E c fs A) { nx := fun _ A => dropQ Q .non A, rt := dropQ Q } (fun r => ∀ p A', New A (oL r) p A' → Q (.ref p) A') [.val (enc v_self)] (t_Thing_parts (fun c fs _ A => dropE E c fs A)) (F_Thing_parts v_self) := 
  (ss_one (ss_retO (we hw) (so_cb cb_listO ((fld_parts (se_var (i := 0) rfl))).v) (fun a A1 A' p s hn h => hrtO a A1 A' p s hn h)))
  exact key _ _ ⟨Sub.refl A, [], (.val .nil)⟩ h
theorem len_Thing_gaps {ds A Q E} (h : sp_Thing_gaps ds A Q E) : ds.length = 1 := by obtain ⟨_, _, e, _⟩ := h; rw [e]; rfl
theorem rd_Thing_gaps {ds A Q E} (h : sp_Thing_gaps ds A Q E) : t_Thing_gaps (fun c fs _ A => dropE E c fs A) { nx := fun _ A => dropQ Q .non A, rt := dropQ Q } (startD 1 ds) A := by
  obtain ⟨d0, v_self, rfl, h0, h⟩ := h
  have e0 : d0 = enc v_self := h0
  subst e0
  have hw : WX A (fun c fs _ A' => dropE E c fs A') (fun c fs => E c fs A) := fun c fs δ A' s h => ⟨A, s, h⟩
  have hrtO : ∀ (a : (List GapV)) A1 A' p, Sub A A1 → New A1 (oL a) p A' → (∀ p A', New A (oL a) p A' → Q (.ref p) A') → dropQ Q (.ref p) A' := fun a A1 A' p s hn h => rtO s hn h
  have hrtW : ∀ (a : (List GapV)) A' p, Sub A A' → A' p = some (.lst (a.map enc)) → A p = none → (∀ p A', New A (oL a) p A' → Q (.ref p) A') → dropQ Q (.ref p) A' := fun a A' p s h1 h2 h => rtW s h1 h2 h
  have key : SS A (fun c fs => E c fs A) { nx := fun _ A => dropQ Q .non A, rt := dropQ Q } (fun r => ∀ p A', New A (oL r) p A' → Q (.ref p) A') [.val (enc v_self)] (t_Thing_gaps (fun c fs _ A => dropE E c fs A)) (F_Thing_gaps v_self) := 
  (ss_one (ss_retO (we hw) (so_cb cb_listO ((fld_gaps (se_var (i := 0) rfl))).v) (fun a A1 A' p s hn h => hrtO a A1 A' p s hn h)))
  exact key _ _ ⟨Sub.refl A, [], (.val .nil)⟩ h
theorem len__law_cell {ds A Q E} (h : sp__law_cell ds A Q E) : ds.length = 2 := by obtain ⟨_, _, _, _, e, _⟩ := h; rw [e]; rfl
theorem rd__law_cell {ds A Q E} (h : sp__law_cell ds A Q E) : t__law_cell (fun c fs _ A => dropE E c fs A) { nx := fun _ A => dropQ Q .non A, rt := dropQ Q } (startD 4 ds) A := by
  obtain ⟨d0, d1, v_script, v_k, rfl, h0, h1, h⟩ := h
  have e1 : d1 = enc v_k := h1
  subst e1
  have hw : WX A (fun c fs _ A' => dropE E c fs A') (fun c fs => E c fs A) := fun c fs δ A' s h => ⟨A, s, h⟩
  have hrt : ∀ (a : Int) A', Sub A A' → Q (enc a) A → dropQ Q (enc a) A' := fun a A' s h => ⟨A, s, h⟩
  have key : SS A (fun c fs => E c fs A) { nx := fun _ A => dropQ Q .non A, rt := dropQ Q } (fun (r : Int) => Q (enc r) A) [.val d0, .val (enc v_k), .emp, .emp] (t__law_cell (fun c fs _ A => dropE E c fs A)) (F__law_cell v_script v_k) := 
  (ss_asg (we hw) (se_int 0) fun total_1 =>
  (ss_for (we hw) (fun (st_3 : Int) => [.val d0, .val (enc v_k), .val (enc st_3), .emp]) _ [true, true, true, false] rfl (sif_rng3 (se_var (i := 1) rfl) (se_min (sv_cb cb_len (sv_var (i := 0) rfl h0)) (se_int 98)) (se_int 30)) (fun x_2 st_3 => (sg_name (i := 3))) (fun V' N B hN_11 x_2 st_3 =>
  (ss_one (ss_asg (we hw) (se_bin op_addI (se_var (i := 2) rfl) (se_bin op_mulI (se_ix (sv_var (i := 0) rfl h0) (se_var (i := 3) rfl)) (se_bin op_addI (se_int 1) (se_var (i := 3) rfl)))) fun total_20 =>
  (ss_next [true, true, true, false] rfl fun δ A v e => hN_11 _ δ A v e)))) fun st_3 =>
  (ss_one (ss_ret1 (we hw) (se_var (i := 2) rfl) (fun a A' s h => hrt a A' s h)))))
  exact key _ _ ⟨Sub.refl A, [], (.val (.val (.emp (.emp .nil))))⟩ h
theorem len__law_signed {ds A Q E} (h : sp__law_signed ds A Q E) : ds.length = 2 := by obtain ⟨_, _, _, _, e, _⟩ := h; rw [e]; rfl
theorem rd__law_signed {ds A Q E} (h : sp__law_signed ds A Q E) : t__law_signed (fun c fs _ A => dropE E c fs A) { nx := fun _ A => dropQ Q .non A, rt := dropQ Q } (startD 2 ds) A := by
  obtain ⟨d0, d1, v_cell_here, v_most, rfl, h0, h1, h⟩ := h
  have e0 : d0 = enc v_cell_here := h0
  subst e0
  have e1 : d1 = enc v_most := h1
  subst e1
  have hw : WX A (fun c fs _ A' => dropE E c fs A') (fun c fs => E c fs A) := fun c fs δ A' s h => ⟨A, s, h⟩
  have hrt : ∀ (a : Int) A', Sub A A' → Q (enc a) A → dropQ Q (enc a) A' := fun a A' s h => ⟨A, s, h⟩
  have key : SS A (fun c fs => E c fs A) { nx := fun _ A => dropQ Q .non A, rt := dropQ Q } (fun (r : Int) => Q (enc r) A) [.val (enc v_cell_here), .val (enc v_most)] (t__law_signed (fun c fs _ A => dropE E c fs A)) (F__law_signed v_cell_here v_most) := by unfold F__law_signed; exact
  (ss_ifs (we hw) (st_of (se_bin op_cmpI (se_var (i := 0) rfl) (se_int 0)))
  (ss_one (ss_ret1 (we hw) (se_bin op_subI (se_int 0) (se_bin op_modI (se_bin op_subI (se_int 0) (se_var (i := 0) rfl)) (se_var (i := 1) rfl))) (fun a A' s h => hrt a A' s h)))
  (ss_into (ss_one (ss_ret1 (we hw) (se_bin op_modI (se_var (i := 0) rfl) (se_var (i := 1) rfl)) (fun a A' s h => hrt a A' s h)))))
  exact key _ _ ⟨Sub.refl A, [], (.val (.val .nil))⟩ h
theorem len__law_low {ds A Q E} (h : sp__law_low ds A Q E) : ds.length = 2 := by obtain ⟨_, _, _, _, e, _⟩ := h; rw [e]; rfl
theorem rd__law_low {ds A Q E} (h : sp__law_low ds A Q E) : t__law_low (fun c fs _ A => dropE E c fs A) { nx := fun _ A => dropQ Q .non A, rt := dropQ Q } (startD 5 ds) A := by
  obtain ⟨d0, d1, v_top, v_bottom, rfl, h0, h1, h⟩ := h
  have e0 : d0 = enc v_top := h0
  subst e0
  have e1 : d1 = enc v_bottom := h1
  subst e1
  have hw : WX A (fun c fs _ A' => dropE E c fs A') (fun c fs => E c fs A) := fun c fs δ A' s h => ⟨A, s, h⟩
  have hrt : ∀ (a : Rat) A', Sub A A' → Q (enc a) A → dropQ Q (enc a) A' := fun a A' s h => ⟨A, s, h⟩
  have key : SS A (fun c fs => E c fs A) { nx := fun _ A => dropQ Q .non A, rt := dropQ Q } (fun (r : Rat) => Q (enc r) A) [.val (enc v_top), .val (enc v_bottom), .emp, .emp, .emp] (t__law_low (fun c fs _ A => dropE E c fs A)) (F__law_low v_top v_bottom) := 
  (ss_asg (we hw) (se_var (i := 0) rfl) fun one_1 =>
  (ss_asg (we hw) (se_var (i := 1) rfl) fun other_2 =>
  (ss_norm (J := [.val (enc v_top), .val (enc v_bottom), .val (enc one_1), .val (enc other_2), .emp]) rfl
  (ss_while hw (fun (st_3 : Int × Int) => [.val (enc v_top), .val (enc v_bottom), .val (enc st_3.1), .val (enc st_3.2), .emp]) [true, true, true, true, false] rfl hrt (fun st_3 => (st_of (se_bin op_neI (se_var (i := 3) rfl) (se_int 0)))) (fun V' N B hN_9 hB_10 hR_11 st_3 =>
  (ss_asg (we hw) (se_bin op_modI (se_var (i := 2) rfl) (se_var (i := 3) rfl)) fun rest_14 =>
  (ss_asg (we hw) (se_var (i := 3) rfl) fun one_15 =>
  (ss_norm (J := [.val (enc v_top), .val (enc v_bottom), .val (enc one_15), .val (enc st_3.2), .val (enc rest_14)]) rfl
  (ss_one (ss_asg (we hw) (se_var (i := 4) rfl) fun other_16 =>
  (ss_next [true, true, true, true, false] rfl fun δ A v e => hN_9 _ δ A v e))))))) fun st_3 =>
  (ss_one (ss_ret1 (we hw) (se_toRat (se_tup2 (se_bin op_divI (se_var (i := 0) rfl) (se_cb cb_abs (se_var (i := 2) rfl))) (se_bin op_divI (se_var (i := 1) rfl) (se_cb cb_abs (se_var (i := 2) rfl))))) (fun a A' s h => hrt a A' s h)))))))
  exact key _ _ ⟨Sub.refl A, [], (.val (.val (.emp (.emp (.emp .nil)))))⟩ h
theorem len__law_name {ds A Q E} (h : sp__law_name ds A Q E) : ds.length = 3 := by obtain ⟨_, _, _, _, _, _, e, _⟩ := h; rw [e]; rfl
theorem rd__law_name {ds A Q E} (h : sp__law_name ds A Q E) : t__law_name (fun c fs _ A => dropE E c fs A) { nx := fun _ A => dropQ Q .non A, rt := dropQ Q } (startD 3 ds) A := by
  obtain ⟨d0, d1, d2, v_k, v_sign, v_style, rfl, h0, h1, h2, h⟩ := h
  have e0 : d0 = enc v_k := h0
  subst e0
  have e1 : d1 = enc v_sign := h1
  subst e1
  have e2 : d2 = enc v_style := h2
  subst e2
  have hw : WX A (fun c fs _ A' => dropE E c fs A') (fun c fs => E c fs A) := fun c fs δ A' s h => ⟨A, s, h⟩
  have hrt : ∀ (a : Str) A', Sub A A' → Q (enc a) A → dropQ Q (enc a) A' := fun a A' s h => ⟨A, s, h⟩
  have key : SS A (fun c fs => E c fs A) { nx := fun _ A => dropQ Q .non A, rt := dropQ Q } (fun (r : Str) => Q (enc r) A) [.val (enc v_k), .val (enc v_sign), .val (enc v_style)] (t__law_name (fun c fs _ A => dropE E c fs A)) (F__law_name v_k v_sign v_style) := 
  (ss_one (ss_ret1 (we hw) (se_bin op_addS (se_bin op_addS (se_bin op_mulS (se_var (i := 1) rfl) (se_var (i := 2) rfl)) (se_bin op_ixS (se_str "abcdefgh") (se_var (i := 0) rfl))) (se_bin op_mulS (se_var (i := 1) rfl) (se_bin op_subI (se_int 3) (se_var (i := 2) rfl)))) (fun a A' s h => hrt a A' s h)))
  exact key _ _ ⟨Sub.refl A, [], (.val (.val (.val .nil)))⟩ h
theorem len__law_part {ds A Q E} (h : sp__law_part ds A Q E) : ds.length = 3 := by obtain ⟨_, _, _, _, _, _, e, _⟩ := h; rw [e]; rfl
theorem rd__law_part {ds A Q E} (h : sp__law_part ds A Q E) : t__law_part (fun c fs _ A => dropE E c fs A) { nx := fun _ A => dropQ Q .non A, rt := dropQ Q } (startD 10 ds) A := by
  obtain ⟨d0, d1, d2, v_k, v_cells, v_style, rfl, h0, h1, h2, h⟩ := h
  have e0 : d0 = enc v_k := h0
  subst e0
  have e2 : d2 = enc v_style := h2
  subst e2
  have hw : WX A (fun c fs _ A' => dropE E c fs A') (fun c fs => E c fs A) := fun c fs δ A' s h => ⟨A, s, h⟩
  have hrt : ∀ (a : PartV) A', Sub A A' → Q (enc a) A → dropQ Q (enc a) A' := fun a A' s h => ⟨A, s, h⟩
  have key : SS A (fun c fs => E c fs A) { nx := fun _ A => dropQ Q .non A, rt := dropQ Q } (fun (r : PartV) => Q (enc r) A) [.val (enc v_k), .val d1, .val (enc v_style), .emp, .emp, .emp, .emp, .emp, .emp, .emp] (t__law_part (fun c fs _ A => dropE E c fs A)) (F__law_part v_k v_cells v_style) := 
  (ss_asg (we hw) (se_divR 37 (by decide) (se_modR 2147483647 (by decide) (se_mulR 48271 (by decide) (se_ix (sv_var (i := 1) rfl h1) (se_int 0))))) fun mixed_7 =>
  (ss_asg (we hw) (se_ix ((se_lst (ses_cons (se_int 9) (ses_cons (se_powN 10 40 40 rfl (by decide)) ses_nil)))).v (se_modR 2 (by decide) (se_divR 4096 (by decide) (se_var (i := 3) rfl)))) fun far_16 =>
  (ss_norm (J := [.val (enc v_k), .val d1, .val (enc v_style), .val (enc mixed_7), .val (enc far_16), .emp, .emp, .emp, .emp, .emp]) rfl
  (ss_asg (we hw) (se_call3 hs__law_name ((se_ix ((se_lst (ses_cons (se_var (i := 0) rfl) (ses_cons (se_var (i := 0) rfl) (ses_cons (se_var (i := 0) rfl) (ses_cons (se_modR 6 (by decide) (se_divR 8 (by decide) (se_var (i := 3) rfl))) ses_nil)))))).v (se_modR 4 (by decide) (se_divR 64 (by decide) (se_var (i := 3) rfl))))).v ((se_str "p")).v ((se_var (i := 2) rfl)).v) fun name_here_40 =>
  (ss_asg (we hw) (se_call3 hs__law_name ((se_modR 7 (by decide) (se_divR 512 (by decide) (se_var (i := 3) rfl)))).v ((se_str "f")).v ((se_var (i := 2) rfl)).v) fun one_48 =>
  (ss_norm (J := [.val (enc v_k), .val d1, .val (enc v_style), .val (enc mixed_7), .val (enc far_16), .val (enc name_here_40), .val (enc one_48), .emp, .emp, .emp]) rfl
  (ss_asg (we hw) (se_call3 hs__law_name ((se_modR 7 (by decide) (se_bin op_addI (se_bin op_addI (se_divR 512 (by decide) (se_var (i := 3) rfl)) (se_int 1)) (se_modR 6 (by decide) (se_divR 16 (by decide) (se_var (i := 3) rfl)))))).v ((se_str "f")).v ((se_var (i := 2) rfl)).v) fun other_64 =>
  (ss_asg (we hw) (se_call2 hs__law_low ((se_call2 hs__law_signed ((se_ix (sv_var (i := 1) rfl h1) (se_int 1))).v ((se_var (i := 4) rfl)).v)).v ((se_bin op_addI (se_int 1) (se_modR 12 (by decide) (se_divR 32 (by decide) (se_var (i := 3) rfl))))).v) fun size_75 =>
  (ss_norm (J := [.val (enc v_k), .val d1, .val (enc v_style), .val (enc mixed_7), .val (enc far_16), .val (enc name_here_40), .val (enc one_48), .val (enc other_64), .val (enc size_75), .emp]) rfl
  (ss_asg (we hw) (se_call2 hs__law_low ((se_modR 13 (by decide) (se_ix (sv_var (i := 1) rfl h1) (se_int 1)))).v ((se_bin op_addI (se_int 1) (se_modR 6 (by decide) (se_divR 128 (by decide) (se_var (i := 3) rfl))))).v) fun most_86 =>
  (ss_one (ss_ret1 (we hw) (se_co (fun t : (T6 Str Str Str Rat Rat Int) => ({ name := t.a, start := t.b, fin := t.c, size := t.d, most := t.e, weight := t.f } : PartV)) (fun _ => rfl) (se_tup6 (se_var (i := 5) rfl) (se_var (i := 6) rfl) (se_var (i := 7) rfl) (se_var (i := 8) rfl) (se_var (i := 9) rfl) (se_ix ((se_lst (ses_cons (se_bin op_addI (se_int 1) (se_modR 4 (by decide) (se_var (i := 3) rfl))) (ses_cons (se_bin op_addI (se_int 1) (se_modE ((10 ^ 6) : Int) (by decide +kernel) (se_ix (sv_var (i := 1) rfl h1) (se_int 1)) (se_powN 10 6 6 rfl (by decide)))) ses_nil)))).v (se_modR 2 (by decide) (se_divR 8192 (by decide) (se_var (i := 3) rfl)))))) (fun a A' s h => hrt a A' s h)))))))))))))
  exact key _ _ ⟨Sub.refl A, [], (.val (.val (.val (.emp (.emp (.emp (.emp (.emp (.emp (.emp .nil))))))))))⟩ h
theorem len__law_gap {ds A Q E} (h : sp__law_gap ds A Q E) : ds.length = 3 := by obtain ⟨_, _, _, _, _, _, e, _⟩ := h; rw [e]; rfl
theorem rd__law_gap {ds A Q E} (h : sp__law_gap ds A Q E) : t__law_gap (fun c fs _ A => dropE E c fs A) { nx := fun _ A => dropQ Q .non A, rt := dropQ Q } (startD 8 ds) A := by
  obtain ⟨d0, d1, d2, v_k, v_cells, v_style, rfl, h0, h1, h2, h⟩ := h
  have e0 : d0 = enc v_k := h0
  subst e0
  have e2 : d2 = enc v_style := h2
  subst e2
  have hw : WX A (fun c fs _ A' => dropE E c fs A') (fun c fs => E c fs A) := fun c fs δ A' s h => ⟨A, s, h⟩
  have hrt : ∀ (a : GapV) A', Sub A A' → Q (enc a) A → dropQ Q (enc a) A' := fun a A' s h => ⟨A, s, h⟩
  have key : SS A (fun c fs => E c fs A) { nx := fun _ A => dropQ Q .non A, rt := dropQ Q } (fun (r : GapV) => Q (enc r) A) [.val (enc v_k), .val d1, .val (enc v_style), .emp, .emp, .emp, .emp, .emp] (t__law_gap (fun c fs _ A => dropE E c fs A)) (F__law_gap v_k v_cells v_style) := 
  (ss_asg (we hw) (se_divR 37 (by decide) (se_modR 2147483629 (by decide) (se_mulR 39373 (by decide) (se_ix (sv_var (i := 1) rfl h1) (se_int 0))))) fun mixed_7 =>
  (ss_asg (we hw) (se_call3 hs__law_name ((se_ix ((se_lst (ses_cons (se_var (i := 0) rfl) (ses_cons (se_var (i := 0) rfl) (ses_cons (se_var (i := 0) rfl) (ses_cons (se_modR 5 (by decide) (se_divR 8 (by decide) (se_var (i := 3) rfl))) ses_nil)))))).v (se_modR 4 (by decide) (se_divR 64 (by decide) (se_var (i := 3) rfl))))).v ((se_ix ((se_lst (ses_cons (se_str "g") (ses_cons (se_str "p") ses_nil)))).v (se_modR 2 (by decide) (se_divR 1024 (by decide) (se_var (i := 3) rfl))))).v ((se_var (i := 2) rfl)).v) fun name_here_39 =>
  (ss_norm (J := [.val (enc v_k), .val d1, .val (enc v_style), .val (enc mixed_7), .val (enc name_here_39), .emp, .emp, .emp]) rfl
  (ss_asg (we hw) (se_call3 hs__law_name ((se_modR 7 (by decide) (se_divR 512 (by decide) (se_var (i := 3) rfl)))).v ((se_str "f")).v ((se_var (i := 2) rfl)).v) fun one_47 =>
  (ss_asg (we hw) (se_call3 hs__law_name ((se_modR 7 (by decide) (se_bin op_addI (se_bin op_addI (se_divR 512 (by decide) (se_var (i := 3) rfl)) (se_int 1)) (se_modR 6 (by decide) (se_divR 16 (by decide) (se_var (i := 3) rfl)))))).v ((se_str "f")).v ((se_var (i := 2) rfl)).v) fun other_63 =>
  (ss_norm (J := [.val (enc v_k), .val d1, .val (enc v_style), .val (enc mixed_7), .val (enc name_here_39), .val (enc one_47), .val (enc other_63), .emp]) rfl
  (ss_asg (we hw) (se_call2 hs__law_low ((se_call2 hs__law_signed ((se_ix (sv_var (i := 1) rfl h1) (se_int 1))).v ((se_powN 10 40 40 rfl (by decide))).v)).v ((se_bin op_addI (se_int 1) (se_modR 12 (by decide) (se_divR 32 (by decide) (se_var (i := 3) rfl))))).v) fun low_here_74 =>
  (ss_one (ss_ret1 (we hw) (se_co (fun t : (T5 Str Str Str Rat Rat) => ({ name := t.a, one := t.b, other := t.c, low := t.d, high := t.e } : GapV)) (fun _ => rfl) (se_tup5 (se_var (i := 4) rfl) (se_var (i := 5) rfl) (se_var (i := 6) rfl) (se_var (i := 7) rfl) (se_toRat (se_tup2 (se_bin op_addI (se_proj (fun q : Rat => q.num) 0 ix_num (se_var (i := 7) rfl)) (se_bin op_mulI (se_proj (fun q : Rat => (q.den : Int)) 1 ix_den (se_var (i := 7) rfl)) (se_modR 3 (by decide) (se_var (i := 3) rfl)))) (se_proj (fun q : Rat => (q.den : Int)) 1 ix_den (se_var (i := 7) rfl)))))) (fun a A' s h => hrt a A' s h))))))))))
  exact key _ _ ⟨Sub.refl A, [], (.val (.val (.val (.emp (.emp (.emp (.emp (.emp .nil))))))))⟩ h
theorem len__law_with {ds A Q E} (h : sp__law_with ds A Q E) : ds.length = 3 := by obtain ⟨_, _, _, _, _, _, e, _⟩ := h; rw [e]; rfl
theorem rd__law_with {ds A Q E} (h : sp__law_with ds A Q E) : t__law_with (fun c fs _ A => dropE E c fs A) { nx := fun _ A => dropQ Q .non A, rt := dropQ Q } (startD 3 ds) A := by
  obtain ⟨d0, d1, d2, v_thing, v_at, v_part_here, rfl, h0, h1, h2, h⟩ := h
  have e0 : d0 = enc v_thing := h0
  subst e0
  have e1 : d1 = enc v_at := h1
  subst e1
  have e2 : v_part_here = d2 := h2.symm
  subst e2
  have hw : WX A (fun c fs _ A' => dropE E c fs A') (fun c fs => E c fs A) := fun c fs δ A' s h => ⟨A, s, h⟩
  have hrt : ∀ (a : TupD) A', Sub A A' → Q (enc a) A → dropQ Q (enc a) A' := fun a A' s h => ⟨A, s, h⟩
  have key : SS A (fun c fs => E c fs A) { nx := fun _ A => dropQ Q .non A, rt := dropQ Q } (fun (r : TupD) => Q (enc r) A) [.val (enc v_thing), .val (enc v_at), .val (enc v_part_here)] (t__law_with (fun c fs _ A => dropE E c fs A)) (F__law_with v_thing v_at v_part_here) := 
  (ss_one (ss_ret1 (we hw) (se_bin op_catU (se_bin op_catU (se_slU (se_var (i := 0) rfl) sop_none (sop_some (se_var (i := 1) rfl))) (se_co (fun t : (T1 D) => (⟨[enc t.a]⟩ : TupD)) (fun _ => rfl) (se_tup1 (se_var (i := 2) rfl)))) (se_slU (se_var (i := 0) rfl) (sop_some (se_bin op_addI (se_var (i := 1) rfl) (se_int 1))) sop_none)) (fun a A' s h => hrt a A' s h)))
  exact key _ _ ⟨Sub.refl A, [], (.val (.val (.val .nil)))⟩ h
theorem len__law_spoiled {ds A Q E} (h : sp__law_spoiled ds A Q E) : ds.length = 2 := by obtain ⟨_, _, _, _, e, _⟩ := h; rw [e]; rfl
theorem rd__law_spoiled {ds A Q E} (h : sp__law_spoiled ds A Q E) : t__law_spoiled (fun c fs _ A => dropE E c fs A) { nx := fun _ A => dropQ Q .non A, rt := dropQ Q } (startD 3 ds) A := by
  obtain ⟨d0, d1, v_thing, v_way, rfl, h0, h1, h⟩ := h
  have e0 : d0 = enc v_thing := h0
  subst e0
  have e1 : d1 = enc v_way := h1
  subst e1
  have hw : WX A (fun c fs _ A' => dropE E c fs A') (fun c fs => E c fs A) := fun c fs δ A' s h => ⟨A, s, h⟩
  have hrt : ∀ (a : D) A', Sub A A' → Q (enc a) A → dropQ Q (enc a) A' := fun a A' s h => ⟨A, s, h⟩
  have key : SS A (fun c fs => E c fs A) { nx := fun _ A => dropQ Q .non A, rt := dropQ Q } (fun (r : D) => Q (enc r) A) [.val (enc v_thing), .val (enc v_way), .emp] (t__law_spoiled (fun c fs _ A => dropE E c fs A)) (F__law_spoiled v_thing v_way) := 
  (ss_asg (we hw) (se_bin op_modI (se_divR 16 (by decide) (se_var (i := 1) rfl)) (se_cb cb_lenU (se_var (i := 0) rfl))) fun at_5 =>
  (ss_ifs (we hw) (st_of (se_bin op_eqI (se_modR 8 (by decide) (se_var (i := 1) rfl)) (se_int 0)))
  (ss_one (ss_ret1 (we hw) (se_ix ((se_lst (ses_cons (se_listT (fun t : TupD => D.lst t.l) (fun _ => ⟨_, rfl, rfl⟩) (se_var (i := 0) rfl)) (ses_cons (se_dyn (se_slU (se_var (i := 0) rfl) sop_none (sop_some (se_neg (se_int 1))))) (ses_cons (se_dyn (se_bin op_catU (se_var (i := 0) rfl) (se_co (fun t : (T1 Int) => (⟨[enc t.a]⟩ : TupD)) (fun _ => rfl) (se_tup1 (se_int 1))))) (ses_cons (se_dyn se_unit) (ses_cons (se_dyn (se_int 7)) (ses_cons (se_bin op_ixTup (se_var (i := 0) rfl) (se_int 0)) (ses_cons se_tup0 ses_nil))))))))).v (se_modR 7 (by decide) (se_divR 8 (by decide) (se_var (i := 1) rfl)))) (fun a A' s h => hrt a A' s h)))
  (ss_into (ss_ifs (we hw) (st_of (se_bin op_eqI (se_modR 8 (by decide) (se_var (i := 1) rfl)) (se_int 1)))
  (ss_one (ss_ret1 (we hw) (se_dyn (se_call3 hs__law_with ((se_var (i := 0) rfl)).v ((se_var (i := 2) rfl)).v ((se_ix ((se_lst (ses_cons (se_dyn se_unit) (ses_cons (se_dyn (se_bl true)) (ses_cons (se_dyn (se_bl false)) (ses_cons (se_dyn (α := List D) (se_lst ses_nil)) (ses_cons (se_dyn (se_tup1 (se_int 1))) (ses_cons (se_dyn (se_tup2 (se_int 2) (se_int 2))) (ses_cons (se_dyn (se_tup2 (se_int 1) (se_int 0))) (ses_cons (se_dyn (se_tup2 (se_bl true) (se_int 1))) ses_nil)))))))))).v (se_modR 8 (by decide) (se_divR 8 (by decide) (se_var (i := 1) rfl))))).v)) (fun a A' s h => hrt a A' s h)))
  (ss_into (ss_ifs (we hw) (st_of (se_bin op_eqI (se_modR 8 (by decide) (se_var (i := 1) rfl)) (se_int 2)))
  (ss_one (ss_ret1 (we hw) (se_dyn (se_call3 hs__law_with ((se_var (i := 0) rfl)).v ((se_modR 3 (by decide) (se_divR 16 (by decide) (se_var (i := 1) rfl)))).v ((se_ix ((se_lst (ses_cons (se_dyn (se_str "")) (ses_cons (se_dyn (se_str "A")) (ses_cons (se_dyn (se_str "a b")) (ses_cons (se_dyn (se_str "abcdefghi")) (ses_cons (se_dyn (se_str "a1")) (ses_cons (se_dyn (se_int 7)) (ses_cons (se_dyn se_unit) (ses_cons (se_dyn (se_str "a\n")) ses_nil)))))))))).v (se_modR 8 (by decide) (se_divR 8 (by decide) (se_var (i := 1) rfl))))).v)) (fun a A' s h => hrt a A' s h)))
  (ss_into (ss_ifs (we hw) (st_of (se_bin op_eqI (se_modR 8 (by decide) (se_var (i := 1) rfl)) (se_int 3)))
  (ss_one (ss_ret1 (we hw) (se_dyn (se_call3 hs__law_with ((se_var (i := 0) rfl)).v ((se_int 2)).v ((se_bin op_ixTup (se_var (i := 0) rfl) (se_int 1))).v)) (fun a A' s h => hrt a A' s h)))
  (ss_into (ss_ifs (we hw) (st_and (st_of (se_bin op_eqI (se_cb cb_lenU (se_var (i := 0) rfl)) (se_int 6))) (st_of (se_bin op_eqI (se_modR 8 (by decide) (se_var (i := 1) rfl)) (se_int 4))))
  (ss_one (ss_ret1 (we hw) (se_dyn (se_call3 hs__law_with ((se_var (i := 0) rfl)).v ((se_int 4)).v ((se_dyn (se_tup2 (se_bin op_subI (se_neg (se_int 1)) (se_modR 5 (by decide) (se_divR 8 (by decide) (se_var (i := 1) rfl)))) (se_int 7)))).v)) (fun a A' s h => hrt a A' s h)))
  (ss_into (ss_ifs (we hw) (st_of (se_bin op_eqI (se_cb cb_lenU (se_var (i := 0) rfl)) (se_int 6)))
  (ss_one (ss_ret1 (we hw) (se_dyn (se_call3 hs__law_with ((se_var (i := 0) rfl)).v ((se_int 5)).v ((se_ix ((se_lst (ses_cons (se_dyn (se_int 0)) (ses_cons (se_dyn (se_neg (se_int 1))) (ses_cons (se_dyn (se_bl true)) (ses_cons (se_dyn (se_tup2 (se_int 1) (se_int 1))) (ses_cons (se_dyn se_unit) ses_nil))))))).v (se_modR 5 (by decide) (se_divR 8 (by decide) (se_var (i := 1) rfl))))).v)) (fun a A' s h => hrt a A' s h)))
  (ss_into (ss_one (ss_ret1 (we hw) (se_dyn (se_call3 hs__law_with ((se_var (i := 0) rfl)).v ((se_int 3)).v ((se_dyn (se_tup2 (se_bin op_addI (se_proj (fun t : (Int × Int) => t.1) 0 (fun _ => ⟨_, rfl, rfl⟩) (se_unE (se_bin op_ixTup (se_var (i := 0) rfl) (se_int 4)))) (se_proj (fun t : (Int × Int) => t.2) 1 (fun _ => ⟨_, rfl, rfl⟩) (se_unE (se_bin op_ixTup (se_var (i := 0) rfl) (se_int 4))))) (se_proj (fun t : (Int × Int) => t.2) 1 (fun _ => ⟨_, rfl, rfl⟩) (se_unE (se_bin op_ixTup (se_var (i := 0) rfl) (se_int 4))))))).v)) (fun a A' s h => hrt a A' s h))))))))))))))))
  exact key _ _ ⟨Sub.refl A, [], (.val (.val (.emp .nil)))⟩ h
theorem len__law_joined {ds A Q E} (h : sp__law_joined ds A Q E) : ds.length = 3 := by obtain ⟨_, _, _, _, _, _, _, e, _⟩ := h; rw [e]; rfl
theorem rd__law_joined {ds A Q E} (h : sp__law_joined ds A Q E) : t__law_joined (fun c fs _ A => dropE E c fs A) { nx := fun _ A => dropQ Q .non A, rt := dropQ Q } (startD 6 ds) A := by
  obtain ⟨A0, p0, d1, d2, v_marks, v_one, v_other, rfl, hn, h1, h2, h⟩ := h
  have e1 : d1 = enc v_one := h1
  subst e1
  have e2 : d2 = enc v_other := h2
  subst e2
  have hw : WX A0 (fun c fs _ A' => dropE E c fs A') (fun _ _ => False) := fun _ _ _ _ _ h => h.elim
  have key : SS A0 (fun _ _ => False) { nx := fun _ A => dropQ Q .non A, rt := dropQ Q } (fun s' => ∀ A', NewL A0 [(p0, .dic (encKV s'.l))] A' → Q .non A') [.own (oP p0 v_marks), .val (enc v_one), .val (enc v_other), .emp, .emp, .emp] (t__law_joined (fun c fs _ A => dropE E c fs A)) (F__law_joined v_marks v_one v_other) :=
  (ss_asg (we hw) (se_dget2 (sv_ownDP (i := 0) rfl) (se_var (i := 1) rfl) (se_var (i := 1) rfl)) fun here_1 =>
  (ss_asg (we hw) (se_dget2 (sv_ownDP (i := 0) rfl) (se_var (i := 2) rfl) (se_var (i := 2) rfl)) fun there_2 =>
  (ss_norm (J := [.own (oP p0 v_marks), .val (enc v_one), .val (enc v_other), .val (enc here_1), .val (enc there_2), .emp]) rfl
  (ss_for (we hw) (fun (st_4 : (Dic Str Str)) => [.own (oP p0 st_4), .val (enc v_one), .val (enc v_other), .val (enc here_1), .val (enc there_2), .emp]) _ [true, true, true, true, true, false] rfl (sif_seq (sv_cb cb_listD (sv_ownDP (i := 0) rfl))) (fun x_3 st_4 => (sg_name (i := 5))) (fun V' N B hN_11 x_3 st_4 =>
  (ss_one (ss_ifs (we hw) (st_of (sv_bin (op_eqV false (by decide)) ((se_get (sv_ownDP (i := 0) rfl) (se_var (i := 5) rfl))).v ((se_var (i := 4) rfl)).v))
  (ss_one (ss_setDP (we hw) rfl (se_var (i := 3) rfl) (se_var (i := 5) rfl) fun marks_17 =>
  (ss_next [true, true, true, true, true, false] rfl fun δ A v e => hN_11 _ δ A v e)))
  (ss_next [true, true, true, true, true, false] rfl fun δ A v e => hN_11 _ δ A v e)))) fun st_4 =>
  (ss_setDP (we hw) rfl (se_var (i := 3) rfl) (se_var (i := 1) rfl) fun marks_21 =>
  (ss_one (ss_setDP (we hw) rfl (se_var (i := 3) rfl) (se_var (i := 2) rfl) fun marks_24 =>
  (pn_fall (f := fun (s' : (Dic Str Str)) => [(p0, AO.dic (encKV s'.l))]) hn.nd rfl (by intro x hx; simp only [List.mem_cons, List.not_mem_nil, or_false] at hx; rcases hx with rfl; exact ⟨0, rfl⟩)))))))))
  exact key _ _ ⟨hn.sub, _, (.own (.val (.val (.emp (.emp (.emp .nil))))) hn.own.1 (fun _ _ h => nomatch h) hn.own.2)⟩ h
theorem len__law_due {ds A Q E} (h : sp__law_due ds A Q E) : ds.length = 2 := by obtain ⟨_, _, _, _, e, _⟩ := h; rw [e]; rfl
theorem rd__law_due {ds A Q E} (h : sp__law_due ds A Q E) : t__law_due (fun c fs _ A => dropE E c fs A) { nx := fun _ A => dropQ Q .non A, rt := dropQ Q } (startD 7 ds) A := by
  obtain ⟨d0, d1, v_parts, v_gaps, rfl, h0, h1, h⟩ := h
  have hw : WX A (fun c fs _ A' => dropE E c fs A') (fun c fs => E c fs A) := fun c fs δ A' s h => ⟨A, s, h⟩
  have hrt : ∀ (a : Str) A', Sub A A' → Q (enc a) A → dropQ Q (enc a) A' := fun a A' s h => ⟨A, s, h⟩
  have key : SS A (fun c fs => E c fs A) { nx := fun _ A => dropQ Q .non A, rt := dropQ Q } (fun (r : Str) => Q (enc r) A) [.val d0, .val d1, .emp, .emp, .emp, .emp, .emp] (t__law_due (fun c fs _ A => dropE E c fs A)) (F__law_due v_parts v_gaps) := 
  (ss_asgO (we hw) so_dic0 fun marks_1 =>
  (ss_asgO (we hw) so_dic0 fun names_2 =>
  (ss_norm (J := [.val d0, .val d1, .own (oD marks_1), .own (oD names_2), .emp, .emp, .emp]) rfl
  (ss_forF (we hw) (fun (st_4 : (Dic Str Str) × (Dic Str Bool)) => [.val d0, .val d1, .own (oD st_4.1), .own (oD st_4.2), .emp, .emp, .emp]) _ [true, true, true, true, false, false, false] rfl (sif_var (i := 0) rfl h0) hrt (fun x_3 st_4 => (sg_tup2 rfl)) (fun V' N B hN_17 hB_18 hR_19 x_3 st_4 =>
  (ss_norm (J := [.val d0, .val d1, .own (oD st_4.1), .own (oD st_4.2), .val (enc x_3.1), .val (enc x_3.2), .emp]) rfl
  (ss_ifs (we hw) (st_not (st_of (se_var (i := 4) rfl)))
  (ss_one (ss_ret (we hw) (se_str "part") (fun a A' s h => hR_19 a A' s h)))
  (ss_into (ss_ifs (we hw) (st_of (se_inD0 (se_proj (fun t : PartV => t.name) 0 (fun _ => ⟨_, rfl, rfl⟩) (se_unE (se_var (i := 5) rfl))) (sv_ownD (i := 3) rfl)))
  (ss_one (ss_ret (we hw) (se_str "twice") (fun a A' s h => hR_19 a A' s h)))
  (ss_into (ss_ifs (we hw) (st_and (st_of (se_inD0 (se_proj (fun t : PartV => t.start) 1 (fun _ => ⟨_, rfl, rfl⟩) (se_unE (se_var (i := 5) rfl))) (sv_ownD (i := 2) rfl))) (st_and (st_of (se_inD0 (se_proj (fun t : PartV => t.fin) 2 (fun _ => ⟨_, rfl, rfl⟩) (se_unE (se_var (i := 5) rfl))) (sv_ownD (i := 2) rfl))) (st_of (sv_bin (op_eqV false (by decide)) ((se_get (sv_ownD (i := 2) rfl) (se_proj (fun t : PartV => t.start) 1 (fun _ => ⟨_, rfl, rfl⟩) (se_unE (se_var (i := 5) rfl))))).v ((se_get (sv_ownD (i := 2) rfl) (se_proj (fun t : PartV => t.fin) 2 (fun _ => ⟨_, rfl, rfl⟩) (se_unE (se_var (i := 5) rfl))))).v))))
  (ss_one (ss_ret (we hw) (se_str "ring") (fun a A' s h => hR_19 a A' s h)))
  (ss_into (ss_setD (we hw) rfl (se_bl true) (se_proj (fun t : PartV => t.name) 0 (fun _ => ⟨_, rfl, rfl⟩) (se_unE (se_var (i := 5) rfl))) fun names_26 =>
  (ss_one (ss_io1of3 (we hw) rfl hs__law_joined (se_proj (fun t : PartV => t.start) 1 (fun _ => ⟨_, rfl, rfl⟩) (se_unE (se_var (i := 5) rfl))) (se_proj (fun t : PartV => t.fin) 2 (fun _ => ⟨_, rfl, rfl⟩) (se_unE (se_var (i := 5) rfl))) fun marks_31 =>
  (ss_next [true, true, true, true, false, false, false] rfl fun δ A v e => hN_17 _ δ A v e)))))))))))) fun st_4 =>
  (ss_fzD (i := 2) rfl
  (ss_asgO (we hw) so_dic0 fun names_33 =>
  (ss_norm (J := [.val d0, .val d1, .val (enc st_4.1), .own (oD names_33), .emp, .emp, .emp]) rfl
  (ss_forF (we hw) (fun (st_35 : (Dic Str Bool)) => [.val d0, .val d1, .val (enc st_4.1), .own (oD st_35), .emp, .emp, .emp]) _ [true, true, true, true, false, false, false] rfl (sif_var (i := 1) rfl h1) hrt (fun x_34 st_35 => (sg_tup2 rfl)) (fun V' N B hN_45 hB_46 hR_47 x_34 st_35 =>
  (ss_norm (J := [.val d0, .val d1, .val (enc st_4.1), .own (oD st_35), .val (enc x_34.1), .emp, .val (enc x_34.2)]) rfl
  (ss_ifs (we hw) (st_not (st_of (se_var (i := 4) rfl)))
  (ss_one (ss_ret (we hw) (se_str "gap") (fun a A' s h => hR_47 a A' s h)))
  (ss_into (ss_ifs (we hw) (st_of (se_inD0 (se_proj (fun t : GapV => t.name) 0 (fun _ => ⟨_, rfl, rfl⟩) (se_unE (se_var (i := 6) rfl))) (sv_ownD (i := 3) rfl)))
  (ss_one (ss_ret (we hw) (se_str "twice") (fun a A' s h => hR_47 a A' s h)))
  (ss_into (ss_ifs (we hw) (st_or (st_of (se_inD1 (se_proj (fun t : GapV => t.one) 1 (fun _ => ⟨_, rfl, rfl⟩) (se_unE (se_var (i := 6) rfl))) ((se_var (i := 2) rfl)).v)) (st_or (st_of (se_inD1 (se_proj (fun t : GapV => t.other) 2 (fun _ => ⟨_, rfl, rfl⟩) (se_unE (se_var (i := 6) rfl))) ((se_var (i := 2) rfl)).v)) (st_of (sv_bin (op_eqV true (by decide)) ((se_get ((se_var (i := 2) rfl)).v (se_proj (fun t : GapV => t.one) 1 (fun _ => ⟨_, rfl, rfl⟩) (se_unE (se_var (i := 6) rfl))))).v ((se_get ((se_var (i := 2) rfl)).v (se_proj (fun t : GapV => t.other) 2 (fun _ => ⟨_, rfl, rfl⟩) (se_unE (se_var (i := 6) rfl))))).v))))
  (ss_one (ss_ret (we hw) (se_str "apart") (fun a A' s h => hR_47 a A' s h)))
  (ss_into (ss_one (ss_setD (we hw) rfl (se_bl true) (se_proj (fun t : GapV => t.name) 0 (fun _ => ⟨_, rfl, rfl⟩) (se_unE (se_var (i := 6) rfl))) fun names_54 =>
  (ss_next [true, true, true, true, false, false, false] rfl fun δ A v e => hN_45 _ δ A v e))))))))))) fun st_35 =>
  (ss_one (ss_ret1 (we hw) (se_str "made") (fun a A' s h => hrt a A' s h)))))))))))
  exact key _ _ ⟨Sub.refl A, [], (.val (.val (.emp (.emp (.emp (.emp (.emp .nil)))))))⟩ h
theorem len__law_made {ds A Q E} (h : sp__law_made ds A Q E) : ds.length = 2 := by obtain ⟨_, _, _, _, e, _⟩ := h; rw [e]; rfl
theorem rd__law_made {ds A Q E} (h : sp__law_made ds A Q E) : t__law_made (fun c fs _ A => dropE E c fs A) { nx := fun _ A => dropQ Q .non A, rt := dropQ Q } (startD 6 ds) A := by
  obtain ⟨d0, d1, v_parts, v_gaps, rfl, h0, h1, h⟩ := h
  have hw : WX A (fun c fs _ A' => dropE E c fs A') (fun c fs => E c fs A) := fun c fs δ A' s h => ⟨A, s, h⟩
  have hrt : ∀ (a : (Str × (Option ThingV))) A', Sub A A' → Q (enc a) A → dropQ Q (enc a) A' := fun a A' s h => ⟨A, s, h⟩
  have key : SS A (fun c fs => E c fs A) { nx := fun _ A => dropQ Q .non A, rt := dropQ Q } (fun (r : (Str × (Option ThingV))) => Q (enc r) A) [.val d0, .val d1, .emp, .emp, .emp, .emp] (t__law_made (fun c fs _ A => dropE E c fs A)) (F__law_made v_parts v_gaps) := 
  (ss_asg (we hw) (se_lst ses_nil) fun named_1 =>
  (ss_asg (we hw) (se_lst ses_nil) fun others_2 =>
  (ss_norm (J := [.val d0, .val d1, .val (enc named_1), .val (enc others_2), .emp, .emp]) rfl
  (ss_asg (we hw) se_non fun found_3 =>
  (ss_tryAs (i := 5) hw (fun (st_37 : (List Bool) × (List Bool) × (Option ThingV)) => [.val d0, .val d1, .val (enc st_37.1), .val (enc st_37.2.1), .val (enc st_37.2.2), .emp]) [.val d0, .val d1, .val (enc named_1), .val (enc others_2), .val (enc found_3), .emp] [true, true, true, true, true, false] rfl (fun st_37 δ A e => env_none (i := 5) rfl e) (fun V' N w' X' hN_38 hw_39 => (ss_one (ss_asg (we_try [true, true, true, true, true, false] rfl hw_39) (se_some (se_fzD (fun _ => rfl) okF_thing (so_mk2 mk_ThingD (sv_var (i := 0) rfl h0) (sv_var (i := 1) rfl h1)))) fun found_43 =>
  (ss_next [true, true, true, true, true, false] rfl fun δ A v e => hN_38 _ δ A v e)))) (fun V' N B' C' hN_40 xa xc xfs => (ss_asg (we hw) (se_lst (ses_cons (se_isE (i := 5) rfl) (ses_cons (se_isE (i := 5) rfl) (ses_cons (se_isE (i := 5) rfl) (ses_cons (se_isE (i := 5) rfl) (ses_cons (se_isE (i := 5) rfl) ses_nil)))))) fun named_54 =>
  (ss_one (ss_asg (we hw) (se_lst (ses_cons (se_isE (i := 5) rfl) (ses_cons (se_isE (i := 5) rfl) (ses_cons (se_isE (i := 5) rfl) (ses_cons (se_isE (i := 5) rfl) (ses_cons (se_isE (i := 5) rfl) (ses_cons (se_isE (i := 5) rfl) (ses_cons (se_isE (i := 5) rfl) (ses_cons (se_isE (i := 5) rfl) (ses_cons (se_not (se_isE (i := 5) rfl)) ses_nil)))))))))) fun others_73 =>
  (ss_next [true, true, true, true, true, false] rfl fun δ A v e => hN_40 _ δ A v e))))) fun st_37 =>
  (ss_ifs (we hw) (st_of (se_isN1 (se_var (i := 4) rfl)))
  (ss_one (ss_ret1 (we hw) (se_tup2 (se_str "made") (se_var (i := 4) rfl)) (fun a A' s h => hrt a A' s h)))
  (ss_into (ss_ifs (we hw) (st_or (st_of (se_in false (by decide) (se_bl true) ((se_var (i := 3) rfl)).v)) (st_of (se_bin op_neI (se_cntB ((se_var (i := 2) rfl)).v (se_bl true)) (se_int 1))))
  (ss_one (ss_ret1 (we hw) (se_tup2 (se_str "none") se_non) (fun a A' s h => hrt a A' s h)))
  (ss_into (ss_one (ss_ret1 (we hw) (se_tup2 (se_ix ((se_lst (ses_cons (se_str "part") (ses_cons (se_str "twice") (ses_cons (se_str "ring") (ses_cons (se_str "gap") (ses_cons (se_str "apart") ses_nil))))))).v (se_idxB ((se_var (i := 2) rfl)).v (se_bl true))) se_non) (fun a A' s h => hrt a A' s h))))))))))))
  exact key _ _ ⟨Sub.refl A, [], (.val (.val (.emp (.emp (.emp (.emp .nil))))))⟩ h
theorem len__law_drawn {ds A Q E} (h : sp__law_drawn ds A Q E) : ds.length = 2 := by obtain ⟨_, _, _, _, e, _⟩ := h; rw [e]; rfl
theorem rd__law_drawn {ds A Q E} (h : sp__law_drawn ds A Q E) : t__law_drawn (fun c fs _ A => dropE E c fs A) { nx := fun _ A => dropQ Q .non A, rt := dropQ Q } (startD 8 ds) A := by
  obtain ⟨d0, d1, v_script, v_style, rfl, h0, h1, h⟩ := h
  have e1 : d1 = enc v_style := h1
  subst e1
  have hw : WX A (fun c fs _ A' => dropE E c fs A') (fun c fs => E c fs A) := fun c fs δ A' s h => ⟨A, s, h⟩
  have hrt : ∀ (a : ((List (Bool × D)) × (List (Bool × D)))) A', Sub A A' → Q (enc a) A → dropQ Q (enc a) A' := fun a A' s h => ⟨A, s, h⟩
  have key : SS A (fun c fs => E c fs A) { nx := fun _ A => dropQ Q .non A, rt := dropQ Q } (fun (r : ((List (Bool × D)) × (List (Bool × D)))) => Q (enc r) A) [.val d0, .val (enc v_style), .emp, .emp, .emp, .emp, .emp, .emp] (t__law_drawn (fun c fs _ A => dropE E c fs A)) (F__law_drawn v_script v_style) := 
  (ss_asgO (we hw) (so_lst ses_nil) fun parts_1 =>
  (ss_for (we hw) (fun (st_7 : (List (Bool × D))) => [.val d0, .val (enc v_style), .own (oL st_7), .emp, .emp, .emp, .emp, .emp]) _ [true, true, true, false, false, false, false, false] rfl (sif_rng1 (se_modR 7 (by decide) (se_call2 hs__law_cell (sv_var (i := 0) rfl h0) ((se_int 0)).v))) (fun x_6 st_7 => (sg_name (i := 3))) (fun V' N B hN_65 x_6 st_7 =>
  (ss_asg (we hw) (se_call3 hs__law_part ((se_var (i := 3) rfl)).v ((se_lst (ses_cons (se_call2 hs__law_cell (sv_var (i := 0) rfl h0) ((se_bin op_addI (se_int 3) (se_mulL 2 (by decide) (se_var (i := 3) rfl)))).v) (ses_cons (se_call2 hs__law_cell (sv_var (i := 0) rfl h0) ((se_bin op_addI (se_int 4) (se_mulL 2 (by decide) (se_var (i := 3) rfl)))).v) ses_nil)))).v ((se_var (i := 1) rfl)).v) fun part_here_87 =>
  (ss_norm (J := [.val d0, .val (enc v_style), .own (oL st_7), .val (enc x_6), .val (enc part_here_87), .emp, .emp, .emp]) rfl
  (ss_asg (we hw) (se_divR 37 (by decide) (se_modR 2147483587 (by decide) (se_mulR 69621 (by decide) (se_call2 hs__law_cell (sv_var (i := 0) rfl h0) ((se_bin op_addI (se_int 3) (se_mulL 2 (by decide) (se_var (i := 3) rfl)))).v)))) fun way_100 =>
  (ss_one (ss_ifs (we hw) (st_of (se_bin op_eqI (se_modR 11 (by decide) (se_divR 8192 (by decide) (se_var (i := 5) rfl))) (se_int 1)))
  (ss_one (ss_app (we hw) rfl (se_tup2 (se_bl false) (se_call2 hs__law_spoiled ((se_co (fun t : PartV => (⟨[enc t.name, enc t.start, enc t.fin, enc t.size, enc t.most, enc t.weight]⟩ : TupD)) (fun _ => rfl) (se_var (i := 4) rfl))).v ((se_var (i := 5) rfl)).v)) fun parts_115 =>
  (ss_next [true, true, true, false, false, false, false, false] rfl fun δ A v e => hN_65 _ δ A v e)))
  (ss_one (ss_app (we hw) rfl (se_tup2 (se_bl true) (se_dyn (se_var (i := 4) rfl))) fun parts_121 =>
  (ss_next [true, true, true, false, false, false, false, false] rfl fun δ A v e => hN_65 _ δ A v e))))))))) fun st_7 =>
  (ss_fz (i := 2) rfl
  (ss_asgO (we hw) (so_lst ses_nil) fun gaps_126 =>
  (ss_norm (J := [.val d0, .val (enc v_style), .val (enc st_7), .emp, .emp, .emp, .own (oL gaps_126), .emp]) rfl
  (ss_for (we hw) (fun (st_132 : (List (Bool × D))) => [.val d0, .val (enc v_style), .val (enc st_7), .emp, .emp, .emp, .own (oL st_132), .emp]) _ [true, true, true, false, false, false, true, false] rfl (sif_rng1 (se_modR 6 (by decide) (se_call2 hs__law_cell (sv_var (i := 0) rfl h0) ((se_int 1)).v))) (fun x_131 st_132 => (sg_name (i := 3))) (fun V' N B hN_190 x_131 st_132 =>
  (ss_asg (we hw) (se_call3 hs__law_gap ((se_var (i := 3) rfl)).v ((se_lst (ses_cons (se_call2 hs__law_cell (sv_var (i := 0) rfl h0) ((se_bin op_addI (se_int 15) (se_mulL 2 (by decide) (se_var (i := 3) rfl)))).v) (ses_cons (se_call2 hs__law_cell (sv_var (i := 0) rfl h0) ((se_bin op_addI (se_int 16) (se_mulL 2 (by decide) (se_var (i := 3) rfl)))).v) ses_nil)))).v ((se_var (i := 1) rfl)).v) fun gap_here_212 =>
  (ss_norm (J := [.val d0, .val (enc v_style), .val (enc st_7), .val (enc x_131), .emp, .emp, .own (oL st_132), .val (enc gap_here_212)]) rfl
  (ss_asg (we hw) (se_divR 37 (by decide) (se_modR 2147483587 (by decide) (se_mulR 69621 (by decide) (se_call2 hs__law_cell (sv_var (i := 0) rfl h0) ((se_bin op_addI (se_int 15) (se_mulL 2 (by decide) (se_var (i := 3) rfl)))).v)))) fun way_225 =>
  (ss_one (ss_ifs (we hw) (st_of (se_bin op_eqI (se_modR 11 (by decide) (se_divR 8192 (by decide) (se_var (i := 5) rfl))) (se_int 1)))
  (ss_one (ss_app (we hw) rfl (se_tup2 (se_bl false) (se_call2 hs__law_spoiled ((se_co (fun t : GapV => (⟨[enc t.name, enc t.one, enc t.other, enc t.low, enc t.high]⟩ : TupD)) (fun _ => rfl) (se_var (i := 7) rfl))).v ((se_var (i := 5) rfl)).v)) fun gaps_240 =>
  (ss_next [true, true, true, false, false, false, true, false] rfl fun δ A v e => hN_190 _ δ A v e)))
  (ss_one (ss_app (we hw) rfl (se_tup2 (se_bl true) (se_dyn (se_var (i := 7) rfl))) fun gaps_246 =>
  (ss_next [true, true, true, false, false, false, true, false] rfl fun δ A v e => hN_190 _ δ A v e))))))))) fun st_132 =>
  (ss_fz (i := 6) rfl
  (ss_one (ss_ret1 (we hw) (se_tup2 (se_var (i := 2) rfl) (se_var (i := 6) rfl)) (fun a A' s h => hrt a A' s h))))))))))
  exact key _ _ ⟨Sub.refl A, [], (.val (.val (.emp (.emp (.emp (.emp (.emp (.emp .nil))))))))⟩ h
theorem len_law {ds A Q E} (h : spLaw ds A Q E) : ds.length = 1 := by obtain ⟨_, rfl, _⟩ := h; rfl
theorem rd_law {ds A Q E} (h : spLaw ds A Q E) : t_law (fun c fs _ A => dropE E c fs A) { nx := fun _ A => dropQ Q .non A, rt := dropQ Q } (startD 11 ds) A := by
  obtain ⟨v_script, rfl, hl, q⟩ := h
  have h0 : vw A (D.rol (v_script.map D.int)) v_script := rfl
  have h : (F_law v_script).wp (fun r => Q (enc r) A) (fun c fs => E c fs A) := by rw [law_ok v_script hl]; exact q A
  generalize D.rol (v_script.map D.int) = d0 at h0 ⊢
  have hw : WX A (fun c fs _ A' => dropE E c fs A') (fun c fs => E c fs A) := fun c fs δ A' s h => ⟨A, s, h⟩
  have hrt : ∀ (a : Bool) A', Sub A A' → Q (enc a) A → dropQ Q (enc a) A' := fun a A' s h => ⟨A, s, h⟩
  have key : SS A (fun c fs => E c fs A) { nx := fun _ A => dropQ Q .non A, rt := dropQ Q } (fun (r : Bool) => Q (enc r) A) [.val d0, .emp, .emp, .emp, .emp, .emp, .emp, .emp, .emp, .emp, .emp] (t_law (fun c fs _ A => dropE E c fs A)) (F_law v_script) := 
  (ss_asg (we hw) (se_modR 4 (by decide) (se_call2 hs__law_cell (sv_var (i := 0) rfl h0) ((se_int 2)).v)) fun style_5 =>
  (ss_asgT (we hw) (se_call2 hs__law_drawn (sv_var (i := 0) rfl h0) ((se_var (i := 1) rfl)).v) (fun p_8 => sg_tup2 rfl) fun p_8 =>
  (ss_norm (J := [.val d0, .val (enc style_5), .val (enc p_8.1), .val (enc p_8.2), .emp, .emp, .emp, .emp, .emp, .emp, .emp]) rfl
  (ss_asg (we hw) (se_call2 hs__law_due ((se_var (i := 2) rfl)).v ((se_var (i := 3) rfl)).v) fun due_here_11 =>
  (ss_asgO (we hw) (so_two (so_lc _ (sic_v ((se_var (i := 2) rfl)).v) (fun x_12 => (sg_name (i := 6))) (fun x_12 => st_yes) (fun x_12 => (se_proj (fun t : (Bool × D) => t.2) 1 (fun _ => ⟨_, rfl, rfl⟩) (se_var (i := 6) rfl)))) (so_lc _ (sic_v ((se_var (i := 3) rfl)).v) (fun x_14 => (sg_name (i := 6))) (fun x_14 => st_yes) (fun x_14 => (se_proj (fun t : (Bool × D) => t.2) 1 (fun _ => ⟨_, rfl, rfl⟩) (se_var (i := 6) rfl))))) fun handed_16 =>
  (ss_norm (J := [.val d0, .val (enc style_5), .val (enc p_8.1), .val (enc p_8.2), .val (enc due_here_11), .own (oTwo handed_16), .emp, .emp, .emp, .emp, .emp]) rfl
  (ss_asg (we hw) (se_lst (ses_cons (sv_cb cb_list (sv_two0 (i := 5) rfl)) (ses_cons (sv_cb cb_list (sv_two1 (i := 5) rfl)) ses_nil))) fun kept_23 =>
  (ss_asgT (we hw) (se_call2 hs__law_made (sv_two0 (i := 5) rfl) (sv_two1 (i := 5) rfl)) (fun p_26 => sg_tup2 rfl) fun p_26 =>
  (ss_norm (J := [.val d0, .val (enc style_5), .val (enc p_8.1), .val (enc p_8.2), .val (enc due_here_11), .own (oTwo handed_16), .emp, .val (enc kept_23), .val (enc p_26.1), .val (enc p_26.2), .emp]) rfl
  (ss_ifs (we hw) (st_or (st_of (sv_bin (op_eqV true (by decide)) ((se_var (i := 8) rfl)).v ((se_var (i := 4) rfl)).v)) (st_of (se_neTwo (i := 5) rfl (se_var (i := 7) rfl))))
  (ss_one (ss_ret1 (we hw) (se_bl false) (fun a A' s h => hrt a A' s h)))
  (ss_into (ss_ifs (we hw) (st_of (se_isN0 (se_var (i := 9) rfl)))
  (ss_one (ss_ret1 (we hw) (se_bl true) (fun a A' s h => hrt a A' s h)))
  (ss_into (ss_twoApp0 (we hw) rfl (se_dyn (se_int 1)) fun handed_28 =>
  (ss_twoRev1 rfl fun handed_30 =>
  (ss_norm (J := [.val d0, .val (enc style_5), .val (enc p_8.1), .val (enc p_8.2), .val (enc due_here_11), .own (oTwo handed_30), .emp, .val (enc kept_23), .val (enc p_26.1), .val (enc p_26.2), .emp]) rfl
  (ss_ifs (we hw) (st_or (st_of (sv_bin (op_eqV true (by decide)) ((se_fzO (so_meth0 hm_Thing_parts ((se_unw (se_var (i := 9) rfl))).v))).v ((se_unE (se_dyn (se_ix ((se_var (i := 7) rfl)).v (se_int 0))))).v)) (st_of (sv_bin (op_eqV true (by decide)) ((se_fzO (so_meth0 hm_Thing_gaps ((se_unw (se_var (i := 9) rfl))).v))).v ((se_unE (se_dyn (se_ix ((se_var (i := 7) rfl)).v (se_int 1))))).v)))
  (ss_one (ss_ret1 (we hw) (se_bl false) (fun a A' s h => hrt a A' s h)))
  (ss_into (ss_asgO (we hw) (so_two (so_dynL (so_meth0 hm_Thing_parts ((se_unw (se_var (i := 9) rfl))).v)) (so_dynL (so_meth0 hm_Thing_gaps ((se_unw (se_var (i := 9) rfl))).v))) fun told_36 =>
  (ss_twoApp0 (we hw) rfl (se_dyn (se_int 1)) fun told_39 =>
  (ss_norm (J := [.val d0, .val (enc style_5), .val (enc p_8.1), .val (enc p_8.2), .val (enc due_here_11), .own (oTwo handed_30), .emp, .val (enc kept_23), .val (enc p_26.1), .val (enc p_26.2), .own (oTwo told_39)]) rfl
  (ss_twoApp1 (we hw) rfl (se_dyn (se_int 1)) fun told_41 =>
  (ss_one (ss_ret1 (we hw) (se_and (sv_bin (op_eqV false (by decide)) ((se_fzO (so_meth0 hm_Thing_parts ((se_unw (se_var (i := 9) rfl))).v))).v ((se_unE (se_dyn (se_ix ((se_var (i := 7) rfl)).v (se_int 0))))).v) (sv_bin (op_eqV false (by decide)) ((se_fzO (so_meth0 hm_Thing_gaps ((se_unw (se_var (i := 9) rfl))).v))).v ((se_unE (se_dyn (se_ix ((se_var (i := 7) rfl)).v (se_int 1))))).v)) (fun a A' s h => hrt a A' s h)))))))))))))))))))))))))
  exact key _ _ ⟨Sub.refl A, [], (.val (.emp (.emp (.emp (.emp (.emp (.emp (.emp (.emp (.emp (.emp .nil)))))))))))⟩ h
end K41


namespace K41
open PySem PySem.Spec PyProof.Rows L2 DL FR TF
open TF.Enc
open H41 (top inn s_divisor s_under s_is_whole s_is_name s_is_fraction s_has_ends s_is_part s_is_gap s_way_between s_Thing_add_part s_Thing_add_gap s_Thing___init__ s_Thing_parts s_Thing_gaps s__law_cell s__law_signed s__law_low s__law_name s__law_part s__law_gap s__law_with s__law_spoiled s__law_joined s__law_due s__law_made s__law_drawn s_law)
structure C (K : PySem.W.Frag) (mg : Str → Option Value) : Prop where
  d_divisor : ∃ fd, FunD K "divisor" "divisor" (defArgs s_divisor) (defBody s_divisor) (defScope s_divisor) [] [] (He.fAd K ("divisor", none)) fd
  d_under : ∃ fd, FunD K "under" "under" (defArgs s_under) (defBody s_under) (defScope s_under) [] [] (He.fAd K ("under", none)) fd
  d_is_whole : ∃ fd, FunD K "is_whole" "is_whole" (defArgs s_is_whole) (defBody s_is_whole) (defScope s_is_whole) [] [] (He.fAd K ("is_whole", none)) fd
  d_is_name : ∃ fd, FunD K "is_name" "is_name" (defArgs s_is_name) (defBody s_is_name) (defScope s_is_name) [] [] (He.fAd K ("is_name", none)) fd
  d_is_fraction : ∃ fd, FunD K "is_fraction" "is_fraction" (defArgs s_is_fraction) (defBody s_is_fraction) (defScope s_is_fraction) [] [] (He.fAd K ("is_fraction", none)) fd
  d_has_ends : ∃ fd, FunD K "has_ends" "has_ends" (defArgs s_has_ends) (defBody s_has_ends) (defScope s_has_ends) [] [] (He.fAd K ("has_ends", none)) fd
  d_is_part : ∃ fd, FunD K "is_part" "is_part" (defArgs s_is_part) (defBody s_is_part) (defScope s_is_part) [] [] (He.fAd K ("is_part", none)) fd
  d_is_gap : ∃ fd, FunD K "is_gap" "is_gap" (defArgs s_is_gap) (defBody s_is_gap) (defScope s_is_gap) [] [] (He.fAd K ("is_gap", none)) fd
  d_way_between : ∃ fd, FunD K "way_between" "way_between" (defArgs s_way_between) (defBody s_way_between) (defScope s_way_between) [] [] (He.fAd K ("way_between", none)) fd
  d_Thing_add_part : ∃ fd, FunD K "add_part" "Thing.add_part" (defArgs s_Thing_add_part) (defBody s_Thing_add_part) (defScope s_Thing_add_part) [] [] (He.fAd K ("Thing", some "add_part")) fd
  d_Thing_add_gap : ∃ fd, FunD K "add_gap" "Thing.add_gap" (defArgs s_Thing_add_gap) (defBody s_Thing_add_gap) (defScope s_Thing_add_gap) [] [] (He.fAd K ("Thing", some "add_gap")) fd
  d_Thing___init__ : ∃ fd, FunD K "__init__" "Thing.__init__" (defArgs s_Thing___init__) (defBody s_Thing___init__) (defScope s_Thing___init__) [] [] (He.fAd K ("Thing", some "__init__")) fd
  d_Thing_parts : ∃ fd, FunD K "parts" "Thing.parts" (defArgs s_Thing_parts) (defBody s_Thing_parts) (defScope s_Thing_parts) [] [] (He.fAd K ("Thing", some "parts")) fd
  d_Thing_gaps : ∃ fd, FunD K "gaps" "Thing.gaps" (defArgs s_Thing_gaps) (defBody s_Thing_gaps) (defScope s_Thing_gaps) [] [] (He.fAd K ("Thing", some "gaps")) fd
  d__law_cell : ∃ fd, FunD K "_law_cell" "_law_cell" (defArgs s__law_cell) (defBody s__law_cell) (defScope s__law_cell) [] [] (He.fAd K ("_law_cell", none)) fd
  d__law_signed : ∃ fd, FunD K "_law_signed" "_law_signed" (defArgs s__law_signed) (defBody s__law_signed) (defScope s__law_signed) [] [] (He.fAd K ("_law_signed", none)) fd
  d__law_low : ∃ fd, FunD K "_law_low" "_law_low" (defArgs s__law_low) (defBody s__law_low) (defScope s__law_low) [] [] (He.fAd K ("_law_low", none)) fd
  d__law_name : ∃ fd, FunD K "_law_name" "_law_name" (defArgs s__law_name) (defBody s__law_name) (defScope s__law_name) [] [] (He.fAd K ("_law_name", none)) fd
  d__law_part : ∃ fd, FunD K "_law_part" "_law_part" (defArgs s__law_part) (defBody s__law_part) (defScope s__law_part) [] [] (He.fAd K ("_law_part", none)) fd
  d__law_gap : ∃ fd, FunD K "_law_gap" "_law_gap" (defArgs s__law_gap) (defBody s__law_gap) (defScope s__law_gap) [] [] (He.fAd K ("_law_gap", none)) fd
  d__law_with : ∃ fd, FunD K "_law_with" "_law_with" (defArgs s__law_with) (defBody s__law_with) (defScope s__law_with) [] [] (He.fAd K ("_law_with", none)) fd
  d__law_spoiled : ∃ fd, FunD K "_law_spoiled" "_law_spoiled" (defArgs s__law_spoiled) (defBody s__law_spoiled) (defScope s__law_spoiled) [] [] (He.fAd K ("_law_spoiled", none)) fd
  d__law_joined : ∃ fd, FunD K "_law_joined" "_law_joined" (defArgs s__law_joined) (defBody s__law_joined) (defScope s__law_joined) [] [] (He.fAd K ("_law_joined", none)) fd
  d__law_due : ∃ fd, FunD K "_law_due" "_law_due" (defArgs s__law_due) (defBody s__law_due) (defScope s__law_due) [] [] (He.fAd K ("_law_due", none)) fd
  d__law_made : ∃ fd, FunD K "_law_made" "_law_made" (defArgs s__law_made) (defBody s__law_made) (defScope s__law_made) [] [] (He.fAd K ("_law_made", none)) fd
  d__law_drawn : ∃ fd, FunD K "_law_drawn" "_law_drawn" (defArgs s__law_drawn) (defBody s__law_drawn) (defScope s__law_drawn) [] [] (He.fAd K ("_law_drawn", none)) fd
  d_law : ∃ fd, FunD K "law" "law" (defArgs s_law) (defBody s_law) (defScope s_law) [] [] (He.fAd K ("law", none)) fd
  n_ValueError : mg "ValueError" = none
  n_abs : mg "abs" = none
  n_bool : mg "bool" = none
  n_int : mg "int" = none
  n_isinstance : mg "isinstance" = none
  n_len : mg "len" = none
  n_list : mg "list" = none
  n_min : mg "min" = none
  n_range : mg "range" = none
  n_str : mg "str" = none
  n_tuple : mg "tuple" = none
  g_Apart : mg "Apart" = some (.ref (He.ga K "Apart"))
  g_Impossible : mg "Impossible" = some (.ref (He.ga K "Impossible"))
  g_InRing : mg "InRing" = some (.ref (He.ga K "InRing"))
  g_NoFace : mg "NoFace" = some (.ref (He.ga K "NoFace"))
  g_NoGap : mg "NoGap" = some (.ref (He.ga K "NoGap"))
  g_NoName : mg "NoName" = some (.ref (He.ga K "NoName"))
  g_NoNumber : mg "NoNumber" = some (.ref (He.ga K "NoNumber"))
  g_NoPart : mg "NoPart" = some (.ref (He.ga K "NoPart"))
  g_NoRow : mg "NoRow" = some (.ref (He.ga K "NoRow"))
  g_NoTie : mg "NoTie" = some (.ref (He.ga K "NoTie"))
  g_Off : mg "Off" = some (.ref (He.ga K "Off"))
  g_SlackError : mg "SlackError" = some (.ref (He.ga K "SlackError"))
  g_Thing : mg "Thing" = some (.ref (He.ga K "Thing"))
  g_Tight : mg "Tight" = some (.ref (He.ga K "Tight"))
  g_Twice : mg "Twice" = some (.ref (He.ga K "Twice"))
  s_LETTERS : ∃ t, mg "LETTERS" = some (.str "abcdefghijklmnopqrstuvwxyz" t)
  x_Apart : (He.Fa.exc "Apart").ok K = true
  x_InRing : (He.Fa.exc "InRing").ok K = true
  x_NoGap : (He.Fa.exc "NoGap").ok K = true
  x_NoPart : (He.Fa.exc "NoPart").ok K = true
  x_Twice : (He.Fa.exc "Twice").ok K = true
  tb_SlackError : ∀ p ∈ tb_SlackError, (He.Fa.exm (Str.ofString p.1) "SlackError" p.2).ok K = true
  ek : ∀ k ∈ exl, ExcC K (He.ga K (Str.ofString k))
  ti_Apart : ∀ p ∈ ti_Apart, PySem.W.kitOne K (.ref (He.ga K (Str.ofString p.1))) (.ref (He.ga K "Apart")) = some p.2
  ti_Impossible : ∀ p ∈ ti_Impossible, PySem.W.kitOne K (.ref (He.ga K (Str.ofString p.1))) (.ref (He.ga K "Impossible")) = some p.2
  ti_InRing : ∀ p ∈ ti_InRing, PySem.W.kitOne K (.ref (He.ga K (Str.ofString p.1))) (.ref (He.ga K "InRing")) = some p.2
  ti_NoFace : ∀ p ∈ ti_NoFace, PySem.W.kitOne K (.ref (He.ga K (Str.ofString p.1))) (.ref (He.ga K "NoFace")) = some p.2
  ti_NoGap : ∀ p ∈ ti_NoGap, PySem.W.kitOne K (.ref (He.ga K (Str.ofString p.1))) (.ref (He.ga K "NoGap")) = some p.2
  ti_NoName : ∀ p ∈ ti_NoName, PySem.W.kitOne K (.ref (He.ga K (Str.ofString p.1))) (.ref (He.ga K "NoName")) = some p.2
  ti_NoNumber : ∀ p ∈ ti_NoNumber, PySem.W.kitOne K (.ref (He.ga K (Str.ofString p.1))) (.ref (He.ga K "NoNumber")) = some p.2
  ti_NoPart : ∀ p ∈ ti_NoPart, PySem.W.kitOne K (.ref (He.ga K (Str.ofString p.1))) (.ref (He.ga K "NoPart")) = some p.2
  ti_NoRow : ∀ p ∈ ti_NoRow, PySem.W.kitOne K (.ref (He.ga K (Str.ofString p.1))) (.ref (He.ga K "NoRow")) = some p.2
  ti_NoTie : ∀ p ∈ ti_NoTie, PySem.W.kitOne K (.ref (He.ga K (Str.ofString p.1))) (.ref (He.ga K "NoTie")) = some p.2
  ti_Off : ∀ p ∈ ti_Off, PySem.W.kitOne K (.ref (He.ga K (Str.ofString p.1))) (.ref (He.ga K "Off")) = some p.2
  ti_Tight : ∀ p ∈ ti_Tight, PySem.W.kitOne K (.ref (He.ga K (Str.ofString p.1))) (.ref (He.ga K "Tight")) = some p.2
  ti_Twice : ∀ p ∈ ti_Twice, PySem.W.kitOne K (.ref (He.ga K (Str.ofString p.1))) (.ref (He.ga K "Twice")) = some p.2
  ti_ValueError : ∀ p ∈ ti_ValueError, PySem.W.kitOne K (.ref (He.ga K (Str.ofString p.1))) (.type "ValueError") = some p.2
  f_kept_gaps : ∀ c ∈ ["Thing"], FldOk K c "kept_gaps"
  f_kept_parts : ∀ c ∈ ["Thing"], FldOk K c "kept_parts"
  f_kept_ways : ∀ c ∈ ["Thing"], FldOk K c "kept_ways"
  f_sizes : ∀ c ∈ ["Thing"], FldOk K c "sizes"
  me_Thing_add_gap : Cls K (He.ga K "Thing") ∧ Meth K (He.ga K "Thing") "add_gap" (He.ma K (He.ga K "Thing") "add_gap")
  me_Thing_add_part : Cls K (He.ga K "Thing") ∧ Meth K (He.ga K "Thing") "add_part" (He.ma K (He.ga K "Thing") "add_part")
  me_Thing_gaps : Cls K (He.ga K "Thing") ∧ Meth K (He.ga K "Thing") "gaps" (He.ma K (He.ga K "Thing") "gaps")
  me_Thing_parts : Cls K (He.ga K "Thing") ∧ Meth K (He.ga K "Thing") "parts" (He.ma K (He.ga K "Thing") "parts")
  mk_Thing : L2.Mk K (He.ga K "Thing") (He.ma K (He.ga K "Thing") "__init__")
  m_divisor : mg "divisor" = some (.ref (He.ga K "divisor"))
  m_under : mg "under" = some (.ref (He.ga K "under"))
  m_is_whole : mg "is_whole" = some (.ref (He.ga K "is_whole"))
  m_is_name : mg "is_name" = some (.ref (He.ga K "is_name"))
  m_is_fraction : mg "is_fraction" = some (.ref (He.ga K "is_fraction"))
  m_has_ends : mg "has_ends" = some (.ref (He.ga K "has_ends"))
  m_is_part : mg "is_part" = some (.ref (He.ga K "is_part"))
  m_is_gap : mg "is_gap" = some (.ref (He.ga K "is_gap"))
  m_way_between : mg "way_between" = some (.ref (He.ga K "way_between"))
  m__law_cell : mg "_law_cell" = some (.ref (He.ga K "_law_cell"))
  m__law_signed : mg "_law_signed" = some (.ref (He.ga K "_law_signed"))
  m__law_low : mg "_law_low" = some (.ref (He.ga K "_law_low"))
  m__law_name : mg "_law_name" = some (.ref (He.ga K "_law_name"))
  m__law_part : mg "_law_part" = some (.ref (He.ga K "_law_part"))
  m__law_gap : mg "_law_gap" = some (.ref (He.ga K "_law_gap"))
  m__law_with : mg "_law_with" = some (.ref (He.ga K "_law_with"))
  m__law_spoiled : mg "_law_spoiled" = some (.ref (He.ga K "_law_spoiled"))
  m__law_joined : mg "_law_joined" = some (.ref (He.ga K "_law_joined"))
  m__law_due : mg "_law_due" = some (.ref (He.ga K "_law_due"))
  m__law_made : mg "_law_made" = some (.ref (He.ga K "_law_made"))
  m__law_drawn : mg "_law_drawn" = some (.ref (He.ga K "_law_drawn"))
  m_law : mg "law" = some (.ref (He.ga K "law"))
section
variable {P : Program} {w : World} {K : PySem.W.Frag} {mg : Str → Option Value} {base : Heap}
theorem sc_divisor : FnScope ["one", "other"] ["one", "other"] (defScope s_divisor) := ⟨rfl, rfl, rfl, by decide +kernel, rfl, by decide +kernel, by decide +kernel⟩
theorem ok_divisor (C : C K mg) {fd : FuncData} (F : FunD K "divisor" "divisor" (defArgs s_divisor) (defBody s_divisor) (defScope s_divisor) [] [] (He.fAd K ("divisor", none)) fd) : FnOk P w K mg base (CX P w) 1 (He.fAd K ("divisor", none)) fd ["one", "other"] (liftSp K sp_divisor) := by
  refine DL.fn_ok (t := t_divisor) F sc_divisor (fun ds A Q E h => len_divisor h) (fun cdv A outer s H E Z0 wd hr tk => ?_) (fun ds A Q E h => rd_divisor h)
  have hu := uA hr
  have hu65 := uC hr
  have hu64 := uB hr
  exact (qss_cons (qs_set (i := 0) sc_divisor.nd rfl (.inl rfl) (qe_callB lift_abs call_abs (by rfl) C.n_abs (by decide +kernel) (qa_cons (qe_var (pv 0)) qa_nil)))
  (qss_cons (qs_set (i := 1) sc_divisor.nd rfl (.inl rfl) (qe_callB lift_abs call_abs (by rfl) C.n_abs (by decide +kernel) (qa_cons (qe_var (pv 1)) qa_nil)))
  (qss_cons (qs_while (passes_of rfl) (qt_cmp lift_cmp op_gt (qe_var (pv 1)) qe_int (nomark _))
  (qss_one (qs_par (i := 0) (j := 1) rfl sc_divisor.nd rfl rfl (by decide) rfl rfl (qa_cons (qe_var (pv 1)) (qa_cons (qe_mod (qe_var (pv 0)) (qe_var (pv 1))) qa_nil)) (by rfl))))
  (qss_one (qs_ret (qe_var (pv 0)))))))
theorem df_divisor (C : C K mg) : DFn P w K mg base 1 "divisor" sp_divisor [] := by
  obtain ⟨fd, F⟩ := C.d_divisor
  exact dfn (ok_divisor C F) C.m_divisor F.kp (F.bindsN fun _ _ _ _ _ _ us hl => match us, hl with | [_, _], _ => rfl)
theorem sc_under : FnScope ["one", "other"] ["one", "other"] (defScope s_under) := ⟨rfl, rfl, rfl, by decide +kernel, rfl, by decide +kernel, by decide +kernel⟩
theorem ok_under (C : C K mg) {fd : FuncData} (F : FunD K "under" "under" (defArgs s_under) (defBody s_under) (defScope s_under) [] [] (He.fAd K ("under", none)) fd) : FnOk P w K mg base (CX P w) 1 (He.fAd K ("under", none)) fd ["one", "other"] (liftSp K sp_under) := by
  refine DL.fn_ok (t := t_under) F sc_under (fun ds A Q E h => len_under h) (fun cdv A outer s H E Z0 wd hr tk => ?_) (fun ds A Q E h => rd_under h)
  have hu := uA hr
  have hu65 := uC hr
  have hu64 := uB hr
  exact (qss_one (qs_ret (qe_cmp lift_cmp op_lt (qe_mul (qe_ix hu (qe_var (pv 0)) qe_int (fun _ _ => rfl)) (qe_ix hu (qe_var (pv 1)) qe_int (fun _ _ => rfl))) (qe_mul (qe_ix hu (qe_var (pv 1)) qe_int (fun _ _ => rfl)) (qe_ix hu (qe_var (pv 0)) qe_int (fun _ _ => rfl))) (nomark _))))
theorem df_under (C : C K mg) : DFn P w K mg base 1 "under" sp_under [] := by
  obtain ⟨fd, F⟩ := C.d_under
  exact dfn (ok_under C F) C.m_under F.kp (F.bindsN fun _ _ _ _ _ _ us hl => match us, hl with | [_, _], _ => rfl)
theorem sc_is_whole : FnScope ["thing"] ["thing"] (defScope s_is_whole) := ⟨rfl, rfl, rfl, by decide +kernel, rfl, by decide +kernel, by decide +kernel⟩
theorem ok_is_whole (C : C K mg) {fd : FuncData} (F : FunD K "is_whole" "is_whole" (defArgs s_is_whole) (defBody s_is_whole) (defScope s_is_whole) [] [] (He.fAd K ("is_whole", none)) fd) : FnOk P w K mg base (CX P w) 1 (He.fAd K ("is_whole", none)) fd ["thing"] (liftSp K sp_is_whole) := by
  refine DL.fn_ok (t := t_is_whole) F sc_is_whole (fun ds A Q E h => len_is_whole h) (fun cdv A outer s H E Z0 wd hr tk => ?_) (fun ds A Q E h => rd_is_whole h)
  have hu := uA hr
  have hu65 := uC hr
  have hu64 := uB hr
  exact (qss_one (qs_ret (qe_and (qe_isi (T := "int") (by decide) (by rfl) C.n_isinstance (by rfl) C.n_int (by decide +kernel) (by decide) (by decide) (qe_var (pv 0))) (qe_one (qe_not (qe_isi (T := "bool") (by decide) (by rfl) C.n_isinstance (by rfl) C.n_bool (by decide +kernel) (by decide) (by decide) (qe_var (pv 0))))))))
theorem df_is_whole (C : C K mg) : DFn P w K mg base 1 "is_whole" sp_is_whole [] := by
  obtain ⟨fd, F⟩ := C.d_is_whole
  exact dfn (ok_is_whole C F) C.m_is_whole F.kp (F.bindsN fun _ _ _ _ _ _ us hl => match us, hl with | [_], _ => rfl)
theorem sc_is_name : FnScope ["thing", "sign"] ["thing"] (defScope s_is_name) := ⟨rfl, rfl, rfl, by decide +kernel, rfl, by decide +kernel, by decide +kernel⟩
theorem ok_is_name (C : C K mg) {fd : FuncData} (F : FunD K "is_name" "is_name" (defArgs s_is_name) (defBody s_is_name) (defScope s_is_name) [] [] (He.fAd K ("is_name", none)) fd) : FnOk P w K mg base (CX P w) 1 (He.fAd K ("is_name", none)) fd ["thing"] (liftSp K sp_is_name) := by
  refine DL.fn_ok (t := t_is_name) F sc_is_name (fun ds A Q E h => len_is_name h) (fun cdv A outer s H E Z0 wd hr tk => ?_) (fun ds A Q E h => rd_is_name h)
  have hu := uA hr
  have hu65 := uC hr
  have hu64 := uB hr
  exact (qss_cons (qs_if (qt_w (qw_or (qt_not (qt_val (qe_isi (T := "str") (by decide) (by rfl) C.n_isinstance (by rfl) C.n_str (by decide +kernel) (by decide) (by decide) (qe_var (pv 0))))) (qw_or (qt_cmp lift_cmp op_lt (qe_callB lift_len call_lenAll (by rfl) C.n_len (by decide +kernel) (qa_cons (qe_var (pv 0)) qa_nil)) qe_int (nomark _)) (qw_or1 (qt_cmp lift_cmp op_gt (qe_callB lift_len call_lenAll (by rfl) C.n_len (by decide +kernel) (qa_cons (qe_var (pv 0)) qa_nil)) qe_int (nomark _))))))
  (qss_one (qs_ret qe_bl))
  qss_nil)
  (qss_cons (qs_for (passes_of rfl) rfl (qi_str (qe_var (pv 0))) (qg_name (i := 1) sc_is_name.nd rfl (.inl rfl))
  (qss_one (qs_if (qt_cmp lift_notin (op_notInAll hu65) (qe_var (pv 1)) (qe_gstr (C.s_LETTERS) (by rfl)) (by rfl))
  (qss_one (qs_ret qe_bl))
  qss_nil)))
  (qss_one (qs_ret qe_bl))))
theorem df_is_name (C : C K mg) : DFn P w K mg base 1 "is_name" sp_is_name [] := by
  obtain ⟨fd, F⟩ := C.d_is_name
  exact dfn (ok_is_name C F) C.m_is_name F.kp (F.bindsN fun _ _ _ _ _ _ us hl => match us, hl with | [_], _ => rfl)
theorem sc_is_fraction : FnScope ["thing"] ["thing"] (defScope s_is_fraction) := ⟨rfl, rfl, rfl, by decide +kernel, rfl, by decide +kernel, by decide +kernel⟩
theorem ok_is_fraction (C : C K mg) {fd : FuncData} (F : FunD K "is_fraction" "is_fraction" (defArgs s_is_fraction) (defBody s_is_fraction) (defScope s_is_fraction) [] [] (He.fAd K ("is_fraction", none)) fd) : FnOk P w K mg base (CX P w) 2 (He.fAd K ("is_fraction", none)) fd ["thing"] (liftSp K sp_is_fraction) := by
  have F_divisor := @df_divisor P w K mg base C
  have F_is_whole := @df_is_whole P w K mg base C
  refine DL.fn_ok (t := t_is_fraction) F sc_is_fraction (fun ds A Q E h => len_is_fraction h) (fun cdv A outer s H E Z0 wd hr tk => ?_) (fun ds A Q E h => rd_is_fraction h)
  have hu := uA hr
  have hu65 := uC hr
  have hu64 := uB hr
  exact (qss_cons (qs_if (qt_w (qw_or (qt_not (qt_val (qe_isi (T := "tuple") (by decide) (by rfl) C.n_isinstance (by rfl) C.n_tuple (by decide +kernel) (by decide) (by decide) (qe_var (pv 0))))) (qw_or1 (qt_cmp lift_ne (op_neD hu64) (qe_callB lift_len call_lenAll (by rfl) C.n_len (by decide +kernel) (qa_cons (qe_var (pv 0)) qa_nil)) qe_int (nomark _)))))
  (qss_one (qs_ret qe_bl))
  qss_nil)
  (qss_cons (qs_if (qt_w (qw_or (qt_not (qt_val (qe_call F_is_whole hr (by decide) (by rfl) tk (qa_cons (qe_ix hu (qe_var (pv 0)) qe_int (fun _ _ => rfl)) qa_nil)))) (qw_or (qt_not (qt_val (qe_call F_is_whole hr (by decide) (by rfl) tk (qa_cons (qe_ix hu (qe_var (pv 0)) qe_int (fun _ _ => rfl)) qa_nil)))) (qw_or1 (qt_cmp lift_cmp op_lt (qe_ix hu (qe_var (pv 0)) qe_int (fun _ _ => rfl)) qe_int (nomark _))))))
  (qss_one (qs_ret qe_bl))
  qss_nil)
  (qss_one (qs_ret (qe_cmp lift_eq (op_eqD hu64) (qe_call F_divisor hr (by decide) (by rfl) tk (qa_cons (qe_ix hu (qe_var (pv 0)) qe_int (fun _ _ => rfl)) (qa_cons (qe_ix hu (qe_var (pv 0)) qe_int (fun _ _ => rfl)) qa_nil))) qe_int (nomark _))))))
theorem df_is_fraction (C : C K mg) : DFn P w K mg base 2 "is_fraction" sp_is_fraction [] := by
  obtain ⟨fd, F⟩ := C.d_is_fraction
  exact dfn (ok_is_fraction C F) C.m_is_fraction F.kp (F.bindsN fun _ _ _ _ _ _ us hl => match us, hl with | [_], _ => rfl)
theorem sc_has_ends : FnScope ["thing", "many", "word"] ["thing", "many"] (defScope s_has_ends) := ⟨rfl, rfl, rfl, by decide +kernel, rfl, by decide +kernel, by decide +kernel⟩
theorem ok_has_ends (C : C K mg) {fd : FuncData} (F : FunD K "has_ends" "has_ends" (defArgs s_has_ends) (defBody s_has_ends) (defScope s_has_ends) [] [] (He.fAd K ("has_ends", none)) fd) : FnOk P w K mg base (CX P w) 2 (He.fAd K ("has_ends", none)) fd ["thing", "many"] (liftSp K sp_has_ends) := by
  have F_is_name := @df_is_name P w K mg base C
  refine TF.fn_okX (t := t_has_ends) F sc_has_ends (fun ds A Q E h => len_has_ends h) (fun cdv A outer s H E Z0 wd hr tk => ?_) (fun ds A Q E h => rd_has_ends h)
  have hu := uA hr
  have hu65 := uC hr
  have hu64 := uB hr
  exact (qss_cons (qs_if (qt_w (qw_or (qt_not (qt_val (qe_isi (T := "tuple") (by decide) (by rfl) C.n_isinstance (by rfl) C.n_tuple (by decide +kernel) (by decide) (by decide) (qe_var (pv 0))))) (qw_or1 (qt_cmp lift_ne (op_neD hu64) (qe_callB lift_len call_lenAll (by rfl) C.n_len (by decide +kernel) (qa_cons (qe_var (pv 0)) qa_nil)) (qe_var (pv 1)) (nomark _)))))
  (qss_one (qs_ret qe_bl))
  qss_nil)
  (qss_cons (qs_for (passes_of rfl) rfl (qi_seq (qe_sl mkF_ok (qe_var (pv 0)) qo_none (qo_some qe_int))) (qg_name (i := 2) sc_has_ends.nd rfl (.inl rfl))
  (qss_one (qs_if (qt_not (qt_val (qe_call F_is_name hr (by decide) (by rfl) tk (qa_cons (qe_var (pv 2)) qa_nil))))
  (qss_one (qs_ret qe_bl))
  qss_nil)))
  (qss_one (qs_ret (qe_cmp lift_ne (op_neD hu64) (qe_ix hu (qe_var (pv 0)) qe_int (fun _ _ => rfl)) (qe_ix hu (qe_var (pv 0)) qe_int (fun _ _ => rfl)) (nomark _))))))
theorem df_has_ends (C : C K mg) : DFn P w K mg base 2 "has_ends" sp_has_ends [] := by
  obtain ⟨fd, F⟩ := C.d_has_ends
  exact dfn (ok_has_ends C F) C.m_has_ends F.kp (F.bindsN fun _ _ _ _ _ _ us hl => match us, hl with | [_, _], _ => rfl)
theorem sc_is_part : FnScope ["thing"] ["thing"] (defScope s_is_part) := ⟨rfl, rfl, rfl, by decide +kernel, rfl, by decide +kernel, by decide +kernel⟩
theorem ok_is_part (C : C K mg) {fd : FuncData} (F : FunD K "is_part" "is_part" (defArgs s_is_part) (defBody s_is_part) (defScope s_is_part) [] [] (He.fAd K ("is_part", none)) fd) : FnOk P w K mg base (CX P w) 3 (He.fAd K ("is_part", none)) fd ["thing"] (liftSp K sp_is_part) := by
  have F_has_ends := @df_has_ends P w K mg base C
  have F_is_fraction := @df_is_fraction P w K mg base C
  have F_is_whole := @df_is_whole P w K mg base C
  refine TF.fn_okX (t := t_is_part) F sc_is_part (fun ds A Q E h => len_is_part h) (fun cdv A outer s H E Z0 wd hr tk => ?_) (fun ds A Q E h => rd_is_part h)
  have hu := uA hr
  have hu65 := uC hr
  have hu64 := uB hr
  exact (qss_cons (qs_if (qt_w (qw_or (qt_not (qt_val (qe_call F_has_ends hr (by decide) (by rfl) tk (qa_cons (qe_var (pv 0)) (qa_cons qe_int qa_nil))))) (qw_or (qt_not (qt_val (qe_call F_is_fraction hr (by decide) (by rfl) tk (qa_cons (qe_ix hu (qe_var (pv 0)) qe_int (fun _ _ => rfl)) qa_nil)))) (qw_or1 (qt_not (qt_val (qe_call F_is_fraction hr (by decide) (by rfl) tk (qa_cons (qe_ix hu (qe_var (pv 0)) qe_int (fun _ _ => rfl)) qa_nil))))))))
  (qss_one (qs_ret qe_bl))
  qss_nil)
  (qss_one (qs_ret (qe_and (qe_cmp lift_cmp op_ge (qe_ix hu (qe_ix hu (qe_var (pv 0)) qe_int (fun _ _ => rfl)) qe_int (fun _ _ => rfl)) qe_int (nomark _)) (qe_and (qe_call F_is_whole hr (by decide) (by rfl) tk (qa_cons (qe_ix hu (qe_var (pv 0)) qe_int (fun _ _ => rfl)) qa_nil)) (qe_one (qe_cmp lift_cmp op_gt (qe_ix hu (qe_var (pv 0)) qe_int (fun _ _ => rfl)) qe_int (nomark _))))))))
theorem df_is_part (C : C K mg) : DFn P w K mg base 3 "is_part" sp_is_part [] := by
  obtain ⟨fd, F⟩ := C.d_is_part
  exact dfn (ok_is_part C F) C.m_is_part F.kp (F.bindsN fun _ _ _ _ _ _ us hl => match us, hl with | [_], _ => rfl)
theorem sc_is_gap : FnScope ["thing"] ["thing"] (defScope s_is_gap) := ⟨rfl, rfl, rfl, by decide +kernel, rfl, by decide +kernel, by decide +kernel⟩
theorem ok_is_gap (C : C K mg) {fd : FuncData} (F : FunD K "is_gap" "is_gap" (defArgs s_is_gap) (defBody s_is_gap) (defScope s_is_gap) [] [] (He.fAd K ("is_gap", none)) fd) : FnOk P w K mg base (CX P w) 3 (He.fAd K ("is_gap", none)) fd ["thing"] (liftSp K sp_is_gap) := by
  have F_has_ends := @df_has_ends P w K mg base C
  have F_is_fraction := @df_is_fraction P w K mg base C
  have F_under := @df_under P w K mg base C
  refine TF.fn_okX (t := t_is_gap) F sc_is_gap (fun ds A Q E h => len_is_gap h) (fun cdv A outer s H E Z0 wd hr tk => ?_) (fun ds A Q E h => rd_is_gap h)
  have hu := uA hr
  have hu65 := uC hr
  have hu64 := uB hr
  exact (qss_cons (qs_if (qt_w (qw_or (qt_not (qt_val (qe_call F_has_ends hr (by decide) (by rfl) tk (qa_cons (qe_var (pv 0)) (qa_cons qe_int qa_nil))))) (qw_or (qt_not (qt_val (qe_call F_is_fraction hr (by decide) (by rfl) tk (qa_cons (qe_ix hu (qe_var (pv 0)) qe_int (fun _ _ => rfl)) qa_nil)))) (qw_or1 (qt_not (qt_val (qe_call F_is_fraction hr (by decide) (by rfl) tk (qa_cons (qe_ix hu (qe_var (pv 0)) qe_int (fun _ _ => rfl)) qa_nil))))))))
  (qss_one (qs_ret qe_bl))
  qss_nil)
  (qss_one (qs_ret (qe_not (qe_call F_under hr (by decide) (by rfl) tk (qa_cons (qe_ix hu (qe_var (pv 0)) qe_int (fun _ _ => rfl)) (qa_cons (qe_ix hu (qe_var (pv 0)) qe_int (fun _ _ => rfl)) qa_nil)))))))
theorem df_is_gap (C : C K mg) : DFn P w K mg base 3 "is_gap" sp_is_gap [] := by
  obtain ⟨fd, F⟩ := C.d_is_gap
  exact dfn (ok_is_gap C F) C.m_is_gap F.kp (F.bindsN fun _ _ _ _ _ _ us hl => match us, hl with | [_], _ => rfl)
theorem sc_way_between : FnScope ["parts", "one", "other", "ways", "queue", "here", "name", "start", "end", "size", "most", "weight"] ["parts", "one", "other"] (defScope s_way_between) := ⟨rfl, rfl, rfl, by decide +kernel, rfl, by decide +kernel, by decide +kernel⟩
theorem ok_way_between (C : C K mg) {fd : FuncData} (F : FunD K "way_between" "way_between" (defArgs s_way_between) (defBody s_way_between) (defScope s_way_between) [] [] (He.fAd K ("way_between", none)) fd) : FnOk P w K mg base (CX P w) 1 (He.fAd K ("way_between", none)) fd ["parts", "one", "other"] (liftSp K sp_way_between) := by
  refine TF.fn_okX (t := t_way_between) F sc_way_between (fun ds A Q E h => len_way_between h) (fun cdv A outer s H E Z0 wd hr tk => ?_) (fun ds A Q E h => rd_way_between h)
  have hu := uA hr
  have hu65 := uC hr
  have hu64 := uB hr
  exact (qss_cons (qs_set (i := 3) sc_way_between.nd rfl (.inl rfl) (qe_dic1 (qe_var (pv 1)) (qe_lst mkF_ok qa_nil)))
  (qss_cons (qs_set (i := 4) sc_way_between.nd rfl (.inl rfl) (qe_lst mkO_ok (qa_cons (qe_var (pv 1)) qa_nil)))
  (qss_cons (qs_while (passes_of rfl) (qt_cmp lift_cmp op_gt (qe_callB lift_len call_lenAll (by rfl) C.n_len (by decide +kernel) (qa_cons (qe_var (pv 4)) qa_nil)) qe_int (nomark _))
  (qss_cons (qs_set (i := 5) sc_way_between.nd rfl (.inl rfl) (qe_bm lift_popI PySem.F.plainAttrs_list PySem.F.slot_list_pop PySem.F.type_list_pop mt_popAt (qe_var (pv 4)) (qa_cons qe_int qa_nil)))
  (qss_one (qs_for (passes_of rfl) rfl (qi_seq (qe_var (pv 0))) (qg_tup rfl (qgs_cons (qg_name (i := 6) sc_way_between.nd rfl (.inl rfl)) (qgs_cons (qg_name (i := 7) sc_way_between.nd rfl (.inl rfl)) (qgs_cons (qg_name (i := 8) sc_way_between.nd rfl (.inl rfl)) (qgs_cons (qg_name (i := 9) sc_way_between.nd rfl (.inl rfl)) (qgs_cons (qg_name (i := 10) sc_way_between.nd rfl (.inl rfl)) (qgs_cons (qg_name (i := 11) sc_way_between.nd rfl (.inl rfl)) qgs_nil)))))))
  (qss_one (qs_if (qt_w (qw_and (qt_cmp lift_eq (op_eqD hu64) (qe_var (pv 7)) (qe_var (pv 5)) (nomark _)) (qw_and1 (qt_cmp lift_notin (op_notInAll hu65) (qe_var (pv 8)) (qe_var (pv 3)) (by rfl)))))
  (qss_cons (qs_asg (qe_add mkF_ok (qe_ix hu (qe_var (pv 3)) (qe_var (pv 5)) (fun _ _ => rfl)) (qe_lst mkF_ok (qa_cons (qe_tup (qa_cons (qe_var (pv 6)) (qa_cons qe_bl qa_nil))) qa_nil))) (qg_sub hu (qe_var (pv 3)) (qe_var (pv 8))))
  (qss_one (qs_expr (qe_bm lift_app PySem.F.plainAttrs_list PySem.F.slot_list_append PySem.F.type_list_append mt_append (qe_var (pv 4)) (qa_cons (qe_var (pv 8)) qa_nil)))))
  (qss_one (qs_if (qt_w (qw_and (qt_cmp lift_eq (op_eqD hu64) (qe_var (pv 8)) (qe_var (pv 5)) (nomark _)) (qw_and1 (qt_cmp lift_notin (op_notInAll hu65) (qe_var (pv 7)) (qe_var (pv 3)) (by rfl)))))
  (qss_cons (qs_asg (qe_add mkF_ok (qe_ix hu (qe_var (pv 3)) (qe_var (pv 5)) (fun _ _ => rfl)) (qe_lst mkF_ok (qa_cons (qe_tup (qa_cons (qe_var (pv 6)) (qa_cons qe_bl qa_nil))) qa_nil))) (qg_sub hu (qe_var (pv 3)) (qe_var (pv 7))))
  (qss_one (qs_expr (qe_bm lift_app PySem.F.plainAttrs_list PySem.F.slot_list_append PySem.F.type_list_append mt_append (qe_var (pv 4)) (qa_cons (qe_var (pv 7)) qa_nil)))))
  qss_nil))))))))
  (qss_fz (i := 3)
  (qss_one (qs_ret (qe_dget hu (qe_var (pv 3)) (qe_var (pv 2)))))))))
theorem df_way_between (C : C K mg) : DFn P w K mg base 1 "way_between" sp_way_between [] := by
  obtain ⟨fd, F⟩ := C.d_way_between
  exact dfn (ok_way_between C F) C.m_way_between F.kp (F.bindsN fun _ _ _ _ _ _ us hl => match us, hl with | [_, _, _], _ => rfl)
theorem sc_Thing_add_part : FnScope ["self", "part"] ["self", "part"] (defScope s_Thing_add_part) := ⟨rfl, rfl, rfl, by decide +kernel, rfl, by decide +kernel, by decide +kernel⟩
theorem ok_Thing_add_part (C : C K mg) {fd : FuncData} (F : FunD K "add_part" "Thing.add_part" (defArgs s_Thing_add_part) (defBody s_Thing_add_part) (defScope s_Thing_add_part) [] [] (He.fAd K ("Thing", some "add_part")) fd) : FnOk P w K mg base (CX P w) 4 (He.fAd K ("Thing", some "add_part")) fd ["self", "part"] (liftSp K sp_Thing_add_part) := by
  have F_is_part := @df_is_part P w K mg base C
  have F_way_between := @df_way_between P w K mg base C
  refine TF.fn_okX (t := t_Thing_add_part) F sc_Thing_add_part (fun ds A Q E h => len_Thing_add_part h) (fun cdv A outer s H E Z0 wd hr tk => ?_) (fun ds A Q E h => rd_Thing_add_part h)
  have hu := uA hr
  have hu65 := uC hr
  have hu64 := uB hr
  exact (qss_cons (qs_if (qt_not (qt_val (qe_call F_is_part hr (by decide) (by rfl) tk (qa_cons (qe_var (pv 1)) qa_nil))))
  (qss_one (qs_raiseC (c := "NoPart") C.x_NoPart C.g_NoPart rfl tk (by rfl) (by decide)))
  qss_nil)
  (qss_cons (qs_if (qt_cmp lift_in (op_inAll hu65) (qe_ix hu (qe_var (pv 1)) qe_int (fun _ _ => rfl)) (qe_fld C.f_sizes (qe_var (pv 0)) (by rfl)) (by rfl))
  (qss_one (qs_raiseC (c := "Twice") C.x_Twice C.g_Twice rfl tk (by rfl) (by decide)))
  qss_nil)
  (qss_cons (qs_if (qt_cmp lift_isnot op_isnotAll (qe_call F_way_between hr (by decide) (by rfl) tk (qa_cons (qe_fld C.f_kept_parts (qe_var (pv 0)) (by rfl)) (qa_cons (qe_ix hu (qe_var (pv 1)) qe_int (fun _ _ => rfl)) (qa_cons (qe_ix hu (qe_var (pv 1)) qe_int (fun _ _ => rfl)) qa_nil)))) qe_non (nomark _))
  (qss_one (qs_raiseC (c := "InRing") C.x_InRing C.g_InRing rfl tk (by rfl) (by decide)))
  qss_nil)
  (qss_cons (qs_expr (qe_bm lift_app PySem.F.plainAttrs_list PySem.F.slot_list_append PySem.F.type_list_append mt_append (qe_fld C.f_kept_parts (qe_var (pv 0)) (by rfl)) (qa_cons (qe_var (pv 1)) qa_nil)))
  (qss_one (qs_asg (qe_ix hu (qe_var (pv 1)) qe_int (fun _ _ => rfl)) (qg_sub hu (qe_fld C.f_sizes (qe_var (pv 0)) (by rfl)) (qe_ix hu (qe_var (pv 1)) qe_int (fun _ _ => rfl)))))))))
theorem dmt_add_part (C : C K mg) : ∀ p ∈ mt_add_part, DMeth P w K mg base 4 p.1 "add_part" p.2 := by
  exact (List.forall_mem_cons.mpr ⟨by
    obtain ⟨fd, F⟩ := C.d_Thing_add_part
    exact ⟨⟨_, fd, ["self", "part"], C.me_Thing_add_part.1, C.me_Thing_add_part.2, fnok_mono (ok_Thing_add_part C F) (by decide), F.bindsN fun _ _ _ _ _ _ us hl => match us, hl with | [_, _], _ => rfl⟩⟩, (fun _ h => nomatch h)⟩)
theorem sc_Thing_add_gap : FnScope ["self", "gap", "found"] ["self", "gap"] (defScope s_Thing_add_gap) := ⟨rfl, rfl, rfl, by decide +kernel, rfl, by decide +kernel, by decide +kernel⟩
theorem ok_Thing_add_gap (C : C K mg) {fd : FuncData} (F : FunD K "add_gap" "Thing.add_gap" (defArgs s_Thing_add_gap) (defBody s_Thing_add_gap) (defScope s_Thing_add_gap) [] [] (He.fAd K ("Thing", some "add_gap")) fd) : FnOk P w K mg base (CX P w) 4 (He.fAd K ("Thing", some "add_gap")) fd ["self", "gap"] (liftSp K sp_Thing_add_gap) := by
  have F_is_gap := @df_is_gap P w K mg base C
  have F_way_between := @df_way_between P w K mg base C
  refine TF.fn_okX (t := t_Thing_add_gap) F sc_Thing_add_gap (fun ds A Q E h => len_Thing_add_gap h) (fun cdv A outer s H E Z0 wd hr tk => ?_) (fun ds A Q E h => rd_Thing_add_gap h)
  have hu := uA hr
  have hu65 := uC hr
  have hu64 := uB hr
  exact (qss_cons (qs_if (qt_not (qt_val (qe_call F_is_gap hr (by decide) (by rfl) tk (qa_cons (qe_var (pv 1)) qa_nil))))
  (qss_one (qs_raiseC (c := "NoGap") C.x_NoGap C.g_NoGap rfl tk (by rfl) (by decide)))
  qss_nil)
  (qss_cons (qs_if (qt_cmp lift_in (op_inAll hu65) (qe_ix hu (qe_var (pv 1)) qe_int (fun _ _ => rfl)) (qe_fld C.f_kept_ways (qe_var (pv 0)) (by rfl)) (by rfl))
  (qss_one (qs_raiseC (c := "Twice") C.x_Twice C.g_Twice rfl tk (by rfl) (by decide)))
  qss_nil)
  (qss_cons (qs_set (i := 2) sc_Thing_add_gap.nd rfl (.inl rfl) (qe_call F_way_between hr (by decide) (by rfl) tk (qa_cons (qe_fld C.f_kept_parts (qe_var (pv 0)) (by rfl)) (qa_cons (qe_ix hu (qe_var (pv 1)) qe_int (fun _ _ => rfl)) (qa_cons (qe_ix hu (qe_var (pv 1)) qe_int (fun _ _ => rfl)) qa_nil)))))
  (qss_cons (qs_if (qt_cmp lift_is op_isAll (qe_var (pv 2)) qe_non (nomark _))
  (qss_one (qs_raiseC (c := "Apart") C.x_Apart C.g_Apart rfl tk (by rfl) (by decide)))
  qss_nil)
  (qss_cons (qs_expr (qe_bm lift_app PySem.F.plainAttrs_list PySem.F.slot_list_append PySem.F.type_list_append mt_append (qe_fld C.f_kept_gaps (qe_var (pv 0)) (by rfl)) (qa_cons (qe_var (pv 1)) qa_nil)))
  (qss_one (qs_asg (qe_var (pv 2)) (qg_sub hu (qe_fld C.f_kept_ways (qe_var (pv 0)) (by rfl)) (qe_ix hu (qe_var (pv 1)) qe_int (fun _ _ => rfl))))))))))
theorem dmt_add_gap (C : C K mg) : ∀ p ∈ mt_add_gap, DMeth P w K mg base 4 p.1 "add_gap" p.2 := by
  exact (List.forall_mem_cons.mpr ⟨by
    obtain ⟨fd, F⟩ := C.d_Thing_add_gap
    exact ⟨⟨_, fd, ["self", "gap"], C.me_Thing_add_gap.1, C.me_Thing_add_gap.2, fnok_mono (ok_Thing_add_gap C F) (by decide), F.bindsN fun _ _ _ _ _ _ us hl => match us, hl with | [_, _], _ => rfl⟩⟩, (fun _ h => nomatch h)⟩)
theorem sc_Thing___init__ : FnScope ["self", "parts", "gaps", "part", "gap"] ["self", "parts", "gaps"] (defScope s_Thing___init__) := ⟨rfl, rfl, rfl, by decide +kernel, rfl, by decide +kernel, by decide +kernel⟩
theorem ok_Thing___init__ (C : C K mg) {fd : FuncData} (F : FunD K "__init__" "Thing.__init__" (defArgs s_Thing___init__) (defBody s_Thing___init__) (defScope s_Thing___init__) [] [] (He.fAd K ("Thing", some "__init__")) fd) : FnOk P w K mg base (CX P w) 5 (He.fAd K ("Thing", some "__init__")) fd ["self", "parts", "gaps"] (liftSp K sp_Thing___init__) := by
  have MT_add_gap := @dmt_add_gap P w K mg base C
  have MT_add_part := @dmt_add_part P w K mg base C
  refine TF.fn_okX (t := t_Thing___init__) F sc_Thing___init__ (fun ds A Q E h => len_Thing___init__ h) (fun cdv A outer s H E Z0 wd hr tk => ?_) (fun ds A Q E h => rd_Thing___init__ h)
  have hu := uA hr
  have hu65 := uC hr
  have hu64 := uB hr
  exact (qss_cons (qs_fld C.f_kept_parts (qe_var (pv 0)) (qe_lst mkO_ok qa_nil) (by rfl))
  (qss_cons (qs_fld C.f_kept_gaps (qe_var (pv 0)) (qe_lst mkO_ok qa_nil) (by rfl))
  (qss_cons (qs_fld C.f_sizes (qe_var (pv 0)) qe_dic0 (by rfl))
  (qss_cons (qs_fld C.f_kept_ways (qe_var (pv 0)) qe_dic0 (by rfl))
  (qss_cons (qs_for (passes_of rfl) rfl (qi_seq (qe_var (pv 1))) (qg_name (i := 3) sc_Thing___init__.nd rfl (.inl rfl))
  (qss_one (qs_expr (qe_mth (m := "add_part") MT_add_part hr (by decide) tk (qe_var (pv 0)) (qa_cons (qe_var (pv 3)) qa_nil)))))
  (qss_one (qs_for (passes_of rfl) rfl (qi_seq (qe_var (pv 2))) (qg_name (i := 4) sc_Thing___init__.nd rfl (.inl rfl))
  (qss_one (qs_expr (qe_mth (m := "add_gap") MT_add_gap hr (by decide) tk (qe_var (pv 0)) (qa_cons (qe_var (pv 4)) qa_nil)))))))))))
theorem mkc_Thing (C : C K mg) : DMake P w K mg base 5 "Thing" sp_Thing___init__ := by
  obtain ⟨fd, F⟩ := C.d_Thing___init__
  exact ⟨⟨_, fd, ["self", "parts", "gaps"], C.mk_Thing, ok_Thing___init__ C F, C.g_Thing, (F.bindsN fun _ _ _ _ _ _ us hl => match us, hl with | [_, _, _], _ => rfl)⟩⟩
theorem sc_Thing_parts : FnScope ["self"] ["self"] (defScope s_Thing_parts) := ⟨rfl, rfl, rfl, by decide +kernel, rfl, by decide +kernel, by decide +kernel⟩
theorem ok_Thing_parts (C : C K mg) {fd : FuncData} (F : FunD K "parts" "Thing.parts" (defArgs s_Thing_parts) (defBody s_Thing_parts) (defScope s_Thing_parts) [] [] (He.fAd K ("Thing", some "parts")) fd) : FnOk P w K mg base (CX P w) 1 (He.fAd K ("Thing", some "parts")) fd ["self"] (liftSp K sp_Thing_parts) := by
  refine TF.fn_okX (t := t_Thing_parts) F sc_Thing_parts (fun ds A Q E h => len_Thing_parts h) (fun cdv A outer s H E Z0 wd hr tk => ?_) (fun ds A Q E h => rd_Thing_parts h)
  have hu := uA hr
  have hu65 := uC hr
  have hu64 := uB hr
  exact (qss_one (qs_ret (qe_callTy (lift_list mkO_ok) (call_listAll rfl) (by rfl) C.n_list (by decide +kernel) (qa_cons (qe_fld C.f_kept_parts (qe_var (pv 0)) (by rfl)) qa_nil))))
theorem dmt_parts (C : C K mg) : ∀ p ∈ mt_parts, DMeth P w K mg base 1 p.1 "parts" p.2 := by
  exact (List.forall_mem_cons.mpr ⟨by
    obtain ⟨fd, F⟩ := C.d_Thing_parts
    exact ⟨⟨_, fd, ["self"], C.me_Thing_parts.1, C.me_Thing_parts.2, fnok_mono (ok_Thing_parts C F) (by decide), F.bindsN fun _ _ _ _ _ _ us hl => match us, hl with | [_], _ => rfl⟩⟩, (fun _ h => nomatch h)⟩)
theorem sc_Thing_gaps : FnScope ["self"] ["self"] (defScope s_Thing_gaps) := ⟨rfl, rfl, rfl, by decide +kernel, rfl, by decide +kernel, by decide +kernel⟩
theorem ok_Thing_gaps (C : C K mg) {fd : FuncData} (F : FunD K "gaps" "Thing.gaps" (defArgs s_Thing_gaps) (defBody s_Thing_gaps) (defScope s_Thing_gaps) [] [] (He.fAd K ("Thing", some "gaps")) fd) : FnOk P w K mg base (CX P w) 1 (He.fAd K ("Thing", some "gaps")) fd ["self"] (liftSp K sp_Thing_gaps) := by
  refine TF.fn_okX (t := t_Thing_gaps) F sc_Thing_gaps (fun ds A Q E h => len_Thing_gaps h) (fun cdv A outer s H E Z0 wd hr tk => ?_) (fun ds A Q E h => rd_Thing_gaps h)
  have hu := uA hr
  have hu65 := uC hr
  have hu64 := uB hr
  exact (qss_one (qs_ret (qe_callTy (lift_list mkO_ok) (call_listAll rfl) (by rfl) C.n_list (by decide +kernel) (qa_cons (qe_fld C.f_kept_gaps (qe_var (pv 0)) (by rfl)) qa_nil))))
theorem dmt_gaps (C : C K mg) : ∀ p ∈ mt_gaps, DMeth P w K mg base 1 p.1 "gaps" p.2 := by
  exact (List.forall_mem_cons.mpr ⟨by
    obtain ⟨fd, F⟩ := C.d_Thing_gaps
    exact ⟨⟨_, fd, ["self"], C.me_Thing_gaps.1, C.me_Thing_gaps.2, fnok_mono (ok_Thing_gaps C F) (by decide), F.bindsN fun _ _ _ _ _ _ us hl => match us, hl with | [_], _ => rfl⟩⟩, (fun _ h => nomatch h)⟩)
theorem sc__law_cell : FnScope ["_law_script", "_law_k", "_law_total", "_law_j"] ["_law_script", "_law_k"] (defScope s__law_cell) := ⟨rfl, rfl, rfl, by decide +kernel, rfl, by decide +kernel, by decide +kernel⟩
theorem ok__law_cell (C : C K mg) {fd : FuncData} (F : FunD K "_law_cell" "_law_cell" (defArgs s__law_cell) (defBody s__law_cell) (defScope s__law_cell) [] [] (He.fAd K ("_law_cell", none)) fd) : FnOk P w K mg base (CX P w) 1 (He.fAd K ("_law_cell", none)) fd ["_law_script", "_law_k"] (liftSp K sp__law_cell) := by
  refine TF.fn_okX (t := t__law_cell) F sc__law_cell (fun ds A Q E h => len__law_cell h) (fun cdv A outer s H E Z0 wd hr tk => ?_) (fun ds A Q E h => rd__law_cell h)
  have hu := uA hr
  have hu65 := uC hr
  have hu64 := uB hr
  exact (qss_cons (qs_set (i := 2) sc__law_cell.nd rfl (.inl rfl) qe_int)
  (qss_cons (qs_for (passes_of rfl) rfl (qi_range3 (by rfl) C.n_range (qa_cons (qe_var (pv 1)) (qa_cons (qe_callB lift_min (call_min2 rfl) (by rfl) C.n_min (by decide +kernel) (qa_cons (qe_callB lift_len call_lenAll (by rfl) C.n_len (by decide +kernel) (qa_cons (qe_var (pv 0)) qa_nil)) (qa_cons qe_int qa_nil))) (qa_cons qe_int qa_nil)))) (qg_name (i := 3) sc__law_cell.nd rfl (.inl rfl))
  (qss_one (qs_set (i := 2) sc__law_cell.nd rfl (.inl rfl) (qe_add mkF_ok (qe_var (pv 2)) (qe_mul (qe_ix hu (qe_var (pv 0)) (qe_var (pv 3)) (fun _ _ => rfl)) (qe_add mkF_ok qe_int (qe_var (pv 3))))))))
  (qss_one (qs_ret (qe_var (pv 2))))))
theorem df__law_cell (C : C K mg) : DFn P w K mg base 1 "_law_cell" sp__law_cell [] := by
  obtain ⟨fd, F⟩ := C.d__law_cell
  exact dfn (ok__law_cell C F) C.m__law_cell F.kp (F.bindsN fun _ _ _ _ _ _ us hl => match us, hl with | [_, _], _ => rfl)
theorem sc__law_signed : FnScope ["_law_cell_here", "_law_most"] ["_law_cell_here", "_law_most"] (defScope s__law_signed) := ⟨rfl, rfl, rfl, by decide +kernel, rfl, by decide +kernel, by decide +kernel⟩
theorem ok__law_signed (C : C K mg) {fd : FuncData} (F : FunD K "_law_signed" "_law_signed" (defArgs s__law_signed) (defBody s__law_signed) (defScope s__law_signed) [] [] (He.fAd K ("_law_signed", none)) fd) : FnOk P w K mg base (CX P w) 1 (He.fAd K ("_law_signed", none)) fd ["_law_cell_here", "_law_most"] (liftSp K sp__law_signed) := by
  refine TF.fn_okX (t := t__law_signed) F sc__law_signed (fun ds A Q E h => len__law_signed h) (fun cdv A outer s H E Z0 wd hr tk => ?_) (fun ds A Q E h => rd__law_signed h)
  have hu := uA hr
  have hu65 := uC hr
  have hu64 := uB hr
  exact (qss_cons (qs_if (qt_cmp lift_cmp op_lt (qe_var (pv 0)) qe_int (nomark _))
  (qss_one (qs_ret (qe_sub qe_int (qe_mod (qe_sub qe_int (qe_var (pv 0))) (qe_var (pv 1))))))
  qss_nil)
  (qss_one (qs_ret (qe_mod (qe_var (pv 0)) (qe_var (pv 1))))))
theorem df__law_signed (C : C K mg) : DFn P w K mg base 1 "_law_signed" sp__law_signed [] := by
  obtain ⟨fd, F⟩ := C.d__law_signed
  exact dfn (ok__law_signed C F) C.m__law_signed F.kp (F.bindsN fun _ _ _ _ _ _ us hl => match us, hl with | [_, _], _ => rfl)
theorem sc__law_low : FnScope ["_law_top", "_law_bottom", "_law_one", "_law_other", "_law_rest"] ["_law_top", "_law_bottom"] (defScope s__law_low) := ⟨rfl, rfl, rfl, by decide +kernel, rfl, by decide +kernel, by decide +kernel⟩
theorem ok__law_low (C : C K mg) {fd : FuncData} (F : FunD K "_law_low" "_law_low" (defArgs s__law_low) (defBody s__law_low) (defScope s__law_low) [] [] (He.fAd K ("_law_low", none)) fd) : FnOk P w K mg base (CX P w) 1 (He.fAd K ("_law_low", none)) fd ["_law_top", "_law_bottom"] (liftSp K sp__law_low) := by
  refine TF.fn_okX (t := t__law_low) F sc__law_low (fun ds A Q E h => len__law_low h) (fun cdv A outer s H E Z0 wd hr tk => ?_) (fun ds A Q E h => rd__law_low h)
  have hu := uA hr
  have hu65 := uC hr
  have hu64 := uB hr
  exact (qss_cons (qs_set (i := 2) sc__law_low.nd rfl (.inl rfl) (qe_var (pv 0)))
  (qss_cons (qs_set (i := 3) sc__law_low.nd rfl (.inl rfl) (qe_var (pv 1)))
  (qss_cons (qs_while (passes_of rfl) (qt_cmp lift_ne (op_neD hu64) (qe_var (pv 3)) qe_int (nomark _))
  (qss_cons (qs_set (i := 4) sc__law_low.nd rfl (.inl rfl) (qe_mod (qe_var (pv 2)) (qe_var (pv 3))))
  (qss_cons (qs_set (i := 2) sc__law_low.nd rfl (.inl rfl) (qe_var (pv 3)))
  (qss_one (qs_set (i := 3) sc__law_low.nd rfl (.inl rfl) (qe_var (pv 4)))))))
  (qss_one (qs_ret (qe_tup (qa_cons (qe_div (qe_var (pv 0)) (qe_callB lift_abs call_abs (by rfl) C.n_abs (by decide +kernel) (qa_cons (qe_var (pv 2)) qa_nil))) (qa_cons (qe_div (qe_var (pv 1)) (qe_callB lift_abs call_abs (by rfl) C.n_abs (by decide +kernel) (qa_cons (qe_var (pv 2)) qa_nil))) qa_nil))))))))
theorem df__law_low (C : C K mg) : DFn P w K mg base 1 "_law_low" sp__law_low [] := by
  obtain ⟨fd, F⟩ := C.d__law_low
  exact dfn (ok__law_low C F) C.m__law_low F.kp (F.bindsN fun _ _ _ _ _ _ us hl => match us, hl with | [_, _], _ => rfl)
theorem sc__law_name : FnScope ["_law_k", "_law_sign", "_law_style"] ["_law_k", "_law_sign", "_law_style"] (defScope s__law_name) := ⟨rfl, rfl, rfl, by decide +kernel, rfl, by decide +kernel, by decide +kernel⟩
theorem ok__law_name (C : C K mg) {fd : FuncData} (F : FunD K "_law_name" "_law_name" (defArgs s__law_name) (defBody s__law_name) (defScope s__law_name) [] [] (He.fAd K ("_law_name", none)) fd) : FnOk P w K mg base (CX P w) 1 (He.fAd K ("_law_name", none)) fd ["_law_k", "_law_sign", "_law_style"] (liftSp K sp__law_name) := by
  refine TF.fn_okX (t := t__law_name) F sc__law_name (fun ds A Q E h => len__law_name h) (fun cdv A outer s H E Z0 wd hr tk => ?_) (fun ds A Q E h => rd__law_name h)
  have hu := uA hr
  have hu65 := uC hr
  have hu64 := uB hr
  exact (qss_one (qs_ret (qe_add mkF_ok (qe_add mkF_ok (qe_mul (qe_var (pv 1)) (qe_var (pv 2))) (qe_ix hu qe_str (qe_var (pv 0)) (fun _ _ => rfl))) (qe_mul (qe_var (pv 1)) (qe_sub qe_int (qe_var (pv 2)))))))
theorem df__law_name (C : C K mg) : DFn P w K mg base 1 "_law_name" sp__law_name [] := by
  obtain ⟨fd, F⟩ := C.d__law_name
  exact dfn (ok__law_name C F) C.m__law_name F.kp (F.bindsN fun _ _ _ _ _ _ us hl => match us, hl with | [_, _, _], _ => rfl)
theorem sc__law_part : FnScope ["_law_k", "_law_cells", "_law_style", "_law_mixed", "_law_far", "_law_name_here", "_law_one", "_law_other", "_law_size", "_law_most"] ["_law_k", "_law_cells", "_law_style"] (defScope s__law_part) := ⟨rfl, rfl, rfl, by decide +kernel, rfl, by decide +kernel, by decide +kernel⟩
theorem ok__law_part (C : C K mg) {fd : FuncData} (F : FunD K "_law_part" "_law_part" (defArgs s__law_part) (defBody s__law_part) (defScope s__law_part) [] [] (He.fAd K ("_law_part", none)) fd) : FnOk P w K mg base (CX P w) 2 (He.fAd K ("_law_part", none)) fd ["_law_k", "_law_cells", "_law_style"] (liftSp K sp__law_part) := by
  have F__law_low := @df__law_low P w K mg base C
  have F__law_name := @df__law_name P w K mg base C
  have F__law_signed := @df__law_signed P w K mg base C
  refine TF.fn_okX (t := t__law_part) F sc__law_part (fun ds A Q E h => len__law_part h) (fun cdv A outer s H E Z0 wd hr tk => ?_) (fun ds A Q E h => rd__law_part h)
  have hu := uA hr
  have hu65 := uC hr
  have hu64 := uB hr
  exact (qss_cons (qs_set (i := 3) sc__law_part.nd rfl (.inl rfl) (qe_div (qe_mod (qe_mul (qe_ix hu (qe_var (pv 1)) qe_int (fun _ _ => rfl)) qe_int) qe_int) qe_int))
  (qss_cons (qs_set (i := 4) sc__law_part.nd rfl (.inl rfl) (qe_ix hu (qe_lst mkF_ok (qa_cons qe_int (qa_cons (qe_pow qe_int qe_int) qa_nil))) (qe_mod (qe_div (qe_var (pv 3)) qe_int) qe_int) (fun _ _ => rfl)))
  (qss_cons (qs_set (i := 5) sc__law_part.nd rfl (.inl rfl) (qe_call F__law_name hr (by decide) (by rfl) tk (qa_cons (qe_ix hu (qe_lst mkF_ok (qa_cons (qe_var (pv 0)) (qa_cons (qe_var (pv 0)) (qa_cons (qe_var (pv 0)) (qa_cons (qe_mod (qe_div (qe_var (pv 3)) qe_int) qe_int) qa_nil))))) (qe_mod (qe_div (qe_var (pv 3)) qe_int) qe_int) (fun _ _ => rfl)) (qa_cons qe_str (qa_cons (qe_var (pv 2)) qa_nil)))))
  (qss_cons (qs_set (i := 6) sc__law_part.nd rfl (.inl rfl) (qe_call F__law_name hr (by decide) (by rfl) tk (qa_cons (qe_mod (qe_div (qe_var (pv 3)) qe_int) qe_int) (qa_cons qe_str (qa_cons (qe_var (pv 2)) qa_nil)))))
  (qss_cons (qs_set (i := 7) sc__law_part.nd rfl (.inl rfl) (qe_call F__law_name hr (by decide) (by rfl) tk (qa_cons (qe_mod (qe_add mkF_ok (qe_add mkF_ok (qe_div (qe_var (pv 3)) qe_int) qe_int) (qe_mod (qe_div (qe_var (pv 3)) qe_int) qe_int)) qe_int) (qa_cons qe_str (qa_cons (qe_var (pv 2)) qa_nil)))))
  (qss_cons (qs_set (i := 8) sc__law_part.nd rfl (.inl rfl) (qe_call F__law_low hr (by decide) (by rfl) tk (qa_cons (qe_call F__law_signed hr (by decide) (by rfl) tk (qa_cons (qe_ix hu (qe_var (pv 1)) qe_int (fun _ _ => rfl)) (qa_cons (qe_var (pv 4)) qa_nil))) (qa_cons (qe_add mkF_ok qe_int (qe_mod (qe_div (qe_var (pv 3)) qe_int) qe_int)) qa_nil))))
  (qss_cons (qs_set (i := 9) sc__law_part.nd rfl (.inl rfl) (qe_call F__law_low hr (by decide) (by rfl) tk (qa_cons (qe_mod (qe_ix hu (qe_var (pv 1)) qe_int (fun _ _ => rfl)) qe_int) (qa_cons (qe_add mkF_ok qe_int (qe_mod (qe_div (qe_var (pv 3)) qe_int) qe_int)) qa_nil))))
  (qss_one (qs_ret (qe_tup (qa_cons (qe_var (pv 5)) (qa_cons (qe_var (pv 6)) (qa_cons (qe_var (pv 7)) (qa_cons (qe_var (pv 8)) (qa_cons (qe_var (pv 9)) (qa_cons (qe_ix hu (qe_lst mkF_ok (qa_cons (qe_add mkF_ok qe_int (qe_mod (qe_var (pv 3)) qe_int)) (qa_cons (qe_add mkF_ok qe_int (qe_mod (qe_ix hu (qe_var (pv 1)) qe_int (fun _ _ => rfl)) (qe_pow qe_int qe_int))) qa_nil))) (qe_mod (qe_div (qe_var (pv 3)) qe_int) qe_int) (fun _ _ => rfl)) qa_nil))))))))))))))))
theorem df__law_part (C : C K mg) : DFn P w K mg base 2 "_law_part" sp__law_part [] := by
  obtain ⟨fd, F⟩ := C.d__law_part
  exact dfn (ok__law_part C F) C.m__law_part F.kp (F.bindsN fun _ _ _ _ _ _ us hl => match us, hl with | [_, _, _], _ => rfl)
theorem sc__law_gap : FnScope ["_law_k", "_law_cells", "_law_style", "_law_mixed", "_law_name_here", "_law_one", "_law_other", "_law_low_here"] ["_law_k", "_law_cells", "_law_style"] (defScope s__law_gap) := ⟨rfl, rfl, rfl, by decide +kernel, rfl, by decide +kernel, by decide +kernel⟩
theorem ok__law_gap (C : C K mg) {fd : FuncData} (F : FunD K "_law_gap" "_law_gap" (defArgs s__law_gap) (defBody s__law_gap) (defScope s__law_gap) [] [] (He.fAd K ("_law_gap", none)) fd) : FnOk P w K mg base (CX P w) 2 (He.fAd K ("_law_gap", none)) fd ["_law_k", "_law_cells", "_law_style"] (liftSp K sp__law_gap) := by
  have F__law_low := @df__law_low P w K mg base C
  have F__law_name := @df__law_name P w K mg base C
  have F__law_signed := @df__law_signed P w K mg base C
  refine TF.fn_okX (t := t__law_gap) F sc__law_gap (fun ds A Q E h => len__law_gap h) (fun cdv A outer s H E Z0 wd hr tk => ?_) (fun ds A Q E h => rd__law_gap h)
  have hu := uA hr
  have hu65 := uC hr
  have hu64 := uB hr
  exact (qss_cons (qs_set (i := 3) sc__law_gap.nd rfl (.inl rfl) (qe_div (qe_mod (qe_mul (qe_ix hu (qe_var (pv 1)) qe_int (fun _ _ => rfl)) qe_int) qe_int) qe_int))
  (qss_cons (qs_set (i := 4) sc__law_gap.nd rfl (.inl rfl) (qe_call F__law_name hr (by decide) (by rfl) tk (qa_cons (qe_ix hu (qe_lst mkF_ok (qa_cons (qe_var (pv 0)) (qa_cons (qe_var (pv 0)) (qa_cons (qe_var (pv 0)) (qa_cons (qe_mod (qe_div (qe_var (pv 3)) qe_int) qe_int) qa_nil))))) (qe_mod (qe_div (qe_var (pv 3)) qe_int) qe_int) (fun _ _ => rfl)) (qa_cons (qe_ix hu (qe_lst mkF_ok (qa_cons qe_str (qa_cons qe_str qa_nil))) (qe_mod (qe_div (qe_var (pv 3)) qe_int) qe_int) (fun _ _ => rfl)) (qa_cons (qe_var (pv 2)) qa_nil)))))
  (qss_cons (qs_set (i := 5) sc__law_gap.nd rfl (.inl rfl) (qe_call F__law_name hr (by decide) (by rfl) tk (qa_cons (qe_mod (qe_div (qe_var (pv 3)) qe_int) qe_int) (qa_cons qe_str (qa_cons (qe_var (pv 2)) qa_nil)))))
  (qss_cons (qs_set (i := 6) sc__law_gap.nd rfl (.inl rfl) (qe_call F__law_name hr (by decide) (by rfl) tk (qa_cons (qe_mod (qe_add mkF_ok (qe_add mkF_ok (qe_div (qe_var (pv 3)) qe_int) qe_int) (qe_mod (qe_div (qe_var (pv 3)) qe_int) qe_int)) qe_int) (qa_cons qe_str (qa_cons (qe_var (pv 2)) qa_nil)))))
  (qss_cons (qs_set (i := 7) sc__law_gap.nd rfl (.inl rfl) (qe_call F__law_low hr (by decide) (by rfl) tk (qa_cons (qe_call F__law_signed hr (by decide) (by rfl) tk (qa_cons (qe_ix hu (qe_var (pv 1)) qe_int (fun _ _ => rfl)) (qa_cons (qe_pow qe_int qe_int) qa_nil))) (qa_cons (qe_add mkF_ok qe_int (qe_mod (qe_div (qe_var (pv 3)) qe_int) qe_int)) qa_nil))))
  (qss_one (qs_ret (qe_tup (qa_cons (qe_var (pv 4)) (qa_cons (qe_var (pv 5)) (qa_cons (qe_var (pv 6)) (qa_cons (qe_var (pv 7)) (qa_cons (qe_tup (qa_cons (qe_add mkF_ok (qe_ix hu (qe_var (pv 7)) qe_int (fun _ _ => rfl)) (qe_mul (qe_ix hu (qe_var (pv 7)) qe_int (fun _ _ => rfl)) (qe_mod (qe_var (pv 3)) qe_int))) (qa_cons (qe_ix hu (qe_var (pv 7)) qe_int (fun _ _ => rfl)) qa_nil))) qa_nil)))))))))))))
theorem df__law_gap (C : C K mg) : DFn P w K mg base 2 "_law_gap" sp__law_gap [] := by
  obtain ⟨fd, F⟩ := C.d__law_gap
  exact dfn (ok__law_gap C F) C.m__law_gap F.kp (F.bindsN fun _ _ _ _ _ _ us hl => match us, hl with | [_, _, _], _ => rfl)
theorem sc__law_with : FnScope ["_law_thing", "_law_at", "_law_part_here"] ["_law_thing", "_law_at", "_law_part_here"] (defScope s__law_with) := ⟨rfl, rfl, rfl, by decide +kernel, rfl, by decide +kernel, by decide +kernel⟩
theorem ok__law_with (C : C K mg) {fd : FuncData} (F : FunD K "_law_with" "_law_with" (defArgs s__law_with) (defBody s__law_with) (defScope s__law_with) [] [] (He.fAd K ("_law_with", none)) fd) : FnOk P w K mg base (CX P w) 1 (He.fAd K ("_law_with", none)) fd ["_law_thing", "_law_at", "_law_part_here"] (liftSp K sp__law_with) := by
  refine TF.fn_okX (t := t__law_with) F sc__law_with (fun ds A Q E h => len__law_with h) (fun cdv A outer s H E Z0 wd hr tk => ?_) (fun ds A Q E h => rd__law_with h)
  have hu := uA hr
  have hu65 := uC hr
  have hu64 := uB hr
  exact (qss_one (qs_ret (qe_add mkF_ok (qe_add mkF_ok (qe_sl mkF_ok (qe_var (pv 0)) qo_none (qo_some (qe_var (pv 1)))) (qe_tup (qa_cons (qe_var (pv 2)) qa_nil))) (qe_sl mkF_ok (qe_var (pv 0)) (qo_some (qe_add mkF_ok (qe_var (pv 1)) qe_int)) qo_none))))
theorem df__law_with (C : C K mg) : DFn P w K mg base 1 "_law_with" sp__law_with [] := by
  obtain ⟨fd, F⟩ := C.d__law_with
  exact dfn (ok__law_with C F) C.m__law_with F.kp (F.bindsN fun _ _ _ _ _ _ us hl => match us, hl with | [_, _, _], _ => rfl)
theorem sc__law_spoiled : FnScope ["_law_thing", "_law_way", "_law_at"] ["_law_thing", "_law_way"] (defScope s__law_spoiled) := ⟨rfl, rfl, rfl, by decide +kernel, rfl, by decide +kernel, by decide +kernel⟩
theorem ok__law_spoiled (C : C K mg) {fd : FuncData} (F : FunD K "_law_spoiled" "_law_spoiled" (defArgs s__law_spoiled) (defBody s__law_spoiled) (defScope s__law_spoiled) [] [] (He.fAd K ("_law_spoiled", none)) fd) : FnOk P w K mg base (CX P w) 2 (He.fAd K ("_law_spoiled", none)) fd ["_law_thing", "_law_way"] (liftSp K sp__law_spoiled) := by
  have F__law_with := @df__law_with P w K mg base C
  refine TF.fn_okX (t := t__law_spoiled) F sc__law_spoiled (fun ds A Q E h => len__law_spoiled h) (fun cdv A outer s H E Z0 wd hr tk => ?_) (fun ds A Q E h => rd__law_spoiled h)
  have hu := uA hr
  have hu65 := uC hr
  have hu64 := uB hr
  exact (qss_cons (qs_set (i := 2) sc__law_spoiled.nd rfl (.inl rfl) (qe_mod (qe_div (qe_var (pv 1)) qe_int) (qe_callB lift_len call_lenAll (by rfl) C.n_len (by decide +kernel) (qa_cons (qe_var (pv 0)) qa_nil))))
  (qss_cons (qs_if (qt_cmp lift_eq (op_eqD hu64) (qe_mod (qe_var (pv 1)) qe_int) qe_int (nomark _))
  (qss_one (qs_ret (qe_ix hu (qe_lst mkF_ok (qa_cons (qe_callTy (lift_list mkF_ok) (call_listAll rfl) (by rfl) C.n_list (by decide +kernel) (qa_cons (qe_var (pv 0)) qa_nil)) (qa_cons (qe_sl mkF_ok (qe_var (pv 0)) qo_none (qo_some (qe_neg qe_int))) (qa_cons (qe_add mkF_ok (qe_var (pv 0)) (qe_tup (qa_cons qe_int qa_nil))) (qa_cons qe_non (qa_cons qe_int (qa_cons (qe_ix hu (qe_var (pv 0)) qe_int (fun _ _ => rfl)) (qa_cons (qe_tup qa_nil) qa_nil)))))))) (qe_mod (qe_div (qe_var (pv 1)) qe_int) qe_int) (fun _ _ => rfl))))
  qss_nil)
  (qss_cons (qs_if (qt_cmp lift_eq (op_eqD hu64) (qe_mod (qe_var (pv 1)) qe_int) qe_int (nomark _))
  (qss_one (qs_ret (qe_call F__law_with hr (by decide) (by rfl) tk (qa_cons (qe_var (pv 0)) (qa_cons (qe_var (pv 2)) (qa_cons (qe_ix hu (qe_lst mkF_ok (qa_cons qe_non (qa_cons qe_bl (qa_cons qe_bl (qa_cons (qe_lst mkF_ok qa_nil) (qa_cons (qe_tup (qa_cons qe_int qa_nil)) (qa_cons (qe_tup (qa_cons qe_int (qa_cons qe_int qa_nil))) (qa_cons (qe_tup (qa_cons qe_int (qa_cons qe_int qa_nil))) (qa_cons (qe_tup (qa_cons qe_bl (qa_cons qe_int qa_nil))) qa_nil))))))))) (qe_mod (qe_div (qe_var (pv 1)) qe_int) qe_int) (fun _ _ => rfl)) qa_nil))))))
  qss_nil)
  (qss_cons (qs_if (qt_cmp lift_eq (op_eqD hu64) (qe_mod (qe_var (pv 1)) qe_int) qe_int (nomark _))
  (qss_one (qs_ret (qe_call F__law_with hr (by decide) (by rfl) tk (qa_cons (qe_var (pv 0)) (qa_cons (qe_mod (qe_div (qe_var (pv 1)) qe_int) qe_int) (qa_cons (qe_ix hu (qe_lst mkF_ok (qa_cons qe_str (qa_cons qe_str (qa_cons qe_str (qa_cons qe_str (qa_cons qe_str (qa_cons qe_int (qa_cons qe_non (qa_cons qe_str qa_nil))))))))) (qe_mod (qe_div (qe_var (pv 1)) qe_int) qe_int) (fun _ _ => rfl)) qa_nil))))))
  qss_nil)
  (qss_cons (qs_if (qt_cmp lift_eq (op_eqD hu64) (qe_mod (qe_var (pv 1)) qe_int) qe_int (nomark _))
  (qss_one (qs_ret (qe_call F__law_with hr (by decide) (by rfl) tk (qa_cons (qe_var (pv 0)) (qa_cons qe_int (qa_cons (qe_ix hu (qe_var (pv 0)) qe_int (fun _ _ => rfl)) qa_nil))))))
  qss_nil)
  (qss_cons (qs_if (qt_w (qw_and (qt_cmp lift_eq (op_eqD hu64) (qe_callB lift_len call_lenAll (by rfl) C.n_len (by decide +kernel) (qa_cons (qe_var (pv 0)) qa_nil)) qe_int (nomark _)) (qw_and1 (qt_cmp lift_eq (op_eqD hu64) (qe_mod (qe_var (pv 1)) qe_int) qe_int (nomark _)))))
  (qss_one (qs_ret (qe_call F__law_with hr (by decide) (by rfl) tk (qa_cons (qe_var (pv 0)) (qa_cons qe_int (qa_cons (qe_tup (qa_cons (qe_sub (qe_neg qe_int) (qe_mod (qe_div (qe_var (pv 1)) qe_int) qe_int)) (qa_cons qe_int qa_nil))) qa_nil))))))
  qss_nil)
  (qss_cons (qs_if (qt_cmp lift_eq (op_eqD hu64) (qe_callB lift_len call_lenAll (by rfl) C.n_len (by decide +kernel) (qa_cons (qe_var (pv 0)) qa_nil)) qe_int (nomark _))
  (qss_one (qs_ret (qe_call F__law_with hr (by decide) (by rfl) tk (qa_cons (qe_var (pv 0)) (qa_cons qe_int (qa_cons (qe_ix hu (qe_lst mkF_ok (qa_cons qe_int (qa_cons (qe_neg qe_int) (qa_cons qe_bl (qa_cons (qe_tup (qa_cons qe_int (qa_cons qe_int qa_nil))) (qa_cons qe_non qa_nil)))))) (qe_mod (qe_div (qe_var (pv 1)) qe_int) qe_int) (fun _ _ => rfl)) qa_nil))))))
  qss_nil)
  (qss_one (qs_ret (qe_call F__law_with hr (by decide) (by rfl) tk (qa_cons (qe_var (pv 0)) (qa_cons qe_int (qa_cons (qe_tup (qa_cons (qe_add mkF_ok (qe_ix hu (qe_ix hu (qe_var (pv 0)) qe_int (fun _ _ => rfl)) qe_int (fun _ _ => rfl)) (qe_ix hu (qe_ix hu (qe_var (pv 0)) qe_int (fun _ _ => rfl)) qe_int (fun _ _ => rfl))) (qa_cons (qe_ix hu (qe_ix hu (qe_var (pv 0)) qe_int (fun _ _ => rfl)) qe_int (fun _ _ => rfl)) qa_nil))) qa_nil)))))))))))))
theorem df__law_spoiled (C : C K mg) : DFn P w K mg base 2 "_law_spoiled" sp__law_spoiled [] := by
  obtain ⟨fd, F⟩ := C.d__law_spoiled
  exact dfn (ok__law_spoiled C F) C.m__law_spoiled F.kp (F.bindsN fun _ _ _ _ _ _ us hl => match us, hl with | [_, _], _ => rfl)
theorem sc__law_joined : FnScope ["_law_marks", "_law_one", "_law_other", "_law_here", "_law_there", "_law_face"] ["_law_marks", "_law_one", "_law_other"] (defScope s__law_joined) := ⟨rfl, rfl, rfl, by decide +kernel, rfl, by decide +kernel, by decide +kernel⟩
theorem ok__law_joined (C : C K mg) {fd : FuncData} (F : FunD K "_law_joined" "_law_joined" (defArgs s__law_joined) (defBody s__law_joined) (defScope s__law_joined) [] [] (He.fAd K ("_law_joined", none)) fd) : FnOk P w K mg base (CX P w) 1 (He.fAd K ("_law_joined", none)) fd ["_law_marks", "_law_one", "_law_other"] (liftSp K sp__law_joined) := by
  refine TF.fn_okX (t := t__law_joined) F sc__law_joined (fun ds A Q E h => len__law_joined h) (fun cdv A outer s H E Z0 wd hr tk => ?_) (fun ds A Q E h => rd__law_joined h)
  have hu := uA hr
  have hu65 := uC hr
  have hu64 := uB hr
  exact (qss_cons (qs_set (i := 3) sc__law_joined.nd rfl (.inl rfl) (qe_dget2 hu (qe_var (pv 0)) (qe_var (pv 1)) (qe_var (pv 1))))
  (qss_cons (qs_set (i := 4) sc__law_joined.nd rfl (.inl rfl) (qe_dget2 hu (qe_var (pv 0)) (qe_var (pv 2)) (qe_var (pv 2))))
  (qss_cons (qs_for (passes_of rfl) rfl (qi_seq (qe_callTy (lift_list mkF_ok) (call_listAll rfl) (by rfl) C.n_list (by decide +kernel) (qa_cons (qe_var (pv 0)) qa_nil))) (qg_name (i := 5) sc__law_joined.nd rfl (.inl rfl))
  (qss_one (qs_if (qt_cmp lift_eq (op_eqD hu64) (qe_ix hu (qe_var (pv 0)) (qe_var (pv 5)) (fun _ _ => rfl)) (qe_var (pv 4)) (nomark _))
  (qss_one (qs_asg (qe_var (pv 3)) (qg_sub hu (qe_var (pv 0)) (qe_var (pv 5)))))
  qss_nil)))
  (qss_cons (qs_asg (qe_var (pv 3)) (qg_sub hu (qe_var (pv 0)) (qe_var (pv 1))))
  (qss_one (qs_asg (qe_var (pv 3)) (qg_sub hu (qe_var (pv 0)) (qe_var (pv 2)))))))))
theorem df__law_joined (C : C K mg) : DFn P w K mg base 1 "_law_joined" sp__law_joined [] := by
  obtain ⟨fd, F⟩ := C.d__law_joined
  exact dfn (ok__law_joined C F) C.m__law_joined F.kp (F.bindsN fun _ _ _ _ _ _ us hl => match us, hl with | [_, _, _], _ => rfl)
theorem sc__law_due : FnScope ["_law_parts", "_law_gaps", "_law_marks", "_law_names", "_law_good", "_law_part_here", "_law_gap_here"] ["_law_parts", "_law_gaps"] (defScope s__law_due) := ⟨rfl, rfl, rfl, by decide +kernel, rfl, by decide +kernel, by decide +kernel⟩
theorem ok__law_due (C : C K mg) {fd : FuncData} (F : FunD K "_law_due" "_law_due" (defArgs s__law_due) (defBody s__law_due) (defScope s__law_due) [] [] (He.fAd K ("_law_due", none)) fd) : FnOk P w K mg base (CX P w) 2 (He.fAd K ("_law_due", none)) fd ["_law_parts", "_law_gaps"] (liftSp K sp__law_due) := by
  have F__law_joined := @df__law_joined P w K mg base C
  refine TF.fn_okX (t := t__law_due) F sc__law_due (fun ds A Q E h => len__law_due h) (fun cdv A outer s H E Z0 wd hr tk => ?_) (fun ds A Q E h => rd__law_due h)
  have hu := uA hr
  have hu65 := uC hr
  have hu64 := uB hr
  exact (qss_cons (qs_set (i := 2) sc__law_due.nd rfl (.inl rfl) qe_dic0)
  (qss_cons (qs_set (i := 3) sc__law_due.nd rfl (.inl rfl) qe_dic0)
  (qss_cons (qs_for (passes_of rfl) rfl (qi_seq (qe_var (pv 0))) (qg_tup rfl (qgs_cons (qg_name (i := 4) sc__law_due.nd rfl (.inl rfl)) (qgs_cons (qg_name (i := 5) sc__law_due.nd rfl (.inl rfl)) qgs_nil)))
  (qss_cons (qs_if (qt_not (qt_val (qe_var (pv 4))))
  (qss_one (qs_ret qe_str))
  qss_nil)
  (qss_cons (qs_if (qt_cmp lift_in (op_inAll hu65) (qe_ix hu (qe_var (pv 5)) qe_int (fun _ _ => rfl)) (qe_var (pv 3)) (by rfl))
  (qss_one (qs_ret qe_str))
  qss_nil)
  (qss_cons (qs_if (qt_w (qw_and (qt_cmp lift_in (op_inAll hu65) (qe_ix hu (qe_var (pv 5)) qe_int (fun _ _ => rfl)) (qe_var (pv 2)) (by rfl)) (qw_and (qt_cmp lift_in (op_inAll hu65) (qe_ix hu (qe_var (pv 5)) qe_int (fun _ _ => rfl)) (qe_var (pv 2)) (by rfl)) (qw_and1 (qt_cmp lift_eq (op_eqD hu64) (qe_ix hu (qe_var (pv 2)) (qe_ix hu (qe_var (pv 5)) qe_int (fun _ _ => rfl)) (fun _ _ => rfl)) (qe_ix hu (qe_var (pv 2)) (qe_ix hu (qe_var (pv 5)) qe_int (fun _ _ => rfl)) (fun _ _ => rfl)) (nomark _))))))
  (qss_one (qs_ret qe_str))
  qss_nil)
  (qss_cons (qs_asg qe_bl (qg_sub hu (qe_var (pv 3)) (qe_ix hu (qe_var (pv 5)) qe_int (fun _ _ => rfl))))
  (qss_one (qs_expr (qe_call F__law_joined hr (by decide) (by rfl) tk (qa_cons (qe_var (pv 2)) (qa_cons (qe_ix hu (qe_var (pv 5)) qe_int (fun _ _ => rfl)) (qa_cons (qe_ix hu (qe_var (pv 5)) qe_int (fun _ _ => rfl)) qa_nil)))))))))))
  (qss_fz (i := 2)
  (qss_cons (qs_set (i := 3) sc__law_due.nd rfl (.inl rfl) qe_dic0)
  (qss_cons (qs_for (passes_of rfl) rfl (qi_seq (qe_var (pv 1))) (qg_tup rfl (qgs_cons (qg_name (i := 4) sc__law_due.nd rfl (.inl rfl)) (qgs_cons (qg_name (i := 6) sc__law_due.nd rfl (.inl rfl)) qgs_nil)))
  (qss_cons (qs_if (qt_not (qt_val (qe_var (pv 4))))
  (qss_one (qs_ret qe_str))
  qss_nil)
  (qss_cons (qs_if (qt_cmp lift_in (op_inAll hu65) (qe_ix hu (qe_var (pv 6)) qe_int (fun _ _ => rfl)) (qe_var (pv 3)) (by rfl))
  (qss_one (qs_ret qe_str))
  qss_nil)
  (qss_cons (qs_if (qt_w (qw_or (qt_cmp lift_notin (op_notInAll hu65) (qe_ix hu (qe_var (pv 6)) qe_int (fun _ _ => rfl)) (qe_var (pv 2)) (by rfl)) (qw_or (qt_cmp lift_notin (op_notInAll hu65) (qe_ix hu (qe_var (pv 6)) qe_int (fun _ _ => rfl)) (qe_var (pv 2)) (by rfl)) (qw_or1 (qt_cmp lift_ne (op_neD hu64) (qe_ix hu (qe_var (pv 2)) (qe_ix hu (qe_var (pv 6)) qe_int (fun _ _ => rfl)) (fun _ _ => rfl)) (qe_ix hu (qe_var (pv 2)) (qe_ix hu (qe_var (pv 6)) qe_int (fun _ _ => rfl)) (fun _ _ => rfl)) (nomark _))))))
  (qss_one (qs_ret qe_str))
  qss_nil)
  (qss_one (qs_asg qe_bl (qg_sub hu (qe_var (pv 3)) (qe_ix hu (qe_var (pv 6)) qe_int (fun _ _ => rfl)))))))))
  (qss_one (qs_ret qe_str))))))))
theorem df__law_due (C : C K mg) : DFn P w K mg base 2 "_law_due" sp__law_due [] := by
  obtain ⟨fd, F⟩ := C.d__law_due
  exact dfn (ok__law_due C F) C.m__law_due F.kp (F.bindsN fun _ _ _ _ _ _ us hl => match us, hl with | [_, _], _ => rfl)
theorem sc__law_made : FnScope ["_law_parts", "_law_gaps", "_law_named", "_law_others", "_law_found", "e"] ["_law_parts", "_law_gaps"] (defScope s__law_made) := ⟨rfl, rfl, rfl, by decide +kernel, rfl, by decide +kernel, by decide +kernel⟩
theorem ok__law_made (C : C K mg) {fd : FuncData} (F : FunD K "_law_made" "_law_made" (defArgs s__law_made) (defBody s__law_made) (defScope s__law_made) [] [] (He.fAd K ("_law_made", none)) fd) : FnOk P w K mg base (CX P w) 7 (He.fAd K ("_law_made", none)) fd ["_law_parts", "_law_gaps"] (liftSp K sp__law_made) := by
  have M_Thing := @mkc_Thing P w K mg base C
  refine TF.fn_okX (t := t__law_made) F sc__law_made (fun ds A Q E h => len__law_made h) (fun cdv A outer s H E Z0 wd hr tk => ?_) (fun ds A Q E h => rd__law_made h)
  have hu := uA hr
  have hu65 := uC hr
  have hu64 := uB hr
  exact (qss_cons (qs_set (i := 2) sc__law_made.nd rfl (.inl rfl) (qe_lst mkF_ok qa_nil))
  (qss_cons (qs_set (i := 3) sc__law_made.nd rfl (.inl rfl) (qe_lst mkF_ok qa_nil))
  (qss_cons (qs_set (i := 4) sc__law_made.nd rfl (.inl rfl) qe_non)
  (qss_cons (qs_try_as (i := 5) rfl rfl sc__law_made.nd rfl rfl ⟨by rfl, by decide, .inl C.g_SlackError⟩ tk (exc_tab C.tb_SlackError) (fun w Z1 xn xe tk xp => (qss_one (qs_set (i := 4) sc__law_made.nd rfl (.inl rfl) (qe_fzD (qe_mk (c := "Thing") M_Thing hr (by decide) (by rfl) tk (qa_cons (qe_var (pv 0)) (qa_cons (qe_var (pv 1)) qa_nil)) (by decide))))))
  (fun xa xoe xcls xd xpn xc xfs Z1 xsub xz xfl xrx => (qss_cons (qs_set (i := 2) sc__law_made.nd rfl (.inl rfl) (qe_lst mkF_ok (qa_cons (qe_isAny (tb := ti_NoPart) C.ek C.ti_NoPart xz xfl xrx (by rfl) C.n_isinstance (pe_glob (by rfl) C.g_NoPart (v := .ref (He.ga K "NoPart")) rfl (by decide)) (fun _ h => h) (qe_var (pv 5))) (qa_cons (qe_isAny (tb := ti_Twice) C.ek C.ti_Twice xz xfl xrx (by rfl) C.n_isinstance (pe_glob (by rfl) C.g_Twice (v := .ref (He.ga K "Twice")) rfl (by decide)) (fun _ h => h) (qe_var (pv 5))) (qa_cons (qe_isAny (tb := ti_InRing) C.ek C.ti_InRing xz xfl xrx (by rfl) C.n_isinstance (pe_glob (by rfl) C.g_InRing (v := .ref (He.ga K "InRing")) rfl (by decide)) (fun _ h => h) (qe_var (pv 5))) (qa_cons (qe_isAny (tb := ti_NoGap) C.ek C.ti_NoGap xz xfl xrx (by rfl) C.n_isinstance (pe_glob (by rfl) C.g_NoGap (v := .ref (He.ga K "NoGap")) rfl (by decide)) (fun _ h => h) (qe_var (pv 5))) (qa_cons (qe_isAny (tb := ti_Apart) C.ek C.ti_Apart xz xfl xrx (by rfl) C.n_isinstance (pe_glob (by rfl) C.g_Apart (v := .ref (He.ga K "Apart")) rfl (by decide)) (fun _ h => h) (qe_var (pv 5))) qa_nil)))))))
  (qss_one (qs_set (i := 3) sc__law_made.nd rfl (.inl rfl) (qe_lst mkF_ok (qa_cons (qe_isAny (tb := ti_NoTie) C.ek C.ti_NoTie xz xfl xrx (by rfl) C.n_isinstance (pe_glob (by rfl) C.g_NoTie (v := .ref (He.ga K "NoTie")) rfl (by decide)) (fun _ h => h) (qe_var (pv 5))) (qa_cons (qe_isAny (tb := ti_NoName) C.ek C.ti_NoName xz xfl xrx (by rfl) C.n_isinstance (pe_glob (by rfl) C.g_NoName (v := .ref (He.ga K "NoName")) rfl (by decide)) (fun _ h => h) (qe_var (pv 5))) (qa_cons (qe_isAny (tb := ti_NoFace) C.ek C.ti_NoFace xz xfl xrx (by rfl) C.n_isinstance (pe_glob (by rfl) C.g_NoFace (v := .ref (He.ga K "NoFace")) rfl (by decide)) (fun _ h => h) (qe_var (pv 5))) (qa_cons (qe_isAny (tb := ti_Impossible) C.ek C.ti_Impossible xz xfl xrx (by rfl) C.n_isinstance (pe_glob (by rfl) C.g_Impossible (v := .ref (He.ga K "Impossible")) rfl (by decide)) (fun _ h => h) (qe_var (pv 5))) (qa_cons (qe_isAny (tb := ti_NoNumber) C.ek C.ti_NoNumber xz xfl xrx (by rfl) C.n_isinstance (pe_glob (by rfl) C.g_NoNumber (v := .ref (He.ga K "NoNumber")) rfl (by decide)) (fun _ h => h) (qe_var (pv 5))) (qa_cons (qe_isAny (tb := ti_Tight) C.ek C.ti_Tight xz xfl xrx (by rfl) C.n_isinstance (pe_glob (by rfl) C.g_Tight (v := .ref (He.ga K "Tight")) rfl (by decide)) (fun _ h => h) (qe_var (pv 5))) (qa_cons (qe_isAny (tb := ti_Off) C.ek C.ti_Off xz xfl xrx (by rfl) C.n_isinstance (pe_glob (by rfl) C.g_Off (v := .ref (He.ga K "Off")) rfl (by decide)) (fun _ h => h) (qe_var (pv 5))) (qa_cons (qe_isAny (tb := ti_NoRow) C.ek C.ti_NoRow xz xfl xrx (by rfl) C.n_isinstance (pe_glob (by rfl) C.g_NoRow (v := .ref (He.ga K "NoRow")) rfl (by decide)) (fun _ h => h) (qe_var (pv 5))) (qa_cons (qe_not (qe_isAny (tb := ti_ValueError) C.ek C.ti_ValueError xz xfl xrx (by rfl) C.n_isinstance (pe_bltn (v := .ty "ValueError") (by rfl) C.n_ValueError (by decide +kernel) rfl (by decide) (by decide)) (fun _ h => h) (qe_var (pv 5)))) qa_nil)))))))))))))))
  (qss_cons (qs_if (qt_cmp lift_isnot op_isnotAll (qe_var (pv 4)) qe_non (nomark _))
  (qss_one (qs_ret (qe_tup (qa_cons qe_str (qa_cons (qe_var (pv 4)) qa_nil)))))
  qss_nil)
  (qss_cons (qs_if (qt_w (qw_or (qt_cmp lift_in (op_inAll hu65) qe_bl (qe_var (pv 3)) (by rfl)) (qw_or1 (qt_cmp lift_ne (op_neD hu64) (qe_bm lift_cntB PySem.F.plainAttrs_list PySem.F.slot_list_count PySem.F.type_list_count mt_countF (qe_var (pv 2)) (qa_cons qe_bl qa_nil)) qe_int (nomark _)))))
  (qss_one (qs_ret (qe_tup (qa_cons qe_str (qa_cons qe_non qa_nil)))))
  qss_nil)
  (qss_one (qs_ret (qe_tup (qa_cons (qe_ix hu (qe_lst mkF_ok (qa_cons qe_str (qa_cons qe_str (qa_cons qe_str (qa_cons qe_str (qa_cons qe_str qa_nil)))))) (qe_bm lift_idxB PySem.F.plainAttrs_list PySem.F.slot_list_index PySem.F.type_list_index mt_index (qe_var (pv 2)) (qa_cons qe_bl qa_nil)) (fun _ _ => rfl)) (qa_cons qe_non qa_nil)))))))))))
theorem df__law_made (C : C K mg) : DFn P w K mg base 7 "_law_made" sp__law_made [] := by
  obtain ⟨fd, F⟩ := C.d__law_made
  exact dfn (ok__law_made C F) C.m__law_made F.kp (F.bindsN fun _ _ _ _ _ _ us hl => match us, hl with | [_, _], _ => rfl)
theorem sc__law_drawn : FnScope ["_law_script", "_law_style", "_law_parts", "_law_k", "_law_part_here", "_law_way", "_law_gaps", "_law_gap_here"] ["_law_script", "_law_style"] (defScope s__law_drawn) := ⟨rfl, rfl, rfl, by decide +kernel, rfl, by decide +kernel, by decide +kernel⟩
theorem ok__law_drawn (C : C K mg) {fd : FuncData} (F : FunD K "_law_drawn" "_law_drawn" (defArgs s__law_drawn) (defBody s__law_drawn) (defScope s__law_drawn) [] [] (He.fAd K ("_law_drawn", none)) fd) : FnOk P w K mg base (CX P w) 3 (He.fAd K ("_law_drawn", none)) fd ["_law_script", "_law_style"] (liftSp K sp__law_drawn) := by
  have F__law_cell := @df__law_cell P w K mg base C
  have F__law_gap := @df__law_gap P w K mg base C
  have F__law_part := @df__law_part P w K mg base C
  have F__law_spoiled := @df__law_spoiled P w K mg base C
  refine TF.fn_okX (t := t__law_drawn) F sc__law_drawn (fun ds A Q E h => len__law_drawn h) (fun cdv A outer s H E Z0 wd hr tk => ?_) (fun ds A Q E h => rd__law_drawn h)
  have hu := uA hr
  have hu65 := uC hr
  have hu64 := uB hr
  exact (qss_cons (qs_set (i := 2) sc__law_drawn.nd rfl (.inl rfl) (qe_lst mkO_ok qa_nil))
  (qss_cons (qs_for (passes_of rfl) rfl (qi_range1 (by rfl) C.n_range (qa_cons (qe_mod (qe_call F__law_cell hr (by decide) (by rfl) tk (qa_cons (qe_var (pv 0)) (qa_cons qe_int qa_nil))) qe_int) qa_nil)) (qg_name (i := 3) sc__law_drawn.nd rfl (.inl rfl))
  (qss_cons (qs_set (i := 4) sc__law_drawn.nd rfl (.inl rfl) (qe_call F__law_part hr (by decide) (by rfl) tk (qa_cons (qe_var (pv 3)) (qa_cons (qe_lst mkF_ok (qa_cons (qe_call F__law_cell hr (by decide) (by rfl) tk (qa_cons (qe_var (pv 0)) (qa_cons (qe_add mkF_ok qe_int (qe_mul qe_int (qe_var (pv 3)))) qa_nil))) (qa_cons (qe_call F__law_cell hr (by decide) (by rfl) tk (qa_cons (qe_var (pv 0)) (qa_cons (qe_add mkF_ok qe_int (qe_mul qe_int (qe_var (pv 3)))) qa_nil))) qa_nil))) (qa_cons (qe_var (pv 1)) qa_nil)))))
  (qss_cons (qs_set (i := 5) sc__law_drawn.nd rfl (.inl rfl) (qe_div (qe_mod (qe_mul (qe_call F__law_cell hr (by decide) (by rfl) tk (qa_cons (qe_var (pv 0)) (qa_cons (qe_add mkF_ok qe_int (qe_mul qe_int (qe_var (pv 3)))) qa_nil))) qe_int) qe_int) qe_int))
  (qss_one (qs_if (qt_cmp lift_eq (op_eqD hu64) (qe_mod (qe_div (qe_var (pv 5)) qe_int) qe_int) qe_int (nomark _))
  (qss_one (qs_expr (qe_bm lift_app PySem.F.plainAttrs_list PySem.F.slot_list_append PySem.F.type_list_append mt_append (qe_var (pv 2)) (qa_cons (qe_tup (qa_cons qe_bl (qa_cons (qe_call F__law_spoiled hr (by decide) (by rfl) tk (qa_cons (qe_var (pv 4)) (qa_cons (qe_var (pv 5)) qa_nil))) qa_nil))) qa_nil))))
  (qss_one (qs_expr (qe_bm lift_app PySem.F.plainAttrs_list PySem.F.slot_list_append PySem.F.type_list_append mt_append (qe_var (pv 2)) (qa_cons (qe_tup (qa_cons qe_bl (qa_cons (qe_var (pv 4)) qa_nil))) qa_nil)))))))))
  (qss_fz (i := 2)
  (qss_cons (qs_set (i := 6) sc__law_drawn.nd rfl (.inl rfl) (qe_lst mkO_ok qa_nil))
  (qss_cons (qs_for (passes_of rfl) rfl (qi_range1 (by rfl) C.n_range (qa_cons (qe_mod (qe_call F__law_cell hr (by decide) (by rfl) tk (qa_cons (qe_var (pv 0)) (qa_cons qe_int qa_nil))) qe_int) qa_nil)) (qg_name (i := 3) sc__law_drawn.nd rfl (.inl rfl))
  (qss_cons (qs_set (i := 7) sc__law_drawn.nd rfl (.inl rfl) (qe_call F__law_gap hr (by decide) (by rfl) tk (qa_cons (qe_var (pv 3)) (qa_cons (qe_lst mkF_ok (qa_cons (qe_call F__law_cell hr (by decide) (by rfl) tk (qa_cons (qe_var (pv 0)) (qa_cons (qe_add mkF_ok qe_int (qe_mul qe_int (qe_var (pv 3)))) qa_nil))) (qa_cons (qe_call F__law_cell hr (by decide) (by rfl) tk (qa_cons (qe_var (pv 0)) (qa_cons (qe_add mkF_ok qe_int (qe_mul qe_int (qe_var (pv 3)))) qa_nil))) qa_nil))) (qa_cons (qe_var (pv 1)) qa_nil)))))
  (qss_cons (qs_set (i := 5) sc__law_drawn.nd rfl (.inl rfl) (qe_div (qe_mod (qe_mul (qe_call F__law_cell hr (by decide) (by rfl) tk (qa_cons (qe_var (pv 0)) (qa_cons (qe_add mkF_ok qe_int (qe_mul qe_int (qe_var (pv 3)))) qa_nil))) qe_int) qe_int) qe_int))
  (qss_one (qs_if (qt_cmp lift_eq (op_eqD hu64) (qe_mod (qe_div (qe_var (pv 5)) qe_int) qe_int) qe_int (nomark _))
  (qss_one (qs_expr (qe_bm lift_app PySem.F.plainAttrs_list PySem.F.slot_list_append PySem.F.type_list_append mt_append (qe_var (pv 6)) (qa_cons (qe_tup (qa_cons qe_bl (qa_cons (qe_call F__law_spoiled hr (by decide) (by rfl) tk (qa_cons (qe_var (pv 7)) (qa_cons (qe_var (pv 5)) qa_nil))) qa_nil))) qa_nil))))
  (qss_one (qs_expr (qe_bm lift_app PySem.F.plainAttrs_list PySem.F.slot_list_append PySem.F.type_list_append mt_append (qe_var (pv 6)) (qa_cons (qe_tup (qa_cons qe_bl (qa_cons (qe_var (pv 7)) qa_nil))) qa_nil)))))))))
  (qss_fz (i := 6)
  (qss_one (qs_ret (qe_tup (qa_cons (qe_var (pv 2)) (qa_cons (qe_var (pv 6)) qa_nil)))))))))))
theorem df__law_drawn (C : C K mg) : DFn P w K mg base 3 "_law_drawn" sp__law_drawn [] := by
  obtain ⟨fd, F⟩ := C.d__law_drawn
  exact dfn (ok__law_drawn C F) C.m__law_drawn F.kp (F.bindsN fun _ _ _ _ _ _ us hl => match us, hl with | [_, _], _ => rfl)
theorem sc_law : FnScope ["_law_script", "_law_style", "_law_parts", "_law_gaps", "_law_due_here", "_law_handed", "_law_pair", "_law_kept", "_law_word", "_law_found", "_law_told"] ["_law_script"] (defScope s_law) := ⟨rfl, rfl, rfl, by decide +kernel, rfl, by decide +kernel, by decide +kernel⟩
theorem ok_law (C : C K mg) {fd : FuncData} (F : FunD K "law" "law" (defArgs s_law) (defBody s_law) (defScope s_law) [] [] (He.fAd K ("law", none)) fd) : FnOk P w K mg base (CX P w) 8 (He.fAd K ("law", none)) fd ["_law_script"] (liftSp K spLaw) := by
  have F__law_cell := @df__law_cell P w K mg base C
  have F__law_drawn := @df__law_drawn P w K mg base C
  have F__law_due := @df__law_due P w K mg base C
  have F__law_made := @df__law_made P w K mg base C
  have MT_gaps := @dmt_gaps P w K mg base C
  have MT_parts := @dmt_parts P w K mg base C
  refine TF.fn_okX (t := t_law) F sc_law (fun ds A Q E h => len_law h) (fun cdv A outer s H E Z0 wd hr tk => ?_) (fun ds A Q E h => rd_law h)
  have hu := uA hr
  have hu65 := uC hr
  have hu64 := uB hr
  exact (qss_cons (qs_set (i := 1) sc_law.nd rfl (.inl rfl) (qe_mod (qe_call F__law_cell hr (by decide) (by rfl) tk (qa_cons (qe_var (pv 0)) (qa_cons qe_int qa_nil))) qe_int))
  (qss_cons (qs_asg (qe_call F__law_drawn hr (by decide) (by rfl) tk (qa_cons (qe_var (pv 0)) (qa_cons (qe_var (pv 1)) qa_nil))) (qg_tup rfl (qgs_cons (qg_name (i := 2) sc_law.nd rfl (.inl rfl)) (qgs_cons (qg_name (i := 3) sc_law.nd rfl (.inl rfl)) qgs_nil))))
  (qss_cons (qs_set (i := 4) sc_law.nd rfl (.inl rfl) (qe_call F__law_due hr (by decide) (by rfl) tk (qa_cons (qe_var (pv 2)) (qa_cons (qe_var (pv 3)) qa_nil))))
  (qss_cons (qs_set (i := 5) sc_law.nd rfl (.inl rfl) (qe_lst mkO_ok (qa_cons (qe_lc (own := [("_law_pair", 6)]) finO_ok rfl sc_law.nd (qi_seq (qe_var (pv 2))) (blkOk_by (own := [("_law_pair", 6)]) (N := ["_law_script", "_law_style", "_law_parts", "_law_gaps", "_law_due_here", "_law_handed", "_law_pair", "_law_kept", "_law_word", "_law_found", "_law_told"]) (sc := defScope s_law) (by decide +kernel)) (fun _ _ _ _ _ => (qgw_name (i := 6) (by decide) sc_law.nd rfl (by first | exact .inl rfl | exact .inr rfl))) (fun _ _ _ _ _ => qts_nil) (fun _ _ _ _ _ => (qe_ix hu (qe_var (pv 6)) qe_int (fun _ _ => rfl)))) (qa_cons (qe_lc (own := [("_law_pair", 6)]) finO_ok rfl sc_law.nd (qi_seq (qe_var (pv 3))) (blkOk_by (own := [("_law_pair", 6)]) (N := ["_law_script", "_law_style", "_law_parts", "_law_gaps", "_law_due_here", "_law_handed", "_law_pair", "_law_kept", "_law_word", "_law_found", "_law_told"]) (sc := defScope s_law) (by decide +kernel)) (fun _ _ _ _ _ => (qgw_name (i := 6) (by decide) sc_law.nd rfl (by first | exact .inl rfl | exact .inr rfl))) (fun _ _ _ _ _ => qts_nil) (fun _ _ _ _ _ => (qe_ix hu (qe_var (pv 6)) qe_int (fun _ _ => rfl)))) qa_nil))))
  (qss_cons (qs_set (i := 7) sc_law.nd rfl (.inl rfl) (qe_lst mkF_ok (qa_cons (qe_callTy (lift_list mkF_ok) (call_listAll rfl) (by rfl) C.n_list (by decide +kernel) (qa_cons (qe_ix hu (qe_var (pv 5)) qe_int (fun _ _ => rfl)) qa_nil)) (qa_cons (qe_callTy (lift_list mkF_ok) (call_listAll rfl) (by rfl) C.n_list (by decide +kernel) (qa_cons (qe_ix hu (qe_var (pv 5)) qe_int (fun _ _ => rfl)) qa_nil)) qa_nil))))
  (qss_cons (qs_asg (qe_call F__law_made hr (by decide) (by rfl) tk (qa_cons (qe_ix hu (qe_var (pv 5)) qe_int (fun _ _ => rfl)) (qa_cons (qe_ix hu (qe_var (pv 5)) qe_int (fun _ _ => rfl)) qa_nil))) (qg_tup rfl (qgs_cons (qg_name (i := 8) sc_law.nd rfl (.inl rfl)) (qgs_cons (qg_name (i := 9) sc_law.nd rfl (.inl rfl)) qgs_nil))))
  (qss_cons (qs_if (qt_w (qw_or (qt_cmp lift_ne (op_neD hu64) (qe_var (pv 8)) (qe_var (pv 4)) (nomark _)) (qw_or1 (qt_cmp lift_ne2 (op_neD hu64) (qe_var (pv 5)) (qe_var (pv 7)) (nomark _)))))
  (qss_one (qs_ret qe_bl))
  qss_nil)
  (qss_cons (qs_if (qt_cmp lift_is op_isAll (qe_var (pv 9)) qe_non (nomark _))
  (qss_one (qs_ret qe_bl))
  qss_nil)
  (qss_cons (qs_expr (qe_bm lift_app PySem.F.plainAttrs_list PySem.F.slot_list_append PySem.F.type_list_append mt_append (qe_ix hu (qe_var (pv 5)) qe_int (fun _ _ => rfl)) (qa_cons qe_int qa_nil)))
  (qss_cons (qs_expr (qe_bm0 lift_rev PySem.F.plainAttrs_list PySem.F.slot_list_reverse PySem.F.type_list_reverse mt_reverse (qe_ix hu (qe_var (pv 5)) qe_int (fun _ _ => rfl))))
  (qss_cons (qs_if (qt_w (qw_or (qt_cmp lift_ne (op_neD hu64) (qe_fz (qe_mth0 (m := "parts") MT_parts hr (by decide) tk (qe_var (pv 9)))) (qe_ix hu (qe_var (pv 7)) qe_int (fun _ _ => rfl)) (nomark _)) (qw_or1 (qt_cmp lift_ne (op_neD hu64) (qe_fz (qe_mth0 (m := "gaps") MT_gaps hr (by decide) tk (qe_var (pv 9)))) (qe_ix hu (qe_var (pv 7)) qe_int (fun _ _ => rfl)) (nomark _)))))
  (qss_one (qs_ret qe_bl))
  qss_nil)
  (qss_cons (qs_set (i := 10) sc_law.nd rfl (.inl rfl) (qe_lst mkO_ok (qa_cons (qe_mth0 (m := "parts") MT_parts hr (by decide) tk (qe_var (pv 9))) (qa_cons (qe_mth0 (m := "gaps") MT_gaps hr (by decide) tk (qe_var (pv 9))) qa_nil))))
  (qss_cons (qs_expr (qe_bm lift_app PySem.F.plainAttrs_list PySem.F.slot_list_append PySem.F.type_list_append mt_append (qe_ix hu (qe_var (pv 10)) qe_int (fun _ _ => rfl)) (qa_cons qe_int qa_nil)))
  (qss_cons (qs_expr (qe_bm lift_app PySem.F.plainAttrs_list PySem.F.slot_list_append PySem.F.type_list_append mt_append (qe_ix hu (qe_var (pv 10)) qe_int (fun _ _ => rfl)) (qa_cons qe_int qa_nil)))
  (qss_one (qs_ret (qe_and (qe_cmp lift_eq (op_eqD hu64) (qe_fz (qe_mth0 (m := "parts") MT_parts hr (by decide) tk (qe_var (pv 9)))) (qe_ix hu (qe_var (pv 7)) qe_int (fun _ _ => rfl)) (nomark _)) (qe_one (qe_cmp lift_eq (op_eqD hu64) (qe_fz (qe_mth0 (m := "gaps") MT_gaps hr (by decide) tk (qe_var (pv 9)))) (qe_ix hu (qe_var (pv 7)) qe_int (fun _ _ => rfl)) (nomark _))))))))))))))))))))
end
theorem facts {P : Program} {w : World} {K : PySem.W.Frag} {h : Heap} {mg : Str → Option Value} {f : Addr} (X : K.In h) (G : h.Ns mainGlobals mg) (hfa : mg ("law" : Str) = some (.ref f)) (c : He.SaysD H41.fa H41.fn K) (cx : allX H41.fx K = true) :
    ∃ fd : FuncData, (∀ (s : Shared) (v : Value), BindsTo s fd ⟨[v], []⟩ [("_law_script", v)]) ∧ ∀ base : Heap, K.In base → base.Ns mainGlobals mg → FnOk P w K mg base (CX P w) 8 f fd ["_law_script"] (liftSp K spLaw) := by
  have C : C K mg := {
    d_divisor := c.def_ 0 (d := H41.d_divisor) rfl
    d_under := c.def_ 1 (d := H41.d_under) rfl
    d_is_whole := c.def_ 2 (d := H41.d_is_whole) rfl
    d_is_name := c.def_ 3 (d := H41.d_is_name) rfl
    d_is_fraction := c.def_ 4 (d := H41.d_is_fraction) rfl
    d_has_ends := c.def_ 5 (d := H41.d_has_ends) rfl
    d_is_part := c.def_ 6 (d := H41.d_is_part) rfl
    d_is_gap := c.def_ 7 (d := H41.d_is_gap) rfl
    d_way_between := c.def_ 8 (d := H41.d_way_between) rfl
    d_Thing_add_part := c.def_ 9 (d := H41.d_Thing_add_part) rfl
    d_Thing_add_gap := c.def_ 10 (d := H41.d_Thing_add_gap) rfl
    d_Thing___init__ := c.def_ 11 (d := H41.d_Thing___init__) rfl
    d_Thing_parts := c.def_ 12 (d := H41.d_Thing_parts) rfl
    d_Thing_gaps := c.def_ 13 (d := H41.d_Thing_gaps) rfl
    d__law_cell := c.def_ 14 (d := H41.d__law_cell) rfl
    d__law_signed := c.def_ 15 (d := H41.d__law_signed) rfl
    d__law_low := c.def_ 16 (d := H41.d__law_low) rfl
    d__law_name := c.def_ 17 (d := H41.d__law_name) rfl
    d__law_part := c.def_ 18 (d := H41.d__law_part) rfl
    d__law_gap := c.def_ 19 (d := H41.d__law_gap) rfl
    d__law_with := c.def_ 20 (d := H41.d__law_with) rfl
    d__law_spoiled := c.def_ 21 (d := H41.d__law_spoiled) rfl
    d__law_joined := c.def_ 22 (d := H41.d__law_joined) rfl
    d__law_due := c.def_ 23 (d := H41.d__law_due) rfl
    d__law_made := c.def_ 24 (d := H41.d__law_made) rfl
    d__law_drawn := c.def_ 25 (d := H41.d__law_drawn) rfl
    d_law := c.def_ 26 (d := H41.d_law) rfl
    n_ValueError := He.free_ok X G (c.fact 0 (f := .free "ValueError") rfl)
    n_abs := He.free_ok X G (c.fact 1 (f := .free "abs") rfl)
    n_bool := He.free_ok X G (c.fact 2 (f := .free "bool") rfl)
    n_int := He.free_ok X G (c.fact 3 (f := .free "int") rfl)
    n_isinstance := He.free_ok X G (c.fact 4 (f := .free "isinstance") rfl)
    n_len := He.free_ok X G (c.fact 5 (f := .free "len") rfl)
    n_list := He.free_ok X G (c.fact 6 (f := .free "list") rfl)
    n_min := He.free_ok X G (c.fact 7 (f := .free "min") rfl)
    n_range := He.free_ok X G (c.fact 8 (f := .free "range") rfl)
    n_str := He.free_ok X G (c.fact 9 (f := .free "str") rfl)
    n_tuple := He.free_ok X G (c.fact 10 (f := .free "tuple") rfl)
    g_Apart := He.glo_ok X G (c.fact 11 (f := .glo "Apart") rfl)
    g_Impossible := He.glo_ok X G (c.fact 12 (f := .glo "Impossible") rfl)
    g_InRing := He.glo_ok X G (c.fact 13 (f := .glo "InRing") rfl)
    g_NoFace := He.glo_ok X G (c.fact 14 (f := .glo "NoFace") rfl)
    g_NoGap := He.glo_ok X G (c.fact 15 (f := .glo "NoGap") rfl)
    g_NoName := He.glo_ok X G (c.fact 16 (f := .glo "NoName") rfl)
    g_NoNumber := He.glo_ok X G (c.fact 17 (f := .glo "NoNumber") rfl)
    g_NoPart := He.glo_ok X G (c.fact 18 (f := .glo "NoPart") rfl)
    g_NoRow := He.glo_ok X G (c.fact 19 (f := .glo "NoRow") rfl)
    g_NoTie := He.glo_ok X G (c.fact 20 (f := .glo "NoTie") rfl)
    g_Off := He.glo_ok X G (c.fact 21 (f := .glo "Off") rfl)
    g_SlackError := He.glo_ok X G (c.fact 22 (f := .glo "SlackError") rfl)
    g_Thing := He.glo_ok X G (c.fact 23 (f := .glo "Thing") rfl)
    g_Tight := He.glo_ok X G (c.fact 24 (f := .glo "Tight") rfl)
    g_Twice := He.glo_ok X G (c.fact 25 (f := .glo "Twice") rfl)
    s_LETTERS := He.str_ok X G (c.fact 26 (f := .str "LETTERS" "abcdefghijklmnopqrstuvwxyz") rfl)
    x_Apart := (c.fact 27 (f := .exc "Apart") rfl)
    x_InRing := (c.fact 28 (f := .exc "InRing") rfl)
    x_NoGap := (c.fact 29 (f := .exc "NoGap") rfl)
    x_NoPart := (c.fact 30 (f := .exc "NoPart") rfl)
    x_Twice := (c.fact 31 (f := .exc "Twice") rfl)
    tb_SlackError := (List.forall_mem_cons.mpr ⟨(c.fact 32 (f := .exm "Apart" "SlackError" true) rfl), (List.forall_mem_cons.mpr ⟨(c.fact 33 (f := .exm "InRing" "SlackError" true) rfl), (List.forall_mem_cons.mpr ⟨(c.fact 34 (f := .exm "NoGap" "SlackError" true) rfl), (List.forall_mem_cons.mpr ⟨(c.fact 35 (f := .exm "NoPart" "SlackError" true) rfl), (List.forall_mem_cons.mpr ⟨(c.fact 36 (f := .exm "Twice" "SlackError" true) rfl), (fun _ h => nomatch h)⟩)⟩)⟩)⟩)⟩)
    ek := (List.forall_mem_cons.mpr ⟨(fxEx_ok (allX_at cx 0 (f := fxEx "Apart") rfl)), (List.forall_mem_cons.mpr ⟨(fxEx_ok (allX_at cx 1 (f := fxEx "InRing") rfl)), (List.forall_mem_cons.mpr ⟨(fxEx_ok (allX_at cx 2 (f := fxEx "NoGap") rfl)), (List.forall_mem_cons.mpr ⟨(fxEx_ok (allX_at cx 3 (f := fxEx "NoPart") rfl)), (List.forall_mem_cons.mpr ⟨(fxEx_ok (allX_at cx 4 (f := fxEx "Twice") rfl)), (fun _ h => nomatch h)⟩)⟩)⟩)⟩)⟩)
    ti_Apart := (List.forall_mem_cons.mpr ⟨(of_decide_eq_true (allX_at cx 5 (f := fxIs "Apart" "Apart" true) rfl)), (List.forall_mem_cons.mpr ⟨(of_decide_eq_true (allX_at cx 6 (f := fxIs "InRing" "Apart" false) rfl)), (List.forall_mem_cons.mpr ⟨(of_decide_eq_true (allX_at cx 7 (f := fxIs "NoGap" "Apart" false) rfl)), (List.forall_mem_cons.mpr ⟨(of_decide_eq_true (allX_at cx 8 (f := fxIs "NoPart" "Apart" false) rfl)), (List.forall_mem_cons.mpr ⟨(of_decide_eq_true (allX_at cx 9 (f := fxIs "Twice" "Apart" false) rfl)), (fun _ h => nomatch h)⟩)⟩)⟩)⟩)⟩)
    ti_Impossible := (List.forall_mem_cons.mpr ⟨(of_decide_eq_true (allX_at cx 10 (f := fxIs "Apart" "Impossible" false) rfl)), (List.forall_mem_cons.mpr ⟨(of_decide_eq_true (allX_at cx 11 (f := fxIs "InRing" "Impossible" false) rfl)), (List.forall_mem_cons.mpr ⟨(of_decide_eq_true (allX_at cx 12 (f := fxIs "NoGap" "Impossible" false) rfl)), (List.forall_mem_cons.mpr ⟨(of_decide_eq_true (allX_at cx 13 (f := fxIs "NoPart" "Impossible" false) rfl)), (List.forall_mem_cons.mpr ⟨(of_decide_eq_true (allX_at cx 14 (f := fxIs "Twice" "Impossible" false) rfl)), (fun _ h => nomatch h)⟩)⟩)⟩)⟩)⟩)
    ti_InRing := (List.forall_mem_cons.mpr ⟨(of_decide_eq_true (allX_at cx 15 (f := fxIs "Apart" "InRing" false) rfl)), (List.forall_mem_cons.mpr ⟨(of_decide_eq_true (allX_at cx 16 (f := fxIs "InRing" "InRing" true) rfl)), (List.forall_mem_cons.mpr ⟨(of_decide_eq_true (allX_at cx 17 (f := fxIs "NoGap" "InRing" false) rfl)), (List.forall_mem_cons.mpr ⟨(of_decide_eq_true (allX_at cx 18 (f := fxIs "NoPart" "InRing" false) rfl)), (List.forall_mem_cons.mpr ⟨(of_decide_eq_true (allX_at cx 19 (f := fxIs "Twice" "InRing" false) rfl)), (fun _ h => nomatch h)⟩)⟩)⟩)⟩)⟩)
    ti_NoFace := (List.forall_mem_cons.mpr ⟨(of_decide_eq_true (allX_at cx 20 (f := fxIs "Apart" "NoFace" false) rfl)), (List.forall_mem_cons.mpr ⟨(of_decide_eq_true (allX_at cx 21 (f := fxIs "InRing" "NoFace" false) rfl)), (List.forall_mem_cons.mpr ⟨(of_decide_eq_true (allX_at cx 22 (f := fxIs "NoGap" "NoFace" false) rfl)), (List.forall_mem_cons.mpr ⟨(of_decide_eq_true (allX_at cx 23 (f := fxIs "NoPart" "NoFace" false) rfl)), (List.forall_mem_cons.mpr ⟨(of_decide_eq_true (allX_at cx 24 (f := fxIs "Twice" "NoFace" false) rfl)), (fun _ h => nomatch h)⟩)⟩)⟩)⟩)⟩)
    ti_NoGap := (List.forall_mem_cons.mpr ⟨(of_decide_eq_true (allX_at cx 25 (f := fxIs "Apart" "NoGap" false) rfl)), (List.forall_mem_cons.mpr ⟨(of_decide_eq_true (allX_at cx 26 (f := fxIs "InRing" "NoGap" false) rfl)), (List.forall_mem_cons.mpr ⟨(of_decide_eq_true (allX_at cx 27 (f := fxIs "NoGap" "NoGap" true) rfl)), (List.forall_mem_cons.mpr ⟨(of_decide_eq_true (allX_at cx 28 (f := fxIs "NoPart" "NoGap" false) rfl)), (List.forall_mem_cons.mpr ⟨(of_decide_eq_true (allX_at cx 29 (f := fxIs "Twice" "NoGap" false) rfl)), (fun _ h => nomatch h)⟩)⟩)⟩)⟩)⟩)
    ti_NoName := (List.forall_mem_cons.mpr ⟨(of_decide_eq_true (allX_at cx 30 (f := fxIs "Apart" "NoName" false) rfl)), (List.forall_mem_cons.mpr ⟨(of_decide_eq_true (allX_at cx 31 (f := fxIs "InRing" "NoName" false) rfl)), (List.forall_mem_cons.mpr ⟨(of_decide_eq_true (allX_at cx 32 (f := fxIs "NoGap" "NoName" false) rfl)), (List.forall_mem_cons.mpr ⟨(of_decide_eq_true (allX_at cx 33 (f := fxIs "NoPart" "NoName" false) rfl)), (List.forall_mem_cons.mpr ⟨(of_decide_eq_true (allX_at cx 34 (f := fxIs "Twice" "NoName" false) rfl)), (fun _ h => nomatch h)⟩)⟩)⟩)⟩)⟩)
    ti_NoNumber := (List.forall_mem_cons.mpr ⟨(of_decide_eq_true (allX_at cx 35 (f := fxIs "Apart" "NoNumber" false) rfl)), (List.forall_mem_cons.mpr ⟨(of_decide_eq_true (allX_at cx 36 (f := fxIs "InRing" "NoNumber" false) rfl)), (List.forall_mem_cons.mpr ⟨(of_decide_eq_true (allX_at cx 37 (f := fxIs "NoGap" "NoNumber" false) rfl)), (List.forall_mem_cons.mpr ⟨(of_decide_eq_true (allX_at cx 38 (f := fxIs "NoPart" "NoNumber" false) rfl)), (List.forall_mem_cons.mpr ⟨(of_decide_eq_true (allX_at cx 39 (f := fxIs "Twice" "NoNumber" false) rfl)), (fun _ h => nomatch h)⟩)⟩)⟩)⟩)⟩)
    ti_NoPart := (List.forall_mem_cons.mpr ⟨(of_decide_eq_true (allX_at cx 40 (f := fxIs "Apart" "NoPart" false) rfl)), (List.forall_mem_cons.mpr ⟨(of_decide_eq_true (allX_at cx 41 (f := fxIs "InRing" "NoPart" false) rfl)), (List.forall_mem_cons.mpr ⟨(of_decide_eq_true (allX_at cx 42 (f := fxIs "NoGap" "NoPart" false) rfl)), (List.forall_mem_cons.mpr ⟨(of_decide_eq_true (allX_at cx 43 (f := fxIs "NoPart" "NoPart" true) rfl)), (List.forall_mem_cons.mpr ⟨(of_decide_eq_true (allX_at cx 44 (f := fxIs "Twice" "NoPart" false) rfl)), (fun _ h => nomatch h)⟩)⟩)⟩)⟩)⟩)
    ti_NoRow := (List.forall_mem_cons.mpr ⟨(of_decide_eq_true (allX_at cx 45 (f := fxIs "Apart" "NoRow" false) rfl)), (List.forall_mem_cons.mpr ⟨(of_decide_eq_true (allX_at cx 46 (f := fxIs "InRing" "NoRow" false) rfl)), (List.forall_mem_cons.mpr ⟨(of_decide_eq_true (allX_at cx 47 (f := fxIs "NoGap" "NoRow" false) rfl)), (List.forall_mem_cons.mpr ⟨(of_decide_eq_true (allX_at cx 48 (f := fxIs "NoPart" "NoRow" false) rfl)), (List.forall_mem_cons.mpr ⟨(of_decide_eq_true (allX_at cx 49 (f := fxIs "Twice" "NoRow" false) rfl)), (fun _ h => nomatch h)⟩)⟩)⟩)⟩)⟩)
    ti_NoTie := (List.forall_mem_cons.mpr ⟨(of_decide_eq_true (allX_at cx 50 (f := fxIs "Apart" "NoTie" false) rfl)), (List.forall_mem_cons.mpr ⟨(of_decide_eq_true (allX_at cx 51 (f := fxIs "InRing" "NoTie" false) rfl)), (List.forall_mem_cons.mpr ⟨(of_decide_eq_true (allX_at cx 52 (f := fxIs "NoGap" "NoTie" false) rfl)), (List.forall_mem_cons.mpr ⟨(of_decide_eq_true (allX_at cx 53 (f := fxIs "NoPart" "NoTie" false) rfl)), (List.forall_mem_cons.mpr ⟨(of_decide_eq_true (allX_at cx 54 (f := fxIs "Twice" "NoTie" false) rfl)), (fun _ h => nomatch h)⟩)⟩)⟩)⟩)⟩)
    ti_Off := (List.forall_mem_cons.mpr ⟨(of_decide_eq_true (allX_at cx 55 (f := fxIs "Apart" "Off" false) rfl)), (List.forall_mem_cons.mpr ⟨(of_decide_eq_true (allX_at cx 56 (f := fxIs "InRing" "Off" false) rfl)), (List.forall_mem_cons.mpr ⟨(of_decide_eq_true (allX_at cx 57 (f := fxIs "NoGap" "Off" false) rfl)), (List.forall_mem_cons.mpr ⟨(of_decide_eq_true (allX_at cx 58 (f := fxIs "NoPart" "Off" false) rfl)), (List.forall_mem_cons.mpr ⟨(of_decide_eq_true (allX_at cx 59 (f := fxIs "Twice" "Off" false) rfl)), (fun _ h => nomatch h)⟩)⟩)⟩)⟩)⟩)
    ti_Tight := (List.forall_mem_cons.mpr ⟨(of_decide_eq_true (allX_at cx 60 (f := fxIs "Apart" "Tight" false) rfl)), (List.forall_mem_cons.mpr ⟨(of_decide_eq_true (allX_at cx 61 (f := fxIs "InRing" "Tight" false) rfl)), (List.forall_mem_cons.mpr ⟨(of_decide_eq_true (allX_at cx 62 (f := fxIs "NoGap" "Tight" false) rfl)), (List.forall_mem_cons.mpr ⟨(of_decide_eq_true (allX_at cx 63 (f := fxIs "NoPart" "Tight" false) rfl)), (List.forall_mem_cons.mpr ⟨(of_decide_eq_true (allX_at cx 64 (f := fxIs "Twice" "Tight" false) rfl)), (fun _ h => nomatch h)⟩)⟩)⟩)⟩)⟩)
    ti_Twice := (List.forall_mem_cons.mpr ⟨(of_decide_eq_true (allX_at cx 65 (f := fxIs "Apart" "Twice" false) rfl)), (List.forall_mem_cons.mpr ⟨(of_decide_eq_true (allX_at cx 66 (f := fxIs "InRing" "Twice" false) rfl)), (List.forall_mem_cons.mpr ⟨(of_decide_eq_true (allX_at cx 67 (f := fxIs "NoGap" "Twice" false) rfl)), (List.forall_mem_cons.mpr ⟨(of_decide_eq_true (allX_at cx 68 (f := fxIs "NoPart" "Twice" false) rfl)), (List.forall_mem_cons.mpr ⟨(of_decide_eq_true (allX_at cx 69 (f := fxIs "Twice" "Twice" true) rfl)), (fun _ h => nomatch h)⟩)⟩)⟩)⟩)⟩)
    ti_ValueError := (List.forall_mem_cons.mpr ⟨(of_decide_eq_true (allX_at cx 70 (f := fxIsB "Apart" "ValueError" true) rfl)), (List.forall_mem_cons.mpr ⟨(of_decide_eq_true (allX_at cx 71 (f := fxIsB "InRing" "ValueError" true) rfl)), (List.forall_mem_cons.mpr ⟨(of_decide_eq_true (allX_at cx 72 (f := fxIsB "NoGap" "ValueError" true) rfl)), (List.forall_mem_cons.mpr ⟨(of_decide_eq_true (allX_at cx 73 (f := fxIsB "NoPart" "ValueError" true) rfl)), (List.forall_mem_cons.mpr ⟨(of_decide_eq_true (allX_at cx 74 (f := fxIsB "Twice" "ValueError" true) rfl)), (fun _ h => nomatch h)⟩)⟩)⟩)⟩)⟩)
    f_kept_gaps := (List.forall_mem_cons.mpr ⟨⟨He.cls_ok (c.fact 37 (f := .cls "Thing") rfl), He.noat_ok (c.fact 38 (f := .noat "Thing" "kept_gaps") rfl)⟩, (fun _ h => nomatch h)⟩)
    f_kept_parts := (List.forall_mem_cons.mpr ⟨⟨He.cls_ok (c.fact 39 (f := .cls "Thing") rfl), He.noat_ok (c.fact 40 (f := .noat "Thing" "kept_parts") rfl)⟩, (fun _ h => nomatch h)⟩)
    f_kept_ways := (List.forall_mem_cons.mpr ⟨⟨He.cls_ok (c.fact 41 (f := .cls "Thing") rfl), He.noat_ok (c.fact 42 (f := .noat "Thing" "kept_ways") rfl)⟩, (fun _ h => nomatch h)⟩)
    f_sizes := (List.forall_mem_cons.mpr ⟨⟨He.cls_ok (c.fact 43 (f := .cls "Thing") rfl), He.noat_ok (c.fact 44 (f := .noat "Thing" "sizes") rfl)⟩, (fun _ h => nomatch h)⟩)
    me_Thing_add_gap := ⟨He.cls_ok (c.fact 45 (f := .cls "Thing") rfl), He.meth_ok (c.fact 46 (f := .meth "Thing" "add_gap") rfl)⟩
    me_Thing_add_part := ⟨He.cls_ok (c.fact 47 (f := .cls "Thing") rfl), He.meth_ok (c.fact 48 (f := .meth "Thing" "add_part") rfl)⟩
    me_Thing_gaps := ⟨He.cls_ok (c.fact 49 (f := .cls "Thing") rfl), He.meth_ok (c.fact 50 (f := .meth "Thing" "gaps") rfl)⟩
    me_Thing_parts := ⟨He.cls_ok (c.fact 51 (f := .cls "Thing") rfl), He.meth_ok (c.fact 52 (f := .meth "Thing" "parts") rfl)⟩
    mk_Thing := He.mkr_ok (c.fact 53 (f := .mkr "Thing") rfl)
    m_divisor := He.glo_ok X G (c.fact 54 (f := .glo "divisor") rfl)
    m_under := He.glo_ok X G (c.fact 55 (f := .glo "under") rfl)
    m_is_whole := He.glo_ok X G (c.fact 56 (f := .glo "is_whole") rfl)
    m_is_name := He.glo_ok X G (c.fact 57 (f := .glo "is_name") rfl)
    m_is_fraction := He.glo_ok X G (c.fact 58 (f := .glo "is_fraction") rfl)
    m_has_ends := He.glo_ok X G (c.fact 59 (f := .glo "has_ends") rfl)
    m_is_part := He.glo_ok X G (c.fact 60 (f := .glo "is_part") rfl)
    m_is_gap := He.glo_ok X G (c.fact 61 (f := .glo "is_gap") rfl)
    m_way_between := He.glo_ok X G (c.fact 62 (f := .glo "way_between") rfl)
    m__law_cell := He.glo_ok X G (c.fact 63 (f := .glo "_law_cell") rfl)
    m__law_signed := He.glo_ok X G (c.fact 64 (f := .glo "_law_signed") rfl)
    m__law_low := He.glo_ok X G (c.fact 65 (f := .glo "_law_low") rfl)
    m__law_name := He.glo_ok X G (c.fact 66 (f := .glo "_law_name") rfl)
    m__law_part := He.glo_ok X G (c.fact 67 (f := .glo "_law_part") rfl)
    m__law_gap := He.glo_ok X G (c.fact 68 (f := .glo "_law_gap") rfl)
    m__law_with := He.glo_ok X G (c.fact 69 (f := .glo "_law_with") rfl)
    m__law_spoiled := He.glo_ok X G (c.fact 70 (f := .glo "_law_spoiled") rfl)
    m__law_joined := He.glo_ok X G (c.fact 71 (f := .glo "_law_joined") rfl)
    m__law_due := He.glo_ok X G (c.fact 72 (f := .glo "_law_due") rfl)
    m__law_made := He.glo_ok X G (c.fact 73 (f := .glo "_law_made") rfl)
    m__law_drawn := He.glo_ok X G (c.fact 74 (f := .glo "_law_drawn") rfl)
    m_law := He.glo_ok X G (c.fact 75 (f := .glo "law") rfl) }
  obtain ⟨fd, F⟩ := C.d_law
  have e := hfa.symm.trans C.m_law
  cases e
  have b := FunD.bindsA (ps := ["_law_script"]) F fun _ _ _ _ _ _ us hl => match us, hl with | [_], _ => rfl
  exact ⟨fd, fun s v => b s [v] rfl, fun base _ _ => ok_law C F⟩
end K41
open PySem PySem.W PySem.Calls PyProof.Rows
theorem PySem.Challenge.cw_slackchain_k41_things_made_or_refused_holds : PySem.Challenge.rw_slackchain_k41_things_made_or_refused.Holds := by
  w_on; o_law
  refine HandSHeadRun.head_any (r := OpenLaw.row PySem.Challenge.rw_slackchain_k41_things_made_or_refused) (q := view (PySem.W.OpenLaw.row PySem.Challenge.rw_slackchain_k41_things_made_or_refused).prog [45]) (H := H41.hk) (ob := H41.ob) (M := 12000) (loose := ("SlackError" :: "NoNumber" :: "NoTie" :: "Twice" :: "NoName" :: "NoFace" :: "Impossible" :: "NoPart" :: "NoGap" :: "InRing" :: "Apart" :: "Tight" :: "Off" :: "NoRow" :: "divisor" :: "fraction" :: "plus" :: "minus" :: "under" :: "LETTERS" :: "is_whole" :: "is_name" :: "is_fraction" :: "has_ends" :: "is_part" :: "is_gap" :: "way_between" :: "Thing" :: "_law_cell" :: "_law_signed" :: "_law_low" :: "_law_name" :: "_law_part" :: "_law_gap" :: "_law_with" :: "_law_spoiled" :: "_law_joined" :: "_law_due" :: "_law_made" :: "_law_drawn" :: [])) (d := HandSHeadRun.topDef (PySem.W.OpenLaw.row PySem.Challenge.rw_slackchain_k41_things_made_or_refused).prog 45) (kwd := []) H41.ob_eq
    (by kernel_rfl) (fun s => by kernel_rfl) H41.run (by kernel_rfl) (by kernel_rfl) (by kernel_rfl) (by rfl) (by first | assumption | decide +kernel) (by decide +kernel) ⟨rfl, rfl, rfl, rfl, rfl, by decide +kernel⟩ ?hw ?hc
  case hw => w_witness2
  case hc =>
    refine DL.walk_ofW (l := PySem.Challenge.rw_slackchain_k41_things_made_or_refused) (n := 63) (k := 8) (x := "_law_script") rfl (by decide) (by kernel_rfl) ⟨rfl, by decide, by decide⟩ ?F
    intro w mg fa h Y G hmg0
    obtain ⟨K, KX, c⟩ := Y
    have hmg : mg ("law" : PySem.Str) = some (.ref fa) := by
      have e : (HandSHeadRun.topDef (PySem.W.OpenLaw.row PySem.Challenge.rw_slackchain_k41_things_made_or_refused).prog 45).name = ("law" : PySem.Str) := by kernel_rfl
      rw [← e]
      exact hmg0
    obtain ⟨fd, hb, hF⟩ := K41.facts (P := (PySem.Challenge.rw_slackchain_k41_things_made_or_refused).prog) (w := w) KX G hmg c.1 c.2
    exact ⟨K, fd, DL.liftSp K DL.spLaw, KX, hb, fun H a ns hl hS => DL.sp_end hl hS, hF⟩

