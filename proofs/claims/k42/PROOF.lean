import PyProof.Rows.All
import Wide.All
import OpenK.AllK
import Wide.FinOn
import HandS.ForMost
import HandS.ForExc
import HandS.CallSlots
import HandS.Walk
import HandS.Wide
import HandS.IsInst
import HandS.ExcIs
import HandS.ExcField
import HandS.ExcInit
import HandS.Defaults
import HandS.HeadHook4
import HandS.TupAny
import HandS.TupMul
import HandS.Deep
import HandS.TupLe
import HandS.WideBits
import HandS.More
import HandS.SetFor
import HandS.ExcOwn
import HandS.EndBits
import HandS.ClsMeth
import HandS.Comp
import HandS.RevRange
import HandS.Rev
import HandS.Codes
import HandS.Head0
import HandS.Head1
import HandS.Head2
import HandS.HeadEnd
import HandS.HeadHook1
import HandS.HeadHook2
import HandS.HeadHook3
import PySem.Challenge.RW_slackchain_k42_ways_of_gaps
set_option Elab.async false
set_option linter.all false
set_option maxRecDepth 100000
set_option maxHeartbeats 0
/-! DL0: values as trees, the readings over them. -/
namespace DL
open PySem PySem.Spec PyProof.Rows L2

/-- a table's row, by a name (irreducible: comparing texts by whnf is slow without end) -/
@[irreducible] def lookS {α : Type} (a : String) (l : List (String × α)) : Option α := l.lookup a
theorem lookS_eq {α : Type} (a : String) (l : List (String × α)) : lookS a l = l.lookup a := by unfold lookS; rfl
@[simp] theorem lookS_nil {α : Type} (a : String) : lookS a ([] : List (String × α)) = none := by rw [lookS_eq]; rfl
@[simp] theorem lookS_cons {α : Type} (a k : String) (b : α) (l : List (String × α)) : lookS a ((k, b) :: l) = if k = a then some b else lookS a l := by
  rw [lookS_eq, lookS_eq, List.lookup_cons]
  by_cases h : k = a
  · subst h; simp
  · have : (a == k) = false := beq_eq_false_iff_ne.mpr fun e => h e.symm
    rw [this, if_neg h]
/-- a value as data: tuples, frozen lists, dicts and objects by what they hold; ref: an object that may change -/
inductive D where
  | non | bl (b : Bool) | int (i : Int) | str (x : Str)
  | tup (l : List D) | lst (l : List D) | rol (l : List D)
  | dic (ks : List Key) (vs : List D)
  | obj (c : String) (ns : List String) (vs : List D)
  | ref (a : Addr)

/-- what may change at an address -/
inductive AO where
  | lst (l : List D) | dic (kvs : List (Key × D)) | obj (c : String) (fs : List (String × D))

abbrev AH := Addr → Option AO
def AH.put (A : AH) (a : Addr) (o : AO) : AH := fun b => if b = a then some o else A b
def AH.del (A : AH) (a : Addr) : AH := fun b => if b = a then none else A b
@[simp] theorem AH.put_same (A : AH) (a : Addr) (o : AO) : (A.put a o) a = some o := if_pos rfl
theorem AH.put_ne (A : AH) {a b : Addr} (o : AO) (h : b ≠ a) : (A.put a o) b = A b := if_neg h
@[simp] theorem AH.put_put (A : AH) (a : Addr) (o u : AO) : (A.put a o).put a u = A.put a u := by
  funext b; unfold AH.put; split <;> rfl
@[simp] theorem AH.del_put {A : AH} {a : Addr} {o : AO} (h : A a = none) : (A.put a o).del a = A := by
  funext b; simp only [AH.put, AH.del]
  by_cases hb : b = a
  · rw [if_pos hb, hb, h]
  · rw [if_neg hb, if_neg hb]
theorem AH.del_ne (A : AH) {a b : Addr} (h : b ≠ a) : (A.del a) b = A b := if_neg h
@[simp] theorem AH.del_same (A : AH) (a : Addr) : (A.del a) a = none := if_pos rfl
@[simp] theorem AH.put_none {A : AH} {a b : Addr} {o : AO} : (A.put a o) b = none ↔ b ≠ a ∧ A b = none := by
  unfold AH.put
  by_cases hb : b = a
  · rw [if_pos hb]; simp [hb]
  · rw [if_neg hb]; simp [hb]
theorem AH.put_comm (A : AH) {a b : Addr} (o u : AO) (h : a ≠ b) : (A.put a o).put b u = (A.put b u).put a o := by
  funext c; simp only [AH.put]
  by_cases h1 : c = b
  · rw [if_pos h1, if_neg (fun e => h (e.symm.trans h1)), if_pos h1]
  · rw [if_neg h1]
    by_cases h2 : c = a
    · rw [if_pos h2, if_pos h2]
    · rw [if_neg h2, if_neg h2, if_neg h1]
theorem AH.del_put_ne (A : AH) {a b : Addr} (o : AO) (h : a ≠ b) : (A.put a o).del b = (A.del b).put a o := by
  funext c; simp only [AH.put, AH.del]
  by_cases h1 : c = b
  · rw [if_pos h1, if_neg (fun e => h (e.symm.trans h1)), if_pos h1]
  · rw [if_neg h1]
    by_cases h2 : c = a
    · rw [if_pos h2, if_pos h2]
    · rw [if_neg h2, if_neg h2, if_neg h1]
theorem AH.del_id {A : AH} {a : Addr} (h : A a = none) : A.del a = A := by
  funext b; unfold AH.del
  by_cases hb : b = a
  · rw [if_pos hb, hb, h]
  · rw [if_neg hb]

/-! ### relations -/
section
variable (K : PySem.W.Frag)
mutual
def RV (Z : Hp) : D → V → Prop
  | .non, v => v = .non
  | .bl b, v => v = .bl b
  | .int i, v => v = .int i
  | .str x, v => v = .str x
  | .tup l, v => ∃ p vs, v = .ref p ∧ SqT K Z p vs ∧ RVs Z l vs
  | .lst l, v => ∃ p vs, v = .ref p ∧ Z p = some (.lst vs) ∧ RVs Z l vs
  | .rol l, v => ∃ p vs, v = .ref p ∧ SqL K Z p vs ∧ RVs Z l vs
  | .dic ks ds, v => ∃ p kvs, v = .ref p ∧ Z p = some (.dK kvs) ∧ kvs.map (·.1) = ks ∧ RVs Z ds (kvs.map (·.2))
  | .obj c ns ds, v => ∃ p dx fs, v = .ref p ∧ Z p = some (.ins (He.ga K (Str.ofString c)) dx fs) ∧ fs.map (·.1) = ns.map Str.ofString ∧ RVs Z ds (fs.map (·.2))
  | .ref a, v => v = .ref a
def RVs (Z : Hp) : List D → List V → Prop
  | [], vs => vs = []
  | d :: l, vs => ∃ v r, vs = v :: r ∧ RV Z d v ∧ RVs Z l r
end
end
variable {K : PySem.W.Frag} {Z Z' : Hp}
theorem rd_mono (e : Same Z Z') {a : Addr} {u : HO} (h : Rd Z a u) : Rd Z' a u := by
  rcases h with h | ⟨o, h⟩
  · exact .inl (e _ _ h)
  · exact .inr ⟨o, e _ _ h⟩
theorem sqL_mono (e : Same Z Z') {a : Addr} {xs : List V} (h : SqL K Z a xs) : SqL K Z' a xs := h.imp (rd_mono e) id
theorem sqT_mono (e : Same Z Z') {a : Addr} {xs : List V} (h : SqT K Z a xs) : SqT K Z' a xs := h.imp (rd_mono e) id
mutual
theorem RV.mono (e : Same Z Z') : ∀ {d : D} {v : V}, RV K Z d v → RV K Z' d v
  | .non, _, h => by simpa only [RV] using h
  | .bl _, _, h => by simpa only [RV] using h
  | .int _, _, h => by simpa only [RV] using h
  | .str _, _, h => by simpa only [RV] using h
  | .ref _, _, h => by simpa only [RV] using h
  | .tup l, _, h => by
    simp only [RV] at h ⊢
    obtain ⟨p, vs, h1, h2, h3⟩ := h
    exact ⟨p, vs, h1, sqT_mono e h2, RVs.mono e h3⟩
  | .lst l, _, h => by
    simp only [RV] at h ⊢
    obtain ⟨p, vs, h1, h2, h3⟩ := h
    exact ⟨p, vs, h1, e _ _ h2, RVs.mono e h3⟩
  | .rol l, _, h => by
    simp only [RV] at h ⊢
    obtain ⟨p, vs, h1, h2, h3⟩ := h
    exact ⟨p, vs, h1, sqL_mono e h2, RVs.mono e h3⟩
  | .dic ks ds, _, h => by
    simp only [RV] at h ⊢
    obtain ⟨p, kvs, h1, h2, h3, h4⟩ := h
    exact ⟨p, kvs, h1, e _ _ h2, h3, RVs.mono e h4⟩
  | .obj c ns ds, _, h => by
    simp only [RV] at h ⊢
    obtain ⟨p, dx, fs, h1, h2, h3, h4⟩ := h
    exact ⟨p, dx, fs, h1, e _ _ h2, h3, RVs.mono e h4⟩
theorem RVs.mono (e : Same Z Z') : ∀ {l : List D} {vs : List V}, RVs K Z l vs → RVs K Z' l vs
  | [], _, h => by simpa only [RVs] using h
  | d :: l, _, h => by
    simp only [RVs] at h ⊢
    obtain ⟨v, r, h1, h2, h3⟩ := h
    exact ⟨v, r, h1, RV.mono e h2, RVs.mono e h3⟩
end
theorem RVs.nil : RVs K Z [] [] := by simp only [RVs]
theorem RVs.cons {d : D} {v : V} {l : List D} {r : List V} (h : RV K Z d v) (t : RVs K Z l r) : RVs K Z (d :: l) (v :: r) := by
  simp only [RVs]; exact ⟨v, r, rfl, h, t⟩
theorem RVs.inv {d : D} {l : List D} {vs : List V} (h : RVs K Z (d :: l) vs) : ∃ v r, vs = v :: r ∧ RV K Z d v ∧ RVs K Z l r := by
  simpa only [RVs] using h
theorem RVs.inv0 {vs : List V} (h : RVs K Z [] vs) : vs = [] := by simpa only [RVs] using h
theorem RVs.len : ∀ {l : List D} {vs : List V}, RVs K Z l vs → vs.length = l.length
  | [], _, h => by rw [h.inv0]; rfl
  | d :: l, _, h => by
    obtain ⟨v, r, rfl, _, h3⟩ := h.inv
    rw [List.length_cons, List.length_cons, RVs.len h3]
theorem RVs.get : ∀ {l : List D} {vs : List V} {i : Nat} {v : V}, RVs K Z l vs → vs[i]? = some v → ∃ d, l[i]? = some d ∧ RV K Z d v
  | [], _, _, _, h, e => by rw [h.inv0] at e; simp at e
  | d :: l, _, 0, _, h, e => by
    obtain ⟨v, r, rfl, h2, _⟩ := h.inv
    simp at e; subst e; exact ⟨d, rfl, h2⟩
  | d :: l, _, i + 1, _, h, e => by
    obtain ⟨v, r, rfl, _, h3⟩ := h.inv
    simp only [List.getElem?_cons_succ] at e ⊢
    exact RVs.get h3 e
theorem RVs.get' : ∀ {l : List D} {vs : List V} {i : Nat} {d : D}, RVs K Z l vs → l[i]? = some d → ∃ v, vs[i]? = some v ∧ RV K Z d v
  | [], _, _, _, h, e => by simp at e
  | x :: l, _, 0, _, h, e => by
    obtain ⟨v, r, rfl, h2, _⟩ := h.inv
    simp at e; subst e; exact ⟨v, rfl, h2⟩
  | x :: l, _, i + 1, _, h, e => by
    obtain ⟨v, r, rfl, _, h3⟩ := h.inv
    simp only [List.getElem?_cons_succ] at e ⊢
    exact RVs.get' h3 e
theorem RVs.append : ∀ {l m : List D} {vs us : List V}, RVs K Z l vs → RVs K Z m us → RVs K Z (l ++ m) (vs ++ us)
  | [], _, _, _, h, q => by rw [h.inv0]; exact q
  | d :: l, _, _, _, h, q => by
    obtain ⟨v, r, rfl, h2, h3⟩ := h.inv
    exact RVs.cons h2 (RVs.append h3 q)
theorem RVs.take : ∀ {l : List D} {vs : List V} (n : Nat), RVs K Z l vs → RVs K Z (l.take n) (vs.take n)
  | _, _, 0, _ => by simp only [List.take_zero]; exact RVs.nil
  | [], _, n + 1, h => by rw [h.inv0]; exact RVs.nil
  | d :: l, _, n + 1, h => by
    obtain ⟨v, r, rfl, h2, h3⟩ := h.inv
    exact RVs.cons h2 (RVs.take n h3)
theorem RVs.drop : ∀ {l : List D} {vs : List V} (n : Nat), RVs K Z l vs → RVs K Z (l.drop n) (vs.drop n)
  | _, _, 0, h => h
  | [], _, n + 1, h => by rw [h.inv0]; exact RVs.nil
  | d :: l, _, n + 1, h => by
    obtain ⟨v, r, rfl, h2, h3⟩ := h.inv
    exact RVs.drop n h3
theorem RVs.set : ∀ {l : List D} {vs : List V} (i : Nat) {d : D} {v : V}, RVs K Z l vs → RV K Z d v → RVs K Z (l.set i d) (vs.set i v)
  | [], _, _, _, _, h, _ => by rw [h.inv0]; exact RVs.nil
  | x :: l, _, 0, _, _, h, q => by
    obtain ⟨v, r, rfl, h2, h3⟩ := h.inv
    exact RVs.cons q h3
  | x :: l, _, i + 1, _, _, h, q => by
    obtain ⟨v, r, rfl, h2, h3⟩ := h.inv
    exact RVs.cons h2 (RVs.set i h3 q)
theorem RVs.reverse : ∀ {l : List D} {vs : List V}, RVs K Z l vs → RVs K Z l.reverse vs.reverse
  | [], _, h => by rw [h.inv0]; exact RVs.nil
  | d :: l, _, h => by
    obtain ⟨v, r, rfl, h2, h3⟩ := h.inv
    rw [List.reverse_cons, List.reverse_cons]
    exact RVs.append (RVs.reverse h3) (RVs.cons h2 RVs.nil)

/-- an object that may change -/
def RO (K : PySem.W.Frag) (Z H : Hp) (a : Addr) : AO → Prop
  | .lst l => ∃ vs, H a = some (.lst vs) ∧ RVs K Z l vs
  | .dic kvs => ∃ us, H a = some (.dK us) ∧ us.map (·.1) = kvs.map (·.1) ∧ RVs K Z (kvs.map (·.2)) (us.map (·.2))
  | .obj c fs => ∃ dx us, H a = some (.ins (He.ga K (Str.ofString c)) dx us) ∧ us.map (·.1) = fs.map (fun p => Str.ofString p.1) ∧ RVs K Z (fs.map (·.2)) (us.map (·.2))
structure RA (K : PySem.W.Frag) (Z : Hp) (A : AH) (H : Hp) : Prop where
  sub : Same Z H
  at_ : ∀ a o, A a = some o → Z a = none ∧ RO K Z H a o
theorem RO.mono {H : Hp} (e : Same Z Z') {a : Addr} {o : AO} (h : RO K Z H a o) : RO K Z' H a o := by
  cases o with
  | lst l => obtain ⟨vs, h1, h2⟩ := h; exact ⟨vs, h1, h2.mono e⟩
  | dic kvs => obtain ⟨us, h1, h2, h3⟩ := h; exact ⟨us, h1, h2, h3.mono e⟩
  | obj c fs => obtain ⟨dx, us, h1, h2, h3⟩ := h; exact ⟨dx, us, h1, h2, h3.mono e⟩
theorem RO.keep {H H' : Hp} {a : Addr} {o : AO} (e : H' a = H a) (h : RO K Z H a o) : RO K Z H' a o := by
  cases o with
  | lst l => obtain ⟨vs, h1, h2⟩ := h; exact ⟨vs, e.trans h1, h2⟩
  | dic kvs => obtain ⟨us, h1, h2⟩ := h; exact ⟨us, e.trans h1, h2⟩
  | obj c fs => obtain ⟨dx, us, h1, h2⟩ := h; exact ⟨dx, us, e.trans h1, h2⟩
theorem RO.there {H : Hp} {a : Addr} {o : AO} (h : RO K Z H a o) : ∃ u, H a = some u := by
  cases o with
  | lst l => obtain ⟨vs, h1, _⟩ := h; exact ⟨_, h1⟩
  | dic kvs => obtain ⟨us, h1, _⟩ := h; exact ⟨_, h1⟩
  | obj c fs => obtain ⟨dx, us, h1, _⟩ := h; exact ⟨_, h1⟩
section
variable {A : AH} {H : Hp} {p : Addr}
theorem RA.fresh (R : RA K Z A H) (h : H p = none) : A p = none ∧ Z p = none := by
  constructor
  · cases e : A p with
    | none => rfl
    | some o =>
      obtain ⟨u, q⟩ := (R.at_ p o e).2.there
      rw [h] at q; cases q
  · cases e : Z p with
    | none => rfl
    | some o => rw [R.sub p o e] at h; cases h
/-- a new frozen object -/
theorem RA.newF (R : RA K Z A H) (h : H p = none) (o : HO) : Same Z (upd Z p o) ∧ RA K (upd Z p o) A (upd H p o) := by
  obtain ⟨hA, hZ⟩ := R.fresh h
  have s : Same Z (upd Z p o) := fun a u e => by rw [upd_ne (ne_of_none e hZ)]; exact e
  refine ⟨s, ⟨fun a u e => ?_, fun a u e => ?_⟩⟩
  · by_cases ha : a = p
    · subst ha; rw [upd_same] at e ⊢; exact e
    · rw [upd_ne ha] at e ⊢; exact R.sub a u e
  · have ha : a ≠ p := fun z => by rw [z, hA] at e; cases e
    obtain ⟨h1, h2⟩ := R.at_ a u e
    exact ⟨by rw [upd_ne ha]; exact h1, (h2.mono s).keep (upd_ne ha)⟩
/-- a new object that may change -/
theorem RA.newO (R : RA K Z A H) (h : H p = none) {o : HO} {u : AO} (q : RO K Z (upd H p o) p u) : RA K Z (A.put p u) (upd H p o) := by
  obtain ⟨hA, hZ⟩ := R.fresh h
  refine ⟨fun a u e => ?_, fun a v e => ?_⟩
  · rw [upd_ne (ne_of_none e hZ)]; exact R.sub a u e
  · by_cases ha : a = p
    · subst ha; rw [AH.put_same] at e; cases e; exact ⟨hZ, q⟩
    · rw [AH.put_ne A u ha] at e
      obtain ⟨h1, h2⟩ := R.at_ a v e
      exact ⟨h1, h2.keep (upd_ne ha)⟩
/-- an object is changed -/
theorem RA.write (R : RA K Z A H) {u : AO} {u' : AO} (h : A p = some u') {o : HO} (q : RO K Z (upd H p o) p u) : RA K Z (A.put p u) (upd H p o) := by
  have hZ := (R.at_ p u' h).1
  refine ⟨fun a u e => ?_, fun a v e => ?_⟩
  · rw [upd_ne (ne_of_none e hZ)]; exact R.sub a u e
  · by_cases ha : a = p
    · subst ha; rw [AH.put_same] at e; cases e; exact ⟨hZ, q⟩
    · rw [AH.put_ne A u ha] at e
      obtain ⟨h1, h2⟩ := R.at_ a v e
      exact ⟨h1, h2.keep (upd_ne ha)⟩
/-- an object changes no more -/
theorem RA.freeze (R : RA K Z A H) {o : AO} {u : HO} (h : A p = some o) (e : H p = some u) : Same Z (upd Z p u) ∧ RA K (upd Z p u) (A.del p) H := by
  have hZ := (R.at_ p o h).1
  have s : Same Z (upd Z p u) := fun a w e => by rw [upd_ne (ne_of_none e hZ)]; exact e
  refine ⟨s, ⟨fun a w q => ?_, fun a w q => ?_⟩⟩
  · by_cases ha : a = p
    · subst ha; rw [upd_same] at q; cases q; exact e
    · rw [upd_ne ha] at q; exact R.sub a w q
  · by_cases ha : a = p
    · subst ha; rw [AH.del_same] at q; cases q
    · rw [AH.del_ne A ha] at q
      obtain ⟨h1, h2⟩ := R.at_ a w q
      exact ⟨by rw [upd_ne ha]; exact h1, h2.mono s⟩
theorem RA.same {A' : AH} (R : RA K Z A H) (h : ∀ a o, A' a = some o → A a = some o) : RA K Z A' H := ⟨R.sub, fun a o e => R.at_ a o (h a o e)⟩
/-- the heap may grow by what nobody knows of -/
theorem RA.grow {H' : Hp} (R : RA K Z A H) (h : Same H H') : RA K Z A H' := ⟨R.sub.trans h, fun a o e => by
  obtain ⟨h1, h2⟩ := R.at_ a o e
  refine ⟨h1, ?_⟩
  obtain ⟨u, q⟩ := h2.there
  exact h2.keep ((h a u q).trans q.symm)⟩
end

abbrev DSt := List (Option D)
def RSl (K : PySem.W.Frag) (Z : Hp) : Option D → Option V → Prop
  | none, _ => True
  | some d, some v => RV K Z d v
  | some _, none => False
abbrev RS (K : PySem.W.Frag) (Z : Hp) : DSt → L2.St → Prop := Paired (RSl K Z)
theorem RSl.mono (e : Same Z Z') {a : Option D} {b : Option V} (h : RSl K Z a b) : RSl K Z' a b := by
  cases a with
  | none => trivial
  | some d => cases b with
    | none => exact h
    | some v => exact RV.mono e h
theorem RS.mono (e : Same Z Z') {δ : DSt} {σ : L2.St} (h : RS K Z δ σ) : RS K Z' δ σ := Paired.mapP h fun _ _ => RSl.mono e
theorem RS.get : ∀ {δ : DSt} {σ : L2.St} {i : Nat} {d : D}, RS K Z δ σ → δ[i]? = some (some d) → ∃ v, σ[i]? = some (some v) ∧ RV K Z d v
  | _, _, _, _, .nil, e => by simp at e
  | _, _, 0, _, .cons (a := a) (b := b) r _, e => by
    simp at e; subst e
    cases b with
    | none => exact r.elim
    | some v => exact ⟨v, rfl, r⟩
  | _, _, i + 1, _, .cons _ t, e => by
    simp only [List.getElem?_cons_succ] at e ⊢
    exact RS.get t e
theorem RS.set : ∀ {δ : DSt} {σ : L2.St} (i : Nat) {a : Option D} {b : Option V}, RS K Z δ σ → RSl K Z a b → RS K Z (δ.set i a) (σ.set i b)
  | _, _, _, _, _, .nil, _ => .nil
  | _, _, 0, _, _, .cons _ t, q => .cons q t
  | _, _, i + 1, _, _, .cons r t, q => .cons r (RS.set i t q)
theorem RS.len {δ : DSt} {σ : L2.St} (h : RS K Z δ σ) : δ.length = σ.length := Paired.length h

/-! ### readings over data -/
abbrev DK := D → AH → Prop
abbrev DE := DSt → AH → DK → Prop
abbrev DT := DSt → AH → (Bool → AH → Prop) → Prop
abbrev DA := DSt → AH → (List D → AH → Prop) → Prop
structure DEnds where
  nx : DSt → AH → Prop
  rt : DK
  bk : DSt → AH → Prop := fun _ _ => False
  ct : DSt → AH → Prop := fun _ _ => False
abbrev DS := DEnds → DSt → AH → Prop
/-- what is wished of an exception: its class, its fields -/
abbrev DX := String → List (String × D) → AH → Prop
abbrev DW := String → List (String × D) → DSt → AH → Prop

def liftE (K : PySem.W.Frag) (Z0 : Hp) (t : DE) : TE := fun σ H Q => ∃ Z δ A Kt, Same Z0 Z ∧ RS K Z δ σ ∧ RA K Z A H ∧ t δ A Kt ∧
  ∀ Z' d A' v H', Same Z Z' → RA K Z' A' H' → RV K Z' d v → Kt d A' → Q v H'
def liftT (K : PySem.W.Frag) (Z0 : Hp) (t : DT) : TT := fun σ H Q => ∃ Z δ A Kt, Same Z0 Z ∧ RS K Z δ σ ∧ RA K Z A H ∧ t δ A Kt ∧
  ∀ Z' b A' H', Same Z Z' → RA K Z' A' H' → Kt b A' → Q b H'
def liftA (K : PySem.W.Frag) (Z0 : Hp) (t : DA) : TA := fun σ H Q => ∃ Z δ A Kt, Same Z0 Z ∧ RS K Z δ σ ∧ RA K Z A H ∧ t δ A Kt ∧
  ∀ Z' ds A' vs H', Same Z Z' → RA K Z' A' H' → RVs K Z' ds vs → Kt ds A' → Q vs H'
structure RE (K : PySem.W.Frag) (Z : Hp) (DD : DEnds) (DV : Ends) : Prop where
  nx : ∀ Z' δ A σ H, Same Z Z' → RS K Z' δ σ → RA K Z' A H → DD.nx δ A → DV.nx σ H
  rt : ∀ Z' d A v H, Same Z Z' → RA K Z' A H → RV K Z' d v → DD.rt d A → DV.rt v H
  bk : ∀ Z' δ A σ H, Same Z Z' → RS K Z' δ σ → RA K Z' A H → DD.bk δ A → DV.bk σ H
  ct : ∀ Z' δ A σ H, Same Z Z' → RS K Z' δ σ → RA K Z' A H → DD.ct δ A → DV.ct σ H
theorem RE.mono {DD : DEnds} {DV : Ends} (e : Same Z Z') (h : RE K Z DD DV) : RE K Z' DD DV :=
  ⟨fun W δ A σ H s => h.nx W δ A σ H (e.trans s), fun W d A v H s => h.rt W d A v H (e.trans s), fun W δ A σ H s => h.bk W δ A σ H (e.trans s), fun W δ A σ H s => h.ct W δ A σ H (e.trans s)⟩
def liftS (K : PySem.W.Frag) (Z0 : Hp) (t : DS) : TS := fun DV σ H => ∃ Z δ A DD, Same Z0 Z ∧ RS K Z δ σ ∧ RA K Z A H ∧ t DD δ A ∧ RE K Z DD DV

abbrev QE (X : Cx) (Z0 : Hp) (e : Expr) (t : DE) : Prop := PE X e (liftE X.K Z0 t)
abbrev QT (X : Cx) (Z0 : Hp) (e : Expr) (t : DT) : Prop := PT X e (liftT X.K Z0 t)
abbrev QW (X : Cx) (Z0 : Hp) (e : Expr) (t : DT) : Prop := PW X e (liftT X.K Z0 t)
abbrev QA (X : Cx) (Z0 : Hp) (es : List Expr) (t : DA) : Prop := PA X es (liftA X.K Z0 t)
abbrev QS (X : Cx) (Z0 : Hp) (st : Stmt) (t : DS) : Prop := PS X st (liftS X.K Z0 t)
abbrev QSs (X : Cx) (Z0 : Hp) (st : List Stmt) (t : DS) : Prop := PSs X st (liftS X.K Z0 t)

theorem PE.imp {X : Cx} {e : Expr} {t u : TE} (h : PE X e t) (i : ∀ σ H Q, u σ H Q → t σ H Q) : PE X e u := ⟨fun pins s σ H Q I q => h.run pins s σ H Q I (i σ H Q q)⟩
theorem PT.imp {X : Cx} {e : Expr} {t u : TT} (h : PT X e t) (i : ∀ σ H Q, u σ H Q → t σ H Q) : PT X e u := ⟨fun pins s σ H Q I q => h.run pins s σ H Q I (i σ H Q q)⟩
theorem PW.imp {X : Cx} {e : Expr} {t u : TT} (h : PW X e t) (i : ∀ σ H Q, u σ H Q → t σ H Q) : PW X e u := ⟨fun wh pins s σ H Q I q => h.run wh pins s σ H Q I (i σ H Q q)⟩
theorem PA.imp {X : Cx} {e : List Expr} {t u : TA} (h : PA X e t) (i : ∀ σ H Q, u σ H Q → t σ H Q) : PA X e u := ⟨fun pos pins s σ H Q I q => h.run pos pins s σ H Q I (i σ H Q q)⟩
theorem PS.imp {X : Cx} {e : Stmt} {t u : TS} (h : PS X e t) (i : ∀ D σ H, u D σ H → t D σ H) : PS X e u := ⟨fun pins s σ H D I q => h.run pins s σ H D I (i D σ H q)⟩
theorem PSs.imp {X : Cx} {e : List Stmt} {t u : TS} (h : PSs X e t) (i : ∀ D σ H, u D σ H → t D σ H) : PSs X e u := ⟨fun pins s σ H D I q => h.run pins s σ H D I (i D σ H q)⟩

/-! ### promises -/
abbrev DSp := List D → AH → DK → DX → Prop
/-- an exception as data -/
def RX (K : PySem.W.Frag) (Z : Hp) (c : String) (fs : List (String × D)) (cv : Value) (dd : Option Addr) : Prop :=
  cv = .ref (He.ga K (Str.ofString c)) ∧ ((fs = [] ∧ dd = none) ∨ ∃ a us, fs ≠ [] ∧ dd = some a ∧ Z a = some (.xd us) ∧ us.map (·.1) = fs.map (fun p => Str.ofString p.1) ∧ RVs K Z (fs.map (·.2)) (us.map (·.2)))
theorem RX.mono (e : Same Z Z') {c : String} {fs : List (String × D)} {cv : Value} {dd : Option Addr} (h : RX K Z c fs cv dd) : RX K Z' c fs cv dd := by
  obtain ⟨h1, h2⟩ := h
  refine ⟨h1, ?_⟩
  rcases h2 with h2 | ⟨a, us, q0, q1, q2, q3, q4⟩
  · exact .inl h2
  · exact .inr ⟨a, us, q0, q1, e _ _ q2, q3, q4.mono e⟩
def liftSp (K : PySem.W.Frag) (sp : DSp) : Sp := fun vs H Q E => ∃ Z ds A Kt Ex, RVs K Z ds vs ∧ RA K Z A H ∧ sp ds A Kt Ex ∧
  (∀ Z' d A' v H', Same Z Z' → RA K Z' A' H' → RV K Z' d v → Kt d A' → Q v H') ∧
  (∀ Z' c fs A' cv dd H', Same Z Z' → RA K Z' A' H' → RX K Z' c fs cv dd → Ex c fs A' → E cv dd H')
/-- a wish, over the slots -/
def liftW (K : PySem.W.Frag) (Z0 : Hp) (w : DW) : WX := fun cv dd σ H => ∃ Z δ A c fs, Same Z0 Z ∧ RS K Z δ σ ∧ RA K Z A H ∧ RX K Z c fs cv dd ∧ w c fs δ A
end DL

/-! DL1: expressions over data. -/
namespace DL
open PySem PySem.Spec PyProof.Rows L2
variable {K : PySem.W.Frag} {Z Z' Z0 : Hp}
theorem rv_int {i : Int} {v : V} (h : RV K Z (.int i) v) : v = .int i := by simpa only [RV] using h
theorem rv_bl {b : Bool} {v : V} (h : RV K Z (.bl b) v) : v = .bl b := by simpa only [RV] using h
theorem rv_str {x : Str} {v : V} (h : RV K Z (.str x) v) : v = .str x := by simpa only [RV] using h
theorem rv_non {v : V} (h : RV K Z .non v) : v = .non := by simpa only [RV] using h
theorem rv_ref {a : Addr} {v : V} (h : RV K Z (.ref a) v) : v = .ref a := by simpa only [RV] using h
theorem rv_tup {l : List D} {v : V} (h : RV K Z (.tup l) v) : ∃ p vs, v = .ref p ∧ SqT K Z p vs ∧ RVs K Z l vs := by simpa only [RV] using h
theorem rv_lst {l : List D} {v : V} (h : RV K Z (.lst l) v) : ∃ p vs, v = .ref p ∧ Z p = some (.lst vs) ∧ RVs K Z l vs := by simpa only [RV] using h
theorem rv_rol {l : List D} {v : V} (h : RV K Z (.rol l) v) : ∃ p vs, v = .ref p ∧ SqL K Z p vs ∧ RVs K Z l vs := by simpa only [RV] using h
theorem rv_dic {ks : List Key} {l : List D} {v : V} (h : RV K Z (.dic ks l) v) : ∃ p kvs, v = .ref p ∧ Z p = some (.dK kvs) ∧ kvs.map (·.1) = ks ∧ RVs K Z l (kvs.map (·.2)) := by simpa only [RV] using h
theorem rv_obj {c : String} {ns : List String} {l : List D} {v : V} (h : RV K Z (.obj c ns l) v) : ∃ p dx fs, v = .ref p ∧ Z p = some (.ins (He.ga K (Str.ofString c)) dx fs) ∧ fs.map (·.1) = ns.map Str.ofString ∧ RVs K Z l (fs.map (·.2)) := by simpa only [RV] using h
theorem mk_int {i : Int} : RV K Z (.int i) (.int i) := by simp only [RV]
theorem mk_bl {b : Bool} : RV K Z (.bl b) (.bl b) := by simp only [RV]
theorem mk_str {x : Str} : RV K Z (.str x) (.str x) := by simp only [RV]
theorem mk_non : RV K Z .non .non := by simp only [RV]
theorem mk_ref {a : Addr} : RV K Z (.ref a) (.ref a) := by simp only [RV]
theorem mk_tup {l : List D} {p : Addr} {vs : List V} (h : SqT K Z p vs) (q : RVs K Z l vs) : RV K Z (.tup l) (.ref p) := by simp only [RV]; exact ⟨p, vs, rfl, h, q⟩
theorem mk_lst {l : List D} {p : Addr} {vs : List V} (h : Z p = some (.lst vs)) (q : RVs K Z l vs) : RV K Z (.lst l) (.ref p) := by simp only [RV]; exact ⟨p, vs, rfl, h, q⟩

/-! ### what is read of an object -/
/-- a list's items -/
def asL (A : AH) : D → Option (List D)
  | .lst l => some l
  | .rol l => some l
  | .ref a => match A a with
    | some (.lst l) => some l
    | _ => none
  | _ => none
/-- a list's or a tuple's items -/
def asS (A : AH) : D → Option (List D)
  | .tup l => some l
  | d => asL A d
def asDic (A : AH) : D → Option (List (Key × D))
  | .dic ks vs => some (ks.zip vs)
  | .ref a => match A a with
    | some (.dic kvs) => some kvs
    | _ => none
  | _ => none
def asObj (A : AH) : D → Option (String × List (String × D))
  | .obj c ns vs => some (c, ns.zip vs)
  | .ref a => match A a with
    | some (.obj c fs) => some (c, fs)
    | _ => none
  | _ => none
section
variable {A : AH} {H : Hp} {d : D} {v : V} {l : List D}
theorem asL_ok (R : RA K Z A H) (r : RV K Z d v) (h : asL A d = some l) : ∃ p vs, v = .ref p ∧ SqL K H p vs ∧ RVs K Z l vs := by
  cases d with
  | lst m =>
    obtain ⟨p, vs, e1, e2, e3⟩ := rv_lst r
    cases (show some m = some l from h)
    exact ⟨p, vs, e1, SqL.of (R.sub _ _ e2), e3⟩
  | rol m =>
    obtain ⟨p, vs, e1, e2, e3⟩ := rv_rol r
    cases (show some m = some l from h)
    exact ⟨p, vs, e1, sqL_mono R.sub e2, e3⟩
  | ref a =>
    have e := rv_ref r
    have h' : (match A a with | some (.lst l) => some l | _ => none) = some l := h
    split at h'
    · rename_i m q
      cases h'
      obtain ⟨vs, e2, e3⟩ := (R.at_ a _ q).2
      exact ⟨a, vs, e, SqL.of e2, e3⟩
    · cases h'
  | _ => cases h
theorem asS_ok (R : RA K Z A H) (r : RV K Z d v) (h : asS A d = some l) : ∃ p vs, v = .ref p ∧ (SqL K H p vs ∨ SqT K H p vs) ∧ RVs K Z l vs := by
  cases d with
  | tup m =>
    obtain ⟨p, vs, e1, e2, e3⟩ := rv_tup r
    cases (show some m = some l from h)
    exact ⟨p, vs, e1, .inr (sqT_mono R.sub e2), e3⟩
  | _ =>
    obtain ⟨p, vs, e1, e2, e3⟩ := asL_ok R r h
    exact ⟨p, vs, e1, .inl e2, e3⟩
theorem zip_unzip_map {α β γ δ : Type} (f : α → γ) : ∀ {us : List (α × β)} {ns : List γ} {l : List δ}, us.map (fun p => f p.1) = ns → l.length = us.length → True := fun _ _ => trivial
theorem asDic_ok {kvs : List (Key × D)} (R : RA K Z A H) (r : RV K Z d v) (h : asDic A d = some kvs) :
    ∃ p us, v = .ref p ∧ H p = some (.dK us) ∧ us.map (·.1) = kvs.map (·.1) ∧ RVs K Z (kvs.map (·.2)) (us.map (·.2)) := by
  cases d with
  | dic ks ds =>
    obtain ⟨p, us, e1, e2, e3, e4⟩ := rv_dic r
    cases (show some (ks.zip ds) = some kvs from h)
    have hl : ds.length = ks.length := by
      have := e4.len
      rw [List.length_map] at this
      rw [← e3, List.length_map]; omega
    refine ⟨p, us, e1, R.sub _ _ e2, ?_, ?_⟩
    · rw [e3]
      exact (List.map_fst_zip (by omega)).symm
    · rw [show (ks.zip ds).map (·.2) = ds from List.map_snd_zip (by omega)]
      exact e4
  | ref a =>
    have e := rv_ref r
    have h' : (match A a with | some (.dic l) => some l | _ => none) = some kvs := h
    split at h'
    · rename_i m q
      cases h'
      obtain ⟨us, e2, e3, e4⟩ := (R.at_ a _ q).2
      exact ⟨a, us, e, e2, e3, e4⟩
    · cases h'
  | _ => cases h
theorem asObj_ok {c : String} {fs : List (String × D)} (R : RA K Z A H) (r : RV K Z d v) (h : asObj A d = some (c, fs)) :
    ∃ p dx us, v = .ref p ∧ H p = some (.ins (He.ga K (Str.ofString c)) dx us) ∧ us.map (·.1) = fs.map (fun p => Str.ofString p.1) ∧ RVs K Z (fs.map (·.2)) (us.map (·.2)) := by
  cases d with
  | obj c' ns ds =>
    obtain ⟨p, dx, us, e1, e2, e3, e4⟩ := rv_obj r
    obtain ⟨rfl, rfl⟩ := Prod.mk.inj (Option.some.inj (show some (c', ns.zip ds) = some (c, fs) from h))
    have hl : ds.length = ns.length := by
      have h1 := e4.len
      have h2 := congrArg List.length e3
      simp only [List.length_map] at h1 h2
      omega
    refine ⟨p, dx, us, e1, R.sub _ _ e2, ?_, ?_⟩
    · have h3 : (ns.zip ds).map (fun p => Str.ofString p.1) = ((ns.zip ds).map (·.1)).map Str.ofString := by rw [List.map_map]; rfl
      rw [e3, h3, List.map_fst_zip (by omega)]
    · rw [show (ns.zip ds).map (·.2) = ds from List.map_snd_zip (by omega)]
      exact e4
  | ref a =>
    have e := rv_ref r
    have h' : (match A a with | some (.obj c fs) => some (c, fs) | _ => none) = some (c, fs) := h
    split at h'
    · rename_i m q
      cases h'
      obtain ⟨dx, us, e2, e3, e4⟩ := (R.at_ a _ ‹_›).2
      exact ⟨a, dx, us, e, e2, e3, e4⟩
    · cases h'
  | _ => cases h
end
/-! ### new lists -/
abbrev Mk := List D → AH → DK → Prop
def mkO : Mk := fun l A Q => ∀ p, A p = none → Q (.ref p) (A.put p (.lst l))
def mkF : Mk := fun l A Q => Q (.lst l) A
/-- what is behind a reading -/
abbrev Kont (K : PySem.W.Frag) (Z : Hp) (Kt : DK) (Q : VK) : Prop := ∀ Z' d A' v H', Same Z Z' → RA K Z' A' H' → RV K Z' d v → Kt d A' → Q v H'
structure MkOk (K : PySem.W.Frag) (mk : Mk) : Prop where
  ok : ∀ {Z : Hp} {A : AH} {H : Hp} {l : List D} {vs : List V} {Kt : DK} {Q : VK}, RA K Z A H → RVs K Z l vs → mk l A Kt → Kont K Z Kt Q → ∀ p, H p = none → Q (.ref p) (upd H p (.lst vs))
theorem mkO_ok : MkOk K mkO := ⟨fun {Z A H l vs Kt Q} R r h k p hp =>
  k Z (.ref p) _ _ _ (Same.refl Z) (R.newO (u := .lst l) hp ⟨vs, upd_same, r⟩) mk_ref (h p (R.fresh hp).1)⟩
theorem mkF_ok : MkOk K mkF := ⟨fun {Z A H l vs Kt Q} R r h k p hp => by
  obtain ⟨s, R'⟩ := R.newF hp (.lst vs)
  exact k _ (.lst l) A _ _ s R' (mk_lst upd_same (r.mono s)) h⟩

/-! ### names, constants, tuples, lists -/
section
variable {X : Cx} {e a b : Expr} {es : List Expr} {pos : Pos}
def eVar (i : Nat) : DE := fun δ A Q => match δ[i]? with
  | some (some d) => Q d A
  | _ => False
theorem qe_var {i : Nat} (h : PE X e (tVar i)) : QE X Z0 e (eVar i) := PE.imp h fun σ H Q ⟨Z, δ, A, Kt, z, rs, ra, t, k⟩ => by
  unfold eVar at t
  split at t
  · rename_i d q
    obtain ⟨v, e1, e2⟩ := rs.get q
    exact ⟨v, e1, k Z d A v H (Same.refl Z) ra e2 t⟩
  · exact t.elim
def eC (d : D) : DE := fun _ A Q => Q d A
theorem qe_c {d : D} {v : V} (r : ∀ Z, RV X.K Z d v) (h : PE X e (tC v)) : QE X Z0 e (eC d) := PE.imp h fun σ H Q ⟨Z, δ, A, Kt, z, rs, ra, t, k⟩ => k Z d A v H (Same.refl Z) ra (r Z) t
theorem qe_int {i : Int} {j : Nat} : QE X Z0 (.Constant (.int i) j pos) (eC (.int i)) := qe_c (fun _ => mk_int) pe_int
theorem qe_bl {i : Bool} {j : Nat} : QE X Z0 (.Constant (.bool i) j pos) (eC (.bl i)) := qe_c (fun _ => mk_bl) pe_bl
theorem qe_str {i : Str} {j : Nat} : QE X Z0 (.Constant (.str i) j pos) (eC (.str i)) := qe_c (fun _ => mk_str) pe_str
theorem qe_non {j : Nat} : QE X Z0 (.Constant .none j pos) (eC .non) := qe_c (fun _ => mk_non) pe_non

def aNil : DA := fun _ A Q => Q [] A
def aCons (t : DE) (u : DA) : DA := fun δ A Q => t δ A fun d A1 => u δ A1 fun ds A2 => Q (d :: ds) A2
theorem qa_nil : QA X Z0 [] aNil := PA.imp pa_nil fun σ H Q ⟨Z, δ, A, Kt, z, rs, ra, t, k⟩ => k Z [] A [] H (Same.refl Z) ra RVs.nil t
theorem qa_cons {t : DE} {u : DA} (ha : QE X Z0 e t) (hr : QA X Z0 es u) (hs : starEach (e :: es) X.env = (false, eval e X.env) :: starEach es X.env := by rfl) : QA X Z0 (e :: es) (aCons t u) :=
  PA.imp (pa_cons ha hr hs) fun σ H Q ⟨Z, δ, A, Kt, z, rs, ra, t, k⟩ =>
    ⟨Z, δ, A, _, z, rs, ra, t, fun Z1 d A1 v H1 s1 ra1 rv t1 => ⟨Z1, δ, A1, _, z.trans s1, rs.mono s1, ra1, t1, fun Z2 ds A2 vs H2 s2 ra2 rvs t2 => k Z2 (d :: ds) A2 (v :: vs) H2 (s1.trans s2) ra2 (RVs.cons (rv.mono s2) rvs) t2⟩⟩
theorem big_line : 1000000 ≤ sizeLine := by rw [sizeLine_eq]; decide
/-- the most items that a reading lets a list have -/
abbrev Few (n : Nat) : Prop := n < 1000000
theorem few_line {n : Nat} (h : Few n) : n ≤ sizeLine := Nat.le_trans (Nat.le_of_lt h) big_line
theorem few_lt {n : Nat} (h : Few n) : n < sizeLine := Nat.lt_of_lt_of_le h big_line
def eTup (t : DA) : DE := fun δ A Q => t δ A fun ds A1 => Few ds.length ∧ Q (.tup ds) A1
theorem qe_tup {x1} {t : DA} (h : QA X Z0 es t) : QE X Z0 (.Tuple es x1 pos) (eTup t) := PE.imp (pe_tup h) fun σ H Q ⟨Z, δ, A, Kt, z, rs, ra, t, k⟩ =>
  ⟨Z, δ, A, _, z, rs, ra, t, fun Z1 ds A1 vs H1 s1 ra1 rv t1 => ⟨by rw [rv.len]; exact few_line t1.1, fun p hp => by
    obtain ⟨s, R'⟩ := ra1.newF hp (.tup vs)
    exact k _ (.tup ds) A1 _ _ (s1.trans s) R' (mk_tup (SqT.of upd_same) (rv.mono s)) t1.2⟩⟩
def eLst (mk : Mk) (t : DA) : DE := fun δ A Q => t δ A fun ds A1 => Few ds.length ∧ mk ds A1 Q
theorem Kont.mono {Kt : DK} {Q : VK} (k : Kont K Z Kt Q) (s : Same Z Z') : Kont K Z' Kt Q := fun W d A v H s' => k W d A v H (s.trans s')
theorem qe_lst {mk : Mk} {t : DA} (m : MkOk X.K mk) (h : QA X Z0 es t) : QE X Z0 (.List es pos) (eLst mk t) := PE.imp (pe_lst h) fun σ H Q ⟨Z, δ, A, Kt, z, rs, ra, t, k⟩ =>
  ⟨Z, δ, A, _, z, rs, ra, t, fun Z1 ds A1 vs H1 s1 ra1 rv t1 => ⟨by rw [rv.len]; exact few_line t1.1, m.ok ra1 rv t1.2 (Kont.mono k s1)⟩⟩

/-! ### operators -/
abbrev DOp := D → D → AH → DK → Prop
def LiftOp (K : PySem.W.Frag) (rd : DOp) (r : R2) : Prop := ∀ (Z : Hp) (A : AH) (H : Hp) (x y : D) (vx vy : V) (Kt : DK) (Q : VK), RA K Z A H → RV K Z x vx → RV K Z y vy → rd x y A Kt → Kont K Z Kt Q → r vx vy H Q
def eBin (rd : DOp) (ta tb : DE) : DE := fun δ A Q => ta δ A fun x A1 => tb δ A1 fun y A2 => rd x y A2 Q
theorem lift_bin {rd : DOp} {r : R2} {ta tb : DE} {σ : L2.St} {H : Hp} {Q : VK} (l : LiftOp K rd r) (h : liftE K Z0 (eBin rd ta tb) σ H Q) : tOp r (liftE K Z0 ta) (liftE K Z0 tb) σ H Q := by
  obtain ⟨Z, δ, A, Kt, z, rs, ra, t, k⟩ := h
  exact ⟨Z, δ, A, _, z, rs, ra, t, fun Z1 d A1 v H1 s1 ra1 rv t1 => ⟨Z1, δ, A1, _, z.trans s1, rs.mono s1, ra1, t1, fun Z2 d2 A2 v2 H2 s2 ra2 rv2 t2 => l Z2 A2 H2 d d2 v v2 Kt Q ra2 (rv.mono s2) rv2 t2 (Kont.mono k (s1.trans s2))⟩⟩
variable {ta tb tc : DE}
theorem qe_op {op : Operator} {rd : DOp} {r : R2} (l : LiftOp X.K rd r) (ho : OpR X (binaryOp op) r) (ha : QE X Z0 a ta) (hb : QE X Z0 b tb) : QE X Z0 (.BinOp a op b pos) (eBin rd ta tb) :=
  PE.imp (pe_op ho ha hb) fun σ H Q h => lift_bin l h
theorem qe_cmp {op : CmpOp} {rd : DOp} {r : R2} (l : LiftOp X.K rd r) (ho : OpR X (compareOp op) r) (ha : QE X Z0 a ta) (hb : QE X Z0 b tb) (hm : behindInMarks op b = false) : QE X Z0 (.Compare a [op] [b] pos) (eBin rd ta tb) :=
  PE.imp (pe_cmpR ho ha hb hm) fun σ H Q h => lift_bin l h
/-- a truth as a test -/
def bE (t : DE) : DT := fun δ A Q => t δ A fun d A1 => match d with
  | .bl b => Q b A1
  | _ => False
theorem bE_of {t : TE} {u : DE} (h : ∀ σ H Q, liftE K Z0 u σ H Q → t σ H Q) : ∀ σ H Q, liftT K Z0 (bE u) σ H Q → tTest t σ H Q := fun σ H Q ⟨Z, δ, A, Kt, z, rs, ra, t, k⟩ => by
  refine h σ H _ ⟨Z, δ, A, _, z, rs, ra, t, fun Z1 d A1 v H1 s1 ra1 rv t1 => ?_⟩
  cases d with
  | bl b => exact ⟨b, rv_bl rv, k Z1 b A1 H1 s1 ra1 t1⟩
  | _ => exact t1.elim
theorem qt_cmp {op : CmpOp} {rd : DOp} {r : R2} (l : LiftOp X.K rd r) (ho : OpR X (compareOp op) r) (ha : QE X Z0 a ta) (hb : QE X Z0 b tb) (hm : behindInMarks op b = false) : QT X Z0 (.Compare a [op] [b] pos) (bE (eBin rd ta tb)) :=
  PT.imp (pt_cmpR ho ha hb hm) (bE_of (t := tOp r (liftE X.K Z0 ta) (liftE X.K Z0 tb)) fun σ H Q h => lift_bin l h)
theorem qt_val {t : DE} (h : QE X Z0 e t) (he : ∀ whole, isTrue e X.env whole = (do let v ← whole; standAt e.pos; holding [v] (truthy v)) := by intro _; rfl) : QT X Z0 e (bE t) :=
  PT.imp (pt_val h he) (bE_of (t := liftE X.K Z0 t) fun σ H Q h => h)
/-- a < b < c -/
def eChain (rd rd' : DOp) (ta tb tc : DE) : DE := fun δ A Q => ta δ A fun x A1 => tb δ A1 fun y A2 => rd x y A2 fun z A3 => match z with
  | .bl k => (k = true → tc δ A3 fun w A4 => rd' y w A4 Q) ∧ (k = false → Q (.bl false) A3)
  | _ => False
theorem lift_chain {rd rd' : DOp} {r r' : R2} (l : LiftOp K rd r) (l' : LiftOp K rd' r') {σ : L2.St} {H : Hp} {Q : VK} (h : liftE K Z0 (eChain rd rd' ta tb tc) σ H Q) : tChain r r' (liftE K Z0 ta) (liftE K Z0 tb) (liftE K Z0 tc) σ H Q := by
  obtain ⟨Z, δ, A, Kt, z, rs, ra, t, k⟩ := h
  refine ⟨Z, δ, A, _, z, rs, ra, t, fun Z1 d A1 v H1 s1 ra1 rv t1 => ⟨Z1, δ, A1, _, z.trans s1, rs.mono s1, ra1, t1, fun Z2 d2 A2 v2 H2 s2 ra2 rv2 t2 => l Z2 A2 H2 d d2 v v2 _ _ ra2 (rv.mono s2) rv2 t2 fun Z3 d3 A3 v3 H3 s3 ra3 rv3 t3 => ?_⟩⟩
  cases d3 with
  | bl c =>
    refine ⟨c, rv_bl rv3, ?_⟩
    cases c with
    | true =>
      exact iteT ⟨Z3, δ, A3, _, ((z.trans s1).trans s2).trans s3, ((rs.mono s1).mono s2).mono s3, ra3, t3.1 rfl, fun Z4 d4 A4 v4 H4 s4 ra4 rv4 t4 => l' Z4 A4 H4 d2 d4 v2 v4 _ _ ra4 ((rv2.mono s3).mono s4) rv4 t4 (Kont.mono k (((s1.trans s2).trans s3).trans s4))⟩
    | false => exact iteF (k Z3 _ A3 _ H3 ((s1.trans s2).trans s3) ra3 mk_bl (t3.2 rfl))
  | _ => exact t3.elim
theorem qe_chain {c : Expr} {op op' : CmpOp} {rd rd' : DOp} {r r' : R2} (l : LiftOp X.K rd r) (l' : LiftOp X.K rd' r') (ho : OpR X (compareOp op) r) (ho' : OpR X (compareOp op') r') (ha : QE X Z0 a ta) (hb : QE X Z0 b tb) (hc : QE X Z0 c tc)
    (hm : lastMarks [op, op'] [b, c] = false := by with_unfolding_all rfl) : QE X Z0 (.Compare a [op, op'] [b, c] pos) (eChain rd rd' ta tb tc) := PE.imp (pe_chain ho ho' ha hb hc hm) fun σ H Q h => lift_chain l l' h
theorem qt_chain {c : Expr} {op op' : CmpOp} {rd rd' : DOp} {r r' : R2} (l : LiftOp X.K rd r) (l' : LiftOp X.K rd' r') (ho : OpR X (compareOp op) r) (ho' : OpR X (compareOp op') r') (ha : QE X Z0 a ta) (hb : QE X Z0 b tb) (hc : QE X Z0 c tc)
    (hm : lastMarks [op, op'] [b, c] = false := by with_unfolding_all rfl) : QT X Z0 (.Compare a [op, op'] [b, c] pos) (bE (eChain rd rd' ta tb tc)) :=
  PT.imp (pt_chain ho ho' ha hb hc hm) (bE_of (t := tChain r r' (liftE X.K Z0 ta) (liftE X.K Z0 tb) (liftE X.K Z0 tc)) fun σ H Q h => lift_chain l l' h)
end
end DL

/-! DL2: operators over data. -/
namespace DL
open PySem PySem.Spec PyProof.Rows L2
variable {K : PySem.W.Frag} {Z Z' Z0 : Hp} {X : Cx}

/-! ### and, or, not -/
section
variable {a b : Expr} {rest : List Expr} {pos : Pos} {t u : DT} {ta tb : DE}
def bAnd (t u : DT) : DT := fun δ A Q => t δ A fun b A1 => (b = true → u δ A1 Q) ∧ (b = false → Q false A1)
def bOr (t u : DT) : DT := fun δ A Q => t δ A fun b A1 => (b = true → Q true A1) ∧ (b = false → u δ A1 Q)
def bNot (t : DT) : DT := fun δ A Q => t δ A fun b A1 => Q (!b) A1
theorem qw_and1 (h : QT X Z0 a t) : QW X Z0 (.BoolOp .And [a] pos) t := pw_and1 h
theorem qw_or1 (h : QT X Z0 a t) : QW X Z0 (.BoolOp .Or [a] pos) t := pw_or1 h
theorem qw_and (ha : QT X Z0 a t) (hb : QW X Z0 (.BoolOp .And (b :: rest) pos) u) : QW X Z0 (.BoolOp .And (a :: b :: rest) pos) (bAnd t u) :=
  PW.imp (pw_and ha hb) fun σ H Q ⟨Z, δ, A, Kt, z, rs, ra, t, k⟩ => ⟨Z, δ, A, _, z, rs, ra, t, fun Z1 c A1 H1 s1 ra1 t1 => by
    cases c with
    | true => exact iteT ⟨Z1, δ, A1, Kt, z.trans s1, rs.mono s1, ra1, t1.1 rfl, fun Z2 b2 A2 H2 s2 => k Z2 b2 A2 H2 (s1.trans s2)⟩
    | false => exact iteF (k Z1 false A1 H1 s1 ra1 (t1.2 rfl))⟩
theorem qw_or (ha : QT X Z0 a t) (hb : QW X Z0 (.BoolOp .Or (b :: rest) pos) u) : QW X Z0 (.BoolOp .Or (a :: b :: rest) pos) (bOr t u) :=
  PW.imp (pw_or ha hb) fun σ H Q ⟨Z, δ, A, Kt, z, rs, ra, t, k⟩ => ⟨Z, δ, A, _, z, rs, ra, t, fun Z1 c A1 H1 s1 ra1 t1 => by
    cases c with
    | false => exact iteF ⟨Z1, δ, A1, Kt, z.trans s1, rs.mono s1, ra1, t1.2 rfl, fun Z2 b2 A2 H2 s2 => k Z2 b2 A2 H2 (s1.trans s2)⟩
    | true => exact iteT (k Z1 true A1 H1 s1 ra1 (t1.1 rfl))⟩
theorem qt_w {e : Expr} (h : QW X Z0 e t) : QT X Z0 e t := h.pt
theorem qt_not (h : QT X Z0 a t) : QT X Z0 (.UnaryOp .Not a pos) (bNot t) :=
  PT.imp (pt_not h) fun σ H Q ⟨Z, δ, A, Kt, z, rs, ra, t, k⟩ => ⟨Z, δ, A, _, z, rs, ra, t, fun Z1 c A1 H1 s1 ra1 t1 => k Z1 (!c) A1 H1 s1 ra1 t1⟩
def eAnd (ta tb : DE) : DE := fun δ A Q => ta δ A fun d A1 => match d with
  | .bl c => (c = true → tb δ A1 Q) ∧ (c = false → Q (.bl false) A1)
  | _ => False
def eOr (ta tb : DE) : DE := fun δ A Q => ta δ A fun d A1 => match d with
  | .bl c => (c = true → Q (.bl true) A1) ∧ (c = false → tb δ A1 Q)
  | _ => False
def eNot (ta : DE) : DE := fun δ A Q => ta δ A fun d A1 => match d with
  | .bl c => Q (.bl (!c)) A1
  | _ => False
theorem qe_one {op} (h : QE X Z0 a ta) : QE X Z0 (.BoolOp op [a] pos) ta := pe_one h
theorem qe_and (ha : QE X Z0 a ta) (hb : QE X Z0 (.BoolOp .And (b :: rest) pos) tb) : QE X Z0 (.BoolOp .And (a :: b :: rest) pos) (eAnd ta tb) :=
  PE.imp (pe_and ha hb) fun σ H Q ⟨Z, δ, A, Kt, z, rs, ra, t, k⟩ => ⟨Z, δ, A, _, z, rs, ra, t, fun Z1 d A1 v H1 s1 ra1 rv t1 => by
    cases d with
    | bl c =>
      refine ⟨c, rv_bl rv, ?_⟩
      cases c with
      | true => exact iteT ⟨Z1, δ, A1, Kt, z.trans s1, rs.mono s1, ra1, t1.1 rfl, Kont.mono k s1⟩
      | false => exact iteF (k Z1 _ A1 _ H1 s1 ra1 mk_bl (t1.2 rfl))
    | _ => exact t1.elim⟩
theorem qe_or (ha : QE X Z0 a ta) (hb : QE X Z0 (.BoolOp .Or (b :: rest) pos) tb) : QE X Z0 (.BoolOp .Or (a :: b :: rest) pos) (eOr ta tb) :=
  PE.imp (pe_or ha hb) fun σ H Q ⟨Z, δ, A, Kt, z, rs, ra, t, k⟩ => ⟨Z, δ, A, _, z, rs, ra, t, fun Z1 d A1 v H1 s1 ra1 rv t1 => by
    cases d with
    | bl c =>
      refine ⟨c, rv_bl rv, ?_⟩
      cases c with
      | false => exact iteF ⟨Z1, δ, A1, Kt, z.trans s1, rs.mono s1, ra1, t1.2 rfl, Kont.mono k s1⟩
      | true => exact iteT (k Z1 _ A1 _ H1 s1 ra1 mk_bl (t1.1 rfl))
    | _ => exact t1.elim⟩
theorem qe_not (ha : QE X Z0 a ta) : QE X Z0 (.UnaryOp .Not a pos) (eNot ta) :=
  PE.imp (pe_not ha) fun σ H Q ⟨Z, δ, A, Kt, z, rs, ra, t, k⟩ => ⟨Z, δ, A, _, z, rs, ra, t, fun Z1 d A1 v H1 s1 ra1 rv t1 => by
    cases d with
    | bl c => exact ⟨c, rv_bl rv, k Z1 _ A1 _ H1 s1 ra1 mk_bl t1⟩
    | _ => exact t1.elim⟩
end

/-! ### arithmetic -/
def opAdd (mk : Mk) : DOp := fun x y A Q => match x, y with
  | .int i, .int j => Q (.int (i + j)) A
  | .str s, .str t => Few (s.length + t.length) ∧ Q (.str (s ++ t)) A
  | .tup l, .tup m => Few (l.length + m.length) ∧ Q (.tup (l ++ m)) A
  | x, y => match asL A x, asL A y with
    | some l, some m => Few (l.length + m.length) ∧ mk (l ++ m) A Q
    | _, _ => False
/-- of two lists that are read in any way -/
def rCatL (K : PySem.W.Frag) : R2 := fun x y H Q => ∃ l b xs zs, x = .ref l ∧ y = .ref b ∧ SqL K H l xs ∧ SqL K H b zs ∧ xs.length + zs.length ≤ sizeLine ∧ ∀ p, H p = none → Q (.ref p) (upd H p (.lst (xs ++ zs)))
theorem op_catL : OpR X (binaryOp .Add) (rCatL X.K) := by
  intro pins s σ H x y v u Q I rx ry h
  obtain ⟨l, b, xs, zs, rfl, rfl, hH, hB, hz, q⟩ := h
  cases rx
  cases ry
  obtain ⟨its, r, pl, z⟩ := I.list hH
  obtain ⟨its2, r2, pl2, z2⟩ := I.list hB
  obtain ⟨⟨cls, dd, data, sl⟩, n, ho, hc, hd, hdt⟩ := pl
  obtain ⟨⟨cls2, dd2, data2, sl2⟩, n2, ho2, hc2, hd2, hdt2⟩ := pl2
  simp only at hc hd hdt hc2 hd2 hdt2
  subst hc hd hdt hc2 hd2 hdt2
  have hl := r.length
  have hl2 := r2.length
  have e : its.toArray ++ its2.toArray = (its ++ its2).toArray := by simp
  refine concat_meets ⟨_, ho, rfl⟩ ⟨_, ho2, rfl⟩ noFill_list_add seq_list_add PySem.F.slot_list_add PySem.F.entry_list_add (PySem.F.args_list_add_2 _ _) (list_addW l b its.toArray its2.toArray n n2 none none sl sl2 (by simp only [List.size_toArray]; omega)) ⟨ho, ho2, ?_⟩
  rw [e]
  refine ⟨.ref s.heap.objs.size, _, I.laid (t' := s.toks) (o := .lst (xs ++ zs)) (fun b ob q => Heap.get?_push_of_some _ q) (Nat.le_refl _) ?_, rfl, q _ (I.hok.fresh (Nat.le_refl _))⟩
  exact ⟨by rw [List.length_append]; exact hz, _, 0, r.append r2, Heap.get?_push_size _ rfl⟩
def rAddAll (K : PySem.W.Frag) : R2 := fun x y H Q => (rI0 (fun i j => .int (i + j)) x y H Q) ∨ (∃ i j, x = .str i ∧ y = .str j ∧ i.length + j.length ≤ sizeLine ∧ Q (.str (i ++ j)) H) ∨ rCatA K x y H Q ∨ rCatL K x y H Q
theorem op_addAll : OpR X (binaryOp .Add) (rAddAll X.K) := op_add.or (op_add_str.or (op_catA.or op_catL))
theorem opAdd_lst {mk : Mk} {x y : D} {A : AH} {Q : DK} (h : opAdd mk x y A Q) :
    (∃ i j, x = .int i ∧ y = .int j ∧ Q (.int (i + j)) A) ∨ (∃ s t, x = .str s ∧ y = .str t ∧ Few (s.length + t.length) ∧ Q (.str (s ++ t)) A) ∨ (∃ l m, x = .tup l ∧ y = .tup m ∧ Few (l.length + m.length) ∧ Q (.tup (l ++ m)) A) ∨
      (∃ l m, asL A x = some l ∧ asL A y = some m ∧ Few (l.length + m.length) ∧ mk (l ++ m) A Q) := by
  unfold opAdd at h
  split at h
  · exact .inl ⟨_, _, rfl, rfl, h⟩
  · exact .inr (.inl ⟨_, _, rfl, rfl, h.1, h.2⟩)
  · exact .inr (.inr (.inl ⟨_, _, rfl, rfl, h.1, h.2⟩))
  · split at h
    · rename_i q1 q2
      exact .inr (.inr (.inr ⟨_, _, q1, q2, h.1, h.2⟩))
    · exact h.elim
theorem lift_add {mk : Mk} (m : MkOk K mk) : LiftOp K (opAdd mk) (rAddAll K) := fun Z A H x y vx vy Kt Q R rx ry h k => by
  rcases opAdd_lst h with ⟨i, j, rfl, rfl, h⟩ | ⟨s, t, rfl, rfl, hf, h⟩ | ⟨l, mm, rfl, rfl, hf, h⟩ | ⟨l, mm, hx, hy, hf, h⟩
  · exact .inl ⟨i, j, rv_int rx, rv_int ry, k Z _ A _ H (Same.refl Z) R mk_int h⟩
  · exact .inr (.inl ⟨s, t, rv_str rx, rv_str ry, few_line hf, k Z _ A _ H (Same.refl Z) R mk_str h⟩)
  · obtain ⟨p, vs, e1, e2, e3⟩ := rv_tup rx
    obtain ⟨p2, us, f1, f2, f3⟩ := rv_tup ry
    refine .inr (.inr (.inl ⟨p, p2, vs, us, e1, f1, sqT_mono R.sub e2, sqT_mono R.sub f2, by rw [e3.len, f3.len]; exact few_line hf, fun z => ?_, fun _ z => ?_, fun _ _ q hq => ?_⟩))
    · subst z
      refine k Z _ A _ H (Same.refl Z) R (mk_tup f2 ?_) h
      have : l = [] := List.eq_nil_of_length_eq_zero (by have := e3.len; simpa using this.symm)
      subst this; exact f3
    · subst z
      refine k Z _ A _ H (Same.refl Z) R (mk_tup e2 ?_) h
      have : mm = [] := List.eq_nil_of_length_eq_zero (by have := f3.len; simpa using this.symm)
      subst this; rw [List.append_nil]; exact e3
    · obtain ⟨s, R'⟩ := R.newF hq (.tup (vs ++ us))
      exact k _ _ A _ _ s R' (mk_tup (SqT.of upd_same) ((e3.append f3).mono s)) h
  · obtain ⟨p, vs, e1, e2, e3⟩ := asL_ok R rx hx
    obtain ⟨p2, us, f1, f2, f3⟩ := asL_ok R ry hy
    exact .inr (.inr (.inr ⟨p, p2, vs, us, e1, f1, e2, f2, by rw [e3.len, f3.len]; exact few_line hf, m.ok R (e3.append f3) h k⟩))

def opSub : DOp := fun x y A Q => match x, y with
  | .int i, .int j => Q (.int (i - j)) A
  | _, _ => False
theorem lift_sub : LiftOp K opSub (rI0 fun i j => .int (i - j)) := fun Z A H x y vx vy Kt Q R rx ry h k => by
  unfold opSub at h
  split at h
  · exact ⟨_, _, rv_int rx, rv_int ry, k Z _ A _ H (Same.refl Z) R mk_int h⟩
  · exact h.elim
/-- a product that the machine lets be -/
def MulOk (i j : Int) : Prop := i.natAbs < 2 ^ 64 ∨ j.natAbs < 2 ^ 64 ∨ ∃ a b : Nat, i.natAbs < 2 ^ a ∧ j.natAbs < 2 ^ b ∧ a + b ≤ 134217728
theorem MulOk.ok {i j : Int} (h : MulOk i j) : IntMulOk i j := by
  rcases h with h | h | ⟨a, b, h1, h2, h3⟩
  · exact CMul.ok (.inl ⟨by omega, by omega⟩)
  · exact CMul.ok (.inr ⟨by omega, by omega⟩)
  · exact (mulx_ok h1 h2 h3).ok
/-- s * n -/
def strRep (x : Str) (n : Nat) : Str := ⟨(List.replicate n x.cps.toList).flatten.toArray⟩
theorem foldl_rep (c : Array Nat) : ∀ (n : Nat) (a : Array Nat), ((List.replicate n c).foldl (· ++ ·) a).toList = a.toList ++ (List.replicate n c.toList).flatten
  | 0, a => by simp
  | n + 1, a => by
    rw [List.replicate_succ, List.foldl_cons, foldl_rep c n (a ++ c), List.replicate_succ, List.flatten_cons, Array.toList_append, List.append_assoc]
theorem strRep_eq (x : Str) (n : Nat) : (⟨(List.replicate n x.cps).foldl (· ++ ·) #[]⟩ : Str) = strRep x n := by
  unfold strRep
  congr 1
  apply Array.toList_inj.mp
  rw [foldl_rep]
  simp
def opMul : DOp := fun x y A Q => match x, y with
  | .int i, .int j => MulOk i j ∧ Q (.int (i * j)) A
  | .str s, .int n => (s.length ≤ 1000 ∧ n.natAbs ≤ 1000) ∧ Q (.str (strRep s n.toNat)) A
  | _, _ => False
def rMulStr : R2 := fun x y H Q => ∃ s n, x = .str s ∧ y = .int n ∧ (s.length ≤ 1000 ∧ n.natAbs ≤ 1000) ∧ Q (.str (strRep s n.toNat)) H
theorem op_mulStr : OpR X (binaryOp .Mult) rMulStr := by
  intro pins s σ H x y v u Q I rx ry h
  obtain ⟨z, n, rfl, rfl, ⟨h1, h2⟩, q⟩ := h
  obtain ⟨t, rfl⟩ := rx
  obtain ⟨t', rfl⟩ := ry
  have e1 : decide (n < -(2 ^ 63 : Int)) = false := decide_eq_false (by omega)
  have e2 : decide (n ≥ 2 ^ 63) = false := decide_eq_false (by omega)
  have hm : z.length * n.toNat ≤ 1000 * 1000 := Nat.mul_le_mul h1 (by omega)
  refine PySem.P.mul_str (by rw [e1, e2]; rfl) (fun hn _ => ?_) (fun hn _ => ?_) ?_
  · intro hc
    have h3 : (1000 : Int) ≤ (2 ^ 63 - 1) / n := by
      have hn1 : 1 ≤ n := by omega
      have hn2 : n ≤ 1000 := by omega
      refine (Int.le_ediv_iff_mul_le (by omega)).mpr ?_
      have : 1000 * n ≤ 1000 * 1000 := Int.mul_le_mul_of_nonneg_left hn2 (by decide)
      omega
    omega
  · have h9 : sizeLine = 16777216 := sizeLine_eq
    exact (decide_eq_false (by omega) : decide (z.length * n.toNat > sizeLine) = false)
  · by_cases hn : n < 1
    · rw [if_pos hn]
      refine ⟨by decide, ?_⟩
      refine ⟨.str _, H, I.tok _, ⟨_, rfl⟩, ?_⟩
      have e : strRep z n.toNat = Str.empty := by
        have : n.toNat = 0 := by omega
        rw [this]; rfl
      rw [← e]; exact q
    · rw [if_neg hn]
      by_cases h0 : (n == 1 || z.length == 0) = true
      · rw [if_pos h0]
        have e : strRep z n.toNat = z := by
          apply PyProof.Rows.ext_toList
          unfold strRep
          rw [Bool.or_eq_true] at h0
          rcases h0 with h0 | h0
          · have : n = 1 := by simpa using h0
            subst this; simp
          · have : z.cps.size = 0 := by simpa [Str.length] using h0
            have e0 : z.cps = #[] := Array.eq_empty_of_size_eq_zero this
            rw [e0]; simp
        refine ⟨.str z, H, I, ⟨_, rfl⟩, ?_⟩
        rw [← e]; exact q
      · rw [if_neg h0, strRep_eq]
        refine ⟨?_, ?_⟩
        · unfold strRep
          have : sizeLine = 16777216 := sizeLine_eq
          unfold Str.length at hm ⊢
          have e3 : (List.replicate n.toNat z.cps.toList).flatten.length = n.toNat * z.cps.size := by simp [List.length_flatten]
          show (List.replicate n.toNat z.cps.toList).flatten.toArray.size ≤ sizeLine
          rw [List.size_toArray, e3, Nat.mul_comm]
          omega
        · exact ⟨.str _, H, I.tok _, ⟨_, rfl⟩, q⟩

theorem lift_mul : LiftOp K opMul (fun x y H Q => rI (fun i j => IntMulOk i j) (fun i j => .int (i * j)) x y H Q ∨ rMulStr x y H Q) := fun Z A H x y vx vy Kt Q R rx ry h k => by
  unfold opMul at h
  split at h
  · exact .inl ⟨_, _, rv_int rx, rv_int ry, h.1.ok, k Z _ A _ H (Same.refl Z) R mk_int h.2⟩
  · exact .inr ⟨_, _, rv_str rx, rv_int ry, h.1, k Z _ A _ H (Same.refl Z) R mk_str h.2⟩
  · exact h.elim
theorem op_mulAll : OpR X (binaryOp .Mult) (fun x y H Q => rI (fun i j => IntMulOk i j) (fun i j => .int (i * j)) x y H Q ∨ rMulStr x y H Q) := (opI fun _ _ _ _ _ _ _ hc q => mul_int q hc).or op_mulStr
/-- a divisor that the machine takes -/
def DivOk (j : Int) : Prop := j ≠ 0 ∧ j.natAbs < 2 ^ 9000
def opDiv : DOp := fun x y A Q => match x, y with
  | .int i, .int j => DivOk j ∧ Q (.int (i.fdiv j)) A
  | _, _ => False
theorem op_fdivD : OpR X (binaryOp .FloorDiv) (rI (fun _ j => DivOk j) fun i j => .int (i.fdiv j)) := opI fun i j _ _ _ _ _ hc q =>
  floordiv_int hc.1 q (.inl (PyProof.noPylong_of_log2 (PySem.Flt.log2_lt_of (by decide) hc.2)))
theorem lift_div : LiftOp K opDiv (rI (fun _ j => DivOk j) fun i j => .int (i.fdiv j)) := fun Z A H x y vx vy Kt Q R rx ry h k => by
  unfold opDiv at h
  split at h
  · exact ⟨_, _, rv_int rx, rv_int ry, h.1, k Z _ A _ H (Same.refl Z) R mk_int h.2⟩
  · exact h.elim
def opMod : DOp := fun x y A Q => match x, y with
  | .int i, .int j => j ≠ 0 ∧ Q (.int (i.fmod j)) A
  | _, _ => False
theorem lift_mod : LiftOp K opMod (rI (fun _ j => j ≠ 0) fun i j => .int (i.fmod j)) := fun Z A H x y vx vy Kt Q R rx ry h k => by
  unfold opMod at h
  split at h
  · exact ⟨_, _, rv_int rx, rv_int ry, h.1, k Z _ A _ H (Same.refl Z) R mk_int h.2⟩
  · exact h.elim
def opPow : DOp := fun x y A Q => match x, y with
  | .int i, .int j => (0 ≤ j ∧ j ≤ 1000000 ∧ i.natAbs < 2 ^ 64) ∧ Q (.int (i ^ j.toNat)) A
  | _, _ => False
theorem lift_pow : LiftOp K opPow (rI CPow fun i j => .int (i ^ j.toNat)) := fun Z A H x y vx vy Kt Q R rx ry h k => by
  unfold opPow at h
  split at h
  · exact ⟨_, _, rv_int rx, rv_int ry, h.1, k Z _ A _ H (Same.refl Z) R mk_int h.2⟩
  · exact h.elim
def eNeg (t : DE) : DE := fun δ A Q => t δ A fun d A1 => match d with
  | .int i => Q (.int (-i)) A1
  | _ => False
section
variable {a b : Expr} {pos : Pos} {ta tb : DE}
theorem qe_neg (h : QE X Z0 a ta) : QE X Z0 (.UnaryOp .USub a pos) (eNeg ta) := PE.imp (pe_un un_neg h) fun σ H Q ⟨Z, δ, A, Kt, z, rs, ra, t, k⟩ =>
  ⟨Z, δ, A, _, z, rs, ra, t, fun Z1 d A1 v H1 s1 ra1 rv t1 => by
    cases d with
    | int i => exact ⟨i, rv_int rv, k Z1 _ A1 _ H1 s1 ra1 mk_int t1⟩
    | _ => exact t1.elim⟩
theorem qe_add {mk : Mk} (m : MkOk X.K mk) (ha : QE X Z0 a ta) (hb : QE X Z0 b tb) : QE X Z0 (.BinOp a .Add b pos) (eBin (opAdd mk) ta tb) := qe_op (lift_add m) op_addAll ha hb
theorem qe_sub (ha : QE X Z0 a ta) (hb : QE X Z0 b tb) : QE X Z0 (.BinOp a .Sub b pos) (eBin opSub ta tb) := qe_op lift_sub op_sub ha hb
theorem qe_mul (ha : QE X Z0 a ta) (hb : QE X Z0 b tb) : QE X Z0 (.BinOp a .Mult b pos) (eBin opMul ta tb) := qe_op lift_mul op_mulAll ha hb
theorem qe_div (ha : QE X Z0 a ta) (hb : QE X Z0 b tb) : QE X Z0 (.BinOp a .FloorDiv b pos) (eBin opDiv ta tb) := qe_op lift_div op_fdivD ha hb
theorem qe_mod (ha : QE X Z0 a ta) (hb : QE X Z0 b tb) : QE X Z0 (.BinOp a .Mod b pos) (eBin opMod ta tb) := qe_op lift_mod op_modN ha hb
theorem qe_pow (ha : QE X Z0 a ta) (hb : QE X Z0 b tb) : QE X Z0 (.BinOp a .Pow b pos) (eBin opPow ta tb) := qe_op lift_pow op_pow ha hb
end

/-! ### order of ints, is None, is True -/
def opCmp (p : Int → Int → Bool) : DOp := fun x y A Q => match x, y with
  | .int i, .int j => Q (.bl (p i j)) A
  | _, _ => False
theorem lift_cmp {p : Int → Int → Bool} : LiftOp K (opCmp p) (rI0 fun i j => .bl (p i j)) := fun Z A H x y vx vy Kt Q R rx ry h k => by
  unfold opCmp at h
  split at h
  · exact ⟨_, _, rv_int rx, rv_int ry, k Z _ A _ H (Same.refl Z) R mk_bl h⟩
  · exact h.elim
def D.isNon : D → Bool
  | .non => true
  | _ => false
theorem rv_isNon {d : D} {v : V} (r : RV K Z d v) : decide (v = .non) = d.isNon := by
  cases d with
  | non => rw [rv_non r]; rfl
  | bl b => rw [rv_bl r]; rfl
  | int b => rw [rv_int r]; rfl
  | str b => rw [rv_str r]; rfl
  | tup l => obtain ⟨p, _, e, _⟩ := rv_tup r; rw [e]; rfl
  | lst l => obtain ⟨p, _, e, _⟩ := rv_lst r; rw [e]; rfl
  | rol l => obtain ⟨p, _, e, _⟩ := rv_rol r; rw [e]; rfl
  | dic ks l => obtain ⟨p, _, e, _⟩ := rv_dic r; rw [e]; rfl
  | obj c ns l => obtain ⟨p, _, _, e, _⟩ := rv_obj r; rw [e]; rfl
  | ref a => rw [rv_ref r]; rfl
def opIs (neg : Bool) : DOp := fun x y A Q => match y with
  | .non => Q (.bl (xor neg x.isNon)) A
  | .bl b => match x with
    | .bl a => Q (.bl (xor neg (a == b))) A
    | _ => False
  | _ => False
theorem lift_is : LiftOp K (opIs false) (fun x y H Q => (y = .non ∧ Q (.bl (decide (x = .non))) H) ∨ ∃ a b, x = .bl a ∧ y = .bl b ∧ Q (.bl (decide (a = b))) H) := fun Z A H x y vx vy Kt Q R rx ry h k => by
  unfold opIs at h
  split at h
  · refine .inl ⟨rv_non ry, ?_⟩
    rw [rv_isNon rx]
    refine k Z _ A _ H (Same.refl Z) R mk_bl ?_
    simpa using h
  · split at h
    · rename_i b _ a
      refine .inr ⟨a, b, rv_bl rx, rv_bl ry, k Z _ A _ H (Same.refl Z) R mk_bl ?_⟩
      simpa [Bool.beq_eq_decide_eq] using h
    · exact h.elim
  · exact h.elim
theorem lift_isnot : LiftOp K (opIs true) (fun x y H Q => (y = .non ∧ Q (.bl (!decide (x = .non))) H) ∨ ∃ a b, x = .bl a ∧ y = .bl b ∧ Q (.bl (!decide (a = b))) H) := fun Z A H x y vx vy Kt Q R rx ry h k => by
  unfold opIs at h
  split at h
  · refine .inl ⟨rv_non ry, ?_⟩
    rw [rv_isNon rx]
    refine k Z _ A _ H (Same.refl Z) R mk_bl ?_
    simpa using h
  · split at h
    · rename_i b _ a
      refine .inr ⟨a, b, rv_bl rx, rv_bl ry, k Z _ A _ H (Same.refl Z) R mk_bl ?_⟩
      simpa [Bool.beq_eq_decide_eq] using h
    · exact h.elim
  · exact h.elim
theorem op_isAll : OpR X (compareOp .Is) (fun x y H Q => (y = .non ∧ Q (.bl (decide (x = .non))) H) ∨ ∃ a b, x = .bl a ∧ y = .bl b ∧ Q (.bl (decide (a = b))) H) := op_isN.or op_is_bl
theorem op_isnotAll : OpR X (compareOp .IsNot) (fun x y H Q => (y = .non ∧ Q (.bl (!decide (x = .non))) H) ∨ ∃ a b, x = .bl a ∧ y = .bl b ∧ Q (.bl (!decide (a = b))) H) := op_notN.or op_isnot_bl

/-! ### == of data -/
mutual
/-- data, of depth n at most -/
def dt : Nat → D → Bool
  | _, .non => true
  | _, .bl _ => true
  | _, .int _ => true
  | _, .str x => PyData.strOk x
  | n + 1, .tup l => dts n l
  | n + 1, .lst l => dts n l
  | n + 1, .rol l => dts n l
  | _, _ => false
def dts : Nat → List D → Bool
  | _, [] => true
  | n, d :: l => dt n d && dts n l
end
mutual
def py : D → PyData
  | .non => .none
  | .bl b => .bool b
  | .int i => .int i
  | .str x => .str x
  | .tup l => .tuple (pys l)
  | .lst l => .list (pys l)
  | .rol l => .list (pys l)
  | .dic _ _ => .none
  | .obj _ _ _ => .none
  | .ref _ => .none
def pys : List D → List PyData
  | [] => []
  | d :: l => py d :: pys l
end
mutual
/-- == -/
def deq : D → D → Bool
  | .non, .non => true
  | .bl a, .bl b => a == b
  | .bl a, .int j => (if a then 1 else 0) == j
  | .int i, .bl b => i == (if b then 1 else 0)
  | .int i, .int j => i == j
  | .str x, .str y => x == y
  | .tup l, .tup m => deqs l m
  | .lst l, .lst m => deqs l m
  | .lst l, .rol m => deqs l m
  | .rol l, .lst m => deqs l m
  | .rol l, .rol m => deqs l m
  | _, _ => false
def deqs : List D → List D → Bool
  | [], [] => true
  | d :: l, e :: m => deq d e && deqs l m
  | _, _ => false
end
mutual
theorem dt_canLay : ∀ (n : Nat) (d : D), dt n d = true → (py d).canLay0 = true ∧ (py d).depth ≤ n
  | _, .non, _ => by simp [py, PyData.canLay0, PyData.depth]
  | _, .bl _, _ => by simp [py, PyData.canLay0, PyData.depth]
  | _, .int _, _ => by simp [py, PyData.canLay0, PyData.depth]
  | _, .str x, h => by simp only [dt] at h; simp [py, PyData.canLay0, PyData.depth, h]
  | n + 1, .tup l, h => by
    simp only [dt] at h
    have := dts_canLay n l h
    simp [py, PyData.canLay0, PyData.depth, this.1, this.2]
  | n + 1, .lst l, h => by
    simp only [dt] at h
    have := dts_canLay n l h
    simp [py, PyData.canLay0, PyData.depth, this.1, this.2]
  | n + 1, .rol l, h => by
    simp only [dt] at h
    have := dts_canLay n l h
    simp [py, PyData.canLay0, PyData.depth, this.1, this.2]
  | 0, .tup l, h => by simp [dt] at h
  | 0, .lst l, h => by simp [dt] at h
  | 0, .rol l, h => by simp [dt] at h
  | _, .dic _ _, h => by simp [dt] at h
  | _, .obj _ _ _, h => by simp [dt] at h
  | _, .ref _, h => by simp [dt] at h
theorem dts_canLay : ∀ (n : Nat) (l : List D), dts n l = true → PyData.canLayAll0 (pys l) = true ∧ PyData.depthAll (pys l) ≤ n
  | _, [], _ => by simp [pys, PyData.canLayAll0, PyData.depthAll]
  | n, d :: l, h => by
    simp only [dts, Bool.and_eq_true] at h
    have h1 := dt_canLay n d h.1
    have h2 := dts_canLay n l h.2
    simp [pys, PyData.canLayAll0, PyData.depthAll, h1.1, h2.1, Nat.max_le, h1.2, h2.2]
end

mutual
theorem deq_eqv : ∀ (d e : D) (n m : Nat), dt n d = true → dt m e = true → PyData.eqv (py d) (py e) = deq d e
  | .non, e, _, _, _, h => by cases e <;> first | rfl | simp [dt] at h | simp [py, PyData.eqv, deq]
  | .bl _, e, _, _, _, h => by cases e <;> first | rfl | simp [dt] at h | simp [py, PyData.eqv, deq]
  | .int _, e, _, _, _, h => by cases e <;> first | rfl | simp [dt] at h | simp [py, PyData.eqv, deq]
  | .str _, e, _, _, _, h => by cases e <;> first | rfl | simp [dt] at h | simp [py, PyData.eqv, deq]
  | .tup l, e, 0, _, h0, h => by simp [dt] at h0
  | .lst l, e, 0, _, h0, h => by simp [dt] at h0
  | .rol l, e, 0, _, h0, h => by simp [dt] at h0
  | .tup l, e, n + 1, m, h0, h => by
    simp only [dt] at h0
    cases e with
    | tup k => cases m with
      | zero => simp [dt] at h
      | succ m => simp only [dt] at h; simp only [py, PyData.eqv, deq]; exact deqs_eqv l k n m h0 h
    | dic _ _ => simp [dt] at h
    | obj _ _ _ => simp [dt] at h
    | ref _ => simp [dt] at h
    | _ => simp [py, PyData.eqv, deq]
  | .lst l, e, n + 1, m, h0, h => by
    simp only [dt] at h0
    cases e with
    | lst k => cases m with
      | zero => simp [dt] at h
      | succ m => simp only [dt] at h; simp only [py, PyData.eqv, deq]; exact deqs_eqv l k n m h0 h
    | rol k => cases m with
      | zero => simp [dt] at h
      | succ m => simp only [dt] at h; simp only [py, PyData.eqv, deq]; exact deqs_eqv l k n m h0 h
    | dic _ _ => simp [dt] at h
    | obj _ _ _ => simp [dt] at h
    | ref _ => simp [dt] at h
    | _ => simp [py, PyData.eqv, deq]
  | .rol l, e, n + 1, m, h0, h => by
    simp only [dt] at h0
    cases e with
    | lst k => cases m with
      | zero => simp [dt] at h
      | succ m => simp only [dt] at h; simp only [py, PyData.eqv, deq]; exact deqs_eqv l k n m h0 h
    | rol k => cases m with
      | zero => simp [dt] at h
      | succ m => simp only [dt] at h; simp only [py, PyData.eqv, deq]; exact deqs_eqv l k n m h0 h
    | dic _ _ => simp [dt] at h
    | obj _ _ _ => simp [dt] at h
    | ref _ => simp [dt] at h
    | _ => simp [py, PyData.eqv, deq]
  | .dic _ _, _, _, _, h0, _ => by simp [dt] at h0
  | .obj _ _ _, _, _, _, h0, _ => by simp [dt] at h0
  | .ref _, _, _, _, h0, _ => by simp [dt] at h0
theorem deqs_eqv : ∀ (l k : List D) (n m : Nat), dts n l = true → dts m k = true → PyData.eqvAll (pys l) (pys k) = deqs l k
  | [], [], _, _, _, _ => by simp [pys, PyData.eqvAll, deqs]
  | [], _ :: _, _, _, _, _ => by simp [pys, PyData.eqvAll, deqs]
  | _ :: _, [], _, _, _, _ => by simp [pys, PyData.eqvAll, deqs]
  | d :: l, e :: k, n, m, h1, h2 => by
    simp only [dts, Bool.and_eq_true] at h1 h2
    simp only [pys, PyData.eqvAll, deqs]
    rw [deq_eqv d e n m h1.1 h2.1, deqs_eqv l k n m h1.2 h2.2]
end
mutual
theorem dp_of {A : AH} {H : Hp} (R : RA K Z A H) : ∀ (d : D) (v : V) (n : Nat), dt n d = true → RV K Z d v → Dp K H v (py d)
  | .non, v, _, _, r => by rw [rv_non r]; simp only [py]; exact .non
  | .bl _, v, _, _, r => by rw [rv_bl r]; simp only [py]; exact .bl _
  | .int _, v, _, _, r => by rw [rv_int r]; simp only [py]; exact .int _
  | .str _, v, _, _, r => by rw [rv_str r]; simp only [py]; exact .str _
  | .tup l, v, 0, h, r => by simp [dt] at h
  | .lst l, v, 0, h, r => by simp [dt] at h
  | .rol l, v, 0, h, r => by simp [dt] at h
  | .tup l, v, n + 1, h, r => by
    simp only [dt] at h
    obtain ⟨p, vs, rfl, e2, e3⟩ := rv_tup r
    simp only [py]
    exact .tup (sqT_mono R.sub e2) (dps_of R l vs n h e3)
  | .lst l, v, n + 1, h, r => by
    simp only [dt] at h
    obtain ⟨p, vs, rfl, e2, e3⟩ := rv_lst r
    simp only [py]
    exact .lst (SqL.of (R.sub _ _ e2)) (dps_of R l vs n h e3)
  | .rol l, v, n + 1, h, r => by
    simp only [dt] at h
    obtain ⟨p, vs, rfl, e2, e3⟩ := rv_rol r
    simp only [py]
    exact .lst (sqL_mono R.sub e2) (dps_of R l vs n h e3)
  | .dic _ _, _, _, h0, _ => by simp [dt] at h0
  | .obj _ _ _, _, _, h0, _ => by simp [dt] at h0
  | .ref _, _, _, h0, _ => by simp [dt] at h0
theorem dps_of {A : AH} {H : Hp} (R : RA K Z A H) : ∀ (l : List D) (vs : List V) (n : Nat), dts n l = true → RVs K Z l vs → DpAll K H vs (pys l)
  | [], vs, _, _, r => by rw [r.inv0]; simp only [pys]; exact .nil
  | d :: l, vs, n, h, r => by
    simp only [dts, Bool.and_eq_true] at h
    obtain ⟨v, u, rfl, r1, r2⟩ := r.inv
    simp only [pys]
    exact .cons (dp_of R d v n h.1 r1) (dps_of R l u n h.2 r2)
end
/-- a list that may change, as it stands -/
def drf (A : AH) : D → D
  | .ref a => match A a with
    | some (.lst l) => .lst l
    | _ => .ref a
  | d => d
theorem dp_drf {A : AH} {H : Hp} (R : RA K Z A H) {d : D} {v : V} {n : Nat} (h : dt n (drf A d) = true) (r : RV K Z d v) : Dp K H v (py (drf A d)) := by
  cases d with
  | ref a =>
    have e : drf A (.ref a) = (match A a with | some (.lst l) => .lst l | _ => .ref a) := rfl
    rw [e] at h ⊢
    split at h
    · rename_i l q
      obtain ⟨vs, e2, e3⟩ := (R.at_ a _ q).2
      rw [rv_ref r]
      cases n with
      | zero => simp [dt] at h
      | succ n =>
        simp only [dt] at h
        simp only [py]
        exact .lst (SqL.of e2) (dps_of R l vs n h e3)
    · simp [dt] at h
  | _ => exact dp_of R _ _ n h r
def opEq (neg : Bool) : DOp := fun x y A Q => dt 60 (drf A x) = true ∧ dt 60 (drf A y) = true ∧ Q (.bl (xor neg (deq (drf A x) (drf A y)))) A
theorem lift_eq : LiftOp K (opEq false) (rEqD K) := fun Z A H x y vx vy Kt Q R rx ry ⟨h1, h2, h⟩ k => by
  obtain ⟨c1, c2⟩ := dt_canLay _ _ h1
  obtain ⟨c3, c4⟩ := dt_canLay _ _ h2
  refine ⟨_, _, dp_drf R h1 rx, dp_drf R h2 ry, ?_, ?_, ?_⟩
  · unfold SeqAt.shaped; rw [c1, Bool.true_and]; exact decide_eq_true (by omega)
  · unfold SeqAt.shaped; rw [c3, Bool.true_and]; exact decide_eq_true (by omega)
  · rw [deq_eqv _ _ _ _ h1 h2]
    exact k Z _ A _ H (Same.refl Z) R mk_bl (by simpa using h)
theorem lift_ne : LiftOp K (opEq true) (rNeD K) := fun Z A H x y vx vy Kt Q R rx ry ⟨h1, h2, h⟩ k => by
  obtain ⟨c1, c2⟩ := dt_canLay _ _ h1
  obtain ⟨c3, c4⟩ := dt_canLay _ _ h2
  refine ⟨_, _, dp_drf R h1 rx, dp_drf R h2 ry, ?_, ?_, ?_⟩
  · unfold SeqAt.shaped; rw [c1, Bool.true_and]; exact decide_eq_true (by omega)
  · unfold SeqAt.shaped; rw [c3, Bool.true_and]; exact decide_eq_true (by omega)
  · rw [deq_eqv _ _ _ _ h1 h2]
    exact k Z _ A _ H (Same.refl Z) R mk_bl (by simpa using h)

/-! ### in -/
theorem dts_any (y : D) (n : Nat) (hy : dt n y = true) : ∀ (l : List D) (m : Nat), dts m l = true → (pys l).any (fun z => PyData.eqv z (py y)) = l.any (fun z => deq z y)
  | [], _, _ => by simp [pys]
  | d :: l, m, h => by
    simp only [dts, Bool.and_eq_true] at h
    simp only [pys, List.any_cons]
    rw [deq_eqv d y m n h.1 hy, dts_any y n hy l m h.2]
/-- a dict's key -/
def asKey : D → Option Key
  | .int i => some (.inl i)
  | .str x => some (.inr x)
  | _ => none
theorem asKey_ok {d : D} {v : V} {k : Key} (r : RV K Z d v) (h : asKey d = some k) : v = kV k := by
  cases d with
  | int i => cases (show some (Sum.inl i) = some k from h); exact rv_int r
  | str i => cases (show some (Sum.inr i) = some k from h); exact rv_str r
  | _ => cases h
/-- the value at a key -/
def dget (kvs : List (Key × D)) (k : Key) : Option D := (kvs.find? fun kv => decide (kv.1 = k)).map (·.2)
theorem dget_ok {k : Key} : ∀ {kvs : List (Key × D)} {us : List (Key × V)}, us.map (·.1) = kvs.map (·.1) → RVs K Z (kvs.map (·.2)) (us.map (·.2)) →
    (dget kvs k = none ∧ valV us k = none) ∨ ∃ d v, dget kvs k = some d ∧ valV us k = some v ∧ RV K Z d v
  | [], us, e, _ => by
    have : us = [] := by simpa using e
    subst this; exact .inl ⟨rfl, rfl⟩
  | (k1, d) :: kvs, [], e, _ => by simp at e
  | (k1, d) :: kvs, (k2, v) :: us, e, r => by
    simp only [List.map_cons, List.cons.injEq] at e
    obtain ⟨e1, e2⟩ := e
    have e1 : k2 = k1 := e1
    subst e1
    obtain ⟨v', u', hv, r1, r2⟩ := RVs.inv (show RVs K Z (d :: kvs.map (·.2)) (v :: us.map (·.2)) from r)
    obtain ⟨rfl, rfl⟩ := List.cons.inj hv
    by_cases hk : k2 = k
    · refine .inr ⟨d, v, ?_, ?_, r1⟩
      · simp [dget, List.find?_cons, hk]
      · exact valV_pos (p := (k2, v)) hk
    · have ih := dget_ok (k := k) e2 r2
      have h1 : dget ((k2, d) :: kvs) k = dget kvs k := by simp [dget, List.find?_cons, hk]
      have h2 : valV ((k2, v) :: us) k = valV us k := valV_neg (p := (k2, v)) hk
      rw [h1, h2]
      exact ih
def opIn (neg : Bool) : DOp := fun x y A Q => match asDic A y, asKey x with
  | some kvs, some k => Q (.bl (xor neg (dget kvs k).isSome)) A
  | some _, none => False
  | none, _ => match x, y with
    | .str c, .str z => c.cps.size = 1 ∧ Q (.bl (xor neg (decide (c.cps.getD 0 0 ∈ z.cps.toList)))) A
    | x, .tup l => (flatD x && l.all flatD) = true ∧ Q (.bl (xor neg (l.any fun z => deq z x))) A
    | x, y => match asL A y with
      | some l => dt 60 (drf A x) = true ∧ dts 59 l = true ∧ Q (.bl (xor neg (l.any fun z => deq z (drf A x)))) A
      | none => False
where flatD : D → Bool
  | .non => true | .bl _ => true | .int _ => true | .str _ => true | _ => false

def rInDict (neg : Bool) : R2 := fun x y H Q => ∃ a o, y = .ref a ∧ DGet H a x o ∧ Q (.bl (xor neg o.isSome)) H
theorem op_inDict (hu : X.A.units + 1 < cLine) : OpR X (compareOp .In) (rInDict false) := by
  intro pins s σ H x y v u Q I rx ry h
  obtain ⟨a, o, rfl, g, q⟩ := h
  obtain rfl : u = Value.ref a := ry
  exact d_in hu I g rx fun s3 I3 => ⟨.bl o.isSome, H, I3, rfl, by simpa using q⟩
theorem op_notInDict (hu : X.A.units + 1 < cLine) : OpR X (compareOp .NotIn) (rInDict true) := by
  intro pins s σ H x y v u Q I rx ry h
  obtain ⟨a, o, rfl, g, q⟩ := h
  obtain rfl : u = Value.ref a := ry
  exact d_notIn hu I g rx fun s3 I3 => ⟨.bl (!o.isSome), H, I3, rfl, by simpa using q⟩
def rInSign (neg : Bool) : R2 := fun x y H Q => ∃ (c : Nat) (z : Str), x = .str ⟨#[c]⟩ ∧ y = .str z ∧ Q (.bl (xor neg (decide (c ∈ z.cps.toList)))) H
theorem op_inSign : OpR X (compareOp .In) (rInSign false) := by
  intro pins s σ H x y v u Q I rx ry ⟨c, z, h1, h2, q⟩
  exact op_in_sign pins s σ H x y v u Q I rx ry ⟨c, z, h1, h2, by simpa using q⟩
theorem op_notInSign : OpR X (compareOp .NotIn) (rInSign true) := by
  intro pins s σ H x y v u Q I rx ry ⟨c, z, h1, h2, q⟩
  exact op_notIn_sign pins s σ H x y v u Q I rx ry ⟨c, z, h1, h2, by simpa using q⟩
def rInAll (K : PySem.W.Frag) (neg : Bool) (rd : R2) : R2 := fun x y H Q => rInDict neg x y H Q ∨ rInSign neg x y H Q ∨ rIn K neg x y H Q ∨ rd x y H Q
theorem op_inAll (hu : X.A.units + 65 < cLine) : OpR X (compareOp .In) (rInAll X.K false (rInD X.K)) := (op_inDict (by omega)).or (op_inSign.or (op_in_seq.or (op_inD hu)))
theorem op_notInAll (hu : X.A.units + 65 < cLine) : OpR X (compareOp .NotIn) (rInAll X.K true (rNotInD X.K)) := (op_notInDict (by omega)).or (op_notInSign.or (op_notIn_seq.or (op_notInD hu)))
theorem flat_rv {d : D} {v : V} (r : RV K Z d v) (h : opIn.flatD d = true) : flatV v = true := by
  cases d with
  | non => rw [rv_non r]; rfl
  | bl b => rw [rv_bl r]; rfl
  | int b => rw [rv_int r]; rfl
  | str b => rw [rv_str r]; rfl
  | _ => cases h
theorem flat_eq {d e : D} {v u : V} (r : RV K Z d v) (q : RV K Z e u) (h : opIn.flatD d = true) (h' : opIn.flatD e = true) : eqV v u = deq d e := by
  cases d with
  | non => rw [rv_non r]; cases e with
    | non => rw [rv_non q]; simp [eqV, deq]
    | bl b => rw [rv_bl q]; simp [eqV, deq]
    | int b => rw [rv_int q]; simp [eqV, deq]
    | str b => rw [rv_str q]; simp [eqV, deq]
    | _ => cases h'
  | bl b => rw [rv_bl r]; cases e with
    | non => rw [rv_non q]; simp [eqV, deq]
    | bl b => rw [rv_bl q]; simp [eqV, deq]
    | int b => rw [rv_int q]; simp [eqV, deq]
    | str b => rw [rv_str q]; simp [eqV, deq]
    | _ => cases h'
  | int b => rw [rv_int r]; cases e with
    | non => rw [rv_non q]; simp [eqV, deq]
    | bl b => rw [rv_bl q]; simp [eqV, deq]
    | int b => rw [rv_int q]; simp [eqV, deq]
    | str b => rw [rv_str q]; simp [eqV, deq]
    | _ => cases h'
  | str b => rw [rv_str r]; cases e with
    | non => rw [rv_non q]; simp [eqV, deq]
    | bl b => rw [rv_bl q]; simp [eqV, deq]
    | int b => rw [rv_int q]; simp [eqV, deq]
    | str b => rw [rv_str q]; simp [eqV, deq]
    | _ => cases h'
  | _ => cases h
theorem flat_any {x : D} {vx : V} (rx : RV K Z x vx) (hx : opIn.flatD x = true) : ∀ {l : List D} {vs : List V}, RVs K Z l vs → l.all opIn.flatD = true → vs.all flatV = true ∧ inV vx vs = l.any (fun z => deq z x)
  | [], vs, r, _ => by rw [r.inv0]; exact ⟨rfl, rfl⟩
  | d :: l, vs, r, h => by
    obtain ⟨v, u, rfl, r1, r2⟩ := r.inv
    simp only [List.all_cons, Bool.and_eq_true] at h
    have ih := flat_any rx hx r2 h.2
    refine ⟨by simp only [List.all_cons, Bool.and_eq_true]; exact ⟨flat_rv r1 h.1, ih.1⟩, ?_⟩
    have e := ih.2
    unfold inV at e ⊢
    rw [List.any_cons, List.any_cons, e, flat_eq r1 rx h.1 hx]
theorem opIn_cases {neg : Bool} {x y : D} {A : AH} {Q : DK} (h : opIn neg x y A Q) :
    (∃ kvs k, asDic A y = some kvs ∧ asKey x = some k ∧ Q (.bl (xor neg (dget kvs k).isSome)) A) ∨
    (∃ c z, x = .str c ∧ y = .str z ∧ c.cps.size = 1 ∧ Q (.bl (xor neg (decide (c.cps.getD 0 0 ∈ z.cps.toList)))) A) ∨
    (∃ l, y = .tup l ∧ (opIn.flatD x && l.all opIn.flatD) = true ∧ Q (.bl (xor neg (l.any fun z => deq z x))) A) ∨
    ∃ l, asL A y = some l ∧ dt 60 (drf A x) = true ∧ dts 59 l = true ∧ Q (.bl (xor neg (l.any fun z => deq z (drf A x)))) A := by
  unfold opIn at h
  split at h
  · rename_i kvs k h1 h2
    exact .inl ⟨kvs, k, h1, h2, h⟩
  · exact h.elim
  · split at h
    · exact .inr (.inl ⟨_, _, rfl, rfl, h.1, h.2⟩)
    · exact .inr (.inr (.inl ⟨_, rfl, h.1, h.2⟩))
    · split at h
      · rename_i l q
        exact .inr (.inr (.inr ⟨l, q, h⟩))
      · exact h.elim
theorem asL_dp {A : AH} {H : Hp} (R : RA K Z A H) {d : D} {v : V} {l : List D} {n : Nat} (r : RV K Z d v) (h : asL A d = some l) (q : dts n l = true) : Dp K H v (.list (pys l)) := by
  obtain ⟨p, vs, e1, e2, e3⟩ := asL_ok R r h
  rw [e1]
  exact .lst e2 (dps_of R l vs n q e3)
theorem one_sign {c : Str} (h : c.cps.size = 1) : c = ⟨#[c.cps.getD 0 0]⟩ := by
  apply PyProof.Rows.ext_toList
  have h2 : c.cps.toList.length = 1 := by simpa using h
  match hc : c.cps.toList, h2 with
  | [x], _ =>
    have : c.cps = #[x] := by apply Array.toList_inj.mp; simpa using hc
    rw [this]; simp
theorem lift_in0 {neg : Bool} {rd : R2} (hrd : ∀ x y H Q, (∃ d ds, Dp K H x d ∧ Dp K H y (.list ds) ∧ SeqAt.shaped d = true ∧ SeqAt.shaped (.list ds) = true ∧ Q (.bl (xor neg (ds.any fun z => PyData.eqv z d))) H) → rd x y H Q) : LiftOp K (opIn neg) (rInAll K neg rd) := fun Z A H x y vx vy Kt Q R rx ry h k => by
  rcases opIn_cases h with ⟨kvs, ky, h1, h2, h⟩ | ⟨c, z, rfl, rfl, h1, h⟩ | ⟨l, rfl, h1, h⟩ | ⟨l, h1, h2, h3, h⟩
  · obtain ⟨p, us, e1, e2, e3, e4⟩ := asDic_ok R ry h1
    refine .inl ⟨p, valV us ky, e1, ?_, ?_⟩
    · rw [asKey_ok rx h2]; exact DGet.k e2
    · refine k Z _ A _ H (Same.refl Z) R mk_bl ?_
      rcases dget_ok (k := ky) e3 e4 with ⟨q1, q2⟩ | ⟨d, v, q1, q2, _⟩
      · rw [q2]; rw [q1] at h; exact h
      · rw [q2]; rw [q1] at h; exact h
  · refine .inr (.inl ⟨c.cps.getD 0 0, z, ?_, rv_str ry, k Z _ A _ H (Same.refl Z) R mk_bl h⟩)
    rw [rv_str rx]; exact congrArg V.str (one_sign h1)
  · obtain ⟨p, vs, e1, e2, e3⟩ := rv_tup ry
    simp only [Bool.and_eq_true] at h1
    obtain ⟨f1, f2⟩ := flat_any rx h1.1 e3 h1.2
    refine .inr (.inr (.inl ⟨p, vs, e1, .inr (sqT_mono R.sub e2), flat_rv rx h1.1, f1, ?_⟩))
    rw [f2]
    refine k Z _ A _ H (Same.refl Z) R ?_ h
    cases neg <;> simp [RV]
  · obtain ⟨c1, c2⟩ := dt_canLay _ _ h2
    obtain ⟨c3, c4⟩ := dts_canLay _ _ h3
    refine .inr (.inr (.inr (hrd _ _ _ _ ⟨_, _, dp_drf R h2 rx, asL_dp R ry h1 h3, ?_, ?_, ?_⟩)))
    · unfold SeqAt.shaped; rw [c1, Bool.true_and]; exact decide_eq_true (by omega)
    · unfold SeqAt.shaped; simp only [PyData.canLay0, PyData.depth]; rw [c3, Bool.true_and]; exact decide_eq_true (by omega)
    · rw [dts_any _ _ h2 _ _ h3]
      exact k Z _ A _ H (Same.refl Z) R mk_bl h
theorem lift_in : LiftOp K (opIn false) (rInAll K false (rInD K)) := lift_in0 fun x y H Q ⟨d, ds, h1, h2, h3, h4, h5⟩ => ⟨d, ds, h1, h2, h3, h4, by simpa using h5⟩
theorem lift_notin : LiftOp K (opIn true) (rInAll K true (rNotInD K)) := lift_in0 fun x y H Q ⟨d, ds, h1, h2, h3, h4, h5⟩ => ⟨d, ds, h1, h2, h3, h4, by simpa using h5⟩
end DL

/-! DL3: subscripts, slices, fields, built-in functions and methods over data. -/
namespace DL
open PySem PySem.Spec PyProof.Rows L2
variable {K : PySem.W.Frag} {Z Z' Z0 : Hp} {X : Cx}

/-! ### subscripts -/
def opIx : DOp := fun x y A Q => match y with
  | .int i => (match x with
    | .str z => Few z.length ∧ (match atI z.cps.toList i with
      | some c => Q (.str ⟨#[c]⟩) A
      | none => False)
    | x => match asS A x with
      | some l => (match atI l i with
        | some d => Q d A
        | none => False)
      | none => match asDic A x with
        | some kvs => (match dget kvs (.inl i) with
          | some d => Q d A
          | none => False)
        | none => False)
  | .str k => (match asDic A x with
    | some kvs => (match dget kvs (.inr k) with
      | some d => Q d A
      | none => False)
    | none => False)
  | _ => False
def rIxD : R2 := fun x y H Q => ∃ a v, x = .ref a ∧ DGet H a y (some v) ∧ Q v H
theorem ix_dict (hu : X.A.units + 1 < cLine) : IxR X rIxD := by
  intro value slice pins s σ H x y v u Q I rx ry h hs
  obtain ⟨a, w, rfl, g, q⟩ := h
  obtain rfl : v = Value.ref a := rx
  exact tail_any (dict_typeIs I g) PySem.F.slot_dict_getitem.lookup (d_getItem hu I g ry fun w' s3 I3 rw' => ⟨w, H, I3, rw', q⟩) hs
def rIxAll (K : PySem.W.Frag) : R2 := fun x y H Q => rIxL K x y H Q ∨ rIxT K x y H Q ∨ rIxS x y H Q ∨ rIxD x y H Q
theorem ix_all (hu : X.A.units + 1 < cLine) : IxR X (rIxAll X.K) := ix_list.or (ix_tup.or (ix_str.or (ix_dict hu)))
theorem atI_rvs {l : List D} {vs : List V} {i : Int} {d : D} (r : RVs K Z l vs) (h : atI l i = some d) : ∃ v, atI vs i = some v ∧ RV K Z d v := by
  unfold atI at h ⊢
  rw [r.len]
  cases e : ixN l.length i with
  | none => rw [e] at h; cases h
  | some j =>
    rw [e] at h
    obtain ⟨v, h1, h2⟩ := r.get' (show l[j]? = some d from h)
    exact ⟨v, h1, h2⟩
theorem opIx_cases {x y : D} {A : AH} {Q : DK} (h : opIx x y A Q) :
    (∃ i z c, y = .int i ∧ x = .str z ∧ Few z.length ∧ atI z.cps.toList i = some c ∧ Q (.str ⟨#[c]⟩) A) ∨ (∃ i l d, y = .int i ∧ asS A x = some l ∧ atI l i = some d ∧ Q d A) ∨
      (∃ k kvs d, asKey y = some k ∧ asDic A x = some kvs ∧ dget kvs k = some d ∧ Q d A) := by
  unfold opIx at h
  split at h
  · rename_i i
    split at h
    · obtain ⟨h1, h2⟩ := h
      split at h2
      · rename_i c q
        exact .inl ⟨i, _, c, rfl, rfl, h1, q, h2⟩
      · exact h2.elim
    · split at h
      · rename_i l q
        split at h
        · rename_i d q2
          exact .inr (.inl ⟨i, l, d, rfl, q, q2, h⟩)
        · exact h.elim
      · split at h
        · rename_i kvs q
          split at h
          · rename_i d q2
            exact .inr (.inr ⟨.inl i, kvs, d, rfl, q, q2, h⟩)
          · exact h.elim
        · exact h.elim
  · rename_i k
    split at h
    · rename_i kvs q
      split at h
      · rename_i d q2
        exact .inr (.inr ⟨.inr k, kvs, d, rfl, q, q2, h⟩)
      · exact h.elim
    · exact h.elim
  · exact h.elim
theorem lift_ix : LiftOp K opIx (rIxAll K) := fun Z A H x y vx vy Kt Q R rx ry h k => by
  rcases opIx_cases h with ⟨i, z, c, rfl, rfl, h1, h2, h⟩ | ⟨i, l, d, rfl, h1, h2, h⟩ | ⟨ky, kvs, d, h1, h2, h3, h⟩
  · exact .inr (.inr (.inl ⟨z, i, c, rv_str rx, rv_int ry, few_line h1, h2, k Z _ A _ H (Same.refl Z) R mk_str h⟩))
  · obtain ⟨p, vs, e1, e2, e3⟩ := asS_ok R rx h1
    obtain ⟨v, f1, f2⟩ := atI_rvs e3 h2
    rcases e2 with e2 | e2
    · exact .inl ⟨p, vs, i, v, e1, rv_int ry, e2, f1, k Z _ A _ H (Same.refl Z) R f2 h⟩
    · exact .inr (.inl ⟨p, vs, i, v, e1, rv_int ry, e2, f1, k Z _ A _ H (Same.refl Z) R f2 h⟩)
  · obtain ⟨p, us, e1, e2, e3, e4⟩ := asDic_ok R rx h2
    rcases dget_ok (k := ky) e3 e4 with ⟨q1, _⟩ | ⟨d', v, q1, q2, q3⟩
    · rw [q1] at h3; cases h3
    · rw [q1] at h3; cases h3
      refine .inr (.inr (.inr ⟨p, v, e1, ?_, k Z _ A _ H (Same.refl Z) R q3 h⟩))
      rw [asKey_ok ry h1, ← q2]; exact DGet.k e2
section
variable {a b e : Expr} {es : List Expr} {pos p2 : Pos} {ta tb : DE} {lo hi : Option Expr}
theorem qe_ix (hu : X.A.units + 1 < cLine) (ha : QE X Z0 a ta) (hb : QE X Z0 b tb) (hs : PlainIx b) : QE X Z0 (.Subscript a b pos) (eBin opIx ta tb) :=
  PE.imp (pe_ix (ix_all hu) ha hb hs) fun σ H Q h => lift_bin lift_ix h

/-! ### slices -/
abbrev DOpt := DSt → AH → (Option Int → AH → Prop) → Prop
def liftO (K : PySem.W.Frag) (Z0 : Hp) (t : DOpt) : TO := fun σ H Q => ∃ Z δ A Kt, Same Z0 Z ∧ RS K Z δ σ ∧ RA K Z A H ∧ t δ A Kt ∧
  ∀ Z' o A' H', Same Z Z' → RA K Z' A' H' → Kt o A' → Q o H'
def oNone : DOpt := fun _ A Q => Q none A
def oSome (t : DE) : DOpt := fun δ A Q => t δ A fun d A1 => match d with
  | .int i => Q (some i) A1
  | _ => False
abbrev QO (X : Cx) (Z0 : Hp) (e : Option Expr) (t : DOpt) : Prop := PO X e (liftO X.K Z0 t)
theorem PO.imp {X : Cx} {e : Option Expr} {t u : TO} (h : PO X e t) (i : ∀ σ H Q, u σ H Q → t σ H Q) : PO X e u := ⟨fun pins s σ H Q I q => h.run pins s σ H Q I (i σ H Q q)⟩
theorem qo_none : QO X Z0 none oNone := PO.imp po_none fun σ H Q ⟨Z, δ, A, Kt, z, rs, ra, t, k⟩ => k Z none A H (Same.refl Z) ra t
theorem qo_some (h : QE X Z0 e ta) : QO X Z0 (some e) (oSome ta) := PO.imp (po_some h) fun σ H Q ⟨Z, δ, A, Kt, z, rs, ra, t, k⟩ =>
  ⟨Z, δ, A, _, z, rs, ra, t, fun Z1 d A1 v H1 s1 ra1 rv t1 => by
    cases d with
    | int i => exact ⟨i, rv_int rv, k Z1 _ A1 H1 s1 ra1 t1⟩
    | _ => exact t1.elim⟩
/-- the items lo .. hi -/
def cutD (l : List D) (lo hi : Option Int) : List D := (l.drop (HT.sIx l.length 0 lo)).take (HT.sIx l.length l.length hi - HT.sIx l.length 0 lo)
theorem cut_rvs {l : List D} {vs : List V} (r : RVs K Z l vs) (lo hi : Option Int) : RVs K Z (cutD l lo hi) (cutV vs lo hi) := by
  unfold cutD cutV
  rw [r.len]
  exact (r.drop _).take _
def opSl (mk : Mk) (x : D) (lo hi : Option Int) : AH → DK → Prop := fun A Q => match x with
  | .str z => Few z.length ∧ Q (.str (cutS z lo hi)) A
  | .tup l => Q (.tup (cutD l lo hi)) A
  | x => match asL A x with
    | some l => mk (cutD l lo hi) A Q
    | none => False
def eSl (mk : Mk) (t : DE) (lo hi : DOpt) : DE := fun δ A Q => t δ A fun x A1 => lo δ A1 fun l A2 => hi δ A2 fun h A3 => opSl mk x l h A3 Q
def rSlAll (K : PySem.W.Frag) : V → Option Int → Option Int → Hp → VK → Prop := fun x lo hi H Q => rSlS x lo hi H Q ∨ rSlA K x lo hi H Q ∨ rSlL K x lo hi H Q
theorem sl_all : SlR X (rSlAll X.K) := sl_str.or (sl_tupA.or sl_list)
theorem opSl_cases {mk : Mk} {x : D} {lo hi : Option Int} {A : AH} {Q : DK} (h : opSl mk x lo hi A Q) :
    (∃ z, x = .str z ∧ Few z.length ∧ Q (.str (cutS z lo hi)) A) ∨ (∃ l, x = .tup l ∧ Q (.tup (cutD l lo hi)) A) ∨ ∃ l, asL A x = some l ∧ mk (cutD l lo hi) A Q := by
  unfold opSl at h
  split at h
  · exact .inl ⟨_, rfl, h⟩
  · exact .inr (.inl ⟨_, rfl, h⟩)
  · split at h
    · rename_i l q
      exact .inr (.inr ⟨l, q, h⟩)
    · exact h.elim
theorem qe_sl {mk : Mk} (m : MkOk X.K mk) {tl th : DOpt} (he : QE X Z0 e ta) (hl : QO X Z0 lo tl) (hu : QO X Z0 hi th) : QE X Z0 (.Subscript e (.Slice lo hi none p2) pos) (eSl mk ta tl th) :=
  PE.imp (pe_slice sl_all he hl hu) fun σ H Q ⟨Z, δ, A, Kt, z, rs, ra, t, k⟩ => ⟨Z, δ, A, _, z, rs, ra, t, fun Z1 d A1 v H1 s1 ra1 rv t1 =>
    ⟨Z1, δ, A1, _, z.trans s1, rs.mono s1, ra1, t1, fun Z2 l A2 H2 s2 ra2 t2 => ⟨Z2, δ, A2, _, (z.trans s1).trans s2, (rs.mono s1).mono s2, ra2, t2, fun Z3 h A3 H3 s3 ra3 t3 => by
      have rx := (rv.mono s2).mono s3
      have k3 : Kont X.K Z3 Kt Q := Kont.mono k ((s1.trans s2).trans s3)
      rcases opSl_cases t3 with ⟨z, rfl, h1, t4⟩ | ⟨l', rfl, t4⟩ | ⟨l', h1, t4⟩
      · exact .inl ⟨z, rv_str rx, few_line h1, k3 Z3 _ A3 _ H3 (Same.refl _) ra3 mk_str t4⟩
      · obtain ⟨p, vs, e1, e2, e3⟩ := rv_tup rx
        refine .inr (.inl ⟨p, vs, e1, sqT_mono ra3.sub e2, fun hw => ?_, fun _ q hq => ?_⟩)
        · refine k3 Z3 _ A3 _ H3 (Same.refl _) ra3 (mk_tup e2 ?_) t4
          have hc : cutD l' l h = l' := by
            unfold cutD
            rw [← e3.len, hw.1, hw.2, List.drop_zero, Nat.sub_zero, e3.len, List.take_length]
          rw [hc]; exact e3
        · obtain ⟨s, R'⟩ := ra3.newF hq (.tup (cutV vs l h))
          exact k3 _ _ A3 _ _ s R' (mk_tup (SqT.of upd_same) ((cut_rvs e3 l h).mono s)) t4
      · obtain ⟨p, vs, e1, e2, e3⟩ := asL_ok ra3 rx h1
        exact .inr (.inr ⟨p, vs, e1, e2, m.ok ra3 (cut_rvs e3 l h) t4 k3⟩)⟩⟩⟩
end

/-! ### fields -/
theorem map_inj_toNat : ∀ {a b : List Char}, a.map Char.toNat = b.map Char.toNat → a = b
  | [], [], _ => rfl
  | [], _ :: _, h => by simp at h
  | _ :: _, [], h => by simp at h
  | c :: a, d :: b, h => by
    simp only [List.map_cons, List.cons.injEq] at h
    rw [Char.toNat_inj.mp h.1, map_inj_toNat h.2]
theorem ofString_inj {a b : String} (h : Str.ofString a = Str.ofString b) : a = b := by
  rw [Str.ofString_eq_toList, Str.ofString_eq_toList] at h
  have h2 : a.toList.map Char.toNat = b.toList.map Char.toNat := by
    have := congrArg (fun z : Str => z.cps.toList) h
    simpa using this
  have h3 : a.toList = b.toList := map_inj_toNat h2
  exact String.toList_inj.mp h3
theorem look_ok {f : String} : ∀ {fs : List (String × D)} {us : List (Str × V)}, us.map (·.1) = fs.map (fun p => Str.ofString p.1) → RVs K Z (fs.map (·.2)) (us.map (·.2)) →
    (fs.lookup f = none ∧ us.lookup (Str.ofString f) = none) ∨ ∃ d v, fs.lookup f = some d ∧ us.lookup (Str.ofString f) = some v ∧ RV K Z d v
  | [], us, e, _ => by
    have : us = [] := by simpa using e
    subst this; exact .inl ⟨rfl, rfl⟩
  | (k1, d) :: kvs, [], e, _ => by simp at e
  | (k1, d) :: kvs, (k2, v) :: us, e, r => by
    simp only [List.map_cons, List.cons.injEq] at e
    obtain ⟨e1, e2⟩ := e
    have e1 : k2 = Str.ofString k1 := e1
    subst e1
    obtain ⟨v', u', hv, r1, r2⟩ := RVs.inv (show RVs K Z (d :: kvs.map (·.2)) (v :: us.map (·.2)) from r)
    obtain ⟨rfl, rfl⟩ := List.cons.inj hv
    by_cases hk : f = k1
    · subst hk
      refine .inr ⟨d, v, ?_, ?_, r1⟩
      · simp [List.lookup]
      · simp [List.lookup]
    · have ih := look_ok (f := f) e2 r2
      have hk2 : (Str.ofString f == Str.ofString k1) = false := beq_eq_false_iff_ne.mpr fun z => hk (ofString_inj z)
      have h1 : ((k1, d) :: kvs).lookup f = kvs.lookup f := by simp [List.lookup, beq_eq_false_iff_ne.mpr hk]
      have h2 : ((Str.ofString k1, v) :: us).lookup (Str.ofString f) = us.lookup (Str.ofString f) := by simp [List.lookup, hk2]
      rw [h1, h2]
      exact ih
/-- a class whose field f is plain -/
structure FldOk (K : PySem.W.Frag) (c f : String) : Prop where
  cls : Cls K (He.ga K (Str.ofString c))
  no : NoAttr K (He.ga K (Str.ofString c)) (Str.ofString f)
def eFld (cs : List String) (f : String) (t : DE) : DE := fun δ A Q => t δ A fun d A1 => match asObj A1 d with
  | some (c, fs) => c ∈ cs ∧ (match lookS f fs with
    | some d => Q d A1
    | none => False)
  | none => False
section
variable {a b e o : Expr} {es : List Expr} {pos p2 : Pos} {ta tb : DE} {cs : List String} {f : String}
theorem qe_fld (hf : ∀ c ∈ cs, FldOk X.K c f) (he : QE X Z0 e ta) (hb : attributeBase e (Str.ofString f) X.env (eval e X.env) = eval e X.env) : QE X Z0 (.Attribute e (Str.ofString f) pos) (eFld cs f ta) :=
  PE.imp (pe_fld he hb) fun σ H Q ⟨Z, δ, A, Kt, z, rs, ra, t, k⟩ => ⟨Z, δ, A, _, z, rs, ra, t, fun Z1 d A1 v H1 s1 ra1 rv t1 => by
    split at t1
    · rename_i c fs q
      obtain ⟨hc, t1⟩ := t1
      obtain ⟨p, dx, us, e1, e2, e3, e4⟩ := asObj_ok ra1 rv q
      split at t1
      · rename_i d' q2
        rw [lookS_eq] at q2
        rcases look_ok (f := f) e3 e4 with ⟨h1, _⟩ | ⟨d2, v2, h1, h2, h3⟩
        · rw [q2] at h1; cases h1
        · rw [q2] at h1; cases h1
          exact ⟨p, _, dx, us, v2, e1, e2, (hf c hc).cls, (hf c hc).no, h2, k Z1 _ A1 _ H1 s1 ra1 h3 t1⟩
      · exact t1.elim
    · exact t1.elim⟩

/-! ### built-in functions -/
abbrev DCall := List D → AH → DK → Prop
def LiftCall (K : PySem.W.Frag) (rd : DCall) (r : List V → Hp → VK → Prop) : Prop := ∀ (Z : Hp) (A : AH) (H : Hp) (ds : List D) (vs : List V) (Kt : DK) (Q : VK), RA K Z A H → RVs K Z ds vs → rd ds A Kt → Kont K Z Kt Q → r vs H Q
def eCB (rd : DCall) (t : DA) : DE := fun δ A Q => t δ A fun ds A1 => rd ds A1 Q
theorem lift_cb {rd : DCall} {r : List V → Hp → VK → Prop} {t : DA} {σ : L2.St} {H : Hp} {Q : VK} (l : LiftCall K rd r) (h : liftE K Z0 (eCB rd t) σ H Q) : tCB r (liftA K Z0 t) σ H Q := by
  obtain ⟨Z, δ, A, Kt, z, rs, ra, t, k⟩ := h
  exact ⟨Z, δ, A, _, z, rs, ra, t, fun Z1 ds A1 vs H1 s1 ra1 rv t1 => l Z1 A1 H1 ds vs Kt Q ra1 rv t1 (Kont.mono k s1)⟩
variable {x : Str} {id T : String} {rd : DCall} {r : List V → Hp → VK → Prop} {t : DA} {p : Pos}
theorem qe_callB (l : LiftCall X.K rd r) (hc : CallR X (.builtin id) r) (hg : Gl X x) (hm : X.mg x = none) (hv : bootBuiltins x = some (.builtin id)) (ha : QA X Z0 (e :: es) t) (hn : x ≠ "__name__" := by decide) (hdb : (x == ("__debug__" : Str)) = false := by decide)
    (he : starEach (e :: es) X.env = (false, eval e X.env) :: starEach es X.env := by rfl) (hpl : (backTo pos (starEach es X.env)).any (·.1) = false := by rfl) : QE X Z0 (.Call (.Name x p) (e :: es) [] pos) (eCB rd t) :=
  PE.imp (pe_callB hc hg hm hv ha hn hdb he hpl) fun σ H Q h => lift_cb l h
theorem qe_callTy (l : LiftCall X.K rd r) (hc : CallR X (.type T) r) (hg : Gl X x) (hm : X.mg x = none) (hv : bootBuiltins x = some (.type T)) (ha : QA X Z0 (e :: es) t) (hn : x ≠ "__name__" := by decide) (hdb : (x == ("__debug__" : Str)) = false := by decide)
    (he : starEach (e :: es) X.env = (false, eval e X.env) :: starEach es X.env := by rfl) (hpl : (backTo pos (starEach es X.env)).any (·.1) = false := by rfl) : QE X Z0 (.Call (.Name x p) (e :: es) [] pos) (eCB rd t) :=
  PE.imp (pe_callTy hc hg hm hv ha hn hdb he hpl) fun σ H Q h => lift_cb l h
end
theorem CallR.or {f : Value} {r r' : List V → Hp → VK → Prop} (h : CallR X f r) (h' : CallR X f r') : CallR X f (fun xs H Q => r xs H Q ∨ r' xs H Q) := by
  intro pins s σ H xs us Q I rx q
  rcases q with q | q
  · exact h pins s σ H xs us Q I rx q
  · exact h' pins s σ H xs us Q I rx q
theorem RVs.one {d : D} {vs : List V} (h : RVs K Z [d] vs) : ∃ v, vs = [v] ∧ RV K Z d v := by
  obtain ⟨v, r, rfl, h1, h2⟩ := h.inv
  rw [h2.inv0]
  exact ⟨v, rfl, h1⟩
theorem RVs.two {d e : D} {vs : List V} (h : RVs K Z [d, e] vs) : ∃ v u, vs = [v, u] ∧ RV K Z d v ∧ RV K Z e u := by
  obtain ⟨v, r, rfl, h1, h2⟩ := h.inv
  obtain ⟨u, rfl, h3⟩ := h2.one
  exact ⟨v, u, rfl, h1, h3⟩
def bAbs : DCall := fun ds A Q => match ds with
  | [.int i] => Q (.int i.natAbs) A
  | _ => False
theorem lift_abs : LiftCall K bAbs (fun xs H Q => ∃ i, xs = [.int i] ∧ Q (.int (if i < 0 then -i else i)) H) := fun Z A H ds vs Kt Q R r h k => by
  unfold bAbs at h
  split at h
  · rename_i i
    obtain ⟨v, rfl, rv⟩ := r.one
    refine ⟨i, by rw [rv_int rv], ?_⟩
    have e : (if i < 0 then -i else i) = (i.natAbs : Int) := by split <;> omega
    rw [e]
    exact k Z _ A _ H (Same.refl Z) R mk_int h
  · exact h.elim
def bMin : DCall := fun ds A Q => match ds with
  | [.int i, .int j] => Q (.int (if j < i then j else i)) A
  | _ => False
theorem lift_min : LiftCall K bMin (fun xs H Q => ∃ i j, xs = [.int i, .int j] ∧ Q (.int (if j < i then j else i)) H) := fun Z A H ds vs Kt Q R r h k => by
  unfold bMin at h
  split at h
  · obtain ⟨v, u, rfl, r1, r2⟩ := r.two
    exact ⟨_, _, by rw [rv_int r1, rv_int r2], k Z _ A _ H (Same.refl Z) R mk_int h⟩
  · exact h.elim
def bLen : DCall := fun ds A Q => match ds with
  | [.str s] => Few s.length ∧ Q (.int s.length) A
  | [d] => (match asS A d with
    | some l => Q (.int l.length) A
    | none => match asDic A d with
      | some kvs => Q (.int kvs.length) A
      | none => False)
  | _ => False
theorem lift_len : LiftCall K bLen (fun xs H Q => (∃ x n, xs = [x] ∧ LenV K x H n ∧ Q (.int n) H) ∨ ∃ a kvs, xs = [.ref a] ∧ H a = some (.dK kvs) ∧ Q (.int kvs.length) H) := fun Z A H ds vs Kt Q R r h k => by
  unfold bLen at h
  split at h
  · obtain ⟨v, rfl, rv⟩ := r.one
    exact .inl ⟨.str _, _, by rw [rv_str rv], ⟨few_line h.1, rfl⟩, k Z _ A _ H (Same.refl Z) R mk_int h.2⟩
  · obtain ⟨v, rfl, rv⟩ := r.one
    split at h
    · rename_i l q
      obtain ⟨p, us, e1, e2, e3⟩ := asS_ok R rv q
      refine .inl ⟨.ref p, us.length, by rw [e1], ?_, ?_⟩
      · rcases e2 with e2 | e2
        · exact .inl ⟨us, e2, rfl⟩
        · exact .inr ⟨us, e2, rfl⟩
      · rw [e3.len]; exact k Z _ A _ H (Same.refl Z) R mk_int h
    · split at h
      · rename_i kvs q
        obtain ⟨p, us, e1, e2, e3, e4⟩ := asDic_ok R rv q
        refine .inr ⟨p, us, by rw [e1], e2, ?_⟩
        have : us.length = kvs.length := by have := congrArg List.length e3; simpa using this
        rw [this]; exact k Z _ A _ H (Same.refl Z) R mk_int h
      · exact h.elim
  · exact h.elim
theorem call_lenAll : CallR X (.builtin "len") (fun xs H Q => (∃ x n, xs = [x] ∧ LenV X.K x H n ∧ Q (.int n) H) ∨ ∃ a kvs, xs = [.ref a] ∧ H a = some (.dK kvs) ∧ Q (.int kvs.length) H) := by
  refine CallR.or call_len ?_
  intro pins s σ H xs us Q I r h
  obtain ⟨a, kvs, rfl, hk, q⟩ := h
  obtain ⟨u, rfl, rx⟩ := vals1 r
  obtain rfl : u = Value.ref a := rx
  exact d_len I (.inl hk) fun t s' I' => ⟨.int kvs.length, H, I', ⟨t, rfl⟩, q⟩
/-- the text of a number -/
def numStr (i : Int) : Str := Str.ofString (toString i)
def bStr : DCall := fun ds A Q => match ds with
  | [.int i] => i.natAbs < 2 ^ 1900 ∧ Q (.str (numStr i)) A
  | _ => False
theorem lift_str : LiftCall K bStr (fun xs H Q => ∃ i, xs = [.int i] ∧ i.natAbs.log2 < 1920 ∧ Q (.str (toString i)) H) := fun Z A H ds vs Kt Q R r h k => by
  unfold bStr at h
  split at h
  · obtain ⟨v, rfl, rv⟩ := r.one
    refine ⟨_, by rw [rv_int rv], Nat.lt_of_lt_of_le (PySem.Flt.log2_lt_of (by decide) h.1) (by decide), k Z _ A _ H (Same.refl Z) R mk_str h.2⟩
  · exact h.elim
def bInt : DCall := fun ds A Q => match ds with
  | [.int i] => Q (.int i) A
  | [.bl b] => Q (.int (if b then 1 else 0)) A
  | [.str s] => s.length ≤ 640 ∧ (match PySem.intText? s with
    | some n => Q (.int n) A
    | none => False)
  | _ => False
theorem lift_int : LiftCall K bInt (fun xs H Q => ((∃ i, xs = [.int i] ∧ Q (.int i) H) ∨ ∃ k, xs = [.bl k] ∧ Q (.int (if k then 1 else 0)) H) ∨ ∃ a n, xs = [.str a] ∧ PySem.intText? a = some n ∧ a.length ≤ 640 ∧ Q (.int n) H) := fun Z A H ds vs Kt Q R r h k => by
  unfold bInt at h
  split at h
  · obtain ⟨v, rfl, rv⟩ := r.one
    exact .inl (.inl ⟨_, by rw [rv_int rv], k Z _ A _ H (Same.refl Z) R mk_int h⟩)
  · obtain ⟨v, rfl, rv⟩ := r.one
    exact .inl (.inr ⟨_, by rw [rv_bl rv], k Z _ A _ H (Same.refl Z) R mk_int h⟩)
  · obtain ⟨v, rfl, rv⟩ := r.one
    obtain ⟨h1, h2⟩ := h
    split at h2
    · rename_i n q
      exact .inr ⟨_, n, by rw [rv_str rv], q, h1, k Z _ A _ H (Same.refl Z) R mk_int h2⟩
    · exact h2.elim
  · exact h.elim
theorem call_intAll : CallR X (.type "int") (fun xs H Q => ((∃ i, xs = [.int i] ∧ Q (.int i) H) ∨ ∃ k, xs = [.bl k] ∧ Q (.int (if k then 1 else 0)) H) ∨ ∃ a n, xs = [.str a] ∧ PySem.intText? a = some n ∧ a.length ≤ 640 ∧ Q (.int n) H) := CallR.or call_int1 call_int_str
def keyD : Key → D
  | .inl i => .int i
  | .inr x => .str x
def bList (mk : Mk) : DCall := fun ds A Q => match ds with
  | [d] => (match asS A d with
    | some l => mk l A Q
    | none => match asDic A d with
      | some kvs => mk (kvs.map fun kv => keyD kv.1) A Q
      | none => False)
  | _ => False
theorem rvs_keys : ∀ (us : List (Key × V)), RVs K Z (us.map fun kv => keyD kv.1) (us.map fun kv => kV kv.1)
  | [] => RVs.nil
  | (k, v) :: us => RVs.cons (by cases k with
      | inl i => exact mk_int
      | inr x => exact mk_str) (rvs_keys us)
theorem lift_list {mk : Mk} (m : MkOk K mk) : LiftCall K (bList mk) (fun xs H Q => (∃ p ys, xs = [.ref p] ∧ (SqL K H p ys ∨ SqT K H p ys) ∧ ∀ l, H l = none → Q (.ref l) (upd H l (.lst ys))) ∨
    ∃ a kvs, xs = [.ref a] ∧ Rd H a (.dK kvs) ∧ ∀ p, H p = none → Q (.ref p) (upd H p (.lst (kvs.map fun kv => kV kv.1)))) := fun Z A H ds vs Kt Q R r h k => by
  unfold bList at h
  split at h
  · obtain ⟨v, rfl, rv⟩ := r.one
    split at h
    · rename_i l q
      obtain ⟨p, us, e1, e2, e3⟩ := asS_ok R rv q
      exact .inl ⟨p, us, by rw [e1], e2, m.ok R e3 h k⟩
    · split at h
      · rename_i kvs q
        obtain ⟨p, us, e1, e2, e3, e4⟩ := asDic_ok R rv q
        refine .inr ⟨p, us, by rw [e1], .inl e2, m.ok R ?_ h k⟩
        have e5 : (kvs.map fun kv => keyD kv.1) = us.map fun kv => keyD kv.1 := by
          have h1 : (kvs.map fun kv => keyD kv.1) = (kvs.map (·.1)).map keyD := by rw [List.map_map]; rfl
          rw [h1, ← e3, List.map_map]; rfl
        rw [e5]
        exact rvs_keys us
      · exact h.elim
  · exact h.elim
theorem call_listAll (hc : X.calm = true) : CallR X (.type "list") (fun xs H Q => (∃ p ys, xs = [.ref p] ∧ (SqL X.K H p ys ∨ SqT X.K H p ys) ∧ ∀ l, H l = none → Q (.ref l) (upd H l (.lst ys))) ∨
    ∃ a kvs, xs = [.ref a] ∧ Rd H a (.dK kvs) ∧ ∀ p, H p = none → Q (.ref p) (upd H p (.lst (kvs.map fun kv => kV kv.1)))) := CallR.or call_list_of (call_listD hc)
def bTuple : DCall := fun ds A Q => match ds with
  | [d] => (match asS A d with
    | some l => Q (.tup l) A
    | none => False)
  | _ => False
theorem lift_tuple : LiftCall K bTuple (fun xs H Q => ∃ p ys, xs = [.ref p] ∧ ((SqL K H p ys ∧ ∀ l, H l = none → Q (.ref l) (upd H l (.tup ys))) ∨ (SqT K H p ys ∧ Q (.ref p) H))) := fun Z A H ds vs Kt Q R r h k => by
  unfold bTuple at h
  split at h
  · rename_i d
    obtain ⟨v, rfl, rv⟩ := r.one
    split at h
    · rename_i l q
      cases d with
      | tup l' =>
        cases (show some l' = some l from q)
        obtain ⟨p, us, e1, e2, e3⟩ := rv_tup rv
        exact ⟨p, us, by rw [e1], .inr ⟨sqT_mono R.sub e2, k Z _ A _ H (Same.refl Z) R (mk_tup e2 e3) h⟩⟩
      | _ =>
        obtain ⟨p, us, e1, e2, e3⟩ := asL_ok R rv q
        refine ⟨p, us, by rw [e1], .inl ⟨e2, fun l hl => ?_⟩⟩
        obtain ⟨s, R'⟩ := R.newF hl (.tup us)
        exact k _ _ A _ _ s R' (mk_tup (SqT.of upd_same) (e3.mono s)) h
    · exact h.elim
  · exact h.elim
end DL

/-! DL4: statements, loops, calls of the text's own defs. -/
namespace DL
open PySem PySem.Spec PyProof.Rows L2
variable {K : PySem.W.Frag} {Z Z' Z0 : Hp} {X : Cx}

/-! ### blocks -/
section
variable {st : Stmt} {rest a b : List Stmt} {t u : DS} {e c : Expr} {te : DE} {tc : DT} {pos : Pos}
def sNext : DS := fun D δ A => D.nx δ A
def sSeq (t u : DS) : DS := fun D δ A => t { D with nx := u D } δ A
def sBreak : DS := fun D δ A => D.bk δ A
def sCont : DS := fun D δ A => D.ct δ A
def sDrop (te : DE) : DS := fun D δ A => te δ A fun _ A1 => D.nx δ A1
def sRet (te : DE) : DS := fun D δ A => te δ A D.rt
def sRetN : DS := fun D _ A => D.rt .non A
def sIf (c : DT) (t u : DS) : DS := fun D δ A => c δ A fun b A1 => (b = true → t D δ A1) ∧ (b = false → u D δ A1)
def sNever : DS := fun _ _ _ => False
theorem lift_next {D : Ends} {σ : L2.St} {H : Hp} (h : liftS K Z0 sNext D σ H) : D.nx σ H := by
  obtain ⟨Z, δ, A, DD, z, rs, ra, t, re⟩ := h
  exact re.nx Z δ A σ H (Same.refl Z) rs ra t
theorem qss_nil : QSs X Z0 [] sNext := PSs.imp pss_nil fun D σ H h => lift_next h
theorem qss_cons (h1 : QS X Z0 st t) (h2 : QSs X Z0 rest u) : QSs X Z0 (st :: rest) (sSeq t u) := PSs.imp (pss_cons h1 h2) fun D σ H ⟨Z, δ, A, DD, z, rs, ra, t, re⟩ =>
  ⟨Z, δ, A, { DD with nx := u DD }, z, rs, ra, t, ⟨fun Z1 δ1 A1 σ1 H1 s1 rs1 ra1 t1 => ⟨Z1, δ1, A1, DD, z.trans s1, rs1, ra1, t1, re.mono s1⟩, re.rt, re.bk, re.ct⟩⟩
theorem qss_one (h1 : QS X Z0 st t) : QSs X Z0 [st] t := PSs.imp (pss_one h1) fun D σ H h => h
theorem qs_pass : QS X Z0 (.Pass pos) sNext := PS.imp ps_pass fun D σ H h => lift_next h
theorem qs_doc {x j pos pos'} : QS X Z0 (.Expr (.Constant (.str x) j pos) pos') sNext := PS.imp ps_doc fun D σ H h => lift_next h
theorem qs_break : QS X Z0 (.Break pos) sBreak := PS.imp ps_break fun D σ H ⟨Z, δ, A, DD, z, rs, ra, t, re⟩ => re.bk Z δ A σ H (Same.refl Z) rs ra t
theorem qs_cont : QS X Z0 (.Continue pos) sCont := PS.imp ps_continue fun D σ H ⟨Z, δ, A, DD, z, rs, ra, t, re⟩ => re.ct Z δ A σ H (Same.refl Z) rs ra t
theorem qs_expr (he : QE X Z0 e te) (hs : swapsWith e none pos.line X.env = pure false := by rfl) : QS X Z0 (.Expr e pos) (sDrop te) := PS.imp (ps_expr he hs) fun D σ H ⟨Z, δ, A, DD, z, rs, ra, t, re⟩ =>
  ⟨Z, δ, A, _, z, rs, ra, t, fun Z1 d A1 v H1 s1 ra1 rv t1 => re.nx Z1 δ A1 σ H1 s1 (rs.mono s1) ra1 t1⟩
theorem qs_ret (he : QE X Z0 e te) : QS X Z0 (.Return (some e) pos) (sRet te) := PS.imp (ps_ret he) fun D σ H ⟨Z, δ, A, DD, z, rs, ra, t, re⟩ =>
  ⟨Z, δ, A, _, z, rs, ra, t, fun Z1 d A1 v H1 s1 ra1 rv t1 => re.rt Z1 d A1 v H1 s1 ra1 rv t1⟩
theorem qs_retN : QS X Z0 (.Return none pos) sRetN := PS.imp ps_retN fun D σ H ⟨Z, δ, A, DD, z, rs, ra, t, re⟩ => re.rt Z .non A .non H (Same.refl Z) ra mk_non t
theorem qs_if (hc : QT X Z0 c tc) (ha : QSs X Z0 a t) (hb : QSs X Z0 b u) : QS X Z0 (.If c a b pos) (sIf tc t u) := PS.imp (ps_if hc ha hb) fun D σ H ⟨Z, δ, A, DD, z, rs, ra, t, re⟩ =>
  ⟨Z, δ, A, _, z, rs, ra, t, fun Z1 k A1 H1 s1 ra1 t1 => by
    cases k with
    | true => exact iteT ⟨Z1, δ, A1, DD, z.trans s1, rs.mono s1, ra1, t1.1 rfl, re.mono s1⟩
    | false => exact iteF ⟨Z1, δ, A1, DD, z.trans s1, rs.mono s1, ra1, t1.2 rfl, re.mono s1⟩⟩
theorem qs_never : QS X Z0 st sNever := PS.imp ps_never fun D σ H ⟨Z, δ, A, DD, z, rs, ra, t, re⟩ => t
theorem qss_never : QSs X Z0 rest sNever := PSs.imp pss_never fun D σ H ⟨Z, δ, A, DD, z, rs, ra, t, re⟩ => t
end

/-! ### targets -/
abbrev DG := D → DSt → AH → (DSt → AH → Prop) → Prop
abbrev DGs := List D → DSt → AH → (DSt → AH → Prop) → Prop
def liftG (K : PySem.W.Frag) (Z0 : Hp) (g : DG) : TG := fun v σ H Q => ∃ Z d δ A Kt, Same Z0 Z ∧ RV K Z d v ∧ RS K Z δ σ ∧ RA K Z A H ∧ g d δ A Kt ∧
  ∀ Z' δ' A' σ' H', Same Z Z' → RS K Z' δ' σ' → RA K Z' A' H' → Kt δ' A' → Q σ' H'
def liftGs (K : PySem.W.Frag) (Z0 : Hp) (g : DGs) : TGs := fun vs σ H Q => ∃ Z ds δ A Kt, Same Z0 Z ∧ RVs K Z ds vs ∧ RS K Z δ σ ∧ RA K Z A H ∧ g ds δ A Kt ∧
  ∀ Z' δ' A' σ' H', Same Z Z' → RS K Z' δ' σ' → RA K Z' A' H' → Kt δ' A' → Q σ' H'
abbrev QG (X : Cx) (Z0 : Hp) (e : Expr) (g : DG) : Prop := PG X e (liftG X.K Z0 g)
abbrev QGs (X : Cx) (Z0 : Hp) (e : List Expr) (g : DGs) : Prop := PGs X e (liftGs X.K Z0 g)
theorem PG.imp {e : Expr} {t u : TG} (h : PG X e t) (i : ∀ v σ H Q, u v σ H Q → t v σ H Q) : PG X e u := ⟨fun pins s σ H v w Q I r q => h.run pins s σ H v w Q I r (i v σ H Q q)⟩
theorem PG.or {e : Expr} {t u : TG} (h : PG X e t) (h' : PG X e u) : PG X e (fun v σ H Q => t v σ H Q ∨ u v σ H Q) := ⟨fun pins s σ H v w Q I r q => q.elim (h.run pins s σ H v w Q I r) (h'.run pins s σ H v w Q I r)⟩
theorem PGs.imp {e : List Expr} {t u : TGs} (h : PGs X e t) (i : ∀ v σ H Q, u v σ H Q → t v σ H Q) : PGs X e u := ⟨fun pins s σ H v w Q I r q => h.run pins s σ H v w Q I r (i v σ H Q q)⟩
def dgName (i : Nat) : DG := fun d δ A Q => Q (δ.set i (some d)) A
def dgNil : DGs := fun ds δ A Q => match ds with
  | [] => Q δ A
  | _ => False
def dgCons (g : DG) (gs : DGs) : DGs := fun ds δ A Q => match ds with
  | d :: r => g d δ A fun δ1 A1 => gs r δ1 A1 Q
  | [] => False
def dgTup (n : Nat) (gs : DGs) : DG := fun d δ A Q => match asS A d with
  | some l => l.length = n ∧ gs l δ A Q
  | none => False
section
variable {e : Expr} {es : List Expr} {g : DG} {gs : DGs} {pos : Pos} {k : Nat}
theorem qg_name {i : Nat} {x : Str} (hN : X.N.Nodup) (hi : X.N[i]? = some x) (hx : Loc X.env.scope x) (hf : X.fn x = true ∨ X.env.scope.names.lookup x = some .local := by first | exact .inl rfl | exact .inr rfl | assumption) : QG X Z0 (.Name x pos) (dgName i) :=
  PG.imp (pg_name hN hi hx hf) fun v σ H Q ⟨Z, d, δ, A, Kt, z, rv, rs, ra, t, k⟩ => k Z _ A _ H (Same.refl Z) (rs.set i (a := some d) (b := some v) rv) ra t
theorem qgs_nil : QGs X Z0 [] dgNil := PGs.imp pgs_nil fun vs σ H Q ⟨Z, ds, δ, A, Kt, z, rv, rs, ra, t, k⟩ => by
  unfold dgNil at t
  split at t
  · exact ⟨rv.inv0, k Z δ A σ H (Same.refl Z) rs ra t⟩
  · exact t.elim
theorem qgs_cons (h1 : QG X Z0 e g) (h2 : QGs X Z0 es gs) (hs : (assignEach (e :: es) X.env).map (·.2) = assign e X.env :: (assignEach es X.env).map (·.2) := by rfl) : QGs X Z0 (e :: es) (dgCons g gs) :=
  PGs.imp (pgs_cons h1 h2 hs) fun vs σ H Q ⟨Z, ds, δ, A, Kt, z, rv, rs, ra, t, k⟩ => by
  unfold dgCons at t
  split at t
  · obtain ⟨v, r, e1, r1, r2⟩ := rv.inv
    exact ⟨v, r, e1, Z, _, δ, A, _, z, r1, rs, ra, t, fun Z1 δ1 A1 σ1 H1 s1 rs1 ra1 t1 => ⟨Z1, _, δ1, A1, Kt, z.trans s1, r2.mono s1, rs1, ra1, t1, fun Z2 δ2 A2 σ2 H2 s2 => k Z2 δ2 A2 σ2 H2 (s1.trans s2)⟩⟩
  · exact t.elim
theorem qg_tup {n : Nat} (hc : X.calm = true) (h : QGs X Z0 es gs) (hn : (assignEach es X.env).length = n := by rfl) (hst : (assignEach es X.env).findIdx? (·.1) = none := by rfl) : QG X Z0 (.Tuple es k pos) (dgTup n gs) :=
  PG.imp (PG.or (pg_tup hc h hn hst) (pg_lst hc h hn hst)) fun v σ H Q ⟨Z, d, δ, A, Kt, z, rv, rs, ra, t, k⟩ => by
  unfold dgTup at t
  split at t
  · rename_i l q
    obtain ⟨p, vs, e1, e2, e3⟩ := asS_ok ra rv q
    have hl : vs.length = n := by rw [e3.len]; exact t.1
    have fin : liftGs X.K Z0 gs vs σ H Q := ⟨Z, l, δ, A, Kt, z, e3, rs, ra, t.2, k⟩
    rcases e2 with e2 | e2
    · exact .inr ⟨p, vs, e1, e2, hl, fin⟩
    · exact .inl ⟨p, vs, e1, e2, hl, fin⟩
  · exact t.elim
end

/-! ### stores -/
section
variable {e tg o : Expr} {te to : DE} {g : DG} {pos pos' : Pos}
def sAsg (te : DE) (g : DG) : DS := fun D δ A => te δ A fun d A1 => g d δ A1 D.nx
theorem lift_asg {D : Ends} {σ : L2.St} {H : Hp} (h : liftS K Z0 (sAsg te g) D σ H) : tAsg (liftE K Z0 te) (liftG K Z0 g) D σ H := by
  obtain ⟨Z, δ, A, DD, z, rs, ra, t, re⟩ := h
  exact ⟨Z, δ, A, _, z, rs, ra, t, fun Z1 d A1 v H1 s1 ra1 rv t1 => ⟨Z1, d, δ, A1, DD.nx, z.trans s1, rv, rs.mono s1, ra1, t1, fun Z2 δ2 A2 σ2 H2 s2 => re.nx Z2 δ2 A2 σ2 H2 (s1.trans s2)⟩⟩
theorem qs_asg (he : QE X Z0 e te) (hg : QG X Z0 tg g) (hs : swapsWithSole [tg] e pos.line X.env = pure false := by rfl) (hw : swappedStores [tg] e X.env = pure none := by rfl) (h1 : (assignEach [tg] X.env).map (·.2) = [assign tg X.env] := by rfl) :
    QS X Z0 (.Assign [tg] e pos) (sAsg te g) := PS.imp (ps_asg he hg hs hw h1) fun D σ H h => lift_asg h
theorem qs_set {i : Nat} {x : Str} (hN : X.N.Nodup) (hi : X.N[i]? = some x) (hx : Loc X.env.scope x) (he : QE X Z0 e te) (hs : swapsWith e (some (.Name x pos')) pos.line X.env = pure false := by rfl)
    (hf : X.fn x = true ∨ X.env.scope.names.lookup x = some .local := by first | exact .inl rfl | exact .inr rfl | assumption) : QS X Z0 (.Assign [.Name x pos'] e pos) (sAsg te (dgName i)) :=
  PS.imp (ps_set hN hi hx he hs hf) fun D σ H ⟨Z, δ, A, DD, z, rs, ra, t, re⟩ =>
    ⟨Z, δ, A, _, z, rs, ra, t, fun Z1 d A1 v H1 s1 ra1 rv t1 => re.nx Z1 _ A1 _ H1 s1 ((rs.mono s1).set i (a := some d) (b := some v) rv) ra1 t1⟩
/-- a, b = x, y -/
def sPar (i j : Nat) (ta : DA) : DS := fun D δ A => ta δ A fun ds A1 => match ds with
  | [d, e] => D.nx ((δ.set i (some d)).set j (some e)) A1
  | _ => False
theorem qs_par {i j : Nat} {x y : Str} {a b : Expr} {ta : DA} {px py pt : Pos} {kt k2 pt2} (hc : X.calm = true) (hN : X.N.Nodup) (hi : X.N[i]? = some x) (hj : X.N[j]? = some y) (hij : i ≠ j)
    (hx : X.env.scope.names.lookup x = some .local) (hy : X.env.scope.names.lookup y = some .local) (ha : QA X Z0 [a, b] ta)
    (hw : swappedStores [.Tuple [.Name x px, .Name y py] kt pt] (.Tuple [a, b] k2 pt2) X.env = pure (some [x, y]))
    (hs : swapsWithSole [.Tuple [.Name x px, .Name y py] kt pt] (.Tuple [a, b] k2 pt2) pos.line X.env = pure false := by rfl) :
    QS X Z0 (.Assign [.Tuple [.Name x px, .Name y py] kt pt] (.Tuple [a, b] k2 pt2) pos) (sPar i j ta) := PS.imp (ps_par hc hN hi hj hij hx hy ha hw hs) fun D σ H ⟨Z, δ, A, DD, z, rs, ra, t, re⟩ =>
  ⟨Z, δ, A, _, z, rs, ra, t, fun Z1 ds A1 vs H1 s1 ra1 rv t1 => by
    split at t1
    · obtain ⟨v, u, rfl, r1, r2⟩ := rv.two
      exact ⟨v, u, rfl, re.nx Z1 _ A1 _ H1 s1 (((rs.mono s1).set i (a := some _) (b := some v) r1).set j (a := some _) (b := some u) r2) ra1 t1⟩
    · exact t1.elim⟩
end

/-! ### while -/
def whileN (c : DT) (body : DS) (D : DEnds) : Nat → DSt → AH → Prop
  | 0, _, _ => False
  | n + 1, δ, A => c δ A fun b A1 => (b = true → body { D with nx := whileN c body D n, ct := whileN c body D n, bk := D.nx } δ A1) ∧ (b = false → D.nx δ A1)
def sWhile (c : DT) (body : DS) : DS := fun D δ A => ∃ n, whileN c body D n δ A
theorem qs_while {c : Expr} {body : List Stmt} {tc : DT} {tb : DS} {pos : Pos} (hp : PassesOwn (model X.prog X.w) X.A X.env X.xe) (hc : QT X Z0 c tc) (hb : QSs X Z0 body tb) : QS X Z0 (.While c body [] pos) (sWhile tc tb) :=
  PS.imp (ps_while hp hc hb) fun D σ H ⟨Z, δ, A, DD, z, rs, ra, ⟨n, t⟩, re⟩ => by
  refine ⟨fun m σ H => ∃ Z1 δ A, Same Z Z1 ∧ RS X.K Z1 δ σ ∧ RA X.K Z1 A H ∧ whileN tc tb DD m δ A, ⟨n, Z, δ, A, Same.refl Z, rs, ra, t⟩, fun m σ H ⟨Z1, δ, A, s1, rs, ra, t⟩ => ?_⟩
  cases m with
  | zero => exact t.elim
  | succ m =>
    refine ⟨Z1, δ, A, _, z.trans s1, rs, ra, t, fun Z2 b A2 H2 s2 ra2 t2 => ?_⟩
    cases b with
    | true =>
      refine iteT ⟨fun σ' H' => ∃ Z3 δ A, Same Z Z3 ∧ RS X.K Z3 δ σ' ∧ RA X.K Z3 A H' ∧ whileN tc tb DD m δ A, fun σ' H' q => ⟨m, Nat.lt_succ_self m, q⟩, ?_⟩
      have re2 := re.mono (s1.trans s2)
      have nx : ∀ Z' δ A σ H, Same Z2 Z' → RS X.K Z' δ σ → RA X.K Z' A H → whileN tc tb DD m δ A → ∃ Z3 δ A, Same Z Z3 ∧ RS X.K Z3 δ σ ∧ RA X.K Z3 A H ∧ whileN tc tb DD m δ A :=
        fun Z3 δ3 A3 σ3 H3 s3 rs3 ra3 t3 => ⟨Z3, δ3, A3, (s1.trans s2).trans s3, rs3, ra3, t3⟩
      exact ⟨Z2, δ, A2, _, (z.trans s1).trans s2, rs.mono s2, ra2, t2.1 rfl, ⟨nx, re2.rt, re2.nx, nx⟩⟩
    | false => exact iteF (re.nx Z2 δ A2 σ H2 (s1.trans s2) (rs.mono s2) ra2 (t2.2 rfl))

/-! ### what a for walks -/
/-- the items, and what must hold of the objects at each turn -/
abbrev DI := DSt → AH → (List D → (AH → Prop) → AH → Prop) → Prop
structure WalkD (K : PySem.W.Frag) (Z : Hp) (J : It) (l : List D) (g : AH → Prop) : Prop where
  ex : ∃ (G : Hp → Prop) (Y : Nat → Hp → V → Hp → Prop), Walk J l.length G Y ∧ (∀ Z' A H, Same Z Z' → RA K Z' A H → g A → G H) ∧
    ∀ i Z' A H x H', i < l.length → Same Z Z' → RA K Z' A H → g A → Y i H x H' → ∃ Z2 d, Same Z' Z2 ∧ RA K Z2 A H' ∧ l[i]? = some d ∧ RV K Z2 d x
def liftI (K : PySem.W.Frag) (Z0 : Hp) (it : DI) : TI := fun σ H R => ∃ Z δ A Kt, Same Z0 Z ∧ RS K Z δ σ ∧ RA K Z A H ∧ it δ A Kt ∧
  ∀ Z' l g A' J H', Same Z Z' → RA K Z' A' H' → WalkD K Z' J l g → Kt l g A' → R J H'
abbrev QI (X : Cx) (Z0 : Hp) (tg e : Expr) (it : DI) : Prop := PI X tg e (liftI X.K Z0 it)
theorem PI.imp {tg e : Expr} {t u : TI} (h : PI X tg e t) (i : ∀ σ H R, u σ H R → t σ H R) : PI X tg e u := ⟨fun pins s σ H R I q => h.run pins s σ H R I (i σ H R q)⟩
theorem PI.or {tg e : Expr} {t u : TI} (h : PI X tg e t) (h' : PI X tg e u) : PI X tg e (fun σ H R => t σ H R ∨ u σ H R) := ⟨fun pins s σ H R I q => q.elim (h.run pins s σ H R I) (h'.run pins s σ H R I)⟩
def forD (g : AH → Prop) (tg : DG) (body : DS) (DD : DEnds) : List D → DSt → AH → Prop
  | [], δ, A => g A ∧ DD.nx δ A
  | x :: l, δ, A => g A ∧ tg x δ A fun δ1 A1 => body { DD with nx := forD g tg body DD l, ct := forD g tg body DD l, bk := DD.nx } δ1 A1
def sFor (it : DI) (tg : DG) (body : DS) : DS := fun D δ A => it δ A fun l g A1 => forD g tg body D l δ A1
theorem qs_for {tg iter : Expr} {body : List Stmt} {it : DI} {g : DG} {tb : DS} {pos : Pos} (hp : PassesOwn (model X.prog X.w) X.A X.env X.xe) (hc : X.calm = true) (hi : QI X Z0 tg iter it) (hg : QG X Z0 tg g) (hb : QSs X Z0 body tb)
    (hs : ∀ x, foldedSetIterable iter X.env x = pure x := by intro _; rfl) : QS X Z0 (.For tg iter body [] pos) (sFor it g tb) :=
  PS.imp (ps_for hp hc hi hg hb hs) fun D σ H ⟨Z, δ, A, DD, z, rs, ra, t, re⟩ => by
  refine ⟨Z, δ, A, _, z, rs, ra, t, fun Z1 l gd A1 J H1 s1 ra1 w t1 => ?_⟩
  obtain ⟨G, Y, wk, hG, hY⟩ := w.ex
  refine ⟨fun i m σ H => m = l.length - i ∧ i ≤ l.length ∧ ∃ Z2 δ2 A2, Same Z1 Z2 ∧ RS X.K Z2 δ2 σ ∧ RA X.K Z2 A2 H ∧ forD gd g tb DD (l.drop i) δ2 A2,
    ⟨l.length, by omega, Nat.zero_le _, Z1, δ, A1, Same.refl Z1, rs.mono s1, ra1, t1⟩, fun i m σ H ⟨em, hi, Z2, δ2, A2, s2, rs2, ra2, t2⟩ => ?_⟩
  by_cases hlt : i < l.length
  · have ed : l.drop i = l[i] :: l.drop (i + 1) := List.drop_eq_getElem_cons hlt
    rw [ed] at t2
    obtain ⟨tg2, t2⟩ := t2
    have nx : ∀ (σ' : L2.St) (H' : Hp), (∃ Z2 δ2 A2, Same Z1 Z2 ∧ RS X.K Z2 δ2 σ' ∧ RA X.K Z2 A2 H' ∧ forD gd g tb DD (l.drop (i + 1)) δ2 A2) → ∃ m', m' < m ∧ m' = l.length - (i + 1) ∧ i + 1 ≤ l.length ∧ ∃ Z2 δ2 A2, Same Z1 Z2 ∧ RS X.K Z2 δ2 σ' ∧ RA X.K Z2 A2 H' ∧ forD gd g tb DD (l.drop (i + 1)) δ2 A2 :=
      fun σ' H' q => ⟨l.length - (i + 1), by omega, rfl, hlt, q⟩
    refine .inr ⟨wk.goes i H hlt (hG Z2 A2 H s2 ra2 tg2), _, nx, fun x H' hy => ?_⟩
    obtain ⟨Z3, d, s3, ra3, hd, rv⟩ := hY i Z2 A2 H x H' hlt s2 ra2 tg2 (wk.yields i H x H' hlt (hG Z2 A2 H s2 ra2 tg2) hy)
    have ed2 : l[i] = d := by rw [List.getElem?_eq_getElem hlt] at hd; exact Option.some.inj hd
    rw [ed2] at t2
    refine ⟨Z3, d, δ2, A2, _, ((z.trans s1).trans s2).trans s3, rv, rs2.mono s3, ra3, t2, fun Z4 δ4 A4 σ4 H4 s4 rs4 ra4 t4 => ?_⟩
    have s14 : Same Z1 Z4 := (s2.trans s3).trans s4
    have re4 := re.mono (s1.trans s14)
    have again : ∀ Z' δ A σ H, Same Z4 Z' → RS X.K Z' δ σ → RA X.K Z' A H → forD gd g tb DD (l.drop (i + 1)) δ A → ∃ Z2 δ2 A2, Same Z1 Z2 ∧ RS X.K Z2 δ2 σ ∧ RA X.K Z2 A2 H ∧ forD gd g tb DD (l.drop (i + 1)) δ2 A2 :=
      fun Z5 δ5 A5 σ5 H5 s5 rs5 ra5 t5 => ⟨Z5, δ5, A5, s14.trans s5, rs5, ra5, t5⟩
    exact ⟨Z4, δ4, A4, _, (z.trans s1).trans s14, rs4, ra4, t4, ⟨again, re4.rt, re4.nx, again⟩⟩
  · have ei : i = l.length := by omega
    subst ei
    rw [List.drop_length] at t2
    exact .inl ⟨wk.stops H (hG Z2 A2 H s2 ra2 t2.1), re.nx Z2 δ2 A2 σ H (s1.trans s2) rs2 ra2 t2.2⟩
/-- over a list, a tuple -/
def iSeq (t : DE) : DI := fun δ A R => t δ A fun d A1 => match d with
  | .tup l => R l (fun _ => True) A1
  | .lst l => R l (fun _ => True) A1
  | .rol l => R l (fun _ => True) A1
  | .ref a => (match A1 a with
    | some (.lst l) => R l (fun A' => A' a = some (.lst l)) A1
    | _ => False)
  | _ => False
def iSeqH (K : PySem.W.Frag) (tl : TE) : TI := fun σ H R => tl σ H fun x H1 => ∃ a, x = .ref a ∧ ((∃ xs, SqL K H1 a xs ∧ R (Itl K a) H1) ∨ ∃ xs, SqT K H1 a xs ∧ R (Itt K a) H1)
theorem pi_seqH {tg l : Expr} {tl : TE} (hl : PE X l tl) : PI X tg l (iSeqH X.K tl) := by
  refine ⟨fun pins s σ H R I h => ?_⟩
  refine thn (hl.run pins s σ H _ I h) fun v s1 ⟨x, H1, I1, r1, q1⟩ => ?_
  obtain ⟨a, e, q⟩ := q1
  subst e
  cases r1
  have fp : ∀ b ∈ [s1.heap.objs.size], FpOk X pins H1 b := fun b hb => by
    have e : b = s1.heap.objs.size := by simpa using hb
    subst e
    exact I1.fpOk (Nat.le_refl _) (I1.hok.fresh (Nat.le_refl _))
  rcases q with ⟨xs, hq, q⟩ | ⟨xs, hq, q⟩
  · obtain ⟨its, rv, p, hz⟩ := I1.list hq
    refine wpAny_pyIter_list p.isList ?_
    exact ⟨s1.heap.objs.size, [s1.heap.objs.size], _, _, H1, rfl, I1.kept (t' := s1.toks) fun b o e => Heap.get?_push_of_some _ e, turn_list a _, ⟨_, Heap.get?_push_size _ rfl, rfl, rfl⟩, fp, q⟩
  · obtain ⟨its, rv, p, hz⟩ := I1.tuple hq
    refine wpAny_pyIter_tuple (show s1.heap.IsTuple a its.toArray from p) ?_
    exact ⟨s1.heap.objs.size, [s1.heap.objs.size], _, _, H1, rfl, I1.kept (t' := s1.toks) fun b o e => Heap.get?_push_of_some _ e, turn_tuple a _, ⟨_, Heap.get?_push_size _ rfl, rfl, rfl⟩, fp, q⟩
theorem walkD_list {a : Addr} {l : List D} {vs : List V} {g : AH → Prop} (r : RVs K Z l vs) (hG : ∀ Z' A H, Same Z Z' → RA K Z' A H → g A → SqL K H a vs) : WalkD K Z (Itl K a) l g :=
  ⟨_, _, r.len ▸ walk_list (a := a) (xs := vs), hG, fun i Z' A H x H' hi s ra _ hy => by
    obtain ⟨rfl, hx⟩ := hy
    obtain ⟨d, h1, h2⟩ := r.get hx
    exact ⟨Z', d, Same.refl _, ra, h1, h2.mono s⟩⟩
theorem walkD_tup {a : Addr} {l : List D} {vs : List V} {g : AH → Prop} (r : RVs K Z l vs) (h : SqT K Z a vs) : WalkD K Z (Itt K a) l g :=
  ⟨_, _, r.len ▸ walk_tup (a := a) (xs := vs), fun Z' A H s ra _ => sqT_mono (s.trans ra.sub) h, fun i Z' A H x H' hi s ra _ hy => by
    obtain ⟨rfl, hx⟩ := hy
    obtain ⟨d, h1, h2⟩ := r.get hx
    exact ⟨Z', d, Same.refl _, ra, h1, h2.mono s⟩⟩
theorem walkD_mut {a : Addr} {l : List D} : WalkD K Z (Itl K a) l (fun A' => A' a = some (.lst l)) :=
  ⟨fun H => ∃ vs, SqL K H a vs ∧ vs.length = l.length, fun i H x H' => H' = H ∧ ∀ xs, SqL K H a xs → xs[i]? = some x,
    ⟨fun i H hi ⟨vs, q, e⟩ => ⟨vs, vs[i]'(by omega), q, by simp [e, hi]⟩, fun H ⟨vs, q, e⟩ => ⟨vs, q, by omega⟩, fun i H x H' hi _ y => y⟩,
    fun Z' A H s ra g => by
      obtain ⟨vs, e2, e3⟩ := (ra.at_ a _ g).2
      exact ⟨vs, SqL.of e2, e3.len⟩,
    fun i Z' A H x H' hi s ra g ⟨eH, hy⟩ => by
      subst eH
      obtain ⟨vs, e2, e3⟩ := (ra.at_ a _ g).2
      obtain ⟨d, h1, h2⟩ := e3.get (hy vs (SqL.of e2))
      exact ⟨Z', d, Same.refl _, ra, h1, h2⟩⟩
theorem qi_seq {tg e : Expr} {t : DE} (h : QE X Z0 e t) : QI X Z0 tg e (iSeq t) := PI.imp (pi_seqH h) fun σ H R ⟨Z, δ, A, Kt, z, rs, ra, t, k⟩ =>
  ⟨Z, δ, A, _, z, rs, ra, t, fun Z1 d A1 v H1 s1 ra1 rv t1 => by
    cases d with
    | tup l =>
      obtain ⟨p, vs, e1, e2, e3⟩ := rv_tup rv
      exact ⟨p, e1, .inr ⟨vs, sqT_mono ra1.sub e2, k Z1 l _ A1 _ H1 s1 ra1 (walkD_tup e3 e2) t1⟩⟩
    | lst l =>
      obtain ⟨p, vs, e1, e2, e3⟩ := rv_lst rv
      exact ⟨p, e1, .inl ⟨vs, SqL.of (ra1.sub _ _ e2), k Z1 l _ A1 _ H1 s1 ra1 (walkD_list e3 fun Z' A H s ra _ => SqL.of (ra.sub _ _ (s _ _ e2))) t1⟩⟩
    | rol l =>
      obtain ⟨p, vs, e1, e2, e3⟩ := rv_rol rv
      exact ⟨p, e1, .inl ⟨vs, sqL_mono ra1.sub e2, k Z1 l _ A1 _ H1 s1 ra1 (walkD_list e3 fun Z' A H s ra _ => sqL_mono (s.trans ra.sub) e2) t1⟩⟩
    | ref a =>
      have t1' : (match A1 a with | some (.lst l) => Kt l (fun A' => A' a = some (.lst l)) A1 | _ => False) := t1
      split at t1'
      · rename_i l q
        obtain ⟨vs, e2, e3⟩ := (ra1.at_ a _ q).2
        exact ⟨a, rv_ref rv, .inl ⟨vs, SqL.of e2, k Z1 l _ A1 _ H1 s1 ra1 walkD_mut t1'⟩⟩
      · exact t1'.elim
    | _ => exact t1.elim⟩

/-! ### ranges, texts -/
def rngD (lo : Int) (n : Nat) : List D := (List.range n).map fun i => .int (lo + (i : Nat))
theorem walkD_range {lo : Int} {n : Nat} : WalkD K Z (Itr lo n) (rngD lo n) (fun _ => True) :=
  ⟨fun _ => True, YFn fun i => .int (lo + i), by have := walk_range (lo := lo) (n := n); unfold rngD; rw [List.length_map, List.length_range]; exact this, fun _ _ _ _ _ _ => trivial, fun i Z' A H x H' hi s ra _ ⟨e1, e2⟩ => by
    subst e1 e2
    unfold rngD at hi ⊢
    rw [List.length_map, List.length_range] at hi
    exact ⟨Z', .int (lo + (i : Nat)), Same.refl _, ra, by simp [hi], mk_int⟩⟩
abbrev Small (i : Int) : Prop := i.natAbs < 2 ^ 62
def iRng1 (t : DA) : DI := fun δ A R => t δ A fun ds A1 => match ds with
  | [.int n] => Small n ∧ R (rngD 0 n.toNat) (fun _ => True) A1
  | _ => False
def iRng2 (t : DA) : DI := fun δ A R => t δ A fun ds A1 => match ds with
  | [.int i, .int j] => (Small i ∧ Small j) ∧ R (rngD i (j - i).toNat) (fun _ => True) A1
  | _ => False
theorem qi_range1 {tg a : Expr} {t : DA} {p pos : Pos} (hg : Gl X "range") (hm : X.mg "range" = none) (ha : QA X Z0 [a] t) (hs : starEach [a] X.env = [(false, eval a X.env)] := by rfl) : QI X Z0 tg (.Call (.Name "range" p) [a] [] pos) (iRng1 t) :=
  PI.imp (pi_range1 hg hm ha hs) fun σ H R ⟨Z, δ, A, Kt, z, rs, ra, t, k⟩ => ⟨Z, δ, A, _, z, rs, ra, t, fun Z1 ds A1 vs H1 s1 ra1 rv t1 => by
    split at t1
    · obtain ⟨v, rfl, r1⟩ := rv.one
      exact ⟨_, by rw [rv_int r1], by have := t1.1; unfold Small at this; omega, by have := t1.1; unfold Small at this; omega, k Z1 _ _ A1 _ H1 s1 ra1 walkD_range t1.2⟩
    · exact t1.elim⟩
theorem qi_range2 {tg a b : Expr} {t : DA} {p pos : Pos} (hg : Gl X "range") (hm : X.mg "range" = none) (ha : QA X Z0 [a, b] t) (hs : starEach [a, b] X.env = [(false, eval a X.env), (false, eval b X.env)] := by rfl) (hs2 : starEach [b] X.env = [(false, eval b X.env)] := by rfl) :
    QI X Z0 tg (.Call (.Name "range" p) [a, b] [] pos) (iRng2 t) :=
  PI.imp (pi_range2 hg hm ha hs hs2) fun σ H R ⟨Z, δ, A, Kt, z, rs, ra, t, k⟩ => ⟨Z, δ, A, _, z, rs, ra, t, fun Z1 ds A1 vs H1 s1 ra1 rv t1 => by
    split at t1
    · obtain ⟨v, u, rfl, r1, r2⟩ := rv.two
      obtain ⟨⟨h1, h2⟩, t1⟩ := t1
      unfold Small at h1 h2
      exact ⟨_, _, by rw [rv_int r1, rv_int r2], ⟨by omega, by omega, by omega, by omega⟩, k Z1 _ _ A1 _ H1 s1 ra1 walkD_range t1⟩
    · exact t1.elim⟩
/-- a text's signs -/
def signsD (z : Str) : List D := z.cps.toList.map fun c => .str ⟨#[c]⟩
def iText (t : DE) : DI := fun δ A R => t δ A fun d A1 => match d with
  | .str z => R (signsD z) (fun _ => True) A1
  | _ => False
theorem walkD_str {z : Str} : WalkD K Z (Its z) (signsD z) (fun _ => True) :=
  ⟨fun _ => True, fun i H v H' => H' = H ∧ ∃ c, z.cps[i]? = some c ∧ v = .str ⟨#[c]⟩, by have := walk_str (z := z); unfold signsD; rw [List.length_map, Array.length_toList]; exact this, fun _ _ _ _ _ _ => trivial, fun i Z' A H x H' hi s ra _ ⟨e1, c, e2, e3⟩ => by
    subst e1 e3
    refine ⟨Z', .str ⟨#[c]⟩, Same.refl _, ra, ?_, mk_str⟩
    unfold signsD
    rw [List.getElem?_map, Array.getElem?_toList, e2]; rfl⟩
theorem qi_str {tg e : Expr} {t : DE} (h : QE X Z0 e t) : QI X Z0 tg e (iText t) := PI.imp (pi_str h) fun σ H R ⟨Z, δ, A, Kt, z, rs, ra, t, k⟩ =>
  ⟨Z, δ, A, _, z, rs, ra, t, fun Z1 d A1 v H1 s1 ra1 rv t1 => by
    cases d with
    | str z => exact ⟨z, rv_str rv, k Z1 _ _ A1 _ H1 s1 ra1 walkD_str t1⟩
    | _ => exact t1.elim⟩

/-! ### raise, the text's own defs -/
section
variable {w : DW}
def sRaise (w : DW) (c : String) : DS := fun _ δ A => w c [] δ A
theorem qs_raise {c : String} {e : Expr} {pos : Pos} (hc : X.calm = true) (tk : Takes X (liftW X.K Z0 w)) (he : PMk X e (fun _ H Q => Q (.ref (He.ga X.K (Str.ofString c))) none H)) : QS X Z0 (.Raise (some e) none pos) (sRaise w c) :=
  PS.imp (ps_raise hc tk he) fun D σ H ⟨Z, δ, A, DD, z, rs, ra, t, re⟩ => ⟨Z, δ, A, c, [], z, rs, ra, ⟨rfl, .inl ⟨rfl, rfl⟩⟩, t⟩
/-- f(..), by the promise of f; what f raises is wished for as w says -/
def eCall (w : DW) (sp : DSp) (dvs : List D) (t : DA) : DE := fun δ A Q => t δ A fun ds A1 => sp (ds ++ dvs) A1 Q fun c fs A2 => w c fs δ A2
theorem lift_call {sp : DSp} {dvs : List D} {ws : List V} {t : DA} {σ : L2.St} {H : Hp} {Q : VK} (hd : ∀ Z, RVs K Z dvs ws) (h : liftE K Z0 (eCall w sp dvs t) σ H Q) : tCallSD (liftSp K sp) ws (WE (liftW K Z0 w)) (liftA K Z0 t) σ H Q := by
  obtain ⟨Z, δ, A, Kt, z, rs, ra, t, k⟩ := h
  exact ⟨Z, δ, A, _, z, rs, ra, t, fun Z1 ds A1 vs H1 s1 ra1 rv t1 => ⟨Z1, ds ++ dvs, A1, Kt, _, rv.append (hd Z1), ra1, t1, Kont.mono k s1, fun Z2 c fs A2 cv dd H2 s2 ra2 rx q => ⟨Z2, δ, A2, c, fs, (z.trans s1).trans s2, (rs.mono s1).mono s2, ra2, rx, q⟩⟩⟩
/-- a def of the text, by its promise -/
structure DFn (P : Program) (w : World) (K : PySem.W.Frag) (mg : Str → Option Value) (base : Heap) (k : Nat) (x : Str) (sp : DSp) (dvs : List D) : Prop where
  ex : ∃ (f : Addr) (fd : FuncData) (ps : List Str) (ds : List Value) (ws : List V), FnOk P w K mg base (CX P w) k f fd ps (liftSp K sp) ∧ mg x = some (.ref f) ∧ PySem.W.keepIn K (.ref f) = true ∧ Binds K fd ps ds ∧ Vals ws ds ∧ ∀ Z, RVs K Z dvs ws
variable {x : Str} {k j : Nat} {sp : DSp} {dvs : List D} {e : Expr} {es : List Expr} {t : DA} {p pos : Pos}
theorem qe_call (F : DFn X.prog X.w X.K X.mg X.base k x sp dvs) (hr : Room j X.A) (hk : k ≤ j) (hg : Gl X x) (tk : Takes X (liftW X.K Z0 w)) (ha : QA X Z0 (e :: es) t) (hdb : (x == ("__debug__" : Str)) = false := by decide)
    (he : starEach (e :: es) X.env = (false, eval e X.env) :: starEach es X.env := by rfl) (hpl : (backTo pos (starEach es X.env)).any (·.1) = false := by rfl) : QE X Z0 (.Call (.Name x p) (e :: es) [] pos) (eCall w sp dvs t) := by
  obtain ⟨f, fd, ps, ds, ws, F, hm, kp, b, d, hd⟩ := F.ex
  exact PE.imp (pe_callSD F (hr.mono hk) hg hm kp b d (fun σ => passAt tk σ) ha hdb he hpl) fun σ H Q h => lift_call hd h
theorem qe_call0 (F : DFn X.prog X.w X.K X.mg X.base k x sp dvs) (hr : Room j X.A) (hk : k ≤ j) (hg : Gl X x) (tk : Takes X (liftW X.K Z0 w)) (hdb : (x == ("__debug__" : Str)) = false := by decide) : QE X Z0 (.Call (.Name x p) [] [] pos) (eCall w sp dvs aNil) := by
  obtain ⟨f, fd, ps, ds, ws, F, hm, kp, b, d, hd⟩ := F.ex
  have h0 : PE X (.Call (.Name x p) [] [] pos) (tCallSD (liftSp X.K sp) ws (WE (liftW X.K Z0 w)) tNil) := ⟨fun pins s σ H Q I h => by
    refine wpAny_Call_Name_kw (ld_glob I hg hm ?_ hdb)
    exact PySem.W.callWith_K0 I.kIn kp (run_fnSD (us := []) F (hr.mono hk) b d (passAt tk σ) I .nil h)⟩
  refine PE.imp h0 fun σ H Q h => ?_
  obtain ⟨Z, δ, A, Kt, z, rs, ra, t, k⟩ := h
  exact ⟨Z, dvs, A, Kt, _, hd Z, ra, t, k, fun Z2 c fs A2 cv dd H2 s2 ra2 rx q => ⟨Z2, δ, A2, c, fs, z.trans s2, rs.mono s2, ra2, rx, q⟩⟩
end
/-- a def keeps its promise -/
@[simp] def startD (n : Nat) (ds : List D) : DSt := ds.map some ++ List.replicate (n - ds.length) none
theorem start_rs : ∀ {ds : List D} {vs : List V} (m : Nat), RVs K Z ds vs → RS K Z (ds.map some ++ List.replicate m none) (vs.map some ++ List.replicate m none)
  | [], vs, m, r => by
    rw [r.inv0]
    simp only [List.map_nil, List.nil_append]
    induction m with
    | zero => exact .nil
    | succ m ih => rw [List.replicate_succ, List.replicate_succ]; exact .cons trivial ih
  | d :: ds, vs, m, r => by
    obtain ⟨v, u, rfl, r1, r2⟩ := r.inv
    exact .cons (a := some d) (b := some v) r1 (start_rs m r2)
theorem fn_ok {P : Program} {w : World} {mg : Str → Option Value} {base : Heap} {x qual : Str} {params : Arguments} {body : List Stmt} {scope : Scope} {dvs : List V} {kws : List (Str × V)} {f : Addr} {fd : FuncData} {N ps : List Str} {k : Nat} {sp : DSp} {t : DW → DS}
    (F : FunD K x qual params body scope dvs kws f fd) (S : FnScope N ps scope) (len : ∀ ds A Q E, sp ds A Q E → ds.length = ps.length)
    (hder : ∀ (cdv : Value) (A : Around) (outer : List Env) (s : Shared) (H : Hp) (E : XK) (Z0 : Hp) (wd : DW), Room k (A.deeper (envOfC qual scope s.heap.objs.size f cdv)) → Takes (cxOf (CX P w) P w K mg base N qual scope f cdv A outer s H E) (liftW K Z0 wd) → QSs (cxOf (CX P w) P w K mg base N qual scope f cdv A outer s H E) Z0 body (t wd))
    (hrd : ∀ ds A Q E, sp ds A Q E → t (fun c fs _ A => E c fs A) { nx := fun _ A => Q .non A, rt := Q } (startD N.length ds) A) : FnOk P w K mg base (CX P w) (k + 1) f fd ps (liftSp K sp) := by
  refine F.ok S (fun vs H Q E ⟨Z, ds, A, Kt, Ex, r, ra, h, _, _⟩ => by rw [r.len]; exact len ds A Kt Ex h) fun cdv A0 outer s H vs Q E hr ⟨Z, ds, A, Kt, Ex, r, ra, h, hq, he⟩ => ?_
  have tk : Takes (cxOf (CX P w) P w K mg base N qual scope f cdv A0 outer s H E) (liftW K Z fun c fs _ A => Ex c fs A) :=
    Takes.imp (takes_of rfl rfl rfl rfl) fun cv dd σ H' ⟨Z', δ, A', c, fs, z, rs, ra', rx, q⟩ => he Z' c fs A' cv dd H' z ra' rx q
  refine ⟨_, hder cdv A0 outer s H E Z (fun c fs _ A => Ex c fs A) hr tk, Z, startD N.length ds, A, _, Same.refl Z, ?_, ra, hrd ds A Kt Ex h, ?_⟩
  · unfold startD L2.start
    rw [r.len]
    exact start_rs _ r
  · exact ⟨fun Z' δ A' σ H' s rs ra' q => hq Z' .non A' .non H' s ra' mk_non q, fun Z' d A' v H' s ra' rv q => hq Z' d A' v H' s ra' rv q, fun _ _ _ _ _ _ _ _ q => q.elim, fun _ _ _ _ _ _ _ _ q => q.elim⟩
end DL

/-! DL5: isinstance, try. -/
namespace DL
open PySem PySem.Spec PyProof.Rows L2
variable {K : PySem.W.Frag} {Z Z' Z0 : Hp} {X : Cx}

/-! ### isinstance -/
/-- a value's built-in type -/
def tyD (A : AH) : D → Option String
  | .non => some "NoneType" | .bl _ => some "bool" | .int _ => some "int" | .str _ => some "str" | .tup _ => some "tuple" | .lst _ => some "list" | .rol _ => some "list" | .dic _ _ => some "dict"
  | .obj _ _ _ => none
  | .ref a => match A a with
    | some (.lst _) => some "list"
    | some (.dic _) => some "dict"
    | _ => none
def tyNames : List String := ["NoneType", "bool", "int", "str", "tuple", "list", "dict"]
def instB (t T : String) : Bool := t == T || (t == "bool" && T == "int")
theorem kitB_all : ∀ t ∈ tyNames, ∀ T ∈ ["bool", "int", "str", "tuple", "list", "dict"], kitB t T = some (instB t T) := by decide +kernel
theorem tyD_mem {A : AH} {d : D} {t : String} (h : tyD A d = some t) : t ∈ tyNames := by
  cases d with
  | ref a =>
    have h' : (match A a with | some (.lst _) => some "list" | some (.dic _) => some "dict" | _ => none) = some t := h
    split at h'
    · cases h'; decide
    · cases h'; decide
    · cases h'
  | obj _ _ _ => cases h
  | _ => cases h; decide
theorem tyX_rol {H : Hp} {p : Addr} {vs : List V} (h : SqL K H p vs) : TyX K H (.ref p) (.type "list") := by
  rcases h with (h | ⟨o, h⟩) | ⟨o, its, n, h1, h2, _⟩
  · exact .base (.lst h)
  · exact .base (.frz h)
  · exact .kList h1 h2
theorem tyX_tup {H : Hp} {p : Addr} {vs : List V} (h : SqT K H p vs) : TyX K H (.ref p) (.type "tuple") := by
  rcases h with (h | ⟨o, h⟩) | ⟨o, its, n, h1, h2, _⟩
  · exact .base (.tup h)
  · exact .fTuple h
  · exact .kTuple h1 h2
theorem tyD_ok {A : AH} {H : Hp} (R : RA K Z A H) {d : D} {v : V} {t : String} (r : RV K Z d v) (h : tyD A d = some t) : TyX K H v (.type t) := by
  cases d with
  | non => cases h; rw [rv_non r]; exact .base .non
  | bl b => cases h; rw [rv_bl r]; exact .base (.bl b)
  | int b => cases h; rw [rv_int r]; exact .base (.int b)
  | str b => cases h; rw [rv_str r]; exact .base (.str b)
  | tup l => cases h; obtain ⟨p, vs, rfl, e, _⟩ := rv_tup r; exact tyX_tup (sqT_mono R.sub e)
  | lst l => cases h; obtain ⟨p, vs, rfl, e, _⟩ := rv_lst r; exact .base (.lst (R.sub _ _ e))
  | rol l => cases h; obtain ⟨p, vs, rfl, e, _⟩ := rv_rol r; exact tyX_rol (sqL_mono R.sub e)
  | dic ks l => cases h; obtain ⟨p, vs, rfl, e, _⟩ := rv_dic r; exact .base (.dK (R.sub _ _ e))
  | obj _ _ _ => cases h
  | ref a =>
    rw [rv_ref r]
    have h' : (match A a with | some (.lst _) => some "list" | some (.dic _) => some "dict" | _ => none) = some t := h
    split at h'
    · rename_i q; cases h'; obtain ⟨vs, e, _⟩ := (R.at_ a _ q).2; exact .base (.lst e)
    · rename_i q; cases h'; obtain ⟨vs, e, _⟩ := (R.at_ a _ q).2; exact .base (.dK e)
    · cases h'
def eIsi (T : String) (t : DE) : DE := fun δ A Q => t δ A fun d A1 => match tyD A1 d with
  | some s => Q (.bl (instB s T)) A1
  | none => False
section
variable {e : Expr} {te : DE} {p p2 pos : Pos} {T : String}
theorem qe_isi (hT : T ∈ ["bool", "int", "str", "tuple", "list", "dict"]) (hg : Gl X "isinstance") (hm : X.mg "isinstance" = none) (hg2 : Gl X (Str.ofString T)) (hm2 : X.mg (Str.ofString T) = none) (hv2 : bootBuiltins (Str.ofString T) = some (.type T)) (hn2 : Str.ofString T ≠ "__name__") (hd2 : (Str.ofString T == ("__debug__" : Str)) = false) (he : QE X Z0 e te)
    (h1 : starEach (e :: [.Name (Str.ofString T) p2]) X.env = (false, eval e X.env) :: starEach [.Name (Str.ofString T) p2] X.env := by rfl) (h2 : (backTo pos (starEach [.Name (Str.ofString T) p2] X.env)).any (·.1) = false := by rfl)
    (h3 : starEach [.Name (Str.ofString T) p2] X.env = [(false, eval (.Name (Str.ofString T) p2) X.env)] := by rfl) : QE X Z0 (.Call (.Name "isinstance" p) [e, .Name (Str.ofString T) p2] [] pos) (eIsi T te) :=
  PE.imp (pe_callB call_isi hg hm (by decide +kernel) (pa_cons he (pa_cons (pe_bltn (v := .ty T) hg2 hm2 hv2 rfl hn2 hd2) pa_nil h3) h1) (he := h1) (hpl := h2)) fun σ H Q ⟨Z, δ, A, Kt, z, rs, ra, t, k⟩ =>
    ⟨Z, δ, A, _, z, rs, ra, t, fun Z1 d A1 v H1 s1 ra1 rv t1 => by
      split at t1
      · rename_i s q
        exact ⟨v, .ty T, .type s, .type T, _, rfl, .ty T, tyD_ok ra1 rv q, kit_ty (kitB_all s (tyD_mem q) T hT), k Z1 _ A1 _ H1 s1 ra1 mk_bl t1⟩
      · exact t1.elim⟩
end

/-! ### try -/
/-- what is known of the classes of exceptions: sub c d: c stands under d (d may be built-in) -/
structure ExcK (K : PySem.W.Frag) (c : String) : Prop where
  c : ExcC K (He.ga K (Str.ofString c))
def suiteEnds (i : Nat) (D : DEnds) : DEnds := { nx := fun δ A => D.nx (δ.set i none) A, rt := D.rt, bk := fun δ A => D.bk (δ.set i none) A, ct := fun δ A => D.ct (δ.set i none) A }
/-- try: body / except C as e (e in slot i): suite. sub: which classes the clause takes; suite: by the exception's address, class, fields -/
def sTryAs (w : DW) (sub : String → Option Bool) (i : Nat) (body : DW → DS) (suite : Addr → String → List (String × D) → DS) : DS := fun D δ A =>
  body (fun c fs δ1 A1 => match sub c with
    | some true => ∀ a, suite a c fs (suiteEnds i D) (δ1.set i (some (.ref a))) A1
    | some false => w c fs δ1 A1
    | none => False) D δ A
def sTryOnly (w : DW) (sub : String → Option Bool) (body : DW → DS) (suite : Addr → String → List (String × D) → DS) : DS := fun D δ A =>
  body (fun c fs δ1 A1 => match sub c with
    | some true => ∀ a, suite a c fs D δ1 A1
    | some false => w c fs δ1 A1
    | none => False) D δ A
section
variable {x n : Str} {c : Value} {i : Nat} {body suite : List Stmt} {b₀ : Stmt} {np pos pos' : Pos} {tb : DW → DS} {ts : Addr → String → List (String × D) → DS} {w : DW} {sub : String → Option Bool}
theorem re_suite {D : DEnds} {E : Ends} (i : Nat) (re : RE K Z D E) : RE K Z (suiteEnds i D) { nx := fun σ' H' => E.nx (σ'.set i none) H', rt := E.rt, bk := fun σ' H' => E.bk (σ'.set i none) H', ct := fun σ' H' => E.ct (σ'.set i none) H' } :=
  ⟨fun Z' δ A σ H s rs ra q => re.nx Z' _ A _ H s (rs.set i (a := none) (b := none) trivial) ra q, re.rt, fun Z' δ A σ H s rs ra q => re.bk Z' _ A _ H s (rs.set i (a := none) (b := none) trivial) ra q, fun Z' δ A σ H s rs ra q => re.ct Z' _ A _ H s (rs.set i (a := none) (b := none) trivial) ra q⟩
theorem qs_try_as (hs : X.stack = X.env :: X.outer) (hf : X.env.frame = some X.env.locals) (hN : X.N.Nodup) (hi : X.N[i]? = some n) (hln : X.env.kindOf n = some .local) (hc : Names X x c) (tk : Takes X (liftW X.K Z0 w))
    (hsub : ∀ k b, sub k = some b → PySem.W.exmOne X.K (.ref (He.ga X.K (Str.ofString k))) c = some b)
    (hb : ∀ (w' : DW) (Z1 : Hp) (pn : List (Addr × Obj)) (xe : Value → Shared → Prop), Takes (X.tr pn xe) (liftW X.K Z1 w') → PassesOwn (model X.prog X.w) X.A X.env xe → QSs (X.tr pn xe) Z1 body (tb w'))
    (hsu : ∀ (a : Addr) (oe : Obj) (cls : Value) (d : Option Addr) (pn : List (Addr × Obj)) (k : String) (fs : List (String × D)) (Z1 : Hp), sub k = some true → Zc cls d oe → (∃ vs, oe.data = .fields vs) → RX X.K Z1 k fs cls d → QSs (X.suite a ((a, oe) :: pn)) Z1 (b₀ :: suite) (ts a k fs)) :
    QS X Z0 (.Try body [.ExceptHandler (some (.Name x np)) (some n) (b₀ :: suite) pos'] [] [] pos) (sTryAs w sub i tb ts) := by
  refine PS.imp (ps_try_as (tb := fun W D σ H => ∃ w' Z1, (∀ cls d σ H, liftW X.K Z1 w' cls d σ H → W cls d σ H) ∧ liftS X.K Z1 (tb w') D σ H)
    (ts := fun a cls d D σ H => ∃ k fs Z1, sub k = some true ∧ RX X.K Z1 k fs cls d ∧ liftS X.K Z1 (ts a k fs) D σ H) hs hf hN hi hln hc tk ?_ ?_) ?_
  · intro W pn xe tW hp
    refine ⟨fun pins s σ H D I ⟨w', Z1, h1, h2⟩ => ?_⟩
    exact (hb w' Z1 pn xe (Takes.imp tW h1) hp).run pins s σ H D I h2
  · intro a oe cls d pn hz hfl
    refine ⟨fun pins s σ H D I ⟨k, fs, Z1, h0, h1, h2⟩ => ?_⟩
    exact (hsu a oe cls d pn k fs Z1 h0 hz hfl h1).run pins s σ H D I h2
  · rintro D σ H ⟨Z, δ, A, DD, z, rs, ra, t, re⟩
    refine ⟨_, Z, fun cls d σ1 H1 ⟨Z1, δ1, A1, k, fs, z1, rs1, ra1, rx, q⟩ => ?_, Z, δ, A, DD, Same.refl Z, rs, ra, t, re⟩
    have ec := rx.1
    have q' : (match sub k with
        | some true => ∀ a, ts a k fs (suiteEnds i DD) (δ1.set i (some (.ref a))) A1
        | some false => w k fs δ1 A1
        | none => False) := q
    split at q'
    · rename_i hk
      refine ⟨true, by rw [ec]; exact hsub k true hk, fun _ a ha => ?_, fun e => Bool.noConfusion e⟩
      exact ⟨k, fs, Z1, hk, rx, Z1, δ1.set i (some (.ref a)), A1, suiteEnds i DD, Same.refl _, rs1.set i (a := some (.ref a)) (b := some (.ref a)) (mk_ref (K := X.K) (Z := Z1)), ra1, q' a, re_suite i (re.mono z1)⟩
    · rename_i hk
      exact ⟨false, by rw [ec]; exact hsub k false hk, fun e => Bool.noConfusion e, fun _ => ⟨Z1, δ1, A1, k, fs, z.trans z1, rs1, ra1, rx, q'⟩⟩
    · exact q'.elim
theorem qs_try_only (hs : X.stack = X.env :: X.outer) (hf : X.env.frame = some X.env.locals) (hc : Names X x c) (tk : Takes X (liftW X.K Z0 w))
    (hsub : ∀ k b, sub k = some b → PySem.W.exmOne X.K (.ref (He.ga X.K (Str.ofString k))) c = some b)
    (hb : ∀ (w' : DW) (Z1 : Hp) (pn : List (Addr × Obj)) (xe : Value → Shared → Prop), Takes (X.tr pn xe) (liftW X.K Z1 w') → PassesOwn (model X.prog X.w) X.A X.env xe → QSs (X.tr pn xe) Z1 body (tb w'))
    (hsu : ∀ (a : Addr) (oe : Obj) (cls : Value) (d : Option Addr) (pn : List (Addr × Obj)) (k : String) (fs : List (String × D)) (Z1 : Hp), sub k = some true → Zc cls d oe → (∃ vs, oe.data = .fields vs) → RX X.K Z1 k fs cls d → QSs (X.suite a ((a, oe) :: pn)) Z1 (b₀ :: suite) (ts a k fs)) :
    QS X Z0 (.Try body [.ExceptHandler (some (.Name x np)) none (b₀ :: suite) pos'] [] [] pos) (sTryOnly w sub tb ts) := by
  refine PS.imp (ps_try_only (tb := fun W D σ H => ∃ w' Z1, (∀ cls d σ H, liftW X.K Z1 w' cls d σ H → W cls d σ H) ∧ liftS X.K Z1 (tb w') D σ H)
    (ts := fun a cls d D σ H => ∃ k fs Z1, sub k = some true ∧ RX X.K Z1 k fs cls d ∧ liftS X.K Z1 (ts a k fs) D σ H) hs hf hc tk ?_ ?_) ?_
  · intro W pn xe tW hp
    refine ⟨fun pins s σ H D I ⟨w', Z1, h1, h2⟩ => ?_⟩
    exact (hb w' Z1 pn xe (Takes.imp tW h1) hp).run pins s σ H D I h2
  · intro a oe cls d pn hz hfl
    refine ⟨fun pins s σ H D I ⟨k, fs, Z1, h0, h1, h2⟩ => ?_⟩
    exact (hsu a oe cls d pn k fs Z1 h0 hz hfl h1).run pins s σ H D I h2
  · rintro D σ H ⟨Z, δ, A, DD, z, rs, ra, t, re⟩
    refine ⟨_, Z, fun cls d σ1 H1 ⟨Z1, δ1, A1, k, fs, z1, rs1, ra1, rx, q⟩ => ?_, Z, δ, A, DD, Same.refl Z, rs, ra, t, re⟩
    have ec := rx.1
    have q' : (match sub k with
        | some true => ∀ a, ts a k fs DD δ1 A1
        | some false => w k fs δ1 A1
        | none => False) := q
    split at q'
    · rename_i hk
      refine ⟨true, by rw [ec]; exact hsub k true hk, fun _ a ha => ?_, fun e => Bool.noConfusion e⟩
      exact ⟨k, fs, Z1, hk, rx, Z1, δ1, A1, DD, Same.refl _, rs1, ra1, q' a, re.mono z1⟩
    · rename_i hk
      exact ⟨false, by rw [ec]; exact hsub k false hk, fun e => Bool.noConfusion e, fun _ => ⟨Z1, δ1, A1, k, fs, z.trans z1, rs1, ra1, rx, q'⟩⟩
    · exact q'.elim
/-- e.f of the exception that the suite holds -/
def eXf (a : Addr) (fs : List (String × D)) (f : String) (t : DE) : DE := fun δ A Q => t δ A fun d A1 => d = .ref a ∧ match lookS f fs with
  | some v => Q v A1
  | none => False
end
end DL

/-! DL6: a def by its promise, the law's end. -/
namespace DL
open PySem PySem.Spec PyProof.Rows L2
variable {K : PySem.W.Frag} {Z Z' Z0 : Hp} {X : Cx}
theorem uA {k : Nat} {A : Around} (r : Room k A) : A.units + 1 < cLine := by have := r.un; omega
theorem uC {k : Nat} {A : Around} (r : Room k A) : A.units + 65 < cLine := by have := r.un; omega
section
variable {P : Program} {w : World} {mg : Str → Option Value} {base : Heap} {k : Nat} {x : Str} {sp : DSp} {f : Addr} {fd : FuncData} {ps : List Str}
theorem dfn (F : FnOk P w K mg base (CX P w) k f fd ps (liftSp K sp)) (hm : mg x = some (.ref f)) (kp : PySem.W.keepIn K (.ref f) = true) (b : Binds K fd ps []) : DFn P w K mg base k x sp [] :=
  ⟨f, fd, ps, [], [], F, hm, kp, b, .nil, fun Z => .nil⟩
theorem dfnD {dvs : List D} {ws : List V} {ds : List Value} (F : FnOk P w K mg base (CX P w) k f fd ps (liftSp K sp)) (hm : mg x = some (.ref f)) (kp : PySem.W.keepIn K (.ref f) = true) (b : Binds K fd ps ds) (v : Vals ws ds) (h : ∀ Z, RVs K Z dvs ws) : DFn P w K mg base k x sp dvs :=
  ⟨f, fd, ps, ds, ws, F, hm, kp, b, v, h⟩
end
/-- the law's promise: True, whatever the script is -/
def spLaw : DSp := fun ds A Q _ => ∃ ns : List Int, ds = [.rol (ns.map .int)] ∧ ns.length ≤ 63 ∧ ∀ A', Q (.bl true) A'
theorem rvs_ints {H : Hp} : ∀ ns : List Int, RVs K H (ns.map .int) (ns.map V.int)
  | [] => .nil
  | n :: ns => .cons mk_int (rvs_ints ns)
theorem sp_end {H : Hp} {a : Addr} {ns : List Int} (hl : ns.length ≤ 63) (hS : SqL K H a (ns.map V.int)) : liftSp K spLaw [.ref a] H (fun v _ => v = .bl true) (fun _ _ _ => False) := by
  refine ⟨H, [.rol (ns.map .int)], fun _ => none, fun d _ => d = .bl true, fun _ _ _ => False, .cons ?_ .nil, ⟨fun _ _ e => e, fun _ _ e => by cases e⟩, ⟨ns, rfl, hl, fun _ => rfl⟩, ?_, ?_⟩
  · rw [RV]; exact ⟨a, _, rfl, hS, rvs_ints ns⟩
  · rintro Z' d A' v H' _ _ rv rfl; exact rv_bl rv
  · exact fun _ _ _ _ _ _ _ _ _ _ q => q
theorem walk_ofW {l : PySem.W.OpenLaw} {n k : Nat} {q : Program} {loose : List Str} {XP : (Str → Option Value) → Heap → Prop} {YP : World → Heap → Prop} {d : DefRec} {x : Str}
    (hn : l.most = some n) (hn2 : n ≤ sizeLine) (hdf : d.params.defaults = []) (hr : Room k callerA)
    (F : ∀ (w : World) (mg : Str → Option Value) (fa : Addr) (h : Heap), YP w h → h.Ns mainGlobals mg → mg d.name = some (.ref fa) →
      ∃ (K : PySem.W.Frag) (fd : FuncData) (sp : Sp), K.In h ∧ (∀ (s : Shared) (u : Value), BindsTo s fd ⟨[u], []⟩ [(x, u)]) ∧
        (∀ (H : Hp) (a : Addr) (ns : List Int), ns.length ≤ n → SqL K H a (ns.map V.int) → sp [.ref a] H (fun v _ => v = .bl true) fun _ _ _ => False) ∧
        ∀ base : Heap, K.In base → base.Ns mainGlobals mg → FnOk l.prog w K mg base (CX l.prog w) k fa fd [x] sp) :
    PySem.W.WalkO q loose XP YP l.row.toRowW d [] (fun f vs => PySem.call f vs) := by
  refine Att.attach_call hn hdf fun w s₀ s₁ mg mb fa o pm cd doc a vs ns G Y ho hd hcd hmg hobj hints hlen hg => ?_
  obtain ⟨K, fd, sp, KX, hb, hsp, hF⟩ := F w mg fa _ Y G.T.g hmg
  exact law_call KX G.T.g G.T.b G.T.builtins G.T.nolimit hg hobj hints (Nat.le_trans hlen hn2) hr hF hb (fun H _ hS => hsp H a ns hlen hS) fun H e s' ⟨_, _, _, _, _, _, _, _, _, _, _, _, h⟩ => h
end DL

/-! DL7: running a reading by simp. -/
namespace DL
open PySem PySem.Spec PyProof.Rows L2
/-- a number whose text may be taken -/
def Num (i : Int) : Prop := i.natAbs < 2 ^ 1900
theorem num_of {i : Int} {k : Nat} (h : i.natAbs < 2 ^ k) (hk : k ≤ 1900) : Num i := Nat.lt_of_lt_of_le h (Nat.pow_le_pow_right (by decide) hk)
@[simp] theorem num_lit {n : Int} (h1 : -18446744073709551616 < n) (h2 : n < 18446744073709551616) : Num n := num_of (k := 64) (by omega) (by decide)
theorem uB {k : Nat} {A : Around} (r : Room k A) : A.units + 64 < cLine := by have := r.un; omega
section
variable {δ : DSt} {A : AH} {Q : DK} {D0 : DEnds} {R : List D → AH → Prop} {B : Bool → AH → Prop} {G : DSt → AH → Prop}
@[simp ↓] theorem sNext_eq : sNext D0 δ A = D0.nx δ A := rfl
@[simp ↓] theorem sSeq_eq {t u : DS} : sSeq t u D0 δ A = t { D0 with nx := u D0 } δ A := rfl
@[simp ↓] theorem sBreak_eq : sBreak D0 δ A = D0.bk δ A := rfl
@[simp ↓] theorem sCont_eq : sCont D0 δ A = D0.ct δ A := rfl
@[simp ↓] theorem sDrop_eq {t : DE} : sDrop t D0 δ A = t δ A fun _ A1 => D0.nx δ A1 := rfl
@[simp ↓] theorem sRet_eq {t : DE} : sRet t D0 δ A = t δ A D0.rt := rfl
@[simp ↓] theorem sRetN_eq : sRetN D0 δ A = D0.rt .non A := rfl
theorem sIf_eq {c : DT} {t u : DS} : sIf c t u D0 δ A = c δ A fun b A1 => (b = true → t D0 δ A1) ∧ (b = false → u D0 δ A1) := rfl
@[simp ↓] theorem sAsg_eq {t : DE} {g : DG} : sAsg t g D0 δ A = t δ A fun d A1 => g d δ A1 D0.nx := rfl
@[simp ↓] theorem sPar_eq {i j : Nat} {ta : DA} : sPar i j ta D0 δ A = ta δ A fun ds A1 => match ds with
  | [d, e] => D0.nx ((δ.set i (some d)).set j (some e)) A1
  | _ => False := rfl
@[simp ↓] theorem dgName_eq {i : Nat} {d : D} : dgName i d δ A G = G (δ.set i (some d)) A := rfl
@[simp ↓] theorem dgNil_eq : dgNil [] δ A G = G δ A := rfl
@[simp ↓] theorem dgCons_eq {g : DG} {gs : DGs} {d : D} {r : List D} : dgCons g gs (d :: r) δ A G = g d δ A fun δ1 A1 => gs r δ1 A1 G := rfl
@[simp ↓] theorem dgTup_tup {n : Nat} {gs : DGs} {l : List D} : dgTup n gs (.tup l) δ A G = (l.length = n ∧ gs l δ A G) := rfl
@[simp ↓] theorem dgTup_lst {n : Nat} {gs : DGs} {l : List D} : dgTup n gs (.lst l) δ A G = (l.length = n ∧ gs l δ A G) := rfl
@[simp ↓] theorem eVar_eq {i : Nat} {d : D} (h : δ[i]? = some (some d)) : eVar i δ A Q = Q d A := by unfold eVar; rw [h]
@[simp ↓] theorem eC_eq {d : D} : eC d δ A Q = Q d A := rfl
@[simp ↓] theorem aNil_eq : aNil δ A R = R [] A := rfl
@[simp ↓] theorem aCons_eq {t : DE} {u : DA} : aCons t u δ A R = t δ A fun d A1 => u δ A1 fun ds A2 => R (d :: ds) A2 := rfl
@[simp ↓] theorem eTup_eq {t : DA} : eTup t δ A Q = t δ A fun ds A1 => Few ds.length ∧ Q (.tup ds) A1 := rfl
@[simp ↓] theorem eLst_eq {m : Mk} {t : DA} : eLst m t δ A Q = t δ A fun ds A1 => Few ds.length ∧ m ds A1 Q := rfl
@[simp ↓] theorem mkF_eq {l : List D} : mkF l A Q = Q (.lst l) A := rfl
@[simp ↓] theorem eBin_eq {rd : DOp} {a b : DE} : eBin rd a b δ A Q = a δ A fun x A1 => b δ A1 fun y A2 => rd x y A2 Q := rfl
@[simp ↓] theorem eChain_eq {rd rd' : DOp} {ta tb tc : DE} : eChain rd rd' ta tb tc δ A Q = ta δ A fun x A1 => tb δ A1 fun y A2 => rd x y A2 fun z A3 => match z with
  | .bl k => (k = true → tc δ A3 fun w A4 => rd' y w A4 Q) ∧ (k = false → Q (.bl false) A3)
  | _ => False := rfl
@[simp ↓] theorem bE_eq {t : DE} : bE t δ A B = t δ A fun d A1 => match d with
  | .bl b => B b A1
  | _ => False := rfl
theorem bAnd_eq {t u : DT} : bAnd t u δ A B = t δ A fun b A1 => (b = true → u δ A1 B) ∧ (b = false → B false A1) := rfl
theorem bOr_eq {t u : DT} : bOr t u δ A B = t δ A fun b A1 => (b = true → B true A1) ∧ (b = false → u δ A1 B) := rfl
@[simp ↓] theorem bNot_eq {t : DT} : bNot t δ A B = t δ A fun b A1 => B (!b) A1 := rfl
@[simp ↓] theorem eCB_eq {rd : DCall} {t : DA} : eCB rd t δ A Q = t δ A fun ds A1 => rd ds A1 Q := rfl
@[simp ↓] theorem eCall_eq {w : DW} {sp : DSp} {dvs : List D} {t : DA} : eCall w sp dvs t δ A Q = t δ A fun ds A1 => sp (ds ++ dvs) A1 Q fun c fs A2 => w c fs δ A2 := rfl
@[simp ↓] theorem opAdd_int {m : Mk} {i j : Int} : opAdd m (.int i) (.int j) A Q = Q (.int (i + j)) A := rfl
@[simp ↓] theorem opAdd_str {m : Mk} {i j : Str} : opAdd m (.str i) (.str j) A Q = (Few (i.length + j.length) ∧ Q (.str (i ++ j)) A) := rfl
@[simp ↓] theorem opAdd_tup {m : Mk} {i j : List D} : opAdd m (.tup i) (.tup j) A Q = (Few (i.length + j.length) ∧ Q (.tup (i ++ j)) A) := rfl
@[simp ↓] theorem opAdd_lsts {m : Mk} {i j : List D} : opAdd m (.lst i) (.lst j) A Q = (Few (i.length + j.length) ∧ m (i ++ j) A Q) := rfl
@[simp ↓] theorem opSub_int {i j : Int} : opSub (.int i) (.int j) A Q = Q (.int (i - j)) A := rfl
@[simp ↓] theorem opMul_int {i j : Int} : opMul (.int i) (.int j) A Q = (MulOk i j ∧ Q (.int (i * j)) A) := rfl
@[simp ↓] theorem opDiv_int {i j : Int} : opDiv (.int i) (.int j) A Q = (DivOk j ∧ Q (.int (i.fdiv j)) A) := rfl
@[simp ↓] theorem opMod_int {i j : Int} : opMod (.int i) (.int j) A Q = (j ≠ 0 ∧ Q (.int (i.fmod j)) A) := rfl
@[simp ↓] theorem opPow_int {i j : Int} : opPow (.int i) (.int j) A Q = ((0 ≤ j ∧ j ≤ 1000000 ∧ i.natAbs < 2 ^ 64) ∧ Q (.int (i ^ j.toNat)) A) := rfl
@[simp ↓] theorem opCmp_int {p : Int → Int → Bool} {i j : Int} : opCmp p (.int i) (.int j) A Q = Q (.bl (p i j)) A := rfl
@[simp ↓] theorem eNeg_eq {t : DE} : eNeg t δ A Q = t δ A fun d A1 => match d with
  | .int i => Q (.int (-i)) A1
  | _ => False := rfl
@[simp ↓] theorem opIs_non {b : Bool} {x : D} : opIs b x .non A Q = Q (.bl (xor b x.isNon)) A := rfl
@[simp ↓] theorem opIs_bl {b : Bool} {x y : Bool} : opIs b (.bl x) (.bl y) A Q = Q (.bl (xor b (x == y))) A := rfl
@[simp ↓] theorem opEq_eq {b : Bool} {x y : D} : opEq b x y A Q = (dt 60 (drf A x) = true ∧ dt 60 (drf A y) = true ∧ Q (.bl (xor b (deq (drf A x) (drf A y)))) A) := rfl
@[simp ↓] theorem opIx_tup {l : List D} {i : Int} : opIx (.tup l) (.int i) A Q = match atI l i with
  | some d => Q d A
  | none => False := rfl
@[simp ↓] theorem opIx_lst {l : List D} {i : Int} : opIx (.lst l) (.int i) A Q = match atI l i with
  | some d => Q d A
  | none => False := rfl
@[simp ↓] theorem opIx_rol {l : List D} {i : Int} : opIx (.rol l) (.int i) A Q = match atI l i with
  | some d => Q d A
  | none => False := rfl
@[simp ↓] theorem bAbs_eq {i : Int} : bAbs [.int i] A Q = Q (.int i.natAbs) A := rfl
@[simp ↓] theorem bStr_eq {i : Int} : bStr [.int i] A Q = (Num i ∧ Q (.str (numStr i)) A) := rfl
@[simp ↓] theorem eSl_eq {m : Mk} {t : DE} {lo hi : DOpt} : eSl m t lo hi δ A Q = t δ A fun x A1 => lo δ A1 fun l A2 => hi δ A2 fun h A3 => opSl m x l h A3 Q := rfl
@[simp ↓] theorem oNone_eq {O : Option Int → AH → Prop} : oNone δ A O = O none A := rfl
@[simp ↓] theorem oSome_eq {t : DE} {O : Option Int → AH → Prop} : oSome t δ A O = t δ A fun d A1 => match d with
  | .int i => O (some i) A1
  | _ => False := rfl
@[simp ↓] theorem opSl_tup {m : Mk} {l : List D} {lo hi : Option Int} : opSl m (.tup l) lo hi A Q = Q (.tup (cutD l lo hi)) A := rfl
@[simp ↓] theorem opSl_lst {m : Mk} {l : List D} {lo hi : Option Int} : opSl m (.lst l) lo hi A Q = m (cutD l lo hi) A Q := rfl
@[simp ↓] theorem opSl_rol {m : Mk} {l : List D} {lo hi : Option Int} : opSl m (.rol l) lo hi A Q = m (cutD l lo hi) A Q := rfl
@[simp ↓] theorem opSl_str {m : Mk} {l : Str} {lo hi : Option Int} : opSl m (.str l) lo hi A Q = (Few l.length ∧ Q (.str (cutS l lo hi)) A) := rfl
@[simp ↓] theorem eIsi_eq {T : String} {t : DE} : eIsi T t δ A Q = t δ A fun d A1 => match tyD A1 d with
  | some s => Q (.bl (instB s T)) A1
  | none => False := rfl
theorem eAnd_eq {a b : DE} : eAnd a b δ A Q = a δ A fun d A1 => match d with
  | .bl b1 => (b1 = true → b δ A1 Q) ∧ (b1 = false → Q (.bl false) A1)
  | _ => False := rfl
theorem eOr_eq {a b : DE} : eOr a b δ A Q = a δ A fun d A1 => match d with
  | .bl b1 => (b1 = true → Q (.bl true) A1) ∧ (b1 = false → b δ A1 Q)
  | _ => False := rfl
@[simp ↓] theorem iSeq_eq {t : DE} {I : List D → (AH → Prop) → AH → Prop} : iSeq t δ A I = t δ A fun d A1 => match d with
  | .tup l => I l (fun _ => True) A1
  | .lst l => I l (fun _ => True) A1
  | .rol l => I l (fun _ => True) A1
  | .ref a => (match A1 a with
    | some (.lst l) => I l (fun A' => A' a = some (.lst l)) A1
    | _ => False)
  | _ => False := rfl
@[simp ↓] theorem eNot_eq {a : DE} : eNot a δ A Q = a δ A fun d A1 => match d with
  | .bl c => Q (.bl (!c)) A1
  | _ => False := rfl
theorem sFor_eq {it : DI} {g : DG} {t : DS} : sFor it g t D0 δ A = it δ A fun l gd A1 => forD gd g t D0 l δ A1 := rfl
theorem sWhile_eq {c : DT} {t : DS} : sWhile c t D0 δ A = ∃ n, whileN c t D0 n δ A := rfl
end

@[simp] theorem drf_non {A : AH} : drf A .non = .non := rfl
@[simp] theorem drf_bl {A : AH} {b : Bool} : drf A (.bl b) = .bl b := rfl
@[simp] theorem drf_int {A : AH} {b : Int} : drf A (.int b) = .int b := rfl
@[simp] theorem drf_str {A : AH} {b : Str} : drf A (.str b) = .str b := rfl
@[simp] theorem drf_tup {A : AH} {b : List D} : drf A (.tup b) = .tup b := rfl
@[simp] theorem drf_lst {A : AH} {b : List D} : drf A (.lst b) = .lst b := rfl
@[simp] theorem drf_rol {A : AH} {b : List D} : drf A (.rol b) = .rol b := rfl
@[simp] theorem drf_obj {A : AH} {c : String} {ns : List String} {b : List D} : drf A (.obj c ns b) = .obj c ns b := rfl
@[simp] theorem dt_non {n : Nat} : dt n .non = true := by cases n <;> rfl
@[simp] theorem dt_bl {n : Nat} {b : Bool} : dt n (.bl b) = true := by cases n <;> rfl
@[simp] theorem dt_int {n : Nat} {b : Int} : dt n (.int b) = true := by cases n <;> rfl
@[simp] theorem dt_str {n : Nat} {b : Str} : dt n (.str b) = PyData.strOk b := by cases n <;> rfl
@[simp] theorem dt_tup {n : Nat} {l : List D} : dt (n + 1) (.tup l) = dts n l := by rw [dt]
@[simp] theorem dt_lst {n : Nat} {l : List D} : dt (n + 1) (.lst l) = dts n l := by rw [dt]
@[simp] theorem dts_nil {n : Nat} : dts n [] = true := by cases n <;> rfl
@[simp] theorem dts_cons {n : Nat} {d : D} {l : List D} : dts n (d :: l) = (dt n d && dts n l) := by cases n <;> rfl
@[simp] theorem deq_int {i j : Int} : deq (.int i) (.int j) = (i == j) := by simp [deq]
@[simp] theorem deq_bl {i j : Bool} : deq (.bl i) (.bl j) = (i == j) := by simp [deq]
@[simp] theorem deq_str {i j : Str} : deq (.str i) (.str j) = (i == j) := by simp [deq]
@[simp] theorem deq_tup {i j : List D} : deq (.tup i) (.tup j) = deqs i j := by simp [deq]
@[simp] theorem deq_lst {i j : List D} : deq (.lst i) (.lst j) = deqs i j := by simp [deq]
@[simp] theorem deqs_nil : deqs [] [] = true := by simp [deqs]
@[simp] theorem deqs_cons {a b : D} {i j : List D} : deqs (a :: i) (b :: j) = (deq a b && deqs i j) := by simp [deqs]
theorem atI_nat {α : Type} (l : List α) (n : Nat) : atI l (n : Int) = l[n]? := by
  unfold atI ixN
  rw [if_pos (Int.natCast_nonneg n)]
  by_cases h : (n : Int) < (l.length : Int)
  · rw [if_pos h]; rfl
  · rw [if_neg h]; exact (List.getElem?_eq_none (by omega)).symm
@[simp] theorem atI_0 {α : Type} (l : List α) : atI l 0 = l[0]? := atI_nat l 0
@[simp] theorem atI_1 {α : Type} (l : List α) : atI l 1 = l[1]? := atI_nat l 1
@[simp] theorem atI_2 {α : Type} (l : List α) : atI l 2 = l[2]? := atI_nat l 2
@[simp] theorem atI_3 {α : Type} (l : List α) : atI l 3 = l[3]? := atI_nat l 3
@[simp] theorem atI_4 {α : Type} (l : List α) : atI l 4 = l[4]? := atI_nat l 4
@[simp] theorem atI_5 {α : Type} (l : List α) : atI l 5 = l[5]? := atI_nat l 5
@[simp] theorem atI_6 {α : Type} (l : List α) : atI l 6 = l[6]? := atI_nat l 6
@[simp] theorem atI_7 {α : Type} (l : List α) : atI l 7 = l[7]? := atI_nat l 7
@[simp] theorem atI_8 {α : Type} (l : List α) : atI l 8 = l[8]? := atI_nat l 8
@[simp] theorem atI_9 {α : Type} (l : List α) : atI l 9 = l[9]? := atI_nat l 9
@[simp] theorem atI_10 {α : Type} (l : List α) : atI l 10 = l[10]? := atI_nat l 10
@[simp] theorem atI_11 {α : Type} (l : List α) : atI l 11 = l[11]? := atI_nat l 11
@[simp] theorem atI_m1 {α : Type} (l : List α) : atI l (-1) = l[l.length - 1]? := by
  unfold atI ixN
  rw [if_neg (by decide)]
  by_cases h : -(l.length : Int) ≤ -1
  · rw [if_pos h]
    show l[((-1 : Int) + (l.length : Int)).toNat]? = _
    congr 1; omega
  · rw [if_neg h]; exact (List.getElem?_eq_none (by omega)).symm
theorem numStr_len {i : Int} {k : Nat} (hk : 0 < k) (h : i.natAbs < 2 ^ k) : (numStr i).length ≤ k + 1 := by
  have e : (toString i).length ≤ k + 1 := by
    cases i with
    | ofNat m => exact Nat.le_succ_of_le ((Nat.length_repr_le_iff hk).mpr (Nat.lt_of_lt_of_le h (Nat.pow_le_pow_left (by decide) k)))
    | negSucc m =>
      have e : toString (Int.negSucc m) = "-" ++ Nat.repr (m + 1) := rfl
      rw [e, String.length_append]
      have e1 : "-".length = 1 := rfl
      have e2 := (Nat.length_repr_le_iff (n := m + 1) hk).mpr (Nat.lt_of_lt_of_le h (Nat.pow_le_pow_left (by decide) k))
      omega
  unfold numStr
  rw [PySem.ofString_length]; exact e
theorem strOk_of (s : String) : PyData.strOk (Str.ofString s) = true := by
  rw [Str.ofString_eq_toList]
  unfold PyData.strOk
  rw [Array.all_eq_true_iff_forall_mem]
  intro x hx
  simp only [List.mem_toArray, List.mem_map] at hx
  obtain ⟨c, _, rfl⟩ := hx
  have h := c.valid
  refine decide_eq_true ?_
  rcases h with h | ⟨_, h⟩
  · exact Nat.lt_trans h (by decide)
  · exact h
theorem strOk_app {x y : Str} (hx : PyData.strOk x = true) (hy : PyData.strOk y = true) : PyData.strOk (x ++ y) = true := by
  show (x.cps ++ y.cps).all _ = true
  rw [Array.all_append]
  exact Bool.and_eq_true_iff.mpr ⟨hx, hy⟩
@[simp] theorem strOk_num (i : Int) : PyData.strOk (numStr i) = true := strOk_of _
/-- a for by an invariant of what is left -/
theorem forD_ind {g : AH → Prop} {tg : DG} {body : DS} {DD : DEnds} (I : List D → DSt → AH → Prop) (hg : ∀ l δ A, I l δ A → g A) (h0 : ∀ δ A, I [] δ A → DD.nx δ A)
    (h1 : ∀ x l δ A (N : DSt → AH → Prop), (∀ δ A, I l δ A → N δ A) → I (x :: l) δ A → tg x δ A fun δ1 A1 => body { DD with nx := N, ct := N, bk := DD.nx } δ1 A1) : ∀ l δ A, I l δ A → forD g tg body DD l δ A
  | [], δ, A, h => ⟨hg _ _ _ h, h0 _ _ h⟩
  | x :: l, δ, A, h => ⟨hg _ _ _ h, h1 x l δ A _ (forD_ind I hg h0 h1 l) h⟩
theorem cutD_map {α : Type} (f : α → D) (l : List α) (lo hi : Option Int) : ∃ m : List α, cutD (l.map f) lo hi = m.map f ∧ ∀ x ∈ m, x ∈ l := by
  unfold cutD
  exact ⟨(l.drop (HT.sIx (l.map f).length 0 lo)).take (HT.sIx (l.map f).length (l.map f).length hi - HT.sIx (l.map f).length 0 lo), by rw [List.map_take, List.map_drop], fun x hx => List.mem_of_mem_drop (List.mem_of_mem_take hx)⟩
@[simp] theorem divOk_lit {n : Int} (h1 : 0 < n) (h2 : n < 18446744073709551616) : DivOk n := ⟨by omega, Nat.lt_of_lt_of_le (show n.natAbs < 2 ^ 64 by omega) (Nat.pow_le_pow_right (by decide) (by decide))⟩
@[simp] theorem mulOk_lit {i j : Int} (h1 : 0 ≤ j) (h2 : j < 18446744073709551616) : DL.MulOk i j := .inr (.inl (show j.natAbs < 2 ^ 64 by omega))
theorem divOk_of {n : Int} {k : Nat} (h1 : n ≠ 0) (h2 : n.natAbs < 2 ^ k) (hk : k ≤ 9000) : DivOk n := ⟨h1, Nat.lt_of_lt_of_le h2 (Nat.pow_le_pow_right (by decide) hk)⟩
theorem mulOk_of {i j : Int} {a b : Nat} (h1 : i.natAbs < 2 ^ a) (h2 : j.natAbs < 2 ^ b) (hk : a + b ≤ 134217728) : DL.MulOk i j := .inr (.inr ⟨a, b, h1, h2, hk⟩)
theorem num_len {i : Int} (h : Num i) : (numStr i).length ≤ 1901 := numStr_len (by decide) h
section
variable {δ : DSt} {A : AH} {Q : DK} {D0 : DEnds} {R : List D → AH → Prop} {B : Bool → AH → Prop} {I : List D → (AH → Prop) → AH → Prop}
@[simp ↓] theorem bMin_eq {i j : Int} : bMin [.int i, .int j] A Q = Q (.int (if j < i then j else i)) A := rfl
@[simp ↓] theorem bLen_str {s : Str} : bLen [.str s] A Q = (Few s.length ∧ Q (.int s.length) A) := rfl
@[simp ↓] theorem bLen_tup {l : List D} : bLen [.tup l] A Q = Q (.int l.length) A := rfl
@[simp ↓] theorem bLen_lst {l : List D} : bLen [.lst l] A Q = Q (.int l.length) A := rfl
@[simp ↓] theorem bLen_rol {l : List D} : bLen [.rol l] A Q = Q (.int l.length) A := rfl
@[simp ↓] theorem iRng1_eq {t : DA} : iRng1 t δ A I = t δ A fun ds A1 => match ds with
  | [.int n] => Small n ∧ I (rngD 0 n.toNat) (fun _ => True) A1
  | _ => False := rfl
@[simp ↓] theorem iRng2_eq {t : DA} : iRng2 t δ A I = t δ A fun ds A1 => match ds with
  | [.int i, .int j] => (Small i ∧ Small j) ∧ I (rngD i (j - i).toNat) (fun _ => True) A1
  | _ => False := rfl
@[simp ↓] theorem iText_eq {t : DE} : iText t δ A I = t δ A fun d A1 => match d with
  | .str z => I (signsD z) (fun _ => True) A1
  | _ => False := rfl
@[simp ↓] theorem sRaise_eq {w : DW} {c : String} : sRaise w c D0 δ A = w c [] δ A := rfl
@[simp ↓] theorem sTryOnly_eq {w : DW} {sub : String → Option Bool} {b : DW → DS} {s : Addr → String → List (String × D) → DS} : sTryOnly w sub b s D0 δ A = b (fun c fs δ1 A1 => match sub c with
    | some true => ∀ a, s a c fs D0 δ1 A1
    | some false => w c fs δ1 A1
    | none => False) D0 δ A := rfl
@[simp ↓] theorem sTryAs_eq {w : DW} {sub : String → Option Bool} {i : Nat} {b : DW → DS} {s : Addr → String → List (String × D) → DS} : sTryAs w sub i b s D0 δ A = b (fun c fs δ1 A1 => match sub c with
    | some true => ∀ a, s a c fs (suiteEnds i D0) (δ1.set i (some (.ref a))) A1
    | some false => w c fs δ1 A1
    | none => False) D0 δ A := rfl
end
/-- the numbers a range runs over, left ones first -/
theorem rngD_succ (lo : Int) (n : Nat) : rngD lo (n + 1) = .int lo :: rngD (lo + 1) n := by
  unfold rngD
  rw [List.range_succ_eq_map, List.map_cons, List.map_map]
  congr 1
  · simp
  · apply List.map_congr_left; intro x _; simp; omega
@[simp] theorem rngD_zero (lo : Int) : rngD lo 0 = [] := rfl
theorem rngD_len (lo : Int) (n : Nat) : (rngD lo n).length = n := by unfold rngD; simp
/-- a for over a range by an invariant of the number that comes next -/
theorem forR_ind {g : AH → Prop} {tg : DG} {body : DS} {DD : DEnds} (hi : Int) (I : Int → DSt → AH → Prop) (hg : ∀ i δ A, I i δ A → g A) (h0 : ∀ δ A, I hi δ A → DD.nx δ A)
    (h1 : ∀ i δ A (N : DSt → AH → Prop), i < hi → (∀ δ A, I (i + 1) δ A → N δ A) → I i δ A → tg (.int i) δ A fun δ1 A1 => body { DD with nx := N, ct := N, bk := DD.nx } δ1 A1) :
    ∀ (n : Nat) (lo : Int) δ A, lo + n = hi → I lo δ A → forD g tg body DD (rngD lo n) δ A
  | 0, lo, δ, A, e, h => by
    have : lo = hi := by omega
    subst this
    exact ⟨hg _ _ _ h, h0 _ _ h⟩
  | n + 1, lo, δ, A, e, h => by
    rw [rngD_succ]
    exact ⟨hg _ _ _ h, h1 lo δ A _ (by omega) (fun δ A h => forR_ind hi I hg h0 h1 n (lo + 1) δ A (by omega) h) h⟩
section
variable {A : AH}
@[simp] theorem ty_non : tyD A .non = some "NoneType" := rfl
@[simp] theorem ty_bl {b : Bool} : tyD A (.bl b) = some "bool" := rfl
@[simp] theorem ty_int {b : Int} : tyD A (.int b) = some "int" := rfl
@[simp] theorem ty_str {b : Str} : tyD A (.str b) = some "str" := rfl
@[simp] theorem ty_tup {b : List D} : tyD A (.tup b) = some "tuple" := rfl
@[simp] theorem ty_lst {b : List D} : tyD A (.lst b) = some "list" := rfl
@[simp] theorem ty_rol {b : List D} : tyD A (.rol b) = some "list" := rfl
@[simp] theorem ty_dic {k : List Key} {b : List D} : tyD A (.dic k b) = some "dict" := rfl
end
@[simp] theorem mulOk_lit2 {i j : Int} (h1 : 0 ≤ i) (h2 : i < 18446744073709551616) : DL.MulOk i j := .inl (show i.natAbs < 2 ^ 64 by omega)
end DL

/-! DL8: raise, except, isinstance of an exception; facts of one's own. -/
namespace DL
open PySem PySem.Spec PyProof.Rows L2
variable {K : PySem.W.Frag} {Z Z' Z0 : Hp} {X : Cx}
/-! ### raise C('..'), except C -/
theorem qs_raiseC {w : DW} {c : String} {m : Str} {j : Nat} {p p2 pos pos' : Pos} (fx : (He.Fa.exc (Str.ofString c)).ok X.K = true) (g : X.mg (Str.ofString c) = some (.ref (He.ga X.K (Str.ofString c)))) (hc : X.calm = true) (tk : Takes X (liftW X.K Z0 w)) (hg : Gl X (Str.ofString c))
    (hdb : (Str.ofString c == ("__debug__" : Str)) = false) : QS X Z0 (.Raise (some (.Call (.Name (Str.ofString c) p) [.Constant (.str m) j p2] [] pos')) none pos) (sRaise w c) := by
  obtain ⟨h1, h2, h3, h4⟩ := He.exc_ok fx
  exact qs_raise hc tk (pmk_own PySem.F.excBase_ValueError h1 g h2 (raises_own h3 h4) hg hdb)
/-- which classes an except clause takes -/
def excT (l : List (String × Bool)) (k : String) : Option Bool := lookS k l
theorem look_mem {k : String} {b : Bool} : ∀ {l : List (String × Bool)}, l.lookup k = some b → (k, b) ∈ l
  | [], h => by cases h
  | (a, c) :: l, h => by
    rw [List.lookup_cons] at h
    split at h
    · rename_i e
      have e2 := beq_iff_eq.mp e
      subst e2; cases h; exact List.mem_cons_self
    · exact List.mem_cons_of_mem _ (look_mem h)
theorem exc_tab {l : List (String × Bool)} {x : String} (h : ∀ p ∈ l, (He.Fa.exm (Str.ofString p.1) (Str.ofString x) p.2).ok K = true) (k : String) (b : Bool) (e : excT l k = some b) : PySem.W.exmOne K (.ref (He.ga K (Str.ofString k))) (.ref (He.ga K (Str.ofString x))) = some b :=
  He.exm_ok (h (k, b) (look_mem (by unfold excT at e; rwa [lookS_eq] at e)))
/-! ### facts of one's own -/
abbrev Fx := PySem.W.Frag → Bool
def allX (l : List Fx) (K : PySem.W.Frag) : Bool := l.all fun f => f K
theorem allX_at {l : List Fx} (h : allX l K = true) (i : Nat) {f : Fx} (e : l[i]? = some f := by rfl) : f K = true := List.all_eq_true.mp h f (List.mem_of_getElem? e)
/-- isinstance(e, D), e of the class c, D of the text -/
def fxIs (c D : String) (b : Bool) : Fx := fun K => decide (PySem.W.kitOne K (.ref (He.ga K (Str.ofString c))) (.ref (He.ga K (Str.ofString D))) = some b)
/-- .. D built-in -/
def fxIsB (c D : String) (b : Bool) : Fx := fun K => decide (PySem.W.kitOne K (.ref (He.ga K (Str.ofString c))) (.type D) = some b)
/-- what isinstance asks of an exception's class -/
def fxEx (c : String) : Fx := fun K => He.eqO (PySem.W.findIn K (.ref (He.ga K (Str.ofString c))) "__getattribute__") (some (some (.builtin "BaseException.__getattribute__"))) && (He.eqO (PySem.W.findIn K (.ref (He.ga K (Str.ofString c))) "__getattr__") (some none) && (decide (PySem.W.subIn K (.ref (He.ga K (Str.ofString c))) (.type "BaseException") = some true) && (PySem.W.hasDictIn K (He.ga K (Str.ofString c)) &&
  (He.eqO (PySem.W.findIn K (.ref (He.ga K (Str.ofString c))) "__class__") (some (some (.builtin "object.__class__"))) && (He.eqO (PySem.W.specialIn K (.builtin "object.__class__") "__get__") (some (some (.builtin "getset_descriptor.__get__"))) && (decide (PySem.W.takesIn K (.builtin "object.__class__") = some true) && decide (PySem.W.mroIn K (He.ga K (Str.ofString c)) (.type "object") = some true)))))))
theorem fxEx_ok {c : String} (h : fxEx c K = true) : ExcC K (He.ga K (Str.ofString c)) := by
  obtain ⟨h1, h⟩ := He.ba h
  obtain ⟨h2, h⟩ := He.ba h
  obtain ⟨h3, h⟩ := He.ba h
  obtain ⟨h4, h⟩ := He.ba h
  obtain ⟨h5, h⟩ := He.ba h
  obtain ⟨h6, h⟩ := He.ba h
  obtain ⟨h7, h8⟩ := He.ba h
  exact ⟨He.eqO_ok h1, He.eqO_ok h2, of_decide_eq_true h3, h4, He.eqO_ok h5, He.eqO_ok h6, of_decide_eq_true h7, of_decide_eq_true h8⟩
/-! ### isinstance(e, D) in a suite -/
section
variable {a : Addr} {oe : Obj} {cls : Value} {d : Option Addr} {pn : List (Addr × Obj)} {k : String} {Z1 : Hp} {e e2 : Expr} {te : DE} {p pos : Pos}
/-- the table tells what isinstance says: rows by the exception's class -/
def eIsE (a : Addr) (k : String) (fs : List (String × D)) (tb : List (String × Bool)) (t : DE) : DE := fun δ A Q => t δ A fun d A1 => d = .ref a ∧ fs = [] ∧ (match lookS k tb with
  | some b => Q (.bl b) A1
  | none => False)
theorem call_isTab {tb : List (String × Bool)} {fs : List (String × D)} {cv : Value} (kf : ∀ k ∈ tb.map (·.1), ExcC X.K (He.ga X.K (Str.ofString k))) (hk : ∀ p ∈ tb, PySem.W.kitOne X.K (.ref (He.ga X.K (Str.ofString p.1))) cv = some p.2) (hz : Zc cls d oe) (hf : ∃ vs, oe.data = .fields vs) (rx : RX X.K Z1 k fs cls d) :
    CallR (X.suite a ((a, oe) :: pn)) (.builtin "isinstance") (fun xs H Q => ∃ b, fs = [] ∧ tb.lookup k = some b ∧ ∃ c : V, xs = [.ref a, c] ∧ (∀ u, RelV c u → u = cv) ∧ Q (.bl b) H) := by
  intro pins s σ H xs us Q I r ⟨b, hfs, hb, c, e1, e2, q⟩
  have hmem := look_mem hb
  obtain ⟨ec, ed⟩ := rx
  subst hfs
  have dn : d = none := by
    rcases ed with ⟨_, q⟩ | ⟨_, _, q, _⟩
    · exact q
    · exact absurd rfl q
  subst dn
  rw [ec] at hz
  exact call_isE (kf k (List.mem_map.mpr ⟨_, hmem, rfl⟩)) hz hf pins s σ H xs us Q I r ⟨c, cv, b, e1, e2, hk _ hmem, q⟩
theorem qe_isAny {tb : List (String × Bool)} {c : V} {cv : Value} {fs : List (String × D)} (kf : ∀ k ∈ tb.map (·.1), ExcC X.K (He.ga X.K (Str.ofString k))) (hk : ∀ p ∈ tb, PySem.W.kitOne X.K (.ref (He.ga X.K (Str.ofString p.1))) cv = some p.2) (hz : Zc cls d oe) (hf : ∃ vs, oe.data = .fields vs) (rx : RX X.K Z1 k fs cls d)
    (hg : Gl (X.suite a ((a, oe) :: pn)) "isinstance") (hm : X.mg "isinstance" = none) (hc : PE (X.suite a ((a, oe) :: pn)) e2 (tC c)) (hcv : ∀ u, RelV c u → u = cv) (he : QE (X.suite a ((a, oe) :: pn)) Z0 e te)
    (h1 : starEach (e :: [e2]) X.env = (false, eval e X.env) :: starEach [e2] X.env := by rfl) (h2 : (backTo pos (starEach [e2] X.env)).any (·.1) = false := by rfl) (h3 : starEach [e2] X.env = [(false, eval e2 X.env)] := by rfl) :
    QE (X.suite a ((a, oe) :: pn)) Z0 (.Call (.Name "isinstance" p) [e, e2] [] pos) (eIsE a k fs tb te) := by
  refine PE.imp (pe_callB (call_isTab kf hk hz hf rx) hg hm (by decide +kernel) (pa_cons he (pa_cons hc pa_nil h3) h1) (he := h1) (hpl := h2)) fun σ H Q ⟨Z, δ, A, Kt, z, rs, ra, t, kk⟩ =>
    ⟨Z, δ, A, _, z, rs, ra, t, fun Z2 d A1 v H1 s1 ra1 rv t1 => ?_⟩
  obtain ⟨rfl, hfs, t1⟩ := t1
  rw [lookS_eq] at t1
  split at t1
  · rename_i b hb
    exact ⟨b, hfs, hb, c, by rw [rv_ref rv], hcv, kk Z2 _ A1 _ H1 s1 ra1 mk_bl t1⟩
  · exact t1.elim
end
end DL

/-! DL9: chains of three. -/
namespace DL
open PySem PySem.Spec PyProof.Rows L2
variable {K : PySem.W.Frag} {Z Z' Z0 : Hp} {X : Cx}
section
variable {a b c e : Expr} {ta tb tc td : TE} {pos : Pos}
def tChain3 (r r' r'' : R2) (ta tb tc td : TE) : TE := fun σ H Q => ta σ H fun x H1 => tb σ H1 fun y H2 => r x y H2 fun z H3 => ∃ k, z = .bl k ∧
  (if k = true then tChain r' r'' (fun _ H Q => Q y H) tc td σ H3 Q else Q (.bl false) H3)
theorem pe_chain3 {op op' op'' : CmpOp} {r r' r'' : R2} (ho : OpR X (compareOp op) r) (ho' : OpR X (compareOp op') r') (ho'' : OpR X (compareOp op'') r'') (ha : PE X a ta) (hb : PE X b tb) (hc : PE X c tc) (hd : PE X e td)
    (hm : lastMarks [op, op', op''] [b, c, e] = false := by with_unfolding_all rfl) : PE X (.Compare a [op, op', op''] [b, c, e] pos) (tChain3 r r' r'' ta tb tc td) := by
  refine ⟨fun pins s σ H Q I h => ?_⟩
  refine Compare_chain (thn (ha.run pins s σ H _ I h) fun v s1 ⟨x, H1, I1, r1, q1⟩ => chain_link (thn (hb.run pins s1 σ H1 _ I1 q1) fun u s2 ⟨y, H2, I2, r2, q2⟩ =>
    thn (ho pins s2 σ H2 x y v u _ I2 r1 r2 q2) fun d s3 ⟨z, H3, I3, r3, k, e, q3⟩ => ?_)) hm
  subst e
  cases r3
  refine wpAny_truthy_bool ?_
  cases k with
  | false => exact ite_ff ⟨.bl false, H3, I3, rfl, q3⟩
  | true =>
    refine ite_tt (chain_link (thn (hc.run pins s3 σ H3 _ I3 q3) fun u4 s4 ⟨y4, H4, I4, r4, q4⟩ => thn (ho' pins s4 σ H4 y y4 u u4 _ I4 r2 r4 q4) fun d5 s5 ⟨z5, H5, I5, r5, k5, e5, q5⟩ => ?_))
    subst e5
    cases r5
    refine wpAny_truthy_bool ?_
    cases k5 with
    | false => exact ite_ff ⟨.bl false, H5, I5, rfl, q5⟩
    | true => exact ite_tt (chain_last (thn (hd.run pins s5 σ H5 _ I5 q5) fun w' s6 ⟨z', H6, I6, r6, q6⟩ => ho'' pins s6 σ H6 y4 z' u4 w' Q I6 r4 r6 q6))
end
section
variable {a b c e : Expr} {ta tb tc td : DE} {pos : Pos}
def eChain3 (rd rd' rd'' : DOp) (ta tb tc td : DE) : DE := fun δ A Q => ta δ A fun x A1 => tb δ A1 fun y A2 => rd x y A2 fun z A3 => match z with
  | .bl k => (k = true → tc δ A3 fun w A4 => rd' y w A4 fun z A5 => match z with
    | .bl k => (k = true → td δ A5 fun v A6 => rd'' w v A6 Q) ∧ (k = false → Q (.bl false) A5)
    | _ => False) ∧ (k = false → Q (.bl false) A3)
  | _ => False
theorem qe_chain3 {op op' op'' : CmpOp} {rd rd' rd'' : DOp} {r r' r'' : R2} (l : LiftOp X.K rd r) (l' : LiftOp X.K rd' r') (l'' : LiftOp X.K rd'' r'') (ho : OpR X (compareOp op) r) (ho' : OpR X (compareOp op') r') (ho'' : OpR X (compareOp op'') r'')
    (ha : QE X Z0 a ta) (hb : QE X Z0 b tb) (hc : QE X Z0 c tc) (hd : QE X Z0 e td) (hm : lastMarks [op, op', op''] [b, c, e] = false := by with_unfolding_all rfl) : QE X Z0 (.Compare a [op, op', op''] [b, c, e] pos) (eChain3 rd rd' rd'' ta tb tc td) :=
  PE.imp (pe_chain3 ho ho' ho'' ha hb hc hd hm) fun σ H Q ⟨Z, δ, A, Kt, z, rs, ra, t, k⟩ => by
  refine ⟨Z, δ, A, _, z, rs, ra, t, fun Z1 d A1 v H1 s1 ra1 rv t1 => ⟨Z1, δ, A1, _, z.trans s1, rs.mono s1, ra1, t1, fun Z2 d2 A2 v2 H2 s2 ra2 rv2 t2 => l Z2 A2 H2 d d2 v v2 _ _ ra2 (rv.mono s2) rv2 t2 fun Z3 d3 A3 v3 H3 s3 ra3 rv3 t3 => ?_⟩⟩
  cases d3 with
  | bl c =>
    refine ⟨c, rv_bl rv3, ?_⟩
    cases c with
    | true =>
      refine iteT ⟨Z3, δ, A3, _, ((z.trans s1).trans s2).trans s3, ((rs.mono s1).mono s2).mono s3, ra3, t3.1 rfl, fun Z4 d4 A4 v4 H4 s4 ra4 rv4 t4 => l' Z4 A4 H4 d2 d4 v2 v4 _ _ ra4 ((rv2.mono s3).mono s4) rv4 t4 fun Z5 d5 A5 v5 H5 s5 ra5 rv5 t5 => ?_⟩
      cases d5 with
      | bl c5 =>
        refine ⟨c5, rv_bl rv5, ?_⟩
        cases c5 with
        | true =>
          exact iteT ⟨Z5, δ, A5, _, ((((z.trans s1).trans s2).trans s3).trans s4).trans s5, ((((rs.mono s1).mono s2).mono s3).mono s4).mono s5, ra5, t5.1 rfl, fun Z6 d6 A6 v6 H6 s6 ra6 rv6 t6 => l'' Z6 A6 H6 d4 d6 v4 v6 _ _ ra6 ((rv4.mono s5).mono s6) rv6 t6 (Kont.mono k (((((s1.trans s2).trans s3).trans s4).trans s5).trans s6))⟩
        | false => exact iteF (k Z5 _ A5 _ H5 ((((s1.trans s2).trans s3).trans s4).trans s5) ra5 mk_bl (t5.2 rfl))
      | _ => exact t5.elim
    | false => exact iteF (k Z3 _ A3 _ H3 ((s1.trans s2).trans s3) ra3 mk_bl (t3.2 rfl))
  | _ => exact t3.elim
end
section
variable {δ : DSt} {A : AH} {Q : DK}
@[simp ↓] theorem eChain3_eq {rd rd' rd'' : DOp} {ta tb tc td : DE} : eChain3 rd rd' rd'' ta tb tc td δ A Q = ta δ A fun x A1 => tb δ A1 fun y A2 => rd x y A2 fun z A3 => match z with
  | .bl k => (k = true → tc δ A3 fun w A4 => rd' y w A4 fun z A5 => match z with
    | .bl k => (k = true → td δ A5 fun v A6 => rd'' w v A6 Q) ∧ (k = false → Q (.bl false) A5)
    | _ => False) ∧ (k = false → Q (.bl false) A3)
  | _ => False := rfl
@[simp ↓] theorem eIsE_eq {a : Addr} {k : String} {fs : List (String × D)} {tb : List (String × Bool)} {t : DE} : eIsE a k fs tb t δ A Q = t δ A fun d A1 => d = .ref a ∧ fs = [] ∧ (match lookS k tb with
  | some b => Q (.bl b) A1
  | none => False) := rfl
end
end DL

/-! DLA: the module's texts; more of in, subscripts. -/
namespace DL
open PySem PySem.Spec PyProof.Rows L2
variable {K : PySem.W.Frag} {Z Z' Z0 : Hp} {X : Cx}
theorem qe_gstr {x z : Str} {pos : Pos} (h : ∃ t, X.mg x = some (.str z t)) (hg : Gl X x) (hd : (x == ("__debug__" : Str)) = false := by decide) : QE X Z0 (.Name x pos) (eC (.str z)) := by
  obtain ⟨t, h⟩ := h
  refine PE.imp (pe_glob (v := .str z) hg h ⟨t, rfl⟩ hd) fun σ H Q ⟨Z, δ, A, Kt, zz, rs, ra, q, k⟩ => k Z _ A _ H (Same.refl Z) ra mk_str q
section
variable {δ : DSt} {A : AH} {Q : DK}
@[simp ↓] theorem opIn_sign {b : Bool} {c : Nat} {z : Str} : opIn b (.str ⟨#[c]⟩) (.str z) A Q = Q (.bl (xor b (decide (c ∈ z.cps.toList)))) A := by
  simp [opIn, asDic]
@[simp ↓] theorem opIx_str {z : Str} {i : Int} : opIx (.str z) (.int i) A Q = (Few z.length ∧ (match atI z.cps.toList i with
      | some c => Q (.str ⟨#[c]⟩) A
      | none => False)) := rfl
end
theorem signs_mem {z : Str} {x : D} (h : x ∈ signsD z) : ∃ c, x = .str ⟨#[c]⟩ ∧ c ∈ z.cps.toList := by
  unfold signsD at h
  obtain ⟨c, hc, e⟩ := List.mem_map.mp h
  exact ⟨c, e.symm, hc⟩
theorem cps_app (x y : Str) : (x ++ y).cps.toList = x.cps.toList ++ y.cps.toList := by
  show (x.cps ++ y.cps).toList = _
  simp
theorem str_len (x : Str) : x.length = x.cps.toList.length := by simp [Str.length]
end DL

/-! DLB: objects: fields set, classes called, methods, isinstance. -/
namespace DL
open PySem PySem.Spec PyProof.Rows L2
variable {K : PySem.W.Frag} {Z Z' Z0 : Hp} {X : Cx}
/-! ### frozen -/
def eFz (t : DE) : DE := fun δ A Q => t δ A fun d A1 => match d with
  | .ref a => (match A1 a with
    | some (.lst l) => Q (.lst l) (A1.del a)
    | some (.obj c fs) => Q (.obj c (fs.map (·.1)) (fs.map (·.2))) (A1.del a)
    | some (.dic kvs) => Q (.dic (kvs.map (·.1)) (kvs.map (·.2))) (A1.del a)
    | none => False)
  | d => Q d A1
theorem fz_ok {A : AH} {H : Hp} {a : Addr} {o : AO} (R : RA K Z A H) (h : A a = some o) : ∃ Z2, Same Z Z2 ∧ RA K Z2 (A.del a) H ∧ (match o with
    | .lst l => RV K Z2 (.lst l) (.ref a)
    | .obj c fs => RV K Z2 (.obj c (fs.map (·.1)) (fs.map (·.2))) (.ref a)
    | .dic kvs => RV K Z2 (.dic (kvs.map (·.1)) (kvs.map (·.2))) (.ref a)) := by
  have q := (R.at_ a o h).2
  cases o with
  | lst l =>
    obtain ⟨vs, e1, e2⟩ := q
    obtain ⟨s, r⟩ := R.freeze h e1
    refine ⟨_, s, r, ?_⟩
    show RV K _ (.lst l) (.ref a)
    rw [RV]; exact ⟨a, vs, rfl, upd_same .., e2.mono s⟩
  | obj c fs =>
    obtain ⟨dx, us, e1, e2, e3⟩ := q
    obtain ⟨s, r⟩ := R.freeze h e1
    refine ⟨_, s, r, ?_⟩
    show RV K _ (.obj c (fs.map (·.1)) (fs.map (·.2))) (.ref a)
    rw [RV]; exact ⟨a, dx, us, rfl, upd_same .., by rw [e2, List.map_map]; rfl, e3.mono s⟩
  | dic kvs =>
    obtain ⟨us, e1, e2, e3⟩ := q
    obtain ⟨s, r⟩ := R.freeze h e1
    refine ⟨_, s, r, ?_⟩
    show RV K _ (.dic (kvs.map (·.1)) (kvs.map (·.2))) (.ref a)
    rw [RV]; exact ⟨a, us, rfl, upd_same .., e2, e3.mono s⟩
theorem qe_fz {e : Expr} {t : DE} (h : QE X Z0 e t) : QE X Z0 e (eFz t) := PE.imp h fun σ H Q ⟨Z, δ, A, Kt, z, rs, ra, t, k⟩ =>
  ⟨Z, δ, A, _, z, rs, ra, t, fun Z1 d A1 v H1 s1 ra1 rv t1 => by
    cases d with
    | ref a =>
      have t1' : (match A1 a with
        | some (.lst l) => Kt (.lst l) (A1.del a)
        | some (.obj c fs) => Kt (.obj c (fs.map (·.1)) (fs.map (·.2))) (A1.del a)
        | some (.dic kvs) => Kt (.dic (kvs.map (·.1)) (kvs.map (·.2))) (A1.del a)
        | none => False) := t1
      have ev := rv_ref rv
      subst ev
      cases ho : A1 a with
      | none => rw [ho] at t1'; exact t1'.elim
      | some o =>
        rw [ho] at t1'
        obtain ⟨Z2, s2, r2, q⟩ := fz_ok ra1 ho
        cases o with
        | lst l => exact k Z2 _ _ _ H1 (s1.trans s2) r2 q t1'
        | obj c fs => exact k Z2 _ _ _ H1 (s1.trans s2) r2 q t1'
        | dic kvs => exact k Z2 _ _ _ H1 (s1.trans s2) r2 q t1'
    | _ => exact k Z1 _ A1 _ H1 s1 ra1 rv t1⟩
/-! ### fields set -/
def putD (f : String) (d : D) : List (String × D) → List (String × D)
  | [] => [(f, d)]
  | (g, x) :: r => if g = f then (g, d) :: r else (g, x) :: putD f d r
theorem put_ok {f : String} {d : D} {v : V} (r : RV K Z d v) : ∀ {fs : List (String × D)} {us : List (Str × V)}, us.map (·.1) = fs.map (fun p => Str.ofString p.1) → RVs K Z (fs.map (·.2)) (us.map (·.2)) →
    (putF (Str.ofString f) v us).map (·.1) = (putD f d fs).map (fun p => Str.ofString p.1) ∧ RVs K Z ((putD f d fs).map (·.2)) ((putF (Str.ofString f) v us).map (·.2))
  | [], us, e, _ => by
    have : us = [] := by simpa using e
    subst this
    exact ⟨rfl, .cons r .nil⟩
  | (g, x) :: fs, [], e, _ => by simp at e
  | (g, x) :: fs, (g2, y) :: us, e, q => by
    simp only [List.map_cons, List.cons.injEq] at e
    obtain ⟨e1, e2⟩ := e
    obtain ⟨v2, u2, e3, r1, r2⟩ := q.inv
    simp only [List.map_cons, List.cons.injEq] at e3
    obtain ⟨e4, e5⟩ := e3
    subst e4
    rw [← e5] at r2
    obtain ⟨i1, i2⟩ := put_ok (f := f) r e2 r2
    unfold putF putD
    by_cases hg : g = f
    · subst hg
      rw [if_pos rfl, if_pos e1]
      exact ⟨by simp [e1, e2], .cons r r2⟩
    · rw [if_neg hg, if_neg (fun z => hg (ofString_inj (e1.symm.trans z)))]
      exact ⟨by simp [e1, i1], .cons r1 i2⟩
def sFldSet (cs : List String) (f : String) (to te : DE) : DS := fun D δ A => te δ A fun d A1 => to δ A1 fun x A2 => match x with
  | .ref a => (match A2 a with
    | some (.obj c fs) => (c ∈ cs ∧ fs.length < 1000) ∧ D.nx δ (A2.put a (.obj c (putD f d fs)))
    | _ => False)
  | _ => False
theorem qs_fld {cs : List String} {f : String} {o value : Expr} {to te : DE} {pos pos' : Pos} (hf : ∀ c ∈ cs, FldOk X.K c f) (ho : QE X Z0 o to) (hv : QE X Z0 value te) (hs : swapsWith value (some (.Attribute o (Str.ofString f) pos')) pos.line X.env = pure false) :
    QS X Z0 (.Assign [.Attribute o (Str.ofString f) pos'] value pos) (sFldSet cs f to te) := PS.imp (ps_fld ho hv hs) fun D σ H ⟨Z, δ, A, DD, z, rs, ra, t, re⟩ =>
  ⟨Z, δ, A, _, z, rs, ra, t, fun Z1 d A1 v H1 s1 ra1 rv t1 => ⟨Z1, δ, A1, _, z.trans s1, rs.mono s1, ra1, t1, fun Z2 x A2 v2 H2 s2 ra2 rv2 t2 => by
    cases x with
    | ref a =>
      have t2' : (match A2 a with
        | some (.obj c fs) => (c ∈ cs ∧ fs.length < 1000) ∧ DD.nx δ (A2.put a (.obj c (putD f d fs)))
        | _ => False) := t2
      split at t2'
      · rename_i c fs q
        obtain ⟨⟨h1, h2⟩, h3⟩ := t2'
        obtain ⟨dx, us, e1, e2, e3⟩ := (ra2.at_ a _ q).2
        obtain ⟨p1, p2⟩ := put_ok (f := f) (rv.mono s2) e2 e3
        refine ⟨a, _, dx, us, rv_ref rv2, e1, (hf c h1).cls, (hf c h1).no, by have := congrArg List.length e2; simp at this; omega, ?_⟩
        exact re.nx Z2 δ (A2.put a (.obj c (putD f d fs))) σ _ (s1.trans s2) ((rs.mono s1).mono s2) (ra2.write (u := .obj c (putD f d fs)) q ⟨dx, _, upd_same .., p1, p2⟩) h3
      · exact t2'.elim
    | _ => exact t2.elim⟩⟩
/-! ### a class called -/
section
variable {P : Program} {w : World} {mg : Str → Option Value} {base : Heap} {k j : Nat}
structure DMake (P : Program) (w : World) (K : PySem.W.Frag) (mg : Str → Option Value) (base : Heap) (k : Nat) (c : String) (sp : DSp) : Prop where
  ex : ∃ (f : Addr) (fd : FuncData) (ps : List Str), L2.Mk K (He.ga K (Str.ofString c)) f ∧ FnOk P w K mg base (CX P w) k f fd ps (liftSp K sp) ∧ mg (Str.ofString c) = some (.ref (He.ga K (Str.ofString c))) ∧ Binds K fd ps []
theorem run_makeSD {CX : CXT} {C f : Addr} {fd : FuncData} {ps : List Str} {sp : Sp} {E : L2.St → XK} {pins : List (Addr × Obj)} {σ : L2.St} {H : Hp} {s : Shared} {Q : VK} {us : List Value} {vs : List V} (M : L2.Mk X.K C f) (F : FnOk X.prog X.w X.K X.mg X.base CX k f fd ps sp) (hr : Room (k + 1) X.A) (hb : Binds X.K fd ps [])
    (hx : PassesAt CX X σ (E σ)) (I : Inv X pins σ H s) (r : Vals vs us)
    (h : ∀ x dx, H x = none → H dx = none → dx ≠ x → sp (.ref x :: vs) (upd (upd H dx (.own x)) x (.ins C dx [])) (fun v H2 => v = .non ∧ Q (.ref x) H2) (E σ)) :
    wpAny (model X.prog X.w) X.A (call (.ref C) us) (EP X pins σ Q) X.xe s := by
  have hq := h (s.heap.objs.size + 1) s.heap.objs.size (I.hok.fresh (Nat.le_succ _)) (I.hok.fresh (Nat.le_refl _)) (Nat.ne_of_lt (Nat.lt_succ_self _))
  have I2 := Inv.made (C := C) I
  have r2 : Vals (V.ref (s.heap.objs.size + 1) :: vs) (Value.ref (s.heap.objs.size + 1) :: us) := .cons rfl r
  have hl : (Value.ref (s.heap.objs.size + 1) :: us ++ []).length = ps.length := by
    have e := r2.length
    rw [F.len _ _ _ _ hq] at e
    rw [List.append_nil]
    exact e.symm
  have hb2 := hb _ (Value.ref (s.heap.objs.size + 1) :: us) I2.kIn hl
  rw [List.append_nil] at hb2
  refine wpAny_call (make_map (f := f) I.kIn M.makes M.init (beq_iff_eq.mp M.fn) (codeAny_mono (F.run _ X.stack _ _ ⟨Value.ref (s.heap.objs.size + 1) :: us, []⟩ (Value.ref (s.heap.objs.size + 1) :: us) _ _ (E σ) (hr.make C us [])
    (I2.env0.make C us []) hb2 r2 hq) fun r s' hq' => ?_))
  cases r with
  | error e => exact hx pins _ _ e s' I2 hq'
  | ok fl =>
    cases fl with
    | ret u =>
      obtain ⟨v, H', I3, rv, ev, q3⟩ := I2.after hq'
      subst ev
      exact ⟨rv, ⟨V.ref (s.heap.objs.size + 1), H', I3, rfl, q3⟩⟩
    | next => exact False.elim hq'
    | brk => exact False.elim hq'
    | cont => exact False.elim hq'
/-- C(..): a new object; sp: what __init__ does -/
def eMk (w : DW) (c : String) (sp : DSp) (t : DA) : DE := fun δ A Q => t δ A fun ds A1 => ∀ x, A1 x = none → sp (.ref x :: ds) (A1.put x (.obj c [])) (fun d A2 => d = .non ∧ Q (.ref x) A2) fun k fs A2 => w k fs δ A2
def rMk (K : PySem.W.Frag) (C : Addr) (sp : Sp) (E : L2.St → XK) (t : TA) : TE := fun σ H Q => t σ H fun vs H1 => ∀ x dx, H1 x = none → H1 dx = none → dx ≠ x → sp (.ref x :: vs) (upd (upd H1 dx (.own x)) x (.ins C dx [])) (fun v H2 => v = .non ∧ Q (.ref x) H2) (E σ)
theorem lift_mk {w : DW} {c : String} {sp : DSp} {t : DA} {σ : L2.St} {H : Hp} {Q : VK} (h : liftE K Z0 (eMk w c sp t) σ H Q) : rMk K (He.ga K (Str.ofString c)) (liftSp K sp) (WE (liftW K Z0 w)) (liftA K Z0 t) σ H Q := by
  obtain ⟨Z, δ, A, Kt, z, rs, ra, t, k⟩ := h
  refine ⟨Z, δ, A, _, z, rs, ra, t, fun Z1 ds A1 vs H1 s1 ra1 rv t1 x dx hx hdx hne => ?_⟩
  have g1 : RA K Z1 A1 (upd H1 dx (.own x)) := ra1.grow fun a o e => by rw [upd_ne (ne_of_none e hdx)]; exact e
  have hx2 : (upd H1 dx (.own x)) x = none := by rw [upd_ne (fun e => hne e.symm)]; exact hx
  have g2 := g1.newO (o := .ins (He.ga K (Str.ofString c)) dx []) (u := .obj c []) hx2 ⟨dx, [], upd_same .., rfl, .nil⟩
  refine ⟨Z1, .ref x :: ds, _, _, _, .cons mk_ref rv, g2, t1 x (ra1.fresh hx).1, fun Z2 d A2 v H2 s2 ra2 rv2 ⟨e, q⟩ => ?_, fun Z2 c fs A2 cv dd H2 s2 ra2 rx q => ⟨Z2, δ, A2, c, fs, (z.trans s1).trans s2, (rs.mono s1).mono s2, ra2, rx, q⟩⟩
  subst e
  exact ⟨rv_non rv2, k Z2 (.ref x) A2 _ H2 (s1.trans s2) ra2 mk_ref q⟩
theorem qe_mk {w : DW} {c : String} {sp : DSp} {t : DA} {e : Expr} {es : List Expr} {p pos : Pos} (F : DMake X.prog X.w X.K X.mg X.base k c sp) (hr : Room j X.A) (hk : k + 1 ≤ j) (hg : Gl X (Str.ofString c)) (tk : Takes X (liftW X.K Z0 w)) (ha : QA X Z0 (e :: es) t) (hdb : (Str.ofString c == ("__debug__" : Str)) = false)
    (he : starEach (e :: es) X.env = (false, eval e X.env) :: starEach es X.env := by rfl) (hpl : (backTo pos (starEach es X.env)).any (·.1) = false := by rfl) : QE X Z0 (.Call (.Name (Str.ofString c) p) (e :: es) [] pos) (eMk w c sp t) := by
  obtain ⟨f, fd, ps, M, F, hm, b⟩ := F.ex
  refine PE.imp (t := rMk X.K (He.ga X.K (Str.ofString c)) (liftSp X.K sp) (WE (liftW X.K Z0 w)) (liftA X.K Z0 t)) ⟨fun pins s σ H Q I h => ?_⟩ fun σ H Q h => lift_mk h
  refine wpAny_Call_Name_kw (ld_glob I hg hm ?_ hdb)
  refine PySem.W.callWith_K (h₀ := X.base) I.ok.mod.kin M.kp (thn (ha.run pos pins s σ H _ I h) fun us s1 ⟨vs, H1, I1, r, q⟩ => ⟨I1.kIn, ?_⟩) he hpl
  exact run_makeSD M F (hr.mono hk) b (passAt tk σ) I1 r q
theorem qe_mk0 {w : DW} {c : String} {sp : DSp} {p pos : Pos} (F : DMake X.prog X.w X.K X.mg X.base k c sp) (hr : Room j X.A) (hk : k + 1 ≤ j) (hg : Gl X (Str.ofString c)) (tk : Takes X (liftW X.K Z0 w)) (hdb : (Str.ofString c == ("__debug__" : Str)) = false) :
    QE X Z0 (.Call (.Name (Str.ofString c) p) [] [] pos) (eMk w c sp aNil) := by
  obtain ⟨f, fd, ps, M, F, hm, b⟩ := F.ex
  refine PE.imp (t := rMk X.K (He.ga X.K (Str.ofString c)) (liftSp X.K sp) (WE (liftW X.K Z0 w)) (liftA X.K Z0 aNil)) ⟨fun pins s σ H Q I h => ?_⟩ fun σ H Q h => lift_mk h
  refine wpAny_Call_Name_kw (ld_glob I hg hm ?_ hdb)
  obtain ⟨Z, δ, A, Kt, z, rs, ra, t, kk⟩ := h
  exact PySem.W.callWith_K0 I.kIn M.kp (run_makeSD (us := []) (vs := []) M F (hr.mono hk) b (passAt tk σ) I .nil (kk Z [] A [] H (Same.refl Z) ra .nil t))
/-! ### methods -/
structure DMeth (P : Program) (w : World) (K : PySem.W.Frag) (mg : Str → Option Value) (base : Heap) (k : Nat) (c m : String) (sp : DSp) : Prop where
  ex : ∃ (f : Addr) (fd : FuncData) (ps : List Str), Cls K (He.ga K (Str.ofString c)) ∧ Meth K (He.ga K (Str.ofString c)) (Str.ofString m) f ∧ FnOk P w K mg base (CX P w) k f fd ps (liftSp K sp) ∧ Binds K fd ps []
def eMth (w : DW) (m : String) (tb : List (String × DSp)) (to : DE) (t : DA) : DE := fun δ A Q => to δ A fun d A1 => match asObj A1 d with
  | some (c, fs) => lookS m fs = none ∧ (match lookS c tb with
    | some sp => t δ A1 fun ds A2 => sp (d :: ds) A2 Q fun k gs A3 => w k gs δ A3
    | none => False)
  | none => False
theorem lookM {c : String} {sp : DSp} : ∀ {l : List (String × DSp)}, l.lookup c = some sp → (c, sp) ∈ l
  | [], h => by cases h
  | (a, b) :: l, h => by
    rw [List.lookup_cons] at h
    split at h
    · rename_i e
      have e2 := beq_iff_eq.mp e
      subst e2; cases h; exact List.mem_cons_self
    · exact List.mem_cons_of_mem _ (lookM h)
theorem qe_mth {w : DW} {m : String} {tb : List (String × DSp)} {to : DE} {t : DA} {o e : Expr} {es : List Expr} {apos pos : Pos} {pl : Sem Bool} (F : ∀ p ∈ tb, DMeth X.prog X.w X.K X.mg X.base k p.1 m p.2) (hr : Room j X.A) (hk : k ≤ j) (tk : Takes X (liftW X.K Z0 w)) (ho : QE X Z0 o to) (ha : QA X Z0 (e :: es) t)
    (hst : starEach (e :: es) X.env = (false, eval e X.env) :: starEach es X.env := by rfl) (hpl : (backTo pos (starEach es X.env)).any (·.1) = false := by rfl)
    (ht : eval (.Call (.Attribute o (Str.ofString m) apos) (e :: es) [] pos) X.env = (do
      let ov ← eval o X.env
      standAt apos.atName
      let (f, first) ← holding [ov] (getMethod ov (Str.ofString m) pl)
      callWith pos f first (backTo pos (starEach (e :: es) X.env)) (backToKw pos (keywordEach [] X.env))) := by rfl) :
    QE X Z0 (.Call (.Attribute o (Str.ofString m) apos) (e :: es) [] pos) (eMth w m tb to t) := by
  refine ⟨fun pins s σ H Q I h => ?_⟩
  obtain ⟨Z, δ, A, Kt, z, rs, ra, h, kk⟩ := h
  refine PySem.W.methodCall_KW (pl := pl) (thn (ho.run pins s σ H (fun v H1 => ∃ Z1 d A1, Same Z Z1 ∧ RA X.K Z1 A1 H1 ∧ RV X.K Z1 d v ∧ (match asObj A1 d with
    | some (c, fs) => lookS m fs = none ∧ (match lookS c tb with
      | some sp => t δ A1 fun ds A2 => sp (d :: ds) A2 Kt fun k gs A3 => w k gs δ A3
      | none => False)
    | none => False)) I ⟨Z, δ, A, _, z, rs, ra, h, fun Z1 d A1 v H1 s1 ra1 rv t1 => ⟨Z1, d, A1, s1, ra1, rv, t1⟩⟩) fun u s1 ⟨v, H1, I1, rx, Z1, d, A1, s1', ra1, rv, t1⟩ => ?_) ht
  split at t1
  · rename_i c fs q
    obtain ⟨hl, t1⟩ := t1
    rw [lookS_eq] at hl t1
    split at t1
    · rename_i sp hsp
      obtain ⟨f, fd, ps, c1, m1, F1, b1⟩ := (F _ (lookM hsp)).ex
      obtain ⟨p, dx, us, e1, e2, e3, e4⟩ := asObj_ok ra1 rv q
      subst e1
      obtain rfl : u = Value.ref p := rx
      have hl2 : us.lookup (Str.ofString m) = none := by
        rcases look_ok (f := m) e3 e4 with ⟨_, h2⟩ | ⟨d2, _, h1, _, _⟩
        · exact h2
        · rw [hl] at h1; cases h1
      refine getmeth_ok I1 e2 c1 m1 hl2 ?_
      refine PySem.W.callWith_K (first := [.ref p]) (h₀ := X.base) I1.ok.mod.kin m1.kp (thn (ha.run pos pins s1 σ H1 (fun vs H2 => ∃ Z2 ds A2, Same Z1 Z2 ∧ RA X.K Z2 A2 H2 ∧ RVs X.K Z2 ds vs ∧ sp (d :: ds) A2 Kt fun k gs A3 => w k gs δ A3) I1
        ⟨Z1, δ, A1, _, z.trans s1', rs.mono s1', ra1, t1, fun Z2 ds A2 vs H2 s2 ra2 rvs t2 => ⟨Z2, ds, A2, s2, ra2, rvs, t2⟩⟩) fun us2 s2 ⟨vs, H2, I2, r, Z2, ds, A2, s2', ra2, rvs, t2⟩ => ⟨I2.kIn, ?_⟩) hst hpl
      have h3 : liftSp X.K sp (.ref p :: vs ++ []) H2 Q (WE (liftW X.K Z0 w) σ) := by
        rw [List.append_nil]
        exact ⟨Z2, d :: ds, A2, Kt, _, .cons (rv.mono s2') rvs, ra2, t2, Kont.mono kk (s1'.trans s2'), fun Z3 c fs A3 cv dd H3 s3 ra3 rx q => ⟨Z3, δ, A3, c, fs, ((z.trans s1').trans s2').trans s3, ((rs.mono s1').mono s2').mono s3, ra3, rx, q⟩⟩
      exact run_fnSD (us := .ref p :: us2) (vs := .ref p :: vs) (ds := []) (dvs := []) F1 (hr.mono hk) b1 .nil (passAt tk σ) I2 (.cons rfl r) h3
    · exact t1.elim
  · exact t1.elim
theorem qe_mth0 {w : DW} {m : String} {tb : List (String × DSp)} {to : DE} {o : Expr} {apos pos : Pos} {pl : Sem Bool} (F : ∀ p ∈ tb, DMeth X.prog X.w X.K X.mg X.base k p.1 m p.2) (hr : Room j X.A) (hk : k ≤ j) (tk : Takes X (liftW X.K Z0 w)) (ho : QE X Z0 o to)
    (ht : eval (.Call (.Attribute o (Str.ofString m) apos) [] [] pos) X.env = (do
      let ov ← eval o X.env
      standAt apos.atName
      let (f, first) ← holding [ov] (getMethod ov (Str.ofString m) pl)
      callWith pos f first (backTo pos (starEach [] X.env)) (backToKw pos (keywordEach [] X.env))) := by rfl) :
    QE X Z0 (.Call (.Attribute o (Str.ofString m) apos) [] [] pos) (eMth w m tb to aNil) := by
  refine ⟨fun pins s σ H Q I h => ?_⟩
  obtain ⟨Z, δ, A, Kt, z, rs, ra, h, kk⟩ := h
  refine PySem.W.methodCall_KW (pl := pl) (thn (ho.run pins s σ H (fun v H1 => ∃ Z1 d A1, Same Z Z1 ∧ RA X.K Z1 A1 H1 ∧ RV X.K Z1 d v ∧ (match asObj A1 d with
    | some (c, fs) => lookS m fs = none ∧ (match lookS c tb with
      | some sp => sp [d] A1 Kt fun k gs A3 => w k gs δ A3
      | none => False)
    | none => False)) I ⟨Z, δ, A, _, z, rs, ra, h, fun Z1 d A1 v H1 s1 ra1 rv t1 => ⟨Z1, d, A1, s1, ra1, rv, t1⟩⟩) fun u s1 ⟨v, H1, I1, rx, Z1, d, A1, s1', ra1, rv, t1⟩ => ?_) ht
  split at t1
  · rename_i c fs q
    obtain ⟨hl, t1⟩ := t1
    rw [lookS_eq] at hl t1
    split at t1
    · rename_i sp hsp
      obtain ⟨f, fd, ps, c1, m1, F1, b1⟩ := (F _ (lookM hsp)).ex
      obtain ⟨p, dx, us, e1, e2, e3, e4⟩ := asObj_ok ra1 rv q
      subst e1
      obtain rfl : u = Value.ref p := rx
      have hl2 : us.lookup (Str.ofString m) = none := by
        rcases look_ok (f := m) e3 e4 with ⟨_, h2⟩ | ⟨d2, _, h1, _, _⟩
        · exact h2
        · rw [hl] at h1; cases h1
      refine getmeth_ok I1 e2 c1 m1 hl2 ?_
      have h3 : liftSp X.K sp ([.ref p] ++ []) H1 Q (WE (liftW X.K Z0 w) σ) :=
        ⟨Z1, [d], A1, Kt, _, .cons rv .nil, ra1, t1, Kont.mono kk s1', fun Z3 c fs A3 cv dd H3 s3 ra3 rx q => ⟨Z3, δ, A3, c, fs, (z.trans s1').trans s3, (rs.mono s1').mono s3, ra3, rx, q⟩⟩
      exact PySem.W.callWith_K0 (first := [.ref p]) I1.kIn m1.kp (run_fnSD (us := [.ref p]) (vs := [.ref p]) (ds := []) (dvs := []) F1 (hr.mono hk) b1 .nil (passAt tk σ) I1 (.cons rfl .nil) h3)
    · exact t1.elim
  · exact t1.elim
end
end DL

/-! DLC: a base's __init__, isinstance of an object, lists' and texts' methods, comprehensions. -/
namespace DL
open PySem PySem.Spec PyProof.Rows L2
variable {K : PySem.W.Frag} {Z Z' Z0 : Hp} {X : Cx}
/-! ### C.m(self, ..) -/
def fxCM (c m : String) : Fx := fun K => PySem.W.readsIn K (He.ga K (Str.ofString c)) (.type "type") && (He.eqO (PySem.W.specialIn K (.ref (He.ga K (Str.ofString c))) "__getattribute__") (some (some (.builtin "type.__getattribute__"))) &&
  (match PySem.W.findCls K (.ref (He.ga K (Str.ofString c))) (.type "type") (Str.ofString m) with
    | some (.val (.ref a)) => decide (a = He.ma K (He.ga K (Str.ofString c)) (Str.ofString m)) && PySem.W.keepIn K (.ref a)
    | _ => false))
theorem fxCM_ok {c m : String} (h : fxCM c m K = true) : ClX.CRead K (He.ga K (Str.ofString c)) (.type "type") ∧
    ClX.CVal K (He.ga K (Str.ofString c)) (.type "type") (Str.ofString m) (.ref (He.ma K (He.ga K (Str.ofString c)) (Str.ofString m))) (.ref (He.ma K (He.ga K (Str.ofString c)) (Str.ofString m))) ∧
    PySem.W.keepIn K (.ref (He.ma K (He.ga K (Str.ofString c)) (Str.ofString m))) = true := by
  obtain ⟨h1, h⟩ := He.ba h
  obtain ⟨h2, h3⟩ := He.ba h
  split at h3
  · rename_i a q
    obtain ⟨h4, h5⟩ := He.ba h3
    have e := of_decide_eq_true h4
    subst e
    exact ⟨⟨h1, He.eqO_ok h2⟩, ⟨q, rfl⟩, h5⟩
  · cases h3
/-- two classes have one def m -/
def fxSame (c d m : String) : Fx := fun K => decide (He.ma K (He.ga K (Str.ofString c)) (Str.ofString m) = He.ma K (He.ga K (Str.ofString d)) (Str.ofString m))
section
variable {P : Program} {w : World} {mg : Str → Option Value} {base : Heap} {k j : Nat}
structure DCls (P : Program) (w : World) (K : PySem.W.Frag) (mg : Str → Option Value) (base : Heap) (k : Nat) (c m : String) (sp : DSp) : Prop where
  ex : ∃ (f : Addr) (fd : FuncData) (ps : List Str), ClX.CRead K (He.ga K (Str.ofString c)) (.type "type") ∧ ClX.CVal K (He.ga K (Str.ofString c)) (.type "type") (Str.ofString m) (.ref f) (.ref f) ∧ PySem.W.keepIn K (.ref f) = true ∧
    mg (Str.ofString c) = some (.ref (He.ga K (Str.ofString c))) ∧ FnOk P w K mg base (CX P w) k f fd ps (liftSp K sp) ∧ Binds K fd ps []
theorem qe_cls {w : DW} {c m : String} {sp : DSp} {t : DA} {e : Expr} {es : List Expr} {p apos pos : Pos} {pl : Sem Bool} (F : DCls X.prog X.w X.K X.mg X.base k c m sp) (hr : Room j X.A) (hk : k ≤ j) (hg : Gl X (Str.ofString c)) (tk : Takes X (liftW X.K Z0 w)) (ha : QA X Z0 (e :: es) t) (hdb : (Str.ofString c == ("__debug__" : Str)) = false)
    (hst : starEach (e :: es) X.env = (false, eval e X.env) :: starEach es X.env := by rfl) (hpl : (backTo pos (starEach es X.env)).any (·.1) = false := by rfl)
    (ht : eval (.Call (.Attribute (.Name (Str.ofString c) p) (Str.ofString m) apos) (e :: es) [] pos) X.env = (do
      let ov ← eval (.Name (Str.ofString c) p) X.env
      standAt apos.atName
      let (f, first) ← holding [ov] (getMethod ov (Str.ofString m) pl)
      callWith pos f first (backTo pos (starEach (e :: es) X.env)) (backToKw pos (keywordEach [] X.env))) := by rfl) :
    QE X Z0 (.Call (.Attribute (.Name (Str.ofString c) p) (Str.ofString m) apos) (e :: es) [] pos) (eCall w sp [] t) := by
  obtain ⟨f, fd, ps, r1, v1, kp, hm, F1, b1⟩ := F.ex
  refine PE.imp (t := tCallSD (liftSp X.K sp) [] (WE (liftW X.K Z0 w)) (liftA X.K Z0 t)) ⟨fun pins s σ H Q I h => ?_⟩ fun σ H Q h => lift_call (fun _ => .nil) h
  refine PySem.W.methodCall_KW (pl := pl) (ld_glob I hg hm ?_ hdb) ht
  refine PySem.W.method_cls I.kIn r1.ga (ClX.getcval_ok I r1 v1 fun s' I' => ?_)
  refine PySem.W.callWith_K (h₀ := X.base) I'.ok.mod.kin kp (thn (ha.run pos pins s' σ H _ I' h) fun us s1 ⟨vs, H1, I1, r, q⟩ => ⟨I1.kIn, ?_⟩) hst hpl
  exact run_fnSD F1 (hr.mono hk) b1 .nil (passAt tk σ) I1 r q
end
/-! ### isinstance of an object -/
/-- what isinstance asks of an object's class -/
def fxOb (c : String) : Fx := fun K => (He.Fa.cls (Str.ofString c)).ok K && (He.eqO (PySem.W.findIn K (.ref (He.ga K (Str.ofString c))) "__class__") (some (some (.builtin "object.__class__"))) && (He.eqO (PySem.W.specialIn K (.builtin "object.__class__") "__get__") (some (some (.builtin "getset_descriptor.__get__"))) &&
  (decide (PySem.W.takesIn K (.builtin "object.__class__") = some true) && decide (PySem.W.mroIn K (He.ga K (Str.ofString c)) (.type "object") = some true))))
theorem fxOb_ok {H : Hp} {c : String} (h : fxOb c K = true) {a dx : Addr} {fs : List (Str × V)} (e : H a = some (.ins (He.ga K (Str.ofString c)) dx fs)) : TyX K H (.ref a) (.ref (He.ga K (Str.ofString c))) := by
  obtain ⟨h1, h⟩ := He.ba h
  obtain ⟨h2, h⟩ := He.ba h
  obtain ⟨h3, h⟩ := He.ba h
  obtain ⟨h4, h5⟩ := He.ba h
  exact .base (.ins e (He.cls_ok h1) (He.eqO_ok h2) (He.eqO_ok h3) (of_decide_eq_true h4) (of_decide_eq_true h5))
def eIsiC (tb : List (String × Bool)) (t : DE) : DE := fun δ A Q => t δ A fun d A1 => match asObj A1 d with
  | some (c, _) => (match lookS c tb with
    | some b => Q (.bl b) A1
    | none => False)
  | none => False
theorem qe_isiC {D : String} {tb : List (String × Bool)} {e : Expr} {te : DE} {p p2 pos : Pos} (hob : ∀ k ∈ tb.map (·.1), fxOb k X.K = true) (hk : ∀ p ∈ tb, fxIs p.1 D p.2 X.K = true) (hg : Gl X "isinstance") (hm : X.mg "isinstance" = none) (hg2 : Gl X (Str.ofString D)) (hm2 : X.mg (Str.ofString D) = some (.ref (He.ga X.K (Str.ofString D)))) (hd2 : (Str.ofString D == ("__debug__" : Str)) = false) (he : QE X Z0 e te)
    (h1 : starEach (e :: [.Name (Str.ofString D) p2]) X.env = (false, eval e X.env) :: starEach [.Name (Str.ofString D) p2] X.env := by rfl) (h2 : (backTo pos (starEach [.Name (Str.ofString D) p2] X.env)).any (·.1) = false := by rfl)
    (h3 : starEach [.Name (Str.ofString D) p2] X.env = [(false, eval (.Name (Str.ofString D) p2) X.env)] := by rfl) : QE X Z0 (.Call (.Name "isinstance" p) [e, .Name (Str.ofString D) p2] [] pos) (eIsiC tb te) :=
  PE.imp (pe_callB call_isi hg hm (by decide +kernel) (pa_cons he (pa_cons (pe_glob (v := .ref (He.ga X.K (Str.ofString D))) hg2 hm2 rfl hd2) pa_nil h3) h1) (he := h1) (hpl := h2)) fun σ H Q ⟨Z, δ, A, Kt, z, rs, ra, t, k⟩ =>
    ⟨Z, δ, A, _, z, rs, ra, t, fun Z1 d A1 v H1 s1 ra1 rv t1 => by
      split at t1
      · rename_i c fs q
        rw [lookS_eq] at t1
        split at t1
        · rename_i b hb
          have hmem := look_mem hb
          obtain ⟨p, dx, us, e1, e2, e3, e4⟩ := asObj_ok ra1 rv q
          refine ⟨v, .ref (He.ga X.K (Str.ofString D)), _, _, b, rfl, .own _, ?_, of_decide_eq_true (hk _ hmem), k Z1 _ A1 _ H1 s1 ra1 mk_bl t1⟩
          rw [e1]
          exact fxOb_ok (hob c (List.mem_map.mpr ⟨_, hmem, rfl⟩)) e2
        · exact t1.elim
      · exact t1.elim⟩
/-! ### built-in methods -/
abbrev DMt := D → List D → AH → DK → Prop
def LiftMt (K : PySem.W.Frag) (T : String) (rd : DMt) (r : V → List V → Hp → VK → Prop) : Prop := ∀ (Z : Hp) (A : AH) (H : Hp) (d : D) (v : V) (ds : List D) (vs : List V) (Kt : DK) (Q : VK), RA K Z A H → RV K Z d v → RVs K Z ds vs → rd d ds A Kt → Kont K Z Kt Q → r v vs H Q
def tyM (A : AH) (d : D) (T : String) : Prop := match d with
  | .str _ => T = "str"
  | .ref a => (match A a with
    | some (.lst _) => T = "list"
    | some (.dic _) => T = "dict"
    | _ => False)
  | .lst _ => T = "list"
  | .rol _ => T = "list"
  | .dic _ _ => T = "dict"
  | _ => False
theorem tyM_ok {A : AH} {H : Hp} {d : D} {v : V} {T : String} (R : RA K Z A H) (r : RV K Z d v) (h : tyM A d T) : tyV K T v H := by
  cases d with
  | str x => rw [rv_str r]; exact h
  | ref a =>
    rw [rv_ref r]
    have h' : (match A a with | some (.lst _) => T = "list" | some (.dic _) => T = "dict" | _ => False) := h
    split at h'
    · rename_i q; subst h'; obtain ⟨vs, e, _⟩ := (R.at_ a _ q).2; exact .inl ⟨rfl, _, SqL.of e⟩
    · rename_i q; subst h'; obtain ⟨vs, e, _⟩ := (R.at_ a _ q).2; exact .inr (.inr (.inl ⟨rfl, .inl ⟨_, e⟩⟩))
    · exact h'.elim
  | lst l =>
    have h' : T = "list" := h
    subst h'
    obtain ⟨p, vs, e, e2, _⟩ := rv_lst r; rw [e]; exact .inl ⟨rfl, _, SqL.of (R.sub _ _ e2)⟩
  | rol l =>
    have h' : T = "list" := h
    subst h'
    obtain ⟨p, vs, e, e2, _⟩ := rv_rol r; rw [e]; exact .inl ⟨rfl, _, sqL_mono R.sub e2⟩
  | dic ks l =>
    have h' : T = "dict" := h
    subst h'
    obtain ⟨p, vs, e, e2, _⟩ := rv_dic r; rw [e]; exact .inr (.inr (.inl ⟨rfl, .inl ⟨_, R.sub _ _ e2⟩⟩))
  | _ => exact h.elim
def eMt (T : String) (rd : DMt) (to : DE) (t : DA) : DE := fun δ A Q => to δ A fun d A1 => tyM A1 d T ∧ t δ A1 fun ds A2 => rd d ds A2 Q
section
variable {o e : Expr} {es : List Expr} {to : DE} {t : DA} {name : Str} {apos cpos : Pos} {T id : String} {r : V → List V → Hp → VK → Prop} {rd : DMt}
theorem qe_bm (l : LiftMt X.K T rd r) (pa : PlainAttrs T) (slot : Slot T name id) (hty : typeOf (.builtin id) = pure (.type "method_descriptor")) (hm : MtR X id r) (ho : QE X Z0 o to) (ha : QA X Z0 (e :: es) t)
    (hbase : attributeBase o name X.env (eval o X.env) = eval o X.env := by rfl)
    (hfew : ((backTo cpos (starEach (e :: es) X.env)).all (fun x => !x.1) && (backToKw cpos (keywordEach [] X.env)).all (fun x => x.1.isSome)
      && decide ((e :: es).length + ([] : List Keyword).length + (if ([] : List Keyword).isEmpty then 0 else 1) < 30)) = true := by rfl)
    (hline : (apos.endLine == cpos.line) = true := by rfl) (hs : starEach (e :: es) X.env = (false, eval e X.env) :: starEach es X.env := by rfl) (hplain : (backTo cpos (starEach es X.env)).any (·.1) = false := by rfl) :
    QE X Z0 (.Call (.Attribute o name apos) (e :: es) [] cpos) (eMt T rd to t) := PE.imp (pe_bm pa slot hty hm ho ha hbase hfew hline hs hplain) fun σ H Q ⟨Z, δ, A, Kt, z, rs, ra, t, k⟩ =>
  ⟨Z, δ, A, _, z, rs, ra, t, fun Z1 d A1 v H1 s1 ra1 rv t1 => ⟨tyM_ok ra1 rv t1.1, Z1, δ, A1, _, z.trans s1, rs.mono s1, ra1, t1.2, fun Z2 ds A2 vs H2 s2 ra2 rvs t2 =>
    l Z2 A2 H2 d v ds vs Kt Q ra2 (rv.mono s2) rvs t2 (Kont.mono k (s1.trans s2))⟩⟩
theorem qe_bm0 (l : LiftMt X.K T rd r) (pa : PlainAttrs T) (slot : Slot T name id) (hty : typeOf (.builtin id) = pure (.type "method_descriptor")) (hm : MtR X id r) (ho : QE X Z0 o to)
    (hbase : attributeBase o name X.env (eval o X.env) = eval o X.env := by rfl) (hline : (apos.endLine == cpos.line) = true := by rfl) : QE X Z0 (.Call (.Attribute o name apos) [] [] cpos) (eMt T rd to aNil) := PE.imp (pe_bm0 pa slot hty hm ho hbase hline) fun σ H Q ⟨Z, δ, A, Kt, z, rs, ra, t, k⟩ =>
  ⟨Z, δ, A, _, z, rs, ra, t, fun Z1 d A1 v H1 s1 ra1 rv t1 => ⟨tyM_ok ra1 rv t1.1, l Z1 A1 H1 d v [] [] Kt Q ra1 rv .nil t1.2 (Kont.mono k s1)⟩⟩
end
/-- a method that changes a list: what it takes, what it tells, what stands then -/
def mLst (f : List D → List D → Option (D × List D)) (ok : List D → List D → Prop) : DMt := fun d ds A Q => match d with
  | .ref a => (match A a with
    | some (.lst l) => ok l ds ∧ (match f l ds with
      | some (x, l') => Q x (A.put a (.lst l'))
      | none => False)
    | _ => False)
  | _ => False
theorem lst_write {A : AH} {H : Hp} {a : Addr} {l l' : List D} {vs' : List V} (R : RA K Z A H) (h : A a = some (.lst l)) (r : RVs K Z l' vs') : RA K Z (A.put a (.lst l')) (upd H a (.lst vs')) :=
  R.write (u := .lst l') h ⟨vs', upd_same .., r⟩
def mApp : DMt := fun d ds A Q => match d, ds with
  | .ref a, [y] => (match A a with
    | some (.lst l) => Few l.length ∧ Q .non (A.put a (.lst (l ++ [y])))
    | _ => False)
  | _, _ => False
theorem lift_app : LiftMt K "list" mApp rAppend := fun Z A H d v ds vs Kt Q R r rs h k => by
  unfold mApp at h
  split at h
  · rename_i a y
    split at h
    · rename_i l q
      obtain ⟨u, rfl, ru⟩ := rs.one
      obtain ⟨us, e1, e2⟩ := (R.at_ a _ q).2
      exact ⟨a, us, u, rv_ref r, rfl, e1, by rw [e2.len]; exact Nat.lt_of_lt_of_le h.1 big_line, k Z _ _ _ _ (Same.refl Z) (lst_write R q (e2.append (.cons ru .nil))) mk_non h.2⟩
    · exact h.elim
  · exact h.elim
def mRev : DMt := fun d ds A Q => match d, ds with
  | .ref a, [] => (match A a with
    | some (.lst l) => Q .non (A.put a (.lst l.reverse))
    | _ => False)
  | _, _ => False
theorem lift_rev : LiftMt K "list" mRev rReverse := fun Z A H d v ds vs Kt Q R r rs h k => by
  unfold mRev at h
  split at h
  · rename_i a
    split at h
    · rename_i l q
      have := rs.inv0
      subst this
      obtain ⟨us, e1, e2⟩ := (R.at_ a _ q).2
      exact ⟨a, us, rv_ref r, rfl, e1, k Z _ _ _ _ (Same.refl Z) (lst_write R q e2.reverse) mk_non h⟩
    · exact h.elim
  · exact h.elim
def mClr : DMt := fun d ds A Q => match d, ds with
  | .ref a, [] => (match A a with
    | some (.lst l) => Q .non (A.put a (.lst []))
    | _ => False)
  | _, _ => False
theorem lift_clr : LiftMt K "list" mClr rClear := fun Z A H d v ds vs Kt Q R r rs h k => by
  unfold mClr at h
  split at h
  · rename_i a
    split at h
    · rename_i l q
      have := rs.inv0
      subst this
      obtain ⟨us, e1, e2⟩ := (R.at_ a _ q).2
      exact ⟨a, us, rv_ref r, rfl, e1, k Z _ _ _ _ (Same.refl Z) (lst_write R q .nil) mk_non h⟩
    · exact h.elim
  · exact h.elim
def mPop : DMt := fun d ds A Q => match d, ds with
  | .ref a, [] => (match A a with
    | some (.lst l) => (match l[l.length - 1]? with
      | some y => Q y (A.put a (.lst l.dropLast))
      | none => False)
    | _ => False)
  | _, _ => False
theorem rvs_dropLast {l : List D} {vs : List V} (r : RVs K Z l vs) : RVs K Z l.dropLast vs.dropLast := by
  rw [List.dropLast_eq_take, List.dropLast_eq_take, r.len]
  exact r.take _
theorem lift_pop : LiftMt K "list" mPop rPop := fun Z A H d v ds vs Kt Q R r rs h k => by
  unfold mPop at h
  split at h
  · rename_i a
    split at h
    · rename_i l q
      split at h
      · rename_i y hy
        have := rs.inv0
        subst this
        obtain ⟨us, e1, e2⟩ := (R.at_ a _ q).2
        have hlt : us.length - 1 < us.length := by
          rw [e2.len]
          have := (List.getElem?_eq_some_iff.mp hy).1
          exact this
        obtain ⟨d2, h1, h2⟩ := e2.get (List.getElem?_eq_getElem hlt)
        rw [e2.len, hy] at h1
        cases h1
        exact ⟨a, us, _, rv_ref r, rfl, e1, List.getElem?_eq_getElem hlt, k Z _ _ _ _ (Same.refl Z) (lst_write R q (rvs_dropLast e2)) h2 h⟩
      · exact h.elim
    · exact h.elim
  · exact h.elim
def mIns : DMt := fun d ds A Q => match d, ds with
  | .ref a, [.int i, y] => (match A a with
    | some (.lst l) => (Few l.length ∧ 0 ≤ i ∧ i < 2 ^ 63) ∧ Q .non (A.put a (.lst (l.take i.toNat ++ [y] ++ l.drop i.toNat)))
    | _ => False)
  | _, _ => False
abbrev rIns : V → List V → Hp → VK → Prop := fun x vs H Q => ∃ (l : Addr) (xs : List V) (i : Int) (y : V), x = .ref l ∧ vs = [.int i, y] ∧ H l = some (.lst xs) ∧ xs.length < sizeLine ∧ 0 ≤ i ∧ i < 2 ^ 63 ∧
    Q .non (upd H l (.lst (xs.take i.toNat ++ [y] ++ xs.drop i.toNat)))
theorem lift_ins : LiftMt K "list" mIns rIns := fun Z A H d v ds vs Kt Q R r rs h k => by
  unfold mIns at h
  split at h
  · rename_i a i y
    split at h
    · rename_i l q
      obtain ⟨u1, u2, rfl, r1, r2⟩ := rs.two
      obtain ⟨us, e1, e2⟩ := (R.at_ a _ q).2
      obtain ⟨⟨h1, h2, h3⟩, h⟩ := h
      exact ⟨a, us, i, u2, rv_ref r, by rw [rv_int r1], e1, by rw [e2.len]; exact Nat.lt_of_lt_of_le h1 big_line, h2, h3,
        k Z _ _ _ _ (Same.refl Z) (lst_write R q (((e2.take _).append (.cons r2 .nil)).append (e2.drop _))) mk_non h⟩
    · exact h.elim
  · exact h.elim
/-- ''.join(list of texts) -/
def strsD : List D → Option (List Str)
  | [] => some []
  | .str x :: l => (strsD l).map (x :: ·)
  | _ => none
theorem strs_rvs : ∀ {l : List D} {vs : List V} {ys : List Str}, RVs K Z l vs → strsD l = some ys → vs = ys.map V.str
  | [], vs, ys, r, h => by cases h; rw [r.inv0]; rfl
  | d :: l, vs, ys, r, h => by
    obtain ⟨v, u, rfl, r1, r2⟩ := r.inv
    cases d with
    | str x =>
      simp only [strsD, Option.map_eq_some_iff] at h
      obtain ⟨zs, h1, h2⟩ := h
      subst h2
      rw [rv_str r1, strs_rvs r2 h1]; rfl
    | _ => cases h
def mJoin : DMt := fun d ds A Q => match d, ds with
  | .str x, [y] => (match (asS A y).bind strsD with
    | some ys => (ys.map (·.length)).sum + ys.length * x.length ≤ 1000000 ∧ Q (.str (Txt.join x ys)) A
    | none => False)
  | _, _ => False
abbrev rJoin (K : PySem.W.Frag) : V → List V → Hp → VK → Prop := fun x xs H Q => ∃ a p, ∃ ys : List Str, x = .str a ∧ xs = [.ref p] ∧ (SqL K H p (ys.map V.str) ∨ SqT K H p (ys.map V.str)) ∧ (ys.map (·.length)).sum + ys.length * a.length ≤ 16777216 ∧ Q (.str (Txt.join a ys)) H
theorem lift_join : LiftMt K "str" mJoin (rJoin K) := fun Z A H d v ds vs Kt Q R r rs h k => by
  unfold mJoin at h
  split at h
  · rename_i x y
    split at h
    · rename_i ys q
      obtain ⟨u, rfl, ru⟩ := rs.one
      obtain ⟨l, h1, h2⟩ := Option.bind_eq_some_iff.mp q
      obtain ⟨p, us, e1, e2, e3⟩ := asS_ok R ru h1
      have := strs_rvs e3 h2
      subst this
      exact ⟨x, p, ys, rv_str r, by rw [e1], e2, by omega, k Z _ _ _ _ (Same.refl Z) R mk_str h.2⟩
    · exact h.elim
  · exact h.elim
end DL

/-! DLD: comprehensions. -/
namespace DL
open PySem PySem.Spec PyProof.Rows L2
variable {K : PySem.W.Frag} {Z Z' Z0 : Hp} {X : Cx}
def wipeD (δ : DSt) : List Nat → DSt
  | [] => δ
  | v :: vs => (wipeD δ vs).set v none
theorem wipe_rs {δ : DSt} {σ : L2.St} (r : RS K Z δ σ) : ∀ vs : List Nat, RS K Z (wipeD δ vs) (wipe σ vs)
  | [] => r
  | v :: vs => (wipe_rs r vs).set v (a := none) (b := none) trivial
theorem wipe_get (σ : L2.St) (j : Nat) : ∀ vs : List Nat, (wipe σ vs)[j]? = if j ∈ vs then (σ[j]?).map (fun _ => none) else σ[j]?
  | [] => by simp [wipe]
  | v :: vs => by
    unfold wipe
    rw [List.getElem?_set, wipe_length, wipe_get σ j vs]
    by_cases h : v = j
    · subst h
      rw [if_pos rfl]
      simp only [List.mem_cons, true_or, if_true]
      by_cases hl : v < σ.length
      · rw [if_pos hl, List.getElem?_eq_getElem hl]; rfl
      · rw [if_neg hl, List.getElem?_eq_none (by omega)]; rfl
    · rw [if_neg h]
      have e : (j ∈ v :: vs) ↔ j ∈ vs := ⟨fun q => (List.mem_cons.mp q).elim (fun e => absurd e.symm h) id, fun q => List.mem_cons_of_mem _ q⟩
      by_cases hj : j ∈ vs
      · rw [if_pos hj, if_pos (e.mpr hj)]
      · rw [if_neg hj, if_neg fun q => hj (e.mp q)]
theorem wipe_set {σ : L2.St} {i : Nat} {x : Option V} {vs : List Nat} (h : i ∈ vs) : wipe (σ.set i x) vs = wipe σ vs := by
  apply List.ext_getElem?
  intro j
  rw [wipe_get, wipe_get, List.getElem?_set]
  by_cases hj : i = j
  · subst hj
    rw [if_pos h, if_pos h, if_pos rfl]
    by_cases hl : i < σ.length
    · rw [if_pos hl, List.getElem?_eq_getElem hl]; try rfl
    · rw [if_neg hl, List.getElem?_eq_none (by omega)]; try rfl
  · rw [if_neg hj]
theorem wipe_wipe (σ : L2.St) (vs : List Nat) : wipe (wipe σ vs) vs = wipe σ vs := by
  apply List.ext_getElem?
  intro j
  rw [wipe_get, wipe_get]
  by_cases hj : j ∈ vs
  · rw [if_pos hj, if_pos hj, Option.map_map]; rfl
  · rw [if_neg hj, if_neg hj]
/-! ### targets that touch no other slot -/
def liftGw (K : PySem.W.Frag) (Z0 : Hp) (vs : List Nat) (g : DG) : TG := fun v σ H Q => ∃ Z d δ A Kt, Same Z0 Z ∧ RV K Z d v ∧ RS K Z δ σ ∧ RA K Z A H ∧ g d δ A Kt ∧
  ∀ Z' δ' A' σ' H', Same Z Z' → RS K Z' δ' σ' → RA K Z' A' H' → wipe σ' vs = wipe σ vs → Kt δ' A' → Q σ' H'
def liftGws (K : PySem.W.Frag) (Z0 : Hp) (vs : List Nat) (g : DGs) : TGs := fun xs σ H Q => ∃ Z ds δ A Kt, Same Z0 Z ∧ RVs K Z ds xs ∧ RS K Z δ σ ∧ RA K Z A H ∧ g ds δ A Kt ∧
  ∀ Z' δ' A' σ' H', Same Z Z' → RS K Z' δ' σ' → RA K Z' A' H' → wipe σ' vs = wipe σ vs → Kt δ' A' → Q σ' H'
abbrev QGw (X : Cx) (Z0 : Hp) (vs : List Nat) (e : Expr) (g : DG) : Prop := PG X e (liftGw X.K Z0 vs g)
abbrev QGws (X : Cx) (Z0 : Hp) (vs : List Nat) (e : List Expr) (g : DGs) : Prop := PGs X e (liftGws X.K Z0 vs g)
section
variable {e : Expr} {es : List Expr} {g : DG} {gs : DGs} {pos : Pos} {k : Nat} {vs : List Nat}
theorem qgw_name {i : Nat} {x : Str} (hv : i ∈ vs) (hN : X.N.Nodup) (hi : X.N[i]? = some x) (hx : Loc X.env.scope x) (hf : X.fn x = true ∨ X.env.scope.names.lookup x = some .local := by first | exact .inl rfl | exact .inr rfl | assumption) : QGw X Z0 vs (.Name x pos) (dgName i) :=
  PG.imp (pg_name hN hi hx hf) fun v σ H Q ⟨Z, d, δ, A, Kt, z, rv, rs, ra, t, k⟩ => k Z _ A _ H (Same.refl Z) (rs.set i (a := some d) (b := some v) rv) ra (wipe_set hv) t
theorem qgws_nil : QGws X Z0 vs [] dgNil := PGs.imp pgs_nil fun xs σ H Q ⟨Z, ds, δ, A, Kt, z, rv, rs, ra, t, k⟩ => by
  unfold dgNil at t
  split at t
  · exact ⟨rv.inv0, k Z δ A σ H (Same.refl Z) rs ra rfl t⟩
  · exact t.elim
theorem qgws_cons (h1 : QGw X Z0 vs e g) (h2 : QGws X Z0 vs es gs) (hs : (assignEach (e :: es) X.env).map (·.2) = assign e X.env :: (assignEach es X.env).map (·.2) := by rfl) : QGws X Z0 vs (e :: es) (dgCons g gs) :=
  PGs.imp (pgs_cons h1 h2 hs) fun xs σ H Q ⟨Z, ds, δ, A, Kt, z, rv, rs, ra, t, k⟩ => by
  unfold dgCons at t
  split at t
  · obtain ⟨v, r, e1, r1, r2⟩ := rv.inv
    exact ⟨v, r, e1, Z, _, δ, A, _, z, r1, rs, ra, t, fun Z1 δ1 A1 σ1 H1 s1 rs1 ra1 w1 t1 => ⟨Z1, _, δ1, A1, Kt, z.trans s1, r2.mono s1, rs1, ra1, t1, fun Z2 δ2 A2 σ2 H2 s2 rs2 ra2 w2 => k Z2 δ2 A2 σ2 H2 (s1.trans s2) rs2 ra2 (w2.trans w1)⟩⟩
  · exact t.elim
theorem qgw_tup {n : Nat} (hc : X.calm = true) (h : QGws X Z0 vs es gs) (hn : (assignEach es X.env).length = n := by rfl) (hst : (assignEach es X.env).findIdx? (·.1) = none := by rfl) : QGw X Z0 vs (.Tuple es k pos) (dgTup n gs) :=
  PG.imp (PG.or (pg_tup hc h hn hst) (pg_lst hc h hn hst)) fun v σ H Q ⟨Z, d, δ, A, Kt, z, rv, rs, ra, t, k⟩ => by
  unfold dgTup at t
  split at t
  · rename_i l q
    obtain ⟨p, us, e1, e2, e3⟩ := asS_ok ra rv q
    have hl : us.length = n := by rw [e3.len]; exact t.1
    have fin : liftGws X.K Z0 vs gs us σ H Q := ⟨Z, l, δ, A, Kt, z, e3, rs, ra, t.2, k⟩
    rcases e2 with e2 | e2
    · exact .inr ⟨p, us, e1, e2, hl, fin⟩
    · exact .inl ⟨p, us, e1, e2, hl, fin⟩
  · exact t.elim
end
/-! ### tests of a comprehension -/
abbrev QTs (X : Cx) (Z0 : Hp) (es : List Expr) (t : DT) : Prop := PTs X es (liftT X.K Z0 t)
def bYes : DT := fun _ A Q => Q true A
theorem PTs.imp {e : List Expr} {t u : TT} (h : PTs X e t) (i : ∀ σ H Q, u σ H Q → t σ H Q) : PTs X e u := ⟨fun pins s σ H Q I q => h.run pins s σ H Q I (i σ H Q q)⟩
theorem qts_nil : QTs X Z0 [] bYes := PTs.imp pts_nil fun σ H Q ⟨Z, δ, A, Kt, z, rs, ra, t, k⟩ => k Z true A H (Same.refl Z) ra t
theorem qts_one {c : Expr} {t : DT} (h : QT X Z0 c t) : QTs X Z0 [c] t := pts_one h
/-! ### the list that grows -/
abbrev DFin := Addr → DK → AH → Prop
def finO : DFin := fun p Q A => (∃ l, A p = some (.lst l)) ∧ Q (.ref p) A
def finF : DFin := fun p Q A => match A p with
  | some (.lst l) => Q (.lst l) (A.del p)
  | _ => False
structure FinOk (K : PySem.W.Frag) (f : DFin) : Prop where
  ok : ∀ {Z : Hp} {A : AH} {H : Hp} {p : Addr} {Kt : DK} {Q : VK}, RA K Z A H → f p Kt A → Kont K Z Kt Q → Q (.ref p) H
theorem finO_ok : FinOk K finO := ⟨fun R h k => k _ (.ref _) _ _ _ (Same.refl _) R mk_ref h.2⟩
theorem finF_ok : FinOk K finF := ⟨fun R h k => by
  unfold finF at h
  split at h
  · rename_i l q
    obtain ⟨Z2, s2, r2, q2⟩ := fz_ok R q
    exact k Z2 _ _ _ _ s2 r2 q2 h
  · exact h.elim⟩
def compD (p : Addr) (gd : AH → Prop) (g : DG) (tt : DT) (te : DE) (vs : List Nat) (fin : AH → Prop) (δ : DSt) : List D → AH → Prop
  | [], A => gd A ∧ fin A
  | x :: l, A => gd A ∧ g x (wipeD δ vs) A fun δ2 A2 => tt δ2 A2 fun b A3 => (b = true → te δ2 A3 fun y A4 => ∃ acc, A4 p = some (.lst acc) ∧ Few acc.length ∧ compD p gd g tt te vs fin δ l (A4.put p (.lst (acc ++ [y])))) ∧
      (b = false → compD p gd g tt te vs fin δ l A3)
def eLc (fin : DFin) (it : DI) (g : DG) (tt : DT) (te : DE) (vs : List Nat) : DE := fun δ A Q => it δ A fun l gd A1 => ∀ p, A1 p = none → compD p gd g tt te vs (fin p Q) δ l (A1.put p (.lst []))
theorem lift_lc {fin : DFin} {it : DI} {g : DG} {tt : DT} {te : DE} {vs : List Nat} (fo : FinOk K fin) {σ : L2.St} {H : Hp} {Q : VK} (h : liftE K Z0 (eLc fin it g tt te vs) σ H Q) :
    tLc (liftI K Z0 it) (liftGw K Z0 vs g) (liftT K Z0 tt) (liftE K Z0 te) vs σ H Q := by
  obtain ⟨Z, δ, A, Kt, z, rs, ra, t, k⟩ := h
  refine ⟨Z, δ, A, _, z, rs, ra, t, fun Z1 l gd A1 J H1 s1 ra1 w t1 D hD => ?_⟩
  obtain ⟨G, Y, wk, hG, hY⟩ := w.ex
  have t2 := t1 D (ra1.fresh hD).1
  have r2 : RA K Z1 (A1.put D (.lst [])) (upd H1 D (.lst [])) := ra1.newO (o := .lst []) (u := .lst []) hD ⟨[], upd_same .., .nil⟩
  refine ⟨fun i m H => m = l.length - i ∧ i ≤ l.length ∧ ∃ Z2 A2, Same Z1 Z2 ∧ RA K Z2 A2 H ∧ compD D gd g tt te vs (fin D Kt) δ (l.drop i) A2, ⟨l.length, by omega, by omega, Z1, _, Same.refl Z1, r2, t2⟩, fun i m H ⟨em, hi, Z2, A2, s2, ra2, t2⟩ => ?_⟩
  by_cases hlt : i < l.length
  · have ed : l.drop i = l[i] :: l.drop (i + 1) := List.drop_eq_getElem_cons hlt
    rw [ed] at t2
    obtain ⟨tg2, t2⟩ := t2
    refine .inr ⟨wk.goes i H hlt (hG Z2 A2 H s2 ra2 tg2), fun H' => ∃ Z2 A2, Same Z1 Z2 ∧ RA K Z2 A2 H' ∧ compD D gd g tt te vs (fin D Kt) δ (l.drop (i + 1)) A2, fun H' q => ⟨l.length - (i + 1), by omega, rfl, hlt, q⟩, fun x H' hy => ?_⟩
    obtain ⟨Z3, d, s3, ra3, hd, rv⟩ := hY i Z2 A2 H x H' hlt s2 ra2 tg2 (wk.yields i H x H' hlt (hG Z2 A2 H s2 ra2 tg2) hy)
    have ed2 : l[i] = d := by rw [List.getElem?_eq_getElem hlt] at hd; exact Option.some.inj hd
    rw [ed2] at t2
    have s13 := s2.trans s3
    refine ⟨Z3, d, wipeD δ vs, A2, _, (z.trans s1).trans s13, rv, wipe_rs ((rs.mono s1).mono s13) vs, ra3, t2, fun Z4 δ4 A4 σ4 H4 s4 rs4 ra4 w4 t4 => ⟨by rw [w4, wipe_wipe], Z4, δ4, A4, _, ((z.trans s1).trans s13).trans s4, rs4, ra4, t4, fun Z5 b A5 H5 s5 ra5 t5 => ?_⟩⟩
    cases b with
    | true =>
      refine iteT ⟨Z5, δ4, A5, _, (((z.trans s1).trans s13).trans s4).trans s5, rs4.mono s5, ra5, t5.1 rfl, fun Z6 y A6 v6 H6 s6 ra6 rv6 ⟨acc, q1, q2, q3⟩ => ?_⟩
      obtain ⟨us, e1, e2⟩ := (ra6.at_ D _ q1).2
      exact ⟨us, e1, by rw [e2.len]; exact Nat.lt_of_lt_of_le q2 big_line, Z6, _, ((s13.trans s4).trans s5).trans s6, lst_write ra6 q1 (e2.append (.cons rv6 .nil)), q3⟩
    | false => exact iteF ⟨Z5, A5, (s13.trans s4).trans s5, ra5, t5.2 rfl⟩
  · have ei : i = l.length := by omega
    subst ei
    rw [List.drop_length] at t2
    exact .inl ⟨wk.stops H (hG Z2 A2 H s2 ra2 t2.1), fo.ok ra2 t2.2 (Kont.mono k (s1.trans s2))⟩
section
variable {elt tg iter : Expr} {ifs : List Expr} {scope : Scope} {own : List (Str × Nat)} {pos spos : Pos} {fin : DFin} {it : DI} {g : DG} {tt : DT} {te : DE}
theorem qe_lc (fo : FinOk X.K fin) (hc : X.calm = true) (hN : X.N.Nodup) (hi : QI X Z0 tg iter it) (ok : BlkOk X.N X.env.scope scope own)
    (hg : ∀ (s : Shared) (H : Hp) (C : Addr) (cl : List (Str × Addr)) (fp : List Addr), QGw (X.blk s H scope (compEnvC scope cl C X.env) fp) Z0 (own.map (·.2)) tg g) (ht : ∀ (s : Shared) (H : Hp) (C : Addr) (cl : List (Str × Addr)) (fp : List Addr), QTs (X.blk s H scope (compEnvC scope cl C X.env) fp) Z0 ifs tt)
    (he : ∀ (s : Shared) (H : Hp) (C : Addr) (cl : List (Str × Addr)) (fp : List Addr), QE (X.blk s H scope (compEnvC scope cl C X.env) fp) Z0 elt te) (hs : ∀ x, foldedSetIterable iter X.env x = pure x := by intro _; rfl) :
    QE X Z0 (.ListComp elt [⟨tg, iter, ifs, 0⟩] scope pos) (eLc fin it g tt te (own.map (·.2))) := PE.imp (pe_lc hc hN hi ok hg ht he hs) fun σ H Q h => lift_lc fo h
theorem qs_setLc {i : Nat} {y : Str} {py : Pos} (fo : FinOk X.K fin) (hc : X.calm = true) (hN : X.N.Nodup) (hy : X.N[i]? = some y) (hyl : X.env.scope.names.lookup y = some .local)
    (hsw : swapsWith (.ListComp elt [⟨tg, iter, ifs, 0⟩] scope pos) (some (.Name y py)) spos.line X.env = pure true) (hi : QI X Z0 tg iter it) (ok : BlkOk X.N X.env.scope scope own)
    (hg : ∀ (s : Shared) (H : Hp) (C : Addr) (cl : List (Str × Addr)) (fp : List Addr), QGw (X.blk s H scope (compEnvC scope cl C X.env) fp) Z0 (own.map (·.2)) tg g) (ht : ∀ (s : Shared) (H : Hp) (C : Addr) (cl : List (Str × Addr)) (fp : List Addr), QTs (X.blk s H scope (compEnvC scope cl C X.env) fp) Z0 ifs tt)
    (he : ∀ (s : Shared) (H : Hp) (C : Addr) (cl : List (Str × Addr)) (fp : List Addr), QE (X.blk s H scope (compEnvC scope cl C X.env) fp) Z0 elt te) (hs : ∀ x, foldedSetIterable iter X.env x = pure x := by intro _; rfl) :
    QS X Z0 (.Assign [.Name y py] (.ListComp elt [⟨tg, iter, ifs, 0⟩] scope pos) spos) (sAsg (eLc fin it g tt te (own.map (·.2))) (dgName i)) := by
  refine PS.imp (ps_setLc (i := i) (g := liftGw X.K Z0 (own.map (·.2)) g) (tt := liftT X.K Z0 tt) (te := liftE X.K Z0 te) hc hN hy hyl hsw hi ok hg ht he hs) fun D σ H ⟨Z, δ, A, DD, z, rs, ra, t, re⟩ => ?_
  refine lift_lc fo ⟨Z, δ, A, _, z, rs, ra, t, fun Z1 d A1 v H1 s1 ra1 rv t1 => ?_⟩
  exact re.nx Z1 _ A1 _ H1 s1 ((rs.mono s1).set i (a := some d) (b := some v) rv) ra1 t1
end
end DL

/-! DLE: x[i] = v, dicts; running the readings of objects, lists, comprehensions. -/
namespace DL
open PySem PySem.Spec PyProof.Rows L2
variable {K : PySem.W.Frag} {Z Z' Z0 : Hp} {X : Cx}
def putKD (kvs : List (Key × D)) (k : Key) (d : D) : List (Key × D) := if (kvs.any fun kv => decide (kv.1 = k)) = true then kvs.map (fun kv => if kv.1 = k then (kv.1, d) else kv) else kvs ++ [(k, d)]
theorem any_keys {k : Key} : ∀ {kvs : List (Key × D)} {us : List (Key × V)}, us.map (·.1) = kvs.map (·.1) → (us.any fun kv => decide (kv.1 = k)) = kvs.any fun kv => decide (kv.1 = k)
  | [], us, e => by have : us = [] := by simpa using e
                    subst this; rfl
  | a :: kvs, [], e => by simp at e
  | a :: kvs, b :: us, e => by
    simp only [List.map_cons, List.cons.injEq] at e
    rw [List.any_cons, List.any_cons, e.1, any_keys e.2]
theorem map_put {k : Key} {d : D} {v : V} (r : RV K Z d v) : ∀ {kvs : List (Key × D)} {us : List (Key × V)}, us.map (·.1) = kvs.map (·.1) → RVs K Z (kvs.map (·.2)) (us.map (·.2)) →
    (us.map (fun kv => if kv.1 = k then (kv.1, v) else kv)).map (·.1) = (kvs.map (fun kv => if kv.1 = k then (kv.1, d) else kv)).map (·.1) ∧
    RVs K Z ((kvs.map (fun kv => if kv.1 = k then (kv.1, d) else kv)).map (·.2)) ((us.map (fun kv => if kv.1 = k then (kv.1, v) else kv)).map (·.2))
  | [], us, e, _ => by
    have : us = [] := by simpa using e
    subst this; exact ⟨rfl, .nil⟩
  | a :: kvs, [], e, _ => by simp at e
  | (k1, x) :: kvs, (k2, y) :: us, e, q => by
    simp only [List.map_cons, List.cons.injEq] at e
    obtain ⟨e1, e2⟩ := e
    obtain ⟨v2, u2, e3, r1, r2⟩ := q.inv
    simp only [List.map_cons, List.cons.injEq] at e3
    obtain ⟨e4, e5⟩ := e3
    subst e4
    rw [← e5] at r2
    obtain ⟨i1, i2⟩ := map_put r e2 r2
    have e1' : k2 = k1 := e1
    subst e1'
    by_cases hk : k2 = k
    · simp only [List.map_cons, hk, if_true]
      exact ⟨by rw [i1], .cons r i2⟩
    · simp only [List.map_cons, hk, if_false]
      exact ⟨by rw [i1], .cons r1 i2⟩
theorem putK_ok {k : Key} {d : D} {v : V} (r : RV K Z d v) {kvs : List (Key × D)} {us : List (Key × V)} (e : us.map (·.1) = kvs.map (·.1)) (q : RVs K Z (kvs.map (·.2)) (us.map (·.2))) :
    (putK us k v).map (·.1) = (putKD kvs k d).map (·.1) ∧ RVs K Z ((putKD kvs k d).map (·.2)) ((putK us k v).map (·.2)) := by
  unfold putK putKD
  rw [any_keys e]
  split
  · exact map_put r e q
  · rw [List.map_append, List.map_append, List.map_append, List.map_append, e]
    exact ⟨rfl, q.append (.cons r .nil)⟩
def setD (x i d : D) (A : AH) (Q : AH → Prop) : Prop := match x with
  | .ref a => (match A a with
    | some (.lst l) => (match i with
      | .int k => (match ixN l.length k with
        | some j => Q (A.put a (.lst (l.set j d)))
        | none => False)
      | _ => False)
    | some (.dic kvs) => (match asKey i with
      | some k => Few kvs.length ∧ Q (A.put a (.dic (putKD kvs k d)))
      | none => False)
    | _ => False)
  | _ => False
def rSetAny : V → V → V → Hp → (Hp → Prop) → Prop := fun o i v H Q => rSetL o i v H Q ∨ ∃ a H4, o = .ref a ∧ DPut H a i v H4 ∧ Q H4
theorem set_any (hu : X.A.units + 1 < cLine) : PSet X rSetAny := by
  intro pins s σ H o i v ov iv u Q I ro ri rv h
  rcases h with h | ⟨a, H4, e, g, q⟩
  · exact set_list pins s σ H o i v ov iv u Q I ro ri rv h
  · subst e
    obtain rfl : ov = Value.ref a := ro
    exact d_setItem hu I g ri rv fun s4 I4 => ⟨H4, I4, q⟩
def dgSub (to ti : DE) : DG := fun d δ A Q => to δ A fun x A1 => ti δ A1 fun i A2 => setD x i d A2 fun A3 => Q δ A3
theorem qg_sub {o i : Expr} {to ti : DE} {pos : Pos} (hu : X.A.units + 1 < cLine) (ho : QE X Z0 o to) (hi : QE X Z0 i ti)
    (ha : ∀ v, assign (.Subscript o i pos) X.env v = (do
      let ov ← holding [v] (eval o X.env)
      let iv ← holding [v, ov] (eval i X.env)
      standAt pos
      holding [v, ov, iv] (setItem ov iv v)
      release [v, ov, iv] []) := by intro _; rfl) : QG X Z0 (.Subscript o i pos) (dgSub to ti) :=
  PG.imp (pg_sub ho hi (set_any hu) ha) fun v σ H Q ⟨Z, d, δ, A, Kt, z, rv, rs, ra, t, k⟩ =>
    ⟨Z, δ, A, _, z, rs, ra, t, fun Z1 x A1 vx H1 s1 ra1 rx t1 => ⟨Z1, δ, A1, _, z.trans s1, rs.mono s1, ra1, t1, fun Z2 i A2 vi H2 s2 ra2 ri t2 => by
      unfold setD at t2
      split at t2
      · rename_i a
        split at t2
        · rename_i l q
          split at t2
          · rename_i kk
            split at t2
            · rename_i j hj
              obtain ⟨us, e1, e2⟩ := (ra2.at_ a _ q).2
              exact .inl ⟨a, us, kk, j, rv_ref (rx.mono s2), rv_int ri, e1, by rw [e2.len]; exact hj, k Z2 δ _ σ _ (s1.trans s2) ((rs.mono s1).mono s2) (lst_write ra2 q (e2.set j ((rv.mono s1).mono s2))) t2⟩
            · exact t2.elim
          · exact t2.elim
        · rename_i kvs q
          split at t2
          · rename_i kk hk
            obtain ⟨us, e1, e2, e3⟩ := (ra2.at_ a _ q).2
            have ek := asKey_ok ri hk
            subst ek
            obtain ⟨p1, p2⟩ := putK_ok (k := kk) ((rv.mono s1).mono s2) e2 e3
            exact .inr ⟨a, _, rv_ref (rx.mono s2), DPut.k e1 (by have := congrArg List.length e2; simp at this; rw [this]; exact Nat.lt_of_lt_of_le t2.1 big_line),
              k Z2 δ (A2.put a (.dic (putKD kvs kk d))) σ _ (s1.trans s2) ((rs.mono s1).mono s2) (ra2.write (u := .dic (putKD kvs kk d)) q ⟨_, upd_same .., p1, p2⟩) t2.2⟩
          · exact t2.elim
        · exact t2.elim
      · exact t2.elim⟩⟩
/-! ### nothing is let out -/
abbrev w0 : DW := fun _ _ _ _ => False
theorem tk0 : Takes X (liftW X.K Z0 w0) := Takes.imp takes0 fun _ _ _ _ ⟨_, _, _, _, _, _, _, _, _, h⟩ => h
theorem fnok_mono {P : Program} {w : World} {mg : Str → Option Value} {base : Heap} {CX : CXT} {k k' : Nat} {f : Addr} {fd : FuncData} {ps : List Str} {sp : Sp} (F : FnOk P w K mg base CX k f fd ps sp) (h : k ≤ k') : FnOk P w K mg base CX k' f fd ps sp :=
  ⟨F.len, fun A outer s H args us vs Q E hr => F.run A outer s H args us vs Q E (hr.mono h)⟩
/-! ### running -/
section
variable {δ : DSt} {A : AH} {Q : DK} {D0 : DEnds} {R : List D → AH → Prop} {B : Bool → AH → Prop} {I : List D → (AH → Prop) → AH → Prop} {G : DSt → AH → Prop} {a : Addr} {l : List D}
@[simp ↓] theorem eFz_eq {t : DE} : eFz t δ A Q = t δ A fun d A1 => match d with
  | .ref a => (match A1 a with
    | some (.lst l) => Q (.lst l) (A1.del a)
    | some (.obj c fs) => Q (.obj c (fs.map (·.1)) (fs.map (·.2))) (A1.del a)
    | some (.dic kvs) => Q (.dic (kvs.map (·.1)) (kvs.map (·.2))) (A1.del a)
    | none => False)
  | d => Q d A1 := rfl
@[simp ↓] theorem sFldSet_eq {cs : List String} {f : String} {o t : DE} : sFldSet cs f o t D0 δ A = t δ A fun d A1 => o δ A1 fun x A2 => match x with
  | .ref a => (match A2 a with
    | some (.obj c fs) => (c ∈ cs ∧ fs.length < 1000) ∧ D0.nx δ (A2.put a (.obj c (putD f d fs)))
    | _ => False)
  | _ => False := rfl
@[simp ↓] theorem eMk_eq {w : DW} {c : String} {sp : DSp} {t : DA} : eMk w c sp t δ A Q = t δ A fun ds A1 => ∀ x, A1 x = none → sp (.ref x :: ds) (A1.put x (.obj c [])) (fun d A2 => d = .non ∧ Q (.ref x) A2) fun k fs A2 => w k fs δ A2 := rfl
@[simp ↓] theorem eMth_eq {w : DW} {m : String} {tb : List (String × DSp)} {o : DE} {t : DA} : eMth w m tb o t δ A Q = o δ A fun d A1 => match asObj A1 d with
  | some (c, fs) => lookS m fs = none ∧ (match lookS c tb with
    | some sp => t δ A1 fun ds A2 => sp (d :: ds) A2 Q fun k gs A3 => w k gs δ A3
    | none => False)
  | none => False := rfl
@[simp ↓] theorem eIsiC_eq {tb : List (String × Bool)} {t : DE} : eIsiC tb t δ A Q = t δ A fun d A1 => match asObj A1 d with
  | some (c, _) => (match lookS c tb with
    | some b => Q (.bl b) A1
    | none => False)
  | none => False := rfl
@[simp ↓] theorem eFld_eq {cs : List String} {f : String} {t : DE} : eFld cs f t δ A Q = t δ A fun d A1 => match asObj A1 d with
  | some (c, fs) => c ∈ cs ∧ (match lookS f fs with
    | some d => Q d A1
    | none => False)
  | none => False := rfl
@[simp ↓] theorem eMt_eq {T : String} {rd : DMt} {o : DE} {t : DA} : eMt T rd o t δ A Q = o δ A fun d A1 => tyM A1 d T ∧ t δ A1 fun ds A2 => rd d ds A2 Q := rfl
@[simp ↓] theorem mApp_eq {y : D} : mApp (.ref a) [y] A Q = match A a with
  | some (.lst l) => Few l.length ∧ Q .non (A.put a (.lst (l ++ [y])))
  | _ => False := rfl
@[simp ↓] theorem mRev_eq : mRev (.ref a) [] A Q = match A a with
  | some (.lst l) => Q .non (A.put a (.lst l.reverse))
  | _ => False := rfl
@[simp ↓] theorem mClr_eq : mClr (.ref a) [] A Q = match A a with
  | some (.lst l) => Q .non (A.put a (.lst []))
  | _ => False := rfl
@[simp ↓] theorem mPop_eq : mPop (.ref a) [] A Q = match A a with
  | some (.lst l) => (match l[l.length - 1]? with
      | some y => Q y (A.put a (.lst l.dropLast))
      | none => False)
  | _ => False := rfl
@[simp ↓] theorem mIns_eq {i : Int} {y : D} : mIns (.ref a) [.int i, y] A Q = match A a with
  | some (.lst l) => (Few l.length ∧ 0 ≤ i ∧ i < 2 ^ 63) ∧ Q .non (A.put a (.lst (l.take i.toNat ++ [y] ++ l.drop i.toNat)))
  | _ => False := rfl
@[simp ↓] theorem mJoin_eq {x : Str} {y : D} : mJoin (.str x) [y] A Q = match (asS A y).bind strsD with
    | some ys => (ys.map (·.length)).sum + ys.length * x.length ≤ 1000000 ∧ Q (.str (Txt.join x ys)) A
    | none => False := rfl
@[simp ↓] theorem mkO_eq : mkO l A Q = ∀ p, A p = none → Q (.ref p) (A.put p (.lst l)) := rfl
@[simp ↓] theorem dgSub_eq {o i : DE} {d : D} : dgSub o i d δ A G = o δ A fun x A1 => i δ A1 fun i A2 => setD x i d A2 fun A3 => G δ A3 := rfl
@[simp ↓] theorem bYes_eq : bYes δ A B = B true A := rfl
@[simp ↓] theorem eLc_eq {fin : DFin} {it : DI} {g : DG} {tt : DT} {te : DE} {vs : List Nat} : eLc fin it g tt te vs δ A Q = it δ A fun l gd A1 => ∀ p, A1 p = none → compD p gd g tt te vs (fin p Q) δ l (A1.put p (.lst [])) := rfl
@[simp] theorem tyM_str {x : Str} {T : String} : tyM A (.str x) T = (T = "str") := rfl
@[simp] theorem tyM_lst {T : String} : tyM A (.lst l) T = (T = "list") := rfl
@[simp] theorem tyM_rol {T : String} : tyM A (.rol l) T = (T = "list") := rfl
theorem tyM_ref {T : String} (h : A a = some (.lst l)) : tyM A (.ref a) T = (T = "list") := by unfold tyM; simp only [h]
theorem ty_ref {l : List D} (h : A a = some (.lst l)) : tyD A (.ref a) = some "list" := by unfold tyD; simp only [h]
theorem drf_ref {l : List D} (h : A a = some (.lst l)) : drf A (.ref a) = .lst l := by unfold drf; simp only [h]
@[simp] theorem asObj_obj {c : String} {ns : List String} {vs : List D} : asObj A (.obj c ns vs) = some (c, ns.zip vs) := rfl
theorem asObj_ref {c : String} {fs : List (String × D)} (h : A a = some (.obj c fs)) : asObj A (.ref a) = some (c, fs) := by unfold asObj; simp only [h]
@[simp] theorem tyM_put {T : String} : tyM (A.put a (.lst l)) (.ref a) T = (T = "list") := tyM_ref (AH.put_same ..)
@[simp] theorem ty_put : tyD (A.put a (.lst l)) (.ref a) = some "list" := ty_ref (AH.put_same ..)
@[simp] theorem drf_put : drf (A.put a (.lst l)) (.ref a) = .lst l := drf_ref (AH.put_same ..)
@[simp] theorem asObj_put {c : String} {fs : List (String × D)} : asObj (A.put a (.obj c fs)) (.ref a) = some (c, fs) := asObj_ref (AH.put_same ..)
@[simp] theorem asS_put : asS (A.put a (.lst l)) (.ref a) = some l := by unfold asS asL; simp
@[simp] theorem asS_lst : asS A (.lst l) = some l := rfl
@[simp] theorem asS_tup : asS A (.tup l) = some l := rfl
@[simp] theorem asS_rol : asS A (.rol l) = some l := rfl
end
/-- a comprehension by an invariant of what is left and what is made -/
theorem compD_ind {p : Addr} {gd : AH → Prop} {g : DG} {tt : DT} {te : DE} {vs : List Nat} {fin : AH → Prop} {δ : DSt} (I : List D → AH → Prop) (hg : ∀ l A, I l A → gd A) (h0 : ∀ A, I [] A → fin A)
    (h1 : ∀ x l A (N : AH → Prop), (∀ A, I l A → N A) → I (x :: l) A → g x (wipeD δ vs) A fun δ2 A2 => tt δ2 A2 fun b A3 => (b = true → te δ2 A3 fun y A4 => ∃ acc, A4 p = some (.lst acc) ∧ Few acc.length ∧ N (A4.put p (.lst (acc ++ [y])))) ∧ (b = false → N A3)) :
    ∀ l A, I l A → compD p gd g tt te vs fin δ l A
  | [], A, h => ⟨hg _ _ h, h0 _ h⟩
  | x :: l, A, h => ⟨hg _ _ h, h1 x l A _ (compD_ind I hg h0 h1 l) h⟩
end DL

/-! DLF: the head's facts with the library's statics beside; is None of values. -/
namespace DL
open PySem PySem.Spec PyProof.Rows L2
def asZ (g : Addr → Option Obj) (n : Nat) : List Addr := cStatics :: He.asD g n
abbrev AlZ : Type := He.AlD × Bool
def obsZ (n : Nat) (fa : List He.Fa) (fn : List He.DefD) (ex : PySem.W.Frag → Bool) (g : Addr → Option Obj) : AlZ := (He.obsD fa fn (He.frG g (asZ g n)), ex (He.frG g (asZ g n)))
def SaysZ (fa : List He.Fa) (fn : List He.DefD) (ex : PySem.W.Frag → Bool) (K : PySem.W.Frag) : Prop := He.SaysD fa fn K ∧ ex K = true
def hookZ (n : Nat) (fa : List He.Fa) (fn : List He.DefD) (ex : PySem.W.Frag → Bool) : PySem.W.Hook where
  α := AlZ
  obs := fun s => obsZ n fa fn ex s.heap.get?
  val := fun _ => (He.valD fn, true)
  says := fun _ h => ∃ K : PySem.W.Frag, K.In h ∧ SaysZ fa fn ex K
  of := fun _ _ e => ⟨_, He.frG_in, congrArg (fun z : AlZ => z.1) e, congrArg (fun z : AlZ => z.2) e⟩
  keeps := fun _ _ _ ⟨K, hK, c⟩ k => ⟨K, PySem.W.Frag.In.keeps hK k, c⟩
theorem obsZ_eq {n : Nat} {fa : List He.Fa} {fn : List He.DefD} {ex : PySem.W.Frag → Bool} {g : Addr → Option Obj} {s : Shared} (h : ∀ a, g a = s.heap.get? a) : obsZ n fa fn ex g = (hookZ n fa fn ex).obs s := by
  have e : g = s.heap.get? := funext h
  rw [e] <;> rfl
@[simp] theorem non_non : D.isNon .non = true := rfl
@[simp] theorem non_bl {b : Bool} : D.isNon (.bl b) = false := rfl
@[simp] theorem non_int {b : Int} : D.isNon (.int b) = false := rfl
@[simp] theorem non_str {b : Str} : D.isNon (.str b) = false := rfl
@[simp] theorem non_tup {b : List D} : D.isNon (.tup b) = false := rfl
@[simp] theorem non_lst {b : List D} : D.isNon (.lst b) = false := rfl
@[simp] theorem non_rol {b : List D} : D.isNon (.rol b) = false := rfl
@[simp] theorem non_ref {b : Addr} : D.isNon (.ref b) = false := rfl
@[simp] theorem non_obj {c : String} {ns : List String} {b : List D} : D.isNon (.obj c ns b) = false := rfl
/-! ### what a def leaves behind is forgotten -/
def Sub (A B : AH) : Prop := ∀ a o, A a = some o → B a = some o
theorem Sub.refl (A : AH) : Sub A A := fun _ _ h => h
theorem Sub.put {A B : AH} {p : Addr} {o : AO} (s : Sub A B) (h : A p = none) : Sub A (B.put p o) := fun a u e => by
  have hn : a ≠ p := fun z => by rw [z, h] at e; cases e
  rw [AH.put_ne B o hn]; exact s a u e
theorem Sub.del {A B : AH} {p : Addr} (s : Sub A B) (h : A p = none) : Sub A (B.del p) := fun a u e => by
  have hn : a ≠ p := fun z => by rw [z, h] at e; cases e
  rw [AH.del_ne B hn]; exact s a u e
def dropQ (Q : DK) : DK := fun d A => ∃ A2, Sub A2 A ∧ Q d A2
theorem fn_okS {K : PySem.W.Frag} {P : Program} {w : World} {mg : Str → Option Value} {base : Heap} {x qual : Str} {params : Arguments} {body : List Stmt} {scope : Scope} {dvs : List V} {kws : List (Str × V)} {f : Addr} {fd : FuncData} {N ps : List Str} {k : Nat} {sp : DSp} {t : DW → DS}
    (F : FunD K x qual params body scope dvs kws f fd) (S : FnScope N ps scope) (len : ∀ ds A Q E, sp ds A Q E → ds.length = ps.length)
    (hder : ∀ (cdv : Value) (A : Around) (outer : List Env) (s : Shared) (H : Hp) (E : XK) (Z0 : Hp) (wd : DW), Room k (A.deeper (envOfC qual scope s.heap.objs.size f cdv)) → Takes (cxOf (CX P w) P w K mg base N qual scope f cdv A outer s H E) (liftW K Z0 wd) → QSs (cxOf (CX P w) P w K mg base N qual scope f cdv A outer s H E) Z0 body (t wd))
    (hrd : ∀ ds A Q E, sp ds A Q E → t (fun c fs _ A => E c fs A) { nx := fun _ A => dropQ Q .non A, rt := dropQ Q } (startD N.length ds) A) : FnOk P w K mg base (CX P w) (k + 1) f fd ps (liftSp K sp) := by
  refine F.ok S (fun vs H Q E ⟨Z, ds, A, Kt, Ex, r, ra, h, _, _⟩ => by rw [r.len]; exact len ds A Kt Ex h) fun cdv A0 outer s H vs Q E hr ⟨Z, ds, A, Kt, Ex, r, ra, h, hq, he⟩ => ?_
  have tk : Takes (cxOf (CX P w) P w K mg base N qual scope f cdv A0 outer s H E) (liftW K Z fun c fs _ A => Ex c fs A) :=
    Takes.imp (takes_of rfl rfl rfl rfl) fun cv dd σ H' ⟨Z', δ, A', c, fs, z, rs, ra', rx, q⟩ => he Z' c fs A' cv dd H' z ra' rx q
  refine ⟨_, hder cdv A0 outer s H E Z (fun c fs _ A => Ex c fs A) hr tk, Z, startD N.length ds, A, _, Same.refl Z, ?_, ra, hrd ds A Kt Ex h, ?_⟩
  · unfold startD L2.start
    rw [r.len]
    exact start_rs _ r
  · exact ⟨fun Z' δ A' σ H' s rs ra' ⟨A2, sb, q⟩ => hq Z' .non A2 .non H' s (ra'.same sb) mk_non q, fun Z' d A' v H' s ra' rv ⟨A2, sb, q⟩ => hq Z' d A2 v H' s (ra'.same sb) rv q, fun _ _ _ _ _ _ _ _ q => q.elim, fun _ _ _ _ _ _ _ _ q => q.elim⟩
section
variable {A : AH} {Q : DK} {m : Mk} {l : List D} {a : Addr}
@[simp ↓] theorem bList_lst : bList m [.lst l] A Q = m l A Q := rfl
@[simp ↓] theorem bList_tup : bList m [.tup l] A Q = m l A Q := rfl
@[simp ↓] theorem bList_rol : bList m [.rol l] A Q = m l A Q := rfl
end
theorem strsD_map : ∀ l : List Str, strsD (l.map D.str) = some l
  | [] => rfl
  | x :: l => by simp [strsD, strsD_map l]
theorem setD_lst {x : Addr} {k : Int} {j : Nat} {d : D} {A : AH} {Q : AH → Prop} {l : List D} (h : A x = some (.lst l)) (hj : ixN l.length k = some j) : setD (.ref x) (.int k) d A Q = Q (A.put x (.lst (l.set j d))) := by
  unfold setD; simp only [h, hj]
theorem ixN_in {n : Nat} {i : Int} (h0 : 0 ≤ i) (h1 : i < n) : ixN n i = some i.toNat := by unfold ixN; rw [if_pos h0, if_pos h1]
end DL

/-! DLG: texts parted. -/
namespace DL
open PySem PySem.Spec PyProof.Rows L2
variable {K : PySem.W.Frag}
/-- x.partition(sep) -/
def mPart : DMt := fun d ds A Q => match d, ds with
  | .str x, [.str y] => ((y.length == 0) = false ∧ Few x.length) ∧ Q (.tup [.str (Txt.partition x y).1, .str (Txt.partition x y).2.1, .str (Txt.partition x y).2.2]) A
  | _, _ => False
abbrev rPart : V → List V → Hp → VK → Prop := fun x xs H Q => ∃ a b, x = .str a ∧ xs = [.str b] ∧ (b.length == 0) = false ∧ a.length ≤ sizeLine ∧
    ∀ p, H p = none → Q (.ref p) (upd H p (.tup [.str (Txt.partition a b).1, .str (Txt.partition a b).2.1, .str (Txt.partition a b).2.2]))
theorem lift_part : LiftMt K "str" mPart rPart := fun Z A H d v ds vs Kt Q R r rs h k => by
  unfold mPart at h
  split at h
  · rename_i x y
    obtain ⟨u, rfl, ru⟩ := rs.one
    obtain ⟨⟨h1, h2⟩, h⟩ := h
    refine ⟨x, y, rv_str r, by rw [rv_str ru], h1, Nat.le_of_lt (Nat.lt_of_lt_of_le h2 big_line), fun p hp => ?_⟩
    obtain ⟨s, R'⟩ := R.newF hp (.tup [.str (Txt.partition x y).1, .str (Txt.partition x y).2.1, .str (Txt.partition x y).2.2])
    exact k _ _ A _ _ s R' (mk_tup (SqT.of upd_same) (.cons mk_str (.cons mk_str (.cons mk_str .nil)))) h
  · exact h.elim
end DL

/-! DLH: dict.get; the first item taken out of a list. -/
namespace DL
open PySem PySem.Spec PyProof.Rows L2
variable {K : PySem.W.Frag} {X : Cx} {Z0 : Hp}
/-- d.get(k), d.get(k, x) -/
def mGet : DMt := fun d ds A Q => match asDic A d, ds with
  | some kvs, [k] => (match asKey k with
    | some k => Q ((dget kvs k).getD .non) A
    | none => False)
  | some kvs, [k, x] => (match asKey k with
    | some k => Q ((dget kvs k).getD x) A
    | none => False)
  | _, _ => False
theorem isD_ty {A : AH} {Z H : Hp} {d : D} {v : V} (ra : RA K Z A H) (rv : RV K Z d v) (h : tyM A d "dict") : ∃ p, v = .ref p ∧ IsD H p := by
  have : ∃ kvs, asDic A d = some kvs := by
    unfold tyM at h
    cases d with
    | dic ks vs => exact ⟨_, rfl⟩
    | ref a =>
      have h' : (match A a with | some (.lst _) => ("dict" : String) = "list" | some (.dic _) => ("dict" : String) = "dict" | _ => False) := h
      show ∃ kvs, (match A a with | some (.dic kvs) => some kvs | _ => none) = some kvs
      split at h'
      · exact absurd h' (by decide)
      · rename_i kvs q; exact ⟨kvs, by rw [q]⟩
      · exact h'.elim
    | str _ => exact absurd (show ("dict" : String) = "str" from h) (by decide)
    | lst _ => exact absurd (show ("dict" : String) = "list" from h) (by decide)
    | rol _ => exact absurd (show ("dict" : String) = "list" from h) (by decide)
    | _ => exact h.elim
  obtain ⟨kvs, h⟩ := this
  obtain ⟨p, us, e1, e2, _, _⟩ := asDic_ok ra rv h
  exact ⟨p, e1, .inl ⟨us, .inl e2⟩⟩
theorem get_ok {A : AH} {Z H : Hp} {d k x : D} {v vk : V} {kvs : List (Key × D)} {ky : Key} (ra : RA K Z A H) (rv : RV K Z d v) (rk : RV K Z k vk) (h1 : asDic A d = some kvs) (h2 : asKey k = some ky) :
    ∃ p o, v = .ref p ∧ DGet H p vk o ∧ ∀ x u, RV K Z x u → RV K Z ((dget kvs ky).getD x) (o.getD u) := by
  obtain ⟨p, us, e1, e2, e3, e4⟩ := asDic_ok ra rv h1
  refine ⟨p, valV us ky, e1, ?_, fun x u ru => ?_⟩
  · rw [asKey_ok rk h2]; exact DGet.k e2
  · rcases dget_ok (k := ky) e3 e4 with ⟨q1, q2⟩ | ⟨d', w, q1, q2, q3⟩
    · rw [q1, q2]; exact ru
    · rw [q1, q2]; exact q3
section
variable {o e f : Expr} {apos cpos : Pos} {to te tf : DE}
theorem qe_dget (hu : X.A.units + 1 < cLine) (ho : QE X Z0 o to) (he : QE X Z0 e te) (m1 : attributeBase o "get" X.env (eval o X.env) = eval o X.env := by rfl)
    (m2 : ((backTo cpos (starEach [e] X.env)).all (fun x => !x.1) && (backToKw cpos (keywordEach [] X.env)).all (fun x => x.1.isSome)
    && decide (([e] : List Expr).length + ([] : List Keyword).length + (if ([] : List Keyword).isEmpty then 0 else 1) < 30)) = true := by rfl)
    (m3 : (apos.endLine == cpos.line) = true := by rfl) (m4 : backTo cpos (starEach [e] X.env) = [(false, eval e X.env)] := by rfl) :
    QE X Z0 (.Call (.Attribute o "get" apos) [e] [] cpos) (eMt "dict" mGet to (aCons te aNil)) := PE.imp (pe_dget1 hu ho he ⟨m1, m2, m3, m4⟩) fun σ H Q ⟨Z, δ, A, Kt, z, rs, ra, t, k⟩ =>
  ⟨Z, δ, A, _, z, rs, ra, t, fun Z1 d A1 v H1 s1 ra1 rv t1 => by
    obtain ⟨p, e1, hd⟩ := isD_ty ra1 rv t1.1
    refine ⟨p, e1, hd, Z1, δ, A1, _, z.trans s1, rs.mono s1, ra1, t1.2, fun Z2 y A2 vy H2 s2 ra2 ry t2 => ?_⟩
    have t2' : mGet d [y] A2 Kt := t2
    unfold mGet at t2'
    split at t2'
    · rename_i kvs k' h1 e2
      cases e2
      split at t2'
      · rename_i ky h2
        obtain ⟨p2, o, e3, g, hv⟩ := get_ok (x := .non) ra2 (rv.mono s2) ry h1 h2
        rw [e1] at e3; cases e3
        exact ⟨o, g, k Z2 _ A2 _ H2 (s1.trans s2) ra2 (hv _ _ mk_non) t2'⟩
      · exact t2'.elim
    · rename_i e2; cases e2
    · exact t2'.elim⟩
/-- l.pop(0) -/
def mPopI : DMt := fun d ds A Q => match d, ds with
  | .ref a, [.int i] => (match A a with
    | some (.lst (y :: l)) => i = 0 ∧ Q y (A.put a (.lst l))
    | _ => False)
  | _, _ => False
theorem lift_popI : LiftMt K "list" mPopI rPopAt := fun Z A H d v ds vs Kt Q R r rs h k => by
  unfold mPopI at h
  split at h
  · rename_i a i
    split at h
    · rename_i y l q
      obtain ⟨rfl, h⟩ := h
      obtain ⟨u, rfl, ru⟩ := rs.one
      obtain ⟨us, e1, e2⟩ := (R.at_ a _ q).2
      obtain ⟨w, us', rfl, r1, r2⟩ := e2.inv
      exact ⟨a, w :: us', 0, 0, w, rv_ref r, by rw [rv_int ru], e1, by decide, by decide, by unfold seqIndex?; simp, rfl, k Z _ _ _ _ (Same.refl Z) (lst_write R q r2) r1 h⟩
    · exact h.elim
  · exact h.elim
end
end DL

/-! DLI: dicts shown: {}, {k: v}. -/
namespace DL
open PySem PySem.Spec PyProof.Rows L2
variable {K : PySem.W.Frag} {X : Cx} {Z0 : Hp}
def eDic0 : DE := fun _ A Q => ∀ p, A p = none → Q (.ref p) (A.put p (.dic []))
theorem qe_dic0 {pos : Pos} : QE X Z0 (.Dict [] [] pos) eDic0 := PE.imp pe_dnewK fun σ H Q ⟨Z, δ, A, Kt, z, rs, ra, t, k⟩ p hp =>
  k Z (.ref p) _ _ _ (Same.refl Z) (ra.newO (u := .dic []) hp ⟨[], upd_same, rfl, .nil⟩) mk_ref (t p (ra.fresh hp).1)
def eDic1 (tk tv : DE) : DE := fun δ A Q => ∀ p, A p = none → tk δ (A.put p (.dic [])) fun x A1 => tv δ A1 fun y A2 => A2 p = some (.dic []) ∧ (match asKey x with
  | some ky => Q (.ref p) (A2.put p (.dic [(ky, y)]))
  | none => False)
theorem qe_dic1 {ek ev : Expr} {tk tv : DE} {pos : Pos} (hk : QE X Z0 ek tk) (hv : QE X Z0 ev tv) : QE X Z0 (.Dict [some ek] [ev] pos) (eDic1 tk tv) :=
  PE.imp (pe_disp (pps_cons hk hv pps_nil) rfl rfl (by simp) (by simp)) fun σ H Q ⟨Z, δ, A, Kt, z, rs, ra, t, k⟩ p hp => by
    have ra0 : RA X.K Z (A.put p (.dic [])) (upd H p (.dK [])) := ra.newO (u := .dic []) hp ⟨[], upd_same, rfl, .nil⟩
    refine ⟨Z, δ, A.put p (.dic []), _, z, rs, ra0, t p (ra.fresh hp).1, fun Z1 x A1 vx H1 s1 ra1 rx t1 => ?_⟩
    refine ⟨Z1, δ, A1, _, z.trans s1, rs.mono s1, ra1, t1, fun Z2 y A2 vy H2 s2 ra2 ry t2 => ?_⟩
    obtain ⟨hp2, t3⟩ := t2
    split at t3
    · rename_i ky hky
      obtain ⟨us, e1, e2, _⟩ := (ra2.at_ p _ hp2).2
      have : us = [] := by simpa using e2
      subst this
      refine ⟨e1, [(ky, vy)], ?_, by simp, ?_⟩
      · show [(vx, vy)] = [(kV ky, vy)]
        rw [asKey_ok (rx.mono s2) hky]
      · exact k Z2 (.ref p) _ _ _ (s1.trans s2) (ra2.write (u := .dic [(ky, y)]) hp2 ⟨[(ky, vy)], upd_same, rfl, .cons ry .nil⟩) mk_ref t3
    · exact t3.elim
end DL

/-! DLJ: an object frozen, its own lists and dicts with it. -/
namespace DL
open PySem PySem.Spec PyProof.Rows L2
variable {K : PySem.W.Frag} {Z Z' Z0 : Hp} {X : Cx}
/-- what a list, a dict is told as when frozen -/
def fzD : AO → Option D
  | .lst l => some (.lst l)
  | .dic kvs => some (.dic (kvs.map (·.1)) (kvs.map (·.2)))
  | .obj _ _ => none
/-- fields frozen one by one -/
inductive FzF : AH → List (String × D) → List (String × D) → AH → Prop
  | nil {A} : FzF A [] [] A
  | val {A B f d fs gs} : FzF A fs gs B → FzF A ((f, d) :: fs) ((f, d) :: gs) B
  | ref {A B f q o d fs gs} : A q = some o → fzD o = some d → FzF (A.del q) fs gs B → FzF A ((f, .ref q) :: fs) ((f, d) :: gs) B
theorem fzF_ok {A B : AH} {fs gs : List (String × D)} (h : FzF A fs gs B) : ∀ {Z H : Hp} {vs : List V}, RA K Z A H → RVs K Z (fs.map (·.2)) vs → ∃ Z2, Same Z Z2 ∧ RA K Z2 B H ∧ RVs K Z2 (gs.map (·.2)) vs ∧ gs.map (·.1) = fs.map (·.1) := by
  induction h with
  | nil => intro Z H vs R r; exact ⟨Z, Same.refl Z, R, r, rfl⟩
  | val _ ih =>
    intro Z H vs R r
    obtain ⟨v, us, rfl, r1, r2⟩ := r.inv
    obtain ⟨Z2, s, R2, r3, e⟩ := ih R r2
    exact ⟨Z2, s, R2, .cons (r1.mono s) r3, by simp [e]⟩
  | ref hq hd _ ih =>
    intro Z H vs R r
    obtain ⟨v, us, rfl, r1, r2⟩ := r.inv
    obtain ⟨Z1, s1, R1, q1⟩ := fz_ok R hq
    obtain ⟨Z2, s, R2, r3, e⟩ := ih R1 (r2.mono s1)
    have ev := rv_ref r1
    refine ⟨Z2, s1.trans s, R2, .cons ?_ r3, by simp [e]⟩
    rw [ev]
    rename_i o d _ _ _
    cases o with
    | lst l =>
      cases hd
      have q2 : RV K Z1 (.lst l) _ := q1
      exact q2.mono s
    | dic kvs =>
      cases hd
      have q2 : RV K Z1 (.dic (kvs.map (·.1)) (kvs.map (·.2))) _ := q1
      exact q2.mono s
    | obj c fs => cases hd
def eFzD (t : DE) : DE := fun δ A Q => t δ A fun d A1 => ∃ p c fs gs A2, d = .ref p ∧ A1 p = some (.obj c fs) ∧ FzF (A1.del p) fs gs A2 ∧ Q (.obj c (gs.map (·.1)) (gs.map (·.2))) A2
theorem qe_fzD {e : Expr} {t : DE} (h : QE X Z0 e t) : QE X Z0 e (eFzD t) := PE.imp h fun σ H Q ⟨Z, δ, A, Kt, z, rs, ra, t, k⟩ =>
  ⟨Z, δ, A, _, z, rs, ra, t, fun Z1 d A1 v H1 s1 ra1 rv t1 => by
    obtain ⟨p, c, fs, gs, A2, rfl, hp, hf, t2⟩ := t1
    have ev := rv_ref rv
    subst ev
    obtain ⟨dx, us, e1, e2, e3⟩ := (ra1.at_ p _ hp).2
    obtain ⟨s, r⟩ := ra1.freeze hp e1
    obtain ⟨Z2, s2, R2, r3, e⟩ := fzF_ok hf r (e3.mono s)
    refine k Z2 _ _ _ H1 ((s1.trans s).trans s2) R2 ?_ t2
    rw [RV]
    exact ⟨p, dx, us, rfl, s2 _ _ (upd_same ..), by rw [e2, e, List.map_map]; rfl, r3⟩⟩
end DL

/-! DLK: more that is walked: ranges with a step, enumerate, zip, reversed. -/
namespace DL
open PySem PySem.Spec PyProof.Rows L2
variable {K : PySem.W.Frag} {Z Z' Z0 : Hp} {X : Cx}
/-- lo, lo + c, .. -/
def rngCD (lo c : Int) (n : Nat) : List D := (List.range n).map fun i => .int (lo + (i : Nat) * c)
theorem walkD_rangeC {lo c : Int} {n : Nat} : WalkD K Z (Itc lo c n) (rngCD lo c n) (fun _ => True) :=
  ⟨fun _ => True, YFn fun i => .int (lo + (i : Nat) * c), by have := walk_rangeC (lo := lo) (c := c) (n := n); unfold rngCD; rw [List.length_map, List.length_range]; exact this, fun _ _ _ _ _ _ => trivial, fun i Z' A H x H' hi s ra _ ⟨e1, e2⟩ => by
    subst e1 e2
    unfold rngCD at hi ⊢
    rw [List.length_map, List.length_range] at hi
    exact ⟨Z', .int (lo + (i : Nat) * c), Same.refl _, ra, by simp [hi], mk_int⟩⟩
/-- so many steps of c from i to j -/
def cntC (i j c : Int) : Nat := ((j - i + c - 1) / c).toNat
theorem rangeSize_pos {i j c : Int} (h : 0 < c) : Builtin.Range.rangeSize i j c = cntC i j c := by
  unfold Builtin.Range.rangeSize cntC
  have e : (c > 0) = True := eq_true h
  by_cases hij : i < j
  · simp only [h, hij, decide_true, Bool.and_self, if_true]
    have e2 : j - i + c - 1 = (j - i - 1) + c := by omega
    rw [e2, Int.add_ediv_of_dvd_right (Int.dvd_refl c), Int.ediv_self (by omega)]
    have := Int.ediv_nonneg (show 0 ≤ j - i - 1 by omega) (show 0 ≤ c by omega)
    first
    | omega
    | (rw [Int.toNat_of_nonneg (by omega)])
  · have hz : (j - i + c - 1) / c ≤ 0 := by
      have : (j - i + c - 1) / c < 1 := Int.ediv_lt_of_lt_mul h (by omega)
      omega
    simp only [h, hij, decide_true, decide_false, Bool.and_false, if_false, Bool.false_eq_true]
    have hc' : ¬ c < 0 := by omega
    simp [hc']
    omega
def iRng3D (t : DA) : DI := fun δ A R => t δ A fun ds A1 => match ds with
  | [.int i, .int j, .int c] => (i.natAbs < 1000000000 ∧ j.natAbs < 1000000000 ∧ 0 < c ∧ c < 1000000) ∧ R (rngCD i c (cntC i j c)) (fun _ => True) A1
  | _ => False
theorem RVs.three {d e f : D} {vs : List V} (h : RVs K Z [d, e, f] vs) : ∃ v u w, vs = [v, u, w] ∧ RV K Z d v ∧ RV K Z e u ∧ RV K Z f w := by
  obtain ⟨v, r, rfl, h1, h2⟩ := h.inv
  obtain ⟨u, w, rfl, h3, h4⟩ := h2.two
  exact ⟨v, u, w, rfl, h1, h3, h4⟩
theorem qi_range3 {tg a b c : Expr} {t : DA} {p pos : Pos} (hg : Gl X "range") (hm : X.mg "range" = none) (ha : QA X Z0 [a, b, c] t)
    (hs : starEach [a, b, c] X.env = (false, eval a X.env) :: starEach [b, c] X.env := by rfl) (hpl : (backTo pos (starEach [b, c] X.env)).any (·.1) = false := by rfl) :
    QI X Z0 tg (.Call (.Name "range" p) [a, b, c] [] pos) (iRng3D t) :=
  PI.imp (pi_range3 hg hm ha hs hpl) fun σ H R ⟨Z, δ, A, Kt, z, rs, ra, t, k⟩ => ⟨Z, δ, A, _, z, rs, ra, t, fun Z1 ds A1 vs H1 s1 ra1 rv t1 => by
    split at t1
    · rename_i i j c
      obtain ⟨v, u, w, rfl, r1, r2, r3⟩ := rv.three
      obtain ⟨⟨h1, h2, h3, h4⟩, t1⟩ := t1
      refine ⟨i, j, c, cntC i j c, by rw [rv_int r1, rv_int r2, rv_int r3], ⟨by omega, by omega, ?_, rangeSize_pos h3⟩, k Z1 _ _ A1 _ H1 s1 ra1 walkD_rangeC t1⟩
      have hb : ((cntC i j c : Nat) : Int) < 9223372036854775807 := by
        unfold cntC
        by_cases hx : 0 ≤ j - i + c - 1
        · have := Int.ediv_le_self c hx
          omega
        · have : (j - i + c - 1) / c < 1 := Int.ediv_lt_of_lt_mul h3 (by omega)
          omega
      unfold Builtin.Range.small
      rw [rangeSize_pos h3, if_pos (show c > 0 from h3)]
      simp only [Builtin.Range.rangeFitsLong, Bool.and_eq_true, Bool.or_eq_true, decide_eq_true_eq, beq_iff_eq]
      omega
    · exact t1.elim⟩
/-! ### enumerate -/
def enumD (l : List D) : List D := (l.zipIdx).map fun p => .tup [.int (p.2 : Nat), p.1]
theorem walkD_enum {d : D} {a : Addr} {l : List D} (rv : RV K Z d (.ref a)) : WalkD K Z (Ite K a) (enumD l) (fun A' => asL A' d = some l) :=
  ⟨fun H => ∃ vs, SqL K H a vs ∧ vs.length = l.length, fun i H v H' => ∃ T x, v = .ref T ∧ H T = none ∧ H' = upd H T (.tup [.int (i : Nat), x]) ∧ ∀ xs, SqL K H a xs → xs[i]? = some x,
    ⟨fun i H hi ⟨vs, q, e⟩ => by
      unfold enumD at hi
      rw [List.length_map, List.length_zipIdx] at hi
      exact ⟨vs, vs[i]'(by omega), q, by simp [e, hi]⟩, fun H ⟨vs, q, e⟩ => ⟨vs, q, by unfold enumD; rw [List.length_map, List.length_zipIdx]; omega⟩, fun i H x H' hi _ y => y⟩,
    fun Z' A H s ra g => by
      obtain ⟨p, vs, e1, e2, e3⟩ := asL_ok ra (rv.mono s) g
      cases e1
      exact ⟨vs, e2, e3.len⟩,
    fun i Z' A H v H' hi s ra g ⟨T, x, ev, hT, eH, hy⟩ => by
      subst ev eH
      unfold enumD at hi ⊢
      rw [List.length_map, List.length_zipIdx] at hi
      obtain ⟨p, vs, e1, e2, e3⟩ := asL_ok ra (rv.mono s) g
      cases e1
      obtain ⟨d', h1, h2⟩ := e3.get (hy vs e2)
      obtain ⟨s2, R2⟩ := ra.newF hT (.tup [.int (i : Nat), x])
      refine ⟨_, .tup [.int (i : Nat), d'], s2, R2, ?_, mk_tup (SqT.of (upd_same ..)) (.cons mk_int (.cons (h2.mono s2) .nil))⟩
      rw [List.getElem?_map, List.getElem?_zipIdx, h1]; simp⟩
def iEnumD (t : DA) : DI := fun δ A R => t δ A fun ds A1 => match ds with
  | [d] => (match asL A1 d with
    | some l => R (enumD l) (fun A' => asL A' d = some l) A1
    | none => False)
  | _ => False
theorem qi_enumerate {e : Expr} {t : DA} {p pos tpos : Pos} {elts : List Expr} {kk : Nat} (hg : Gl X "enumerate") (hm : X.mg "enumerate" = none) (ha : QA X Z0 [e] t) (hs : starEach [e] X.env = [(false, eval e X.env)] := by rfl) :
    QI X Z0 (.Tuple elts kk tpos) (.Call (.Name "enumerate" p) [e] [] pos) (iEnumD t) :=
  PI.imp (pi_enum hg hm ha hs) fun σ H R ⟨Z, δ, A, Kt, z, rs, ra, t, k⟩ => ⟨Z, δ, A, _, z, rs, ra, t, fun Z1 ds A1 vs H1 s1 ra1 rv t1 => by
    split at t1
    · rename_i d
      split at t1
      · rename_i l q
        obtain ⟨v, rfl, r1⟩ := rv.one
        obtain ⟨p, us, e1, e2, e3⟩ := asL_ok ra1 r1 q
        subst e1
        exact ⟨p, us, rfl, e2, k Z1 _ _ A1 _ H1 s1 ra1 (walkD_enum r1) t1⟩
      · exact t1.elim
    · exact t1.elim⟩
/-! ### zip -/
def zipD (l m : List D) : List D := (l.zip m).map fun p => .tup [p.1, p.2]
theorem walkD_zip {d e : D} {a b : Addr} {l m : List D} (rd : RV K Z d (.ref a)) (re : RV K Z e (.ref b)) : WalkD K Z (Itz K a b) (zipD l m) (fun A' => asL A' d = some l ∧ asL A' e = some m) :=
  ⟨fun H => (∃ vs, SqL K H a vs ∧ vs.length = l.length) ∧ ∃ us, SqL K H b us ∧ us.length = m.length,
    fun i H v H' => ∃ T x y, v = .ref T ∧ H T = none ∧ H' = upd H T (.tup [x, y]) ∧ (∀ xs, SqL K H a xs → xs[i]? = some x) ∧ ∀ ys, SqL K H b ys → ys[i]? = some y,
    ⟨fun i H hi ⟨⟨vs, q, e⟩, us, q2, e2⟩ => by
      unfold zipD at hi
      rw [List.length_map, List.length_zip] at hi
      exact ⟨vs, us, vs[i]'(by omega), us[i]'(by omega), q, q2, by simp, by simp⟩,
    fun H ⟨⟨vs, q, e⟩, us, q2, e2⟩ => ⟨vs, us, q, q2, by unfold zipD; rw [List.length_map, List.length_zip]; omega⟩, fun i H x H' hi _ y => y⟩,
    fun Z' A H s ra g => by
      obtain ⟨p, vs, e1, e2, e3⟩ := asL_ok ra (rd.mono s) g.1
      obtain ⟨p', us, f1, f2, f3⟩ := asL_ok ra (re.mono s) g.2
      cases e1; cases f1
      exact ⟨⟨vs, e2, e3.len⟩, us, f2, f3.len⟩,
    fun i Z' A H v H' hi s ra g ⟨T, x, y, ev, hT, eH, hx, hy⟩ => by
      subst ev eH
      unfold zipD at hi ⊢
      rw [List.length_map, List.length_zip] at hi
      obtain ⟨p, vs, e1, e2, e3⟩ := asL_ok ra (rd.mono s) g.1
      obtain ⟨p', us, f1, f2, f3⟩ := asL_ok ra (re.mono s) g.2
      cases e1; cases f1
      obtain ⟨d', h1, h2⟩ := e3.get (hx vs e2)
      obtain ⟨d2, h3, h4⟩ := f3.get (hy us f2)
      obtain ⟨s2, R2⟩ := ra.newF hT (.tup [x, y])
      refine ⟨_, .tup [d', d2], s2, R2, ?_, mk_tup (SqT.of (upd_same ..)) (.cons (h2.mono s2) (.cons (h4.mono s2) .nil))⟩
      have hz : (l.zip m)[i]? = some (d', d2) := List.getElem?_zip_eq_some.mpr ⟨h1, h3⟩
      rw [List.getElem?_map, hz]; rfl⟩
def iZipD (t : DA) : DI := fun δ A R => t δ A fun ds A1 => match ds with
  | [d, e] => (match asL A1 d, asL A1 e with
    | some l, some m => R (zipD l m) (fun A' => asL A' d = some l ∧ asL A' e = some m) A1
    | _, _ => False)
  | _ => False
theorem qi_zip {e e2 : Expr} {t : DA} {p pos tpos : Pos} {elts : List Expr} {kk : Nat} (hg : Gl X "zip") (hm : X.mg "zip" = none) (ha : QA X Z0 [e, e2] t)
    (hs : starEach [e, e2] X.env = (false, eval e X.env) :: starEach [e2] X.env := by rfl) (hpl : (backTo pos (starEach [e2] X.env)).any (·.1) = false := by rfl) :
    QI X Z0 (.Tuple elts kk tpos) (.Call (.Name "zip" p) [e, e2] [] pos) (iZipD t) :=
  PI.imp (pi_zip hg hm ha hs hpl) fun σ H R ⟨Z, δ, A, Kt, z, rs, ra, t, k⟩ => ⟨Z, δ, A, _, z, rs, ra, t, fun Z1 ds A1 vs H1 s1 ra1 rv t1 => by
    split at t1
    · rename_i d d2
      split at t1
      · rename_i l m q q2
        obtain ⟨v, u, rfl, r1, r2⟩ := rv.two
        obtain ⟨p, us, e1, e2, e3⟩ := asL_ok ra1 r1 q
        obtain ⟨p', us', f1, f2, f3⟩ := asL_ok ra1 r2 q2
        subst e1 f1
        exact ⟨p, p', us, us', rfl, e2, f2, k Z1 _ _ A1 _ H1 s1 ra1 (walkD_zip r1 r2) t1⟩
      · exact t1.elim
    · exact t1.elim⟩
/-! ### reversed(range(n)) -/
/-- n - 1, .., 0 -/
def iRevR1 (t : DE) : DI := fun δ A R => t δ A fun d A1 => match d with
  | .int n => Small n ∧ R (rngCD ((n.toNat : Int) - 1) (-1) n.toNat) (fun _ => True) A1
  | _ => False
theorem qi_revRange {tg a : Expr} {t : DE} {p p2 pos pos2 : Pos} (hg : Gl X "reversed") (hm : X.mg "reversed" = none) (hg2 : Gl X "range") (hm2 : X.mg "range" = none) (ha : QE X Z0 a t) (na : starEach [a] X.env = (false, eval a X.env) :: starEach [] X.env := by rfl)
    (hs : starEach [.Call (.Name "range" p2) [a] [] pos2] X.env = (false, eval (.Call (.Name "range" p2) [a] [] pos2) X.env) :: starEach [] X.env := by rfl) :
    QI X Z0 tg (.Call (.Name "reversed" p) [.Call (.Name "range" p2) [a] [] pos2] [] pos) (iRevR1 t) :=
  PI.imp (pi_revR hg hm (prg_1 hg2 hm2 ha na) hs) fun σ H R ⟨Z, δ, A, Kt, z, rs, ra, t, k⟩ => ⟨Z, δ, A, _, z, rs, ra, t, fun Z1 d A1 v H1 s1 ra1 rv t1 => by
    split at t1
    · rename_i n
      obtain ⟨h1, t1⟩ := t1
      unfold Small at h1
      refine ⟨n, rv_int rv, by omega, by omega, by omega, by omega, ?_⟩
      have e1 : (0 : Int) + (((n - 0).toNat : Nat) : Int) - 1 = (n.toNat : Int) - 1 := by omega
      have e2 : (n - 0).toNat = n.toNat := by omega
      rw [e1, e2]
      exact k Z1 _ _ A1 _ H1 s1 ra1 walkD_rangeC t1
    · exact t1.elim⟩
/-! ### reversed(list) -/
theorem walkD_rev {d : D} {a : Addr} {l : List D} (rv : RV K Z d (.ref a)) : WalkD K Z (Itv K a l.length) l.reverse (fun A' => asL A' d = some l) :=
  ⟨fun H => ∃ vs, SqL K H a vs ∧ vs.length = l.length, fun i H x H' => H' = H ∧ ∀ xs, SqL K H a xs → xs[l.length - 1 - i]? = some x,
    ⟨fun i H hi ⟨vs, q, e⟩ => by
      rw [List.length_reverse] at hi
      exact ⟨hi, vs, vs[l.length - 1 - i]'(by omega), q, by simp⟩, fun H ⟨vs, q, e⟩ => by rw [List.length_reverse]; exact Nat.le_refl _, fun i H x H' hi _ y => y⟩,
    fun Z' A H s ra g => by
      obtain ⟨p, vs, e1, e2, e3⟩ := asL_ok ra (rv.mono s) g
      cases e1
      exact ⟨vs, e2, e3.len⟩,
    fun i Z' A H x H' hi s ra g ⟨eH, hy⟩ => by
      subst eH
      rw [List.length_reverse] at hi
      obtain ⟨p, vs, e1, e2, e3⟩ := asL_ok ra (rv.mono s) g
      cases e1
      obtain ⟨d', h1, h2⟩ := e3.get (hy vs e2)
      refine ⟨Z', d', Same.refl _, ra, ?_, h2⟩
      rw [List.getElem?_reverse (by omega)]; exact h1⟩
def iRevD (t : DA) : DI := fun δ A R => t δ A fun ds A1 => match ds with
  | [d] => (match asL A1 d with
    | some l => R l.reverse (fun A' => asL A' d = some l) A1
    | none => False)
  | _ => False
theorem qi_reversed {tg e : Expr} {t : DA} {p pos : Pos} (hg : Gl X "reversed") (hm : X.mg "reversed" = none) (ha : QA X Z0 [e] t) (hs : starEach [e] X.env = [(false, eval e X.env)] := by rfl) :
    QI X Z0 tg (.Call (.Name "reversed" p) [e] [] pos) (iRevD t) :=
  PI.imp (pi_reversed hg hm ha hs) fun σ H R ⟨Z, δ, A, Kt, z, rs, ra, t, k⟩ => ⟨Z, δ, A, _, z, rs, ra, t, fun Z1 ds A1 vs H1 s1 ra1 rv t1 => by
    split at t1
    · rename_i d
      split at t1
      · rename_i l q
        obtain ⟨v, rfl, r1⟩ := rv.one
        obtain ⟨p, us, e1, e2, e3⟩ := asL_ok ra1 r1 q
        subst e1
        refine ⟨p, us, rfl, e2, ?_⟩
        rw [e3.len]
        exact k Z1 _ _ A1 _ H1 s1 ra1 (walkD_rev r1) t1
      · exact t1.elim
    · exact t1.elim⟩
end DL

/-! DLL: sum, any, sorted, dict of pairs; insert's rule; count, index of lists. -/
namespace DL
open PySem PySem.Spec PyProof.Rows L2
variable {K : PySem.W.Frag} {Z Z' Z0 : Hp} {X : Cx}
def intsD : List D → Option (List Int)
  | [] => some []
  | .int x :: l => (intsD l).map (x :: ·)
  | _ => none
theorem ints_rvs : ∀ {l : List D} {vs : List V} {ys : List Int}, RVs K Z l vs → intsD l = some ys → vs = ys.map V.int
  | [], vs, ys, r, h => by cases h; rw [r.inv0]; rfl
  | d :: l, vs, ys, r, h => by
    obtain ⟨v, u, rfl, r1, r2⟩ := r.inv
    cases d with
    | int x =>
      simp only [intsD, Option.map_eq_some_iff] at h
      obtain ⟨zs, h1, h2⟩ := h
      subst h2
      rw [rv_int r1, ints_rvs r2 h1]; rfl
    | _ => cases h
def blsD : List D → Option (List Bool)
  | [] => some []
  | .bl x :: l => (blsD l).map (x :: ·)
  | _ => none
theorem bls_rvs : ∀ {l : List D} {vs : List V} {ys : List Bool}, RVs K Z l vs → blsD l = some ys → vs = ys.map V.bl
  | [], vs, ys, r, h => by cases h; rw [r.inv0]; rfl
  | d :: l, vs, ys, r, h => by
    obtain ⟨v, u, rfl, r1, r2⟩ := r.inv
    cases d with
    | bl x =>
      simp only [blsD, Option.map_eq_some_iff] at h
      obtain ⟨zs, h1, h2⟩ := h
      subst h2
      rw [rv_bl r1, bls_rvs r2 h1]; rfl
    | _ => cases h
def bSum : DCall := fun ds A Q => match ds with
  | [d] => (match (asL A d).bind intsD with
    | some ns => Q (.int ns.sum) A
    | none => False)
  | _ => False
theorem lift_sum : LiftCall K bSum (rSum K) := fun Z A H ds vs Kt Q R r h k => by
  unfold bSum at h
  split at h
  · split at h
    · rename_i ns q
      obtain ⟨v, rfl, rv⟩ := r.one
      obtain ⟨l, h1, h2⟩ := Option.bind_eq_some_iff.mp q
      obtain ⟨p, us, e1, e2, e3⟩ := asL_ok R rv h1
      have := ints_rvs e3 h2
      subst this
      exact ⟨p, ns, by rw [e1], e2, k Z _ A _ H (Same.refl Z) R mk_int h⟩
    · exact h.elim
  · exact h.elim
def bAny : DCall := fun ds A Q => match ds with
  | [d] => (match (asL A d).bind blsD with
    | some ns => Q (.bl (ns.any id)) A
    | none => False)
  | _ => False
theorem lift_any : LiftCall K bAny (rAny K) := fun Z A H ds vs Kt Q R r h k => by
  unfold bAny at h
  split at h
  · split at h
    · rename_i ns q
      obtain ⟨v, rfl, rv⟩ := r.one
      obtain ⟨l, h1, h2⟩ := Option.bind_eq_some_iff.mp q
      obtain ⟨p, us, e1, e2, e3⟩ := asL_ok R rv h1
      have := bls_rvs e3 h2
      subst this
      exact ⟨p, ns, by rw [e1], e2, k Z _ A _ H (Same.refl Z) R mk_bl h⟩
    · exact h.elim
  · exact h.elim
/-! ### sorted -/
theorem rvs_strs : ∀ (ys : List Str), RVs K Z (ys.map D.str) (ys.map V.str)
  | [] => .nil
  | y :: ys => .cons mk_str (rvs_strs ys)
def keysD : List Key → Option (List Str)
  | [] => some []
  | .inr x :: l => (keysD l).map (x :: ·)
  | _ => none
theorem keysD_eq : ∀ {ks : List Key} {ys : List Str}, keysD ks = some ys → ks = ys.map Sum.inr
  | [], ys, h => by cases h; rfl
  | k :: ks, ys, h => by
    cases k with
    | inr x =>
      simp only [keysD, Option.map_eq_some_iff] at h
      obtain ⟨zs, h1, h2⟩ := h
      subst h2
      rw [keysD_eq h1]; rfl
    | inl x => cases h
def bSorted (mk : Mk) : DCall := fun ds A Q => match ds with
  | [d] => (match (asL A d).bind strsD with
    | some xs => xs.length < 64 ∧ ∀ ys : List Str, ys.Perm xs → sortedS ys = true → mk (ys.map .str) A Q
    | none => match (asDic A d).bind (fun kvs => keysD (kvs.map (·.1))) with
      | some xs => xs.length < 64 ∧ ∀ ys : List Str, ys.Perm xs → sortedS ys = true → mk (ys.map .str) A Q
      | none => False)
  | _ => False
abbrev rSortedD : List V → Hp → VK → Prop := fun xs H Q => ∃ (a : Addr) (kvs : List (Key × V)) (ks : List Str), xs = [.ref a] ∧ Rd H a (.dK kvs) ∧ kvs.map (·.1) = ks.map Sum.inr ∧ ks.length < 64 ∧
    ∀ ys p, ys.Perm ks → sortedS ys = true → H p = none → Q (.ref p) (upd H p (.lst (ys.map V.str)))
theorem lift_sorted {mk : Mk} (m : MkOk K mk) : LiftCall K (bSorted mk) (fun xs H Q => rSortedS K xs H Q ∨ rSortedD xs H Q) := fun Z A H ds vs Kt Q R r h k => by
  unfold bSorted at h
  split at h
  · rename_i d
    obtain ⟨v, rfl, rv⟩ := r.one
    split at h
    · rename_i xs q
      obtain ⟨l, h1, h2⟩ := Option.bind_eq_some_iff.mp q
      obtain ⟨p, us, e1, e2, e3⟩ := asL_ok R rv h1
      have := strs_rvs e3 h2
      subst this
      exact .inl ⟨p, xs, by rw [e1], e2, h.1, fun ys q hp hs hq => m.ok R (rvs_strs ys) (h.2 ys hp hs) k q hq⟩
    · split at h
      · rename_i xs q
        obtain ⟨kvs, h1, h2⟩ := Option.bind_eq_some_iff.mp q
        obtain ⟨p, us, e1, e2, e3, e4⟩ := asDic_ok R rv h1
        exact .inr ⟨p, us, xs, by rw [e1], .inl e2, by rw [e3]; exact keysD_eq h2, h.1, fun ys q hp hs hq => m.ok R (rvs_strs ys) (h.2 ys hp hs) k q hq⟩
      · exact h.elim
  · exact h.elim
theorem call_sortedAll (hc : X.calm = true) : CallR X (.builtin "sorted") (fun xs H Q => rSortedS X.K xs H Q ∨ rSortedD xs H Q) := CallR.or cr_sortedS (call_sortedD hc)
/-! ### d.get(k, x) -/
section
variable {o e f : Expr} {apos cpos : Pos} {to te tf : DE}
theorem qe_dget2 (hu : X.A.units + 1 < cLine) (ho : QE X Z0 o to) (he : QE X Z0 e te) (hf : QE X Z0 f tf) (m1 : attributeBase o "get" X.env (eval o X.env) = eval o X.env := by rfl)
    (m2 : ((backTo cpos (starEach [e, f] X.env)).all (fun x => !x.1) && (backToKw cpos (keywordEach [] X.env)).all (fun x => x.1.isSome)
    && decide (([e, f] : List Expr).length + ([] : List Keyword).length + (if ([] : List Keyword).isEmpty then 0 else 1) < 30)) = true := by rfl)
    (m3 : (apos.endLine == cpos.line) = true := by rfl) (m4 : backTo cpos (starEach [e, f] X.env) = [(false, eval e X.env), (false, eval f X.env)] := by rfl) :
    QE X Z0 (.Call (.Attribute o "get" apos) [e, f] [] cpos) (eMt "dict" mGet to (aCons te (aCons tf aNil))) := PE.imp (pe_dget2 hu ho he hf ⟨m1, m2, m3, m4⟩) fun σ H Q ⟨Z, δ, A, Kt, z, rs, ra, t, k⟩ =>
  ⟨Z, δ, A, _, z, rs, ra, t, fun Z1 d A1 v H1 s1 ra1 rv t1 => by
    obtain ⟨p, e1, hd⟩ := isD_ty ra1 rv t1.1
    refine ⟨p, e1, hd, Z1, δ, A1, _, z.trans s1, rs.mono s1, ra1, t1.2, fun Z2 y A2 vy H2 s2 ra2 ry t2 => ?_⟩
    refine ⟨Z2, δ, A2, _, (z.trans s1).trans s2, (rs.mono s1).mono s2, ra2, t2, fun Z3 x A3 vx H3 s3 ra3 rx t3 => ?_⟩
    have t3' : mGet d [y, x] A3 Kt := t3
    unfold mGet at t3'
    split at t3'
    · rename_i e2; cases e2
    · rename_i kvs k' x' h1 e2
      cases e2
      split at t3'
      · rename_i ky h2
        obtain ⟨p2, o, e3, g, hv⟩ := get_ok (x := x) ra3 ((rv.mono s2).mono s3) (ry.mono s3) h1 h2
        rw [e1] at e3; cases e3
        exact ⟨o, g, k Z3 _ A3 _ H3 ((s1.trans s2).trans s3) ra3 (hv _ _ rx) t3'⟩
      · exact t3'.elim
    · exact t3'.elim⟩
end
end DL

/-! FR: fractions as rational numbers. -/
namespace FR
open PySem PySem.Spec PyProof.Rows L2 DL
/-- a fraction's value -/
@[irreducible] def frD (q : Rat) : D := .tup [.int q.num, .int q.den]
theorem frD_def (q : Rat) : frD q = .tup [.int q.num, .int q.den] := by unfold frD; rfl
theorem fr01 : D.tup [.int 0, .int 1] = frD 0 := by rw [frD_def]; rfl
theorem frD_inj {q r : Rat} (h : frD q = frD r) : q = r := by
  unfold frD at h
  simp only [D.tup.injEq, List.cons.injEq, D.int.injEq, and_true] at h
  exact Rat.ext h.1 (by omega)
def deFr : D → Option Rat
  | .tup [.int a, .int b] => if h : 0 < b ∧ a.natAbs.gcd b.natAbs = 1 then some ⟨a, b.natAbs, by omega, h.2⟩ else none
  | _ => none
@[simp] theorem deFr_frD (q : Rat) : deFr (frD q) = some q := by
  unfold frD deFr
  have h : (0 : Int) < (q.den : Int) ∧ q.num.natAbs.gcd (q.den : Int).natAbs = 1 := ⟨by have := q.den_pos; omega, q.reduced⟩
  simp only
  rw [dif_pos h]
  congr 1
theorem deFr_ok {d : D} {q : Rat} (h : deFr d = some q) : d = frD q := by
  unfold deFr at h
  split at h
  · rename_i a b
    split at h
    · rename_i hc
      cases h
      unfold frD
      have : ((b.natAbs : Nat) : Int) = b := by omega
      simp only [this]
    · cases h
  · cases h
section
variable {A : AH} {Q : DK} {q r : Rat}
@[simp ↓] theorem ix0 : opIx (frD q) (.int 0) A Q = Q (.int q.num) A := by rw [frD_def]; rfl
@[simp ↓] theorem ix1 : opIx (frD q) (.int 1) A Q = Q (.int q.den) A := by rw [frD_def]; rfl
@[simp] theorem ty_fr : tyD A (frD q) = some "tuple" := by rw [frD_def]; rfl
@[simp ↓] theorem len_fr : bLen [frD q] A Q = Q (.int 2) A := by rw [frD_def]; rfl
@[simp] theorem drf_fr : drf A (frD q) = frD q := by rw [frD_def]; rfl
@[simp] theorem dt_fr {n : Nat} : dt (n + 1) (frD q) = true := by unfold frD; simp
@[simp] theorem non_fr : (frD q).isNon = false := by rw [frD_def]; rfl
@[simp] theorem deq_fr : deq (frD q) (frD r) = decide (q = r) := by
  unfold frD
  simp only [deq_tup, deqs_cons, deq_int, deqs_nil, Bool.and_true]
  by_cases h : q = r
  · subst h; simp
  · rw [decide_eq_false h]
    apply Bool.eq_false_iff.mpr
    intro e
    simp at e
    exact h (Rat.ext e.1 (by omega))
end
/-! ### sizes -/
def Wd (i : Int) : Prop := i.natAbs < 2 ^ 8000
def Sm (q : Rat) : Prop := q.num.natAbs < 2 ^ 3000 ∧ q.den < 2 ^ 3000
theorem wd_of {i : Int} {k : Nat} (h : i.natAbs < 2 ^ k) (hk : k ≤ 8000) : Wd i := Nat.lt_of_lt_of_le h (Nat.pow_le_pow_right (by decide) hk)
@[simp] theorem wd_lit {n : Int} (h1 : -18446744073709551616 < n) (h2 : n < 18446744073709551616) : Wd n := wd_of (k := 64) (by omega) (by decide)
theorem mul_lt {i j : Int} {a b : Nat} (h1 : i.natAbs < 2 ^ a) (h2 : j.natAbs < 2 ^ b) : (i * j).natAbs < 2 ^ (a + b) := by
  rw [Int.natAbs_mul, Nat.pow_add]
  exact Nat.mul_lt_mul_of_lt_of_le h1 (Nat.le_of_lt h2) (Nat.pow_pos (by decide))
theorem add_lt {i j : Int} {a : Nat} (h1 : i.natAbs < 2 ^ a) (h2 : j.natAbs < 2 ^ a) : (i + j).natAbs < 2 ^ (a + 1) := by
  rw [Nat.pow_succ]
  have := Int.natAbs_add_le i j
  omega
theorem sub_lt {i j : Int} {a : Nat} (h1 : i.natAbs < 2 ^ a) (h2 : j.natAbs < 2 ^ a) : (i - j).natAbs < 2 ^ (a + 1) := by
  rw [Nat.pow_succ]
  have := Int.natAbs_sub_le i j
  omega
/-! ### the lowest terms -/
theorem low_num {a b : Int} (h : b ≠ 0) : (Rat.divInt a b).num = if b < 0 then a.fdiv (-(Int.gcd a b : Int)) else a.fdiv (Int.gcd a b : Int) := by
  rw [Rat.num_divInt, Int.gcd_comm]
  split
  · rename_i hb
    have e : a.fdiv (-(Int.gcd a b : Int)) = (-a).fdiv (Int.gcd a b : Int) := by
      have := Int.neg_fdiv_neg (-a) (Int.gcd a b : Int)
      rw [Int.neg_neg] at this
      exact this
    rw [e, Int.fdiv_eq_ediv_of_nonneg _ (by omega), Int.sign_eq_neg_one_of_neg hb]
    congr 1; omega
  · rename_i hb
    rw [Int.fdiv_eq_ediv_of_nonneg _ (by omega), Int.sign_eq_one_of_pos (by omega), Int.one_mul]
theorem low_den {a b : Int} (h : b ≠ 0) : ((Rat.divInt a b).den : Int) = if b < 0 then b.fdiv (-(Int.gcd a b : Int)) else b.fdiv (Int.gcd a b : Int) := by
  rw [Rat.den_divInt, if_neg h, Int.gcd_comm, Int.natCast_ediv]
  split
  · rename_i hb
    have e : b.fdiv (-(Int.gcd a b : Int)) = (-b).fdiv (Int.gcd a b : Int) := by
      have := Int.neg_fdiv_neg (-b) (Int.gcd a b : Int)
      rw [Int.neg_neg] at this
      exact this
    rw [e, Int.fdiv_eq_ediv_of_nonneg _ (by omega)]
    congr 1; omega
  · rename_i hb
    rw [Int.fdiv_eq_ediv_of_nonneg _ (by omega)]
    congr 1; omega
theorem low_lt {a b : Int} {k : Nat} (h : b ≠ 0) (ha : a.natAbs < 2 ^ k) (hb : b.natAbs < 2 ^ k) : (Rat.divInt a b).num.natAbs < 2 ^ k ∧ (Rat.divInt a b).den < 2 ^ k := by
  constructor
  · refine Nat.lt_of_le_of_lt ?_ ha
    rw [Rat.num_divInt]
    refine Nat.le_trans (Int.natAbs_ediv_le_natAbs _ _) ?_
    rw [Int.natAbs_mul]
    have : b.sign.natAbs ≤ 1 := by
      rcases Int.lt_trichotomy b 0 with h | h | h
      · rw [Int.sign_eq_neg_one_of_neg h]; decide
      · subst h; decide
      · rw [Int.sign_eq_one_of_pos h]; decide
    calc b.sign.natAbs * a.natAbs ≤ 1 * a.natAbs := Nat.mul_le_mul_right _ this
      _ = a.natAbs := Nat.one_mul _
  · refine Nat.lt_of_le_of_lt ?_ hb
    rw [Rat.den_divInt, if_neg h]
    exact Nat.div_le_self _ _
theorem sm_low {a b : Int} {k : Nat} (h : b ≠ 0) (ha : a.natAbs < 2 ^ k) (hb : b.natAbs < 2 ^ k) (hk : k ≤ 3000) : Sm (Rat.divInt a b) :=
  have l := low_lt h ha hb
  ⟨Nat.lt_of_lt_of_le l.1 (Nat.pow_le_pow_right (by decide) hk), Nat.lt_of_lt_of_le l.2 (Nat.pow_le_pow_right (by decide) hk)⟩
theorem gcd_pos {a b : Int} (h : b ≠ 0) : 0 < (Int.gcd a b : Int) := by have := Int.gcd_pos_of_ne_zero_right a h; omega
theorem gcd_lt {a b : Int} {k : Nat} (h : b ≠ 0) (hb : b.natAbs < 2 ^ k) : (Int.gcd a b : Int).natAbs < 2 ^ k := by
  have := Int.gcd_le_natAbs_right a h
  omega
theorem gcd_ok {a b : Int} (h : b ≠ 0) (hb : Wd b) : DivOk (Int.gcd a b) ∧ DivOk (-(Int.gcd a b : Int)) := by
  have p := gcd_pos (a := a) h
  have l := gcd_lt (a := a) h hb
  exact ⟨divOk_of (by omega) l (by decide), divOk_of (by omega) (by omega : (-(Int.gcd a b : Int)).natAbs < 2 ^ 8000) (by decide)⟩
/-! ### sums and products -/
theorem add_fr (q r : Rat) : Rat.divInt (q.num * r.den + r.num * q.den) (q.den * r.den) = q + r := by
  have h1 : (q.den : Int) ≠ 0 := by have := q.den_pos; omega
  have h2 : (r.den : Int) ≠ 0 := by have := r.den_pos; omega
  have := Rat.divInt_add_divInt q.num r.num h1 h2
  rw [Rat.num_divInt_den, Rat.num_divInt_den] at this
  exact this.symm
theorem sub_fr (q r : Rat) : Rat.divInt (q.num * r.den - r.num * q.den) (q.den * r.den) = q - r := by
  have h1 : (q.den : Int) ≠ 0 := by have := q.den_pos; omega
  have h2 : (r.den : Int) ≠ 0 := by have := r.den_pos; omega
  have := Rat.divInt_sub_divInt q.num r.num h1 h2
  rw [Rat.num_divInt_den, Rat.num_divInt_den] at this
  exact this.symm
theorem mul_fr (q r : Rat) : Rat.divInt (q.num * r.num) (q.den * r.den) = q * r := by
  have := Rat.divInt_mul_divInt q.num r.num (d₁ := q.den) (d₂ := r.den)
  rw [Rat.num_divInt_den, Rat.num_divInt_den] at this
  exact this.symm
theorem div_fr (q r : Rat) : Rat.divInt (q.num * r.den) (q.den * r.num) = q / r := by
  have := Rat.divInt_mul_divInt q.num r.den (d₁ := q.den) (d₂ := r.num)
  rw [Rat.num_divInt_den] at this
  rw [Rat.div_def, Rat.inv_def, this]
theorem den_ne (q : Rat) : (q.den : Int) ≠ 0 := by have := q.den_pos; omega
theorem den_mul_ne (q r : Rat) : (q.den : Int) * (r.den : Int) ≠ 0 := Int.mul_ne_zero (den_ne q) (den_ne r)
theorem num_ne {r : Rat} (h : r ≠ 0) : r.num ≠ 0 := fun e => h (Rat.num_eq_zero.mp e)
section
variable {q r : Rat}
theorem sm_d (h : Sm q) : (q.den : Int).natAbs < 2 ^ 3000 := by have := h.2; omega
theorem mm1 (h : Sm q) (g : Sm r) : DL.MulOk q.num r.den := mulOk_of h.1 (sm_d g) (by decide)
theorem mm2 (h : Sm q) (g : Sm r) : DL.MulOk q.num r.num := mulOk_of h.1 g.1 (by decide)
theorem mm3 (h : Sm q) (g : Sm r) : DL.MulOk (q.den : Int) (r.den : Int) := mulOk_of (sm_d h) (sm_d g) (by decide)
theorem mm4 (h : Sm q) (g : Sm r) : DL.MulOk (q.den : Int) r.num := mulOk_of (sm_d h) g.1 (by decide)
theorem w_add (h : Sm q) (g : Sm r) : Wd (q.num * r.den + r.num * q.den) := wd_of (add_lt (mul_lt h.1 (sm_d g)) (mul_lt g.1 (sm_d h))) (by decide)
theorem w_sub (h : Sm q) (g : Sm r) : Wd (q.num * r.den - r.num * q.den) := wd_of (sub_lt (mul_lt h.1 (sm_d g)) (mul_lt g.1 (sm_d h))) (by decide)
theorem w_den (h : Sm q) (g : Sm r) : Wd ((q.den : Int) * (r.den : Int)) := wd_of (mul_lt (sm_d h) (sm_d g)) (by decide)
theorem w_nn (h : Sm q) (g : Sm r) : Wd (q.num * r.num) := wd_of (mul_lt h.1 g.1) (by decide)
theorem w_nd (h : Sm q) (g : Sm r) : Wd (q.num * (r.den : Int)) := wd_of (mul_lt h.1 (sm_d g)) (by decide)
theorem w_dn (h : Sm q) (g : Sm r) : Wd ((q.den : Int) * r.num) := wd_of (mul_lt (sm_d h) g.1) (by decide)
end
end FR

/-! FT: names, fractions told, ties. -/
namespace FR
open PySem PySem.Spec PyProof.Rows L2 DL
def isIntD : D → Bool
  | .int _ => true
  | _ => false
def nameB (z : Str) : Bool := decide (1 ≤ z.length ∧ z.length ≤ 8) && z.cps.toList.all fun c => decide (97 ≤ c ∧ c ≤ 122)
def fracB : D → Bool
  | .tup [.int a, .int b] => decide (1 ≤ b) && decide (Int.gcd a b = 1)
  | _ => false
def tyOk (A : AH) : D → Bool
  | .tup l => l.all fun d => (tyD A d).isSome
  | d => (tyD A d).isSome
theorem fracB_eq (d : D) : fracB d = (deFr d).isSome := by
  unfold fracB
  split
  · rename_i a b
    show _ = (if h : 0 < b ∧ a.natAbs.gcd b.natAbs = 1 then some (⟨a, b.natAbs, by omega, h.2⟩ : Rat) else none).isSome
    by_cases h : 0 < b ∧ a.natAbs.gcd b.natAbs = 1
    · rw [dif_pos h]
      have h1 : 1 ≤ b := by omega
      have h2 : Int.gcd a b = 1 := h.2
      simp [h1, h2]
    · rw [dif_neg h]
      by_cases h1 : 1 ≤ b
      · have h2 : ¬ Int.gcd a b = 1 := fun e => h ⟨by omega, e⟩
        simp [h2]
      · simp [h1]
  · rename_i h
    unfold deFr
    split
    · rename_i a b; exact absurd rfl (h a b)
    · rfl
@[simp] theorem fracB_fr (q : Rat) : fracB (frD q) = true := by rw [fracB_eq, deFr_frD]; rfl
@[simp] theorem tyOk_fr {A : AH} (q : Rat) : tyOk A (frD q) = true := by unfold frD; simp [tyOk]
/-! ### ties -/
structure TieV where
  name : Str
  start : Str
  fin : Str
  low : Option Rat
  high : Option Rat
def obD : Option Rat → D
  | none => .non
  | some q => frD q
theorem obD_inj : ∀ {a b : Option Rat}, obD a = obD b → a = b
  | none, none, _ => rfl
  | none, some _, h => by simp [obD, frD] at h
  | some _, none, h => by simp [obD, frD] at h
  | some a, some b, h => by rw [frD_inj h]
@[simp] theorem obD_none : obD none = .non := rfl
@[simp] theorem obD_some (q : Rat) : obD (some q) = frD q := rfl
/-- a tie's plain tuple -/
def tieD (t : TieV) : D := .tup [.str t.name, .str t.start, .str t.fin, obD t.low, obD t.high]
def leOb : Option Rat → Option Rat → Bool
  | some l, some h => decide (l ≤ h)
  | _, _ => true
structure TieV.Ok (t : TieV) : Prop where
  n1 : nameB t.name = true
  n2 : nameB t.start = true
  n3 : nameB t.fin = true
  ne : t.start ≠ t.fin
  le : leOb t.low t.high = true
def TieV.Sm (t : TieV) : Prop := (∀ q, t.low = some q → FR.Sm q) ∧ ∀ q, t.high = some q → FR.Sm q
def deOb : D → Option (Option Rat)
  | .non => some none
  | d => (deFr d).map some
@[simp] theorem deOb_obD (o : Option Rat) : deOb (obD o) = some o := by
  cases o with
  | none => rfl
  | some q =>
    have e : deOb (frD q) = (deFr (frD q)).map some := by rw [frD_def]; rfl
    show deOb (frD q) = _
    rw [e, deFr_frD]; rfl
theorem deOb_ok {d : D} {o : Option Rat} (h : deOb d = some o) : d = obD o := by
  unfold deOb at h
  split at h
  · cases h; rfl
  · obtain ⟨q, h1, h2⟩ := Option.map_eq_some_iff.mp h
    subst h2
    exact deFr_ok h1
def TieV.okB (t : TieV) : Bool := nameB t.name && (nameB t.start && (nameB t.fin && (!(t.start == t.fin) && leOb t.low t.high)))
theorem TieV.okB_iff (t : TieV) : t.okB = true ↔ t.Ok := by
  unfold TieV.okB
  simp only [Bool.and_eq_true, Bool.not_eq_true', beq_eq_false_iff_ne]
  exact ⟨fun ⟨a, b, c, d, e⟩ => ⟨a, b, c, d, e⟩, fun ⟨a, b, c, d, e⟩ => ⟨a, b, c, d, e⟩⟩
/-- what a thing is a tie's tuple of -/
def deTie : D → Option TieV
  | .tup [.str a, .str b, .str c, l, h] => (match deOb l, deOb h with
    | some lo, some hi => if (TieV.okB ⟨a, b, c, lo, hi⟩) = true then some ⟨a, b, c, lo, hi⟩ else none
    | _, _ => none)
  | _ => none
theorem deTie_tie {t : TieV} (h : t.Ok) : deTie (tieD t) = some t := by
  unfold tieD deTie
  simp only [deOb_obD]
  rw [if_pos ((TieV.okB_iff _).mpr h)]
def TieV.cls (t : TieV) : String := match t.low, t.high with
  | none, none => "Free"
  | some _, none => "AtLeast"
  | none, some _ => "AtMost"
  | some l, some h => if l = h then "Just" else "Between"
def TieV.flds (t : TieV) : List (String × D) := [("name", .str t.name), ("start", .str t.start), ("end", .str t.fin)] ++ match t.low, t.high with
  | none, none => []
  | some l, none => [("least", frD l)]
  | none, some h => [("greatest", frD h)]
  | some l, some h => if l = h then [("size", frD l)] else [("least", frD l), ("greatest", frD h)]
/-- a tie's object -/
@[irreducible] def tieO (t : TieV) : D := .obj t.cls (t.flds.map (·.1)) (t.flds.map (·.2))
theorem zip_maps {α β : Type} : ∀ l : List (α × β), (l.map (·.1)).zip (l.map (·.2)) = l
  | [] => rfl
  | (a, b) :: l => by simp [zip_maps l]
@[simp] theorem asObj_tie {A : AH} (t : TieV) : asObj A (tieO t) = some (t.cls, t.flds) := by
  unfold tieO; rw [asObj_obj, zip_maps]
theorem tieO_inj {t u : TieV} (h : tieO t = tieO u) : t = u := by
  have e : some (t.cls, t.flds) = some (u.cls, u.flds) := by rw [← asObj_tie (A := fun _ => none) t, h, asObj_tie]
  simp only [Option.some.injEq, Prod.mk.injEq] at e
  obtain ⟨e1, e2⟩ := e
  obtain ⟨a, b, c, l, hh⟩ := t
  obtain ⟨a2, b2, c2, l2, h2⟩ := u
  unfold TieV.flds at e2
  unfold TieV.cls at e1
  simp only [List.cons_append, List.nil_append, List.cons.injEq, Prod.mk.injEq, D.str.injEq, true_and] at e2
  obtain ⟨rfl, rfl, rfl, e2⟩ := e2
  cases l <;> cases hh <;> cases l2 <;> cases h2 <;> simp only at e1 e2 <;> try rfl
  all_goals
    first
    | (exfalso; split at e1 <;> exact absurd e1 (by decide))
    | (exfalso; exact absurd e1 (by decide))
    | (exfalso; split at e1 <;> first | exact absurd e1 (by decide) | (split at e1 <;> exact absurd e1 (by decide)))
    | (simp only [List.cons.injEq, Prod.mk.injEq, true_and, and_true] at e2; rw [frD_inj e2])
    | skip
  rename_i a1 b1 a2 b2
  split at e2
  · rename_i q1
    split at e2
    · rename_i q2
      simp only [List.cons.injEq, Prod.mk.injEq, true_and, and_true] at e2
      have := frD_inj e2
      rw [← q1, ← q2, this]
    · simp at e2
  · split at e2
    · simp at e2
    · simp only [List.cons.injEq, Prod.mk.injEq, true_and, and_true] at e2
      rw [frD_inj e2.1, frD_inj e2.2]
theorem cls5 (t : TieV) : t.cls = "Free" ∨ t.cls = "AtLeast" ∨ t.cls = "AtMost" ∨ t.cls = "Just" ∨ t.cls = "Between" := by
  unfold TieV.cls
  split
  · exact .inl rfl
  · exact .inr (.inl rfl)
  · exact .inr (.inr (.inl rfl))
  · split
    · exact .inr (.inr (.inr (.inl rfl)))
    · exact .inr (.inr (.inr (.inr rfl)))
@[simp] theorem flds_name (t : TieV) : lookS "name" t.flds = some (.str t.name) := by rw [lookS_eq]; rfl
@[simp] theorem flds_start (t : TieV) : lookS "start" t.flds = some (.str t.start) := by rw [lookS_eq]; rfl
@[simp] theorem flds_end (t : TieV) : lookS "end" t.flds = some (.str t.fin) := by rw [lookS_eq]; rfl
theorem flds_no (t : TieV) {m : String} (h : m ≠ "name" ∧ m ≠ "start" ∧ m ≠ "end" ∧ m ≠ "least" ∧ m ≠ "greatest" ∧ m ≠ "size") : lookS m t.flds = none := by
  rw [lookS_eq]
  obtain ⟨h1, h2, h3, h4, h5, h6⟩ := h
  unfold TieV.flds
  have b : ∀ {a c : String}, a ≠ c → (a == c) = false := fun h => beq_eq_false_iff_ne.mpr h
  split <;> (try split) <;> simp [List.lookup, b h1, b h2, b h3, b h4, b h5, b h6]
def nameD : D → Bool
  | .str z => nameB z
  | _ => false
theorem nameD_ok {d : D} (h : nameD d = true) : ∃ z, d = .str z ∧ nameB z = true := by
  cases d <;> first | exact ⟨_, rfl, h⟩ | cases h
theorem tyOk_ty {A : AH} {d : D} (h : tyOk A d = true) : (tyD A d).isSome = true := by
  cases d <;> first | exact h | rfl
/-- what may be asked whether it is a tie -/
def TieIn (A : AH) (d : D) : Prop := (tyD A d).isSome = true ∧ ∀ l, d = .tup l → l.length = 5 → ∀ x ∈ l, tyOk A x = true ∧ (∀ z, x = .str z → Few z.length ∧ PyData.strOk z = true) ∧ ∀ q, x = frD q → Sm q
theorem nameB_few {z : Str} (h : nameB z = true) : Few z.length ∧ PyData.strOk z = true := by
  unfold nameB at h
  simp only [Bool.and_eq_true, decide_eq_true_eq] at h
  refine ⟨by show _ < _; omega, ?_⟩
  unfold PyData.strOk
  rw [Array.all_eq_true_iff_forall_mem]
  intro x hx
  have := List.all_eq_true.mp h.2 x (by simpa using hx)
  simp only [decide_eq_true_eq] at this
  exact decide_eq_true (by omega)
theorem tyOk_ob {A : AH} (o : Option Rat) : tyOk A (obD o) = true := by
  cases o with
  | none => rfl
  | some q => exact tyOk_fr q
theorem tieIn_tie {A : AH} {t : TieV} (h : t.Ok) (s : t.Sm) : TieIn A (tieD t) := by
  refine ⟨rfl, fun l e _ x hx => ?_⟩
  unfold tieD at e
  cases e
  have str : ∀ z, nameB z = true → tyOk A (.str z) = true ∧ (∀ y, D.str z = .str y → Few y.length ∧ PyData.strOk y = true) ∧ ∀ q, D.str z = frD q → Sm q := fun z hz =>
    ⟨rfl, fun y e => by cases e; exact nameB_few hz, fun q e => by rw [frD_def] at e; cases e⟩
  have ob : ∀ o, (∀ q, o = some q → Sm q) → tyOk A (obD o) = true ∧ (∀ y, obD o = .str y → Few y.length ∧ PyData.strOk y = true) ∧ ∀ q, obD o = frD q → Sm q := fun o ho =>
    ⟨tyOk_ob o, fun y e => (by
      cases o with
      | none => exact nomatch e
      | some q => rw [obD_some, frD_def] at e; exact nomatch e), fun q e => ho q (obD_inj (b := some q) e)⟩
  simp only [List.mem_cons, List.not_mem_nil, or_false] at hx
  rcases hx with rfl | rfl | rfl | rfl | rfl
  · exact str _ h.n1
  · exact str _ h.n2
  · exact str _ h.n3
  · exact ob _ s.1
  · exact ob _ s.2
@[simp] theorem putD_nil (f : String) (d : D) : putD f d [] = [(f, d)] := rfl
@[simp] theorem putD_cons (f g : String) (d x : D) (r : List (String × D)) : putD f d ((g, x) :: r) = if g = f then (g, d) :: r else (g, x) :: putD f d r := rfl
end FR

/-! TF0: typed programs, what stands in the slots. -/
namespace TF
open PySem PySem.Spec PyProof.Rows L2 DL FR

/-- what a typed program tells: a value, an exception, or nothing is promised -/
inductive R (α : Type) where
  | ok (a : α) | exc (c : String) (fs : List (String × D)) | bad
namespace R
variable {α β γ : Type}
def bind (m : R α) (f : α → R β) : R β := match m with
  | .ok a => f a
  | .exc c fs => .exc c fs
  | .bad => .bad
def wp (m : R α) (Q : α → Prop) (E : String → List (String × D) → Prop) : Prop := match m with
  | .ok a => Q a
  | .exc c fs => E c fs
  | .bad => False
abbrev map (m : R α) (f : α → β) : R β := m.bind fun a => .ok (f a)
abbrev b2 (m : R α) (n : R β) (F : α → β → R γ) : R γ := m.bind fun a => n.bind fun b => F a b
abbrev cond (m : R Bool) (a b : R β) : R β := m.bind fun c => if c = true then a else b
def noexc (m : R α) : R α := match m with
  | .ok a => .ok a
  | _ => .bad
@[simp] theorem ok_bind {a : α} {f : α → R β} : (ok a).bind f = f a := rfl
@[simp] theorem exc_bind {c fs} {f : α → R β} : (exc c fs : R α).bind f = .exc c fs := rfl
@[simp] theorem bad_bind {f : α → R β} : (bad : R α).bind f = .bad := rfl
@[simp] theorem noexc_ok {a : α} : (ok a).noexc = .ok a := rfl
theorem bind_assoc {m : R α} {f : α → R β} {g : β → R γ} : (m.bind f).bind g = m.bind fun a => (f a).bind g := by cases m <;> rfl
@[simp] theorem wp_ok {a : α} {Q : α → Prop} {E} : (ok a).wp Q E = Q a := rfl
@[simp] theorem wp_exc {c fs} {Q : α → Prop} {E} : (exc c fs : R α).wp Q E = E c fs := rfl
@[simp] theorem wp_bad {Q : α → Prop} {E} : (bad : R α).wp Q E = False := rfl
theorem wp_bind {m : R α} {f : α → R β} {Q : β → Prop} {E} : (m.bind f).wp Q E = m.wp (fun a => (f a).wp Q E) E := by cases m <;> rfl
theorem wp_imp {m : R α} {Q Q' : α → Prop} {E E'} (h : m.wp Q E) (hq : ∀ a, Q a → Q' a) (he : ∀ c fs, E c fs → E' c fs) : m.wp Q' E' := by
  cases m with
  | ok a => exact hq a h
  | exc c fs => exact he c fs h
  | bad => exact h
theorem wp_noexc {m : R α} {Q : α → Prop} {E E'} (h : m.noexc.wp Q E) : m.wp Q E' := by
  cases m with
  | ok a => exact h
  | exc c fs => exact h.elim
  | bad => exact h
end R

/-! ### values as data -/
class Enc (α : Type) where
  enc : α → D
  vw : AH → D → α → Prop := fun _ d a => d = enc a
  vw_enc : ∀ A a, vw A (enc a) a := by intros; rfl
  vw_mono : ∀ {A B d a}, Sub A B → vw A d a → vw B d a := by exact fun _ h => h
open Enc
structure T1 (α : Type) where a : α
  deriving DecidableEq
structure T3 (α β γ : Type) where (a : α) (b : β) (c : γ)
  deriving DecidableEq
structure T4 (α β γ δ : Type) where (a : α) (b : β) (c : γ) (d : δ)
  deriving DecidableEq
structure T5 (α β γ δ ε : Type) where (a : α) (b : β) (c : γ) (d : δ) (e : ε)
  deriving DecidableEq
structure T6 (α β γ δ ε ζ : Type) where (a : α) (b : β) (c : γ) (d : δ) (e : ε) (f : ζ)
  deriving DecidableEq
structure Dic (κ α : Type) where l : List (κ × α)
instance : Enc Int := { enc := .int }
instance : Enc Bool := { enc := .bl }
instance : Enc Str := { enc := .str }
instance : Enc Unit := { enc := fun _ => .non }
instance : Enc Rat := { enc := frD }
instance : Enc D := { enc := id }
section
variable {α β γ δ ε ζ κ : Type} [Enc α] [Enc β] [Enc γ] [Enc δ] [Enc ε] [Enc ζ]
instance : Enc (Option α) := { enc := fun o => match o with
  | none => .non
  | some a => enc a }
instance : Enc (T1 α) := { enc := fun t => .tup [enc t.a] }
instance : Enc (α × β) := { enc := fun t => .tup [enc t.1, enc t.2] }
instance : Enc (T3 α β γ) := { enc := fun t => .tup [enc t.a, enc t.b, enc t.c] }
instance : Enc (T4 α β γ δ) := { enc := fun t => .tup [enc t.a, enc t.b, enc t.c, enc t.d] }
instance : Enc (T5 α β γ δ ε) := { enc := fun t => .tup [enc t.a, enc t.b, enc t.c, enc t.d, enc t.e] }
instance : Enc (T6 α β γ δ ε ζ) := { enc := fun t => .tup [enc t.a, enc t.b, enc t.c, enc t.d, enc t.e, enc t.f] }
theorem asL_sub {A B : AH} (s : Sub A B) {d : D} {l : List D} (h : asL A d = some l) : asL B d = some l := by
  cases d with
  | ref a =>
    have h' : (match A a with | some (.lst l) => some l | _ => none) = some l := h
    show (match B a with | some (.lst l) => some l | _ => none) = some l
    split at h'
    · rename_i q; rw [s _ _ q]; exact h'
    · cases h'
  | _ => exact h
theorem asDic_sub {A B : AH} (s : Sub A B) {d : D} {l : List (Key × D)} (h : asDic A d = some l) : asDic B d = some l := by
  cases d with
  | ref a =>
    have h' : (match A a with | some (.dic l) => some l | _ => none) = some l := h
    show (match B a with | some (.dic l) => some l | _ => none) = some l
    split at h'
    · rename_i q; rw [s _ _ q]; exact h'
    · cases h'
  | _ => exact h
instance : Enc (List α) where
  enc l := .lst (l.map enc)
  vw A d l := asL A d = some (l.map enc)
  vw_enc _ _ := rfl
  vw_mono s h := asL_sub s h
class KeyT (κ : Type) where
  key : κ → Key
  inj : ∀ {a b}, key a = key b → a = b
instance : KeyT Int := ⟨.inl, fun h => Sum.inl.inj h⟩
instance : KeyT Str := ⟨.inr, fun h => Sum.inr.inj h⟩
open KeyT
variable [KeyT κ]
/-- a dict's entries as data -/
def encKV (l : List (κ × α)) : List (Key × D) := l.map fun p => (key p.1, enc p.2)
instance : Enc (Dic κ α) where
  enc d := .dic ((encKV d.l).map (·.1)) ((encKV d.l).map (·.2))
  vw A d l := asDic A d = some (encKV l.l)
  vw_enc _ _ := by show some (((encKV _).map (·.1)).zip ((encKV _).map (·.2))) = _; rw [zip_maps]
  vw_mono s h := asDic_sub s h
end
@[simp] theorem enc_int {i : Int} : enc i = .int i := rfl
@[simp] theorem enc_bool {i : Bool} : enc i = .bl i := rfl
@[simp] theorem enc_str {i : Str} : enc i = .str i := rfl
@[simp] theorem enc_unit {i : Unit} : enc i = .non := rfl
@[simp] theorem enc_rat {i : Rat} : enc i = frD i := rfl
@[simp] theorem enc_D {i : D} : enc i = i := rfl
instance : Enc TieV := { enc := fun t => .tup [enc t.name, enc t.start, enc t.fin, enc t.low, enc t.high] }
theorem enc_opt (o : Option Rat) : enc o = obD o := by cases o <;> rfl
theorem enc_tie (t : TieV) : enc t = tieD t := by
  show D.tup [enc t.name, enc t.start, enc t.fin, enc t.low, enc t.high] = _
  rw [enc_opt, enc_opt]; rfl

/-! ### slots -/
/-- what a slot's own object is: a list or a dict, or an object (its address known or not) with fields, each a value or a list or dict of its own -/
inductive OT where
  | ao (o : AO)
  | ob (c : String) (pin : Option Addr) (fs : List (String × (D ⊕ AO)))
/-- fields: the values as told, the own ones behind addresses apart -/
def OwnF (A : AH) : List (String × (D ⊕ AO)) → List (String × D) → List Addr → Prop
  | [], r, B => r = [] ∧ B = []
  | (f, .inl d) :: fs, r, B => ∃ r', r = (f, d) :: r' ∧ OwnF A fs r' B
  | (f, .inr o) :: fs, r, B => ∃ r' q B', r = (f, .ref q) :: r' ∧ A q = some o ∧ q ∉ B' ∧ B = q :: B' ∧ OwnF A fs r' B'
theorem OwnF.frame {A A' : AH} : ∀ {fs : List (String × (D ⊕ AO))} {r : List (String × D)} {B : List Addr}, OwnF A fs r B → (∀ a ∈ B, A' a = A a) → OwnF A' fs r B
  | [], _, _, h, _ => h
  | (_, .inl _) :: _, _, _, ⟨r', e, h⟩, q => ⟨r', e, h.frame q⟩
  | (_, .inr _) :: _, _, _, ⟨r', x, B', e1, e2, e3, e4, h⟩, q => by
    subst e4
    exact ⟨r', x, B', e1, by rw [q x List.mem_cons_self]; exact e2, e3, rfl, h.frame fun a ha => q a (List.mem_cons_of_mem _ ha)⟩
theorem OwnF.there {A : AH} : ∀ {fs : List (String × (D ⊕ AO))} {r : List (String × D)} {B : List Addr}, OwnF A fs r B → ∀ a ∈ B, A a ≠ none
  | [], _, _, ⟨_, e⟩, a, ha => by subst e; cases ha
  | (_, .inl _) :: _, _, _, ⟨_, _, h⟩, a, ha => h.there a ha
  | (_, .inr _) :: _, _, _, ⟨r', x, B', e1, e2, e3, e4, h⟩, a, ha => by
    subst e4
    rcases List.mem_cons.mp ha with rfl | ha
    · rw [e2]; intro z; cases z
    · exact h.there a ha
def Own (A : AH) : OT → Addr → List Addr → Prop
  | .ao o, p, B => A p = some o ∧ B = [p]
  | .ob c pin fs, p, B => ∃ r B', A p = some (.obj c r) ∧ OwnF A fs r B' ∧ p ∉ B' ∧ B = p :: B' ∧ ∀ x, pin = some x → p = x
theorem Own.frame {A A' : AH} : ∀ {t : OT} {p : Addr} {B : List Addr}, Own A t p B → (∀ a ∈ B, A' a = A a) → Own A' t p B
  | .ao o, p, B, ⟨h, e⟩, q => by subst e; exact ⟨by rw [q p (List.mem_singleton.mpr rfl)]; exact h, rfl⟩
  | .ob c pin fs, p, B, ⟨r, B', h1, h2, h3, e, hp⟩, q => by
    subst e
    exact ⟨r, B', by rw [q p List.mem_cons_self]; exact h1, h2.frame fun a ha => q a (List.mem_cons_of_mem _ ha), h3, rfl, hp⟩
theorem Own.there {A : AH} : ∀ {t : OT} {p : Addr} {B : List Addr}, Own A t p B → ∀ a ∈ B, A a ≠ none
  | .ao o, p, B, ⟨h, e⟩, a, ha => by subst e; rw [List.mem_singleton.mp ha, h]; intro z; cases z
  | .ob c pin fs, p, B, ⟨r, B', h1, h2, h3, e, _⟩, a, ha => by
    subst e
    rcases List.mem_cons.mp ha with rfl | ha
    · rw [h1]; intro z; cases z
    · exact h2.there a ha
inductive Sl where
  | emp | val (d : D) | own (t : OT)
inductive EnvR (A0 A : AH) : List Addr → List Sl → DSt → Prop
  | nil : EnvR A0 A [] [] []
  | emp {B ss δ x} : EnvR A0 A B ss δ → EnvR A0 A B (.emp :: ss) (x :: δ)
  | val {B ss δ d} : EnvR A0 A B ss δ → EnvR A0 A B (.val d :: ss) (some d :: δ)
  | own {B C ss δ t p} : EnvR A0 A B ss δ → Own A t p C → (∀ a ∈ C, a ∉ B) → (∀ a ∈ C, A0 a = none) → EnvR A0 A (C ++ B) (.own t :: ss) (some (.ref p) :: δ)
structure Env (A0 : AH) (ss : List Sl) (δ : DSt) (A : AH) : Prop where
  sub : Sub A0 A
  ex : ∃ B, EnvR A0 A B ss δ
theorem EnvR.frame {A0 A A' : AH} {B : List Addr} {ss : List Sl} {δ : DSt} (h : EnvR A0 A B ss δ) (q : ∀ a ∈ B, A' a = A a) : EnvR A0 A' B ss δ := by
  induction h with
  | nil => exact .nil
  | emp _ ih => exact .emp (ih q)
  | val _ ih => exact .val (ih q)
  | own r o h1 h2 ih => exact .own (ih fun a ha => q a (List.mem_append_right _ ha)) (o.frame fun a ha => q a (List.mem_append_left _ ha)) h1 h2
theorem EnvR.there {A0 A : AH} {B : List Addr} {ss : List Sl} {δ : DSt} (h : EnvR A0 A B ss δ) : ∀ a ∈ B, A a ≠ none ∧ A0 a = none := by
  induction h with
  | nil => intro a ha; cases ha
  | emp _ ih => exact ih
  | val _ ih => exact ih
  | own r o h1 h2 ih =>
    intro a ha
    rcases List.mem_append.mp ha with ha | ha
    · exact ⟨o.there a ha, h2 a ha⟩
    · exact ih a ha
theorem EnvR.get_val {A0 A : AH} {B : List Addr} {ss : List Sl} {δ : DSt} (h : EnvR A0 A B ss δ) : ∀ {i : Nat} {d : D}, ss[i]? = some (.val d) → δ[i]? = some (some d) := by
  induction h with
  | nil => intro i d e; simp at e
  | emp _ ih =>
    intro i d e
    cases i with
    | zero => simp at e
    | succ i => exact ih (by simpa using e)
  | val _ ih =>
    intro i d e
    cases i with
    | zero => simp at e; subst e; rfl
    | succ i => exact ih (by simpa using e)
  | own r o h1 h2 ih =>
    intro i d e
    cases i with
    | zero => simp at e
    | succ i => exact ih (by simpa using e)
theorem EnvR.get_own {A0 A : AH} {B : List Addr} {ss : List Sl} {δ : DSt} (h : EnvR A0 A B ss δ) : ∀ {i : Nat} {t : OT}, ss[i]? = some (.own t) → ∃ p C, δ[i]? = some (some (.ref p)) ∧ Own A t p C ∧ ∀ a ∈ C, a ∈ B := by
  induction h with
  | nil => intro i d e; simp at e
  | emp _ ih =>
    intro i d e
    cases i with
    | zero => simp at e
    | succ i => exact ih (by simpa using e)
  | val _ ih =>
    intro i d e
    cases i with
    | zero => simp at e
    | succ i => exact ih (by simpa using e)
  | own r o h1 h2 ih =>
    intro i d e
    cases i with
    | zero => simp at e; subst e; exact ⟨_, _, rfl, o, fun a ha => List.mem_append_left _ ha⟩
    | succ i =>
      obtain ⟨p, C, e1, e2, e3⟩ := ih (i := i) (t := d) (by simpa using e)
      exact ⟨p, C, e1, e2, fun a ha => List.mem_append_right _ (e3 a ha)⟩
/-- a slot set to a value, or forgotten: what was its own may go -/
theorem EnvR.set_val {A0 A : AH} {B : List Addr} {ss : List Sl} {δ : DSt} (h : EnvR A0 A B ss δ) : ∀ (i : Nat) (d : D), ∃ B', (∀ a ∈ B', a ∈ B) ∧ EnvR A0 A B' (ss.set i (.val d)) (δ.set i (some d)) := by
  induction h with
  | nil => intro i d; exact ⟨[], fun _ h => h, .nil⟩
  | emp r ih =>
    intro i d
    cases i with
    | zero => exact ⟨_, fun _ h => h, .val r⟩
    | succ i => obtain ⟨B', h1, h2⟩ := ih i d; exact ⟨B', h1, .emp h2⟩
  | val r ih =>
    intro i d
    cases i with
    | zero => exact ⟨_, fun _ h => h, .val r⟩
    | succ i => obtain ⟨B', h1, h2⟩ := ih i d; exact ⟨B', h1, .val h2⟩
  | own r o h1 h2 ih =>
    intro i d
    cases i with
    | zero => exact ⟨_, fun a h => List.mem_append_right _ h, .val r⟩
    | succ i =>
      obtain ⟨B', q1, q2⟩ := ih i d
      exact ⟨_, fun a h => (List.mem_append.mp h).elim (List.mem_append_left _) fun h => List.mem_append_right _ (q1 a h), .own q2 o (fun a ha hb => h1 a ha (q1 a hb)) h2⟩
theorem EnvR.set_emp {A0 A : AH} {B : List Addr} {ss : List Sl} {δ : DSt} (h : EnvR A0 A B ss δ) : ∀ (i : Nat), ∃ B', (∀ a ∈ B', a ∈ B) ∧ EnvR A0 A B' (ss.set i .emp) δ := by
  induction h with
  | nil => intro i; exact ⟨[], fun _ h => h, .nil⟩
  | emp r ih =>
    intro i
    cases i with
    | zero => exact ⟨_, fun _ h => h, .emp r⟩
    | succ i => obtain ⟨B', h1, h2⟩ := ih i; exact ⟨B', h1, .emp h2⟩
  | val r ih =>
    intro i
    cases i with
    | zero => exact ⟨_, fun _ h => h, .emp r⟩
    | succ i => obtain ⟨B', h1, h2⟩ := ih i; exact ⟨B', h1, .val h2⟩
  | own r o h1 h2 ih =>
    intro i
    cases i with
    | zero => exact ⟨_, fun a h => List.mem_append_right _ h, .emp r⟩
    | succ i =>
      obtain ⟨B', q1, q2⟩ := ih i
      exact ⟨_, fun a h => (List.mem_append.mp h).elim (List.mem_append_left _) fun h => List.mem_append_right _ (q1 a h), .own q2 o (fun a ha hb => h1 a ha (q1 a hb)) h2⟩
theorem EnvR.set_any {A0 A : AH} {B : List Addr} {ss : List Sl} {δ : DSt} (h : EnvR A0 A B ss δ) : ∀ (i : Nat) (x : Option D), ∃ B', (∀ a ∈ B', a ∈ B) ∧ EnvR A0 A B' (ss.set i .emp) (δ.set i x) := by
  induction h with
  | nil => intro i x; exact ⟨[], fun _ h => h, .nil⟩
  | emp r ih =>
    intro i x
    cases i with
    | zero => exact ⟨_, fun _ h => h, .emp r⟩
    | succ i => obtain ⟨B', h1, h2⟩ := ih i x; exact ⟨B', h1, .emp h2⟩
  | val r ih =>
    intro i x
    cases i with
    | zero => exact ⟨_, fun _ h => h, .emp r⟩
    | succ i => obtain ⟨B', h1, h2⟩ := ih i x; exact ⟨B', h1, .val h2⟩
  | own r o h1 h2 ih =>
    intro i x
    cases i with
    | zero => exact ⟨_, fun a h => List.mem_append_right _ h, .emp r⟩
    | succ i =>
      obtain ⟨B', q1, q2⟩ := ih i x
      exact ⟨_, fun a h => (List.mem_append.mp h).elim (List.mem_append_left _) fun h => List.mem_append_right _ (q1 a h), .own q2 o (fun a ha hb => h1 a ha (q1 a hb)) h2⟩
/-- a slot gets an own object that stands apart from all others -/
theorem EnvR.set_own {A0 A : AH} {B : List Addr} {ss : List Sl} {δ : DSt} (h : EnvR A0 A B ss δ) : ∀ (i : Nat) {t : OT} {p : Addr} {C : List Addr}, Own A t p C → (∀ a ∈ C, a ∉ B) → (∀ a ∈ C, A0 a = none) → ∃ B', (∀ a ∈ B', a ∈ C ∨ a ∈ B) ∧ EnvR A0 A B' (ss.set i (.own t)) (δ.set i (some (.ref p))) := by
  induction h with
  | nil => intro i t p C o h1 h2; exact ⟨[], fun _ h => .inr h, .nil⟩
  | emp r ih =>
    intro i t p C o h1 h2
    cases i with
    | zero => exact ⟨_, fun a h => List.mem_append.mp h, .own r o h1 h2⟩
    | succ i => obtain ⟨B', q1, q2⟩ := ih i o h1 h2; exact ⟨B', q1, .emp q2⟩
  | val r ih =>
    intro i t p C o h1 h2
    cases i with
    | zero => exact ⟨_, fun a h => List.mem_append.mp h, .own r o h1 h2⟩
    | succ i => obtain ⟨B', q1, q2⟩ := ih i o h1 h2; exact ⟨B', q1, .val q2⟩
  | own r o' g1 g2 ih =>
    intro i t p C o h1 h2
    cases i with
    | zero => exact ⟨_, fun a h => (List.mem_append.mp h).imp id (List.mem_append_right _), .own r o (fun a ha hb => h1 a ha (List.mem_append_right _ hb)) h2⟩
    | succ i =>
      obtain ⟨B', q1, q2⟩ := ih i o (fun a ha hb => h1 a ha (List.mem_append_right _ hb)) h2
      refine ⟨_, fun a h => (List.mem_append.mp h).elim (fun h => .inr (List.mem_append_left _ h)) fun h => (q1 a h).imp id (List.mem_append_right _), .own q2 o' (fun a ha hb => ?_) g2⟩
      rcases q1 a hb with hb | hb
      · exact h1 a hb (List.mem_append_left _ ha)
      · exact g1 a ha hb
/-- the own object of a slot and the rest apart -/
theorem EnvR.split_own {A0 A : AH} {B : List Addr} {ss : List Sl} {δ : DSt} (h : EnvR A0 A B ss δ) : ∀ {i : Nat} {t : OT}, ss[i]? = some (.own t) → ∃ p C B', δ[i]? = some (some (.ref p)) ∧ Own A t p C ∧ (∀ a ∈ C, A0 a = none) ∧ (∀ a ∈ C, a ∉ B') ∧ (∀ a ∈ C, a ∈ B) ∧ (∀ a ∈ B', a ∈ B) ∧ EnvR A0 A B' (ss.set i .emp) δ := by
  induction h with
  | nil => intro i d e; simp at e
  | emp _ ih =>
    intro i d e
    cases i with
    | zero => simp at e
    | succ i =>
      obtain ⟨p, C, B', e1, e2, e3, e4, e5, e6, e7⟩ := ih (i := i) (t := d) (by simpa using e)
      exact ⟨p, C, B', e1, e2, e3, e4, e5, e6, .emp e7⟩
  | val _ ih =>
    intro i d e
    cases i with
    | zero => simp at e
    | succ i =>
      obtain ⟨p, C, B', e1, e2, e3, e4, e5, e6, e7⟩ := ih (i := i) (t := d) (by simpa using e)
      exact ⟨p, C, B', e1, e2, e3, e4, e5, e6, .val e7⟩
  | own r o h1 h2 ih =>
    intro i d e
    cases i with
    | zero => simp at e; subst e; exact ⟨_, _, _, rfl, o, h2, h1, fun a ha => List.mem_append_left _ ha, fun a ha => List.mem_append_right _ ha, .emp r⟩
    | succ i =>
      obtain ⟨p, C, B', e1, e2, e3, e4, e5, e6, e7⟩ := ih (i := i) (t := d) (by simpa using e)
      refine ⟨p, C, _, e1, e2, e3, fun a ha hb => ?_, fun a ha => List.mem_append_right _ (e5 a ha), fun a ha => (List.mem_append.mp ha).elim (List.mem_append_left _) fun h => List.mem_append_right _ (e6 a h), .own e7 o (fun a ha hb => h1 a ha (e6 a hb)) h2⟩
      rcases List.mem_append.mp hb with hb | hb
      · exact h1 a hb (e5 a ha)
      · exact e4 a ha hb
section
variable {A0 A : AH} {ss : List Sl} {δ : DSt} {i : Nat} {d : D} {p : Addr} {o : AO} {t : OT}
theorem Env.get_val (h : Env A0 ss δ A) (e : ss[i]? = some (.val d)) : δ[i]? = some (some d) := by obtain ⟨_, B, h⟩ := h; exact h.get_val e
theorem Env.set_val (h : Env A0 ss δ A) (i : Nat) (d : D) : Env A0 (ss.set i (.val d)) (δ.set i (some d)) A := by
  obtain ⟨s, B, h⟩ := h
  obtain ⟨B', _, q⟩ := h.set_val i d
  exact ⟨s, B', q⟩
theorem Env.set_emp (h : Env A0 ss δ A) (i : Nat) : Env A0 (ss.set i .emp) δ A := by
  obtain ⟨s, B, h⟩ := h
  obtain ⟨B', _, q⟩ := h.set_emp i
  exact ⟨s, B', q⟩
theorem Env.set_any (h : Env A0 ss δ A) (i : Nat) (x : Option D) : Env A0 (ss.set i .emp) (δ.set i x) A := by
  obtain ⟨s, B, h⟩ := h
  obtain ⟨B', _, q⟩ := h.set_any i x
  exact ⟨s, B', q⟩
theorem sub_none {A B : AH} (s : Sub A B) {p : Addr} (h : B p = none) : A p = none := by
  cases e : A p with
  | none => rfl
  | some o => rw [s p o e] at h; cases h
/-- what is new may stand beside -/
theorem Env.put (h : Env A0 ss δ A) (hp : A p = none) : Env A0 ss δ (A.put p o) := by
  obtain ⟨s, B, h⟩ := h
  refine ⟨fun a u e => ?_, B, h.frame fun a ha => ?_⟩
  · have hn : a ≠ p := fun z => by rw [z, sub_none s hp] at e; cases e
    rw [AH.put_ne A o hn]; exact s a u e
  · have hn : a ≠ p := fun z => (h.there a ha).1 (by rw [z, hp])
    exact AH.put_ne A o hn
/-- a new own object -/
theorem Env.new {A' : AH} {C : List Addr} (h : Env A0 ss δ A) (ho : Own A' t p C) (hn : ∀ a ∈ C, A a = none) (hs : ∀ a, a ∉ C → A' a = A a) : Env A0 (ss.set i (.own t)) (δ.set i (some (.ref p))) A' := by
  obtain ⟨s, B, h⟩ := h
  have hd : ∀ a ∈ C, a ∉ B := fun a ha hb => (h.there a hb).1 (hn a ha)
  have h' : EnvR A0 A' B ss δ := h.frame fun a ha => hs a fun hc => hd a hc ha
  obtain ⟨B', _, q⟩ := h'.set_own i ho hd fun a ha => sub_none s (hn a ha)
  refine ⟨fun a u e => ?_, B', q⟩
  have hc : a ∉ C := fun hc => by
    have := s a u e
    rw [hn a hc] at this; cases this
  rw [hs a hc]; exact s a u e
/-- an own object is changed -/
theorem Env.upd_own {o' : AO} (h : Env A0 ss δ A) (e : ss[i]? = some (.own (.ao o))) : ∃ p, δ[i]? = some (some (.ref p)) ∧ A p = some o ∧ Env A0 (ss.set i (.own (.ao o'))) δ (A.put p o') := by
  obtain ⟨s, B, h⟩ := h
  obtain ⟨p, C, B', e1, ⟨e2, e2'⟩, e3, e4, e5, e6, e7⟩ := h.split_own e
  subst e2'
  have hp : p ∈ [p] := List.mem_singleton.mpr rfl
  refine ⟨p, e1, e2, ⟨fun a u q => ?_, ?_⟩⟩
  · have hn : a ≠ p := fun z => by rw [z, e3 p hp] at q; cases q
    rw [AH.put_ne A o' hn]; exact s a u q
  · have h' : EnvR A0 (A.put p o') B' (ss.set i .emp) δ := e7.frame fun a ha => AH.put_ne A o' fun z => e4 p hp (z ▸ ha)
    obtain ⟨B2, _, q⟩ := h'.set_own i (t := .ao o') (p := p) (C := [p]) ⟨AH.put_same .., rfl⟩ e4 e3
    rw [List.set_set] at q
    have hδ : δ.set i (some (.ref p)) = δ := by
      apply List.ext_getElem?
      intro j
      rw [List.getElem?_set]
      split
      · rename_i hj; subst hj
        split
        · exact e1.symm
        · rename_i hl; exact (List.getElem?_eq_none (by omega)).symm
      · rfl
    rw [hδ] at q
    exact ⟨B2, q⟩
theorem Env.get_own (h : Env A0 ss δ A) (e : ss[i]? = some (.own (.ao o))) : ∃ p, δ[i]? = some (some (.ref p)) ∧ A p = some o ∧ A0 p = none := by
  obtain ⟨s, B, h⟩ := h
  obtain ⟨p, C, B', e1, ⟨e2, e2'⟩, e3, e4, e5, e6, e7⟩ := h.split_own e
  subst e2'
  exact ⟨p, e1, e2, e3 p (List.mem_singleton.mpr rfl)⟩
/-- an own object goes -/
theorem Env.del_own (h : Env A0 ss δ A) (e : ss[i]? = some (.own (.ao o))) : ∃ p, δ[i]? = some (some (.ref p)) ∧ A p = some o ∧ Env A0 (ss.set i .emp) δ (A.del p) := by
  obtain ⟨s, B, h⟩ := h
  obtain ⟨p, C, B', e1, ⟨e2, e2'⟩, e3, e4, e5, e6, e7⟩ := h.split_own e
  subst e2'
  have hp : p ∈ [p] := List.mem_singleton.mpr rfl
  refine ⟨p, e1, e2, ⟨fun a u q => ?_, B', e7.frame fun a ha => AH.del_ne A fun z => e4 p hp (z ▸ ha)⟩⟩
  have hn : a ≠ p := fun z => by rw [z, e3 p hp] at q; cases q
  rw [AH.del_ne A hn]; exact s a u q
end
end TF

/-! TF1: what a reading tells of a typed expression. -/
namespace TF
open PySem PySem.Spec PyProof.Rows L2 DL FR
open Enc KeyT
section
variable {α β γ δ' ε ζ κ : Type} [Enc α] [Enc β] [Enc γ] [Enc δ'] [Enc ε] [Enc ζ] [KeyT κ]
variable {w : DW} {A0 A : AH} {ss : List Sl} {δ : DSt} {Q : DK}

/-- the value is just this data -/
def SE (w : DW) (A0 : AH) (ss : List Sl) (t : DE) (m : R α) : Prop := ∀ (δ : DSt) (A : AH) (Q : DK), Env A0 ss δ A → m.wp (fun a => Q (enc a) A) (fun c fs => w c fs δ A) → t δ A Q
/-- the value may be read as this -/
def SV (w : DW) (A0 : AH) (ss : List Sl) (t : DE) (m : R α) : Prop := ∀ (δ : DSt) (A : AH) (Q : DK), Env A0 ss δ A → m.wp (fun a => ∀ d, vw A d a → Q d A) (fun c fs => w c fs δ A) → t δ A Q
def ST (w : DW) (A0 : AH) (ss : List Sl) (t : DT) (m : R Bool) : Prop := ∀ (δ : DSt) (A : AH) (Q : Bool → AH → Prop), Env A0 ss δ A → m.wp (fun a => Q a A) (fun c fs => w c fs δ A) → t δ A Q
/-- A' is A and a new own object beside -/
structure New (A : AH) (t : OT) (p : Addr) (A' : AH) : Prop where
  ex : ∃ C, Own A' t p C ∧ (∀ a ∈ C, A a = none) ∧ ∀ a, a ∉ C → A' a = A a
theorem New.put {p : Addr} {o : AO} (h : A p = none) : New A (.ao o) p (A.put p o) :=
  ⟨[p], ⟨AH.put_same .., rfl⟩, fun a ha => by rw [List.mem_singleton.mp ha]; exact h, fun a ha => AH.put_ne A o fun e => ha (List.mem_singleton.mpr e)⟩
/-- the value is a new own object -/
def SO {τ : Type} (w : DW) (A0 : AH) (ss : List Sl) (t : DE) (m : R τ) (o : τ → OT) : Prop := ∀ (δ : DSt) (A : AH) (Q : DK), Env A0 ss δ A → m.wp (fun a => ∀ p A', New A (o a) p A' → Q (.ref p) A') (fun c fs => w c fs δ A) → t δ A Q
/-- arguments, each just this data -/
def SEs (w : DW) (A0 : AH) (ss : List Sl) (t : DA) (m : R (List α)) : Prop := ∀ (δ : DSt) (A : AH) (Q : List D → AH → Prop), Env A0 ss δ A → m.wp (fun l => Q (l.map enc) A) (fun c fs => w c fs δ A) → t δ A Q

theorem SE.run {t : DE} {m : R α} {τ : Type} {k : α → R τ} {V : τ → Prop} {X} (h : SE w A0 ss t m) (e : Env A0 ss δ A) (hw : (m.bind k).wp V X) (hx : ∀ c fs, X c fs → w c fs δ A) (hk : ∀ a, (k a).wp V X → Q (enc a) A) : t δ A Q :=
  h δ A Q e (by rw [R.wp_bind] at hw; exact R.wp_imp hw hk hx)
theorem SV.run {t : DE} {m : R α} {τ : Type} {k : α → R τ} {V : τ → Prop} {X} (h : SV w A0 ss t m) (e : Env A0 ss δ A) (hw : (m.bind k).wp V X) (hx : ∀ c fs, X c fs → w c fs δ A) (hk : ∀ a d, vw A d a → (k a).wp V X → Q d A) : t δ A Q :=
  h δ A Q e (by rw [R.wp_bind] at hw; exact R.wp_imp hw (fun a ha d hd => hk a d hd ha) hx)
theorem ST.run {t : DT} {m : R Bool} {τ : Type} {k : Bool → R τ} {V : τ → Prop} {X} {Q : Bool → AH → Prop} (h : ST w A0 ss t m) (e : Env A0 ss δ A) (hw : (m.bind k).wp V X) (hx : ∀ c fs, X c fs → w c fs δ A) (hk : ∀ a, (k a).wp V X → Q a A) : t δ A Q :=
  h δ A Q e (by rw [R.wp_bind] at hw; exact R.wp_imp hw hk hx)
theorem SO.run {t : DE} {τ' : Type} {m : R τ'} {o : τ' → OT} {τ : Type} {k : τ' → R τ} {V : τ → Prop} {X} (h : SO w A0 ss t m o) (e : Env A0 ss δ A) (hw : (m.bind k).wp V X) (hx : ∀ c fs, X c fs → w c fs δ A) (hk : ∀ a p A', New A (o a) p A' → (k a).wp V X → Q (.ref p) A') : t δ A Q :=
  h δ A Q e (by rw [R.wp_bind] at hw; exact R.wp_imp hw (fun a ha p A' hn => hk a p A' hn ha) hx)
theorem SEs.run {t : DA} {m : R (List α)} {τ : Type} {k : List α → R τ} {V : τ → Prop} {X} {Q : List D → AH → Prop} (h : SEs w A0 ss t m) (e : Env A0 ss δ A) (hw : (m.bind k).wp V X) (hx : ∀ c fs, X c fs → w c fs δ A) (hk : ∀ l, (k l).wp V X → Q (l.map enc) A) : t δ A Q :=
  h δ A Q e (by rw [R.wp_bind] at hw; exact R.wp_imp hw hk hx)
theorem id_x {c : String} {fs : List (String × D)} : w c fs δ A → w c fs δ A := id
theorem SE.v {t : DE} {m : R α} (h : SE w A0 ss t m) : SV w A0 ss t m := fun δ A Q e hw => h δ A Q e (R.wp_imp hw (fun a ha => ha _ (vw_enc A a)) fun _ _ h => h)

/-! ### names, constants -/
theorem se_var {i : Nat} {a : α} (h : ss[i]? = some (.val (enc a))) : SE w A0 ss (eVar i) (.ok a) := fun δ A Q e hw => by
  rw [eVar_eq (e.get_val h)]; exact hw
theorem sv_var {i : Nat} {d : D} {a : α} (h : ss[i]? = some (.val d)) (v : vw A0 d a) : SV w A0 ss (eVar i) (.ok a) := fun δ A Q e hw => by
  rw [eVar_eq (e.get_val h)]; exact hw d (vw_mono e.sub v)
theorem sv_own {i : Nat} {l : List α} (h : ss[i]? = some (.own (.ao (.lst (l.map enc))))) : SV w A0 ss (eVar i) (.ok l) := fun δ A Q e hw => by
  obtain ⟨p, h1, h2, _⟩ := e.get_own h
  rw [eVar_eq h1]
  refine hw _ ?_
  show (match A p with | some (.lst l) => some l | _ => none) = _
  rw [h2]
theorem sv_ownD {i : Nat} {l : Dic κ α} (h : ss[i]? = some (.own (.ao (.dic (encKV l.l))))) : SV w A0 ss (eVar i) (.ok l) := fun δ A Q e hw => by
  obtain ⟨p, h1, h2, _⟩ := e.get_own h
  rw [eVar_eq h1]
  refine hw _ ?_
  show (match A p with | some (.dic l) => some l | _ => none) = _
  rw [h2]
theorem se_int (i : Int) : SE w A0 ss (eC (.int i)) (.ok i) := fun δ A Q e hw => hw
theorem se_bl (i : Bool) : SE w A0 ss (eC (.bl i)) (.ok i) := fun δ A Q e hw => hw
theorem se_str (i : Str) : SE w A0 ss (eC (.str i)) (.ok i) := fun δ A Q e hw => hw
theorem se_non : SE w A0 ss (eC .non) (.ok (none : Option α)) := fun δ A Q e hw => hw
theorem se_unit : SE w A0 ss (eC .non) (.ok ()) := fun δ A Q e hw => hw
/-- the same data, told otherwise -/
theorem se_co {t : DE} {m : R α} (f : α → β) (hf : ∀ a, (enc (f a) : D) = enc a) (h : SE w A0 ss t m) : SE w A0 ss t (m.map f) := fun δ A Q e hw =>
  h.run e hw (fun _ _ => id) fun a ha => by rw [← hf a]; exact ha
theorem se_coM {t : DE} {m : R α} (f : α → R β) (hf : ∀ a b, f a = .ok b → (enc b : D) = enc a) (hx : ∀ a c fs, f a ≠ .exc c fs) (h : SE w A0 ss t m) : SE w A0 ss t (m.bind f) := fun δ A Q e hw =>
  h.run e hw (fun _ _ => id) fun a ha => by
    cases hb : f a with
    | ok b => rw [hb] at ha; rw [← hf a b hb]; exact ha
    | exc c fs => exact absurd hb (hx a c fs)
    | bad => rw [hb] at ha; exact ha.elim
theorem se_some {t : DE} {m : R α} (h : SE w A0 ss t m) : SE w A0 ss t (m.map some) := se_co some (fun _ => rfl) h
def unw (o : Option α) : R α := match o with
  | some a => .ok a
  | none => .bad
omit [Enc α] in
@[simp] theorem unw_some {a : α} : unw (some a) = .ok a := rfl
omit [Enc α] in
@[simp] theorem unw_none : unw (none : Option α) = .bad := rfl
theorem se_unw {t : DE} {m : R (Option α)} (h : SE w A0 ss t m) : SE w A0 ss t (m.bind unw) := se_coM unw (fun a b e => by cases a <;> cases e; rfl) (fun a c fs e => by cases a <;> cases e) h
theorem se_dyn {t : DE} {m : R α} (h : SE w A0 ss t m) : SE w A0 ss t (m.map enc) := se_co enc (fun _ => rfl) h
/-- a pair that is a fraction -/
def toRat (p : Int × Int) : R Rat := if h : 0 < p.2 ∧ p.1.natAbs.gcd p.2.natAbs = 1 then .ok ⟨p.1, p.2.natAbs, by omega, h.2⟩ else .bad
theorem se_toRat {t : DE} {m : R (Int × Int)} (h : SE w A0 ss t m) : SE w A0 ss t (m.bind toRat) := se_coM toRat (fun a b e => by
  unfold toRat at e
  split at e
  · rename_i h; cases e
    show frD _ = _
    rw [frD_def]
    have : ((a.2.natAbs : Nat) : Int) = a.2 := by omega
    show D.tup [.int a.1, .int (a.2.natAbs : Nat)] = _
    rw [this]; rfl
  · cases e) (fun a c fs e => by unfold toRat at e; split at e <;> cases e) h
def ofRat (q : Rat) : Int × Int := (q.num, q.den)
theorem se_ofRat {t : DE} {m : R Rat} (h : SE w A0 ss t m) : SE w A0 ss t (m.map ofRat) := se_co ofRat (fun q => (frD_def q).symm) h
@[simp] theorem toRat_num (q : Rat) : toRat (q.num, (q.den : Int)) = .ok q := by
  unfold toRat
  rw [dif_pos ⟨by have := q.den_pos; show (0 : Int) < (q.den : Int); omega, q.reduced⟩]
  congr 1

/-! ### tuples, lists -/
theorem se_tup1 {t1 : DE} {m1 : R α} (h1 : SE w A0 ss t1 m1) : SE w A0 ss (eTup (aCons t1 aNil)) (m1.map T1.mk) := fun δ A Q e hw =>
  h1.run e hw (fun _ _ => id) fun a hw => ⟨by show (1 : Nat) < _; decide, hw⟩
theorem se_tup2 {t1 t2 : DE} {m1 : R α} {m2 : R β} (h1 : SE w A0 ss t1 m1) (h2 : SE w A0 ss t2 m2) : SE w A0 ss (eTup (aCons t1 (aCons t2 aNil))) (m1.bind fun a => m2.bind fun b => .ok (a, b)) := fun δ A Q e hw =>
  h1.run e hw (fun _ _ => id) fun a hw => h2.run e hw (fun _ _ => id) fun b hw => ⟨by show (2 : Nat) < _; decide, hw⟩
theorem se_tup3 {t1 t2 t3 : DE} {m1 : R α} {m2 : R β} {m3 : R γ} (h1 : SE w A0 ss t1 m1) (h2 : SE w A0 ss t2 m2) (h3 : SE w A0 ss t3 m3) :
    SE w A0 ss (eTup (aCons t1 (aCons t2 (aCons t3 aNil)))) (m1.bind fun a => m2.bind fun b => m3.bind fun c => .ok (T3.mk a b c)) := fun δ A Q e hw =>
  h1.run e hw (fun _ _ => id) fun a hw => h2.run e hw (fun _ _ => id) fun b hw => h3.run e hw (fun _ _ => id) fun c hw => ⟨by show (3 : Nat) < _; decide, hw⟩
theorem se_tup4 {t1 t2 t3 t4 : DE} {m1 : R α} {m2 : R β} {m3 : R γ} {m4 : R δ'} (h1 : SE w A0 ss t1 m1) (h2 : SE w A0 ss t2 m2) (h3 : SE w A0 ss t3 m3) (h4 : SE w A0 ss t4 m4) :
    SE w A0 ss (eTup (aCons t1 (aCons t2 (aCons t3 (aCons t4 aNil))))) (m1.bind fun a => m2.bind fun b => m3.bind fun c => m4.bind fun d => .ok (T4.mk a b c d)) := fun δ A Q e hw =>
  h1.run e hw (fun _ _ => id) fun a hw => h2.run e hw (fun _ _ => id) fun b hw => h3.run e hw (fun _ _ => id) fun c hw => h4.run e hw (fun _ _ => id) fun d hw => ⟨by show (4 : Nat) < _; decide, hw⟩
theorem se_tup5 {t1 t2 t3 t4 t5 : DE} {m1 : R α} {m2 : R β} {m3 : R γ} {m4 : R δ'} {m5 : R ε} (h1 : SE w A0 ss t1 m1) (h2 : SE w A0 ss t2 m2) (h3 : SE w A0 ss t3 m3) (h4 : SE w A0 ss t4 m4) (h5 : SE w A0 ss t5 m5) :
    SE w A0 ss (eTup (aCons t1 (aCons t2 (aCons t3 (aCons t4 (aCons t5 aNil)))))) (m1.bind fun a => m2.bind fun b => m3.bind fun c => m4.bind fun d => m5.bind fun e => .ok (T5.mk a b c d e)) := fun δ A Q e hw =>
  h1.run e hw (fun _ _ => id) fun a hw => h2.run e hw (fun _ _ => id) fun b hw => h3.run e hw (fun _ _ => id) fun c hw => h4.run e hw (fun _ _ => id) fun d hw => h5.run e hw (fun _ _ => id) fun d hw => ⟨by show (5 : Nat) < _; decide, hw⟩
theorem se_tup6 {t1 t2 t3 t4 t5 t6 : DE} {m1 : R α} {m2 : R β} {m3 : R γ} {m4 : R δ'} {m5 : R ε} {m6 : R ζ} (h1 : SE w A0 ss t1 m1) (h2 : SE w A0 ss t2 m2) (h3 : SE w A0 ss t3 m3) (h4 : SE w A0 ss t4 m4) (h5 : SE w A0 ss t5 m5) (h6 : SE w A0 ss t6 m6) :
    SE w A0 ss (eTup (aCons t1 (aCons t2 (aCons t3 (aCons t4 (aCons t5 (aCons t6 aNil))))))) (m1.bind fun a => m2.bind fun b => m3.bind fun c => m4.bind fun d => m5.bind fun e => m6.bind fun f => .ok (T6.mk a b c d e f)) := fun δ A Q e hw =>
  h1.run e hw (fun _ _ => id) fun a hw => h2.run e hw (fun _ _ => id) fun b hw => h3.run e hw (fun _ _ => id) fun c hw => h4.run e hw (fun _ _ => id) fun d hw => h5.run e hw (fun _ _ => id) fun d hw => h6.run e hw (fun _ _ => id) fun d hw => ⟨by show (6 : Nat) < _; decide, hw⟩
theorem ses_nil : SEs w A0 ss aNil (.ok ([] : List α)) := fun δ A Q e hw => hw
theorem ses_cons {t : DE} {u : DA} {m : R α} {n : R (List α)} (h : SE w A0 ss t m) (h2 : SEs w A0 ss u n) : SEs w A0 ss (aCons t u) (m.bind fun a => n.bind fun l => .ok (a :: l)) := fun δ A Q e hw =>
  h.run e hw (fun _ _ => id) fun a hw => h2.run e hw (fun _ _ => id) fun l hw => hw
/-- a list that is not too long -/
def few (l : List α) : R (List α) := if l.length < 1000000 then .ok l else .bad
omit [Enc α] in
theorem few_ok {l : List α} (h : l.length < 1000000) : few l = .ok l := if_pos h
omit [Enc α] in
@[simp] theorem few_nil : few ([] : List α) = .ok [] := rfl
omit [Enc α] in
theorem few_wp {l : List α} {V : List α → Prop} {X} (h : (few l).wp V X) : l.length < 1000000 ∧ V l := by
  unfold few at h
  split at h
  · rename_i hl; exact ⟨hl, h⟩
  · exact h.elim
theorem se_lst {t : DA} {m : R (List α)} (h : SEs w A0 ss t m) : SE w A0 ss (eLst mkF t) (m.bind few) := fun δ A Q e hw =>
  h.run e hw (fun _ _ => id) fun l hw => by
    obtain ⟨h1, h2⟩ := few_wp hw
    exact ⟨by simpa using h1, h2⟩
/-- a list's own object -/
abbrev oL (l : List α) : OT := .ao (.lst (l.map enc))
abbrev oD (d : Dic κ α) : OT := .ao (.dic (encKV d.l))
theorem so_lst {t : DA} {m : R (List α)} (h : SEs w A0 ss t m) : SO w A0 ss (eLst mkO t) (m.bind few) oL := fun δ A Q e hw =>
  h.run e hw (fun _ _ => id) fun l hw => by
    obtain ⟨h1, h2⟩ := few_wp hw
    exact ⟨by simpa using h1, fun p hp => h2 p _ (New.put hp)⟩
/-! ### operators -/
def OpE (rd : DOp) (F : α → β → R γ) : Prop := ∀ (A : AH) (a : α) (b : β) (Q : DK) X, (F a b).wp (fun c => Q (enc c) A) X → rd (enc a) (enc b) A Q
theorem se_bin {rd : DOp} {F : α → β → R γ} {t u : DE} {m : R α} {n : R β} (op : OpE rd F) (h : SE w A0 ss t m) (h2 : SE w A0 ss u n) : SE w A0 ss (eBin rd t u) (R.b2 m n F) := fun δ A Q e hw =>
  h.run e hw (fun _ _ => id) fun a hw => h2.run e hw (fun _ _ => id) fun b hw => op A a b Q _ hw
def OpV (rd : DOp) (F : α → β → R γ) : Prop := ∀ (A : AH) (x y : D) (a : α) (b : β) (Q : DK) X, vw A x a → vw A y b → (F a b).wp (fun c => Q (enc c) A) X → rd x y A Q
theorem sv_bin {rd : DOp} {F : α → β → R γ} {t u : DE} {m : R α} {n : R β} (op : OpV rd F) (h : SV w A0 ss t m) (h2 : SV w A0 ss u n) : SE w A0 ss (eBin rd t u) (R.b2 m n F) := fun δ A Q e hw =>
  h.run e hw (fun _ _ => id) fun a x hx hw => h2.run e hw (fun _ _ => id) fun b y hy hw => op A x y a b Q _ hx hy hw
def OpO {τ : Type} (rd : DOp) (F : α → β → R τ) (o : τ → OT) : Prop := ∀ (A : AH) (x y : D) (a : α) (b : β) (Q : DK) X, vw A x a → vw A y b → (F a b).wp (fun c => ∀ p A', New A (o c) p A' → Q (.ref p) A') X → rd x y A Q
theorem so_bin {τ : Type} {o : τ → OT} {rd : DOp} {F : α → β → R τ} {t u : DE} {m : R α} {n : R β} (op : OpO rd F o) (h : SV w A0 ss t m) (h2 : SV w A0 ss u n) : SO w A0 ss (eBin rd t u) (R.b2 m n F) o := fun δ A Q e hw =>
  h.run e hw (fun _ _ => id) fun a x hx hw => h2.run e hw (fun _ _ => id) fun b y hy hw => op A x y a b Q _ hx hy hw
theorem st_of {t : DE} {m : R Bool} (h : SE w A0 ss t m) : ST w A0 ss (bE t) m := fun δ A Q e hw => by
  rw [bE_eq]; exact h δ A _ e hw
abbrev addI (a b : Int) : R Int := .ok (a + b)
abbrev subI (a b : Int) : R Int := .ok (a - b)
theorem op_addI {mk : DL.Mk} : OpE (opAdd mk) addI := fun A a b Q X hw => hw
theorem op_subI : OpE opSub subI := fun A a b Q X hw => hw
open Classical in
noncomputable def mulI (a b : Int) : R Int := if DL.MulOk a b then .ok (a * b) else .bad
theorem mulI_ok {a b : Int} (h : DL.MulOk a b) : mulI a b = .ok (a * b) := by unfold mulI; rw [if_pos h]
theorem op_mulI : OpE opMul mulI := fun A a b Q X hw => by
  unfold mulI at hw
  split at hw
  · rename_i h; exact ⟨h, hw⟩
  · exact hw.elim
/-- a product with a number that is written -/
theorem se_mulL {t : DE} {m : R Int} (k : Int) (hk : -18446744073709551616 < k ∧ k < 18446744073709551616) (h : SE w A0 ss t m) : SE w A0 ss (eBin opMul (eC (.int k)) t) (m.map fun a => k * a) := fun δ A Q e hw =>
  h.run (Q := fun y A2 => opMul (.int k) y A2 Q) e hw (fun _ _ => id) fun a hw => ⟨.inl (by omega), hw⟩
theorem se_mulR {t : DE} {m : R Int} (k : Int) (hk : -18446744073709551616 < k ∧ k < 18446744073709551616) (h : SE w A0 ss t m) : SE w A0 ss (eBin opMul t (eC (.int k))) (m.map fun a => a * k) := fun δ A Q e hw =>
  h.run e hw (fun _ _ => id) fun a hw => ⟨.inr (.inl (by omega)), hw⟩
theorem se_divR {t : DE} {m : R Int} (k : Int) (hk : 0 < k ∧ k < 18446744073709551616) (h : SE w A0 ss t m) : SE w A0 ss (eBin opDiv t (eC (.int k))) (m.map fun a => a / k) := fun δ A Q e hw =>
  h.run e hw (fun _ _ => id) fun a hw => ⟨divOk_lit hk.1 hk.2, by rw [Int.fdiv_eq_ediv_of_nonneg _ (by omega)]; exact hw⟩
theorem se_modR {t : DE} {m : R Int} (k : Int) (hk : 0 < k) (h : SE w A0 ss t m) : SE w A0 ss (eBin opMod t (eC (.int k))) (m.map fun a => a % k) := fun δ A Q e hw =>
  h.run e hw (fun _ _ => id) fun a hw => ⟨by omega, by rw [Int.fmod_eq_emod_of_nonneg _ (by omega)]; exact hw⟩
open Classical in
noncomputable def divI (a b : Int) : R Int := if DL.DivOk b then .ok (a.fdiv b) else .bad
theorem divI_ok {a b : Int} (h : DL.DivOk b) : divI a b = .ok (a.fdiv b) := by unfold divI; rw [if_pos h]
theorem divI_pos {a b : Int} (h : DL.DivOk b) (hb : 0 ≤ b) : divI a b = .ok (a / b) := by rw [divI_ok h, Int.fdiv_eq_ediv_of_nonneg _ hb]
theorem op_divI : OpE opDiv divI := fun A a b Q X hw => by
  unfold divI at hw
  split at hw
  · rename_i h; exact ⟨h, hw⟩
  · exact hw.elim
def modI (a b : Int) : R Int := if b = 0 then .bad else .ok (a.fmod b)
theorem modI_pos {a b : Int} (h : 0 < b) : modI a b = .ok (a % b) := by
  unfold modI; rw [if_neg (by omega), Int.fmod_eq_emod_of_nonneg _ (by omega)]
theorem op_modI : OpE opMod modI := fun A a b Q X hw => by
  unfold modI at hw
  split at hw
  · exact hw.elim
  · rename_i h; exact ⟨h, hw⟩
/-- a power of two written numbers -/
theorem se_pow (a b : Int) (h : 0 ≤ b ∧ b ≤ 1000000 ∧ a.natAbs < 2 ^ 64) : SE w A0 ss (eBin opPow (eC (.int a)) (eC (.int b))) (.ok (a ^ b.toNat)) := fun δ A Q e hw => ⟨h, hw⟩
theorem se_neg {t : DE} {m : R Int} (h : SE w A0 ss t m) : SE w A0 ss (eNeg t) (m.map fun a => -a) := fun δ A Q e hw => h.run e hw (fun _ _ => id) fun a hw => hw
theorem op_cmpI {p : Int → Int → Bool} : OpE (opCmp p) (fun a b => .ok (p a b)) := fun A a b Q X hw => hw
def addS (a b : Str) : R Str := if a.length + b.length < 1000000 then .ok (a ++ b) else .bad
theorem addS_ok {a b : Str} (h : a.length + b.length < 1000000) : addS a b = .ok (a ++ b) := if_pos h
theorem op_addS {mk : DL.Mk} : OpE (opAdd mk) addS := fun A a b Q X hw => by
  unfold addS at hw
  split at hw
  · rename_i h; exact ⟨h, hw⟩
  · exact hw.elim
def mulS (s : Str) (n : Int) : R Str := if s.length ≤ 1000 ∧ n.natAbs ≤ 1000 then .ok (strRep s n.toNat) else .bad
theorem mulS_ok {s : Str} {n : Int} (h : s.length ≤ 1000 ∧ n.natAbs ≤ 1000) : mulS s n = .ok (strRep s n.toNat) := if_pos h
theorem op_mulS : OpE opMul mulS := fun A a b Q X hw => by
  unfold mulS at hw
  split at hw
  · rename_i h; exact ⟨h, hw⟩
  · exact hw.elim
theorem opAdd_seq {mk : DL.Mk} {x y : D} {l m : List D} {Q : DK} (hx : asL A x = some l) (hy : asL A y = some m) (hf : Few (l.length + m.length)) (h : mk (l ++ m) A Q) : opAdd mk x y A Q := by
  have e : opAdd mk x y A Q = (match asL A x, asL A y with | some l, some m => Few (l.length + m.length) ∧ mk (l ++ m) A Q | _, _ => False) := by
    cases x <;> (first | (exfalso; cases hx; done) | (cases y <;> first | (exfalso; cases hy; done) | rfl))
  rw [e, hx, hy]; exact ⟨hf, h⟩
theorem op_cat : OpV (opAdd mkF) (fun (a b : List α) => few (a ++ b)) := fun A x y a b Q X hx hy hw => by
  obtain ⟨h1, h2⟩ := few_wp hw
  refine opAdd_seq hx hy (by simpa using h1) ?_
  rw [← List.map_append]; exact h2
theorem op_catO : OpO (opAdd mkO) (fun (a b : List α) => few (a ++ b)) oL := fun A x y a b Q X hx hy hw => by
  obtain ⟨h1, h2⟩ := few_wp hw
  refine opAdd_seq hx hy (by simpa using h1) fun p hp => ?_
  rw [← List.map_append]; exact h2 p _ (New.put hp)

/-! ### and, or, not -/
theorem st_not {t : DT} {m : R Bool} (h : ST w A0 ss t m) : ST w A0 ss (bNot t) (m.map (!·)) := fun δ A Q e hw => h.run e hw (fun _ _ => id) fun a hw => hw
abbrev andB (m n : R Bool) : R Bool := m.bind fun b => if b = true then n else .ok false
abbrev orB (m n : R Bool) : R Bool := m.bind fun b => if b = true then .ok true else n
theorem st_and {t u : DT} {m n : R Bool} (h : ST w A0 ss t m) (h2 : ST w A0 ss u n) : ST w A0 ss (bAnd t u) (andB m n) := fun δ A Q e hw => h.run e hw (fun _ _ => id) fun a hw => by
  cases a with
  | true => exact ⟨fun _ => h2 δ A Q e hw, fun h => (nomatch h)⟩
  | false => exact ⟨fun h => (nomatch h), fun _ => hw⟩
theorem st_or {t u : DT} {m n : R Bool} (h : ST w A0 ss t m) (h2 : ST w A0 ss u n) : ST w A0 ss (bOr t u) (orB m n) := fun δ A Q e hw => h.run e hw (fun _ _ => id) fun a hw => by
  cases a with
  | true => exact ⟨fun _ => hw, fun h => (nomatch h)⟩
  | false => exact ⟨fun h => (nomatch h), fun _ => h2 δ A Q e hw⟩
theorem se_not {t : DE} {m : R Bool} (h : SE w A0 ss t m) : SE w A0 ss (eNot t) (m.map (!·)) := fun δ A Q e hw => h.run e hw (fun _ _ => id) fun a hw => hw
theorem se_and {t u : DE} {m n : R Bool} (h : SE w A0 ss t m) (h2 : SE w A0 ss u n) : SE w A0 ss (eAnd t u) (andB m n) := fun δ A Q e hw => h.run e hw (fun _ _ => id) fun a hw => by
  cases a with
  | true => exact ⟨fun _ => h2 δ A Q e hw, fun h => (nomatch h)⟩
  | false => exact ⟨fun h => (nomatch h), fun _ => hw⟩
theorem se_or {t u : DE} {m n : R Bool} (h : SE w A0 ss t m) (h2 : SE w A0 ss u n) : SE w A0 ss (eOr t u) (orB m n) := fun δ A Q e hw => h.run e hw (fun _ _ => id) fun a hw => by
  cases a with
  | true => exact ⟨fun _ => hw, fun h => (nomatch h)⟩
  | false => exact ⟨fun h => (nomatch h), fun _ => h2 δ A Q e hw⟩
end
/-! ### is None, == -/
class NN (α : Type) [Enc α] : Prop where
  nn : ∀ a : α, (enc a).isNon = false
instance : NN Int := ⟨fun _ => rfl⟩
instance : NN Bool := ⟨fun _ => rfl⟩
instance : NN Str := ⟨fun _ => rfl⟩
instance : NN Rat := ⟨fun q => non_fr⟩
instance : NN TieV := ⟨fun _ => rfl⟩
section
variable {α β γ δ' ε ζ κ : Type} [Enc α] [Enc β] [Enc γ] [Enc δ'] [Enc ε] [Enc ζ] [KeyT κ]
instance : NN (T1 α) := ⟨fun _ => rfl⟩
instance : NN (α × β) := ⟨fun _ => rfl⟩
instance : NN (T3 α β γ) := ⟨fun _ => rfl⟩
instance : NN (T4 α β γ δ') := ⟨fun _ => rfl⟩
instance : NN (T5 α β γ δ' ε) := ⟨fun _ => rfl⟩
instance : NN (T6 α β γ δ' ε ζ) := ⟨fun _ => rfl⟩
instance : NN (List α) := ⟨fun _ => rfl⟩
instance : NN (Dic κ α) := ⟨fun _ => rfl⟩
variable {w : DW} {A0 A : AH} {ss : List Sl} {δ : DSt} {Q : DK}
theorem se_isN [NN α] {t : DE} {m : R (Option α)} (neg : Bool) (h : SE w A0 ss t m) : SE w A0 ss (eBin (opIs neg) t (eC .non)) (m.map fun o => xor neg o.isNone) := fun δ A Q e hw =>
  h.run e hw (fun _ _ => id) fun o hw => by
    show Q (.bl (xor neg (enc o : D).isNon)) A
    cases o with
    | none => exact hw
    | some a =>
      have : (enc (some a) : D).isNon = false := NN.nn a
      rw [this]; exact hw
theorem se_isB {t : DE} {m : R Bool} (neg b : Bool) (h : SE w A0 ss t m) : SE w A0 ss (eBin (opIs neg) t (eC (.bl b))) (m.map fun a => xor neg (a == b)) := fun δ A Q e hw =>
  h.run e hw (fun _ _ => id) fun o hw => hw
/-- data that may be compared -/
class EqD (α : Type) [Enc α] [DecidableEq α] where
  good : α → Prop
  dep : Nat
  dt_enc : ∀ (a : α) (n : Nat), good a → dep ≤ n → dt n (enc a) = true
  deq_enc : ∀ a b : α, good a → good b → deq (enc a) (enc b) = decide (a = b)
  vw_dt : ∀ (A : AH) (d : D) (a : α) (n : Nat), vw A d a → dt n (enc a) = true → dt n (drf A d) = true
  vw_deq : ∀ (A : AH) (x y : D) (a b : α), vw A x a → vw A y b → deq (drf A x) (drf A y) = deq (enc a) (enc b)
end
end TF

/-! TF2: typed statements. -/
namespace TF
open PySem PySem.Spec PyProof.Rows L2 DL FR
open Enc KeyT
/-- a turn's end -/
inductive Fl (σ ρ : Type) where
  | nx (s : σ) | bk (s : σ) | rt (r : ρ)
def R.flow {σ ρ τ : Type} (m : R (Fl σ ρ)) (k : σ → R τ) (kr : ρ → R τ) : R τ := m.bind fun r => match r with
  | .nx s => k s
  | .bk s => k s
  | .rt r => kr r
section
variable {α β γ σ ρ τ κ : Type} [Enc α] [Enc β] [Enc γ] [Enc ρ] [KeyT κ]
variable {w : DW} {A0 A : AH} {X : String → List (String × D) → Prop} {D0 : DEnds} {V : τ → Prop} {ss : List Sl} {δ : DSt} {Q : DK}
/-- what is let out is wished for -/
abbrev WX (A0 : AH) (w : DW) (X : String → List (String × D) → Prop) : Prop := ∀ c fs δ A, Sub A0 A → X c fs → w c fs δ A
/-- .. where the slots stand so -/
abbrev WE (A0 : AH) (w : DW) (X : String → List (String × D) → Prop) (ss : List Sl) : Prop := ∀ c fs δ A, Env A0 ss δ A → X c fs → w c fs δ A
theorem we {ss : List Sl} (h : WX A0 w X) : WE A0 w X ss := fun c fs δ A e => h c fs δ A e.sub
def SS (A0 : AH) (X : String → List (String × D) → Prop) (D0 : DEnds) (V : τ → Prop) (ss : List Sl) (s : DS) (m : R τ) : Prop := ∀ (δ : DSt) (A : AH), Env A0 ss δ A → m.wp V X → s D0 δ A
def mask : List Bool → List Sl → List Sl
  | true :: bs, s :: ss => s :: mask bs ss
  | false :: bs, _ :: ss => .emp :: mask bs ss
  | _, ss => ss
theorem EnvR.mask {B : List Addr} {ss : List Sl} {δ : DSt} (h : EnvR A0 A B ss δ) : ∀ bs, ∃ B', (∀ a ∈ B', a ∈ B) ∧ EnvR A0 A B' (mask bs ss) δ := by
  induction h with
  | nil => intro bs; cases bs with
    | nil => exact ⟨[], fun _ h => h, .nil⟩
    | cons b bs => cases b <;> exact ⟨[], fun _ h => h, .nil⟩
  | emp r ih => intro bs; cases bs with
    | nil => exact ⟨_, fun _ h => h, .emp r⟩
    | cons b bs => obtain ⟨B', h1, h2⟩ := ih bs; cases b <;> exact ⟨B', h1, .emp h2⟩
  | val r ih => intro bs; cases bs with
    | nil => exact ⟨_, fun _ h => h, .val r⟩
    | cons b bs => obtain ⟨B', h1, h2⟩ := ih bs; cases b with
      | true => exact ⟨B', h1, .val h2⟩
      | false => exact ⟨B', h1, .emp h2⟩
  | own r o h1 h2 ih => intro bs; cases bs with
    | nil => exact ⟨_, fun _ h => h, .own r o h1 h2⟩
    | cons b bs => obtain ⟨B', q1, q2⟩ := ih bs; cases b with
      | true => exact ⟨_, fun a h => (List.mem_append.mp h).elim (List.mem_append_left _) fun h => List.mem_append_right _ (q1 a h), .own q2 o (fun a ha hb => h1 a ha (q1 a hb)) h2⟩
      | false => exact ⟨_, fun a h => List.mem_append_right _ (q1 a h), .emp q2⟩
theorem Env.mask (h : Env A0 ss δ A) (bs : List Bool) : Env A0 (mask bs ss) δ A := by
  obtain ⟨s, B, h⟩ := h
  obtain ⟨B', _, q⟩ := h.mask bs
  exact ⟨s, B', q⟩
/-! ### targets -/
def SG (A0 : AH) (g : DG) (d : D) (ss ss' : List Sl) : Prop := ∀ (δ : DSt) (A : AH) (K : DSt → AH → Prop), Env A0 ss δ A → (∀ δ', Env A0 ss' δ' A → K δ' A) → g d δ A K
theorem sg_name {d : D} {i : Nat} : SG A0 (dgName i) d ss (ss.set i (.val d)) := fun δ A K e k => k _ (e.set_val i d)
theorem sg_tup2 {d a b : D} {i j : Nat} (h : d = .tup [a, b]) : SG A0 (dgTup 2 (dgCons (dgName i) (dgCons (dgName j) dgNil))) d ss ((ss.set i (.val a)).set j (.val b)) := fun δ A K e k => by
  subst h; exact ⟨rfl, k _ ((e.set_val i a).set_val j b)⟩
theorem sg_tup3 {d a b c : D} {i j k : Nat} (h : d = .tup [a, b, c]) : SG A0 (dgTup 3 (dgCons (dgName i) (dgCons (dgName j) (dgCons (dgName k) dgNil)))) d ss (((ss.set i (.val a)).set j (.val b)).set k (.val c)) := fun δ A K e kk => by
  subst h; exact ⟨rfl, kk _ (((e.set_val i a).set_val j b).set_val k c)⟩
theorem sg_tup4 {d a b c x : D} {i j k l : Nat} (h : d = .tup [a, b, c, x]) : SG A0 (dgTup 4 (dgCons (dgName i) (dgCons (dgName j) (dgCons (dgName k) (dgCons (dgName l) dgNil))))) d ss ((((ss.set i (.val a)).set j (.val b)).set k (.val c)).set l (.val x)) := fun δ A K e kk => by
  subst h; exact ⟨rfl, kk _ ((((e.set_val i a).set_val j b).set_val k c).set_val l x)⟩
theorem sg_tup5 {d a b c x y : D} {i j k l m : Nat} (h : d = .tup [a, b, c, x, y]) : SG A0 (dgTup 5 (dgCons (dgName i) (dgCons (dgName j) (dgCons (dgName k) (dgCons (dgName l) (dgCons (dgName m) dgNil)))))) d ss (((((ss.set i (.val a)).set j (.val b)).set k (.val c)).set l (.val x)).set m (.val y)) := fun δ A K e kk => by
  subst h; exact ⟨rfl, kk _ (((((e.set_val i a).set_val j b).set_val k c).set_val l x).set_val m y)⟩
theorem sg_tup6 {d a b c x y z : D} {i j k l m n : Nat} (h : d = .tup [a, b, c, x, y, z]) : SG A0 (dgTup 6 (dgCons (dgName i) (dgCons (dgName j) (dgCons (dgName k) (dgCons (dgName l) (dgCons (dgName m) (dgCons (dgName n) dgNil))))))) d ss ((((((ss.set i (.val a)).set j (.val b)).set k (.val c)).set l (.val x)).set m (.val y)).set n (.val z)) := fun δ A K e kk => by
  subst h; exact ⟨rfl, kk _ ((((((e.set_val i a).set_val j b).set_val k c).set_val l x).set_val m y).set_val n z)⟩
/-! ### blocks -/
theorem ss_one {s : DS} {m : R τ} (h : SS A0 X D0 V ss (sSeq s sNext) m) : SS A0 X D0 V ss s m := h
theorem ss_norm {J : List Sl} {s : DS} {m : R τ} (hj : ss = J) (h : SS A0 X D0 V J s m) : SS A0 X D0 V ss s m := hj ▸ h
theorem ss_into {rest : DS} {m : R τ} (h : SS A0 X D0 V ss rest m) : SS A0 X { D0 with nx := rest D0 } V ss sNext m := h
theorem ss_skip {s : DS} {m : R τ} (h : SS A0 X D0 V ss s m) : SS A0 X D0 V ss (sSeq sNext s) m := h
theorem ss_next {v : τ} {J : List Sl} (bs : List Bool) (hj : mask bs ss = J) (hn : ∀ δ A, V v → Env A0 J δ A → D0.nx δ A) : SS A0 X D0 V ss sNext (.ok v) := fun δ A e hv =>
  hn δ A hv (hj ▸ e.mask bs)
theorem ss_cont {v : τ} {J : List Sl} (bs : List Bool) (hj : mask bs ss = J) (hn : ∀ δ A, V v → Env A0 J δ A → D0.ct δ A) : SS A0 X D0 V ss sCont (.ok v) := fun δ A e hv =>
  hn δ A hv (hj ▸ e.mask bs)
theorem ss_brk {v : τ} {J : List Sl} (bs : List Bool) (hj : mask bs ss = J) (hn : ∀ δ A, V v → Env A0 J δ A → D0.bk δ A) : SS A0 X D0 V ss sBreak (.ok v) := fun δ A e hv =>
  hn δ A hv (hj ▸ e.mask bs)
/-! ### x = e -/
theorem ss_asg {i : Nat} {te : DE} {rest : DS} {m : R α} {k : α → R τ} (hw : WE A0 w X ss) (he : SE w A0 ss te m) (hr : ∀ a, SS A0 X D0 V (ss.set i (.val (enc a))) rest (k a)) : SS A0 X D0 V ss (sSeq (sAsg te (dgName i)) rest) (m.bind k) := fun δ A e h =>
  he.run (Q := fun d A1 => dgName i d δ A1 (rest D0)) e h (fun c fs => hw c fs δ A e) fun a ha => hr a _ _ (e.set_val i _) ha
theorem ss_asgO {i : Nat} {te : DE} {rest : DS} {m : R σ} {o : σ → OT} {k : σ → R τ} (hw : WE A0 w X ss) (he : SO w A0 ss te m o) (hr : ∀ a, SS A0 X D0 V (ss.set i (.own (o a))) rest (k a)) : SS A0 X D0 V ss (sSeq (sAsg te (dgName i)) rest) (m.bind k) := fun δ A e h =>
  he.run (Q := fun d A1 => dgName i d δ A1 (rest D0)) e h (fun c fs => hw c fs δ A e) fun a p A' hn ha => by
    obtain ⟨C, h1, h2, h3⟩ := hn.ex
    exact hr a _ _ (e.new h1 h2 h3) ha
theorem ss_asgT {g : DG} {te : DE} {rest : DS} {m : R α} {k : α → R τ} {J : α → List Sl} (hw : WE A0 w X ss) (he : SE w A0 ss te m) (hg : ∀ a, SG A0 g (enc a) ss (J a)) (hr : ∀ a, SS A0 X D0 V (J a) rest (k a)) : SS A0 X D0 V ss (sSeq (sAsg te g) rest) (m.bind k) := fun δ A e h =>
  he.run (Q := fun d A1 => g d δ A1 (rest D0)) e h (fun c fs => hw c fs δ A e) fun a ha => hg a δ A _ e fun δ' e' => hr a _ _ e' ha
theorem ss_par {i j : Nat} {t u : DE} {rest : DS} {m : R α} {n : R β} {k : α → β → R τ} (hw : WE A0 w X ss) (h1 : SE w A0 ss t m) (h2 : SE w A0 ss u n) (hr : ∀ a b, SS A0 X D0 V ((ss.set i (.val (enc a))).set j (.val (enc b))) rest (k a b)) : SS A0 X D0 V ss (sSeq (sPar i j (aCons t (aCons u aNil))) rest) (R.b2 m n k) := fun δ A e h => by
  rw [sSeq_eq, sPar_eq, aCons_eq]
  refine h1.run e h (fun c fs => hw c fs δ A e) fun a ha => ?_
  rw [aCons_eq]
  refine h2.run e ha (fun c fs => hw c fs δ A e) fun b hb => ?_
  exact hr a b _ _ ((e.set_val i _).set_val j _) hb
theorem ss_drop {te : DE} {rest : DS} {m : R α} {n : R τ} (hw : WE A0 w X ss) (he : SE w A0 ss te m) (hr : SS A0 X D0 V ss rest n) : SS A0 X D0 V ss (sSeq (sDrop te) rest) (m.bind fun _ => n) := fun δ A e h =>
  he.run (Q := fun d A1 => rest D0 δ A1) e h (fun c fs => hw c fs δ A e) fun a ha => hr _ _ e ha
/-! ### a list, a dict of its own is changed -/
theorem ss_app {i : Nat} {te : DE} {rest : DS} {m : R α} {l : List α} {k : List α → R τ} (hw : WE A0 w X ss) (hi : ss[i]? = some (.own (oL l))) (he : SE w A0 ss te m) (hr : ∀ l', SS A0 X D0 V (ss.set i (.own (oL l'))) rest (k l')) :
    SS A0 X D0 V ss (sSeq (sDrop (eMt "list" mApp (eVar i) (aCons te aNil))) rest) (m.bind fun a => (few l).bind fun _ => (R.ok (l ++ [a])).bind k) := fun δ A e h => by
  obtain ⟨p, h1, h2, _⟩ := e.get_own hi
  rw [sSeq_eq, sDrop_eq, eMt_eq, eVar_eq h1]
  refine ⟨by rw [tyM_ref h2], ?_⟩
  rw [aCons_eq]
  refine he.run e h (fun c fs => hw c fs δ A e) fun a ha => ?_
  rw [R.wp_bind] at ha
  obtain ⟨hl, ha⟩ := few_wp ha
  rw [aNil_eq, mApp_eq]; simp only [h2]
  refine ⟨by simpa using hl, ?_⟩
  obtain ⟨p', q1, q2, q3⟩ := e.upd_own (o' := .lst ((l ++ [a]).map enc)) hi
  rw [h1] at q1; cases q1
  have := hr (l ++ [a]) _ _ q3 ha
  rw [List.map_append] at this; exact this
theorem ss_rev {i : Nat} {rest : DS} {l : List α} {n : R τ} (hi : ss[i]? = some (.own (oL l))) (hr : SS A0 X D0 V (ss.set i (.own (oL l.reverse))) rest n) :
    SS A0 X D0 V ss (sSeq (sDrop (eMt "list" mRev (eVar i) aNil)) rest) n := fun δ A e h => by
  obtain ⟨p, h1, h2, _⟩ := e.get_own hi
  rw [sSeq_eq, sDrop_eq, eMt_eq, eVar_eq h1]
  refine ⟨by rw [tyM_ref h2], ?_⟩
  rw [aNil_eq, mRev_eq]; simp only [h2]
  obtain ⟨p', q1, q2, q3⟩ := e.upd_own (o' := .lst (l.reverse.map enc)) hi
  rw [h1] at q1; cases q1
  have := hr _ _ q3 h
  rw [List.map_reverse] at this; exact this
theorem ss_clr {i : Nat} {rest : DS} {l : List α} {n : R τ} (hi : ss[i]? = some (.own (oL l))) (hr : SS A0 X D0 V (ss.set i (.own (oL ([] : List α)))) rest n) :
    SS A0 X D0 V ss (sSeq (sDrop (eMt "list" mClr (eVar i) aNil)) rest) n := fun δ A e h => by
  obtain ⟨p, h1, h2, _⟩ := e.get_own hi
  rw [sSeq_eq, sDrop_eq, eMt_eq, eVar_eq h1]
  refine ⟨by rw [tyM_ref h2], ?_⟩
  rw [aNil_eq, mClr_eq]; simp only [h2]
  obtain ⟨p', q1, q2, q3⟩ := e.upd_own (o' := .lst []) hi
  rw [h1] at q1; cases q1
  exact hr _ _ q3 h
/-- x[k] = e, x a list -/
def setL (l : List α) (k : Int) (a : α) : R (List α) := match ixN l.length k with
  | some j => .ok (l.set j a)
  | none => .bad
theorem ss_setL {i : Nat} {te ti : DE} {rest : DS} {m : R α} {n : R Int} {l : List α} {k : List α → R τ} (hw : WE A0 w X ss) (hi : ss[i]? = some (.own (oL l))) (he : SE w A0 ss te m) (hk : SE w A0 ss ti n) (hr : ∀ l', SS A0 X D0 V (ss.set i (.own (oL l'))) rest (k l')) :
    SS A0 X D0 V ss (sSeq (sAsg te (dgSub (eVar i) ti)) rest) (m.bind fun a => n.bind fun j => (setL l j a).bind k) := fun δ A e h => by
  obtain ⟨p, h1, h2, _⟩ := e.get_own hi
  rw [sSeq_eq, sAsg_eq]
  refine he.run e h (fun c fs => hw c fs δ A e) fun a ha => ?_
  rw [dgSub_eq, eVar_eq h1]
  refine hk.run e ha (fun c fs => hw c fs δ A e) fun j hj => ?_
  unfold setL at hj
  split at hj
  · rename_i jj hjj
    have e2 : ixN (l.map (enc (α := α))).length j = some jj := by rw [List.length_map]; exact hjj
    show setD (.ref p) (.int j) (enc a) A _
    rw [setD_lst h2 e2]
    obtain ⟨p', q1, q2, q3⟩ := e.upd_own (o' := .lst ((l.set jj a).map enc)) hi
    rw [h1] at q1; cases q1
    have := hr _ _ _ q3 hj
    rw [List.map_set] at this; exact this
  · exact hj.elim
/-- a dict with a value put at a key -/
def Dic.put [DecidableEq κ] (d : Dic κ α) (k : κ) (a : α) : Dic κ α := ⟨if d.l.any (fun p => decide (p.1 = k)) then d.l.map (fun p => if p.1 = k then (p.1, a) else p) else d.l ++ [(k, a)]⟩
theorem encKV_put [DecidableEq κ] (d : Dic κ α) (k : κ) (a : α) : putKD (encKV d.l) (key k) (enc a) = encKV (d.put k a).l := by
  unfold putKD Dic.put encKV
  have e : ((d.l.map fun p => (key p.1, enc p.2)).any fun kv => decide (kv.1 = key k)) = d.l.any fun p => decide (p.1 = k) := by
    rw [List.any_map]; congr 1; funext p
    exact decide_eq_decide.mpr ⟨fun h => KeyT.inj h, fun h => by show key p.1 = key k; rw [h]⟩
  rw [e]
  dsimp only
  split
  · rw [List.map_map, List.map_map]
    apply List.map_congr_left
    intro p _
    by_cases hp : p.1 = k
    · simp [hp]
    · have : ¬ key p.1 = key k := fun h => hp (KeyT.inj h)
      simp [hp, this]
  · rw [List.map_append]; rfl
class KeyD (κ : Type) [Enc κ] [KeyT κ] : Prop where
  ok : ∀ k : κ, asKey (enc k) = some (key k)
instance : KeyD Int := ⟨fun _ => rfl⟩
instance : KeyD Str := ⟨fun _ => rfl⟩
def fewD (d : Dic κ α) : R Unit := if d.l.length < 1000000 then .ok () else .bad
theorem ss_setD [Enc κ] [KeyD κ] [DecidableEq κ] {i : Nat} {te ti : DE} {rest : DS} {m : R α} {n : R κ} {d : Dic κ α} {k : Dic κ α → R τ} (hw : WE A0 w X ss) (hi : ss[i]? = some (.own (oD d))) (he : SE w A0 ss te m) (hk : SE w A0 ss ti n) (hr : ∀ d', SS A0 X D0 V (ss.set i (.own (oD d'))) rest (k d')) :
    SS A0 X D0 V ss (sSeq (sAsg te (dgSub (eVar i) ti)) rest) (m.bind fun a => n.bind fun j => (fewD d).bind fun _ => (R.ok (d.put j a)).bind k) := fun δ A e h => by
  obtain ⟨p, h1, h2, _⟩ := e.get_own hi
  rw [sSeq_eq, sAsg_eq]
  refine he.run e h (fun c fs => hw c fs δ A e) fun a ha => ?_
  rw [dgSub_eq, eVar_eq h1]
  refine hk.run e ha (fun c fs => hw c fs δ A e) fun j hj => ?_
  unfold fewD at hj
  split at hj
  · rename_i hl
    show setD (.ref p) (enc j) (enc a) A _
    unfold setD
    simp only [h2, KeyD.ok]
    refine ⟨by simpa [encKV] using hl, ?_⟩
    obtain ⟨p', q1, q2, q3⟩ := e.upd_own (o' := .dic (encKV (d.put j a).l)) hi
    rw [h1] at q1; cases q1
    rw [encKV_put]; exact hr _ _ _ q3 hj
  · exact hj.elim
/-! ### return, raise -/
theorem ss_ret {te : DE} {m : R α} {k : α → R τ} (hw : WE A0 w X ss) (he : SE w A0 ss te m) (hrt : ∀ a A', Sub A0 A' → (k a).wp V X → D0.rt (enc a) A') : SS A0 X D0 V ss (sRet te) (m.bind k) := fun δ A e h =>
  he.run (Q := D0.rt) e h (fun c fs => hw c fs δ A e) fun a ha => hrt a A e.sub ha
theorem ss_ret1 {te : DE} {m : R τ} [Enc τ] (hw : WE A0 w X ss) (he : SE w A0 ss te m) (hrt : ∀ a A', Sub A0 A' → V a → D0.rt (enc a) A') : SS A0 X D0 V ss (sRet te) m := fun δ A e h =>
  he δ A D0.rt e (R.wp_imp h (fun a ha => hrt a A e.sub ha) fun c fs => hw c fs δ A e)
theorem ss_retO {te : DE} {m : R τ} {o : τ → OT} (hw : WE A0 w X ss) (he : SO w A0 ss te m o) (hrt : ∀ a A1 A' p, Sub A0 A1 → New A1 (o a) p A' → V a → D0.rt (.ref p) A') : SS A0 X D0 V ss (sRet te) m := fun δ A e h =>
  he δ A D0.rt e (R.wp_imp h (fun a ha p A' hn => hrt a A A' p e.sub hn ha) fun c fs => hw c fs δ A e)
theorem ss_raise {c : String} (hw : WE A0 w X ss) : SS A0 X D0 V ss (sRaise w c) (.exc c []) := fun δ A e h => hw c [] δ A e h
theorem ss_fall [Enc ρ] {m : R τ} {v : τ} (hrt : ∀ δ A, Sub A0 A → V v → D0.nx δ A) : SS A0 X D0 V ss sNext (.ok v) := fun δ A e h => hrt δ A e.sub h
/-! ### if -/
theorem ss_if {c : DT} {s1 s2 : DS} {m : R Bool} {m1 m2 : R τ} (hw : WE A0 w X ss) (ht : ST w A0 ss c m) (h1 : SS A0 X D0 V ss s1 m1) (h2 : SS A0 X D0 V ss s2 m2) : SS A0 X D0 V ss (sIf c s1 s2) (R.cond m m1 m2) := fun δ A e h =>
  ht.run e h (fun c fs => hw c fs δ A e) fun a ha => by
    cases a with
    | true => exact ⟨fun _ => h1 _ _ e ha, fun h => (nomatch h)⟩
    | false => exact ⟨fun h => (nomatch h), fun _ => h2 _ _ e ha⟩
theorem ss_ifs {c : DT} {s1 s2 rest : DS} {m : R Bool} {m1 m2 : R τ} (hw : WE A0 w X ss) (ht : ST w A0 ss c m) (h1 : SS A0 X { D0 with nx := rest D0 } V ss s1 m1) (h2 : SS A0 X { D0 with nx := rest D0 } V ss s2 m2) : SS A0 X D0 V ss (sSeq (sIf c s1 s2) rest) (R.cond m m1 m2) :=
  ss_if (D0 := { D0 with nx := rest D0 }) hw ht h1 h2
/-- two ways that come together -/
theorem ss_join {s rest : DS} {m : R σ} {k : σ → R τ} (J : σ → List Sl) (h1 : ∀ (V' : σ → Prop) (N : DSt → AH → Prop), (∀ st δ A, V' st → Env A0 (J st) δ A → N δ A) → SS A0 X { D0 with nx := N } V' ss s m)
    (h2 : ∀ st, SS A0 X D0 V (J st) rest (k st)) : SS A0 X D0 V ss (sSeq s rest) (m.bind k) := fun δ A e h => by
  rw [R.wp_bind] at h
  exact h1 (fun st => (k st).wp V X) (rest D0) (fun st δ A hv e => h2 st δ A e hv) δ A e h
/-! ### for -/
/-- what a for walks: it stays so as long as what stood at first stands -/
def SIF (w : DW) (A0 : AH) (ss : List Sl) (it : DI) (m : R (List σ)) (f : σ → D) : Prop := ∀ (δ : DSt) (A : AH) (K : List D → (AH → Prop) → AH → Prop), Env A0 ss δ A → m.wp (fun l => ∀ g : AH → Prop, (∀ A', Sub A0 A' → g A') → K (l.map f) g A) (fun c fs => w c fs δ A) → it δ A K
def foldR : List α → σ → (α → σ → R σ) → R σ
  | [], s, _ => .ok s
  | x :: l, s, f => (f x s).bind fun s => foldR l s f
def forR : List α → σ → (α → σ → R (Fl σ ρ)) → R (Fl σ ρ)
  | [], s, _ => .ok (.nx s)
  | x :: l, s, f => (f x s).bind fun r => match r with
    | .nx s => forR l s f
    | .bk s => .ok (.nx s)
    | .rt r => .ok (.rt r)
theorem ss_for {it : DI} {g : DG} {body rest : DS} {mi : R (List α)} {fe : α → D} {f : α → σ → R σ} {st0 : σ} {k : σ → R τ} (hw : WE A0 w X ss) (J : σ → List Sl) (J1 : α → σ → List Sl) (bs : List Bool) (hj : mask bs ss = J st0) (hi : SIF w A0 ss it mi fe)
    (hg : ∀ x st, SG A0 g (fe x) (J st) (J1 x st)) (hb : ∀ (V' : σ → Prop) (N B : DSt → AH → Prop), (∀ st δ A, V' st → Env A0 (J st) δ A → N δ A) → ∀ x st, SS A0 X { D0 with nx := N, ct := N, bk := B } V' (J1 x st) body (f x st))
    (hr : ∀ st, SS A0 X D0 V (J st) rest (k st)) : SS A0 X D0 V ss (sSeq (sFor it g body) rest) (mi.bind fun l => (foldR l st0 f).bind k) := fun δ A e h => by
  rw [R.wp_bind] at h
  rw [sSeq_eq, sFor_eq]
  refine hi δ A _ e (R.wp_imp h (fun l hl gd hgd => ?_) fun c fs => hw c fs δ A e)
  have key : ∀ (l : List α) (st : σ) (δ : DSt) (A : AH), Env A0 (J st) δ A → ((foldR l st f).bind k).wp V X → forD gd g body { D0 with nx := rest D0 } (l.map fe) δ A := by
    intro l
    induction l with
    | nil => intro st δ A e h; exact ⟨hgd A e.sub, hr st δ A e h⟩
    | cons x l ih =>
      intro st δ A e h
      refine ⟨hgd A e.sub, hg x st δ A _ e fun δ' e' => ?_⟩
      have h' : ((f x st).bind fun s => (foldR l s f).bind k).wp V X := by
        have : (foldR (x :: l) st f).bind k = (f x st).bind fun s => (foldR l s f).bind k := R.bind_assoc
        rw [← this]; exact h
      rw [R.wp_bind] at h'
      exact hb (fun s => ((foldR l s f).bind k).wp V X) _ _ (fun st δ A hv e => ih st δ A e hv) x st δ' A e' h'
  exact key l st0 δ A (hj ▸ e.mask bs) hl
theorem ss_forF {it : DI} {g : DG} {body rest : DS} {mi : R (List α)} {fe : α → D} {f : α → σ → R (Fl σ ρ)} {st0 : σ} {k : σ → R τ} {kr : ρ → R τ} (hw : WE A0 w X ss) (J : σ → List Sl) (J1 : α → σ → List Sl) (bs : List Bool) (hj : mask bs ss = J st0) (hi : SIF w A0 ss it mi fe)
    (hrt : ∀ r A', Sub A0 A' → (kr r).wp V X → D0.rt (enc r) A') (hg : ∀ x st, SG A0 g (fe x) (J st) (J1 x st))
    (hb : ∀ (V' : Fl σ ρ → Prop) (N B : DSt → AH → Prop), (∀ st δ A, V' (.nx st) → Env A0 (J st) δ A → N δ A) → (∀ st δ A, V' (.bk st) → Env A0 (J st) δ A → B δ A) → (∀ r A', Sub A0 A' → V' (.rt r) → D0.rt (enc r) A') → ∀ x st, SS A0 X { D0 with nx := N, ct := N, bk := B } V' (J1 x st) body (f x st))
    (hr : ∀ st, SS A0 X D0 V (J st) rest (k st)) : SS A0 X D0 V ss (sSeq (sFor it g body) rest) (mi.bind fun l => R.flow (forR l st0 f) k kr) := fun δ A e h => by
  rw [R.wp_bind] at h
  rw [sSeq_eq, sFor_eq]
  refine hi δ A _ e (R.wp_imp h (fun l hl gd hgd => ?_) fun c fs => hw c fs δ A e)
  have key : ∀ (l : List α) (st : σ) (δ : DSt) (A : AH), Env A0 (J st) δ A → ((forR l st f).bind fun r => match r with
      | .nx s => k s
      | .bk s => k s
      | .rt r => kr r).wp V X → forD gd g body { D0 with nx := rest D0 } (l.map fe) δ A := by
    intro l
    induction l with
    | nil => intro st δ A e h; exact ⟨hgd A e.sub, hr st δ A e h⟩
    | cons x l ih =>
      intro st δ A e h
      refine ⟨hgd A e.sub, hg x st δ A _ e fun δ' e' => ?_⟩
      have h' : (f x st).wp (fun r => match r with
          | .nx s => ((forR l s f).bind fun r => match r with
              | .nx s => k s
              | .bk s => k s
              | .rt r => kr r).wp V X
          | .bk s => (k s).wp V X
          | .rt r => (kr r).wp V X) X := by
        have h2 := h
        unfold forR at h2
        rw [R.bind_assoc, R.wp_bind] at h2
        refine R.wp_imp h2 (fun r hr => ?_) fun _ _ h => h
        cases r <;> exact hr
      exact hb _ _ _ (fun st δ A hv e => ih st δ A e hv) (fun st δ A hv e => hr st δ A e hv) (fun r A' s hv => hrt r A' s hv) x st δ' A e' h'
  exact key l st0 δ A (hj ▸ e.mask bs) hl
end
end TF

/-! TF3: ==, in, subscripts, slices, built-in functions, calls, comprehensions. -/
namespace TF
open PySem PySem.Spec PyProof.Rows L2 DL FR
open Enc KeyT
/-! ### data that may be compared -/
instance : EqD Int := ⟨fun _ => True, 0, fun a n _ _ => dt_int, fun a b _ _ => by simp [enc]; exact (Bool.beq_eq_decide_eq a b), fun A d a n h q => by rw [h]; exact q, fun A x y a b h k => by rw [h, k]; rfl⟩
instance : EqD Bool := ⟨fun _ => True, 0, fun a n _ _ => dt_bl, fun a b _ _ => by simp [enc]; exact (Bool.beq_eq_decide_eq a b), fun A d a n h q => by rw [h]; exact q, fun A x y a b h k => by rw [h, k]; rfl⟩
instance : EqD Str := ⟨fun s => PyData.strOk s = true, 0, fun a n h _ => by show dt n (.str a) = true; rw [dt_str]; exact h, fun a b _ _ => by simp [enc]; exact (Bool.beq_eq_decide_eq a b), fun A d a n h q => by rw [h]; exact q, fun A x y a b h k => by rw [h, k]; rfl⟩
theorem dt_frn {q : Rat} {n : Nat} (h : 1 ≤ n) : dt n (frD q) = true := by
  obtain ⟨k, rfl⟩ : ∃ k, n = k + 1 := ⟨n - 1, by omega⟩
  exact dt_fr
instance : EqD Rat := ⟨fun _ => True, 1, fun a n _ h => dt_frn h, fun a b _ _ => deq_fr, fun A d a n h q => by rw [h]; show dt n (drf A (frD a)) = true; rw [drf_fr]; exact q, fun A x y a b h k => by rw [h, k]; show deq (drf A (frD a)) (drf A (frD b)) = _; rw [drf_fr, drf_fr]; rfl⟩
theorem drf_nr {A : AH} {d : D} (h : ∀ a, d ≠ .ref a) : drf A d = d := by
  cases d with
  | ref a => exact absurd rfl (h a)
  | _ => rfl
/-- never a changing object -/
class NR (α : Type) [Enc α] : Prop where
  nr : ∀ (a : α) p, enc a ≠ .ref p
  vw : ∀ {A d} {a : α}, vw A d a → d = enc a
section
variable {α β γ δ' ε ζ κ : Type} [Enc α] [Enc β] [Enc γ] [Enc δ'] [Enc ε] [Enc ζ] [KeyT κ]
instance : NR Int := ⟨fun _ _ h => D.noConfusion h, fun h => h⟩
instance : NR Bool := ⟨fun _ _ h => D.noConfusion h, fun h => h⟩
instance : NR Str := ⟨fun _ _ h => D.noConfusion h, fun h => h⟩
instance : NR Rat := ⟨fun _ _ h => by rw [enc_rat, frD_def] at h; exact D.noConfusion h, fun h => h⟩
instance : NR TieV := ⟨fun _ _ h => D.noConfusion h, fun h => h⟩
instance : NR (T1 α) := ⟨fun _ _ h => D.noConfusion h, fun h => h⟩
instance : NR (α × β) := ⟨fun _ _ h => D.noConfusion h, fun h => h⟩
instance : NR (T3 α β γ) := ⟨fun _ _ h => D.noConfusion h, fun h => h⟩
instance : NR (T4 α β γ δ') := ⟨fun _ _ h => D.noConfusion h, fun h => h⟩
instance : NR (T5 α β γ δ' ε) := ⟨fun _ _ h => D.noConfusion h, fun h => h⟩
instance : NR (T6 α β γ δ' ε ζ) := ⟨fun _ _ h => D.noConfusion h, fun h => h⟩
theorem enc_none : (enc (none : Option α) : D) = .non := rfl
theorem enc_somE (a : α) : (enc (some a) : D) = enc a := rfl
instance [NR α] : NR (Option α) := ⟨fun a p h => by
  cases a with
  | none => exact D.noConfusion h
  | some a => exact NR.nr a p h, fun h => h⟩
theorem vw_dtNR [NR α] (A : AH) (d : D) (a : α) (n : Nat) (h : vw A d a) (q : dt n (enc a) = true) : dt n (drf A d) = true := by
  rw [NR.vw h, drf_nr (NR.nr a)]; exact q
theorem vw_deqNR [NR α] (A : AH) (x y : D) (a b : α) (h : vw A x a) (k : vw A y b) : deq (drf A x) (drf A y) = deq (enc a) (enc b) := by
  rw [NR.vw h, NR.vw k, drf_nr (NR.nr a), drf_nr (NR.nr b)]
def Dic.get? [DecidableEq κ] (d : Dic κ α) (k : κ) : Option α := (d.l.find? fun p => decide (p.1 = k)).map (·.2)
theorem dget_enc [DecidableEq κ] (d : Dic κ α) (k : κ) : dget (encKV d.l) (key k) = (d.get? k).map enc := by
  unfold dget Dic.get? encKV
  rw [List.find?_map]
  have e : ((fun kv : Key × D => decide (kv.1 = key k)) ∘ fun p : κ × α => (key p.1, enc p.2)) = fun p => decide (p.1 = k) := by
    funext p; exact decide_eq_decide.mpr ⟨fun h => KeyT.inj h, fun h => by show key p.1 = key k; rw [h]⟩
  rw [e]
  cases d.l.find? fun p => decide (p.1 = k) <;> rfl
variable [DecidableEq α] [DecidableEq β] [DecidableEq γ] [DecidableEq δ'] [DecidableEq ε] [DecidableEq ζ] [EqD α] [EqD β] [EqD γ] [EqD δ'] [EqD ε] [EqD ζ]
theorem deq_non {d : D} (h : d.isNon = false) : deq .non d = false ∧ deq d .non = false := by
  cases d <;> first | exact absurd h (by decide) | exact ⟨by simp [deq], by simp [deq]⟩
instance [NN α] [NR α] : EqD (Option α) where
  good o := ∀ a, o = some a → EqD.good a
  dep := EqD.dep α
  dt_enc a n h hn := by
    cases a with
    | none => exact dt_non
    | some a => exact EqD.dt_enc a n (h a rfl) hn
  deq_enc a b h k := by
    cases a with
    | none => cases b with
      | none => simp [enc_none, deq]
      | some b => rw [enc_none, enc_somE, (deq_non (NN.nn b)).1]; simp
    | some a => cases b with
      | none => rw [enc_none, enc_somE, (deq_non (NN.nn a)).2]; simp
      | some b => rw [enc_somE, enc_somE, EqD.deq_enc a b (h a rfl) (k b rfl)]; simp
  vw_dt A d a n h q := vw_dtNR A d a n h q
  vw_deq A x y a b h k := vw_deqNR A x y a b h k
theorem dt_t {l : List D} {n : Nat} (h : 1 ≤ n) (q : dts (n - 1) l = true) : dt n (.tup l) = true := by
  obtain ⟨k, rfl⟩ : ∃ k, n = k + 1 := ⟨n - 1, by omega⟩
  rw [dt_tup]; exact q
instance : EqD (T1 α) where
  good t := EqD.good t.a
  dep := EqD.dep α + 1
  dt_enc t n h hn := dt_t (by omega) (by simp only [dts_cons, dts_nil, Bool.and_true]; exact EqD.dt_enc _ _ h (by omega))
  deq_enc a b h k := by
    show deq (.tup [enc a.a]) (.tup [enc b.a]) = _
    rw [deq_tup, deqs_cons, deqs_nil, EqD.deq_enc _ _ h k, Bool.and_true]
    cases a; cases b; simp
  vw_dt A d a n h q := vw_dtNR A d a n h q
  vw_deq A x y a b h k := vw_deqNR A x y a b h k
instance : EqD (α × β) where
  good t := EqD.good t.1 ∧ EqD.good t.2
  dep := max (EqD.dep α) (EqD.dep β) + 1
  dt_enc t n h hn := dt_t (by omega) (by simp only [dts_cons, dts_nil, Bool.and_true, Bool.and_eq_true]; exact ⟨EqD.dt_enc _ _ h.1 (by omega), EqD.dt_enc _ _ h.2 (by omega)⟩)
  deq_enc a b h k := by
    show deq (.tup [enc a.1, enc a.2]) (.tup [enc b.1, enc b.2]) = _
    rw [deq_tup, deqs_cons, deqs_cons, deqs_nil, EqD.deq_enc _ _ h.1 k.1, EqD.deq_enc _ _ h.2 k.2, Bool.and_true]
    cases a; cases b; simp
  vw_dt A d a n h q := vw_dtNR A d a n h q
  vw_deq A x y a b h k := vw_deqNR A x y a b h k
instance : EqD (T3 α β γ) where
  good t := EqD.good t.a ∧ EqD.good t.b ∧ EqD.good t.c
  dep := max (EqD.dep α) (max (EqD.dep β) (EqD.dep γ)) + 1
  dt_enc t n h hn := dt_t (by omega) (by simp only [dts_cons, dts_nil, Bool.and_true, Bool.and_eq_true]; exact ⟨EqD.dt_enc _ _ h.1 (by omega), EqD.dt_enc _ _ h.2.1 (by omega), EqD.dt_enc _ _ h.2.2 (by omega)⟩)
  deq_enc a b h k := by
    show deq (.tup [enc a.a, enc a.b, enc a.c]) (.tup [enc b.a, enc b.b, enc b.c]) = _
    rw [deq_tup, deqs_cons, deqs_cons, deqs_cons, deqs_nil, EqD.deq_enc _ _ h.1 k.1, EqD.deq_enc _ _ h.2.1 k.2.1, EqD.deq_enc _ _ h.2.2 k.2.2, Bool.and_true]
    cases a; cases b; simp
  vw_dt A d a n h q := vw_dtNR A d a n h q
  vw_deq A x y a b h k := vw_deqNR A x y a b h k
instance : EqD (T4 α β γ δ') where
  good t := EqD.good t.a ∧ EqD.good t.b ∧ EqD.good t.c ∧ EqD.good t.d
  dep := max (EqD.dep α) (max (EqD.dep β) (max (EqD.dep γ) (EqD.dep δ'))) + 1
  dt_enc t n h hn := dt_t (by omega) (by simp only [dts_cons, dts_nil, Bool.and_true, Bool.and_eq_true]; exact ⟨EqD.dt_enc _ _ h.1 (by omega), EqD.dt_enc _ _ h.2.1 (by omega), EqD.dt_enc _ _ h.2.2.1 (by omega), EqD.dt_enc _ _ h.2.2.2 (by omega)⟩)
  deq_enc a b h k := by
    show deq (.tup [enc a.a, enc a.b, enc a.c, enc a.d]) (.tup [enc b.a, enc b.b, enc b.c, enc b.d]) = _
    rw [deq_tup, deqs_cons, deqs_cons, deqs_cons, deqs_cons, deqs_nil, EqD.deq_enc _ _ h.1 k.1, EqD.deq_enc _ _ h.2.1 k.2.1, EqD.deq_enc _ _ h.2.2.1 k.2.2.1, EqD.deq_enc _ _ h.2.2.2 k.2.2.2, Bool.and_true]
    cases a; cases b; simp
  vw_dt A d a n h q := vw_dtNR A d a n h q
  vw_deq A x y a b h k := vw_deqNR A x y a b h k
instance : EqD (T6 α β γ δ' ε ζ) where
  good t := EqD.good t.a ∧ EqD.good t.b ∧ EqD.good t.c ∧ EqD.good t.d ∧ EqD.good t.e ∧ EqD.good t.f
  dep := max (EqD.dep α) (max (EqD.dep β) (max (EqD.dep γ) (max (EqD.dep δ') (max (EqD.dep ε) (EqD.dep ζ))))) + 1
  dt_enc t n h hn := dt_t (by omega) (by simp only [dts_cons, dts_nil, Bool.and_true, Bool.and_eq_true]; exact ⟨EqD.dt_enc _ _ h.1 (by omega), EqD.dt_enc _ _ h.2.1 (by omega), EqD.dt_enc _ _ h.2.2.1 (by omega), EqD.dt_enc _ _ h.2.2.2.1 (by omega), EqD.dt_enc _ _ h.2.2.2.2.1 (by omega), EqD.dt_enc _ _ h.2.2.2.2.2 (by omega)⟩)
  deq_enc a b h k := by
    show deq (.tup [enc a.a, enc a.b, enc a.c, enc a.d, enc a.e, enc a.f]) (.tup [enc b.a, enc b.b, enc b.c, enc b.d, enc b.e, enc b.f]) = _
    rw [deq_tup, deqs_cons, deqs_cons, deqs_cons, deqs_cons, deqs_cons, deqs_cons, deqs_nil, EqD.deq_enc _ _ h.1 k.1, EqD.deq_enc _ _ h.2.1 k.2.1, EqD.deq_enc _ _ h.2.2.1 k.2.2.1, EqD.deq_enc _ _ h.2.2.2.1 k.2.2.2.1, EqD.deq_enc _ _ h.2.2.2.2.1 k.2.2.2.2.1, EqD.deq_enc _ _ h.2.2.2.2.2 k.2.2.2.2.2, Bool.and_true]
    cases a; cases b; simp
  vw_dt A d a n h q := vw_dtNR A d a n h q
  vw_deq A x y a b h k := vw_deqNR A x y a b h k
theorem dts_map : ∀ (l : List α) (n : Nat), (∀ a ∈ l, EqD.good a) → EqD.dep α ≤ n → dts n (l.map enc) = true
  | [], n, _, _ => dts_nil
  | a :: l, n, h, hn => by
    rw [List.map_cons, dts_cons, EqD.dt_enc a n (h a List.mem_cons_self) hn, dts_map l n (fun a ha => h a (List.mem_cons_of_mem _ ha)) hn]; rfl
theorem deqs_map : ∀ (l m : List α), (∀ a ∈ l, EqD.good a) → (∀ a ∈ m, EqD.good a) → deqs (l.map enc) (m.map enc) = decide (l = m)
  | [], [], _, _ => by simp
  | [], b :: m, _, _ => by simp [deqs]
  | a :: l, [], _, _ => by simp [deqs]
  | a :: l, b :: m, h, k => by
    rw [List.map_cons, List.map_cons, deqs_cons, EqD.deq_enc a b (h a List.mem_cons_self) (k b List.mem_cons_self), deqs_map l m (fun a ha => h a (List.mem_cons_of_mem _ ha)) fun a ha => k a (List.mem_cons_of_mem _ ha)]
    simp
/-- a list as it stands -/
theorem drf_asL {A : AH} {d : D} {l : List D} (h : asL A d = some l) : drf A d = .lst l ∨ drf A d = .rol l := by
  cases d with
  | lst m => cases (show some m = some l from h); exact .inl rfl
  | rol m => cases (show some m = some l from h); exact .inr rfl
  | ref a =>
    have h' : (match A a with | some (.lst l) => some l | _ => none) = some l := h
    split at h'
    · rename_i q; cases h'; exact .inl (drf_ref q)
    · cases h'
  | _ => cases h
theorem dt_l {l : List D} {n : Nat} (h : 1 ≤ n) (q : dts (n - 1) l = true) : dt n (.lst l) = true := by
  obtain ⟨k, rfl⟩ : ∃ k, n = k + 1 := ⟨n - 1, by omega⟩
  rw [dt_lst]; exact q
instance : EqD (List α) where
  good l := ∀ a ∈ l, EqD.good a
  dep := EqD.dep α + 1
  dt_enc l n h hn := dt_l (by omega) (dts_map l _ h (by omega))
  deq_enc a b h k := by
    show deq (.lst _) (.lst _) = _
    rw [deq_lst]; exact deqs_map a b h k
  vw_dt A d a n h q := by
    rcases drf_asL h with e | e
    · rw [e]; exact q
    · rw [e]
      cases n with
      | zero => exact absurd q (by show dt 0 (.lst _) ≠ true; simp [dt])
      | succ n =>
        rw [show (enc a : D) = .lst (a.map enc) from rfl, dt_lst] at q
        rw [dt]; exact q
  vw_deq A x y a b h k := by
    rcases drf_asL h with e | e <;> rcases drf_asL k with e2 | e2 <;> rw [e, e2] <;> simp [deq, enc]
variable {w : DW} {A0 A : AH} {ss : List Sl} {δ : DSt} {Q : DK}
open Classical in
noncomputable def eqR (neg : Bool) (a b : α) : R Bool := if EqD.good a ∧ EqD.good b then .ok (xor neg (decide (a = b))) else .bad
theorem eqR_ok {neg : Bool} {a b : α} (h : EqD.good a) (k : EqD.good b) : eqR neg a b = .ok (xor neg (decide (a = b))) := by unfold eqR; rw [if_pos ⟨h, k⟩]
theorem op_eqV (neg : Bool) (hd : EqD.dep α ≤ 60) : OpV (opEq neg) (eqR (α := α) neg) := fun A x y a b Q X hx hy hw => by
  unfold eqR at hw
  split at hw
  · rename_i h
    refine ⟨EqD.vw_dt A x a 60 hx (EqD.dt_enc a 60 h.1 hd), EqD.vw_dt A y b 60 hy (EqD.dt_enc b 60 h.2 hd), ?_⟩
    rw [EqD.vw_deq A x y a b hx hy, EqD.deq_enc a b h.1 h.2]; exact hw
  · exact hw.elim
/-! ### in -/
open Classical in
noncomputable def inR (neg : Bool) (a : α) (l : List α) : R Bool := if EqD.good a ∧ ∀ b ∈ l, EqD.good b then .ok (xor neg (decide (a ∈ l))) else .bad
theorem inR_ok {neg : Bool} {a : α} {l : List α} (h : EqD.good a) (k : ∀ b ∈ l, EqD.good b) : inR neg a l = .ok (xor neg (decide (a ∈ l))) := by unfold inR; rw [if_pos ⟨h, k⟩]
theorem asDic_asL {A : AH} {d : D} {l : List D} (h : asL A d = some l) : asDic A d = none := by
  cases d with
  | ref a =>
    have h' : (match A a with | some (.lst l) => some l | _ => none) = some l := h
    show (match A a with | some (.dic l) => some l | _ => none) = none
    split at h'
    · rename_i q; rw [q]
    · cases h'
  | lst m => rfl
  | rol m => rfl
  | _ => cases h
theorem any_deq (a : α) (ha : EqD.good a) : ∀ l : List α, (∀ b ∈ l, EqD.good b) → ((l.map enc).any fun z => deq z (enc a)) = decide (a ∈ l)
  | [], _ => by simp
  | b :: l, h => by
    rw [List.map_cons, List.any_cons, any_deq a ha l fun b hb => h b (List.mem_cons_of_mem _ hb), EqD.deq_enc b a (h b List.mem_cons_self) ha]
    by_cases e : b = a
    · simp [e]
    · have : ¬ a = b := fun z => e z.symm
      simp [e, this]
/-- in a list -/
theorem se_in {t u : DE} {m : R α} {n : R (List α)} (neg : Bool) (hd : EqD.dep α ≤ 59) [NR α] (h : SE w A0 ss t m) (h2 : SV w A0 ss u n) : SE w A0 ss (eBin (opIn neg) t u) (R.b2 m n (inR neg)) := fun δ A Q e hw =>
  h.run e hw (fun _ _ => id) fun a hw => h2.run e hw (fun _ _ => id) fun l d hl hw => by
    unfold inR at hw
    split at hw
    · rename_i g
      have hl' : asL A d = some (l.map enc) := hl
      unfold opIn
      rw [asDic_asL hl']
      have e1 : drf A (enc a) = enc a := drf_nr (NR.nr a)
      have fin : ∀ x, x = (enc a : D) → (match asL A d with
        | some l => dt 60 (drf A x) = true ∧ dts 59 l = true ∧ Q (.bl (xor neg (l.any fun z => deq z (drf A x)))) A
        | none => False) := fun x hx => by
        subst hx
        rw [hl', e1]
        refine ⟨EqD.dt_enc a 60 g.1 (by omega), dts_map l 59 g.2 hd, ?_⟩
        rw [any_deq a g.1 l g.2]; exact hw
      generalize hx : (enc a : D) = x at *
      cases d <;> first | (cases hl'; done) | (cases x <;> exact fin _ rfl)
    · exact hw.elim
omit [DecidableEq α] [DecidableEq β] [DecidableEq γ] [DecidableEq δ'] [DecidableEq ε] [DecidableEq ζ] [EqD α] [EqD β] [EqD γ] [EqD δ'] [EqD ε] [EqD ζ]
/-- in a dict -/
theorem se_inD [Enc κ] [KeyD κ] [DecidableEq κ] {t u : DE} {m : R κ} {n : R (Dic κ α)} (neg : Bool) (h : SE w A0 ss t m) (h2 : SV w A0 ss u n) : SE w A0 ss (eBin (opIn neg) t u) (R.b2 m n fun k d => .ok (xor neg (d.get? k).isSome)) := fun δ A Q e hw =>
  h.run e hw (fun _ _ => id) fun a hw => h2.run e hw (fun _ _ => id) fun l d hl hw => by
    have hl' : asDic A d = some (encKV l.l) := hl
    unfold opIn
    rw [hl', KeyD.ok]
    show Q (.bl (xor neg (dget (encKV l.l) (key a)).isSome)) A
    rw [dget_enc]
    have : ((l.get? a).map (enc (α := α))).isSome = (l.get? a).isSome := by cases l.get? a <;> rfl
    rw [this]; exact hw
/-! ### subscripts -/
omit [Enc α] in
theorem atI_map {ρ : Type} (f : α → ρ) (l : List α) (i : Int) : atI (l.map f) i = (atI l i).map f := by
  unfold atI
  rw [List.length_map]
  cases ixN l.length i with
  | none => rfl
  | some j => show (l.map f)[j]? = (l[j]?).map f; rw [List.getElem?_map]
def ixL (l : List α) (i : Int) : R α := match atI l i with
  | some a => .ok a
  | none => .bad
theorem opIx_asL {x : D} {l : List D} {i : Int} {d : D} {Q : DK} (h : asL A x = some l) (hd : atI l i = some d) (q : Q d A) : opIx x (.int i) A Q := by
  have e : opIx x (.int i) A Q = (match asL A x with | some l => (match atI l i with | some d => Q d A | none => False) | none => opIx x (.int i) A Q) := by
    cases x <;> first | (cases h; done) | (unfold opIx asS; simp only [h] <;> cases atI l i <;> rfl)
  rw [e, h]; dsimp only; rw [hd]; exact q
theorem se_ix {t u : DE} {m : R (List α)} {n : R Int} (h : SV w A0 ss t m) (h2 : SE w A0 ss u n) : SE w A0 ss (eBin opIx t u) (R.b2 m n ixL) := fun δ A Q e hw =>
  h.run e hw (fun _ _ => id) fun l d hl hw => h2.run e hw (fun _ _ => id) fun i hw => by
    unfold ixL at hw
    split at hw
    · rename_i a ha
      exact opIx_asL (show asL A d = some (l.map enc) from hl) (by rw [atI_map, ha]; rfl) hw
    · exact hw.elim
def ixS (s : Str) (i : Int) : R Str := if s.length < 1000000 then (match atI s.cps.toList i with
  | some c => .ok ⟨#[c]⟩
  | none => .bad) else .bad
theorem op_ixS : OpE opIx ixS := fun A s i Q X hw => by
  unfold ixS at hw
  split at hw
  · rename_i hl
    split at hw
    · rename_i c hc
      show opIx (.str s) (.int i) A Q
      rw [opIx_str, hc]; exact ⟨hl, hw⟩
    · exact hw.elim
  · exact hw.elim
/-- t[i], t a tuple, i written -/
theorem se_proj {t : DE} {m : R α} (f : α → β) (i : Int) (hf : ∀ a : α, ∃ l, (enc a : D) = .tup l ∧ atI l i = some (enc (f a))) (h : SE w A0 ss t m) : SE w A0 ss (eBin opIx t (eC (.int i))) (m.map f) := fun δ A Q e hw =>
  h.run e hw (fun _ _ => id) fun a hw => by
    obtain ⟨l, h1, h2⟩ := hf a
    rw [h1]
    show opIx (.tup l) (.int i) A Q
    rw [opIx_tup, h2]; exact hw
theorem ix_num : ∀ q : Rat, ∃ l, (enc q : D) = .tup l ∧ atI l 0 = some (enc q.num) := fun q => ⟨_, frD_def q, rfl⟩
theorem ix_den : ∀ q : Rat, ∃ l, (enc q : D) = .tup l ∧ atI l 1 = some (enc ((q.den : Int))) := fun q => ⟨_, frD_def q, rfl⟩
def getR [DecidableEq κ] (d : Dic κ α) (k : κ) : R α := match d.get? k with
  | some a => .ok a
  | none => .bad
theorem opIx_dic {x i : D} {kvs : List (Key × D)} {k : Key} {d : D} {Q : DK} (h : asDic A x = some kvs) (hi : asKey i = some k) (hd : dget kvs k = some d) (q : Q d A) : opIx x i A Q := by
  cases i with
  | int j =>
    cases (show some (Sum.inl j) = some k from hi)
    unfold opIx
    cases x with
    | ref a =>
      have h' : (match A a with | some (.dic l) => some l | _ => none) = some kvs := h
      have e : asS A (.ref a) = none := by
        show (match A a with | some (.lst l) => some l | _ => none) = none
        split at h'
        · rename_i q; rw [q]
        · cases h'
      simp only [e, h, hd]; exact q
    | dic ks vs => simp only [show asS A (.dic ks vs) = none from rfl, h, hd]; exact q
    | _ => cases h
  | str s =>
    cases (show some (Sum.inr s) = some k from hi)
    unfold opIx
    simp only [h, hd]; exact q
  | _ => cases hi
theorem se_get [Enc κ] [KeyD κ] [DecidableEq κ] {t u : DE} {m : R (Dic κ α)} {n : R κ} (h : SV w A0 ss t m) (h2 : SE w A0 ss u n) : SE w A0 ss (eBin opIx t u) (R.b2 m n getR) := fun δ A Q e hw =>
  h.run e hw (fun _ _ => id) fun l d hl hw => h2.run e hw (fun _ _ => id) fun k hw => by
    unfold getR at hw
    split at hw
    · rename_i a ha
      exact opIx_dic (show asDic A d = some (encKV l.l) from hl) (KeyD.ok k) (by rw [dget_enc, ha]; rfl) hw
    · exact hw.elim
/-! ### slices -/
def SOp (w : DW) (A0 : AH) (ss : List Sl) (t : DOpt) (m : R (Option Int)) : Prop := ∀ (δ : DSt) (A : AH) (Q : Option Int → AH → Prop), Env A0 ss δ A → m.wp (fun a => Q a A) (fun c fs => w c fs δ A) → t δ A Q
theorem sop_none : SOp w A0 ss oNone (.ok none) := fun δ A Q e hw => hw
theorem sop_some {t : DE} {m : R Int} (h : SE w A0 ss t m) : SOp w A0 ss (oSome t) (m.map some) := fun δ A Q e hw => by
  rw [oSome_eq]; exact h.run e hw (fun _ _ => id) fun a hw => hw
theorem SOp.run {t : DOpt} {m : R (Option Int)} {τ : Type} {k : Option Int → R τ} {V : τ → Prop} {X} {Q : Option Int → AH → Prop} (h : SOp w A0 ss t m) (e : Env A0 ss δ A) (hw : (m.bind k).wp V X) (hx : ∀ c fs, X c fs → w c fs δ A) (hk : ∀ a, (k a).wp V X → Q a A) : t δ A Q :=
  h δ A Q e (by rw [R.wp_bind] at hw; exact R.wp_imp hw hk hx)
def cut {α : Type} (l : List α) (lo hi : Option Int) : List α := (l.drop (HT.sIx l.length 0 lo)).take (HT.sIx l.length l.length hi - HT.sIx l.length 0 lo)
theorem cut_map {ρ : Type} {f : α → D} (l : List α) (lo hi : Option Int) : DL.cutD (l.map f) lo hi = (cut l lo hi).map f := by
  unfold DL.cutD cut
  rw [List.length_map, List.map_take, List.map_drop]
theorem opSl_asL {mk : DL.Mk} {x : D} {l : List D} {lo hi : Option Int} {Q : DK} (h : asL A x = some l) (q : mk (DL.cutD l lo hi) A Q) : opSl mk x lo hi A Q := by
  have e : opSl mk x lo hi A Q = (match asL A x with | some l => mk (DL.cutD l lo hi) A Q | none => opSl mk x lo hi A Q) := by
    cases x <;> first | (cases h; done) | (simp only [h]; unfold opSl; simp only [h])
  rw [e, h]; exact q
theorem se_sl {t : DE} {lo hi : DOpt} {m : R (List α)} {ml mh : R (Option Int)} (h : SV w A0 ss t m) (h1 : SOp w A0 ss lo ml) (h2 : SOp w A0 ss hi mh) : SE w A0 ss (eSl mkF t lo hi) (m.bind fun l => ml.bind fun a => mh.bind fun b => .ok (cut l a b)) := fun δ A Q e hw => by
  rw [eSl_eq]
  exact h.run e hw (fun _ _ => id) fun l d hl hw => h1.run e hw (fun _ _ => id) fun a hw => h2.run e hw (fun _ _ => id) fun b hw => opSl_asL (show asL A d = some (l.map enc) from hl) (by rw [cut_map (ρ := Unit)]; exact hw)
theorem so_sl {t : DE} {lo hi : DOpt} {m : R (List α)} {ml mh : R (Option Int)} (h : SV w A0 ss t m) (h1 : SOp w A0 ss lo ml) (h2 : SOp w A0 ss hi mh) : SO w A0 ss (eSl mkO t lo hi) (m.bind fun l => ml.bind fun a => mh.bind fun b => .ok (cut l a b)) oL := fun δ A Q e hw => by
  rw [eSl_eq]
  exact h.run e hw (fun _ _ => id) fun l d hl hw => h1.run e hw (fun _ _ => id) fun a hw => h2.run e hw (fun _ _ => id) fun b hw => opSl_asL (show asL A d = some (l.map enc) from hl) fun p hp => by rw [cut_map (ρ := Unit)]; exact hw p _ (New.put hp)
def cutR (s : Str) (a b : Option Int) : R Str := if s.length < 1000000 then .ok (cutS s a b) else .bad
theorem se_slS {mk : DL.Mk} {t : DE} {lo hi : DOpt} {m : R Str} {ml mh : R (Option Int)} (h : SE w A0 ss t m) (h1 : SOp w A0 ss lo ml) (h2 : SOp w A0 ss hi mh) : SE w A0 ss (eSl mk t lo hi) (m.bind fun l => ml.bind fun a => mh.bind fun b => cutR l a b) := fun δ A Q e hw => by
  rw [eSl_eq]
  exact h.run e hw (fun _ _ => id) fun l hw => h1.run e hw (fun _ _ => id) fun a hw => h2.run e hw (fun _ _ => id) fun b hw => by
    unfold cutR at hw
    split at hw
    · rename_i hl; exact ⟨hl, hw⟩
    · exact hw.elim
/-- a slice of a tuple, written -/
theorem se_slT {mk : DL.Mk} {t : DE} {lo hi : DOpt} {m : R α} (a b : Option Int) (f : α → β) (hf : ∀ x : α, ∃ l, (enc x : D) = .tup l ∧ D.tup (DL.cutD l a b) = (enc (f x) : D)) (h : SE w A0 ss t m) (h1 : SOp w A0 ss lo (.ok a)) (h2 : SOp w A0 ss hi (.ok b)) : SE w A0 ss (eSl mk t lo hi) (m.map f) := fun δ A Q e hw => by
  rw [eSl_eq]
  exact h.run e hw (fun _ _ => id) fun x hw => h1 δ A _ e (h2 δ A _ e (by
    obtain ⟨l, q1, q2⟩ := hf x
    show opSl mk (enc x) a b A Q
    rw [q1]
    show Q (.tup (DL.cutD l a b)) A
    rw [q2]; exact hw))
/-! ### built-in functions -/
def CbE (rd : DCall) (F : α → R β) : Prop := ∀ (A : AH) (a : α) (Q : DK) X, (F a).wp (fun c => Q (enc c) A) X → rd [enc a] A Q
theorem se_cb {rd : DCall} {F : α → R β} {t : DE} {m : R α} (op : CbE rd F) (h : SE w A0 ss t m) : SE w A0 ss (eCB rd (aCons t aNil)) (m.bind F) := fun δ A Q e hw =>
  h.run e hw (fun _ _ => id) fun a hw => op A a Q _ hw
def CbV (rd : DCall) (F : α → R β) : Prop := ∀ (A : AH) (d : D) (a : α) (Q : DK) X, vw A d a → (F a).wp (fun c => Q (enc c) A) X → rd [d] A Q
theorem sv_cb {rd : DCall} {F : α → R β} {t : DE} {m : R α} (op : CbV rd F) (h : SV w A0 ss t m) : SE w A0 ss (eCB rd (aCons t aNil)) (m.bind F) := fun δ A Q e hw =>
  h.run e hw (fun _ _ => id) fun a d hd hw => op A d a Q _ hd hw
def CbO {τ : Type} (rd : DCall) (F : α → R τ) (o : τ → OT) : Prop := ∀ (A : AH) (d : D) (a : α) (Q : DK) X, vw A d a → (F a).wp (fun c => ∀ p A', New A (o c) p A' → Q (.ref p) A') X → rd [d] A Q
theorem so_cb {τ : Type} {o : τ → OT} {rd : DCall} {F : α → R τ} {t : DE} {m : R α} (op : CbO rd F o) (h : SV w A0 ss t m) : SO w A0 ss (eCB rd (aCons t aNil)) (m.bind F) o := fun δ A Q e hw =>
  h.run e hw (fun _ _ => id) fun a d hd hw => op A d a Q _ hd hw
theorem asS_asL {A : AH} {d : D} {l : List D} (h : asL A d = some l) : asS A d = some l := by
  cases d <;> first | exact h | cases h
theorem cb_len : CbV bLen (fun (l : List α) => .ok (l.length : Int)) := fun A d a Q X hd hw => by
  have h : asL A d = some (a.map enc) := hd
  have e : bLen [d] A Q = (match asS A d with
    | some l => Q (.int l.length) A
    | none => match asDic A d with
      | some kvs => Q (.int kvs.length) A
      | none => False) := by
    cases d <;> first | (cases h; done) | rfl
  rw [e, asS_asL h]
  show Q (.int ((a.map enc).length : Nat)) A
  rw [List.length_map]; exact hw
theorem cb_lenD : CbV bLen (fun (l : Dic κ α) => .ok (l.l.length : Int)) := fun A d a Q X hd hw => by
  have h : asDic A d = some (encKV a.l) := hd
  have hs : asS A d = none := by
    cases d with
    | ref x =>
      have h' : (match A x with | some (.dic l) => some l | _ => none) = some (encKV a.l) := h
      show (match A x with | some (.lst l) => some l | _ => none) = none
      split at h'
      · rename_i q; rw [q]
      · cases h'
    | dic _ _ => rfl
    | _ => cases h
  have e : bLen [d] A Q = (match asS A d with
    | some l => Q (.int l.length) A
    | none => match asDic A d with
      | some kvs => Q (.int kvs.length) A
      | none => False) := by
    cases d <;> first | (cases h; done) | rfl
  rw [e, hs, h]
  show Q (.int ((encKV a.l).length : Nat)) A
  unfold encKV; rw [List.length_map]; exact hw
def lenS (s : Str) : R Int := if s.length < 1000000 then .ok (s.length : Int) else .bad
theorem cb_lenS : CbE bLen lenS := fun A a Q X hw => by
  unfold lenS at hw
  split at hw
  · rename_i h; exact ⟨h, hw⟩
  · exact hw.elim
theorem cb_abs : CbE bAbs (fun (i : Int) => .ok (i.natAbs : Int)) := fun A a Q X hw => hw
theorem se_min {t u : DE} {m n : R Int} (h : SE w A0 ss t m) (h2 : SE w A0 ss u n) : SE w A0 ss (eCB bMin (aCons t (aCons u aNil))) (R.b2 m n fun i j => .ok (if j < i then j else i)) := fun δ A Q e hw =>
  h.run e hw (fun _ _ => id) fun a hw => h2.run e hw (fun _ _ => id) fun b hw => hw
open Classical in
noncomputable def strI (i : Int) : R Str := if Num i then .ok (numStr i) else .bad
theorem cb_str : CbE bStr strI := fun A a Q X hw => by
  unfold strI at hw
  split at hw
  · rename_i h; exact ⟨h, hw⟩
  · exact hw.elim
theorem cb_intB : CbE bInt (fun (b : Bool) => .ok (if b = true then (1 : Int) else 0)) := fun A a Q X hw => hw
theorem bList_asL {mk : DL.Mk} {x : D} {l : List D} {Q : DK} (h : asL A x = some l) (q : mk l A Q) : bList mk [x] A Q := by
  have e : bList mk [x] A Q = (match asS A x with | some l => mk l A Q | none => bList mk [x] A Q) := by
    rw [asS_asL h]; unfold bList; simp only [asS_asL h]
  rw [e, asS_asL h]; exact q
theorem cb_list : CbV (bList mkF) (fun (l : List α) => .ok l) := fun A d a Q X hd hw => bList_asL (show asL A d = some (a.map enc) from hd) hw
theorem cb_listO : CbO (bList mkO) (fun (l : List α) => .ok l) oL := fun A d a Q X hd hw => bList_asL (show asL A d = some (a.map enc) from hd) fun p hp => hw p _ (New.put hp)
/-! ### calls -/
theorem se_call0 {sp : DSp} {dvs : List D} {ρ' : Type} {F : R ρ'} [Enc ρ'] (hs : ∀ A (Q : DK) E, F.wp (fun r => Q (enc r) A) (fun c fs => E c fs A) → sp ([] ++ dvs) A Q E) : SE w A0 ss (eCall w sp dvs aNil) F := fun δ A Q e hw => hs A Q _ hw
theorem se_call1 {sp : DSp} {dvs : List D} {ρ' : Type} {F : α → R ρ'} [Enc ρ'] {t : DE} {m : R α} (hs : ∀ A d a (Q : DK) E, vw A d a → (F a).wp (fun r => Q (enc r) A) (fun c fs => E c fs A) → sp ([d] ++ dvs) A Q E) (h : SV w A0 ss t m) : SE w A0 ss (eCall w sp dvs (aCons t aNil)) (m.bind F) := fun δ A Q e hw =>
  h.run e hw (fun _ _ => id) fun a d hd hw => hs A d a Q _ hd hw
theorem se_call2 {sp : DSp} {dvs : List D} {ρ' : Type} {F : α → β → R ρ'} [Enc ρ'] {t u : DE} {m : R α} {n : R β} (hs : ∀ A x y a b (Q : DK) E, vw A x a → vw A y b → (F a b).wp (fun r => Q (enc r) A) (fun c fs => E c fs A) → sp ([x, y] ++ dvs) A Q E) (h : SV w A0 ss t m) (h2 : SV w A0 ss u n) :
    SE w A0 ss (eCall w sp dvs (aCons t (aCons u aNil))) (m.bind fun a => n.bind fun b => F a b) := fun δ A Q e hw =>
  h.run e hw (fun _ _ => id) fun a d hd hw => h2.run e hw (fun _ _ => id) fun b y hy hw => hs A d y a b Q _ hd hy hw
theorem se_call3 {sp : DSp} {dvs : List D} {ρ' : Type} {F : α → β → γ → R ρ'} [Enc ρ'] {t u v : DE} {m : R α} {n : R β} {o : R γ} (hs : ∀ A x y z a b c (Q : DK) E, vw A x a → vw A y b → vw A z c → (F a b c).wp (fun r => Q (enc r) A) (fun c fs => E c fs A) → sp ([x, y, z] ++ dvs) A Q E) (h : SV w A0 ss t m) (h2 : SV w A0 ss u n) (h3 : SV w A0 ss v o) :
    SE w A0 ss (eCall w sp dvs (aCons t (aCons u (aCons v aNil)))) (m.bind fun a => n.bind fun b => o.bind fun c => F a b c) := fun δ A Q e hw =>
  h.run e hw (fun _ _ => id) fun a d hd hw => h2.run e hw (fun _ _ => id) fun b y hy hw => h3.run e hw (fun _ _ => id) fun c z hz hw => hs A d y z a b c Q _ hd hy hz hw
theorem se_call4 {sp : DSp} {dvs : List D} {ρ' : Type} {F : α → β → γ → δ' → R ρ'} [Enc ρ'] {t u v t4 : DE} {m : R α} {n : R β} {o : R γ} {m4 : R δ'} (hs : ∀ A x y z d4 a b c a4 (Q : DK) E, vw A x a → vw A y b → vw A z c → vw A d4 a4 → (F a b c a4).wp (fun r => Q (enc r) A) (fun c fs => E c fs A) → sp ([x, y, z, d4] ++ dvs) A Q E) (h : SV w A0 ss t m) (h2 : SV w A0 ss u n) (h3 : SV w A0 ss v o) (h4 : SV w A0 ss t4 m4) :
    SE w A0 ss (eCall w sp dvs (aCons t (aCons u (aCons v (aCons t4 aNil))))) (m.bind fun a => n.bind fun b => o.bind fun c => m4.bind fun d => F a b c d) := fun δ A Q e hw =>
  h.run e hw (fun _ _ => id) fun a d hd hw => h2.run e hw (fun _ _ => id) fun b y hy hw => h3.run e hw (fun _ _ => id) fun c z hz hw => h4.run e hw (fun _ _ => id) fun a4 d4 hd4 hw => hs A d y z d4 a b c a4 Q _ hd hy hz hd4 hw
theorem se_call5 {sp : DSp} {dvs : List D} {ρ' : Type} {F : α → β → γ → δ' → ε → R ρ'} [Enc ρ'] {t u v t4 t5 : DE} {m : R α} {n : R β} {o : R γ} {m4 : R δ'} {m5 : R ε} (hs : ∀ A x y z d4 d5 a b c a4 a5 (Q : DK) E, vw A x a → vw A y b → vw A z c → vw A d4 a4 → vw A d5 a5 → (F a b c a4 a5).wp (fun r => Q (enc r) A) (fun c fs => E c fs A) → sp ([x, y, z, d4, d5] ++ dvs) A Q E) (h : SV w A0 ss t m) (h2 : SV w A0 ss u n) (h3 : SV w A0 ss v o) (h4 : SV w A0 ss t4 m4) (h5 : SV w A0 ss t5 m5) :
    SE w A0 ss (eCall w sp dvs (aCons t (aCons u (aCons v (aCons t4 (aCons t5 aNil)))))) (m.bind fun a => n.bind fun b => o.bind fun c => m4.bind fun d => m5.bind fun e => F a b c d e) := fun δ A Q e hw =>
  h.run e hw (fun _ _ => id) fun a d hd hw => h2.run e hw (fun _ _ => id) fun b y hy hw => h3.run e hw (fun _ _ => id) fun c z hz hw => h4.run e hw (fun _ _ => id) fun a4 d4 hd4 hw => h5.run e hw (fun _ _ => id) fun a5 d5 hd5 hw => hs A d y z d4 d5 a b c a4 a5 Q _ hd hy hz hd4 hd5 hw
theorem se_call6 {sp : DSp} {dvs : List D} {ρ' : Type} {F : α → β → γ → δ' → ε → ζ → R ρ'} [Enc ρ'] {t u v t4 t5 t6 : DE} {m : R α} {n : R β} {o : R γ} {m4 : R δ'} {m5 : R ε} {m6 : R ζ} (hs : ∀ A x y z d4 d5 d6 a b c a4 a5 a6 (Q : DK) E, vw A x a → vw A y b → vw A z c → vw A d4 a4 → vw A d5 a5 → vw A d6 a6 → (F a b c a4 a5 a6).wp (fun r => Q (enc r) A) (fun c fs => E c fs A) → sp ([x, y, z, d4, d5, d6] ++ dvs) A Q E) (h : SV w A0 ss t m) (h2 : SV w A0 ss u n) (h3 : SV w A0 ss v o) (h4 : SV w A0 ss t4 m4) (h5 : SV w A0 ss t5 m5) (h6 : SV w A0 ss t6 m6) :
    SE w A0 ss (eCall w sp dvs (aCons t (aCons u (aCons v (aCons t4 (aCons t5 (aCons t6 aNil))))))) (m.bind fun a => n.bind fun b => o.bind fun c => m4.bind fun d => m5.bind fun e => m6.bind fun f => F a b c d e f) := fun δ A Q e hw =>
  h.run e hw (fun _ _ => id) fun a d hd hw => h2.run e hw (fun _ _ => id) fun b y hy hw => h3.run e hw (fun _ _ => id) fun c z hz hw => h4.run e hw (fun _ _ => id) fun a4 d4 hd4 hw => h5.run e hw (fun _ _ => id) fun a5 d5 hd5 hw => h6.run e hw (fun _ _ => id) fun a6 d6 hd6 hw => hs A d y z d4 d5 d6 a b c a4 a5 a6 Q _ hd hy hz hd4 hd5 hd6 hw
/-- what a call tells, frozen: it tells no changing object -/
theorem se_fz {t : DE} {m : R α} [NR α] (h : SE w A0 ss t m) : SE w A0 ss (eFz t) m := fun δ A Q e hw => by
  rw [eFz_eq]
  refine h δ A _ e (R.wp_imp hw (fun a ha => ?_) fun _ _ h => h)
  have := NR.nr a
  generalize (enc a : D) = d at *
  cases d with
  | ref p => exact absurd rfl (this p)
  | _ => exact ha
/-- a new list, frozen -/
theorem se_fzO {t : DE} {m : R (List α)} (h : SO w A0 ss t m oL) : SE w A0 ss (eFz t) m := fun δ A Q e hw => by
  rw [eFz_eq]
  refine h δ A _ e (R.wp_imp hw (fun a ha p A' hn => ?_) fun _ _ h => h)
  obtain ⟨C, ⟨h1, h2⟩, h3, h4⟩ := hn.ex
  subst h2
  simp only [h1]
  have : A'.del p = A := by
    funext b
    unfold AH.del
    by_cases hb : b = p
    · rw [if_pos hb, hb, h3 p (List.mem_singleton.mpr rfl)]
    · rw [if_neg hb, h4 b (by simpa using hb)]
  rw [this]; exact ha
/-! ### isinstance -/
theorem se_isi {t : DE} {m : R α} {T s : String} (b : Bool) (hb : instB s T = b) (hs : ∀ (A : AH) (a : α), tyD A (enc a) = some s) (h : SE w A0 ss t m) : SE w A0 ss (eIsi T t) (m.bind fun _ => .ok b) := fun δ A Q e hw => by
  rw [eIsi_eq]
  refine h.run e hw (fun _ _ => id) fun a hw => ?_
  rw [hs A a]
  show Q (.bl (instB s T)) A
  rw [hb]; exact hw
theorem sv_isi {t : DE} {m : R (List α)} {T : String} (b : Bool) (hb : instB "list" T = b) (h : SV w A0 ss t m) : SE w A0 ss (eIsi T t) (m.bind fun _ => .ok b) := fun δ A Q e hw => by
  rw [eIsi_eq]
  refine h.run e hw (fun _ _ => id) fun a d hd hw => ?_
  have hd' : asL A d = some (a.map enc) := hd
  have : tyD A d = some "list" := by
    cases d with
    | ref a =>
      have h' : (match A a with | some (.lst l) => some l | _ => none) = some _ := hd'
      split at h'
      · rename_i q; exact ty_ref q
      · cases h'
    | lst _ => rfl
    | rol _ => rfl
    | _ => cases hd'
  rw [this]
  show Q (.bl (instB "list" T)) A
  rw [hb]; exact hw
/-! ### what is walked -/
theorem sif_seq {t : DE} {m : R (List α)} (h : SE w A0 ss t m) : SIF w A0 ss (iSeq t) m enc := fun δ A K e hw => by
  rw [iSeq_eq]
  refine h δ A _ e (R.wp_imp hw (fun l hl => ?_) fun _ _ h => h)
  exact hl _ fun _ _ => trivial
/-- a weak list that stands in a slot -/
theorem sif_var {i : Nat} {d : D} {l : List α} (h : ss[i]? = some (.val d)) (v : vw A0 d l) : SIF w A0 ss (iSeq (eVar i)) (.ok l) enc := fun δ A K e hw => by
  rw [iSeq_eq, eVar_eq (e.get_val h)]
  have v' : asL A0 d = some (l.map enc) := v
  cases d with
  | ref a =>
    have h' : (match A0 a with | some (.lst l) => some l | _ => none) = some _ := v'
    split at h'
    · rename_i m q
      cases h'
      simp only [e.sub _ _ q]
      exact hw _ fun A' s => s _ _ q
    · cases h'
  | lst m => cases (show some m = some _ from v'); exact hw _ fun _ _ => trivial
  | rol m => cases (show some m = some _ from v'); exact hw _ fun _ _ => trivial
  | _ => cases v'
/-- the numbers lo, lo + 1, .. -/
def rngL (lo : Int) (n : Nat) : List Int := (List.range n).map fun i => lo + (i : Nat)
theorem rng_map (lo : Int) (n : Nat) : rngD lo n = (rngL lo n).map enc := by unfold rngD rngL; rw [List.map_map]; rfl
def rng1 (n : Int) : R (List Int) := if n.natAbs < 2 ^ 62 then .ok (rngL 0 n.toNat) else .bad
theorem rng1_ok {n : Int} (h : n.natAbs < 4611686018427387904) : rng1 n = .ok (rngL 0 n.toNat) := if_pos (by simpa using h)
theorem sif_rng1 {t : DE} {m : R Int} (h : SE w A0 ss t m) : SIF w A0 ss (iRng1 (aCons t aNil)) (m.bind rng1) enc := fun δ A K e hw => by
  rw [iRng1_eq, aCons_eq]
  refine h.run e hw (fun _ _ => id) fun n hw => ?_
  unfold rng1 at hw
  split at hw
  · rename_i hn
    refine ⟨hn, ?_⟩
    rw [rng_map]; exact hw _ fun _ _ => trivial
  · exact hw.elim
def rng2 (i j : Int) : R (List Int) := if i.natAbs < 2 ^ 62 ∧ j.natAbs < 2 ^ 62 then .ok (rngL i (j - i).toNat) else .bad
theorem sif_rng2 {t u : DE} {m n : R Int} (h : SE w A0 ss t m) (h2 : SE w A0 ss u n) : SIF w A0 ss (iRng2 (aCons t (aCons u aNil))) (R.b2 m n rng2) enc := fun δ A K e hw => by
  rw [iRng2_eq, aCons_eq]
  refine h.run e hw (fun _ _ => id) fun i hw => ?_
  rw [aCons_eq]
  refine h2.run e hw (fun _ _ => id) fun j hw => ?_
  unfold rng2 at hw
  split at hw
  · rename_i hn
    refine ⟨hn, ?_⟩
    rw [rng_map]; exact hw _ fun _ _ => trivial
  · exact hw.elim
end
end TF

/-! TF4: comprehensions, while, try, frozen slots, a def's promise. -/
namespace TF
open PySem PySem.Spec PyProof.Rows L2 DL FR
open Enc KeyT
theorem sub_trans {A B C : AH} (h : Sub A B) (k : Sub B C) : Sub A C := fun a o e => k a o (h a o e)
section
variable {α β γ σ ρ τ κ : Type} [Enc α] [Enc β] [Enc γ] [Enc ρ] [KeyT κ]
variable {w : DW} {A0 A : AH} {X : String → List (String × D) → Prop} {D0 : DEnds} {V : τ → Prop} {ss : List Sl} {δ : DSt} {Q : DK}
/-! ### comprehensions -/
def SIC (w : DW) (A0 : AH) (ss : List Sl) (it : DI) (m : R (List σ)) (f : σ → D) : Prop := ∀ (δ : DSt) (A : AH) (K : List D → (AH → Prop) → AH → Prop), Env A0 ss δ A → m.wp (fun l => ∀ g : AH → Prop, (∀ A', Sub A A' → g A') → K (l.map f) g A) (fun c fs => w c fs δ A) → it δ A K
theorem sic {it : DI} {m : R (List σ)} {f : σ → D} (h : SIF w A0 ss it m f) : SIC w A0 ss it m f := fun δ A K e hw =>
  h δ A K e (R.wp_imp hw (fun l hl g hg => hl g fun A' s => hg A' (sub_trans e.sub s)) fun _ _ h => h)
theorem sic_v {t : DE} {m : R (List α)} (h : SV w A0 ss t m) : SIC w A0 ss (iSeq t) m enc := fun δ A K e hw => by
  rw [iSeq_eq]
  refine h δ A _ e (R.wp_imp hw (fun l hl d hd => ?_) fun _ _ h => h)
  have v' : asL A d = some (l.map enc) := hd
  cases d with
  | ref a =>
    have h' : (match A a with | some (.lst l) => some l | _ => none) = some _ := v'
    split at h'
    · rename_i m q
      cases h'
      simp only [q]
      exact hl _ fun A' s => s _ _ q
    · cases h'
  | lst m => cases (show some m = some _ from v'); exact hl _ fun _ _ => trivial
  | rol m => cases (show some m = some _ from v'); exact hl _ fun _ _ => trivial
  | _ => cases v'
def wipeS (ss : List Sl) : List Nat → List Sl
  | [] => ss
  | v :: vs => (wipeS ss vs).set v .emp
theorem Env.wipe (h : Env A0 ss δ A) : ∀ vs : List Nat, Env A0 (wipeS ss vs) (wipeD δ vs) A
  | [] => h
  | v :: vs => (Env.wipe h vs).set_any v none
def compR (c : α → R Bool) (f : α → R β) : List α → List β → R (List β)
  | [], acc => .ok acc
  | x :: l, acc => (c x).noexc.bind fun b => if b = true then (f x).noexc.bind fun y => (few acc).bind fun _ => compR c f l (acc ++ [y]) else compR c f l acc
theorem put_put_sub {p : Addr} {o o' : AO} (h : A p = none) : Sub A (A.put p o) := (Sub.refl A).put h
theorem comp_run {g : DG} {tt : DT} {te : DE} {vs : List Nat} {fe : α → D} {c : α → R Bool} {f : α → R β} (J1 : α → List Sl) {gd : AH → Prop} {fin : AH → Prop} {p : Addr} (hp : A p = none) (hgd : ∀ A', Sub A A' → gd A')
    (hg : ∀ x, SG A0 g (fe x) (wipeS ss vs) (J1 x)) (ht : ∀ x, ST w0 A0 (J1 x) tt (c x)) (he : ∀ x, SE w0 A0 (J1 x) te (f x)) (e : Env A0 ss δ A) {X'} : ∀ (l : List α) (acc : List β), (compR c f l acc).wp (fun r => fin (A.put p (.lst (r.map enc)))) X' → compD p gd g tt te vs fin δ (l.map fe) (A.put p (.lst (acc.map enc)))
  | [], acc, h => ⟨hgd _ ((Sub.refl A).put hp), h⟩
  | x :: l, acc, h => by
    refine ⟨hgd _ ((Sub.refl A).put hp), hg x _ _ _ ((e.wipe vs).put hp) fun δ' e' => ?_⟩
    unfold compR at h
    rw [R.wp_bind] at h
    refine ht x δ' _ _ e' (R.wp_noexc (R.wp_imp h (fun b hb => ?_) fun _ _ h => h))
    cases b with
    | true =>
      refine ⟨fun _ => ?_, fun h => (nomatch h)⟩
      have hb' : ((f x).noexc.bind fun y => (few acc).bind fun _ => compR c f l (acc ++ [y])).wp (fun r => fin (A.put p (.lst (r.map enc)))) X' := hb
      rw [R.wp_bind] at hb'
      refine he x δ' _ _ e' (R.wp_noexc (R.wp_imp hb' (fun y hy => ?_) fun _ _ h => h))
      rw [R.wp_bind] at hy
      obtain ⟨h1, h2⟩ := few_wp hy
      refine ⟨acc.map enc, AH.put_same .., by simpa using h1, ?_⟩
      rw [AH.put_put]
      have := comp_run J1 hp hgd hg ht he e l (acc ++ [y]) h2
      rw [List.map_append] at this
      exact this
    | false => exact ⟨fun h => (nomatch h), fun _ => comp_run J1 hp hgd hg ht he e l acc hb⟩
theorem se_lc {it : DI} {g : DG} {tt : DT} {te : DE} {vs : List Nat} {mi : R (List α)} {fe : α → D} {c : α → R Bool} {f : α → R β} (J1 : α → List Sl) (hi : SIC w A0 ss it mi fe) (hg : ∀ x, SG A0 g (fe x) (wipeS ss vs) (J1 x)) (ht : ∀ x, ST w0 A0 (J1 x) tt (c x)) (he : ∀ x, SE w0 A0 (J1 x) te (f x)) :
    SE w A0 ss (eLc finF it g tt te vs) (mi.bind fun l => (compR c f l []).noexc) := fun δ A Q e h => by
  rw [R.wp_bind] at h
  rw [eLc_eq]
  refine hi δ A _ e (R.wp_imp h (fun l hl gd hgd p hp => ?_) fun _ _ h => h)
  refine comp_run (β := β) J1 hp hgd hg ht he e l [] (X' := fun _ _ => False) ?_
  have hl' := R.wp_noexc (E' := fun _ _ => False) hl
  refine R.wp_imp hl' (fun r hr => ?_) fun _ _ h => h
  unfold finF
  rw [AH.put_same]
  dsimp only
  rw [AH.del_put hp]; exact hr
theorem so_lc {it : DI} {g : DG} {tt : DT} {te : DE} {vs : List Nat} {mi : R (List α)} {fe : α → D} {c : α → R Bool} {f : α → R β} (J1 : α → List Sl) (hi : SIC w A0 ss it mi fe) (hg : ∀ x, SG A0 g (fe x) (wipeS ss vs) (J1 x)) (ht : ∀ x, ST w0 A0 (J1 x) tt (c x)) (he : ∀ x, SE w0 A0 (J1 x) te (f x)) :
    SO w A0 ss (eLc finO it g tt te vs) (mi.bind fun l => (compR c f l []).noexc) oL := fun δ A Q e h => by
  rw [R.wp_bind] at h
  rw [eLc_eq]
  refine hi δ A _ e (R.wp_imp h (fun l hl gd hgd p hp => ?_) fun _ _ h => h)
  refine comp_run (β := β) J1 hp hgd hg ht he e l [] (X' := fun _ _ => False) ?_
  have hl' := R.wp_noexc (E' := fun _ _ => False) hl
  refine R.wp_imp hl' (fun r hr => ?_) fun _ _ h => h
  exact ⟨⟨_, AH.put_same ..⟩, hr p _ (New.put hp)⟩
theorem st_yes : ST w A0 ss bYes (.ok true) := fun δ A Q e h => h
/-- the comprehension that only tells values and tests that never fail -/
theorem compR_ok {c : α → R Bool} {f : α → R β} (p : α → Bool) (g : α → β) : ∀ (l : List α) (acc : List β), (∀ x ∈ l, c x = .ok (p x)) → (∀ x ∈ l, p x = true → f x = .ok (g x)) → acc.length + l.length < 1000000 → compR c f l acc = .ok (acc ++ (l.filter p).map g)
  | [], acc, _, _, _ => by simp [compR]
  | x :: l, acc, hc, hf, hl => by
    simp only [List.length_cons] at hl
    unfold compR
    rw [hc x List.mem_cons_self]
    by_cases h : p x = true
    · rw [h]
      simp only [R.noexc_ok, R.ok_bind, if_true]
      rw [hf x List.mem_cons_self h, R.noexc_ok, R.ok_bind, few_ok (by omega), R.ok_bind, compR_ok p g l _ (fun y hy => hc y (List.mem_cons_of_mem _ hy)) (fun y hy => hf y (List.mem_cons_of_mem _ hy)) (by simp only [List.length_append, List.length_cons, List.length_nil]; omega)]
      simp [h]
    · have h' : p x = false := by simpa using h
      rw [h']
      simp only [R.noexc_ok, R.ok_bind]
      rw [if_neg (by decide), compR_ok p g l _ (fun y hy => hc y (List.mem_cons_of_mem _ hy)) (fun y hy => hf y (List.mem_cons_of_mem _ hy)) (by omega)]
      simp [h']
theorem compR_map {f : α → R β} (g : α → β) (l : List α) (hf : ∀ x ∈ l, f x = .ok (g x)) (hl : l.length < 1000000) : compR (fun _ => .ok true) f l [] = .ok (l.map g) := by
  rw [compR_ok (fun _ => true) g l [] (fun _ _ => rfl) (fun x hx _ => hf x hx) (by simpa using hl)]
  have e : l.filter (fun _ => true) = l := List.filter_eq_self.mpr fun _ _ => rfl
  rw [e, List.nil_append]
/-! ### while -/
def whileF (c : σ → R Bool) (b : σ → R (Fl σ ρ)) : Nat → σ → R (Fl σ ρ)
  | 0, _ => .bad
  | n + 1, s => (c s).bind fun t => if t = true then (b s).bind fun r => match r with
    | .nx s => whileF c b n s
    | .bk s => .ok (.nx s)
    | .rt r => .ok (.rt r) else .ok (.nx s)
open Classical in
noncomputable def whileR (c : σ → R Bool) (b : σ → R (Fl σ ρ)) (s : σ) : R (Fl σ ρ) := if h : ∃ n, whileF c b n s ≠ .bad then whileF c b h.choose s else .bad
omit [Enc ρ] in
theorem whileF_s {c : σ → R Bool} {b : σ → R (Fl σ ρ)} (n : Nat) (s : σ) : whileF c b (n + 1) s = (c s).bind fun t => if t = true then (b s).bind fun r => match r with
    | .nx s => whileF c b n s
    | .bk s => .ok (.nx s)
    | .rt r => .ok (.rt r) else .ok (.nx s) := rfl
omit [Enc ρ] in
theorem whileF_mono {c : σ → R Bool} {b : σ → R (Fl σ ρ)} : ∀ (n : Nat) (s : σ), whileF c b n s ≠ .bad → whileF c b (n + 1) s = whileF c b n s
  | 0, s, h => absurd rfl h
  | n + 1, s, h => by
    rw [whileF_s (n + 1), whileF_s n]
    rw [whileF_s] at h
    cases hc : c s with
    | ok t =>
      rw [hc] at h
      simp only [R.ok_bind] at h ⊢
      cases t with
      | false => rfl
      | true =>
        simp only [if_true] at h ⊢
        cases hb : b s with
        | ok r =>
          rw [hb] at h
          simp only [R.ok_bind] at h ⊢
          cases r with
          | nx s' => exact whileF_mono n s' h
          | bk s' => rfl
          | rt r => rfl
        | exc c fs => rfl
        | bad => rfl
    | exc c fs => rfl
    | bad => rfl
omit [Enc ρ] in
theorem whileF_le {c : σ → R Bool} {b : σ → R (Fl σ ρ)} {n m : Nat} {s : σ} (h : whileF c b n s ≠ .bad) (hm : n ≤ m) : whileF c b m s = whileF c b n s := by
  induction m with
  | zero => have : n = 0 := by omega
            subst this; rfl
  | succ m ih =>
    by_cases e : n = m + 1
    · subst e; rfl
    · have := ih (by omega)
      rw [← this, whileF_mono m s (by rw [this]; exact h)]
omit [Enc ρ] in
theorem whileR_of {c : σ → R Bool} {b : σ → R (Fl σ ρ)} {n : Nat} {s : σ} (h : whileF c b n s ≠ .bad) : whileR c b s = whileF c b n s := by
  have hx : ∃ n, whileF c b n s ≠ .bad := ⟨n, h⟩
  unfold whileR
  rw [dif_pos hx]
  rcases Nat.le_total n hx.choose with q | q
  · exact whileF_le h q
  · exact (whileF_le hx.choose_spec q).symm
omit [Enc ρ] in
/-- a while unrolled once -/
theorem whileR_eq (c : σ → R Bool) (b : σ → R (Fl σ ρ)) (s : σ) : whileR c b s = (c s).bind fun t => if t = true then (b s).bind fun r => match r with
    | .nx s => whileR c b s
    | .bk s => .ok (.nx s)
    | .rt r => .ok (.rt r) else .ok (.nx s) := by
  by_cases h : ∃ n, whileF c b n s ≠ .bad
  · obtain ⟨n, h⟩ := h
    rw [whileR_of h]
    cases n with
    | zero => exact absurd rfl h
    | succ n =>
      rw [whileF_s] at h ⊢
      cases hc : c s with
      | ok t =>
        rw [hc] at h
        simp only [R.ok_bind] at h ⊢
        cases t with
        | false => rfl
        | true =>
          simp only [if_true] at h ⊢
          cases hb : b s with
          | ok r =>
            rw [hb] at h
            simp only [R.ok_bind] at h ⊢
            cases r with
            | nx s' => exact (whileR_of h).symm
            | bk s' => rfl
            | rt r => rfl
          | exc c fs => rfl
          | bad => rfl
      | exc c fs => rfl
      | bad => rfl
  · have e : whileR c b s = .bad := by unfold whileR; rw [dif_neg h]
    rw [e]
    have hn : ∀ n, whileF c b (n + 1) s = .bad := fun n => Classical.byContradiction fun q => h ⟨_, q⟩
    cases hc : c s with
    | ok t =>
      simp only [R.ok_bind]
      cases t with
      | false => have := hn 0; rw [whileF_s, hc] at this; simp at this
      | true =>
        simp only [if_true]
        cases hb : b s with
        | ok r =>
          simp only [R.ok_bind]
          cases r with
          | nx s' =>
            have h2 : ¬ ∃ n, whileF c b n s' ≠ .bad := fun ⟨n, q⟩ => by
              have := hn n
              rw [whileF_s, hc] at this
              simp only [R.ok_bind, if_true, hb] at this
              exact q this
            show R.bad = whileR c b s'
            unfold whileR; rw [dif_neg h2]
          | bk s' => have := hn 0; rw [whileF_s, hc] at this; simp [hb] at this
          | rt r => have := hn 0; rw [whileF_s, hc] at this; simp [hb] at this
        | exc c fs => have := hn 0; rw [whileF_s, hc] at this; simp [hb] at this
        | bad => rfl
    | exc c fs => have := hn 0; rw [whileF_s, hc] at this; simp at this
    | bad => rfl
theorem ss_while {c : DT} {body rest : DS} {f : σ → R (Fl σ ρ)} {cm : σ → R Bool} {st0 : σ} {k : σ → R τ} {kr : ρ → R τ} (hw : WX A0 w X) (J : σ → List Sl) (bs : List Bool) (hj : mask bs ss = J st0)
    (hrt : ∀ r A', Sub A0 A' → (kr r).wp V X → D0.rt (enc r) A') (hc : ∀ st, ST w A0 (J st) c (cm st))
    (hb : ∀ (V' : Fl σ ρ → Prop) (N B : DSt → AH → Prop), (∀ st δ A, V' (.nx st) → Env A0 (J st) δ A → N δ A) → (∀ st δ A, V' (.bk st) → Env A0 (J st) δ A → B δ A) → (∀ r A', Sub A0 A' → V' (.rt r) → D0.rt (enc r) A') → ∀ st, SS A0 X { D0 with nx := N, ct := N, bk := B } V' (J st) body (f st))
    (hr : ∀ st, SS A0 X D0 V (J st) rest (k st)) : SS A0 X D0 V ss (sSeq (sWhile c body) rest) (R.flow (whileR cm f st0) k kr) := fun δ A e h => by
  unfold R.flow at h
  rw [sSeq_eq, sWhile_eq]
  by_cases hx : ∃ n, whileF cm f n st0 ≠ .bad
  case neg =>
    unfold whileR at h
    rw [dif_neg hx] at h
    exact h.elim
  obtain ⟨n, hx⟩ := hx
  rw [whileR_of hx] at h
  refine ⟨n, ?_⟩
  have key : ∀ (n : Nat) (st : σ) (δ : DSt) (A : AH), Env A0 (J st) δ A → ((whileF cm f n st).bind fun r => match r with
      | .nx s => k s
      | .bk s => k s
      | .rt r => kr r).wp V X → whileN c body { D0 with nx := rest D0 } n δ A := by
    intro n
    induction n with
    | zero => intro st δ A e h; exact h.elim
    | succ n ih =>
      intro st δ A e h
      have h2 := h
      rw [whileF_s] at h2
      rw [R.bind_assoc, R.wp_bind] at h2
      unfold DL.whileN
      refine hc st δ A _ e (R.wp_imp h2 (fun t ht => ?_) fun c fs => hw c fs δ A e.sub)
      cases t with
      | false =>
        refine ⟨fun h => (nomatch h), fun _ => ?_⟩
        simp only [Bool.false_eq_true, if_false, R.ok_bind] at ht
        exact hr st δ A e ht
      | true =>
        refine ⟨fun _ => ?_, fun h => (nomatch h)⟩
        simp only [if_true] at ht
        rw [R.bind_assoc, R.wp_bind] at ht
        refine hb (fun r => match r with
          | .nx s => ((whileF cm f n s).bind fun r => match r with
              | .nx s => k s
              | .bk s => k s
              | .rt r => kr r).wp V X
          | .bk s => (k s).wp V X
          | .rt r => (kr r).wp V X) _ _ (fun st δ A hv e => ih st δ A e hv) (fun st δ A hv e => hr st δ A e hv) (fun r A' s hv => hrt r A' s hv) st δ A e (R.wp_imp ht (fun r hr => ?_) fun _ _ h => h)
        cases r <;> exact hr
  exact key n st0 δ A (hj ▸ e.mask bs) h
/-! ### try -/
def tryR (m : R σ) (sub : String → Option Bool) (h : String → List (String × D) → R σ) : R σ := match m with
  | .ok a => .ok a
  | .exc c fs => (match sub c with
    | some true => h c fs
    | some false => .exc c fs
    | none => .bad)
  | .bad => .bad
theorem ss_tryAs {body : DW → DS} {suite : Addr → String → List (String × D) → DS} {rest : DS} {sub : String → Option Bool} {i : Nat} {mb : R σ} {h : String → List (String × D) → R σ} {k : σ → R τ} (hw : WX A0 w X) (J : σ → List Sl) (J0 : List Sl) (bs : List Bool) (hj : mask bs ss = J0)
    (hJ : ∀ st δ A, Env A0 (J st) δ A → Env A0 (J st) (δ.set i none) A)
    (hb : ∀ (V' : σ → Prop) (N : DSt → AH → Prop) (w' : DW) (X' : String → List (String × D) → Prop), (∀ st δ A, V' st → Env A0 (J st) δ A → N δ A) → WE A0 w' X' J0 → SS A0 X' { D0 with nx := N } V' ss (body w') mb)
    (hh : ∀ (V' : σ → Prop) (N B C : DSt → AH → Prop), (∀ st δ A, V' st → Env A0 (J st) δ A → N δ A) → ∀ a c fs, SS A0 X { D0 with nx := N, bk := B, ct := C } V' (J0.set i (.val (.ref a))) (suite a c fs) (h c fs))
    (hr : ∀ st, SS A0 X D0 V (J st) rest (k st)) : SS A0 X D0 V ss (sSeq (sTryAs w sub i body suite) rest) ((tryR mb sub h).bind k) := fun δ A e hm => by
  rw [R.wp_bind] at hm
  rw [sSeq_eq, sTryAs_eq]
  refine hb (fun st => (k st).wp V X) (rest D0) _ (fun c fs => match sub c with
    | some true => (h c fs).wp (fun st => (k st).wp V X) X
    | some false => X c fs
    | none => False) (fun st δ A hv e => hr st δ A e hv) (fun c fs δ A e hx => ?_) δ A e ?_
  · dsimp only at hx ⊢
    cases hs : sub c with
    | none => rw [hs] at hx; exact hx
    | some b =>
      rw [hs] at hx
      cases b with
      | false => exact hw c fs δ A e.sub hx
      | true => exact fun a => hh (fun st => (k st).wp V X) (fun δ A => rest D0 (δ.set i none) A) _ _ (fun st δ A hv e => hr st _ _ (hJ st δ A e) hv) a c fs _ _ (e.set_val i _) hx
  · cases mb with
    | ok a => exact hm
    | exc c fs =>
      show (match sub c with
        | some true => (h c fs).wp (fun st => (k st).wp V X) X
        | some false => X c fs
        | none => False)
      have hm' : (match sub c with
        | some true => h c fs
        | some false => .exc c fs
        | none => .bad : R σ).wp (fun a => (k a).wp V X) X := hm
      cases hs : sub c with
      | none => rw [hs] at hm'; exact hm'
      | some b => rw [hs] at hm'; cases b <;> exact hm'
    | bad => exact hm.elim
theorem ss_tryOnly {body : DW → DS} {suite : Addr → String → List (String × D) → DS} {rest : DS} {sub : String → Option Bool} {mb : R σ} {h : String → List (String × D) → R σ} {k : σ → R τ} (hw : WX A0 w X) (J : σ → List Sl) (J0 : List Sl) (bs : List Bool) (hj : mask bs ss = J0)
    (hb : ∀ (V' : σ → Prop) (N : DSt → AH → Prop) (w' : DW) (X' : String → List (String × D) → Prop), (∀ st δ A, V' st → Env A0 (J st) δ A → N δ A) → WE A0 w' X' J0 → SS A0 X' { D0 with nx := N } V' ss (body w') mb)
    (hh : ∀ (V' : σ → Prop) (N : DSt → AH → Prop), (∀ st δ A, V' st → Env A0 (J st) δ A → N δ A) → ∀ a c fs, SS A0 X { D0 with nx := N } V' J0 (suite a c fs) (h c fs))
    (hr : ∀ st, SS A0 X D0 V (J st) rest (k st)) : SS A0 X D0 V ss (sSeq (sTryOnly w sub body suite) rest) ((tryR mb sub h).bind k) := fun δ A e hm => by
  rw [R.wp_bind] at hm
  rw [sSeq_eq, sTryOnly_eq]
  refine hb (fun st => (k st).wp V X) (rest D0) _ (fun c fs => match sub c with
    | some true => (h c fs).wp (fun st => (k st).wp V X) X
    | some false => X c fs
    | none => False) (fun st δ A hv e => hr st δ A e hv) (fun c fs δ A e hx => ?_) δ A e ?_
  · dsimp only at hx ⊢
    cases hs : sub c with
    | none => rw [hs] at hx; exact hx
    | some b =>
      rw [hs] at hx
      cases b with
      | false => exact hw c fs δ A e.sub hx
      | true => exact fun a => hh (fun st => (k st).wp V X) (rest D0) (fun st δ A hv e => hr st _ _ e hv) a c fs _ _ e hx
  · cases mb with
    | ok a => exact hm
    | exc c fs =>
      show (match sub c with
        | some true => (h c fs).wp (fun st => (k st).wp V X) X
        | some false => X c fs
        | none => False)
      have hm' : (match sub c with
        | some true => h c fs
        | some false => .exc c fs
        | none => .bad : R σ).wp (fun a => (k a).wp V X) X := hm
      cases hs : sub c with
      | none => rw [hs] at hm'; exact hm'
      | some b => rw [hs] at hm'; cases b <;> exact hm'
    | bad => exact hm.elim
/-- .. where what stands is as J0 says, after slots have changed -/
theorem we_try {J0 : List Sl} {w' : DW} {X'} (bs : List Bool) (hj : mask bs ss = J0) (h : WE A0 w' X' J0) : WE A0 w' X' ss := fun c fs δ A e => h c fs δ A (hj ▸ e.mask bs)
/-- isinstance(e, C), by a table -/
def isE (tb : List (String × Bool)) (c : String) (fs : List (String × D)) : R Bool := if fs.isEmpty = true then (match lookS c tb with
  | some b => .ok b
  | none => .bad) else .bad
theorem se_isE {i : Nat} {a : Addr} {c : String} {fs : List (String × D)} {tb : List (String × Bool)} (h : ss[i]? = some (.val (.ref a))) : SE w A0 ss (eIsE a c fs tb (eVar i)) (isE tb c fs) := fun δ A Q e hw => by
  unfold eIsE
  rw [eVar_eq (e.get_val h)]
  unfold isE at hw
  split at hw
  · rename_i hf
    refine ⟨rfl, by simpa using hf, ?_⟩
    split at hw
    · rename_i b hb; first | exact hw | (rw [hb]; exact hw)
    · exact hw.elim
  · exact hw.elim
end
/-! ### a slot is frozen -/
section
variable {K : PySem.W.Frag} {Z Z' Z0 : Hp} {X : Cx}
/-- from here on what stands in slot i changes no more -/
def sFz (i : Nat) (t : DS) : DS := fun D δ A => match δ[i]? with
  | some (some (.ref p)) => (match A p with
    | some (.lst l) => t D (δ.set i (some (.lst l))) (A.del p)
    | some (.dic kvs) => t D (δ.set i (some (.dic (kvs.map (·.1)) (kvs.map (·.2))))) (A.del p)
    | some (.obj c fs) => t D (δ.set i (some (.obj c (fs.map (·.1)) (fs.map (·.2))))) (A.del p)
    | none => False)
  | _ => False
theorem rs_left {δ : DSt} {σ : L2.St} (r : RS K Z δ σ) {i : Nat} {d : D} {v : V} (h : σ[i]? = some (some v)) (q : RV K Z d v) : RS K Z (δ.set i (some d)) σ := by
  have := r.set i (a := some d) (b := some v) q
  have e : σ.set i (some v) = σ := by
    apply List.ext_getElem?
    intro j
    rw [List.getElem?_set]
    split
    · rename_i hj; subst hj
      split
      · exact h.symm
      · rename_i hl; exact (List.getElem?_eq_none (by omega)).symm
    · rfl
  rw [e] at this; exact this
theorem qss_fz {i : Nat} {rest : List Stmt} {t : DS} (h : QSs X Z0 rest t) : QSs X Z0 rest (sFz i t) := PSs.imp h fun D σ H ⟨Z, δ, A, DD, z, rs, ra, t, re⟩ => by
  unfold sFz at t
  split at t
  · rename_i p hp
    obtain ⟨v, h1, h2⟩ := rs.get hp
    have ev := rv_ref h2
    subst ev
    split at t
    · rename_i l q
      obtain ⟨Z2, s2, r2, q2⟩ := fz_ok ra q
      exact ⟨Z2, _, _, DD, z.trans s2, rs_left (rs.mono s2) h1 q2, r2, t, re.mono s2⟩
    · rename_i l q
      obtain ⟨Z2, s2, r2, q2⟩ := fz_ok ra q
      exact ⟨Z2, _, _, DD, z.trans s2, rs_left (rs.mono s2) h1 q2, r2, t, re.mono s2⟩
    · rename_i l q
      obtain ⟨Z2, s2, r2, q2⟩ := fz_ok ra q
      exact ⟨Z2, _, _, DD, z.trans s2, rs_left (rs.mono s2) h1 q2, r2, t, re.mono s2⟩
    · exact t.elim
  · exact t.elim
end
section
variable {α κ τ : Type} [Enc α] [KeyT κ] {A0 : AH} {X : String → List (String × D) → Prop} {D0 : DEnds} {V : τ → Prop} {ss : List Sl}
theorem ss_fz {i : Nat} {l : List α} {rest : DS} {m : R τ} (hi : ss[i]? = some (.own (oL l))) (hr : SS A0 X D0 V (ss.set i (.val (enc l))) rest m) : SS A0 X D0 V ss (sFz i rest) m := fun δ A e h => by
  obtain ⟨p, h1, h2, h3⟩ := e.del_own hi
  unfold sFz
  simp only [h1, h2]
  have := h3.set_val i (enc l)
  rw [List.set_set] at this
  exact hr _ _ this h
theorem ss_fzD {i : Nat} {l : Dic κ α} {rest : DS} {m : R τ} (hi : ss[i]? = some (.own (oD l))) (hr : SS A0 X D0 V (ss.set i (.val (enc l))) rest m) : SS A0 X D0 V ss (sFz i rest) m := fun δ A e h => by
  obtain ⟨p, h1, h2, h3⟩ := e.del_own hi
  unfold sFz
  simp only [h1, h2]
  have := h3.set_val i (enc l)
  rw [List.set_set] at this
  exact hr _ _ this h
end
/-! ### a def keeps its promise -/
def dropE (E : DX) : DX := fun c fs A => ∃ A2, Sub A2 A ∧ E c fs A2
theorem fn_okX {K : PySem.W.Frag} {P : Program} {w : World} {mg : Str → Option Value} {base : Heap} {x qual : Str} {params : Arguments} {body : List Stmt} {scope : Scope} {dvs : List V} {kws : List (Str × V)} {f : Addr} {fd : FuncData} {N ps : List Str} {k : Nat} {sp : DSp} {t : DW → DS}
    (F : FunD K x qual params body scope dvs kws f fd) (S : FnScope N ps scope) (len : ∀ ds A Q E, sp ds A Q E → ds.length = ps.length)
    (hder : ∀ (cdv : Value) (A : Around) (outer : List PySem.Env) (s : Shared) (H : Hp) (E : XK) (Z0 : Hp) (wd : DW), Room k (A.deeper (envOfC qual scope s.heap.objs.size f cdv)) → Takes (cxOf (CX P w) P w K mg base N qual scope f cdv A outer s H E) (liftW K Z0 wd) → QSs (cxOf (CX P w) P w K mg base N qual scope f cdv A outer s H E) Z0 body (t wd))
    (hrd : ∀ ds A Q E, sp ds A Q E → t (fun c fs _ A => dropE E c fs A) { nx := fun _ A => dropQ Q .non A, rt := dropQ Q } (startD N.length ds) A) : FnOk P w K mg base (CX P w) (k + 1) f fd ps (liftSp K sp) := by
  refine F.ok S (fun vs H Q E ⟨Z, ds, A, Kt, Ex, r, ra, h, _, _⟩ => by rw [r.len]; exact len ds A Kt Ex h) fun cdv A0 outer s H vs Q E hr ⟨Z, ds, A, Kt, Ex, r, ra, h, hq, he⟩ => ?_
  have tk : Takes (cxOf (CX P w) P w K mg base N qual scope f cdv A0 outer s H E) (liftW K Z fun c fs _ A => dropE Ex c fs A) :=
    Takes.imp (takes_of rfl rfl rfl rfl) fun cv dd σ H' ⟨Z', δ, A', c, fs, z, rs, ra', rx, A2, sb, q⟩ => he Z' c fs A2 cv dd H' z (ra'.same sb) rx q
  refine ⟨_, hder cdv A0 outer s H E Z (fun c fs _ A => dropE Ex c fs A) hr tk, Z, startD N.length ds, A, _, Same.refl Z, ?_, ra, hrd ds A Kt Ex h, ?_⟩
  · unfold startD L2.start
    rw [r.len]
    exact start_rs _ r
  · exact ⟨fun Z' δ A' σ H' s rs ra' ⟨A2, sb, q⟩ => hq Z' .non A2 .non H' s (ra'.same sb) mk_non q, fun Z' d A' v H' s ra' rv ⟨A2, sb, q⟩ => hq Z' d A2 v H' s (ra'.same sb) rv q, fun _ _ _ _ _ _ _ _ q => q.elim, fun _ _ _ _ _ _ _ _ q => q.elim⟩
end TF

/-! TF5: more of expressions, statements. -/
namespace TF
open PySem PySem.Spec PyProof.Rows L2 DL FR
open Enc KeyT
section
variable {α β γ δ' ε ζ η σ ρ τ κ : Type} [Enc α] [Enc β] [Enc γ] [Enc δ'] [Enc ε] [Enc ζ] [Enc η] [KeyT κ]
variable {w : DW} {A0 A : AH} {X : String → List (String × D) → Prop} {D0 : DEnds} {V : τ → Prop} {ss : List Sl} {δ : DSt} {Q : DK}
theorem se_powN (a b : Int) (n : Nat) (hb : b = n) (h : n ≤ 1000000 ∧ a.natAbs < 2 ^ 64) : SE w A0 ss (eBin opPow (eC (.int a)) (eC (.int b))) (.ok (a ^ n)) := fun δ A Q e hw => by
  subst hb
  exact ⟨⟨Int.natCast_nonneg n, by omega, h.2⟩, hw⟩
theorem se_modE {t u : DE} {m : R Int} (k : Int) (hk : 0 < k) (h : SE w A0 ss t m) (hu : SE w A0 ss u (.ok k)) : SE w A0 ss (eBin opMod t u) (m.map fun a => a % k) := fun δ A Q e hw =>
  h.run e hw (fun _ _ => id) fun a hw => hu δ A _ e ⟨by omega, by rw [Int.fmod_eq_emod_of_nonneg _ (by omega)]; exact hw⟩
theorem op_eqI : OpE (opEq false) (fun (i j : Int) => .ok (decide (i = j))) := fun A a b Q X hw => by
  refine ⟨dt_int, dt_int, ?_⟩
  show Q (.bl (xor false (deq (.int a) (.int b)))) A
  rw [deq_int, Bool.false_xor, Bool.beq_eq_decide_eq] <;> exact hw
theorem op_neI : OpE (opEq true) (fun (i j : Int) => .ok (!decide (i = j))) := fun A a b Q X hw => by
  refine ⟨dt_int, dt_int, ?_⟩
  show Q (.bl (xor true (deq (.int a) (.int b)))) A
  rw [deq_int, Bool.true_xor, Bool.beq_eq_decide_eq] <;> exact hw
theorem op_eqF : OpE (opEq false) (fun (i j : Rat) => .ok (decide (i = j))) := fun A a b Q X hw => by
  refine ⟨by rw [enc_rat, drf_fr]; exact dt_fr, by rw [enc_rat, drf_fr]; exact dt_fr, ?_⟩
  rw [enc_rat, enc_rat, drf_fr, drf_fr, deq_fr, Bool.false_xor]; exact hw
theorem op_neF : OpE (opEq true) (fun (i j : Rat) => .ok (!decide (i = j))) := fun A a b Q X hw => by
  refine ⟨by rw [enc_rat, drf_fr]; exact dt_fr, by rw [enc_rat, drf_fr]; exact dt_fr, ?_⟩
  rw [enc_rat, enc_rat, drf_fr, drf_fr, deq_fr, Bool.true_xor]; exact hw
theorem op_eqB : OpE (opEq false) (fun (i j : Bool) => .ok (decide (i = j))) := fun A a b Q X hw => by
  refine ⟨dt_bl, dt_bl, ?_⟩
  show Q (.bl (xor false (deq (.bl a) (.bl b)))) A
  rw [deq_bl, Bool.false_xor, Bool.beq_eq_decide_eq] <;> exact hw
theorem op_neB : OpE (opEq true) (fun (i j : Bool) => .ok (!decide (i = j))) := fun A a b Q X hw => by
  refine ⟨dt_bl, dt_bl, ?_⟩
  show Q (.bl (xor true (deq (.bl a) (.bl b)))) A
  rw [deq_bl, Bool.true_xor, Bool.beq_eq_decide_eq] <;> exact hw
theorem se_isN0 [NN α] {t : DE} {m : R (Option α)} (h : SE w A0 ss t m) : SE w A0 ss (eBin (opIs false) t (eC .non)) (m.map fun o => o.isNone) := fun δ A Q e hw => se_isN false h δ A Q e (by simpa using hw)
theorem se_isN1 [NN α] {t : DE} {m : R (Option α)} (h : SE w A0 ss t m) : SE w A0 ss (eBin (opIs true) t (eC .non)) (m.map fun o => !o.isNone) := fun δ A Q e hw => se_isN true h δ A Q e (by simpa using hw)
theorem se_inD0 [Enc κ] [KeyD κ] [DecidableEq κ] {t u : DE} {m : R κ} {n : R (Dic κ α)} (h : SE w A0 ss t m) (h2 : SV w A0 ss u n) : SE w A0 ss (eBin (opIn false) t u) (R.b2 m n fun k d => .ok (d.get? k).isSome) := fun δ A Q e hw => se_inD false h h2 δ A Q e (by simpa using hw)
theorem se_inD1 [Enc κ] [KeyD κ] [DecidableEq κ] {t u : DE} {m : R κ} {n : R (Dic κ α)} (h : SE w A0 ss t m) (h2 : SV w A0 ss u n) : SE w A0 ss (eBin (opIn true) t u) (R.b2 m n fun k d => .ok (!(d.get? k).isSome)) := fun δ A Q e hw => se_inD true h h2 δ A Q e (by simpa using hw)
theorem se_tup0 : SE w A0 ss (eTup aNil) (.ok (D.tup [])) := fun δ A Q e hw => ⟨by show (0 : Nat) < _; decide, hw⟩
theorem cb_lenT {n : Nat} (h : ∀ a : α, ∃ l, (enc a : D) = .tup l ∧ l.length = n) : CbE bLen (fun (_ : α) => .ok (n : Int)) := fun A a Q X hw => by
  obtain ⟨l, h1, h2⟩ := h a
  rw [h1, bLen_tup, h2]; exact hw
/-! calls that tell a list of the asker's own -/
theorem so_call0 {sp : DSp} {dvs : List D} {F : R σ} {o : σ → OT} (hs : ∀ A (Q : DK) E, F.wp (fun r => ∀ p A', New A (o r) p A' → Q (.ref p) A') (fun c fs => E c fs A) → sp ([] ++ dvs) A Q E) : SO w A0 ss (eCall w sp dvs aNil) F o := fun δ A Q e hw => hs A Q _ hw
theorem so_call1 {sp : DSp} {dvs : List D} {F : α → R σ} {o : σ → OT} {t : DE} {m : R α} (hs : ∀ A d a (Q : DK) E, vw A d a → (F a).wp (fun r => ∀ p A', New A (o r) p A' → Q (.ref p) A') (fun c fs => E c fs A) → sp ([d] ++ dvs) A Q E) (h : SV w A0 ss t m) : SO w A0 ss (eCall w sp dvs (aCons t aNil)) (m.bind F) o := fun δ A Q e hw =>
  h.run e hw (fun _ _ => id) fun a d hd hw => hs A d a Q _ hd hw
theorem so_call2 {sp : DSp} {dvs : List D} {F : α → β → R σ} {o : σ → OT} {t u : DE} {m : R α} {n : R β} (hs : ∀ A x y a b (Q : DK) E, vw A x a → vw A y b → (F a b).wp (fun r => ∀ p A', New A (o r) p A' → Q (.ref p) A') (fun c fs => E c fs A) → sp ([x, y] ++ dvs) A Q E) (h : SV w A0 ss t m) (h2 : SV w A0 ss u n) :
    SO w A0 ss (eCall w sp dvs (aCons t (aCons u aNil))) (m.bind fun a => n.bind fun b => F a b) o := fun δ A Q e hw =>
  h.run e hw (fun _ _ => id) fun a d hd hw => h2.run e hw (fun _ _ => id) fun b y hy hw => hs A d y a b Q _ hd hy hw
theorem so_call3 {sp : DSp} {dvs : List D} {F : α → β → γ → R σ} {o : σ → OT} {t u v : DE} {m : R α} {n : R β} {m3 : R γ} (hs : ∀ A x y z a b c (Q : DK) E, vw A x a → vw A y b → vw A z c → (F a b c).wp (fun r => ∀ p A', New A (o r) p A' → Q (.ref p) A') (fun c fs => E c fs A) → sp ([x, y, z] ++ dvs) A Q E) (h : SV w A0 ss t m) (h2 : SV w A0 ss u n) (h3 : SV w A0 ss v m3) :
    SO w A0 ss (eCall w sp dvs (aCons t (aCons u (aCons v aNil)))) (m.bind fun a => n.bind fun b => m3.bind fun c => F a b c) o := fun δ A Q e hw =>
  h.run e hw (fun _ _ => id) fun a d hd hw => h2.run e hw (fun _ _ => id) fun b y hy hw => h3.run e hw (fun _ _ => id) fun c z hz hw => hs A d y z a b c Q _ hd hy hz hw
/-- return of a slot's own list -/
theorem ss_retOwn {i : Nat} {l : List α} {v : τ} (hi : ss[i]? = some (.own (oL l))) (hrt : ∀ A' p, Sub A0 A' → A' p = some (.lst (l.map enc)) → A0 p = none → V v → D0.rt (.ref p) A') : SS A0 X D0 V ss (sRet (eVar i)) (.ok v) := fun δ A e h => by
  obtain ⟨p, h1, h2, h3⟩ := e.get_own hi
  rw [sRet_eq, eVar_eq h1]
  exact hrt A p e.sub h2 h3 h
theorem env_none {i : Nat} {J : List Sl} (h : J[i]? = some .emp) (e : Env A0 J δ A) : Env A0 J (δ.set i none) A := by
  have := e.set_any i none
  have ej : J.set i .emp = J := by
    apply List.ext_getElem?
    intro j
    rw [List.getElem?_set]
    split
    · rename_i hj; subst hj
      split
      · exact h.symm
      · rename_i hl; exact (List.getElem?_eq_none (by omega)).symm
    · rfl
  rw [ej] at this; exact this
/-! methods of the text's objects -/
def MethOk (tb : List (String × DSp)) (m : String) (d : D) (A : AH) (ds : List D) (Q : DK) (E : DX) : Prop := match asObj A d with
  | some (c, fs) => lookS m fs = none ∧ (match lookS c tb with
    | some sp => sp (d :: ds) A Q E
    | none => False)
  | none => False
theorem se_meth0 {name : String} {tb : List (String × DSp)} {F : α → R ρ} [Enc ρ] {o : DE} {m : R α} (hs : ∀ A x a (Q : DK) E, vw A x a → (F a).wp (fun r => Q (enc r) A) (fun c fs => E c fs A) → MethOk tb name x A [] Q E) (h : SV w A0 ss o m) : SE w A0 ss (eMth w name tb o aNil) (m.bind F) := fun δ A Q e hw => by
  rw [eMth_eq]
  refine h.run e hw (fun _ _ => id) fun a d hd hw => ?_
  exact hs A d a Q (fun c fs A => w c fs δ A) hd hw
theorem se_meth1 {name : String} {tb : List (String × DSp)} {F : α → β → R ρ} [Enc ρ] {o t : DE} {m : R α} {n : R β} (hs : ∀ A x y a b (Q : DK) E, vw A x a → vw A y b → (F a b).wp (fun r => Q (enc r) A) (fun c fs => E c fs A) → MethOk tb name x A [y] Q E)
    (hsh : ∀ (A : AH) (x : D) (a : α), vw A x a → ∃ c fs, asObj A x = some (c, fs) ∧ lookS name fs = none ∧ ∃ sp, lookS c tb = some sp) (h : SV w A0 ss o m) (h2 : SV w A0 ss t n) : SE w A0 ss (eMth w name tb o (aCons t aNil)) (m.bind fun a => n.bind fun b => F a b) := fun δ A Q e hw => by
  rw [eMth_eq]
  refine h.run e hw (fun _ _ => id) fun a d hd hw => ?_
  obtain ⟨c, fs, e1, e2, sp, e3⟩ := hsh A d a hd
  simp only [e1, e3]
  refine ⟨e2, ?_⟩
  rw [aCons_eq]
  refine h2.run e hw (fun _ _ => id) fun b y hy hw => ?_
  rw [aNil_eq]
  have := hs A d y a b Q (fun c fs A => w c fs δ A) hd hy hw
  unfold MethOk at this
  simp only [e1, e3] at this
  exact this.2
theorem so_meth0 {name : String} {tb : List (String × DSp)} {F : α → R σ} {oo : σ → OT} {o : DE} {m : R α} (hs : ∀ A x a (Q : DK) E, vw A x a → (F a).wp (fun r => ∀ p A', New A (oo r) p A' → Q (.ref p) A') (fun c fs => E c fs A) → MethOk tb name x A [] Q E) (h : SV w A0 ss o m) : SO w A0 ss (eMth w name tb o aNil) (m.bind F) oo := fun δ A Q e hw => by
  rw [eMth_eq]
  refine h.run e hw (fun _ _ => id) fun a d hd hw => ?_
  exact hs A d a Q (fun c fs A => w c fs δ A) hd hw
/-! objects of ties -/
structure TieO where
  t : TieV
instance : Enc TieO := { enc := fun o => tieO o.t }
end
instance : NN TieO := ⟨fun o => by show (tieO o.t).isNon = false; unfold tieO; rfl⟩
/-! ### what the program's first functions tell, typed -/
noncomputable section
open Classical
def F_divisor (a b : Int) : R Int := .ok (Int.gcd a b)
def F_fraction (a b : Int) : R Rat := if b = 0 then .exc "NoNumber" [] else if Wd a ∧ Wd b then .ok (Rat.divInt a b) else .bad
def F_plus (q r : Rat) : R Rat := if Sm q ∧ Sm r then .ok (q + r) else .bad
def F_minus (q r : Rat) : R Rat := if Sm q ∧ Sm r then .ok (q - r) else .bad
def F_times (q r : Rat) : R Rat := if Sm q ∧ Sm r then .ok (q * r) else .bad
def F_over (q r : Rat) : R Rat := if Sm q ∧ Sm r then (if r = 0 then .exc "NoNumber" [] else .ok (q / r)) else .bad
def F_under (q r : Rat) : R Bool := if Sm q ∧ Sm r then .ok (decide (q < r)) else .bad
def noHeap : AH := fun _ => none
def F_tie_of (d : D) : R TieO := if TieIn noHeap d then (match deTie d with
  | some t => .ok ⟨t⟩
  | none => .exc "NoTie" []) else .bad
def F_Tie_plain (o : TieO) : R TieV := .ok o.t
/-- a tie holds for a size -/
def tieHolds (t : TieV) (q : Rat) : Bool := (match t.low with | some l => decide (l ≤ q) | none => true) && (match t.high with | some h => decide (q ≤ h) | none => true)
def F_Tie_holds (o : TieO) (q : Rat) : R Bool := if o.t.Sm ∧ Sm q then .ok (tieHolds o.t q) else .bad
/-- the steps of a tie -/
def tieSteps (t : TieV) : List (T4 Str Str Rat Bool) := (match t.high with | some h => [⟨t.start, t.fin, h, true⟩] | none => []) ++ (match t.low with | some l => [⟨t.fin, t.start, -l, false⟩] | none => [])
def F_Tie_steps (o : TieO) : R (List (T4 Str Str Rat Bool)) := if o.t.Sm then .ok (tieSteps o.t) else .bad
end
end TF

/-! TF6: the first functions' promises, typed. -/
namespace TF
open PySem PySem.Spec PyProof.Rows L2 DL FR
open Enc KeyT
section
variable {α β γ δ' ε ζ η σ ρ τ κ : Type} [Enc α] [Enc β] [Enc γ] [Enc δ'] [Enc ε] [Enc ζ] [Enc η] [KeyT κ]
variable {w : DW} {A0 A : AH} {X : String → List (String × D) → Prop} {D0 : DEnds} {V : τ → Prop} {ss : List Sl} {δ : DSt} {Q : DK}
theorem rtO {A1 A' : AH} {a : List α} {p : Addr} (s : Sub A A1) (hn : New A1 (oL a) p A') (h : ∀ p A', New A (oL a) p A' → Q (.ref p) A') : dropQ Q (.ref p) A' := by
  obtain ⟨C, ⟨h1, h2⟩, h3, h4⟩ := hn.ex
  subst h2
  have hp : A p = none := sub_none s (h3 p (List.mem_singleton.mpr rfl))
  refine ⟨A.put p (.lst (a.map enc)), fun b o e => ?_, h p _ (New.put hp)⟩
  by_cases hb : b = p
  · subst hb; rw [AH.put_same] at e; cases e; exact h1
  · rw [AH.put_ne A _ hb] at e
    rw [h4 b (by simpa using hb)]; exact s b o e
theorem rtW {A' : AH} {a : List α} {p : Addr} (s : Sub A A') (h1 : A' p = some (.lst (a.map enc))) (h2 : A p = none) (h : ∀ p A', New A (oL a) p A' → Q (.ref p) A') : dropQ Q (.ref p) A' := by
  refine ⟨A.put p (.lst (a.map enc)), fun b o e => ?_, h p _ (New.put h2)⟩
  by_cases hb : b = p
  · subst hb; rw [AH.put_same] at e; cases e; exact h1
  · rw [AH.put_ne A _ hb] at e; exact s b o e
/-! texts' signs -/
def signsL (z : Str) : List Str := z.cps.toList.map fun c => ⟨#[c]⟩
theorem signs_enc (z : Str) : signsD z = (signsL z).map enc := by unfold signsD signsL; rw [List.map_map]; rfl
theorem sif_str {t : DE} {m : R Str} (h : SE w A0 ss t m) : SIF w A0 ss (iText t) (m.bind fun z => .ok (signsL z)) enc := fun δ A K e hw => by
  rw [iText_eq]
  refine h.run e hw (fun _ _ => id) fun z hw => ?_
  dsimp only [enc_str]
  rw [signs_enc]; exact hw _ fun _ _ => trivial
theorem opAdd_tt {mk : DL.Mk} {l m : List D} {Q : DK} (hf : Few (l.length + m.length)) (h : Q (.tup (l ++ m)) A) : opAdd mk (.tup l) (.tup m) A Q := ⟨hf, h⟩
theorem se_catT {mk : DL.Mk} {t u : DE} {m : R α} {n : R β} (f : α → β → γ) (hf : ∀ a b, ∃ l k, (enc a : D) = .tup l ∧ (enc b : D) = .tup k ∧ (enc (f a b) : D) = .tup (l ++ k) ∧ l.length + k.length < 1000000) (h : SE w A0 ss t m) (h2 : SE w A0 ss u n) : SE w A0 ss (eBin (opAdd mk) t u) (R.b2 m n fun a b => .ok (f a b)) := fun δ A Q e hw =>
  h.run e hw (fun _ _ => id) fun a hw => h2.run e hw (fun _ _ => id) fun b hw => by
    obtain ⟨l, k, q1, q2, q3, this⟩ := hf a b
    rw [q1, q2]
    refine opAdd_tt this ?_
    rw [← q3]; exact hw
theorem se_listT {t : DE} {m : R α} (f : α → D) (hf : ∀ a, ∃ l, (enc a : D) = .tup l ∧ f a = .lst l) (h : SE w A0 ss t m) : SE w A0 ss (eCB (bList mkF) (aCons t aNil)) (m.map f) := fun δ A Q e hw =>
  h.run e hw (fun _ _ => id) fun a hw => by
    obtain ⟨l, q1, q2⟩ := hf a
    show bList mkF [enc a] A Q
    rw [q1, bList_tup]
    have hw' : Q (f a) A := hw
    rw [q2] at hw'; exact hw'
/-! == of three, of four -/
section
variable [DecidableEq α] [EqD α]
noncomputable def eqC2 (a b c : R α) : R Bool := a.bind fun a => b.bind fun b => (eqR false a b).bind fun t => if t = true then c.bind fun c => eqR false b c else .ok false
noncomputable def eqC3 (a b c d : R α) : R Bool := a.bind fun a => b.bind fun b => (eqR false a b).bind fun t => if t = true then c.bind fun c => (eqR false b c).bind fun t => if t = true then d.bind fun d => eqR false c d else .ok false else .ok false
theorem eq_step (hd : EqD.dep α ≤ 60) {a b : α} {k : Bool → R τ} {Q : Bool → Prop} {V X'} (hw : ((eqR false a b).bind k).wp V X') (hk : ∀ t, (k t).wp V X' → Q t) : opEq false (enc a) (enc b) A (fun d _ => ∃ t, d = .bl t ∧ Q t) := by
  rw [R.wp_bind] at hw
  refine op_eqV false hd A _ _ a b _ (fun _ _ => False) (vw_enc A a) (vw_enc A b) ?_
  unfold eqR at hw ⊢
  split at hw
  · rename_i g
    rw [if_pos g]
    exact ⟨_, rfl, hk _ hw⟩
  · exact hw.elim
theorem eq_mono {x y : D} {Q Q' : DK} (h : opEq false x y A Q) (q : ∀ d, Q d A → Q' d A) : opEq false x y A Q' := ⟨h.1, h.2.1, q _ h.2.2⟩
theorem se_eqC3 (hd : EqD.dep α ≤ 60) {ta tb tc td : DE} {a b c d : R α} (h1 : SE w A0 ss ta a) (h2 : SE w A0 ss tb b) (h3 : SE w A0 ss tc c) (h4 : SE w A0 ss td d) : SE w A0 ss (eChain3 (opEq false) (opEq false) (opEq false) ta tb tc td) (eqC3 a b c d) := fun δ A Q e hw => by
  unfold eChain3
  refine h1.run e hw (fun _ _ => id) fun a hw => h2.run e hw (fun _ _ => id) fun b hw => ?_
  refine eq_mono (eq_step hd (Q := fun t => ((if t = true then c.bind fun c => (eqR false b c).bind fun t => if t = true then d.bind fun d => eqR false c d else .ok false else .ok false : R Bool)).wp (fun a => Q (enc a) A) (fun c fs => w c fs δ A)) hw fun t h => h) fun x ⟨t, ex, ht⟩ => ?_
  subst ex
  cases t with
  | false => exact ⟨fun h => (nomatch h), fun _ => ht⟩
  | true =>
    refine ⟨fun _ => ?_, fun h => (nomatch h)⟩
    refine h3.run e ht (fun _ _ => id) fun c hw => ?_
    refine eq_mono (eq_step hd (Q := fun t => ((if t = true then d.bind fun d => eqR false c d else .ok false : R Bool)).wp (fun a => Q (enc a) A) (fun c fs => w c fs δ A)) hw fun t h => h) fun x ⟨t, ex, ht⟩ => ?_
    subst ex
    cases t with
    | false => exact ⟨fun h => (nomatch h), fun _ => ht⟩
    | true =>
      refine ⟨fun _ => ?_, fun h => (nomatch h)⟩
      refine h4.run e ht (fun _ _ => id) fun d hw => ?_
      exact op_eqV false hd A _ _ c d Q _ (vw_enc A c) (vw_enc A d) hw
end
/-! a list of its own, walked -/
theorem EnvR.frame0 {A0 A0' A : AH} {B : List Addr} {ss : List Sl} {δ : DSt} (h : EnvR A0 A B ss δ) (q : ∀ a ∈ B, A0' a = none) : EnvR A0' A B ss δ := by
  induction h with
  | nil => exact .nil
  | emp _ ih => exact .emp (ih q)
  | val _ ih => exact .val (ih q)
  | own r o h1 h2 ih => exact .own (ih fun a ha => q a (List.mem_append_right _ ha)) o h1 fun a ha => q a (List.mem_append_left _ ha)
theorem set_same {i : Nat} {x : Option D} (h : δ[i]? = some x) : δ.set i x = δ := by
  apply List.ext_getElem?
  intro j
  rw [List.getElem?_set]
  split
  · rename_i hj; subst hj
    split
    · exact h.symm
    · rename_i hl; exact (List.getElem?_eq_none (by omega)).symm
  · rfl
theorem vw_put {l : List α} {p : Addr} : vw (A0.put p (.lst (l.map enc))) (.ref p) l := by
  show (match (A0.put p (.lst (l.map enc))) p with | some (.lst l) => some l | _ => none) = _
  rw [AH.put_same]
theorem wx_sub {A0' : AH} (s : Sub A0 A0') (h : WX A0 w X) : WX A0' w X := fun c fs δ A q => h c fs δ A (sub_trans s q)
theorem ss_borrow {i : Nat} {l : List α} {s : DS} {m : R τ} (hi : ss[i]? = some (.own (oL l))) (h : ∀ p, A0 p = none → Sub A0 (A0.put p (.lst (l.map enc))) → SS (A0.put p (.lst (l.map enc))) X D0 V (ss.set i (.val (.ref p))) s m) : SS A0 X D0 V ss s m := fun δ A e hm => by
  obtain ⟨sub, B, er⟩ := e
  obtain ⟨p, C, B', e1, ⟨e2, e2'⟩, e3, e4, e5, e6, e7⟩ := er.split_own hi
  subst e2'
  have hp : p ∈ [p] := List.mem_singleton.mpr rfl
  have hn := e3 p hp
  refine h p hn ((Sub.refl A0).put hn) δ A ⟨fun a u q => ?_, ?_⟩ hm
  · by_cases ha : a = p
    · subst ha; rw [AH.put_same] at q; cases q; exact e2
    · rw [AH.put_ne A0 _ ha] at q; exact sub a u q
  · have er' : EnvR (A0.put p (.lst (l.map enc))) A B' (ss.set i .emp) δ := e7.frame0 fun a ha => by
      have hne : a ≠ p := fun z => e4 p hp (z ▸ ha)
      rw [AH.put_ne A0 _ hne]; exact (e7.there a ha).2
    obtain ⟨B2, _, q⟩ := er'.set_val i (.ref p)
    rw [List.set_set, set_same e1] at q
    exact ⟨B2, q⟩
theorem ss_back {i : Nat} {p : Addr} {l : List α} {J : List Sl} {s : DS} {m : R τ} (hn : A0 p = none) (hi : J[i]? = some (.val (.ref p))) (h : SS A0 X D0 V (J.set i (.own (oL l))) s m) : SS (A0.put p (.lst (l.map enc))) X D0 V J s m := fun δ A e hm => by
  obtain ⟨sub, B, er⟩ := e
  have e1 := er.get_val hi
  have e2 := sub p _ (AH.put_same ..)
  refine h δ A ⟨fun a u q => sub a u ?_, ?_⟩ hm
  · have hne : a ≠ p := fun z => by rw [z, hn] at q; cases q
    rw [AH.put_ne A0 _ hne]; exact q
  · have hB : ∀ a ∈ B, a ≠ p := fun a ha z => by
      have := (er.there a ha).2
      rw [z, AH.put_same] at this; cases this
    have er' : EnvR A0 A B J δ := er.frame0 fun a ha => by
      have := (er.there a ha).2
      rw [AH.put_ne A0 _ (hB a ha)] at this; exact this
    obtain ⟨B2, _, q⟩ := er'.set_own i (t := oL l) (p := p) (C := [p]) ⟨e2, rfl⟩ (fun a ha hb => hB a hb (List.mem_singleton.mp ha)) (fun a ha => by rw [List.mem_singleton.mp ha]; exact hn)
    rw [set_same e1] at q
    exact ⟨B2, q⟩
theorem ss_appD {i : Nat} {te : DE} {rest : DS} {m : R β} {l : List α} {k : List D → R τ} (hw : WE A0 w X ss) (hi : ss[i]? = some (.own (oL l))) (he : SE w A0 ss te m) (hr : ∀ l' : List D, SS A0 X D0 V (ss.set i (.own (oL l'))) rest (k l')) :
    SS A0 X D0 V ss (sSeq (sDrop (eMt "list" mApp (eVar i) (aCons te aNil))) rest) (m.bind fun a => (few l).bind fun _ => (R.ok (l.map enc ++ [enc a])).bind k) := fun δ A e h => by
  obtain ⟨p, h1, h2, _⟩ := e.get_own hi
  rw [sSeq_eq, sDrop_eq, eMt_eq, eVar_eq h1]
  refine ⟨by rw [tyM_ref h2], ?_⟩
  rw [aCons_eq]
  refine he.run e h (fun c fs => hw c fs δ A e) fun a ha => ?_
  rw [R.wp_bind] at ha
  obtain ⟨hl, ha⟩ := few_wp ha
  rw [aNil_eq, mApp_eq]; simp only [h2]
  refine ⟨by simpa using hl, ?_⟩
  obtain ⟨p', q1, q2, q3⟩ := e.upd_own (o' := .lst ((l.map enc ++ [enc a] : List D).map enc)) hi
  rw [h1] at q1; cases q1
  have := hr (l.map enc ++ [enc a]) _ _ q3 ha
  have e2 : (l.map enc ++ [enc a] : List D).map enc = l.map enc ++ [enc a] := List.map_id _
  rw [e2] at this; exact this
/-! joined texts -/
def joinR (s : Str) (l : List Str) : R Str := if (l.map (·.length)).sum + l.length * s.length ≤ 1000000 then .ok (Txt.join s l) else .bad
theorem strs_enc (l : List Str) : strsD (l.map enc) = some l := strsD_map l
theorem se_join {t u : DE} {m : R Str} {n : R (List Str)} (h : SE w A0 ss t m) (h2 : SV w A0 ss u n) : SE w A0 ss (eMt "str" mJoin t (aCons u aNil)) (R.b2 m n joinR) := fun δ A Q e hw => by
  rw [eMt_eq]
  refine h.run e hw (fun _ _ => id) fun s hw => ⟨rfl, ?_⟩
  rw [aCons_eq]
  refine h2.run e hw (fun _ _ => id) fun l d hd hw => ?_
  rw [aNil_eq]
  show mJoin (.str s) [d] A Q
  rw [mJoin_eq, asS_asL (show asL A d = some (l.map enc) from hd)]
  unfold joinR at hw
  split at hw
  · rename_i hl
    show (match strsD (l.map enc) with
      | some ys => (ys.map (·.length)).sum + ys.length * s.length ≤ 1000000 ∧ Q (.str (Txt.join s ys)) A
      | none => False)
    rw [strs_enc]; exact ⟨hl, hw⟩
  · exact hw.elim
/-! objects' classes -/
def isCls (c : String) (o : TieO) : R Bool := .ok (decide (o.t.cls = c))
theorem se_isCls {t : DE} {m : R TieO} (c : String) (tb : List (String × Bool)) (ht : ∀ o : TieV, lookS o.cls tb = some (decide (o.cls = c))) (h : SE w A0 ss t m) : SE w A0 ss (eIsiC tb t) (m.bind (isCls c)) := fun δ A Q e hw => by
  rw [eIsiC_eq]
  refine h.run e hw (fun _ _ => id) fun o hw => ?_
  show (match asObj A (tieO o.t) with
    | some (c, _) => (match lookS c tb with
      | some b => Q (.bl b) A
      | none => False)
    | none => False)
  rw [asObj_tie]
  dsimp only
  rw [ht]; exact hw
theorem se_isClsA {t : DE} {m : R TieO} (tb : List (String × Bool)) (ht : ∀ o : TieV, lookS o.cls tb = some true) (h : SE w A0 ss t m) : SE w A0 ss (eIsiC tb t) (m.bind fun _ => .ok true) := fun δ A Q e hw => by
  rw [eIsiC_eq]
  refine h.run e hw (fun _ _ => id) fun o hw => ?_
  show (match asObj A (tieO o.t) with
    | some (c, _) => (match lookS c tb with
      | some b => Q (.bl b) A
      | none => False)
    | none => False)
  rw [asObj_tie]
  dsimp only
  rw [ht]; exact hw
end
instance : DecidableEq TieV := fun a b => by
  obtain ⟨a1, a2, a3, a4, a5⟩ := a
  obtain ⟨b1, b2, b3, b4, b5⟩ := b
  exact decidable_of_iff (a1 = b1 ∧ a2 = b2 ∧ a3 = b3 ∧ a4 = b4 ∧ a5 = b5) (by simp)
instance : EqD TieV where
  good t := EqD.good t.name ∧ EqD.good t.start ∧ EqD.good t.fin
  dep := 3
  dt_enc t n h hn := dt_t (by omega) (by
    simp only [dts_cons, dts_nil, Bool.and_true, Bool.and_eq_true]
    exact ⟨EqD.dt_enc t.name _ h.1 (by show 0 ≤ _; omega), EqD.dt_enc t.start _ h.2.1 (by show 0 ≤ _; omega), EqD.dt_enc t.fin _ h.2.2 (by show 0 ≤ _; omega), EqD.dt_enc t.low _ (fun _ _ => trivial) (by show 1 ≤ _; omega), EqD.dt_enc t.high _ (fun _ _ => trivial) (by show 1 ≤ _; omega)⟩)
  deq_enc a b h k := by
    show deq (.tup [enc a.name, enc a.start, enc a.fin, enc a.low, enc a.high]) (.tup [enc b.name, enc b.start, enc b.fin, enc b.low, enc b.high]) = _
    rw [deq_tup, deqs_cons, deqs_cons, deqs_cons, deqs_cons, deqs_cons, deqs_nil, EqD.deq_enc _ _ h.1 k.1, EqD.deq_enc _ _ h.2.1 k.2.1, EqD.deq_enc _ _ h.2.2 k.2.2, EqD.deq_enc a.low b.low (fun _ _ => trivial) (fun _ _ => trivial), EqD.deq_enc a.high b.high (fun _ _ => trivial) (fun _ _ => trivial), Bool.and_true]
    cases a; cases b; simp
  vw_dt A d a n h q := vw_dtNR A d a n h q
  vw_deq A x y a b h k := vw_deqNR A x y a b h k
end TF

/-! TF7: things asked for their kinds; texts within texts, parted, read as numbers. -/
namespace TF
open PySem PySem.Spec PyProof.Rows L2 DL FR
open Enc
section
variable {α β γ : Type} [Enc α] [Enc β] [Enc γ] {w : DW} {A0 : AH} {ss : List Sl}
def deStr : D → R Str
  | .str z => .ok z
  | _ => .bad
@[simp] theorem deStr_str {z : Str} : deStr (.str z) = .ok z := rfl
theorem se_deStr {t : DE} {m : R D} (h : SE w A0 ss t m) : SE w A0 ss t (m.bind deStr) := se_coM deStr (fun a b e => by cases a <;> cases e; rfl) (fun a c fs e => by cases a <;> cases e) h
def isiD (T : String) (d : D) : R Bool := match tyD noHeap d with
  | some s => .ok (instB s T)
  | none => .bad
theorem tyD_no {d : D} {s : String} (h : tyD noHeap d = some s) (A : AH) : tyD A d = some s := by
  cases d with
  | ref a => exact nomatch h
  | _ => exact h
theorem se_isiD {t : DE} {m : R D} {T : String} (h : SE w A0 ss t m) : SE w A0 ss (eIsi T t) (m.bind (isiD T)) := fun δ A Q e hw => by
  rw [eIsi_eq]
  refine h.run e hw (fun _ _ => id) fun a hw => ?_
  unfold isiD at hw
  split at hw
  · rename_i s q
    show match tyD A a with | some s => Q (.bl (instB s T)) A | none => False
    rw [tyD_no q A]; exact hw
  · exact hw.elim
def inS (neg : Bool) (c z : Str) : R Bool := if c.cps.size = 1 then .ok (xor neg (decide (c.cps.getD 0 0 ∈ z.cps.toList))) else .bad
theorem op_inS (neg : Bool) : OpE (opIn neg) (inS neg) := fun A a b Q X hw => by
  unfold inS at hw
  split at hw
  · rename_i h; exact ⟨h, hw⟩
  · exact hw.elim
def partR (x y : Str) : R (T3 Str Str Str) := if (y.length == 0) = false ∧ x.length < 1000000 then .ok ⟨(Txt.partition x y).1, (Txt.partition x y).2.1, (Txt.partition x y).2.2⟩ else .bad
theorem se_part {t u : DE} {m n : R Str} (h : SE w A0 ss t m) (h2 : SE w A0 ss u n) : SE w A0 ss (eMt "str" mPart t (aCons u aNil)) (R.b2 m n partR) := fun δ A Q e hw => by
  refine h.run e hw (fun _ _ => id) fun a hw => ⟨rfl, h2.run e hw (fun _ _ => id) fun b hw => ?_⟩
  unfold partR at hw
  split at hw
  · rename_i h; exact ⟨h, hw⟩
  · exact hw.elim
def intS (z : Str) : R Int := if z.length ≤ 640 then (match PySem.intText? z with
  | some n => .ok n
  | none => .bad) else .bad
theorem cb_intS : CbE bInt intS := fun A a Q X hw => by
  unfold intS at hw
  split at hw
  · rename_i h
    refine ⟨h, ?_⟩
    split at hw
    · rename_i n q; first | exact hw | (rw [q]; exact hw)
    · exact hw.elim
  · exact hw.elim
end
end TF

/-! TF8: an object of one's own: its fields read, set, its lists and dicts changed; dict.get; the first item taken out. -/
namespace TF
open PySem PySem.Spec PyProof.Rows L2 DL FR
open Enc
/-- a field told anew -/
def putF' (f : String) (x : D ⊕ AO) : List (String × (D ⊕ AO)) → List (String × (D ⊕ AO))
  | [] => [(f, x)]
  | (g, y) :: r => if g = f then (g, x) :: r else (g, y) :: putF' f x r
theorem OwnF.own {A : AH} {f : String} {o : AO} : ∀ {fs : List (String × (D ⊕ AO))} {r : List (String × D)} {B : List Addr}, OwnF A fs r B → lookS f fs = some (.inr o) → ∃ q, lookS f r = some (.ref q) ∧ A q = some o ∧ q ∈ B ∧ ∀ o', OwnF (A.put q o') (putF' f (.inr o') fs) r B
  | [], _, _, _, h => by simp at h
  | (g, .inl d) :: fs, r, B, ⟨r', e, h⟩, hf => by
    subst e
    rw [lookS_cons] at hf
    by_cases hg : g = f
    · rw [if_pos hg] at hf; cases hf
    · rw [if_neg hg] at hf
      obtain ⟨q, h1, h2, h3, h4⟩ := h.own hf
      refine ⟨q, by rw [lookS_cons, if_neg hg]; exact h1, h2, h3, fun o' => ?_⟩
      unfold putF'
      rw [if_neg hg]
      exact ⟨r', rfl, h4 o'⟩
  | (g, .inr o1) :: fs, r, B, ⟨r', x, B', e1, e2, e3, e4, h⟩, hf => by
    subst e1; subst e4
    rw [lookS_cons] at hf
    by_cases hg : g = f
    · rw [if_pos hg] at hf
      cases hf
      refine ⟨x, by rw [lookS_cons, if_pos hg], e2, List.mem_cons_self, fun o' => ?_⟩
      unfold putF'
      rw [if_pos hg]
      exact ⟨r', x, B', rfl, AH.put_same .., e3, rfl, h.frame fun a ha => AH.put_ne A o' fun e => e3 (e ▸ ha)⟩
    · rw [if_neg hg] at hf
      obtain ⟨q, h1, h2, h3, h4⟩ := h.own hf
      refine ⟨q, by rw [lookS_cons, if_neg hg]; exact h1, h2, List.mem_cons_of_mem _ h3, fun o' => ?_⟩
      unfold putF'
      rw [if_neg hg]
      have hne : x ≠ q := fun e => e3 (by rw [e]; exact h3)
      exact ⟨r', x, B', rfl, by rw [AH.put_ne A o' hne]; exact e2, e3, rfl, h4 o'⟩
theorem OwnF.val {A : AH} {f : String} {d : D} : ∀ {fs : List (String × (D ⊕ AO))} {r : List (String × D)} {B : List Addr}, OwnF A fs r B → lookS f fs = some (.inl d) → lookS f r = some d
  | [], _, _, _, h => by simp at h
  | (g, .inl e) :: fs, r, B, ⟨r', e', h⟩, hf => by
    subst e'
    rw [lookS_cons] at hf ⊢
    by_cases hg : g = f
    · rw [if_pos hg] at hf ⊢; cases hf; rfl
    · rw [if_neg hg] at hf ⊢; exact h.val hf
  | (g, .inr o1) :: fs, r, B, ⟨r', x, B', e1, e2, e3, e4, h⟩, hf => by
    subst e1
    rw [lookS_cons] at hf ⊢
    by_cases hg : g = f
    · rw [if_pos hg] at hf; cases hf
    · rw [if_neg hg] at hf ⊢; exact h.val hf
theorem OwnF.len {A : AH} : ∀ {fs : List (String × (D ⊕ AO))} {r : List (String × D)} {B : List Addr}, OwnF A fs r B → r.length = fs.length
  | [], _, _, ⟨e, _⟩ => by subst e; rfl
  | (_, .inl _) :: _, _, _, ⟨r', e, h⟩ => by subst e; simp [h.len]
  | (_, .inr _) :: _, _, _, ⟨r', x, B', e, _, _, _, h⟩ => by subst e; simp [h.len]
/-- a field set to a value -/
theorem OwnF.set {A : AH} {f : String} {d : D} : ∀ {fs : List (String × (D ⊕ AO))} {r : List (String × D)} {B : List Addr}, OwnF A fs r B → ∃ B', (∀ a ∈ B', a ∈ B) ∧ OwnF A (putF' f (.inl d) fs) (putD f d r) B'
  | [], _, _, ⟨e, e2⟩ => by subst e; subst e2; exact ⟨[], fun _ h => h, [], rfl, rfl, rfl⟩
  | (g, .inl y) :: fs, r, B, ⟨r', e, h⟩ => by
    subst e
    unfold putF'
    rw [putD_cons]
    by_cases hg : g = f
    · rw [if_pos hg, if_pos hg]; exact ⟨B, fun _ h => h, r', rfl, h⟩
    · rw [if_neg hg, if_neg hg]
      obtain ⟨B', h1, h2⟩ := h.set (f := f) (d := d)
      exact ⟨B', h1, _, rfl, h2⟩
  | (g, .inr o1) :: fs, r, B, ⟨r', x, B', e1, e2, e3, e4, h⟩ => by
    subst e1; subst e4
    unfold putF'
    rw [putD_cons]
    by_cases hg : g = f
    · rw [if_pos hg, if_pos hg]; exact ⟨B', fun _ h => List.mem_cons_of_mem _ h, r', rfl, h⟩
    · rw [if_neg hg, if_neg hg]
      obtain ⟨B2, h1, h2⟩ := h.set (f := f) (d := d)
      exact ⟨x :: B2, fun a ha => by rcases List.mem_cons.mp ha with rfl | ha; exact List.mem_cons_self; exact List.mem_cons_of_mem _ (h1 a ha), _, x, B2, rfl, e2, fun hh => e3 (h1 x hh), rfl, h2⟩
/-- a field set to a new own list or dict -/
theorem OwnF.setO {A : AH} {f : String} {o : AO} {q : Addr} (hq : A q = some o) : ∀ {fs : List (String × (D ⊕ AO))} {r : List (String × D)} {B : List Addr}, OwnF A fs r B → q ∉ B → ∃ B', (∀ a ∈ B', a = q ∨ a ∈ B) ∧ OwnF A (putF' f (.inr o) fs) (putD f (.ref q) r) B'
  | [], _, _, ⟨e, e2⟩, _ => by subst e; subst e2; exact ⟨[q], fun a h => .inl (List.mem_singleton.mp h), [], q, [], rfl, hq, fun h => (nomatch h), rfl, rfl, rfl⟩
  | (g, .inl y) :: fs, r, B, ⟨r', e, h⟩, hn => by
    subst e
    unfold putF'
    rw [putD_cons]
    by_cases hg : g = f
    · rw [if_pos hg, if_pos hg]
      exact ⟨q :: B, fun a ha => List.mem_cons.mp ha, r', q, B, rfl, hq, hn, rfl, h⟩
    · rw [if_neg hg, if_neg hg]
      obtain ⟨B', h1, h2⟩ := h.setO (f := f) hq hn
      exact ⟨B', h1, _, rfl, h2⟩
  | (g, .inr o1) :: fs, r, B, ⟨r', x, B', e1, e2, e3, e4, h⟩, hn => by
    subst e1; subst e4
    have hn' : q ∉ B' := fun h => hn (List.mem_cons_of_mem _ h)
    unfold putF'
    rw [putD_cons]
    by_cases hg : g = f
    · rw [if_pos hg, if_pos hg]
      exact ⟨q :: B', fun a ha => (List.mem_cons.mp ha).imp id (List.mem_cons_of_mem _), r', q, B', rfl, hq, hn', rfl, h⟩
    · rw [if_neg hg, if_neg hg]
      obtain ⟨B2, h1, h2⟩ := h.setO (f := f) hq hn'
      refine ⟨x :: B2, fun a ha => ?_, _, x, B2, rfl, e2, fun hh => ?_, rfl, h2⟩
      · rcases List.mem_cons.mp ha with rfl | ha
        · exact .inr List.mem_cons_self
        · exact (h1 a ha).imp id (List.mem_cons_of_mem _)
      · rcases h1 x hh with e | e
        · exact hn (e ▸ List.mem_cons_self)
        · exact e3 e
/-- a slot's own object changed within, new parts taken from what was free -/
theorem Env.change {A0 A : AH} {ss : List Sl} {δ : DSt} {i : Nat} {t : OT} (h : Env A0 ss δ A) (e : ss[i]? = some (.own t)) : ∃ p C, δ[i]? = some (some (.ref p)) ∧ Own A t p C ∧
    ∀ A' t' C', Own A' t' p C' → (∀ a ∈ C', a ∈ C ∨ A a = none) → (∀ a, a ∉ C → A a ≠ none → A' a = A a) → Env A0 (ss.set i (.own t')) δ A' := by
  obtain ⟨s, B, h⟩ := h
  have th := h.there
  obtain ⟨p, C, B', e1, e2, e3, e4, e5, e6, e7⟩ := h.split_own e
  refine ⟨p, C, e1, e2, fun A' t' C' o hC hA => ⟨fun a u q => ?_, ?_⟩⟩
  · have h1 := s a u q
    rw [hA a (fun hc => by rw [e3 a hc] at q; cases q) (by rw [h1]; intro z; cases z)]
    exact h1
  · have h' : EnvR A0 A' B' (ss.set i .emp) δ := e7.frame fun a ha => hA a (fun hc => e4 a hc ha) (th a (e6 a ha)).1
    obtain ⟨B2, _, q⟩ := h'.set_own i (t := t') (p := p) (C := C') o (fun a ha hb => (hC a ha).elim (fun hc => e4 a hc hb) fun hn => (th a (e6 a hb)).1 hn) fun a ha => (hC a ha).elim (fun hc => e3 a hc) fun hn => by
      cases h0 : A0 a with
      | none => rfl
      | some u => rw [s a u h0] at hn; cases hn
    rw [List.set_set, set_same e1] at q
    exact ⟨B2, q⟩
section
variable {α β κ τ : Type} [Enc α] [Enc β] {w : DW} {A0 : AH} {ss : List Sl} {X : String → List (String × D) → Prop} {D0 : DEnds} {V : τ → Prop} {i : Nat} {c f : String} {pin : Option Addr} {cs : List String} {fs fs' : List (String × (D ⊕ AO))}
theorem Env.fld {δ : DSt} {A : AH} {o : AO} (e : Env A0 ss δ A) (hi : ss[i]? = some (.own (.ob c pin fs))) (hf : fs.lookup f = some (.inr o)) : ∃ p q r, δ[i]? = some (some (.ref p)) ∧ A p = some (.obj c r) ∧ lookS f r = some (.ref q) ∧ A q = some o ∧ r.length = fs.length ∧
    ∀ o', Env A0 (ss.set i (.own (.ob c pin (putF' f (.inr o') fs)))) δ (A.put q o') := by
  obtain ⟨p, C, e1, ⟨r, B, h1, h2, h3, h4, hp⟩, h5⟩ := e.change hi
  subst h4
  obtain ⟨q, q1, q2, q3, q4⟩ := h2.own (f := f) (o := o) (by rw [lookS_eq]; exact hf)
  have hqp : p ≠ q := fun z => h3 (z ▸ q3)
  refine ⟨p, q, r, e1, h1, q1, q2, h2.len, fun o' => h5 _ _ (p :: B) ⟨r, B, by rw [AH.put_ne A o' hqp]; exact h1, q4 o', h3, rfl, hp⟩ (fun a ha => .inl ha) fun a ha _ => AH.put_ne A o' fun z => ha (z ▸ List.mem_cons_of_mem _ q3)⟩
theorem fld_eq {δ : DSt} {A : AH} {Q : DK} {p : Addr} {r : List (String × D)} {d : D} (h1 : δ[i]? = some (some (.ref p))) (h2 : A p = some (.obj c r)) (h3 : lookS f r = some d) (hc : c ∈ cs) (h : Q d A) : eFld cs f (eVar i) δ A Q := by
  rw [eFld_eq, eVar_eq h1]
  show (match asObj A (.ref p) with | some (c, fs) => c ∈ cs ∧ (match lookS f fs with | some d => Q d A | none => False) | none => False)
  rw [asObj_ref h2]
  refine ⟨hc, ?_⟩
  rw [h3]; exact h
/-- a list within, read -/
theorem sv_fldL {l : List α} (hi : ss[i]? = some (.own (.ob c pin fs))) (hc : c ∈ cs) (hf : fs.lookup f = some (.inr (.lst (l.map enc)))) : SV w A0 ss (eFld cs f (eVar i)) (R.ok l) := fun δ A Q e hw => by
  obtain ⟨p, q, r, e1, e2, e3, e4, _⟩ := e.fld hi hf
  refine fld_eq e1 e2 e3 hc (hw _ ?_)
  show asL A (.ref q) = some (l.map enc)
  unfold asL; simp only [e4]
theorem sv_fldD [Enc κ] [KeyT κ] [KeyD κ] {l : Dic κ α} (hi : ss[i]? = some (.own (.ob c pin fs))) (hc : c ∈ cs) (hf : fs.lookup f = some (.inr (.dic (encKV l.l)))) : SV w A0 ss (eFld cs f (eVar i)) (R.ok l) := fun δ A Q e hw => by
  obtain ⟨p, q, r, e1, e2, e3, e4, _⟩ := e.fld hi hf
  refine fld_eq e1 e2 e3 hc (hw _ ?_)
  show asDic A (.ref q) = some (encKV l.l)
  unfold asDic; simp only [e4]
theorem se_fldV {a : α} (hi : ss[i]? = some (.own (.ob c pin fs))) (hc : c ∈ cs) (hf : fs.lookup f = some (.inl (enc a))) : SE w A0 ss (eFld cs f (eVar i)) (R.ok a) := fun δ A Q e hw => by
  obtain ⟨p, C, e1, ⟨r, B, h1, h2, h3, h4, hp⟩, h5⟩ := e.change hi
  exact fld_eq e1 h1 (h2.val (by rw [lookS_eq]; exact hf)) hc hw
/-- self.f.append(x) -/
theorem ss_fapp {te : DE} {rest : DS} {m : R α} {l : List α} {k : List α → R τ} (hw : WE A0 w X ss) (hi : ss[i]? = some (.own (.ob c pin fs))) (hc : c ∈ cs) (hf : fs.lookup f = some (.inr (.lst (l.map enc)))) (he : SE w A0 ss te m)
    (hr : ∀ l', SS A0 X D0 V (ss.set i (.own (.ob c pin (putF' f (.inr (.lst (l'.map enc))) fs)))) rest (k l')) :
    SS A0 X D0 V ss (sSeq (sDrop (eMt "list" mApp (eFld cs f (eVar i)) (aCons te aNil))) rest) (m.bind fun a => (few l).bind fun _ => (R.ok (l ++ [a])).bind k) := fun δ A e h => by
  obtain ⟨p, q, r, h1, h2, h3, h4, _, h5⟩ := e.fld hi hf
  rw [sSeq_eq, sDrop_eq, eMt_eq]
  refine fld_eq h1 h2 h3 hc ⟨by rw [tyM_ref h4], ?_⟩
  rw [aCons_eq]
  refine he.run e h (fun c fs => hw c fs δ A e) fun a ha => ?_
  rw [R.wp_bind] at ha
  obtain ⟨hl, ha⟩ := few_wp ha
  rw [aNil_eq, mApp_eq]; simp only [h4]
  refine ⟨by simpa using hl, ?_⟩
  have := hr (l ++ [a]) _ _ (h5 (.lst ((l ++ [a]).map enc))) ha
  rw [List.map_append] at this; exact this
/-- self.f[k] = x -/
theorem ss_fsetD [Enc κ] [KeyT κ] [KeyD κ] [DecidableEq κ] {te ti : DE} {rest : DS} {m : R α} {n : R κ} {d : Dic κ α} {k : Dic κ α → R τ} (hw : WE A0 w X ss) (hi : ss[i]? = some (.own (.ob c pin fs))) (hc : c ∈ cs) (hf : fs.lookup f = some (.inr (.dic (encKV d.l)))) (he : SE w A0 ss te m) (hk : SE w A0 ss ti n)
    (hr : ∀ d' : Dic κ α, SS A0 X D0 V (ss.set i (.own (.ob c pin (putF' f (.inr (.dic (encKV d'.l))) fs)))) rest (k d')) :
    SS A0 X D0 V ss (sSeq (sAsg te (dgSub (eFld cs f (eVar i)) ti)) rest) (m.bind fun a => n.bind fun j => (fewD d).bind fun _ => (R.ok (d.put j a)).bind k) := fun δ A e h => by
  obtain ⟨p, q, r, h1, h2, h3, h4, _, h5⟩ := e.fld hi hf
  rw [sSeq_eq, sAsg_eq]
  refine he.run e h (fun c fs => hw c fs δ A e) fun a ha => ?_
  rw [dgSub_eq]
  refine fld_eq h1 h2 h3 hc ?_
  refine hk.run e ha (fun c fs => hw c fs δ A e) fun j hj => ?_
  unfold fewD at hj
  split at hj
  · rename_i hl
    show setD (.ref q) (enc j) (enc a) A _
    unfold setD
    simp only [h4, KeyD.ok]
    refine ⟨by simpa [encKV] using hl, ?_⟩
    have := hr (d.put j a) _ _ (h5 (.dic (encKV (d.put j a).l))) hj
    rw [encKV_put]; exact this
  · exact hj.elim
/-- self.f = a value -/
theorem ss_fval {te : DE} {rest : DS} {m : R α} {k : α → R τ} (hw : WE A0 w X ss) (hi : ss[i]? = some (.own (.ob c pin fs))) (hc : c ∈ cs) (hn : fs.length < 1000) (he : SE w A0 ss te m) (hr : ∀ a, SS A0 X D0 V (ss.set i (.own (.ob c pin (putF' f (.inl (enc a)) fs)))) rest (k a)) :
    SS A0 X D0 V ss (sSeq (sFldSet cs f (eVar i) te) rest) (m.bind k) := fun δ A e h => by
  obtain ⟨p, C, e1, ⟨r, B, h1, h2, h3, h4, hp⟩, h5⟩ := e.change hi
  subst h4
  rw [sSeq_eq, sFldSet_eq]
  refine he.run e h (fun c fs => hw c fs δ A e) fun a ha => ?_
  rw [eVar_eq e1]
  simp only [h1]
  refine ⟨⟨hc, by rw [h2.len]; exact hn⟩, ?_⟩
  obtain ⟨B', b1, b2⟩ := h2.set (f := f) (d := enc a)
  exact hr a _ _ (h5 _ _ (p :: B') ⟨_, B', AH.put_same .., b2.frame fun x hx => AH.put_ne A _ fun z => h3 (z ▸ b1 x hx), fun hp => h3 (b1 p hp), rfl, hp⟩
    (fun x hx => .inl (by rcases List.mem_cons.mp hx with rfl | hx; exact List.mem_cons_self; exact List.mem_cons_of_mem _ (b1 x hx))) fun x hx _ => AH.put_ne A _ fun z => hx (z ▸ List.mem_cons_self)) ha
/-- self.f = a new list or dict of its own -/
theorem ss_fown {σ : Type} {te : DE} {rest : DS} {m : R σ} {o : σ → AO} {k : σ → R τ} (hw : WE A0 w X ss) (hi : ss[i]? = some (.own (.ob c pin fs))) (hc : c ∈ cs) (hn : fs.length < 1000) (he : SO w A0 ss te m (fun a => .ao (o a))) (hr : ∀ a, SS A0 X D0 V (ss.set i (.own (.ob c pin (putF' f (.inr (o a)) fs)))) rest (k a)) :
    SS A0 X D0 V ss (sSeq (sFldSet cs f (eVar i) te) rest) (m.bind k) := fun δ A e h => by
  obtain ⟨p, C, e1, ⟨r, B, h1, h2, h3, h4, hp⟩, h5⟩ := e.change hi
  subst h4
  have th : ∀ a ∈ p :: B, A a ≠ none := fun a ha => by
    rcases List.mem_cons.mp ha with rfl | ha
    · rw [h1]; intro z; cases z
    · exact h2.there a ha
  rw [sSeq_eq, sFldSet_eq]
  refine he.run e h (fun c fs => hw c fs δ A e) fun a q A' hn' ha => ?_
  obtain ⟨C2, ⟨n1, n1'⟩, n2, n3⟩ := hn'.ex
  subst n1'
  have hqn := n2 q (List.mem_singleton.mpr rfl)
  have hpq : p ≠ q := fun z => th p List.mem_cons_self (z ▸ hqn)
  have hqB : q ∉ B := fun z => th q (List.mem_cons_of_mem _ z) hqn
  have old : ∀ x, x ≠ q → A' x = A x := fun x hx => n3 x fun z => hx (List.mem_singleton.mp z)
  rw [eVar_eq e1]
  have h1' : A' p = some (.obj c r) := by rw [old p hpq]; exact h1
  simp only [h1']
  refine ⟨⟨hc, by rw [h2.len]; exact hn⟩, ?_⟩
  have hf : OwnF A' fs r B := h2.frame fun x hx => old x fun z => hqB (z ▸ hx)
  obtain ⟨B', b1, b2⟩ := hf.setO (f := f) n1 hqB
  have hpB : p ∉ B' := fun hp => (b1 p hp).elim hpq h3
  exact hr a _ _ (h5 _ _ (p :: B') ⟨_, B', AH.put_same .., b2.frame fun x hx => AH.put_ne A' _ fun z => hpB (z ▸ hx), hpB, rfl, hp⟩
    (fun x hx => by
      rcases List.mem_cons.mp hx with rfl | hx
      · exact .inl List.mem_cons_self
      · rcases b1 x hx with rfl | hx
        · exact .inr hqn
        · exact .inl (List.mem_cons_of_mem _ hx)) fun x hx hxn => by
      have hxp : x ≠ p := fun z => hx (by rw [z]; exact List.mem_cons_self)
      rw [AH.put_ne A' _ hxp]
      exact old x fun z => hxn (by rw [z]; exact hqn)) ha
end
end TF

/-! TF9: methods that change their own object; objects made. -/
namespace TF
open PySem PySem.Spec PyProof.Rows L2 DL FR
open Enc
abbrev Flds := List (String × (D ⊕ AO))
theorem OwnF.none {A : AH} {f : String} : ∀ {fs : Flds} {r : List (String × D)} {B : List Addr}, OwnF A fs r B → lookS f fs = none → lookS f r = none
  | [], _, _, ⟨e, _⟩, _ => by subst e; simp
  | (g, .inl d) :: fs, r, B, ⟨r', e, h⟩, hf => by
    subst e
    rw [lookS_cons] at hf ⊢
    by_cases hg : g = f
    · rw [if_pos hg] at hf; cases hf
    · rw [if_neg hg] at hf ⊢; exact h.none hf
  | (g, .inr o1) :: fs, r, B, ⟨r', x, B', e1, e2, e3, e4, h⟩, hf => by
    subst e1
    rw [lookS_cons] at hf ⊢
    by_cases hg : g = f
    · rw [if_pos hg] at hf; cases hf
    · rw [if_neg hg] at hf ⊢; exact h.none hf
theorem Own.repin {A : AH} {c : String} {pin pin' : Option Addr} {fs : Flds} {p : Addr} {C : List Addr} (h : Own A (.ob c pin fs) p C) (hp : ∀ x, pin' = some x → p = x) : Own A (.ob c pin' fs) p C := by
  obtain ⟨r, B, h1, h2, h3, h4, _⟩ := h
  exact ⟨r, B, h1, h2, h3, h4, hp⟩
theorem Own.pinned {A : AH} {c : String} {pin : Option Addr} {fs : Flds} {p : Addr} {C : List Addr} (h : Own A (.ob c pin fs) p C) : ∀ x, pin = some x → p = x := by
  obtain ⟨r, B, h1, h2, h3, h4, h5⟩ := h
  exact h5
theorem New.repin {A A' : AH} {c : String} {pin pin' : Option Addr} {fs : Flds} {p : Addr} (h : New A (.ob c pin fs) p A') (hp : ∀ x, pin' = some x → p = x) : New A (.ob c pin' fs) p A' := by
  obtain ⟨C, h1, h2, h3⟩ := h.ex
  exact ⟨C, h1.repin hp, h2, h3⟩
theorem New.sub {A A' : AH} {t : OT} {p : Addr} (h : New A t p A') : Sub A A' := by
  obtain ⟨C, h1, h2, h3⟩ := h.ex
  intro a u e
  have : a ∉ C := fun hc => by rw [h2 a hc] at e; cases e
  rw [h3 a this]; exact e
open Classical in
/-- what stands without some -/
noncomputable def AH.less (A : AH) (C : List Addr) : AH := fun a => if a ∈ C then none else A a
theorem New.of_own {A : AH} {t : OT} {p : Addr} {C : List Addr} (h : Own A t p C) : New (AH.less A C) t p A := ⟨C, h, fun a ha => if_pos ha, fun a ha => (if_neg ha).symm⟩
section
variable {A0 A : AH} {ss : List Sl} {δ : DSt} {i : Nat} {c name : String} {pin : Option Addr} {fs fs' : Flds} {p : Addr}
/-- a def's first slot is its own object -/
theorem New.env {vs : List Sl} {δ' : DSt} {t : OT} (h : New A0 t p A) (hv : EnvR A0 A [] vs δ') : Env A0 (.own t :: vs) (some (.ref p) :: δ') A := by
  obtain ⟨C, h1, h2, h3⟩ := h.ex
  refine ⟨h.sub, C ++ [], .own hv h1 (fun a _ hb => (nomatch hb)) h2⟩
/-- what stands at its end -/
theorem Env.fin {t : OT} (h : Env A0 ss δ A) (e : ss[i]? = some (.own (.ob c (some p) fs))) : ∃ A2, Sub A2 A ∧ New A0 (.ob c (some p) fs) p A2 := by
  obtain ⟨s, B, h⟩ := h
  obtain ⟨q, C, B', e1, e2, e3, e4, e5, e6, e7⟩ := h.split_own e
  have hq : q = p := e2.pinned p rfl
  subst hq
  refine ⟨fun a => open Classical in if a ∈ C then A a else A0 a, fun a u hu => ?_, C, e2.frame fun a ha => if_pos ha, e3, fun a ha => if_neg ha⟩
  by_cases ha : a ∈ C
  · simpa [ha] using hu
  · exact s a u (by simpa [ha] using hu)
end
section
variable {α β γ σ τ : Type} [Enc α] [Enc β] [Enc γ] {w : DW} {A0 : AH} {ss : List Sl} {X : String → List (String × D) → Prop} {D0 : DEnds} {V : τ → Prop} {i : Nat} {c name : String} {pin : Option Addr} {flds : σ → Flds} {tb : List (String × DSp)} {sp : DSp} {x : σ}
/-- what a method that changes its object promises, its arguments given -/
def IoP (c : String) (flds : σ → Flds) (x : σ) (F : R σ) (g : (Addr → List D)) (sp : DSp) : Prop := ∀ (A0 A : AH) (p : Addr) (Q : DK) (E : DX), New A0 (.ob c (some p) (flds x)) p A →
  F.wp (fun x' => ∀ A', New A0 (.ob c (some p) (flds x')) p A' → Q .non A') (fun k gs => ∀ A', New A0 (.ob c (some p) (flds x)) p A' → E k gs A') → sp (g p) A Q E
theorem io_call {F : R σ} {rest : DS} {k : σ → R τ} {δ : DSt} {A : AH} {g : Addr → List D} (hw : WE A0 w X ss) (hi : ss[i]? = some (.own (.ob c pin (flds x)))) (hs : IoP c flds x F g sp)
    (hr : ∀ x', SS A0 X D0 V (ss.set i (.own (.ob c pin (flds x')))) rest (k x')) (e : Env A0 ss δ A) (h : (F.bind k).wp V X) : ∃ p, δ[i]? = some (some (.ref p)) ∧ (∃ r, A p = some (.obj c r) ∧ ∀ f, lookS f (flds x) = none → lookS f r = none) ∧
    sp (g p) A (fun _ A1 => rest D0 δ A1) (fun k gs A1 => w k gs δ A1) := by
  obtain ⟨p, C, e1, ho, h5⟩ := e.change hi
  have ho' := ho
  obtain ⟨r, B, o1, o2, o3, o4, o5⟩ := ho'
  have back : ∀ (y : σ) (A' : AH), New (AH.less A C) (.ob c (some p) (flds y)) p A' → Env A0 (ss.set i (.own (.ob c pin (flds y)))) δ A' := fun y A' hn => by
    obtain ⟨C', n1, n2, n3⟩ := hn.ex
    refine h5 A' _ C' (n1.repin o5) (fun a ha => ?_) fun a ha han => ?_
    · by_cases hc : a ∈ C
      · exact .inl hc
      · have := n2 a ha
        unfold AH.less at this
        rw [if_neg hc] at this
        exact .inr this
    · have e1 : AH.less A C a = A a := if_neg ha
      have : a ∉ C' := fun hc => han (by rw [← e1]; exact n2 a hc)
      rw [n3 a this, e1]
  refine ⟨p, e1, ⟨r, o1, fun f hf => o2.none hf⟩, hs (AH.less A C) A p _ _ (New.of_own (ho.repin fun y hy => by cases hy; rfl)) ?_⟩
  rw [R.wp_bind] at h
  refine R.wp_imp h (fun x' hx' A' hn => hr x' _ _ (back x' A' hn) hx') fun k gs hx' A' hn => ?_
  have := back x A' hn
  have es : ss.set i (.own (.ob c pin (flds x))) = ss := by
    apply List.ext_getElem?
    intro j
    rw [List.getElem?_set]
    by_cases hj : i = j
    · subst hj
      obtain ⟨h1, h2⟩ := List.getElem?_eq_some_iff.mp hi
      rw [if_pos rfl, if_pos h1, hi]
    · rw [if_neg hj]
  rw [es] at this
  exact hw k gs δ A' this hx'
theorem ss_io0 {F : R σ} {rest : DS} {k : σ → R τ} (hw : WE A0 w X ss) (hi : ss[i]? = some (.own (.ob c pin (flds x)))) (hn : (flds x).lookup name = none) (ht : tb.lookup c = some sp) (hs : IoP c flds x F (fun p => [.ref p]) sp)
    (hr : ∀ x', SS A0 X D0 V (ss.set i (.own (.ob c pin (flds x')))) rest (k x')) : SS A0 X D0 V ss (sSeq (sDrop (eMth w name tb (eVar i) aNil)) rest) (F.bind k) := fun δ A e h => by
  obtain ⟨p, e1, ⟨r, o1, o2⟩, q⟩ := io_call hw hi hs hr e h
  rw [sSeq_eq, sDrop_eq, eMth_eq, eVar_eq e1, asObj_ref o1]
  refine ⟨o2 name (by rw [lookS_eq]; exact hn), ?_⟩
  rw [lookS_eq, ht]; exact q
theorem ss_io1 {F : σ → β → R σ} {te : DE} {m : R β} {rest : DS} {k : σ → R τ} (hw : WE A0 w X ss) (hi : ss[i]? = some (.own (.ob c pin (flds x)))) (hn : (flds x).lookup name = none) (ht : tb.lookup c = some sp) (hs : ∀ b, IoP c flds x (F x b) (fun p => [.ref p, enc b]) sp) (he : SE w A0 ss te m)
    (hr : ∀ x', SS A0 X D0 V (ss.set i (.own (.ob c pin (flds x')))) rest (k x')) : SS A0 X D0 V ss (sSeq (sDrop (eMth w name tb (eVar i) (aCons te aNil))) rest) (m.bind fun b => (F x b).bind k) := fun δ A e h => by
  obtain ⟨p, C, e1, ⟨r, B, o1, o2, _⟩, _⟩ := e.change hi
  rw [sSeq_eq, sDrop_eq, eMth_eq, eVar_eq e1, asObj_ref o1]
  refine ⟨o2.none (by rw [lookS_eq]; exact hn), ?_⟩
  rw [lookS_eq, ht]
  show aCons te aNil δ A _
  rw [aCons_eq]
  refine he.run e h (fun c fs => hw c fs δ A e) fun b hb => ?_
  obtain ⟨p', e1', _, q⟩ := io_call hw hi (hs b) hr e hb
  rw [e1] at e1'; cases e1'
  rw [aNil_eq]; exact q
theorem ss_io2 {F : σ → β → γ → R σ} {te tu : DE} {m : R β} {n : R γ} {rest : DS} {k : σ → R τ} (hw : WE A0 w X ss) (hi : ss[i]? = some (.own (.ob c pin (flds x)))) (hn : (flds x).lookup name = none) (ht : tb.lookup c = some sp) (hs : ∀ b d, IoP c flds x (F x b d) (fun p => [.ref p, enc b, enc d]) sp) (he : SE w A0 ss te m) (hu : SE w A0 ss tu n)
    (hr : ∀ x', SS A0 X D0 V (ss.set i (.own (.ob c pin (flds x')))) rest (k x')) : SS A0 X D0 V ss (sSeq (sDrop (eMth w name tb (eVar i) (aCons te (aCons tu aNil)))) rest) (m.bind fun b => n.bind fun d => (F x b d).bind k) := fun δ A e h => by
  obtain ⟨p, C, e1, ⟨r, B, o1, o2, _⟩, _⟩ := e.change hi
  rw [sSeq_eq, sDrop_eq, eMth_eq, eVar_eq e1, asObj_ref o1]
  refine ⟨o2.none (by rw [lookS_eq]; exact hn), ?_⟩
  rw [lookS_eq, ht]
  show aCons te (aCons tu aNil) δ A _
  rw [aCons_eq]
  refine he.run e h (fun c fs => hw c fs δ A e) fun b hb => ?_
  rw [aCons_eq]
  refine hu.run e hb (fun c fs => hw c fs δ A e) fun d hd => ?_
  obtain ⟨p', e1', _, q⟩ := io_call hw hi (hs b d) hr e hd
  rw [e1] at e1'; cases e1'
  rw [aNil_eq]; exact q
/-- an object made: what its __init__ promises, its arguments given -/
def MkP (c : String) (flds : σ → Flds) (F : R σ) (A0 : AH) (g : Addr → List D) (sp : DSp) : Prop := ∀ (A : AH) (p : Addr) (Q : DK) (E : DX), New A0 (.ob c (some p) []) p A →
  F.wp (fun x' => ∀ A', New A0 (.ob c (some p) (flds x')) p A' → Q .non A') (fun k gs => E k gs A0) → sp (g p) A Q E
theorem new_blank {A : AH} {p : Addr} (h : A p = none) : New A (.ob c (some p) []) p (A.put p (.obj c [])) :=
  ⟨[p], ⟨[], [], AH.put_same .., ⟨rfl, rfl⟩, fun h => (nomatch h), rfl, fun x e => by cases e; rfl⟩, fun a ha => by rw [List.mem_singleton.mp ha]; exact h, fun a ha => AH.put_ne A _ fun e => ha (List.mem_singleton.mpr e)⟩
theorem so_mk2 {F : α → β → R σ} {t u : DE} {m : R α} {n : R β} (hs : ∀ A x y a b, vw A x a → vw A y b → MkP c flds (F a b) A (fun p => [.ref p, x, y]) sp) (h : SV w A0 ss t m) (h2 : SV w A0 ss u n) :
    SO w A0 ss (eMk w c sp (aCons t (aCons u aNil))) (m.bind fun a => n.bind fun b => F a b) (fun x => .ob c none (flds x)) := fun δ A Q e hw => by
  rw [eMk_eq, aCons_eq]
  refine h.run e hw (fun _ _ => id) fun a d hd hw => ?_
  rw [aCons_eq]
  refine h2.run e hw (fun _ _ => id) fun b y hy hw => ?_
  rw [aNil_eq]
  intro p hp
  refine hs A d y a b hd hy _ p _ _ (new_blank hp) (R.wp_imp hw (fun x' hx' A' hn => ⟨rfl, hx' p A' (hn.repin fun _ e => by cases e)⟩) fun k gs hk => hk)
/-! ### how such a def ends -/
/-- it falls off its end -/
theorem io_fin {p : Addr} {Q : DK} {rt : DK} {j : Nat} {x' : σ} (hi : ss[j]? = some (.own (.ob c (some p) (flds x')))) : SS A0 X { nx := fun _ A => dropQ Q .non A, rt := rt } (fun x' : σ => ∀ A', New A0 (.ob c (some p) (flds x')) p A' → Q .non A') ss sNext (R.ok x') := fun δ A e h => by
  obtain ⟨A2, s, n⟩ := e.fin (t := .ob c (some p) (flds x')) hi
  exact ⟨A2, s, h A2 n⟩
/-- it raises before it changes anything -/
theorem we_io {p : Addr} {E : DX} {j : Nat} (hi : ss[j]? = some (.own (.ob c (some p) (flds x)))) : WE A0 (fun k gs _ A => dropE E k gs A) (fun k gs => ∀ A', New A0 (.ob c (some p) (flds x)) p A' → E k gs A') ss := fun k gs δ A e h => by
  obtain ⟨A2, s, n⟩ := e.fin (t := .ob c (some p) (flds x)) hi
  exact ⟨A2, s, h A2 n⟩
/-- an __init__ raises -/
theorem we_mk {E : DX} : WE A0 (fun k gs _ A => dropE E k gs A) (fun k gs => E k gs A0) ss := fun k gs δ A e h => ⟨A0, e.sub, h⟩
end
end TF

/-! TFA: parts, gaps, things; dict.get; the first item taken out. -/
namespace TF
open PySem PySem.Spec PyProof.Rows L2 DL FR
open Enc
structure PartV where
  name : Str
  start : Str
  fin : Str
  size : Rat
  most : Rat
  weight : Int
  deriving DecidableEq
structure GapV where
  name : Str
  one : Str
  other : Str
  low : Rat
  high : Rat
  deriving DecidableEq
instance : Enc PartV := { enc := fun t => .tup [enc t.name, enc t.start, enc t.fin, enc t.size, enc t.most, enc t.weight] }
instance : Enc GapV := { enc := fun t => .tup [enc t.name, enc t.one, enc t.other, enc t.low, enc t.high] }
instance : NR PartV := ⟨fun _ _ h => D.noConfusion h, fun h => h⟩
instance : NR GapV := ⟨fun _ _ h => D.noConfusion h, fun h => h⟩
instance : EqD PartV where
  good t := EqD.good t.name ∧ EqD.good t.start ∧ EqD.good t.fin
  dep := 3
  dt_enc t n h hn := dt_t (by omega) (by
    simp only [dts_cons, dts_nil, Bool.and_true, Bool.and_eq_true]
    exact ⟨EqD.dt_enc t.name _ h.1 (by show 0 ≤ _; omega), EqD.dt_enc t.start _ h.2.1 (by show 0 ≤ _; omega), EqD.dt_enc t.fin _ h.2.2 (by show 0 ≤ _; omega), EqD.dt_enc t.size _ trivial (by show 1 ≤ _; omega), EqD.dt_enc t.most _ trivial (by show 1 ≤ _; omega), EqD.dt_enc t.weight _ trivial (by show 0 ≤ _; omega)⟩)
  deq_enc a b h k := by
    show deq (.tup [enc a.name, enc a.start, enc a.fin, enc a.size, enc a.most, enc a.weight]) (.tup [enc b.name, enc b.start, enc b.fin, enc b.size, enc b.most, enc b.weight]) = _
    rw [deq_tup, deqs_cons, deqs_cons, deqs_cons, deqs_cons, deqs_cons, deqs_cons, deqs_nil, EqD.deq_enc _ _ h.1 k.1, EqD.deq_enc _ _ h.2.1 k.2.1, EqD.deq_enc _ _ h.2.2 k.2.2, EqD.deq_enc a.size b.size trivial trivial, EqD.deq_enc a.most b.most trivial trivial, EqD.deq_enc a.weight b.weight trivial trivial, Bool.and_true]
    cases a; cases b; simp
  vw_dt A d a n h q := vw_dtNR A d a n h q
  vw_deq A x y a b h k := vw_deqNR A x y a b h k
instance : EqD GapV where
  good t := EqD.good t.name ∧ EqD.good t.one ∧ EqD.good t.other
  dep := 3
  dt_enc t n h hn := dt_t (by omega) (by
    simp only [dts_cons, dts_nil, Bool.and_true, Bool.and_eq_true]
    exact ⟨EqD.dt_enc t.name _ h.1 (by show 0 ≤ _; omega), EqD.dt_enc t.one _ h.2.1 (by show 0 ≤ _; omega), EqD.dt_enc t.other _ h.2.2 (by show 0 ≤ _; omega), EqD.dt_enc t.low _ trivial (by show 1 ≤ _; omega), EqD.dt_enc t.high _ trivial (by show 1 ≤ _; omega)⟩)
  deq_enc a b h k := by
    show deq (.tup [enc a.name, enc a.one, enc a.other, enc a.low, enc a.high]) (.tup [enc b.name, enc b.one, enc b.other, enc b.low, enc b.high]) = _
    rw [deq_tup, deqs_cons, deqs_cons, deqs_cons, deqs_cons, deqs_cons, deqs_nil, EqD.deq_enc _ _ h.1 k.1, EqD.deq_enc _ _ h.2.1 k.2.1, EqD.deq_enc _ _ h.2.2 k.2.2, EqD.deq_enc a.low b.low trivial trivial, EqD.deq_enc a.high b.high trivial trivial, Bool.and_true]
    cases a; cases b; simp
  vw_dt A d a n h q := vw_dtNR A d a n h q
  vw_deq A x y a b h k := vw_deqNR A x y a b h k
section
variable {α κ τ : Type} [Enc α] [Enc κ] [KeyT κ] [KeyD κ] [DecidableEq κ] {w : DW} {A0 : AH} {ss : List Sl} {X : String → List (String × D) → Prop} {D0 : DEnds} {V : τ → Prop} {i j : Nat}
theorem tyM_dic {A : AH} {d : D} {kvs : List (Key × D)} (h : asDic A d = some kvs) : tyM A d "dict" := by
  cases d with
  | dic ks vs => exact rfl
  | ref a =>
    have h' : (match A a with | some (.dic kvs) => some kvs | _ => none) = some kvs := h
    show (match A a with | some (.lst _) => ("dict" : String) = "list" | some (.dic _) => ("dict" : String) = "dict" | _ => False)
    split at h'
    · rename_i q; rw [q]
    · cases h'
  | _ => exact nomatch h
theorem se_dget {t u : DE} {m : R (Dic κ α)} {n : R κ} (h : SV w A0 ss t m) (h2 : SE w A0 ss u n) : SE w A0 ss (eMt "dict" mGet t (aCons u aNil)) (R.b2 m n fun d k => .ok (d.get? k)) := fun δ A Q e hw => by
  rw [eMt_eq]
  refine h.run e hw (fun _ _ => id) fun l d hd hw => ?_
  have hd' : asDic A d = some (encKV l.l) := hd
  refine ⟨tyM_dic hd', ?_⟩
  rw [aCons_eq]
  refine h2.run e hw (fun _ _ => id) fun k hk => ?_
  rw [aNil_eq]
  show mGet d [enc k] A Q
  unfold mGet
  simp only [hd', KeyD.ok]
  rw [dget_enc]
  have : ((l.get? k).map (enc (α := α))).getD .non = enc (l.get? k) := by cases l.get? k <;> rfl
  rw [this]; exact hk
def popR (l : List α) (i : Int) : R (α × List α) := match l with
  | y :: l => if i = 0 then .ok (y, l) else .bad
  | [] => .bad
theorem ss_popIA {te : DE} {n : R Int} {rest : DS} {l : List α} {k : α × List α → R τ} (hw : WE A0 w X ss) (hi : ss[i]? = some (.own (oL l))) (he : SE w A0 ss te n) (hr : ∀ p : α × List α, SS A0 X D0 V ((ss.set i (.own (oL p.2))).set j (.val (enc p.1))) rest (k p)) :
    SS A0 X D0 V ss (sSeq (sAsg (eMt "list" mPopI (eVar i) (aCons te aNil)) (dgName j)) rest) (n.bind fun z => (popR l z).bind k) := fun δ A e h => by
  obtain ⟨p, h1, h2, _⟩ := e.get_own hi
  rw [sSeq_eq, sAsg_eq, eMt_eq, eVar_eq h1]
  refine ⟨by rw [tyM_ref h2], ?_⟩
  rw [aCons_eq]
  refine he.run e h (fun c fs => hw c fs δ A e) fun z hz => ?_
  rw [aNil_eq]
  cases l with
  | nil => exact hz.elim
  | cons y l =>
    unfold popR at hz
    simp only at hz
    split at hz
    · rename_i h0
      show mPopI (.ref p) [.int z] A _
      unfold mPopI
      have h2' : A p = some (.lst (enc y :: l.map enc)) := h2
      simp only [h2']
      refine ⟨h0, ?_⟩
      obtain ⟨p', q1, q2, q3⟩ := e.upd_own (o' := .lst (l.map enc)) hi
      rw [h1] at q1; cases q1
      exact hr (y, l) _ _ (q3.set_val j _) hz
    · exact hz.elim
theorem Env.junk {δ : DSt} {A : AH} {p : Addr} {o : AO} (h : Env A0 ss δ A) (hp : A p = none) : Env A0 ss δ (A.put p o) := by
  obtain ⟨s, B, r⟩ := h
  exact ⟨s.put (sub_none s hp), B, r.frame fun a ha => AH.put_ne A o fun z => (r.there a ha).1 (z ▸ hp)⟩
theorem so_dic0 : SO w A0 ss eDic0 (R.ok (⟨[]⟩ : Dic κ α)) oD := fun δ A Q e hw p hp => hw p _ (New.put hp)
theorem so_dic1 {t u : DE} {m : R κ} {n : R α} (h : SE w A0 ss t m) (h2 : SE w A0 ss u n) (hm : ∀ c gs, m ≠ .exc c gs) (hn : ∀ c gs, n ≠ .exc c gs) : SO w A0 ss (eDic1 t u) (R.b2 m n fun k a => .ok (⟨[(k, a)]⟩ : Dic κ α)) oD := fun δ A Q e hw p hp => by
  have e' := e.junk (o := .dic []) hp
  cases m with
  | bad => exact hw.elim
  | exc c gs => exact absurd rfl (hm c gs)
  | ok k => cases n with
    | bad => exact hw.elim
    | exc c gs => exact absurd rfl (hn c gs)
    | ok a =>
      refine h δ _ _ e' ?_
      refine h2 δ _ _ e' ?_
      refine ⟨AH.put_same .., ?_⟩
      rw [KeyD.ok]
      refine hw p _ ⟨[p], ⟨AH.put_same .., rfl⟩, fun a ha => by rw [List.mem_singleton.mp ha]; exact hp, fun a ha => ?_⟩
      have hne : a ≠ p := fun z => ha (List.mem_singleton.mpr z)
      rw [AH.put_ne _ _ hne, AH.put_ne _ _ hne]
end
/-! things asked for what they are -/
def nmOk (z : Str) : Prop := Few z.length ∧ PyData.strOk z = true
/-- three names ahead, so many in all, the ends two -/
def endsB (a b c : Str) (k : Nat) (n : Int) : Bool := decide (((k : Nat) : Int) + 3 = n) && (nameB a && (nameB b && (nameB c && !decide (b = c))))
open Classical in
noncomputable def F_has_ends (d : D) (n : Int) : R Bool := match d with
  | .tup (.str a :: .str b :: .str c :: r) => if nmOk a ∧ nmOk b ∧ nmOk c then .ok (endsB a b c r.length n) else .bad
  | _ => .bad
def F_is_fraction (d : D) : R Bool := if tyOk noHeap d = true then .ok (fracB d) else .bad
def F_is_whole (d : D) : R Bool := if (tyD noHeap d).isSome = true then .ok (isIntD d) else .bad
end TF

/-! TFB: objects of one's own frozen; things. -/
namespace TF
open PySem PySem.Spec PyProof.Rows L2 DL FR
open Enc
def frzF : String × (D ⊕ AO) → String × D
  | (f, .inl d) => (f, d)
  | (f, .inr o) => (f, (fzD o).getD .non)
def okF (fs : Flds) : Prop := ∀ f o, (f, Sum.inr o) ∈ fs → (fzD o).isSome = true
open Classical in
theorem OwnF.fz {fs : Flds} : ∀ {A : AH} {r : List (String × D)} {B : List Addr}, OwnF A fs r B → okF fs → ∃ A2, FzF A r (fs.map frzF) A2 ∧ ∀ a, A2 a = if a ∈ B then (Option.none : Option AO) else A a := by
  induction fs with
  | nil =>
    intro A r B h _
    obtain ⟨h1, h2⟩ := h
    subst h1 h2
    exact ⟨A, .nil, fun a => by simp⟩
  | cons x fs ih =>
    intro A r B h ok
    have ok' : okF fs := fun f o hm => ok f o (List.mem_cons_of_mem _ hm)
    obtain ⟨f, y⟩ := x
    cases y with
    | inl d =>
      obtain ⟨r', e, h⟩ := h
      subst e
      obtain ⟨A2, q1, q2⟩ := ih h ok'
      exact ⟨A2, .val q1, q2⟩
    | inr o =>
      obtain ⟨r', q, B', e1, e2, e3, e4, h⟩ := h
      subst e1 e4
      have h' : OwnF (A.del q) fs r' B' := h.frame fun a ha => AH.del_ne A fun z => e3 (z ▸ ha)
      obtain ⟨A2, q1, q2⟩ := ih h' ok'
      obtain ⟨d, hd⟩ := Option.isSome_iff_exists.mp (ok f o List.mem_cons_self)
      refine ⟨A2, ?_, fun a => ?_⟩
      · show FzF A ((f, .ref q) :: r') ((f, (fzD o).getD .non) :: fs.map frzF) A2
        rw [hd]
        exact .ref e2 hd q1
      · rw [q2]
        by_cases ha : a ∈ B'
        · rw [if_pos ha, if_pos (List.mem_cons_of_mem _ ha)]
        · rw [if_neg ha]
          by_cases hq : a = q
          · subst hq; rw [if_pos List.mem_cons_self, AH.del_same]
          · rw [if_neg fun hm => (List.mem_cons.mp hm).elim hq ha, AH.del_ne A hq]
section
variable {α σ : Type} [Enc α] [Enc σ] {w : DW} {A0 : AH} {ss : List Sl} {c f : String} {cs : List String} {flds : σ → Flds}
theorem se_fzD {t : DE} {m : R σ} (he : ∀ x : σ, enc x = D.obj c (((flds x).map frzF).map (·.1)) (((flds x).map frzF).map (·.2))) (ok : ∀ x, okF (flds x)) (h : SO w A0 ss t m (fun x => .ob c none (flds x))) : SE w A0 ss (eFzD t) m := fun δ A Q e hw => by
  refine h δ A _ e (R.wp_imp hw (fun x hx p A' hn => ?_) fun c fs h => h)
  obtain ⟨C, ⟨r, B, h1, h2, h3, h4, _⟩, n1, n2⟩ := hn.ex
  subst h4
  have h2' : OwnF (A'.del p) (flds x) r B := h2.frame fun a ha => AH.del_ne A' fun z => h3 (z ▸ ha)
  obtain ⟨A2, q1, q2⟩ := h2'.fz (ok x)
  have eA : A2 = A := by
    funext a
    rw [q2]
    by_cases ha : a ∈ B
    · rw [if_pos ha, n1 a (List.mem_cons_of_mem _ ha)]
    · rw [if_neg ha]
      by_cases hp : a = p
      · subst hp; rw [AH.del_same, n1 a List.mem_cons_self]
      · rw [AH.del_ne A' hp]
        exact n2 a fun hm => (List.mem_cons.mp hm).elim hp ha
  subst eA
  exact ⟨p, c, r, _, A2, rfl, h1, q1, by rw [← he x]; exact hx⟩
/-- a frozen object's field -/
theorem se_fldO {t : DE} {m : R σ} (g : σ → α) (hc : ∀ (x : σ) (A : AH), ∃ fs, asObj A (enc x) = some (c, fs) ∧ lookS f fs = some (enc (g x))) (hcs : c ∈ cs) (h : SE w A0 ss t m) : SE w A0 ss (eFld cs f t) (m.map g) := fun δ A Q e hw => by
  rw [eFld_eq]
  refine h.run (k := fun x => .ok (g x)) e (by cases m <;> exact hw) (fun _ _ => id) fun x hx => ?_
  obtain ⟨fs, e1, e2⟩ := hc x A
  rw [e1]
  exact ⟨hcs, by rw [e2]; exact hx⟩
end
/-! ### things -/
structure ThingV where
  parts : List PartV
  gaps : List GapV
  sizes : Dic Str Rat
  ways : Dic Str (List (Str × Bool))
abbrev fThing (t : ThingV) : Flds := [("kept_parts", .inr (.lst (t.parts.map enc))), ("kept_gaps", .inr (.lst (t.gaps.map enc))), ("sizes", .inr (.dic (encKV t.sizes.l))), ("kept_ways", .inr (.dic (encKV t.ways.l)))]
instance : Enc ThingV := { enc := fun t => .obj "Thing" (((fThing t).map frzF).map (·.1)) (((fThing t).map frzF).map (·.2)) }
theorem okF_thing (t : ThingV) : okF (fThing t) := fun f o h => by
  simp only [List.mem_cons, List.not_mem_nil, or_false, Prod.mk.injEq, Sum.inr.injEq] at h
  rcases h with ⟨_, rfl⟩ | ⟨_, rfl⟩ | ⟨_, rfl⟩ | ⟨_, rfl⟩ <;> rfl
theorem thing_parts (x : ThingV) (A : AH) : ∃ fs, asObj A (enc x) = some ("Thing", fs) ∧ lookS "kept_parts" fs = some (enc x.parts) := ⟨_, rfl, by rw [lookS_eq]; rfl⟩
theorem thing_gaps (x : ThingV) (A : AH) : ∃ fs, asObj A (enc x) = some ("Thing", fs) ∧ lookS "kept_gaps" fs = some (enc x.gaps) := ⟨_, rfl, by rw [lookS_eq]; rfl⟩
theorem thing_sizes (x : ThingV) (A : AH) : ∃ fs, asObj A (enc x) = some ("Thing", fs) ∧ lookS "sizes" fs = some (enc x.sizes) := ⟨_, rfl, by rw [lookS_eq]; rfl⟩
theorem thing_ways (x : ThingV) (A : AH) : ∃ fs, asObj A (enc x) = some ("Thing", fs) ∧ lookS "kept_ways" fs = some (enc x.ways) := ⟨_, rfl, by rw [lookS_eq]; rfl⟩
section
variable {w : DW} {A0 : AH} {ss : List Sl} {cs : List String} {t : DE} {m : R ThingV}
theorem fld_parts (h : SE w A0 ss t m) (hc : "Thing" ∈ cs := by decide) : SE w A0 ss (eFld cs "kept_parts" t) (m.map ThingV.parts) := se_fldO ThingV.parts thing_parts hc h
theorem fld_gaps (h : SE w A0 ss t m) (hc : "Thing" ∈ cs := by decide) : SE w A0 ss (eFld cs "kept_gaps" t) (m.map ThingV.gaps) := se_fldO ThingV.gaps thing_gaps hc h
theorem fld_sizes (h : SE w A0 ss t m) (hc : "Thing" ∈ cs := by decide) : SE w A0 ss (eFld cs "sizes" t) (m.map ThingV.sizes) := se_fldO ThingV.sizes thing_sizes hc h
theorem fld_ways (h : SE w A0 ss t m) (hc : "Thing" ∈ cs := by decide) : SE w A0 ss (eFld cs "kept_ways" t) (m.map ThingV.ways) := se_fldO ThingV.ways thing_ways hc h
end
end TF

/-! TFC: ranges with a step, enumerate, zip, reversed; insert; sum, any, sorted; d.get(k, x). -/
namespace TF
open PySem PySem.Spec PyProof.Rows L2 DL FR
open Enc KeyT
section
variable {α β γ κ τ : Type} [Enc α] [Enc β] [Enc γ] [KeyT κ] {w : DW} {A0 A : AH} {ss : List Sl} {X : String → List (String × D) → Prop} {D0 : DEnds} {V : τ → Prop} {i j : Nat}
def rngC (lo c : Int) (n : Nat) : List Int := (List.range n).map fun i => lo + (i : Nat) * c
theorem rngC_map (lo c : Int) (n : Nat) : rngCD lo c n = (rngC lo c n).map enc := by unfold rngCD rngC; rw [List.map_map]; rfl
def rng3 (i j c : Int) : R (List Int) := if i.natAbs < 1000000000 ∧ j.natAbs < 1000000000 ∧ 0 < c ∧ c < 1000000 then .ok (rngC i c (cntC i j c)) else .bad
theorem sif_rng3 {t u v : DE} {m n o : R Int} (h : SE w A0 ss t m) (h2 : SE w A0 ss u n) (h3 : SE w A0 ss v o) : SIF w A0 ss (iRng3D (aCons t (aCons u (aCons v aNil)))) (m.bind fun i => n.bind fun j => o.bind fun k => rng3 i j k) enc := fun δ A K e hw => by
  show aCons t (aCons u (aCons v aNil)) δ A _
  rw [aCons_eq]
  refine h.run e hw (fun _ _ => id) fun i hw => ?_
  rw [aCons_eq]
  refine h2.run e hw (fun _ _ => id) fun j hw => ?_
  rw [aCons_eq]
  refine h3.run e hw (fun _ _ => id) fun k hw => ?_
  unfold rng3 at hw
  split at hw
  · rename_i hn
    refine ⟨hn, ?_⟩
    rw [rngC_map]; exact hw _ fun _ _ => trivial
  · exact hw.elim
def revR1 (n : Int) : R (List Int) := if n.natAbs < 2 ^ 62 then .ok (rngC ((n.toNat : Int) - 1) (-1) n.toNat) else .bad
theorem sif_revR1 {t : DE} {m : R Int} (h : SE w A0 ss t m) : SIF w A0 ss (iRevR1 t) (m.bind revR1) enc := fun δ A K e hw => by
  refine h.run (Q := fun d A1 => (match d with | .int n => Small n ∧ K (rngCD ((n.toNat : Int) - 1) (-1) n.toNat) (fun _ => True) A1 | _ => False)) e hw (fun _ _ => id) fun i hw => ?_
  unfold revR1 at hw
  split at hw
  · rename_i hn
    refine ⟨hn, ?_⟩
    rw [rngC_map]; exact hw _ fun _ _ => trivial
  · exact hw.elim
/-! what may be read as it stood at first -/
def SW (w : DW) (A0 : AH) (ss : List Sl) (t : DE) (m : R α) : Prop := ∀ (δ : DSt) (A : AH) (Q : DK), Env A0 ss δ A → m.wp (fun a => ∀ d, vw A0 d a → Q d A) (fun c fs => w c fs δ A) → t δ A Q
theorem SW.run {t : DE} {m : R α} {τ : Type} {k : α → R τ} {V : τ → Prop} {X} {δ : DSt} {A : AH} {Q : DK} (h : SW w A0 ss t m) (e : Env A0 ss δ A) (hw : (m.bind k).wp V X) (hx : ∀ c fs, X c fs → w c fs δ A) (hk : ∀ a d, vw A0 d a → (k a).wp V X → Q d A) : t δ A Q :=
  h δ A Q e (by rw [R.wp_bind] at hw; exact R.wp_imp hw (fun a ha d hd => hk a d hd ha) hx)
theorem sw_of {t : DE} {m : R α} (h : SE w A0 ss t m) : SW w A0 ss t m := fun δ A Q e hw => h δ A Q e (R.wp_imp hw (fun a ha => ha _ (vw_enc A0 a)) fun _ _ h => h)
theorem sw_var {d : D} {a : α} (h : ss[i]? = some (.val d)) (v : vw A0 d a) : SW w A0 ss (eVar i) (.ok a) := fun δ A Q e hw => by
  rw [eVar_eq (e.get_val h)]; exact hw d v
def enumL (l : List α) : List (Int × α) := l.zipIdx.map fun p => (((p.2 : Nat) : Int), p.1)
theorem enumD_enc (l : List α) : enumD (l.map enc) = (enumL l).map enc := by
  unfold enumD enumL
  rw [List.map_map, List.zipIdx_map, List.map_map]
  rfl
theorem zipD_enc (l : List α) (m : List β) : zipD (l.map enc) (m.map enc) = (l.zip m).map enc := by
  unfold zipD
  rw [List.zip_map, List.map_map]
  rfl
theorem sif_enum {t : DE} {m : R (List α)} (h : SW w A0 ss t m) : SIF w A0 ss (iEnumD (aCons t aNil)) (m.bind fun l => .ok (enumL l)) enc := fun δ A K e hw => by
  show aCons t aNil δ A _
  rw [aCons_eq]
  refine h.run e hw (fun _ _ => id) fun l d hd hw => ?_
  rw [aNil_eq]
  have v : asL A d = some (l.map enc) := vw_mono e.sub hd
  show (match asL A d with | some l => K (enumD l) (fun A' => asL A' d = some l) A | none => False)
  rw [v]
  show K (enumD (l.map enc)) _ A
  rw [enumD_enc]
  exact hw _ fun A' s => (vw_mono s hd : asL A' d = some (l.map enc))
theorem sif_zip {t u : DE} {m : R (List α)} {n : R (List β)} (h : SW w A0 ss t m) (h2 : SW w A0 ss u n) : SIF w A0 ss (iZipD (aCons t (aCons u aNil))) (m.bind fun l => n.bind fun k => .ok (l.zip k)) enc := fun δ A K e hw => by
  show aCons t (aCons u aNil) δ A _
  rw [aCons_eq]
  refine h.run e hw (fun _ _ => id) fun l d hd hw => ?_
  rw [aCons_eq]
  refine h2.run e hw (fun _ _ => id) fun k d2 hd2 hw => ?_
  rw [aNil_eq]
  have v : asL A d = some (l.map enc) := vw_mono e.sub hd
  have v2 : asL A d2 = some (k.map enc) := vw_mono e.sub hd2
  show (match asL A d, asL A d2 with | some l, some m => K (zipD l m) (fun A' => asL A' d = some l ∧ asL A' d2 = some m) A | _, _ => False)
  rw [v, v2]
  show K (zipD (l.map enc) (k.map enc)) _ A
  rw [zipD_enc]
  exact hw _ fun A' s => ⟨(vw_mono s hd : asL A' d = some (l.map enc)), (vw_mono s hd2 : asL A' d2 = some (k.map enc))⟩
theorem sif_rev {t : DE} {m : R (List α)} (h : SW w A0 ss t m) : SIF w A0 ss (iRevD (aCons t aNil)) (m.bind fun l => .ok l.reverse) enc := fun δ A K e hw => by
  show aCons t aNil δ A _
  rw [aCons_eq]
  refine h.run e hw (fun _ _ => id) fun l d hd hw => ?_
  rw [aNil_eq]
  have v : asL A d = some (l.map enc) := vw_mono e.sub hd
  show (match asL A d with | some l => K l.reverse (fun A' => asL A' d = some l) A | none => False)
  rw [v]
  show K (l.map enc).reverse _ A
  rw [← List.map_reverse]
  exact hw _ fun A' s => (vw_mono s hd : asL A' d = some (l.map enc))
/-! in comprehensions: what may be read now -/
theorem sic_enum {t : DE} {m : R (List α)} (h : SV w A0 ss t m) : SIC w A0 ss (iEnumD (aCons t aNil)) (m.bind fun l => .ok (enumL l)) enc := fun δ A K e hw => by
  show aCons t aNil δ A _
  rw [aCons_eq]
  refine h.run e hw (fun _ _ => id) fun l d hd hw => ?_
  rw [aNil_eq]
  have v : asL A d = some (l.map enc) := hd
  show (match asL A d with | some l => K (enumD l) (fun A' => asL A' d = some l) A | none => False)
  rw [v]
  show K (enumD (l.map enc)) _ A
  rw [enumD_enc]
  exact hw _ fun A' s => (vw_mono s hd : asL A' d = some (l.map enc))
theorem sic_zip {t u : DE} {m : R (List α)} {n : R (List β)} (h : SV w A0 ss t m) (h2 : SV w A0 ss u n) : SIC w A0 ss (iZipD (aCons t (aCons u aNil))) (m.bind fun l => n.bind fun k => .ok (l.zip k)) enc := fun δ A K e hw => by
  show aCons t (aCons u aNil) δ A _
  rw [aCons_eq]
  refine h.run e hw (fun _ _ => id) fun l d hd hw => ?_
  rw [aCons_eq]
  refine h2.run e hw (fun _ _ => id) fun k d2 hd2 hw => ?_
  rw [aNil_eq]
  have v : asL A d = some (l.map enc) := hd
  have v2 : asL A d2 = some (k.map enc) := hd2
  show (match asL A d, asL A d2 with | some l, some m => K (zipD l m) (fun A' => asL A' d = some l ∧ asL A' d2 = some m) A | _, _ => False)
  rw [v, v2]
  show K (zipD (l.map enc) (k.map enc)) _ A
  rw [zipD_enc]
  exact hw _ fun A' s => ⟨(vw_mono s hd : asL A' d = some (l.map enc)), (vw_mono s hd2 : asL A' d2 = some (k.map enc))⟩
/-! ### l.insert(i, x) -/
def insR (l : List α) (i : Int) (a : α) : R (List α) := if l.length < 1000000 ∧ 0 ≤ i ∧ i < 2 ^ 63 then .ok (l.take i.toNat ++ [a] ++ l.drop i.toNat) else .bad
theorem ss_ins {te tu : DE} {rest : DS} {m : R Int} {n : R α} {l : List α} {k : List α → R τ} (hw : WE A0 w X ss) (hi : ss[i]? = some (.own (oL l))) (he : SE w A0 ss te m) (hu : SE w A0 ss tu n) (hr : ∀ l', SS A0 X D0 V (ss.set i (.own (oL l'))) rest (k l')) :
    SS A0 X D0 V ss (sSeq (sDrop (eMt "list" mIns (eVar i) (aCons te (aCons tu aNil)))) rest) (m.bind fun z => n.bind fun a => (insR l z a).bind k) := fun δ A e h => by
  obtain ⟨p, h1, h2, _⟩ := e.get_own hi
  rw [sSeq_eq, sDrop_eq, eMt_eq, eVar_eq h1]
  refine ⟨by rw [tyM_ref h2], ?_⟩
  rw [aCons_eq]
  refine he.run e h (fun c fs => hw c fs δ A e) fun z hz => ?_
  rw [aCons_eq]
  refine hu.run e hz (fun c fs => hw c fs δ A e) fun a ha => ?_
  rw [aNil_eq]
  unfold insR at ha
  split at ha
  · rename_i hc
    show mIns (.ref p) [.int z, enc a] A _
    unfold mIns
    have h2' : A p = some (.lst (l.map enc)) := h2
    simp only [h2']
    refine ⟨⟨by simpa using hc.1, hc.2⟩, ?_⟩
    obtain ⟨p', q1, q2, q3⟩ := e.upd_own (o' := .lst ((l.take z.toNat ++ [a] ++ l.drop z.toNat).map enc)) hi
    rw [h1] at q1; cases q1
    have := hr _ _ _ q3 ha
    rw [List.map_append, List.map_append, List.map_take, List.map_drop] at this
    exact this
  · exact ha.elim
/-! ### sum, any, sorted -/
theorem intsD_enc : ∀ l : List Int, intsD (l.map enc) = some l
  | [] => rfl
  | x :: l => by
    show (intsD (l.map enc)).map (x :: ·) = _
    rw [intsD_enc l]; rfl
theorem blsD_enc : ∀ l : List Bool, blsD (l.map enc) = some l
  | [] => rfl
  | x :: l => by
    show (blsD (l.map enc)).map (x :: ·) = _
    rw [blsD_enc l]; rfl
theorem strsD_enc : ∀ l : List Str, strsD (l.map enc) = some l
  | [] => rfl
  | x :: l => by
    show (strsD (l.map enc)).map (x :: ·) = _
    rw [strsD_enc l]; rfl
def sumR (l : List Int) : R Int := .ok l.sum
def anyR (l : List Bool) : R Bool := .ok (l.any id)
theorem cb_sum : CbV bSum sumR := fun A d a Q X hd hw => by
  have h : asL A d = some (a.map enc) := hd
  show (match (asL A d).bind intsD with | some ns => Q (.int ns.sum) A | none => False)
  rw [h]
  show (match intsD (a.map enc) with | some ns => Q (.int ns.sum) A | none => False)
  rw [intsD_enc]; exact hw
theorem cb_any : CbV bAny anyR := fun A d a Q X hd hw => by
  have h : asL A d = some (a.map enc) := hd
  show (match (asL A d).bind blsD with | some ns => Q (.bl (ns.any id)) A | none => False)
  rw [h]
  show (match blsD (a.map enc) with | some ns => Q (.bl (ns.any id)) A | none => False)
  rw [blsD_enc]; exact hw
/-- texts in order -/
def leS (a b : Str) : Bool := !decide (b.cps.toList < a.cps.toList)
def sortS (l : List Str) : List Str := l.mergeSort leS
theorem str_ext {a b : Str} (h : a.cps.toList = b.cps.toList) : a = b := by
  cases a; cases b; congr 1; exact Array.toList_inj.mp h
theorem leS_total (a b : Str) : leS a b || leS b a := by
  unfold leS
  by_cases h : b.cps.toList < a.cps.toList
  · have : ¬ a.cps.toList < b.cps.toList := List.lt_asymm h
    simp [this]
  · simp [h]
theorem leS_trans (a b c : Str) (h1 : leS a b = true) (h2 : leS b c = true) : leS a c = true := by
  unfold leS at *
  simp only [Bool.not_eq_true', decide_eq_false_iff_not] at *
  exact List.le_trans h1 h2
theorem leS_anti (a b : Str) (h1 : leS a b = true) (h2 : leS b a = true) : a = b := by
  unfold leS at *
  simp only [Bool.not_eq_true', decide_eq_false_iff_not] at *
  exact str_ext (List.le_antisymm h1 h2)
theorem rising_pw : ∀ (l : List Str) (p : Str), risingS p l = true → (p :: l).Pairwise (fun a b => leS a b = true)
  | [], p, _ => List.pairwise_singleton _ _
  | x :: l, p, h => by
    unfold risingS at h
    rw [Bool.and_eq_true] at h
    have ih := rising_pw l x h.2
    have hpx : leS p x = true := by
      unfold leS
      have := h.1
      rw [ltCps_eq] at this
      exact this
    refine List.pairwise_cons.mpr ⟨fun y hy => ?_, ih⟩
    rcases List.mem_cons.mp hy with rfl | hy
    · exact hpx
    · exact leS_trans _ _ _ hpx ((List.pairwise_cons.mp ih).1 y hy)
theorem sortedS_pw {l : List Str} (h : sortedS l = true) : l.Pairwise (fun a b => leS a b = true) := by
  cases l with
  | nil => exact .nil
  | cons x l => exact rising_pw l x h
theorem sortS_perm (l : List Str) : (sortS l).Perm l := List.mergeSort_perm ..
theorem sortS_pw (l : List Str) : (sortS l).Pairwise (fun a b => leS a b = true) := List.pairwise_mergeSort leS_trans leS_total l
theorem sorted_unique {l m : List Str} (hp : l.Perm m) (h1 : l.Pairwise (fun a b => leS a b = true)) (h2 : m.Pairwise (fun a b => leS a b = true)) : l = m :=
  List.Perm.eq_of_pairwise (fun a b _ _ => leS_anti a b) h1 h2 hp
theorem sortS_eq {xs ys : List Str} (hp : ys.Perm xs) (hs : sortedS ys = true) : ys = sortS xs := sorted_unique (hp.trans (sortS_perm xs).symm) (sortedS_pw hs) (sortS_pw xs)
def sortedR (l : List Str) : R (List Str) := if l.length < 64 then .ok (sortS l) else .bad
theorem map_str (l : List Str) : l.map D.str = l.map enc := rfl
theorem cb_sorted : CbV (bSorted mkF) sortedR := fun A d a Q X hd hw => by
  have h : asL A d = some (a.map enc) := hd
  have hb : (asL A d).bind strsD = some a := by rw [h]; exact strsD_enc a
  unfold bSorted
  simp only [hb]
  unfold sortedR at hw
  split at hw
  · rename_i hl
    exact ⟨hl, fun ys hp hs => by rw [sortS_eq hp hs]; exact hw⟩
  · exact hw.elim
theorem cb_sortedO : CbO (bSorted mkO) sortedR oL := fun A d a Q X hd hw => by
  have h : asL A d = some (a.map enc) := hd
  have hb : (asL A d).bind strsD = some a := by rw [h]; exact strsD_enc a
  unfold bSorted
  simp only [hb]
  unfold sortedR at hw
  split at hw
  · rename_i hl
    exact ⟨hl, fun ys hp hs p hq => by rw [sortS_eq hp hs]; exact hw p _ (New.put hq)⟩
  · exact hw.elim
def sortedDR {β : Type} (d : Dic Str β) : R (List Str) := if d.l.length < 64 then .ok (sortS (d.l.map (·.1))) else .bad
theorem keysD_enc {β : Type} [Enc β] (d : Dic Str β) : keysD ((encKV d.l).map (·.1)) = some (d.l.map (·.1)) := by
  unfold encKV
  rw [List.map_map]
  induction d.l with
  | nil => rfl
  | cons x l ih =>
    show (keysD (l.map _)).map (x.1 :: ·) = _
    rw [ih]; rfl
theorem dic_not_lst {A : AH} {d : D} {kvs : List (Key × D)} (h : asDic A d = some kvs) : asL A d = none := by
  cases d with
  | ref x =>
    have h' : (match A x with | some (.dic l) => some l | _ => none) = some kvs := h
    show (match A x with | some (.lst l) => some l | _ => none) = none
    split at h'
    · rename_i q; rw [q]
    · cases h'
  | dic _ _ => rfl
  | _ => cases h
theorem cb_sortedD : CbV (α := Dic Str β) (bSorted mkF) sortedDR := fun A d a Q X hd hw => by
  have h : asDic A d = some (encKV a.l) := hd
  have hb : (asL A d).bind strsD = none := by rw [dic_not_lst h]; rfl
  have hk : (asDic A d).bind (fun kvs => keysD (kvs.map (·.1))) = some (a.l.map (·.1)) := by rw [h]; exact keysD_enc a
  unfold bSorted
  simp only [hb, hk]
  unfold sortedDR at hw
  split at hw
  · rename_i hl
    exact ⟨by simpa using hl, fun ys hp hs => by rw [sortS_eq hp hs]; exact hw⟩
  · exact hw.elim
theorem cb_sortedDO : CbO (α := Dic Str β) (bSorted mkO) sortedDR oL := fun A d a Q X hd hw => by
  have h : asDic A d = some (encKV a.l) := hd
  have hb : (asL A d).bind strsD = none := by rw [dic_not_lst h]; rfl
  have hk : (asDic A d).bind (fun kvs => keysD (kvs.map (·.1))) = some (a.l.map (·.1)) := by rw [h]; exact keysD_enc a
  unfold bSorted
  simp only [hb, hk]
  unfold sortedDR at hw
  split at hw
  · rename_i hl
    exact ⟨by simpa using hl, fun ys hp hs p hq => by rw [sortS_eq hp hs]; exact hw p _ (New.put hq)⟩
  · exact hw.elim
/-! ### d.get(k, x) -/
theorem se_dget2 [Enc κ] [KeyD κ] [DecidableEq κ] {t u v : DE} {m : R (Dic κ α)} {n : R κ} {o : R α} (h : SV w A0 ss t m) (h2 : SE w A0 ss u n) (h3 : SE w A0 ss v o) : SE w A0 ss (eMt "dict" mGet t (aCons u (aCons v aNil))) (m.bind fun d => n.bind fun k => o.bind fun x => .ok ((d.get? k).getD x)) := fun δ A Q e hw => by
  rw [eMt_eq]
  refine h.run e hw (fun _ _ => id) fun l d hd hw => ?_
  have hd' : asDic A d = some (encKV l.l) := hd
  refine ⟨tyM_dic hd', ?_⟩
  rw [aCons_eq]
  refine h2.run e hw (fun _ _ => id) fun k hk => ?_
  rw [aCons_eq]
  refine h3.run e hk (fun _ _ => id) fun x hx => ?_
  rw [aNil_eq]
  show mGet d [enc k, enc x] A Q
  unfold mGet
  simp only [hd', KeyD.ok]
  rw [dget_enc]
  have : ((l.get? k).map (enc (α := α))).getD (enc x) = enc ((l.get? k).getD x) := by cases l.get? k <;> rfl
  rw [this]; exact hx
end
end TF
namespace TF
open PySem PySem.Spec PyProof.Rows L2 DL FR
open Enc KeyT
section
variable {α β : Type} [Enc α] [Enc β] {w : DW} {A0 : AH} {ss : List Sl}
def optR {α β : Type} (o : Option α) (k : α → R β) : R β := match o with
  | none => .bad
  | some a => k a
@[simp] theorem optR_some {α β : Type} {a : α} {k : α → R β} : optR (some a) k = k a := rfl
/-- the items of a tuple of one kind -/
theorem sif_tup {t : DE} {m : R α} (f : α → List β) (hf : ∀ x : α, enc x = D.tup ((f x).map enc)) (h : SE w A0 ss t m) : SIF w A0 ss (iSeq t) (m.map f) enc := fun δ A K e hw => by
  rw [iSeq_eq]
  refine h.run (k := fun x => .ok (f x)) e (by cases m <;> exact hw) (fun _ _ => id) fun x hx => ?_
  rw [hf x]
  exact hx _ fun _ _ => trivial
end
end TF
namespace TF
open PySem PySem.Spec PyProof.Rows L2 DL FR
open Enc KeyT
section
variable {α β γ σ : Type} [Enc α] [Enc β] [Enc γ] {w : DW} {A0 : AH} {ss : List Sl}
theorem so_meth1 {name : String} {tb : List (String × DSp)} {F : α → β → R σ} {oo : σ → OT} {o t : DE} {m : R α} {n : R β} (hs : ∀ A x y a b (Q : DK) E, vw A x a → vw A y b → (F a b).wp (fun r => ∀ p A', New A (oo r) p A' → Q (.ref p) A') (fun c fs => E c fs A) → MethOk tb name x A [y] Q E)
    (hsh : ∀ (A : AH) (x : D) (a : α), vw A x a → ∃ c fs, asObj A x = some (c, fs) ∧ lookS name fs = none ∧ ∃ sp, lookS c tb = some sp) (h : SV w A0 ss o m) (h2 : SV w A0 ss t n) : SO w A0 ss (eMth w name tb o (aCons t aNil)) (m.bind fun a => n.bind fun b => F a b) oo := fun δ A Q e hw => by
  rw [eMth_eq]
  refine h.run e hw (fun _ _ => id) fun a d hd hw => ?_
  obtain ⟨c, fs, e1, e2, sp, e3⟩ := hsh A d a hd
  simp only [e1, e3]
  refine ⟨e2, ?_⟩
  rw [aCons_eq]
  refine h2.run e hw (fun _ _ => id) fun b y hy hw => ?_
  rw [aNil_eq]
  have := hs A d y a b Q (fun c fs A => w c fs δ A) hd hy hw
  unfold MethOk at this
  simp only [e1, e3] at this
  exact this.2
end
end TF
namespace TF
open PySem PySem.Spec PyProof.Rows L2 DL FR
open Enc KeyT
section
variable {α : Type} [Enc α] [DecidableEq α] [EqD α]
omit [DecidableEq α] [EqD α] in
instance : NR (Option (List α)) := ⟨fun a p h => by
  cases a with
  | none => exact D.noConfusion h
  | some a => exact D.noConfusion h, fun h => h⟩
instance : EqD (Option (List α)) where
  good o := ∀ a, o = some a → EqD.good a
  dep := EqD.dep (List α)
  dt_enc a n h hn := by
    cases a with
    | none => exact dt_non
    | some a => exact EqD.dt_enc a n (h a rfl) hn
  deq_enc a b h k := by
    cases a with
    | none => cases b with
      | none => simp [enc_none, deq]
      | some b => rw [enc_none, enc_somE, (deq_non (NN.nn b)).1]; simp
    | some a => cases b with
      | none => rw [enc_none, enc_somE, (deq_non (NN.nn a)).2]; simp
      | some b => rw [enc_somE, enc_somE, EqD.deq_enc a b (h a rfl) (k b rfl)]; simp
  vw_dt A d a n h q := vw_dtNR A d a n h q
  vw_deq A x y a b h k := vw_deqNR A x y a b h k
end
end TF

namespace TF
open PySem PySem.Spec PyProof.Rows L2 DL FR
open TF.Enc
noncomputable def F_is_part (v_thing : PartV) : R Bool :=
  R.cond (orB (((((((R.ok v_thing)).map enc)).bind fun c_3 => ((R.ok (6 : Int))).bind fun c_4 => F_has_ends c_3 c_4)).map (!·)) (orB (((((((((R.ok v_thing)).map (fun t : PartV => t.size))).map enc)).bind fun c_2 => F_is_fraction c_2)).map (!·)) (((((((((R.ok v_thing)).map (fun t : PartV => t.most))).map enc)).bind fun c_1 => F_is_fraction c_1)).map (!·))))
  ((R.ok false))
  ((andB (R.b2 (((((R.ok v_thing)).map (fun t : PartV => t.most))).map fun q : Rat => q.num) (R.ok (0 : Int)) fun i j => .ok (decide (j ≤ i))) (andB (((((((R.ok v_thing)).map (fun t : PartV => t.weight))).map enc)).bind fun c_5 => F_is_whole c_5) (R.b2 (((R.ok v_thing)).map (fun t : PartV => t.weight)) (R.ok (0 : Int)) fun i j => .ok (decide (j < i))))))
noncomputable def F_is_gap (v_thing : GapV) : R Bool :=
  R.cond (orB (((((((R.ok v_thing)).map enc)).bind fun c_3 => ((R.ok (5 : Int))).bind fun c_4 => F_has_ends c_3 c_4)).map (!·)) (orB (((((((((R.ok v_thing)).map (fun t : GapV => t.low))).map enc)).bind fun c_2 => F_is_fraction c_2)).map (!·)) (((((((((R.ok v_thing)).map (fun t : GapV => t.high))).map enc)).bind fun c_1 => F_is_fraction c_1)).map (!·))))
  ((R.ok false))
  ((((((((R.ok v_thing)).map (fun t : GapV => t.high))).bind fun c_5 => ((((R.ok v_thing)).map (fun t : GapV => t.low))).bind fun c_6 => F_under c_5 c_6)).map (!·)))
noncomputable def F_way_between (v_parts : (List PartV)) (v_one : Str) (v_other : Str) : R (Option (List (Str × Bool))) :=
  ((R.b2 (R.ok v_one) ((R.ok ([] : List (Str × Bool))).bind few) fun k a => .ok (⟨[(k, a)]⟩ : (Dic Str (List (Str × Bool)))))).bind fun (ways_1 : (Dic Str (List (Str × Bool)))) =>
  (((((R.ok v_one)).bind fun t_2 => (R.ok ([] : List Str)).bind fun t_3 => R.ok (t_2 :: t_3)).bind few)).bind fun (queue_4 : (List Str)) =>
  R.flow (whileR (fun (st_5 : (Dic Str (List (Str × Bool))) × (List Str)) => (R.b2 (((R.ok st_5.2)).bind fun l => .ok (l.length : Int)) (R.ok (0 : Int)) fun i j => .ok (decide (j < i)))) (fun (st_5 : (Dic Str (List (Str × Bool))) × (List Str)) =>
  (((R.ok (0 : Int))).bind fun k_177 => (popR st_5.2 k_177).bind fun (p_178 : Str × (List Str)) =>
  ((R.ok v_parts)).bind fun l_340 => (foldR l_340 ((st_5.1, p_178.2) : (Dic Str (List (Str × Bool))) × (List Str)) (fun (x_179 : PartV) (st_180 : (Dic Str (List (Str × Bool))) × (List Str)) =>
  R.cond (andB (R.b2 (R.ok x_179.start) (R.ok p_178.1) (eqR false)) (R.b2 (R.ok x_179.fin) (R.ok st_180.1) fun k d => .ok (!(d.get? k).isSome)))
  (((R.b2 (R.b2 (R.ok st_180.1) (R.ok p_178.1) getR) ((((((R.ok x_179.name)).bind fun t_304 => ((R.ok true)).bind fun t_305 => R.ok (t_304, t_305))).bind fun t_306 => (R.ok ([] : List (Str × Bool))).bind fun t_307 => R.ok (t_306 :: t_307)).bind few) fun a b => few (a ++ b))).bind fun a_310 => ((R.ok x_179.fin)).bind fun k_311 => (fewD st_180.1).bind fun _ => (R.ok (st_180.1.put k_311 a_310)).bind fun (ways_301 : (Dic Str (List (Str × Bool)))) =>
  ((R.ok x_179.fin)).bind fun a_313 => (few st_180.2).bind fun _ => (R.ok (st_180.2 ++ [a_313])).bind fun (queue_312 : (List Str)) =>
  .ok (ways_301, queue_312))
  (R.cond (andB (R.b2 (R.ok x_179.fin) (R.ok p_178.1) (eqR false)) (R.b2 (R.ok x_179.start) (R.ok st_180.1) fun k d => .ok (!(d.get? k).isSome)))
  (((R.b2 (R.b2 (R.ok st_180.1) (R.ok p_178.1) getR) ((((((R.ok x_179.name)).bind fun t_330 => ((R.ok false)).bind fun t_331 => R.ok (t_330, t_331))).bind fun t_332 => (R.ok ([] : List (Str × Bool))).bind fun t_333 => R.ok (t_332 :: t_333)).bind few) fun a b => few (a ++ b))).bind fun a_336 => ((R.ok x_179.start)).bind fun k_337 => (fewD st_180.1).bind fun _ => (R.ok (st_180.1.put k_337 a_336)).bind fun (ways_327 : (Dic Str (List (Str × Bool)))) =>
  ((R.ok x_179.start)).bind fun a_339 => (few st_180.2).bind fun _ => (R.ok (st_180.2 ++ [a_339])).bind fun (queue_338 : (List Str)) =>
  .ok (ways_327, queue_338))
  (.ok (st_180.1, st_180.2))))).bind fun (st_180 : (Dic Str (List (Str × Bool))) × (List Str)) =>
  .ok (.nx (st_180.1, st_180.2)) : R (Fl ((Dic Str (List (Str × Bool))) × (List Str)) (Option (List (Str × Bool)))))) ((ways_1, queue_4) : (Dic Str (List (Str × Bool))) × (List Str))) (fun (st_5 : (Dic Str (List (Str × Bool))) × (List Str)) =>
  (R.b2 (R.ok st_5.1) (R.ok v_other) fun d k => .ok (d.get? k))) (fun r_341 => .ok r_341)
noncomputable def F_Thing_add_part (t : ThingV) (x : PartV) : R ThingV :=
  R.cond ((((R.ok x)).bind fun c => F_is_part c).map (!·)) (.exc "NoPart" [])
  (R.cond (R.b2 ((R.ok x).map (fun t : PartV => t.name)) (R.ok t.sizes) fun k d => .ok ((d.get? k).isSome)) (.exc "Twice" [])
  (R.cond (((R.ok t.parts).bind fun a => ((R.ok x).map (fun t : PartV => t.start)).bind fun b => ((R.ok x).map (fun t : PartV => t.fin)).bind fun c => F_way_between a b c).map fun o => !o.isNone) (.exc "InRing" [])
  ((R.ok x).bind fun a => (few t.parts).bind fun _ => (R.ok (t.parts ++ [a])).bind fun ps =>
  ((R.ok x).map (fun t : PartV => t.size)).bind fun a => ((R.ok x).map (fun t : PartV => t.name)).bind fun j => (fewD t.sizes).bind fun _ => (R.ok (t.sizes.put j a)).bind fun sz => R.ok { t with parts := ps, sizes := sz })))
noncomputable def F_Thing_add_gap (t : ThingV) (x : GapV) : R ThingV :=
  R.cond ((((R.ok x)).bind fun c => F_is_gap c).map (!·)) (.exc "NoGap" [])
  (R.cond (R.b2 ((R.ok x).map (fun t : GapV => t.name)) (R.ok t.ways) fun k d => .ok ((d.get? k).isSome)) (.exc "Twice" [])
  (((R.ok t.parts).bind fun a => ((R.ok x).map (fun t : GapV => t.one)).bind fun b => ((R.ok x).map (fun t : GapV => t.other)).bind fun c => F_way_between a b c).bind fun (found : Option (List (Str × Bool))) =>
  R.cond ((R.ok found).map fun o => o.isNone) (.exc "Apart" [])
  ((R.ok x).bind fun a => (few t.gaps).bind fun _ => (R.ok (t.gaps ++ [a])).bind fun gs =>
  ((R.ok found).bind unw).bind fun a => ((R.ok x).map (fun t : GapV => t.name)).bind fun j => (fewD t.ways).bind fun _ => (R.ok (t.ways.put j a)).bind fun ws => R.ok { t with gaps := gs, ways := ws })))
noncomputable def F_Thing (parts : List PartV) (gaps : List GapV) : R ThingV :=
  ((R.ok ([] : List PartV)).bind few).bind fun l1 => ((R.ok ([] : List GapV)).bind few).bind fun l2 => (R.ok (⟨[]⟩ : Dic Str Rat)).bind fun d1 => (R.ok (⟨[]⟩ : Dic Str (List (Str × Bool)))).bind fun d2 =>
  (R.ok parts).bind fun l => (foldR l (⟨l1, l2, d1, d2⟩ : ThingV) (fun (x : PartV) (st : ThingV) => (R.ok x).bind fun b => (F_Thing_add_part st b).bind fun t' => .ok t')).bind fun (st : ThingV) =>
  (R.ok gaps).bind fun l => (foldR l st (fun (x : GapV) (st : ThingV) => (R.ok x).bind fun b => (F_Thing_add_gap st b).bind fun t' => .ok t')).bind fun (st : ThingV) => .ok st
noncomputable def F_Thing_parts (v_self : ThingV) : R (List PartV) :=
  (((((R.ok v_self)).map ThingV.parts)).bind fun l => .ok l)
noncomputable def F_Thing_gaps (v_self : ThingV) : R (List GapV) :=
  (((((R.ok v_self)).map ThingV.gaps)).bind fun l => .ok l)
noncomputable def F_Thing_way (v_self : ThingV) (v_name : Str) : R (List (Str × Bool)) :=
  R.cond (R.b2 (R.ok v_name) (((R.ok v_self)).map ThingV.ways) fun k d => .ok (!(d.get? k).isSome))
  (.exc "NoName" [])
  ((((R.b2 (((R.ok v_self)).map ThingV.ways) (R.ok v_name) getR)).bind fun l => .ok l))
noncomputable def F_Thing_middle (v_self : ThingV) (v_name : Str) : R Rat :=
  ((((((R.ok (0 : Int))).bind fun t_1 => ((R.ok (1 : Int))).bind fun t_2 => R.ok (t_1, t_2))).bind toRat)).bind fun (total_3 : Rat) =>
  ((((R.ok v_self)).bind fun c_4 => ((R.ok v_name)).bind fun c_5 => F_Thing_way c_4 c_5)).bind fun l_35 => (foldR l_35 (total_3 : Rat) (fun (x_6 : (Str × Bool)) (st_7 : Rat) =>
  R.cond (R.ok x_6.2)
  (((((R.ok st_7)).bind fun c_29 => ((R.b2 (((R.ok v_self)).map ThingV.sizes) (R.ok x_6.1) getR)).bind fun c_30 => F_plus c_29 c_30)).bind fun (total_31 : Rat) =>
  .ok total_31)
  (((((R.ok st_7)).bind fun c_32 => ((R.b2 (((R.ok v_self)).map ThingV.sizes) (R.ok x_6.1) getR)).bind fun c_33 => F_minus c_32 c_33)).bind fun (total_34 : Rat) =>
  .ok total_34))).bind fun (st_7 : Rat) =>
  (R.ok st_7)
noncomputable def F_Thing_room (v_self : ThingV) (v_name : Str) : R Rat :=
  ((R.ok v_self).bind fun a => (R.ok v_name).bind fun b => F_Thing_middle a b).bind fun (middle : Rat) =>
  (R.ok v_self.gaps).bind fun l => (foldR l (none : Option (Rat × Rat)) (fun (x : GapV) (st : Option (Rat × Rat)) =>
  R.cond (R.b2 ((R.ok x).map (fun t : GapV => t.name)) (R.ok v_name) (eqR false))
  (((R.ok middle).bind fun a => ((R.ok x).map (fun t : GapV => t.low)).bind fun b => F_minus a b).bind fun below => (((R.ok x).map (fun t : GapV => t.high)).bind fun a => (R.ok middle).bind fun b => F_minus a b).bind fun above => .ok (some (below, above)))
  (.ok st))).bind fun (st : Option (Rat × Rat)) => optR st fun p => R.cond ((R.ok p.2).bind fun a => (R.ok p.1).bind fun b => F_under a b) (.ok p.2) (.ok p.1)
end TF

/-! PL: reasoning on typed texts. -/
namespace TF
open PySem PySem.Spec PyProof.Rows L2 DL FR
open Enc KeyT
/-- it tells a value of which P is true -/
def R.sat {α : Type} (m : R α) (P : α → Prop) : Prop := ∃ a, m = .ok a ∧ P a
section
variable {α β γ σ ρ : Type}
theorem sat_ok {a : α} {P : α → Prop} (h : P a) : (R.ok a).sat P := ⟨a, rfl, h⟩
theorem sat_bind {m : R α} {f : α → R β} {P : α → Prop} {Q : β → Prop} (h : m.sat P) (k : ∀ a, P a → (f a).sat Q) : (m.bind f).sat Q := by
  obtain ⟨a, rfl, ha⟩ := h; exact k a ha
theorem sat_imp {m : R α} {P Q : α → Prop} (h : m.sat P) (k : ∀ a, P a → Q a) : m.sat Q := by
  obtain ⟨a, e, ha⟩ := h; exact ⟨a, e, k a ha⟩
theorem sat_let {a : α} {f : α → R β} {Q : β → Prop} (h : ∀ x, x = a → (f x).sat Q) : ((R.ok a).bind f).sat Q := h a rfl
theorem sat_true {m : R Bool} (h : m.sat (· = true)) : m = .ok true := by obtain ⟨a, e, rfl⟩ := h; exact e
theorem sat_of {m : R α} {a : α} (h : m = .ok a) : m.sat (· = a) := ⟨a, h, rfl⟩
/-! loops -/
theorem foldR_inv {l : List α} {f : α → σ → R σ} (I : σ → Prop) (h : ∀ x ∈ l, ∀ s, I s → (f x s).sat I) : ∀ s, I s → (foldR l s f).sat I := by
  induction l with
  | nil => intro s hs; exact sat_ok hs
  | cons x l ih =>
    intro s hs
    exact sat_bind (h x List.mem_cons_self s hs) fun s' hs' => ih (fun y hy => h y (List.mem_cons_of_mem _ hy)) s' hs'
theorem foldR_eq {l : List α} {f : α → σ → R σ} (g : σ → α → σ) (h : ∀ x ∈ l, ∀ s, f x s = .ok (g s x)) : ∀ s, foldR l s f = .ok (l.foldl g s) := by
  induction l with
  | nil => intro s; rfl
  | cons x l ih =>
    intro s
    show (f x s).bind _ = _
    rw [h x List.mem_cons_self s, R.ok_bind, ih fun y hy => h y (List.mem_cons_of_mem _ hy)]; rfl
/-- by what is walked already -/
theorem foldR_ind {l : List α} {f : α → σ → R σ} (I : List α → σ → Prop) (h : ∀ p x q s, l = p ++ x :: q → I p s → (f x s).sat (I (p ++ [x]))) {s : σ} (hs : I [] s) : (foldR l s f).sat (I l) := by
  have key : ∀ (q p : List α) (s : σ), l = p ++ q → I p s → (foldR q s f).sat (I l) := by
    intro q
    induction q with
    | nil => intro p s e hp; rw [List.append_nil] at e; subst e; exact sat_ok hp
    | cons x q ih =>
      intro p s e hp
      exact sat_bind (h p x q s e hp) fun s' hs' => ih (p ++ [x]) s' (by rw [e, List.append_assoc]; rfl) hs'
  exact key l [] s rfl hs
theorem forR_all {l : List α} {f : α → σ → R (Fl σ ρ)} (I : σ → Prop) (h : ∀ x ∈ l, ∀ s, I s → (f x s).sat fun r => ∃ s', r = .nx s' ∧ I s') : ∀ s, I s → (forR l s f).sat fun r => ∃ s', r = .nx s' ∧ I s' := by
  induction l with
  | nil => intro s hs; exact sat_ok ⟨s, rfl, hs⟩
  | cons x l ih =>
    intro s hs
    exact sat_bind (h x List.mem_cons_self s hs) fun r ⟨s', e, hs'⟩ => by subst e; exact ih (fun y hy => h y (List.mem_cons_of_mem _ hy)) s' hs'
theorem forR_unit {l : List α} {f : α → Unit → R (Fl Unit ρ)} (h : ∀ x ∈ l, f x () = .ok (.nx ())) : forR l () f = .ok (.nx ()) := by
  obtain ⟨r, e, s', e2, _⟩ := forR_all (fun _ => True) (fun x hx _ _ => ⟨_, h x hx, (), rfl, trivial⟩) () trivial
  rw [e, e2]
theorem rngL_mem {lo : Int} {n : Nat} {i : Int} : i ∈ rngL lo n ↔ lo ≤ i ∧ i < lo + n := by
  unfold rngL
  rw [List.mem_map]
  constructor
  · rintro ⟨k, hk, rfl⟩; rw [List.mem_range] at hk; omega
  · intro h; exact ⟨(i - lo).toNat, by rw [List.mem_range]; omega, by omega⟩
theorem rngL_len (lo : Int) (n : Nat) : (rngL lo n).length = n := by unfold rngL; simp
theorem rngL_succ (lo : Int) (n : Nat) : rngL lo (n + 1) = rngL lo n ++ [lo + (n : Int)] := by
  unfold rngL; rw [List.range_succ, List.map_append]; rfl
theorem rngL_cons (lo : Int) (n : Nat) : rngL lo (n + 1) = lo :: rngL (lo + 1) n := by
  unfold rngL
  rw [List.range_succ_eq_map, List.map_cons, List.map_map]
  congr 1
  · simp
  · apply List.map_congr_left; intro x _; simp; omega
@[simp] theorem rngL_zero (lo : Int) : rngL lo 0 = [] := rfl
theorem ixL_ok {l : List α} {i : Int} (h0 : 0 ≤ i) (h1 : i < l.length) : ixL l i = .ok (l[i.toNat]'(by omega)) := by
  unfold ixL
  have : atI l i = some (l[i.toNat]'(by omega)) := by
    have := atI_nat l i.toNat
    rw [show ((i.toNat : Nat) : Int) = i by omega] at this
    rw [this, List.getElem?_eq_getElem (by omega)]
  rw [this]
theorem ixL_sat {l : List α} {i : Int} (h0 : 0 ≤ i) (h1 : i < l.length) : (ixL l i).sat fun a => a ∈ l := ⟨_, ixL_ok h0 h1, List.getElem_mem _⟩
theorem ixL_m1 {l : List α} (h : l ≠ []) : ixL l (-1) = .ok (l.getLast h) := by
  unfold ixL
  rw [atI_m1]
  have hl : 0 < l.length := List.length_pos_iff.mpr h
  rw [List.getElem?_eq_getElem (by omega)]
  rw [List.getLast_eq_getElem]
theorem setL_ok {l : List α} {i : Int} {a : α} (h0 : 0 ≤ i) (h1 : i < l.length) : setL l i a = .ok (l.set i.toNat a) := by
  unfold setL; rw [ixN_in h0 h1]
theorem mulI_ab {a b : Int} {x y : Nat} (h1 : a.natAbs < 2 ^ x) (h2 : b.natAbs < 2 ^ y) (h : x + y ≤ 134217728) : mulI a b = .ok (a * b) := mulI_ok (mulOk_of h1 h2 h)
/-! divisors -/
theorem gcd_loop : ∀ (n : Nat) (x y : Nat), y < n → whileR (ρ := ρ) (fun (st : Int × Int) => .ok (decide (0 < st.2))) (fun (st : Int × Int) =>
    (modI st.1 st.2).bind fun b => .ok (.nx (st.2, b))) (((x : Int), (y : Int)) : Int × Int) = .ok (.nx (((Nat.gcd x y : Nat) : Int), 0)) := by
  intro n
  induction n with
  | zero => intro x y h; omega
  | succ n ih =>
    intro x y hy
    rw [whileR_eq]
    simp only [R.ok_bind, R.b2]
    by_cases h0 : y = 0
    · subst h0; simp
    · have hp : (0 : Int) < (y : Int) := by omega
      rw [if_pos (decide_eq_true hp), modI_pos hp]
      simp only [R.ok_bind]
      have e : (x : Int) % (y : Int) = ((x % y : Nat) : Int) := by omega
      rw [e, ih y (x % y) (by have := Nat.mod_lt x (show 0 < y by omega); omega)]
      rw [Nat.gcd_comm x y, Nat.gcd_rec y x, Nat.gcd_comm]
/-- the other way to write it: one, other, rest -/
theorem low_loop : ∀ (n : Nat) (x : Int) (y : Nat), y < n → 0 ≤ x ∨ 0 < y → whileR (ρ := ρ) (fun (st : Int × Int) => .ok (!decide (st.2 = 0))) (fun (st : Int × Int) =>
    (modI st.1 st.2).bind fun rest => .ok (.nx (st.2, rest))) ((x, (y : Int)) : Int × Int) = .ok (.nx (((Int.gcd x y : Nat) : Int), 0)) := by
  intro n
  induction n with
  | zero => intro x y h; omega
  | succ n ih =>
    intro x y hy hx
    rw [whileR_eq]
    simp only [R.ok_bind, R.b2]
    by_cases h0 : y = 0
    · subst h0
      have hx' : 0 ≤ x := by omega
      simp
      omega
    · have hp : (0 : Int) < (y : Int) := by omega
      have hne : ¬ (y : Int) = 0 := by omega
      rw [if_pos (by simp [h0]), modI_pos hp]
      simp only [R.ok_bind]
      have h1 := Int.emod_nonneg x hne
      have h2 := Int.emod_lt_of_pos x hp
      obtain ⟨r, hr⟩ : ∃ r : Nat, x % (y : Int) = r := ⟨(x % (y : Int)).toNat, by omega⟩
      rw [hr, ih y r (by omega) (.inl (by omega))]
      congr 3
      have e : Int.gcd x y = Int.gcd (x % y) y := by
        have e0 : Int.gcd x y = Int.gcd (x % y + y * (x / y)) y := by rw [Int.emod_add_mul_ediv x y]
        rw [e0]; simp
      rw [e, hr, Int.gcd_comm]
theorem low_parts {t b : Int} (hb : 0 < b) (hw : b.natAbs < 2 ^ 9000) : divI t ((Int.gcd t b : Nat) : Int) = .ok (Rat.divInt t b).num ∧ divI b ((Int.gcd t b : Nat) : Int) = .ok ((Rat.divInt t b).den : Int) := by
  have hg : 0 < Int.gcd t b := Int.gcd_pos_of_ne_zero_right _ (by omega)
  have hle : Int.gcd t b ≤ b.natAbs := Nat.le_of_dvd (by omega) (Int.natAbs_dvd_natAbs.mpr (Int.gcd_dvd_right ..) |> fun h => by simpa using h)
  have hd : DL.DivOk ((Int.gcd t b : Nat) : Int) := ⟨by omega, by simpa using Nat.lt_of_le_of_lt hle hw⟩
  rw [divI_ok hd, divI_ok hd]
  have e1 := low_num (a := t) (b := b) (by omega)
  have e2 := low_den (a := t) (b := b) (by omega)
  rw [if_neg (by omega)] at e1 e2
  exact ⟨by rw [e1], by rw [e2]⟩
theorem low_frac {t b : Int} (hb : 0 < b) (hw : b.natAbs < 2 ^ 9000) : ((divI t ((Int.gcd t b : Nat) : Int)).bind fun x => (divI b ((Int.gcd t b : Nat) : Int)).bind fun y => toRat (x, y)) = .ok (Rat.divInt t b) := by
  obtain ⟨h1, h2⟩ := low_parts (t := t) hb hw
  rw [h1, h2]; exact toRat_num _
theorem lt_9000 {b : Int} (h : b.natAbs < 2 ^ 256) : b.natAbs < 2 ^ 9000 := Nat.lt_of_lt_of_le h (Nat.pow_le_pow_right (by decide) (by decide))
theorem wd_256 {b : Int} (h : b.natAbs < 2 ^ 256) : Wd b := Nat.lt_of_lt_of_le h (Nat.pow_le_pow_right (by decide) (by decide))
/-- a fraction's size: its top below 2^B, its bottom at most d -/
def Fb (B d : Nat) (q : Rat) : Prop := q.num.natAbs < 2 ^ B ∧ q.den ≤ d
theorem Fb.sm {B d : Nat} {q : Rat} (h : Fb B d q) (hB : B ≤ 3000) (hd : d < 2 ^ 64) : Sm q := ⟨Nat.lt_of_lt_of_le h.1 (Nat.pow_le_pow_right (by decide) hB), Nat.lt_of_le_of_lt h.2 (Nat.lt_of_lt_of_le hd (Nat.pow_le_pow_right (by decide) (by decide)))⟩
theorem den_dvd {t b : Int} (hb : 0 < b) : ((Rat.divInt t b).den : Int) ∣ b := by
  rw [Rat.den_divInt]
  split
  · omega
  · have h := Int.gcd_dvd_left b t
    have : ((b.natAbs / b.gcd t : Nat) : Int) ∣ b := by
      have h2 : b.gcd t ∣ b.natAbs := Int.ofNat_dvd_left.mp h
      have h3 : (b.natAbs / b.gcd t) ∣ b.natAbs := Nat.div_dvd_of_dvd h2
      exact Int.ofNat_dvd_left.mpr h3
    exact this
theorem fb_divInt {t b : Int} {B d : Nat} (hb : 0 < b) (ht : t.natAbs < 2 ^ B) (hd : b ≤ d) : Fb B d (Rat.divInt t b) := by
  have h1 : (Rat.divInt t b).num.natAbs ≤ t.natAbs := by
    have e1 := low_num (a := t) (b := b) (by omega)
    rw [if_neg (by omega)] at e1
    rw [e1]
    have hg : (0 : Int) < (Int.gcd t b : Int) := by have := Int.gcd_pos_of_ne_zero_right t (show b ≠ 0 by omega); omega
    rw [Int.fdiv_eq_ediv_of_nonneg _ (by omega)]
    exact Int.natAbs_ediv_le_natAbs ..
  refine ⟨Nat.lt_of_le_of_lt h1 ht, ?_⟩
  have := Int.le_of_dvd hb (den_dvd (t := t) hb)
  omega
/-! fractions by their two numbers -/
theorem toRat_divInt {a b : Int} (hb : 0 < b) (hg : Int.gcd a b = 1) : toRat (a, b) = .ok (Rat.divInt a b) := by
  have h1 := low_num (a := a) (b := b) (by omega)
  have h2 := low_den (a := a) (b := b) (by omega)
  rw [if_neg (by omega), hg] at h1 h2
  have e1 : (Rat.divInt a b).num = a := by rw [h1]; simp
  have e2 : ((Rat.divInt a b).den : Int) = b := by rw [h2]; simp
  have := toRat_num (Rat.divInt a b)
  rw [e1, e2] at this
  exact this
theorem toRat_neg (q : Rat) : toRat (-q.num, (q.den : Int)) = .ok (-q) := by
  have := toRat_num (-q)
  rwa [Rat.neg_num, Rat.neg_den] at this
theorem gcd_nd (q : Rat) : Int.gcd q.num (q.den : Int) = 1 := by
  have := q.reduced
  show q.num.natAbs.gcd ((q.den : Int).natAbs) = 1
  simpa using this
theorem den_pos' (q : Rat) : (0 : Int) < q.den := by have := q.den_pos; omega
theorem add_one (q : Rat) : Rat.divInt (q.num + (q.den : Int)) (q.den : Int) = q + 1 := by
  have := add_fr q 1
  simpa using this
theorem sub_one (q : Rat) : Rat.divInt (q.num - (q.den : Int)) (q.den : Int) = q - 1 := by
  have := sub_fr q 1
  simpa using this
theorem toRat_add (q : Rat) : toRat (q.num + (q.den : Int), (q.den : Int)) = .ok (q + 1) := by
  rw [toRat_divInt (den_pos' q) (by rw [show q.num + (q.den : Int) = q.num + (q.den : Int) * 1 by omega]; simp [gcd_nd]), add_one]
theorem toRat_sub (q : Rat) : toRat (q.num - (q.den : Int), (q.den : Int)) = .ok (q - 1) := by
  rw [toRat_divInt (den_pos' q) (by rw [show q.num - (q.den : Int) = q.num + (q.den : Int) * (-1) by omega, Int.gcd_add_mul_left_left]; exact gcd_nd q), sub_one]
theorem Fb.up {B d : Nat} {q : Rat} (h : Fb B d q) : Fb (B + 1) d q := ⟨by have := h.1; rw [Nat.pow_succ]; omega, h.2⟩
theorem Fb.of {B d : Nat} {q : Rat} {a b : Int} (e : Rat.divInt a b = q) (hb : 0 < b) (ht : a.natAbs < 2 ^ B) (hd : b ≤ d) : Fb B d q := e ▸ fb_divInt hb ht hd
theorem Fb.add1 {B d : Nat} {q : Rat} (h : Fb B d q) (hd : d < 2 ^ B := by decide) : Fb (B + 1) d (q + 1) := Fb.of (add_one q) (den_pos' q) (add_lt h.1 (by have := h.2; omega)) (by have := h.2; omega)
theorem Fb.sub1 {B d : Nat} {q : Rat} (h : Fb B d q) (hd : d < 2 ^ B := by decide) : Fb (B + 1) d (q - 1) := Fb.of (sub_one q) (den_pos' q) (sub_lt h.1 (by have := h.2; omega)) (by have := h.2; omega)
end
end TF

/-! PL2: texts by their letters. -/
namespace TF
open PySem PySem.Spec PyProof.Rows L2 DL FR
open Enc KeyT
/-- the text of these letters -/
def sl (cs : List Nat) : Str := ⟨cs.toArray⟩
theorem sl_inj {a b : List Nat} (h : sl a = sl b) : a = b := by
  have := congrArg (fun z : Str => z.cps.toList) h
  simpa [sl] using this
theorem sl_cps (a : List Nat) : (sl a).cps.toList = a := by simp [sl]
theorem sl_of (z : Str) : sl z.cps.toList = z := by apply PyProof.Rows.ext_toList; rw [sl_cps]
theorem sl_len (a : List Nat) : (sl a).length = a.length := by simp [sl, Str.length]
theorem sl_app (a b : List Nat) : sl a ++ sl b = sl (a ++ b) := by
  apply PyProof.Rows.ext_toList
  rw [cps_app, sl_cps, sl_cps, sl_cps]
theorem sl_eq {a b : List Nat} : sl a = sl b ↔ a = b := ⟨sl_inj, fun h => by rw [h]⟩
theorem sl_one (c : Nat) : (⟨#[c]⟩ : Str) = sl [c] := rfl
theorem cps_at {z : Str} {i : Int} (h0 : 0 ≤ i) (h1 : i < z.length) : atI z.cps.toList i = some (z.cps.toList[i.toNat]'(by rw [← str_len]; omega)) := by
  have e := atI_nat z.cps.toList i.toNat
  rw [show ((i.toNat : Nat) : Int) = i by omega] at e
  rw [e, List.getElem?_eq_getElem (by rw [← str_len]; omega)]
theorem ixS_ok {cs : List Nat} {i : Int} (h : cs.length < 1000000) (h0 : 0 ≤ i) (h1 : i < cs.length) : ixS (sl cs) i = .ok (sl [cs[i.toNat]'(by omega)]) := by
  unfold ixS
  have e := atI_nat cs i.toNat
  rw [show ((i.toNat : Nat) : Int) = i by omega] at e
  rw [if_pos (by rw [sl_len]; exact h), sl_cps, e, List.getElem?_eq_getElem (by omega)]; rfl
/-- a run of letters from c on -/
theorem ixS_run {s : String} {c n : Nat} (hs : (Str.ofString s) = sl ((List.range n).map (c + ·))) (hn : n < 1000000) {i : Int} (h0 : 0 ≤ i) (h1 : i < n) : ixS (Str.ofString s) i = .ok (sl [c + i.toNat]) := by
  rw [hs, ixS_ok (by simpa using hn) h0 (by simpa using h1)]
  simp
theorem letters26 : (Str.ofString "abcdefghijklmnopqrstuvwxyz") = sl ((List.range 26).map (97 + ·)) := by decide +kernel
theorem ix_letters {i : Int} (h0 : 0 ≤ i) (h1 : i < 26) : ixS (Str.ofString "abcdefghijklmnopqrstuvwxyz") i = .ok (sl [97 + i.toNat]) := ixS_run letters26 (by decide) h0 h1
theorem addS_sl {a b : List Nat} (h : a.length + b.length < 1000000) : addS (sl a) (sl b) = .ok (sl (a ++ b)) := by
  rw [addS_ok (by rw [sl_len, sl_len]; exact h), sl_app]
theorem strRep_sl (a : List Nat) (n : Nat) : strRep (sl a) n = sl (List.replicate n a).flatten := by
  unfold strRep; rw [sl_cps]; rfl
theorem mulS_sl {a : List Nat} {n : Int} (h : a.length ≤ 1000 ∧ n.natAbs ≤ 1000) : mulS (sl a) n = .ok (sl (List.replicate n.toNat a).flatten) := by
  rw [mulS_ok (by rw [sl_len]; exact h), strRep_sl]
theorem rep_one (c n : Nat) : (List.replicate n [c]).flatten = List.replicate n c := by
  induction n with
  | zero => rfl
  | succ n ih => rw [List.replicate_succ, List.flatten_cons, ih]; rfl
theorem mulS_one {c : Nat} {n : Int} (h : n.natAbs ≤ 1000) : mulS (sl [c]) n = .ok (sl (List.replicate n.toNat c)) := by
  rw [mulS_sl ⟨by simp, h⟩, rep_one]
theorem cutS_sl (a : List Nat) (lo hi : Option Int) : cutS (sl a) lo hi = sl (cut a lo hi) := by
  unfold cutS cut
  rw [sl_cps, sl_len]; rfl
theorem cutR_sl {a : List Nat} {lo hi : Option Int} (h : a.length < 1000000) : cutR (sl a) lo hi = .ok (sl (cut a lo hi)) := by
  unfold cutR
  rw [if_pos (by rw [sl_len]; exact h), cutS_sl]
theorem cut_from {α : Type} {l : List α} {i : Int} (h : 0 ≤ i) : cut l (some i) none = l.drop i.toNat := by
  unfold cut
  have e : HT.sIx l.length 0 (some i) = min i.toNat l.length := by
    show (if i < 0 then _ else _) = _
    rw [if_neg (by omega)]
  rw [e, HT.sIx_none]
  apply List.ext_getElem?
  intro j
  rw [List.getElem?_take]
  rcases Nat.le_total i.toNat l.length with q | q
  · rw [Nat.min_eq_left q]
    split
    · rfl
    · rw [List.getElem?_drop, List.getElem?_eq_none (by omega)]
  · rw [Nat.min_eq_right q, Nat.sub_self, if_neg (by omega), List.getElem?_drop, List.getElem?_eq_none (by omega)]
theorem cut_to {α : Type} {l : List α} {i : Int} (h : 0 ≤ i) : cut l none (some i) = l.take i.toNat := by
  unfold cut
  have e : HT.sIx l.length l.length (some i) = min i.toNat l.length := by
    show (if i < 0 then _ else _) = _
    rw [if_neg (by omega)]
  rw [e, HT.sIx_none, List.drop_zero, Nat.sub_zero]
  rcases Nat.le_total i.toNat l.length with q | q
  · rw [Nat.min_eq_left q]
  · rw [Nat.min_eq_right q, List.take_length, List.take_of_length_le q]
theorem cut_mem {α : Type} {l : List α} {lo hi : Option Int} {x : α} (h : x ∈ cut l lo hi) : x ∈ l := by
  unfold cut at h
  exact List.mem_of_mem_drop (List.mem_of_mem_take h)
theorem cut_len {α : Type} (l : List α) (lo hi : Option Int) : (cut l lo hi).length ≤ l.length := by
  unfold cut
  rw [List.length_take, List.length_drop]; omega
/-- letters put together -/
theorem join_ones : ∀ (cs : List Nat), Txt.join (Str.ofString "") (cs.map fun c => sl [c]) = sl cs := by
  intro cs
  rw [TL.join_eq]
  apply PyProof.Rows.ext_toList
  rw [sl_cps]
  have key : ∀ cs : List Nat, (Str.join (Str.ofString "") (cs.map fun c => sl [c])).cps.toList = cs := by
    intro cs
    induction cs with
    | nil => rfl
    | cons c cs ih =>
      cases cs with
      | nil => rfl
      | cons d cs =>
        show ((sl [c] ++ Str.ofString "" ++ Str.join (Str.ofString "") ((d :: cs).map fun c => sl [c])).cps.toList) = _
        rw [cps_app, cps_app, ih, sl_cps]; rfl
  exact key cs
theorem joinR_ones {cs : List Nat} (h : cs.length ≤ 1000000) : joinR (Str.ofString "") (cs.map fun c => sl [c]) = .ok (sl cs) := by
  unfold joinR
  rw [if_pos, join_ones]
  have e : ((cs.map fun c => sl [c]).map (·.length)).sum = cs.length := by
    clear h
    induction cs with
    | nil => rfl
    | cons c cs ih => simp only [List.map_cons, List.sum_cons, ih, List.length_cons, sl_len, List.length_nil]; omega
  rw [e]
  have e0 : (Str.ofString "").length = 0 := by decide +kernel
  rw [e0]; omega
theorem nameB_sl {cs : List Nat} : nameB (sl cs) = true ↔ (1 ≤ cs.length ∧ cs.length ≤ 8) ∧ ∀ c ∈ cs, 97 ≤ c ∧ c ≤ 122 := by
  unfold nameB
  rw [sl_len, sl_cps, Bool.and_eq_true, decide_eq_true_eq, List.all_eq_true]
  simp only [decide_eq_true_eq]
theorem nameB_ok {z : Str} (h : nameB z = true) : PyData.strOk z = true ∧ z.length ≤ 8 := by
  refine ⟨(nameB_few h).2, ?_⟩
  unfold nameB at h
  simp only [Bool.and_eq_true, decide_eq_true_eq] at h
  exact h.1.2
end TF

/-! PT0: dicts, whiles by an invariant. -/
namespace TF
open PySem PySem.Spec PyProof.Rows L2 DL FR
open Enc KeyT
section
variable {α κ : Type} [DecidableEq κ]
abbrev Dic.keys (d : Dic κ α) : List κ := d.l.map (·.1)
omit [DecidableEq κ] in
theorem Dic.len_keys (d : Dic κ α) : d.keys.length = d.l.length := by simp
theorem Dic.get_some_mem {d : Dic κ α} {k : κ} {a : α} (h : d.get? k = some a) : (k, a) ∈ d.l := by
  unfold Dic.get? at h
  rw [Option.map_eq_some_iff] at h
  obtain ⟨p, h1, h2⟩ := h
  have h3 := List.find?_some h1
  have h4 := List.mem_of_find?_eq_some h1
  have h5 : p.1 = k := by simpa using h3
  rw [← h5, ← h2]; exact h4
theorem Dic.isSome_iff {d : Dic κ α} {k : κ} : (d.get? k).isSome = true ↔ k ∈ d.keys := by
  unfold Dic.get?
  rw [Option.isSome_map, List.find?_isSome]
  constructor
  · rintro ⟨p, h1, h2⟩
    exact List.mem_map.mpr ⟨p, h1, by simpa using h2⟩
  · intro h
    obtain ⟨p, h1, h2⟩ := List.mem_map.mp h
    exact ⟨p, h1, by simpa using h2⟩
theorem Dic.none_iff {d : Dic κ α} {k : κ} : d.get? k = none ↔ k ∉ d.keys := by
  rw [← Dic.isSome_iff]
  cases d.get? k <;> simp
theorem Dic.isSome_dec {d : Dic κ α} {k : κ} : (d.get? k).isSome = decide (k ∈ d.keys) := by
  by_cases h : k ∈ d.keys
  · rw [decide_eq_true h, Dic.isSome_iff.mpr h]
  · rw [decide_eq_false h, Dic.none_iff.mpr h]; rfl
theorem Dic.get_of_mem {d : Dic κ α} {k : κ} {a : α} (hn : d.keys.Nodup) (h : (k, a) ∈ d.l) : d.get? k = some a := by
  have hk : k ∈ d.keys := List.mem_map.mpr ⟨_, h, rfl⟩
  obtain ⟨b, hb⟩ := Option.isSome_iff_exists.mp (Dic.isSome_iff.mpr hk)
  have hm := Dic.get_some_mem hb
  rw [hb]
  have key : ∀ (l : List (κ × α)), (l.map (·.1)).Nodup → (k, a) ∈ l → (k, b) ∈ l → a = b := by
    intro l
    induction l with
    | nil => intro _ h; cases h
    | cons x l ih =>
      intro hn h1 h2
      rw [List.map_cons, List.nodup_cons] at hn
      rcases List.mem_cons.mp h1 with e1 | h1 <;> rcases List.mem_cons.mp h2 with e2 | h2
      · have := e1.trans e2.symm
        exact (Prod.mk.inj this).2
      · exact absurd (List.mem_map.mpr ⟨_, h2, by rw [← e1]⟩) hn.1
      · exact absurd (List.mem_map.mpr ⟨_, h1, by rw [← e2]⟩) hn.1
      · exact ih hn.2 h1 h2
  rw [key d.l hn h hm]
theorem Dic.put_new {d : Dic κ α} {k : κ} {a : α} (h : k ∉ d.keys) : (d.put k a).l = d.l ++ [(k, a)] := by
  unfold Dic.put
  have : (d.l.any fun p => decide (p.1 = k)) = false := by
    rw [List.any_eq_false]
    intro p hp e
    exact h (List.mem_map.mpr ⟨p, hp, by simpa using e⟩)
  simp only [this]; rfl
theorem Dic.put_old {d : Dic κ α} {k : κ} {a : α} (h : k ∈ d.keys) : (d.put k a).l = d.l.map (fun p => if p.1 = k then (p.1, a) else p) := by
  unfold Dic.put
  have : (d.l.any fun p => decide (p.1 = k)) = true := by
    rw [List.any_eq_true]
    obtain ⟨p, h1, h2⟩ := List.mem_map.mp h
    exact ⟨p, h1, by simpa using h2⟩
  simp only [this, if_true]
theorem Dic.keys_put_old {d : Dic κ α} {k : κ} {a : α} (h : k ∈ d.keys) : (d.put k a).keys = d.keys := by
  unfold Dic.keys
  rw [Dic.put_old h, List.map_map]
  apply List.map_congr_left
  intro p _
  show (if p.1 = k then (p.1, a) else p).1 = p.1
  split <;> rfl
theorem Dic.keys_put_new {d : Dic κ α} {k : κ} {a : α} (h : k ∉ d.keys) : (d.put k a).keys = d.keys ++ [k] := by
  unfold Dic.keys
  rw [Dic.put_new h, List.map_append]; rfl
theorem Dic.mem_put {d : Dic κ α} {k k' : κ} {a : α} : k' ∈ (d.put k a).keys ↔ k' = k ∨ k' ∈ d.keys := by
  by_cases h : k ∈ d.keys
  · rw [Dic.keys_put_old h]
    constructor
    · exact .inr
    · rintro (rfl | h')
      · exact h
      · exact h'
  · rw [Dic.keys_put_new h, List.mem_append, List.mem_singleton, or_comm]
theorem Dic.nodup_put {d : Dic κ α} {k : κ} {a : α} (hn : d.keys.Nodup) : (d.put k a).keys.Nodup := by
  by_cases h : k ∈ d.keys
  · rw [Dic.keys_put_old h]; exact hn
  · rw [Dic.keys_put_new h, List.nodup_append]
    refine ⟨hn, by simp, fun x hx y hy e => ?_⟩
    rw [List.mem_singleton] at hy
    subst hy; subst e; exact h hx
theorem Dic.get_put (d : Dic κ α) (k k' : κ) (a : α) : (d.put k a).get? k' = if k' = k then some a else d.get? k' := by
  by_cases h : k ∈ d.keys
  · unfold Dic.get?
    rw [Dic.put_old h, List.find?_map]
    have e : ((fun p : κ × α => decide (p.1 = k')) ∘ fun p => if p.1 = k then (p.1, a) else p) = fun p => decide (p.1 = k') := by
      funext p
      show decide ((if p.1 = k then (p.1, a) else p).1 = k') = _
      split <;> rfl
    rw [e]
    split
    · rename_i hk
      subst hk
      obtain ⟨p, h1, h2⟩ := List.mem_map.mp h
      have : (d.l.find? fun p => decide (p.1 = k')).isSome := by
        rw [List.find?_isSome]; exact ⟨p, h1, by simpa using h2⟩
      obtain ⟨q, hq⟩ := Option.isSome_iff_exists.mp this
      have hq1 : q.1 = k' := by simpa using List.find?_some hq
      rw [hq]
      simp [hq1]
    · rename_i hk
      cases hq : (d.l.find? fun p => decide (p.1 = k')) with
      | none => rfl
      | some q =>
        have hq1 : q.1 = k' := by simpa using List.find?_some hq
        have : ¬ q.1 = k := fun e => hk (hq1.symm.trans e)
        simp [this]
  · unfold Dic.get?
    rw [Dic.put_new h, List.find?_append]
    split
    · rename_i hk
      subst hk
      have : (d.l.find? fun p => decide (p.1 = k')) = none := by
        rw [List.find?_eq_none]
        intro p hp e
        exact h (List.mem_map.mpr ⟨p, hp, by simpa using e⟩)
      rw [this]; simp
    · rename_i hk
      have hk' : ¬ k = k' := fun e => hk e.symm
      simp [hk']
theorem getR_ok {d : Dic κ α} {k : κ} {a : α} (h : d.get? k = some a) : getR d k = .ok a := by
  unfold getR; rw [h]
theorem getR_of {d : Dic κ α} {k : κ} (h : k ∈ d.keys) : ∃ a, d.get? k = some a ∧ (k, a) ∈ d.l ∧ getR d k = .ok a := by
  obtain ⟨a, ha⟩ := Option.isSome_iff_exists.mp (Dic.isSome_iff.mpr h)
  exact ⟨a, ha, Dic.get_some_mem ha, getR_ok ha⟩
end
section
variable {σ ρ α : Type}
theorem whileR_inv {c : σ → R Bool} {b : σ → R (Fl σ ρ)} (I : σ → Prop) (μ : σ → Nat) (h : ∀ s, I s → ∃ t, c s = .ok t ∧ (t = true → (b s).sat fun r => ∃ s', r = .nx s' ∧ I s' ∧ μ s' < μ s)) : ∀ {s : σ}, I s → (whileR c b s).sat fun r => ∃ s', r = .nx s' ∧ I s' ∧ c s' = .ok false := by
  have key : ∀ (n : Nat) (s : σ), μ s < n → I s → (whileR c b s).sat fun r => ∃ s', r = .nx s' ∧ I s' ∧ c s' = .ok false := by
    intro n
    induction n with
    | zero => intro s hs; omega
    | succ n ih =>
      intro s hs hi
      obtain ⟨t, ht, hb⟩ := h s hi
      rw [whileR_eq, ht, R.ok_bind]
      cases t with
      | false => rw [if_neg (by decide)]; exact sat_ok ⟨s, rfl, hi, ht⟩
      | true =>
        rw [if_pos rfl]
        refine sat_bind (hb rfl) fun r ⟨s', e, hi', hm⟩ => ?_
        subst e
        exact ih s' (by omega) hi'
  intro s hi
  exact key _ s (Nat.lt_succ_self _) hi
theorem fewD_ok [KeyT σ] [Enc α] {d : Dic σ α} (h : d.l.length < 1000000) : fewD d = .ok () := if_pos h
end
end TF

/-! PT1: ways between faces. -/
namespace TF
open PySem PySem.Spec PyProof.Rows L2 DL FR
open Enc KeyT
/-- a part gone from a face to a face -/
def StepP (ps : List PartV) (f : Str) (s : Str × Bool) (g : Str) : Prop := ∃ p ∈ ps, p.name = s.1 ∧ ((s.2 = true ∧ p.start = f ∧ p.fin = g) ∨ (s.2 = false ∧ p.fin = f ∧ p.start = g))
inductive WalkP (ps : List PartV) : Str → List (Str × Bool) → Str → Prop
  | nil (f) : WalkP ps f [] f
  | snoc {f w g s h} : WalkP ps f w g → StepP ps g s h → WalkP ps f (w ++ [s]) h
/-- faces joined -/
inductive JoinP (ps : List PartV) : Str → Str → Prop
  | refl (f) : JoinP ps f f
  | fwd {f p} : JoinP ps f p.start → p ∈ ps → JoinP ps f p.fin
  | bwd {f p} : JoinP ps f p.fin → p ∈ ps → JoinP ps f p.start
theorem WalkP.join {ps : List PartV} {f w g} (h : WalkP ps f w g) : JoinP ps f g := by
  induction h with
  | nil => exact .refl _
  | snoc _ hs ih =>
    obtain ⟨p, hp, _, ⟨_, rfl, rfl⟩ | ⟨_, rfl, rfl⟩⟩ := hs
    · exact .fwd ih hp
    · exact .bwd ih hp
/-- names that texts may be compared by -/
def GdS (z : Str) : Prop := PyData.strOk z = true
structure GdP (ps : List PartV) : Prop where
  few : ps.length < 1000
  st : ∀ p ∈ ps, GdS p.start
  fi : ∀ p ∈ ps, GdS p.fin
theorem eqS {a b : Str} (h : GdS a) (k : GdS b) : eqR false a b = .ok (decide (a = b)) := by
  rw [eqR_ok h k]; simp
abbrev WSt := Dic Str (List (Str × Bool)) × List Str
def facesP (ps : List PartV) : List Str := ps.map (·.start) ++ ps.map (·.fin)
def unseen (ps : List PartV) (one : Str) (ks : List Str) : Nat := ((one :: facesP ps).filter fun f => decide (f ∉ ks)).length
theorem unseen_lt {ps : List PartV} {one k : Str} {ks : List Str} (hk : k ∈ one :: facesP ps) (hn : k ∉ ks) : unseen ps one (ks ++ [k]) < unseen ps one ks := by
  unfold unseen
  generalize one :: facesP ps = L at hk
  induction L with
  | nil => cases hk
  | cons x L ih =>
    have hle : ∀ M : List Str, (M.filter fun f => decide (f ∉ ks ++ [k])).length ≤ (M.filter fun f => decide (f ∉ ks)).length := by
      intro M
      induction M with
      | nil => exact Nat.le_refl _
      | cons y M ih2 =>
        rw [List.filter_cons, List.filter_cons]
        by_cases h1 : y ∈ ks
        · have h2 : y ∈ ks ++ [k] := List.mem_append_left _ h1
          simp only [h1, h2, not_true, decide_false, if_false, Bool.false_eq_true]; exact ih2
        · by_cases h2 : y ∈ ks ++ [k]
          · simp only [h1, h2, not_true, not_false_eq_true, decide_false, decide_true, if_false, if_true, Bool.false_eq_true, List.length_cons]; omega
          · simp only [h1, h2, not_false_eq_true, decide_true, if_true, List.length_cons]; omega
    rw [List.filter_cons, List.filter_cons]
    by_cases hx : x = k
    · subst hx
      have h2 : x ∈ ks ++ [x] := List.mem_append_right _ List.mem_cons_self
      simp only [hn, h2, not_true, not_false_eq_true, decide_false, decide_true, if_false, if_true, Bool.false_eq_true, List.length_cons]
      have := hle L
      omega
    · have hk' : k ∈ L := (List.mem_cons.mp hk).resolve_left fun e => hx e.symm
      have := ih hk'
      by_cases h1 : x ∈ ks
      · have h2 : x ∈ ks ++ [k] := List.mem_append_left _ h1
        simp only [h1, h2, not_true, decide_false, if_false, Bool.false_eq_true]; exact this
      · have h2 : x ∉ ks ++ [k] := fun h => (List.mem_append.mp h).elim h1 fun h => hx (List.mem_singleton.mp h)
        simp only [h1, h2, not_false_eq_true, decide_true, if_true, List.length_cons]; omega
/-- what stands while faces are found -/
structure InvW (ps : List PartV) (one : Str) (st : WSt) : Prop where
  nd : st.1.keys.Nodup
  one_ : one ∈ st.1.keys
  good : ∀ f ∈ st.1.keys, GdS f
  walk : ∀ f w, (f, w) ∈ st.1.l → WalkP ps one w f
  names : ∀ f w, (f, w) ∈ st.1.l → (w.map (·.1)).Nodup ∧ ∀ n ∈ w.map (·.1), ∃ p ∈ ps, p.name = n ∧ p.start ∈ st.1.keys ∧ p.fin ∈ st.1.keys
  len : ∀ f w, (f, w) ∈ st.1.l → w.length < st.1.l.length
  q : ∀ f ∈ st.2, f ∈ st.1.keys
  card : st.1.l.length + unseen ps one st.1.keys ≤ 2 * ps.length + 1
theorem unseen_le (ps : List PartV) (one : Str) : 1 + unseen ps one [one] ≤ 2 * ps.length + 1 := by
  unfold unseen
  rw [List.filter_cons]
  have : ((facesP ps).filter fun f => decide (f ∉ [one])).length ≤ (facesP ps).length := List.length_filter_le ..
  have e : (facesP ps).length = 2 * ps.length := by unfold facesP; simp; omega
  simp only [List.mem_cons, true_or, not_true, decide_false, if_false, Bool.false_eq_true]
  simp only [List.mem_cons] at this
  omega
theorem InvW.add {ps : List PartV} {one here g : Str} {st : WSt} {s : Str × Bool} {w : List (Str × Bool)} (nn : (ps.map (·.name)).Nodup) (hp : GdP ps) (I : InvW ps one st) (hw : (here, w) ∈ st.1.l) (hs : StepP ps here s g) (hg : g ∉ st.1.keys) (gg : GdS g) :
    InvW ps one (st.1.put g (w ++ [s]), st.2 ++ [g]) ∧ unseen ps one (st.1.put g (w ++ [s])).keys < unseen ps one st.1.keys := by
  have hgm : g ∈ one :: facesP ps := by
    obtain ⟨p, hp, _, ⟨_, _, rfl⟩ | ⟨_, _, rfl⟩⟩ := hs
    · exact List.mem_cons_of_mem _ (List.mem_append_right _ (List.mem_map_of_mem hp))
    · exact List.mem_cons_of_mem _ (List.mem_append_left _ (List.mem_map_of_mem hp))
  have hun : unseen ps one (st.1.put g (w ++ [s])).keys < unseen ps one st.1.keys := by
    rw [Dic.keys_put_new hg]; exact unseen_lt hgm hg
  have hl : (st.1.put g (w ++ [s])).l = st.1.l ++ [(g, w ++ [s])] := Dic.put_new hg
  refine ⟨⟨Dic.nodup_put I.nd, Dic.mem_put.mpr (.inr I.one_), fun f hf => ?_, fun f v hv => ?_, fun f v hv => ?_, fun f v hv => ?_, fun f hf => ?_, ?_⟩, hun⟩
  · rcases Dic.mem_put.mp hf with rfl | hf
    · exact gg
    · exact I.good f hf
  · rw [hl] at hv
    rcases List.mem_append.mp hv with hv | hv
    · exact I.walk f v hv
    · cases List.mem_singleton.mp hv
      exact .snoc (I.walk here w hw) hs
  · rw [hl] at hv
    rcases List.mem_append.mp hv with hv | hv
    · obtain ⟨h1, h2⟩ := I.names f v hv
      refine ⟨h1, fun n hn => ?_⟩
      obtain ⟨p, a, b, c, d⟩ := h2 n hn
      exact ⟨p, a, b, Dic.mem_put.mpr (.inr c), Dic.mem_put.mpr (.inr d)⟩
    · cases List.mem_singleton.mp hv
      obtain ⟨h1, h2⟩ := I.names here w hw
      have hk : here ∈ st.1.keys := List.mem_map.mpr ⟨_, hw, rfl⟩
      obtain ⟨p, hp, en, hd⟩ := hs
      constructor
      · rw [List.map_append, List.nodup_append]
        refine ⟨h1, by simp, fun x hx y hy e => ?_⟩
        have hy' : y = s.1 := by simpa using hy
        subst hy'; subst e
        obtain ⟨p', a, b, c, d⟩ := h2 _ hx
        have : p' = p := by
          obtain ⟨i, hi, ei⟩ := List.getElem_of_mem a
          obtain ⟨j, hj, ej⟩ := List.getElem_of_mem hp
          have hij : i = j := by
            have := List.pairwise_iff_getElem.mp nn
            rcases Nat.lt_trichotomy i j with h | h | h
            · exact absurd (show (ps.map (·.name))[i]'(by simpa using hi) = (ps.map (·.name))[j]'(by simpa using hj) by rw [List.getElem_map, List.getElem_map, ei, ej, b, en]) (this i j (by simpa using hi) (by simpa using hj) h)
            · exact h
            · exact absurd (show (ps.map (·.name))[j]'(by simpa using hj) = (ps.map (·.name))[i]'(by simpa using hi) by rw [List.getElem_map, List.getElem_map, ei, ej, b, en]) (this j i (by simpa using hj) (by simpa using hi) h)
          subst hij; exact ei.symm.trans ej
        subst this
        rcases hd with ⟨_, _, rfl⟩ | ⟨_, _, rfl⟩
        · exact hg d
        · exact hg c
      · intro n hn
        rw [List.map_append, List.mem_append] at hn
        rcases hn with hn | hn
        · obtain ⟨p, a, b, c, d⟩ := h2 n hn
          exact ⟨p, a, b, Dic.mem_put.mpr (.inr c), Dic.mem_put.mpr (.inr d)⟩
        · have hn' : n = s.1 := by simpa using hn
          subst hn'
          refine ⟨p, hp, en, ?_⟩
          rcases hd with ⟨_, rfl, rfl⟩ | ⟨_, rfl, rfl⟩
          · exact ⟨Dic.mem_put.mpr (.inr hk), Dic.mem_put.mpr (.inl rfl)⟩
          · exact ⟨Dic.mem_put.mpr (.inl rfl), Dic.mem_put.mpr (.inr hk)⟩
  · rw [hl] at hv ⊢
    rw [List.length_append]
    rcases List.mem_append.mp hv with hv | hv
    · have := I.len f v hv; omega
    · cases List.mem_singleton.mp hv
      have := I.len here w hw
      simp; omega
  · rcases List.mem_append.mp hf with hf | hf
    · exact Dic.mem_put.mpr (.inr (I.q f hf))
    · exact Dic.mem_put.mpr (.inl (List.mem_singleton.mp hf))
  · show (st.1.put g (w ++ [s])).l.length + unseen ps one (st.1.put g (w ++ [s])).keys ≤ _
    rw [hl, List.length_append]
    have := I.card
    simp; omega


/-- a face's neighbours are found -/
def ClosedP (ks : List Str) (f : Str) (p : PartV) : Prop := (p.start = f → p.fin ∈ ks) ∧ (p.fin = f → p.start ∈ ks)
theorem ClosedP.mono {ks ks' : List Str} {f : Str} {p : PartV} (h : ClosedP ks f p) (hs : ∀ k ∈ ks, k ∈ ks') : ClosedP ks' f p := ⟨fun e => hs _ (h.1 e), fun e => hs _ (h.2 e)⟩
structure InvF (ps : List PartV) (one here : Str) (M : Nat) (pre : List PartV) (st : WSt) : Prop where
  I : InvW ps one st
  here_ : here ∈ st.1.keys
  closed : ∀ f ∈ st.1.keys, f ∉ st.2 → f ≠ here → ∀ p ∈ ps, ClosedP st.1.keys f p
  now : ∀ p ∈ pre, ClosedP st.1.keys here p
  m : unseen ps one st.1.keys + st.2.length ≤ M
theorem InvF.add {ps : List PartV} {one here g : Str} {M : Nat} {pre : List PartV} {x : PartV} {st : WSt} {s : Str × Bool} {w : List (Str × Bool)} (nn : (ps.map (·.name)).Nodup) (hp : GdP ps) (F : InvF ps one here M pre st) (hw : (here, w) ∈ st.1.l) (hs : StepP ps here s g) (hg : g ∉ st.1.keys) (gg : GdS g)
    (hx : ∀ ks : List Str, g ∈ ks → ClosedP ks here x ∨ True) (hc : ClosedP (st.1.put g (w ++ [s])).keys here x) : InvF ps one here M (pre ++ [x]) (st.1.put g (w ++ [s]), st.2 ++ [g]) := by
  obtain ⟨h1, h2⟩ := F.I.add nn hp hw hs hg gg
  have mono : ∀ k ∈ st.1.keys, k ∈ (st.1.put g (w ++ [s])).keys := fun k hk => Dic.mem_put.mpr (.inr hk)
  refine ⟨h1, mono _ F.here_, fun f hf hq hne p hp => ?_, fun p hp => ?_, ?_⟩
  · have hfq : f ∉ st.2 := fun h => hq (List.mem_append_left _ h)
    have hfg : f ≠ g := fun e => hq (List.mem_append_right _ (List.mem_singleton.mpr e))
    exact (F.closed f ((Dic.mem_put.mp hf).resolve_left hfg) hfq hne p hp).mono mono
  · rcases List.mem_append.mp hp with hp | hp
    · exact (F.now p hp).mono mono
    · cases List.mem_singleton.mp hp
      exact hc
  · show unseen ps one (st.1.put g (w ++ [s])).keys + (st.2 ++ [g]).length ≤ M
    have := F.m
    rw [List.length_append, List.length_singleton]; omega
theorem way_ok (ps : List PartV) (nn : (ps.map (·.name)).Nodup) (hp : GdP ps) (one other : Str) (go : GdS one) : ∃ r, F_way_between ps one other = .ok r ∧
    (∀ w, r = some w → WalkP ps one w other ∧ (w.map (·.1)).Nodup ∧ w.length ≤ 2 * ps.length + 1) ∧ (r = none → ¬ JoinP ps one other) := by
  have hfew := hp.few
  have key : (F_way_between ps one other).sat fun r => (∀ w, r = some w → WalkP ps one w other ∧ (w.map (·.1)).Nodup ∧ w.length ≤ 2 * ps.length + 1) ∧ (r = none → ¬ JoinP ps one other) := by
    unfold F_way_between
    simp only [R.ok_bind, R.exc_bind, R.bad_bind, R.bind_assoc, R.noexc_ok, R.b2, R.map, R.cond, R.flow, addI, subI, andB, orB, unw_some, unw_none, few_nil, ofRat, isCls, Option.isNone_none, Option.isNone_some, Bool.not_true, Bool.not_false, Bool.false_eq_true, if_true, if_false]
    rw [few_ok (by simp), R.ok_bind]
    refine sat_bind (whileR_inv (fun st : WSt => InvW ps one st ∧ (∀ f ∈ st.1.keys, f ∉ st.2 → ∀ p ∈ ps, ClosedP st.1.keys f p) ∧ unseen ps one st.1.keys + st.2.length ≤ 2 * ps.length + 1) (fun st => unseen ps one st.1.keys + st.2.length) ?_ ?_) ?_
    · rintro ⟨d, qu⟩ ⟨I, hcl, hM⟩
      refine ⟨_, rfl, fun ht => ?_⟩
      cases qu with
      | nil => simp at ht
      | cons here qu =>
        have hk : here ∈ d.keys := I.q here List.mem_cons_self
        have gh := I.good here hk
        show (((R.ok (here, qu) : R (Str × List Str)).bind _) : R _).sat _
        rw [R.ok_bind]
        dsimp only
        have hM' : unseen ps one d.keys + qu.length ≤ 2 * ps.length := by
          have : unseen ps one d.keys + (qu.length + 1) ≤ 2 * ps.length + 1 := hM
          omega
        refine sat_bind (foldR_ind (InvF ps one here (unseen ps one d.keys + qu.length)) ?_ ?_) ?_
        · intro pre x post st epx F
          have hx : x ∈ ps := by rw [epx]; exact List.mem_append_right _ List.mem_cons_self
          obtain ⟨w, hw1, hw2, hw3⟩ := getR_of F.here_
          have hlen := F.I.len _ _ hw2
          have hcard := F.I.card
          have hq : st.2.length < 1000000 := by have := F.m; omega
          have fA : ∀ b : Bool, few [(x.name, b)] = .ok [(x.name, b)] := fun b => few_ok (by simp)
          have fB : ∀ b : Bool, few (w ++ [(x.name, b)]) = .ok (w ++ [(x.name, b)]) := fun b => few_ok (by rw [List.length_append]; simp; omega)
          have fC : fewD st.1 = .ok () := fewD_ok (by omega)
          have fD : few st.2 = .ok st.2 := few_ok hq
          have back : x.fin = here → x.start ∉ st.1.keys → (R.ok (st.1.put x.start (w ++ [(x.name, false)]), st.2 ++ [x.start])).sat (InvF ps one here (unseen ps one d.keys + qu.length) (pre ++ [x])) := fun h3 h4 =>
            sat_ok (F.add nn hp hw2 ⟨x, hx, rfl, .inr ⟨rfl, h3, rfl⟩⟩ h4 (hp.st x hx) (fun _ _ => .inr trivial) ⟨fun e => absurd (e ▸ F.here_) h4, fun _ => Dic.mem_put.mpr (.inl rfl)⟩)
          have stay : ClosedP st.1.keys here x → (R.ok st).sat (InvF ps one here (unseen ps one d.keys + qu.length) (pre ++ [x])) := fun hc =>
            sat_ok ⟨F.I, F.here_, F.closed, fun p hp => by
              rcases List.mem_append.mp hp with hp | hp
              · exact F.now p hp
              · cases List.mem_singleton.mp hp; exact hc, F.m⟩
          rw [eqS (hp.st x hx) gh, R.ok_bind, eqS (hp.fi x hx) gh]
          simp only [R.ok_bind, R.exc_bind, R.bad_bind, R.bind_assoc, R.noexc_ok, R.b2, R.map, R.cond, R.flow, addI, subI, andB, orB, unw_some, unw_none, few_nil, ofRat, isCls, Option.isNone_none, Option.isNone_some, Bool.not_true, Bool.not_false, Bool.false_eq_true, if_true, if_false, hw3, fA, fB, fC, fD, Dic.isSome_dec]
          by_cases h1 : x.start = here
          · by_cases h2 : x.fin ∈ st.1.keys
            · simp only [h1, h2, decide_true, decide_false, Bool.not_true, Bool.not_false, if_true, if_false, R.ok_bind, Bool.false_eq_true]
              by_cases h3 : x.fin = here
              · have h4 : here ∈ st.1.keys := F.here_
                simp only [h3, h4, decide_true, decide_false, Bool.not_true, Bool.not_false, if_true, if_false, R.ok_bind, Bool.false_eq_true]
                exact stay ⟨fun _ => h2, fun _ => h1 ▸ F.here_⟩
              · simp only [h3, decide_false, if_false, R.ok_bind, Bool.false_eq_true]
                exact stay ⟨fun _ => h2, fun e => absurd e h3⟩
            · simp only [h1, h2, decide_true, decide_false, Bool.not_true, Bool.not_false, if_true, if_false, R.ok_bind, Bool.false_eq_true]
              exact sat_ok (F.add nn hp hw2 ⟨x, hx, rfl, .inl ⟨rfl, h1, rfl⟩⟩ h2 (hp.fi x hx) (fun _ _ => .inr trivial) ⟨fun _ => Dic.mem_put.mpr (.inl rfl), fun e => absurd (e ▸ F.here_) h2⟩)
          · simp only [h1, decide_false, if_false, R.ok_bind, Bool.false_eq_true]
            by_cases h3 : x.fin = here
            · by_cases h4 : x.start ∈ st.1.keys
              · simp only [h3, h4, decide_true, decide_false, Bool.not_true, Bool.not_false, if_true, if_false, R.ok_bind, Bool.false_eq_true]
                exact stay ⟨fun e => absurd e h1, fun _ => h4⟩
              · simp only [h3, h4, decide_true, decide_false, Bool.not_true, Bool.not_false, if_true, if_false, R.ok_bind, Bool.false_eq_true]
                exact back h3 h4
            · simp only [h3, decide_false, if_false, R.ok_bind, Bool.false_eq_true]
              exact stay ⟨fun e => absurd e h1, fun e => absurd e h3⟩
        · refine ⟨⟨I.nd, I.one_, I.good, I.walk, I.names, I.len, fun f hf => I.q f (List.mem_cons_of_mem _ hf), I.card⟩, hk, fun f hf hq hne => hcl f hf ?_, fun p hp => (nomatch hp), Nat.le_refl _⟩
          intro h
          rcases List.mem_cons.mp h with h | h
          · exact hne h
          · exact hq h
        · intro st F
          refine sat_ok ⟨st, rfl, ⟨F.I, fun f hf hq p hp => ?_, ?_⟩, ?_⟩
          · by_cases e : f = here
            · subst e; exact F.now p hp
            · exact F.closed f hf hq e p hp
          · have := F.m; omega
          · show unseen ps one st.1.keys + st.2.length < unseen ps one d.keys + (qu.length + 1)
            have := F.m; omega
    · refine ⟨⟨?_, ?_, ?_, ?_, ?_, ?_, ?_, ?_⟩, ?_, ?_⟩
      · show [one].Nodup; simp
      · show one ∈ [one]; simp
      · intro f hf
        have : f ∈ [one] := hf
        rw [List.mem_singleton.mp this]; exact go
      · intro f w h
        have : (f, w) ∈ [(one, ([] : List (Str × Bool)))] := h
        cases List.mem_singleton.mp this; exact .nil _
      · intro f w h
        have : (f, w) ∈ [(one, ([] : List (Str × Bool)))] := h
        cases List.mem_singleton.mp this
        exact ⟨by simp, fun n hn => (nomatch hn)⟩
      · intro f w h
        have : (f, w) ∈ [(one, ([] : List (Str × Bool)))] := h
        cases List.mem_singleton.mp this
        show 0 < 1; decide
      · intro f hf
        exact hf
      · show 1 + unseen ps one [one] ≤ _
        exact unseen_le ps one
      · intro f hf hq
        exact absurd hf hq
      · show unseen ps one [one] + 1 ≤ _
        have := unseen_le ps one; omega
    · rintro r ⟨⟨d, qu⟩, rfl, ⟨I, hcl, _⟩, hc⟩
      have hq : qu = [] := by
        have : decide ((0 : Int) < (qu.length : Int)) = false := R.ok.inj hc
        have h2 : ¬ (0 : Int) < (qu.length : Int) := of_decide_eq_false this
        exact List.eq_nil_of_length_eq_zero (by omega)
      subst hq
      refine sat_ok ⟨fun w hw => ?_, fun hn hj => ?_⟩
      · have hm := Dic.get_some_mem hw
        have := I.len _ _ hm
        have hcd : d.l.length + unseen ps one d.keys ≤ 2 * ps.length + 1 := I.card
        have h5 : w.length < d.l.length := this
        exact ⟨I.walk _ _ hm, (I.names _ _ hm).1, by omega⟩
      · have hn' := Dic.none_iff.mp hn
        refine hn' ?_
        clear hn hn' hc
        induction hj with
        | refl => exact I.one_
        | fwd _ hp ih => exact (hcl _ ih (fun h => nomatch h) _ hp).1 rfl
        | bwd _ hp ih => exact (hcl _ ih (fun h => nomatch h) _ hp).2 rfl
  obtain ⟨r, e, h1, h2⟩ := key
  exact ⟨r, e, h1, h2⟩
end TF

/-! PT2: things made; middles, rooms. -/
namespace TF
open PySem PySem.Spec PyProof.Rows L2 DL FR
open Enc KeyT
structure OkP (p : PartV) : Prop where
  n : nameB p.name = true
  s : nameB p.start = true
  f : nameB p.fin = true
  ne : p.start ≠ p.fin
  most : 0 ≤ p.most
  w : 0 < p.weight
structure OkG (g : GapV) : Prop where
  n : nameB g.name = true
  s : nameB g.one = true
  f : nameB g.other = true
  ne : g.one ≠ g.other
  lo : Sm g.low
  hi : Sm g.high
  le : g.low ≤ g.high
theorem nm_of {z : Str} (h : nameB z = true) : nmOk z := nameB_few h
theorem gd_of {z : Str} (h : nameB z = true) : GdS z := (nameB_few h).2
theorem fracB_enc (q : Rat) : F_is_fraction (enc q) = .ok true := by
  unfold F_is_fraction
  rw [if_pos (by show tyOk noHeap (frD q) = true; rw [frD_def]; rfl)]
  congr 1
  show fracB (frD q) = true
  rw [fracB_eq, deFr_frD]; rfl
open Classical in
theorem is_part_ok {p : PartV} (h : OkP p) : F_is_part p = .ok true := by
  unfold F_is_part
  simp only [R.ok_bind, R.exc_bind, R.bad_bind, R.bind_assoc, R.noexc_ok, R.b2, R.map, R.cond, R.flow, addI, subI, andB, orB, unw_some, unw_none, few_nil, ofRat, isCls, Option.isNone_none, Option.isNone_some, Bool.not_true, Bool.not_false, Bool.false_eq_true, if_true, if_false]
  have e1 : F_has_ends (enc p) 6 = .ok true := by
    show (if nmOk p.name ∧ nmOk p.start ∧ nmOk p.fin then R.ok (endsB p.name p.start p.fin _ 6) else R.bad) = _
    rw [if_pos ⟨nm_of h.n, nm_of h.s, nm_of h.f⟩]
    unfold endsB
    rw [h.n, h.s, h.f, decide_eq_false h.ne]; rfl
  have e2 : F_is_whole (enc p.weight) = .ok true := by rfl
  rw [e1, fracB_enc, fracB_enc, e2]
  simp only [R.ok_bind, R.exc_bind, R.bad_bind, R.bind_assoc, R.noexc_ok, R.b2, R.map, R.cond, R.flow, addI, subI, andB, orB, unw_some, unw_none, few_nil, ofRat, isCls, Option.isNone_none, Option.isNone_some, Bool.not_true, Bool.not_false, Bool.false_eq_true, if_true, if_false]
  have h0 : (0 : Int) ≤ p.most.num := Rat.num_nonneg.mpr h.most
  simp [h0, h.w]
open Classical in
theorem is_gap_ok {g : GapV} (h : OkG g) : F_is_gap g = .ok true := by
  unfold F_is_gap
  simp only [R.ok_bind, R.exc_bind, R.bad_bind, R.bind_assoc, R.noexc_ok, R.b2, R.map, R.cond, R.flow, addI, subI, andB, orB, unw_some, unw_none, few_nil, ofRat, isCls, Option.isNone_none, Option.isNone_some, Bool.not_true, Bool.not_false, Bool.false_eq_true, if_true, if_false]
  have e1 : F_has_ends (enc g) 5 = .ok true := by
    show (if nmOk g.name ∧ nmOk g.one ∧ nmOk g.other then R.ok (endsB g.name g.one g.other _ 5) else R.bad) = _
    rw [if_pos ⟨nm_of h.n, nm_of h.s, nm_of h.f⟩]
    unfold endsB
    rw [h.n, h.s, h.f, decide_eq_false h.ne]; rfl
  have e2 : F_under g.high g.low = .ok false := by
    unfold F_under
    rw [if_pos ⟨h.hi, h.lo⟩, decide_eq_false (Rat.not_lt.mpr h.le)]
  rw [e1, fracB_enc, fracB_enc, e2]
  simp only [R.ok_bind, R.exc_bind, R.bad_bind, R.bind_assoc, R.noexc_ok, R.b2, R.map, R.cond, R.flow, addI, subI, andB, orB, unw_some, unw_none, few_nil, ofRat, isCls, Option.isNone_none, Option.isNone_some, Bool.not_true, Bool.not_false, Bool.false_eq_true, if_true, if_false]

theorem gdP {ps : List PartV} (h : ∀ p ∈ ps, OkP p) (hl : ps.length < 1000) : GdP ps := ⟨hl, fun p hp => gd_of (h p hp).s, fun p hp => gd_of (h p hp).f⟩
theorem add_part_ok {t : ThingV} {x : PartV} (nn : (t.parts.map (·.name)).Nodup) (hp : ∀ p ∈ t.parts, OkP p) (hx : OkP x) (hl : t.parts.length < 1000) (hn : x.name ∉ t.sizes.keys) (hk : t.sizes.l.length < 1000000) (hj : ¬ JoinP t.parts x.start x.fin) :
    F_Thing_add_part t x = .ok { t with parts := t.parts ++ [x], sizes := t.sizes.put x.name x.size } := by
  unfold F_Thing_add_part
  simp only [R.ok_bind, R.exc_bind, R.bad_bind, R.bind_assoc, R.noexc_ok, R.b2, R.map, R.cond, R.flow, addI, subI, andB, orB, unw_some, unw_none, few_nil, ofRat, isCls, Option.isNone_none, Option.isNone_some, Bool.not_true, Bool.not_false, Bool.false_eq_true, if_true, if_false]
  obtain ⟨r, e, h1, h2⟩ := way_ok t.parts nn (gdP hp hl) x.start x.fin (gd_of hx.s)
  have hr : r = none := by
    cases r with
    | none => rfl
    | some w => exact absurd (h1 w rfl).1.join hj
  subst hr
  rw [is_part_ok hx, e, Dic.isSome_dec, decide_eq_false hn, few_ok (by omega), fewD_ok hk]
  simp only [R.ok_bind, R.exc_bind, R.bad_bind, R.bind_assoc, R.noexc_ok, R.b2, R.map, R.cond, R.flow, addI, subI, andB, orB, unw_some, unw_none, few_nil, ofRat, isCls, Option.isNone_none, Option.isNone_some, Bool.not_true, Bool.not_false, Bool.false_eq_true, if_true, if_false]
theorem add_gap_ok {t : ThingV} {x : GapV} (nn : (t.parts.map (·.name)).Nodup) (hp : ∀ p ∈ t.parts, OkP p) (hx : OkG x) (hl : t.parts.length < 1000) (hn : x.name ∉ t.ways.keys) (hg : t.gaps.length < 1000000) (hk : t.ways.l.length < 1000000) (hj : JoinP t.parts x.one x.other) :
    ∃ w, F_Thing_add_gap t x = .ok { t with gaps := t.gaps ++ [x], ways := t.ways.put x.name w } ∧ WalkP t.parts x.one w x.other ∧ (w.map (·.1)).Nodup ∧ w.length ≤ 2 * t.parts.length + 1 := by
  obtain ⟨r, e, h1, h2⟩ := way_ok t.parts nn (gdP hp hl) x.one x.other (gd_of hx.s)
  cases r with
  | none => exact absurd hj (h2 rfl)
  | some w =>
    refine ⟨w, ?_, h1 w rfl⟩
    unfold F_Thing_add_gap
    simp only [R.ok_bind, R.exc_bind, R.bad_bind, R.bind_assoc, R.noexc_ok, R.b2, R.map, R.cond, R.flow, addI, subI, andB, orB, unw_some, unw_none, few_nil, ofRat, isCls, Option.isNone_none, Option.isNone_some, Bool.not_true, Bool.not_false, Bool.false_eq_true, if_true, if_false]
    rw [is_gap_ok hx, e, Dic.isSome_dec, decide_eq_false hn, few_ok (by omega), fewD_ok hk]
    simp only [R.ok_bind, R.exc_bind, R.bad_bind, R.bind_assoc, R.noexc_ok, R.b2, R.map, R.cond, R.flow, addI, subI, andB, orB, unw_some, unw_none, few_nil, ofRat, isCls, Option.isNone_none, Option.isNone_some, Bool.not_true, Bool.not_false, Bool.false_eq_true, if_true, if_false]
/-- a thing of these parts and gaps -/
structure ThOk (ps : List PartV) (gs : List GapV) (t : ThingV) : Prop where
  parts : t.parts = ps
  gaps : t.gaps = gs
  sizes : t.sizes.l = ps.map fun p => (p.name, p.size)
  ways : t.ways.keys = gs.map (·.name)
  way : ∀ g ∈ gs, ∃ w, t.ways.get? g.name = some w ∧ WalkP ps g.one w g.other ∧ (w.map (·.1)).Nodup ∧ w.length ≤ 2 * ps.length + 1
/-- parts and gaps that make a thing -/
structure Fit (ps : List PartV) (gs : List GapV) : Prop where
  lp : ps.length < 1000
  lg : gs.length < 1000
  okP : ∀ p ∈ ps, OkP p
  okG : ∀ g ∈ gs, OkG g
  nP : (ps.map (·.name)).Nodup
  nG : (gs.map (·.name)).Nodup
  tree : ∀ pre x post, ps = pre ++ x :: post → ¬ JoinP pre x.start x.fin
  join : ∀ g ∈ gs, JoinP ps g.one g.other
theorem nodup_pre {α : Type} {l m : List α} {x : α} (h : (l ++ x :: m).Nodup) : l.Nodup ∧ x ∉ l := by
  rw [List.nodup_append] at h
  refine ⟨h.1, fun hx => h.2.2 x hx x List.mem_cons_self rfl⟩
theorem thing_ok {ps : List PartV} {gs : List GapV} (F : Fit ps gs) : (F_Thing ps gs).sat (ThOk ps gs) := by
  unfold F_Thing
  have hlp := F.lp
  have hlg := F.lg
  simp only [R.ok_bind, R.exc_bind, R.bad_bind, R.bind_assoc, R.noexc_ok, R.b2, R.map, R.cond, R.flow, addI, subI, andB, orB, unw_some, unw_none, few_nil, ofRat, isCls, Option.isNone_none, Option.isNone_some, Bool.not_true, Bool.not_false, Bool.false_eq_true, if_true, if_false]
  refine sat_bind (foldR_ind (fun pre (t : ThingV) => t.parts = pre ∧ t.gaps = [] ∧ t.ways = ⟨[]⟩ ∧ t.sizes.l = pre.map fun p => (p.name, p.size)) ?_ ⟨rfl, rfl, rfl, rfl⟩) ?_
  · rintro pre x post t e ⟨h1, h2, h3, h4⟩
    have hx : x ∈ ps := by rw [e]; exact List.mem_append_right _ List.mem_cons_self
    have hpre : ∀ p ∈ pre, p ∈ ps := fun p hp => by rw [e]; exact List.mem_append_left _ hp
    have hlen : pre.length < ps.length := by rw [e, List.length_append, List.length_cons]; omega
    have nn := F.nP
    rw [e, List.map_append, List.map_cons] at nn
    obtain ⟨n1, n2⟩ := nodup_pre nn
    have hn : x.name ∉ t.sizes.keys := by
      unfold Dic.keys
      rw [h4, List.map_map]; exact n2
    rw [add_part_ok (by rw [h1]; exact n1) (by rw [h1]; exact fun p hp => F.okP p (hpre p hp)) (F.okP x hx) (by rw [h1]; omega) hn (by rw [h4, List.length_map]; omega) (by rw [h1]; exact F.tree pre x post e), R.ok_bind]
    refine sat_ok ⟨?_, h2, h3, ?_⟩
    · show t.parts ++ [x] = _
      rw [h1]
    · show (t.sizes.put x.name x.size).l = _
      rw [Dic.put_new hn, h4, List.map_append]; rfl
  · rintro t0 ⟨h1, h2, h3, h4⟩
    refine sat_bind (foldR_ind (fun pre (t : ThingV) => ThOk ps pre t) ?_ ⟨h1, h2, h4, by rw [h3]; rfl, fun g hg => (nomatch hg)⟩) fun t h => sat_ok h
    intro pre x post t e T
    have hx : x ∈ gs := by rw [e]; exact List.mem_append_right _ List.mem_cons_self
    have hlen : pre.length < gs.length := by rw [e, List.length_append, List.length_cons]; omega
    have nn := F.nG
    rw [e, List.map_append, List.map_cons] at nn
    obtain ⟨n1, n2⟩ := nodup_pre nn
    have hn : x.name ∉ t.ways.keys := by rw [T.ways]; exact n2
    have hwl : t.ways.l.length = pre.length := by rw [← Dic.len_keys, T.ways, List.length_map]
    obtain ⟨w, e1, e2, e3, e4⟩ := add_gap_ok (t := t) (x := x) (by rw [T.parts]; exact F.nP) (by rw [T.parts]; exact F.okP) (F.okG x hx) (by rw [T.parts]; omega) hn (by rw [T.gaps]; omega) (by omega) (by rw [T.parts]; exact F.join x hx)
    rw [e1, R.ok_bind]
    rw [T.parts] at e2 e4
    refine sat_ok ⟨T.parts, ?_, T.sizes, ?_, fun g hg => ?_⟩
    · show t.gaps ++ [x] = _
      rw [T.gaps]
    · show (t.ways.put x.name w).keys = _
      rw [Dic.keys_put_new hn, T.ways, List.map_append]; rfl
    · show ∃ w', (t.ways.put x.name w).get? g.name = some w' ∧ _
      rw [Dic.get_put]
      rcases List.mem_append.mp hg with hg | hg
      · obtain ⟨w', q1, q2⟩ := T.way g hg
        refine ⟨w', ?_, q2⟩
        rw [if_neg, q1]
        intro e
        exact n2 (e ▸ List.mem_map_of_mem hg)
      · cases List.mem_singleton.mp hg
        exact ⟨w, if_pos rfl, e2, e3, e4⟩
/-! ### sums along a way -/
/-- places that the sizes of parts keep -/
def PosP (ps : List PartV) (φ : Str → Rat) : Prop := ∀ p ∈ ps, φ p.fin = φ p.start + p.size
theorem JoinP.mono {ps qs : List PartV} (h : ∀ p ∈ ps, p ∈ qs) {f g : Str} (j : JoinP ps f g) : JoinP qs f g := by
  induction j with
  | refl => exact .refl _
  | fwd _ hp ih => exact .fwd ih (h _ hp)
  | bwd _ hp ih => exact .bwd ih (h _ hp)
theorem JoinP.trans {ps : List PartV} {f g h : Str} (a : JoinP ps f g) (b : JoinP ps g h) : JoinP ps f h := by
  induction b with
  | refl => exact a
  | fwd _ hp ih => exact .fwd ih hp
  | bwd _ hp ih => exact .bwd ih hp
theorem JoinP.symm {ps : List PartV} {f g : Str} (a : JoinP ps f g) : JoinP ps g f := by
  induction a with
  | refl => exact .refl _
  | fwd _ hp ih => exact JoinP.trans (.bwd (.refl _) hp) ih
  | bwd _ hp ih => exact JoinP.trans (.fwd (.refl _) hp) ih
theorem JoinP.const {α : Type} {ps : List PartV} {f g : Str} (φ : Str → α) (h : ∀ p ∈ ps, φ p.start = φ p.fin) (a : JoinP ps f g) : φ f = φ g := by
  induction a with
  | refl => rfl
  | fwd _ hp ih => rw [ih, h _ hp]
  | bwd _ hp ih => rw [ih, h _ hp]
/-- parts form no ring where each has a mark that it alone changes -/
theorem tree_of {α : Type} {ps : List PartV} (nn : (ps.map (·.name)).Nodup) (φ : Str → Str → α) (h1 : ∀ p ∈ ps, φ p.name p.start ≠ φ p.name p.fin) (h2 : ∀ p ∈ ps, ∀ q ∈ ps, p.name ≠ q.name → φ p.name q.start = φ p.name q.fin) :
    ∀ pre x post, ps = pre ++ x :: post → ¬ JoinP pre x.start x.fin := by
  intro pre x post e j
  have hx : x ∈ ps := by rw [e]; exact List.mem_append_right _ List.mem_cons_self
  rw [e, List.map_append, List.map_cons] at nn
  obtain ⟨n1, n2⟩ := nodup_pre nn
  refine h1 x hx (j.const (φ x.name) fun p hp => h2 x hx p (by rw [e]; exact List.mem_append_left _ hp) fun e2 => n2 (e2 ▸ List.mem_map_of_mem hp))
/-- the parts on a way are those whose marks its ends have unlike -/
theorem walk_names {ps : List PartV} {f g : Str} {w : List (Str × Bool)} {n : Str} (φ : Str → Bool) (h1 : ∀ p ∈ ps, p.name = n → φ p.start ≠ φ p.fin) (h2 : ∀ p ∈ ps, p.name ≠ n → φ p.start = φ p.fin) (h : WalkP ps f w g) (nd : (w.map (·.1)).Nodup) :
    n ∈ w.map (·.1) ↔ φ f ≠ φ g := by
  induction h with
  | nil => simp
  | @snoc w g s h hw hs ih =>
    rw [List.map_append, List.nodup_append] at nd
    have ih := ih nd.1
    obtain ⟨p, hp, en, hd⟩ := hs
    have hne : p.name = n → φ g ≠ φ h := fun e => by
      rcases hd with ⟨_, rfl, rfl⟩ | ⟨_, rfl, rfl⟩
      · exact h1 p hp e
      · exact fun e2 => h1 p hp e e2.symm
    have heq : p.name ≠ n → φ g = φ h := fun e => by
      rcases hd with ⟨_, rfl, rfl⟩ | ⟨_, rfl, rfl⟩
      · exact h2 p hp e
      · exact (h2 p hp e).symm
    rw [List.map_append, List.mem_append]
    by_cases e : p.name = n
    · have hs : s.1 = n := en.symm.trans e
      have hnw : n ∉ w.map (·.1) := fun hm => nd.2.2 n hm n (by simp [hs]) rfl
      have e1 : φ f = φ g := Classical.byContradiction fun hh => hnw (ih.mpr hh)
      constructor
      · intro _; rw [e1]; exact hne e
      · intro _; exact .inr (by simp [hs])
    · have hs : ¬ s.1 = n := fun h => e (en.trans h)
      rw [← heq e]
      constructor
      · rintro (h | h)
        · exact ih.mp h
        · simp at h; exact absurd h.symm hs
      · intro h; exact .inl (ih.mpr h)
theorem foldR_snoc {α σ : Type} {l : List α} {x : α} {s : σ} {f : α → σ → R σ} : foldR (l ++ [x]) s f = (foldR l s f).bind fun t => f x t := by
  induction l generalizing s with
  | nil =>
    show (f x s).bind (fun s => .ok s) = f x s
    cases f x s <;> rfl
  | cons y l ih =>
    show (f y s).bind (fun s => foldR (l ++ [x]) s f) = ((f y s).bind fun s => foldR l s f).bind _
    rw [R.bind_assoc]
    congr 1
    funext s
    exact ih
theorem size_get {ps : List PartV} {gs : List GapV} {t : ThingV} (T : ThOk ps gs t) (nn : (ps.map (·.name)).Nodup) {p : PartV} (hp : p ∈ ps) : getR t.sizes p.name = .ok p.size := by
  refine getR_ok (Dic.get_of_mem ?_ ?_)
  · unfold Dic.keys
    rw [T.sizes, List.map_map]; exact nn
  · rw [T.sizes]; exact List.mem_map.mpr ⟨p, hp, rfl⟩
theorem way_eq {ps : List PartV} {gs : List GapV} {t : ThingV} {n : Str} {w : List (Str × Bool)} (h : t.ways.get? n = some w) : F_Thing_way t n = .ok w := by
  unfold F_Thing_way
  simp only [R.ok_bind, R.exc_bind, R.bad_bind, R.bind_assoc, R.noexc_ok, R.b2, R.map, R.cond, R.flow, addI, subI, andB, orB, unw_some, unw_none, few_nil, ofRat, isCls, Option.isNone_none, Option.isNone_some, Bool.not_true, Bool.not_false, Bool.false_eq_true, if_true, if_false]
  rw [h, getR_ok h]
  simp only [R.ok_bind, R.exc_bind, R.bad_bind, R.bind_assoc, R.noexc_ok, R.b2, R.map, R.cond, R.flow, addI, subI, andB, orB, unw_some, unw_none, few_nil, ofRat, isCls, Option.isNone_none, Option.isNone_some, Bool.not_true, Bool.not_false, Bool.false_eq_true, if_true, if_false, Option.isSome_some]
theorem way_none {t : ThingV} {n : Str} (h : n ∉ t.ways.keys) : F_Thing_way t n = .exc "NoName" [] := by
  unfold F_Thing_way
  simp only [R.ok_bind, R.exc_bind, R.bad_bind, R.bind_assoc, R.noexc_ok, R.b2, R.map, R.cond, R.flow, addI, subI, andB, orB, unw_some, unw_none, few_nil, ofRat, isCls, Option.isNone_none, Option.isNone_some, Bool.not_true, Bool.not_false, Bool.false_eq_true, if_true, if_false]
  rw [Dic.none_iff.mpr h]
  simp only [R.ok_bind, R.exc_bind, R.bad_bind, R.bind_assoc, R.noexc_ok, R.b2, R.map, R.cond, R.flow, addI, subI, andB, orB, unw_some, unw_none, few_nil, ofRat, isCls, Option.isNone_none, Option.isNone_some, Bool.not_true, Bool.not_false, Bool.false_eq_true, if_true, if_false, Option.isSome_none]
theorem middle_ok {ps : List PartV} {gs : List GapV} {t : ThingV} (T : ThOk ps gs t) (nn : (ps.map (·.name)).Nodup) (φ : Str → Rat) (hφ : PosP ps φ) {one other : Str} {n : Str} {w : List (Str × Bool)} (hw : t.ways.get? n = some w) (hwk : WalkP ps one w other)
    (hS : ∀ f, JoinP ps one f → Sm (φ f - φ one)) (hs : ∀ p ∈ ps, Sm p.size) : F_Thing_middle t n = .ok (φ other - φ one) := by
  unfold F_Thing_middle
  simp only [R.ok_bind, R.exc_bind, R.bad_bind, R.bind_assoc, R.noexc_ok, R.b2, R.map, R.cond, R.flow, addI, subI, andB, orB, unw_some, unw_none, few_nil, ofRat, isCls, Option.isNone_none, Option.isNone_some, Bool.not_true, Bool.not_false, Bool.false_eq_true, if_true, if_false]
  rw [way_eq (ps := ps) (gs := gs) hw]
  have e0 : toRat (0, 1) = .ok 0 := by rw [show ((0 : Int), (1 : Int)) = ((0 : Rat).num, ((0 : Rat).den : Int)) from rfl]; exact toRat_num 0
  rw [e0]
  simp only [R.ok_bind, R.exc_bind, R.bad_bind, R.bind_assoc, R.noexc_ok, R.b2, R.map, R.cond, R.flow, addI, subI, andB, orB, unw_some, unw_none, few_nil, ofRat, isCls, Option.isNone_none, Option.isNone_some, Bool.not_true, Bool.not_false, Bool.false_eq_true, if_true, if_false]
  clear hw e0
  induction hwk with
  | nil => 
    show (R.ok (0 : Rat)).bind _ = _
    rw [R.ok_bind]
    congr 1
    grind
  | @snoc w g s h hw hs' ih =>
    rw [foldR_snoc]
    have hg := hS g hw.join
    obtain ⟨p, hp, en, hd⟩ := hs'
    have hsz := size_get T nn hp
    rw [en] at hsz
    have hfold : ∀ {m : R Rat} {q : Rat}, (m.bind fun st => R.ok st) = .ok q → m = .ok q := fun {m q} h => by cases m <;> simpa using h
    rw [hfold ih, R.ok_bind, hsz]
    simp only [R.ok_bind, R.exc_bind, R.bad_bind, R.bind_assoc, R.noexc_ok, R.b2, R.map, R.cond, R.flow, addI, subI, andB, orB, unw_some, unw_none, few_nil, ofRat, isCls, Option.isNone_none, Option.isNone_some, Bool.not_true, Bool.not_false, Bool.false_eq_true, if_true, if_false]
    rcases hd with ⟨e1, rfl, rfl⟩ | ⟨e1, rfl, rfl⟩
    · rw [e1]
      simp only [if_true]
      unfold F_plus
      rw [if_pos ⟨hg, hs p hp⟩, R.ok_bind, R.ok_bind]
      have := hφ p hp
      congr 1
      clear ih hfold
      grind
    · rw [e1]
      simp only [if_false, Bool.false_eq_true]
      unfold F_minus
      rw [if_pos ⟨hg, hs p hp⟩, R.ok_bind, R.ok_bind]
      have := hφ p hp
      congr 1
      clear ih hfold
      grind

theorem same_name {α : Type} {f : α → Str} {l : List α} (nn : (l.map f).Nodup) {a b : α} (ha : a ∈ l) (hb : b ∈ l) (h : f a = f b) : a = b := by
  induction l with
  | nil => cases ha
  | cons x l ih =>
    rw [List.map_cons, List.nodup_cons] at nn
    rcases List.mem_cons.mp ha with e1 | e1 <;> rcases List.mem_cons.mp hb with e2 | e2
    · exact e1.trans e2.symm
    · exact (nn.1 (List.mem_map.mpr ⟨b, e2, by rw [← e1]; exact h.symm⟩)).elim
    · exact (nn.1 (List.mem_map.mpr ⟨a, e1, by rw [← e2]; exact h⟩)).elim
    · exact ih nn.2 e1 e2
/-- the room that a gap leaves a middle -/
def roomV (g : GapV) (m : Rat) : Rat := if g.high - m < m - g.low then g.high - m else m - g.low
theorem room_ok {ps : List PartV} {gs : List GapV} {t : ThingV} (T : ThOk ps gs t) (nG : (gs.map (·.name)).Nodup) (ok : ∀ g ∈ gs, OkG g) {g : GapV} (hg : g ∈ gs) {m : Rat} (hm : F_Thing_middle t g.name = .ok m) (h1 : Sm m) (h2 : Sm (m - g.low)) (h3 : Sm (g.high - m)) :
    F_Thing_room t g.name = .ok (roomV g m) := by
  unfold F_Thing_room
  simp only [R.ok_bind, R.exc_bind, R.bad_bind, R.bind_assoc, R.noexc_ok, R.b2, R.map, R.cond, R.flow, addI, subI, andB, orB, unw_some, unw_none, few_nil, ofRat, isCls, Option.isNone_none, Option.isNone_some, Bool.not_true, Bool.not_false, Bool.false_eq_true, if_true, if_false]
  rw [hm, R.ok_bind, T.gaps]
  have key : (foldR gs (none : Option (Rat × Rat)) fun (x : GapV) (st : Option (Rat × Rat)) => (eqR false x.name g.name).bind fun c => if c = true then (F_minus m x.low).bind fun below => (F_minus x.high m).bind fun above => R.ok (some (below, above)) else R.ok st).sat fun st => g ∈ gs → st = some (m - g.low, g.high - m) := by
    refine foldR_ind (fun pre st => g ∈ pre → st = some (m - g.low, g.high - m)) ?_ (fun h => nomatch h)
    intro pre x post st e I
    have hx : x ∈ gs := by rw [e]; exact List.mem_append_right _ List.mem_cons_self
    rw [eqS (gd_of (ok x hx).n) (gd_of (ok g hg).n), R.ok_bind]
    by_cases hn : x.name = g.name
    · have := same_name nG hx hg hn
      subst this
      rw [decide_eq_true rfl, if_pos rfl]
      unfold F_minus
      rw [if_pos ⟨h1, (ok x hg).lo⟩, R.ok_bind, if_pos ⟨(ok x hg).hi, h1⟩, R.ok_bind]
      exact sat_ok fun _ => rfl
    · rw [decide_eq_false hn, if_neg (by decide)]
      refine sat_ok fun hm => I ?_
      rcases List.mem_append.mp hm with h | h
      · exact h
      · cases List.mem_singleton.mp h; exact absurd rfl hn
  obtain ⟨st, e, h⟩ := key
  rw [e, h hg, R.ok_bind, optR_some]
  unfold F_under roomV
  rw [if_pos ⟨h3, h2⟩, R.ok_bind]
  by_cases hc : g.high - m < m - g.low
  · rw [decide_eq_true hc, if_pos rfl, if_pos hc]
  · rw [decide_eq_false hc, if_neg (by decide), if_neg hc]
end TF

/-! PT3: fractions over a common bottom; what the laws on things draw. -/
namespace TF
open PySem PySem.Spec PyProof.Rows L2 DL FR
open Enc KeyT
/-- a fraction over a common bottom, not too great -/
def Gd (N M : Nat) (q : Rat) : Prop := (∃ k : Int, q * (N : Rat) = (k : Rat)) ∧ -(M : Rat) ≤ q ∧ q ≤ (M : Rat)
section
variable {N M M' : Nat} {q r : Rat}
theorem Gd.mono (h : Gd N M q) (hm : M ≤ M') : Gd N M' q := by
  have : (M : Rat) ≤ (M' : Rat) := Rat.natCast_le_natCast.mpr hm
  obtain ⟨h1, h2, h3⟩ := h
  exact ⟨h1, by grind, by grind⟩
theorem Gd.add (h : Gd N M q) (g : Gd N M' r) : Gd N (M + M') (q + r) := by
  obtain ⟨⟨k, hk⟩, h2, h3⟩ := h
  obtain ⟨⟨l, hl⟩, g2, g3⟩ := g
  refine ⟨⟨k + l, ?_⟩, ?_, ?_⟩
  · rw [Rat.intCast_add]; grind
  · rw [Rat.natCast_add]; grind
  · rw [Rat.natCast_add]; grind
theorem Gd.neg (h : Gd N M q) : Gd N M (-q) := by
  obtain ⟨⟨k, hk⟩, h2, h3⟩ := h
  refine ⟨⟨-k, ?_⟩, by grind, by grind⟩
  rw [Rat.intCast_neg]; grind
theorem Gd.sub (h : Gd N M q) (g : Gd N M' r) : Gd N (M + M') (q - r) := by
  rw [Rat.sub_eq_add_neg]; exact h.add g.neg
theorem Gd.zero : Gd N 0 0 := ⟨⟨0, by simp⟩, by simp, by simp⟩
theorem Gd.eq (hN : 0 < N) (h : Gd N M q) : ∃ k : Int, q = Rat.divInt k N ∧ k.natAbs ≤ M * N := by
  obtain ⟨⟨k, hk⟩, h2, h3⟩ := h
  have hN0 : (0 : Rat) < (N : Rat) := Rat.natCast_pos.mpr hN
  have hne : (N : Rat) ≠ 0 := by grind
  refine ⟨k, ?_, ?_⟩
  · rw [Rat.divInt_eq_div, Rat.intCast_natCast]
    grind
  · have a1 : (k : Rat) ≤ (M : Rat) * (N : Rat) := by rw [← hk]; exact Rat.mul_le_mul_of_nonneg_right h3 (Rat.le_of_lt hN0)
    have a2 : -((M : Rat) * (N : Rat)) ≤ (k : Rat) := by
      have := Rat.mul_le_mul_of_nonneg_right h2 (Rat.le_of_lt hN0)
      grind
    have b1 : k ≤ ((M * N : Nat) : Int) := by
      rw [← Rat.intCast_le_intCast, Rat.intCast_natCast, Rat.natCast_mul]; exact a1
    have b2 : -((M * N : Nat) : Int) ≤ k := by
      rw [← Rat.intCast_le_intCast, Rat.intCast_neg, Rat.intCast_natCast, Rat.natCast_mul]; exact a2
    omega
theorem Gd.sm (h : Gd N M q) (hN : 0 < N) (hM : M * N < 2 ^ 3000) (hN2 : N < 2 ^ 3000) : Sm q := by
  obtain ⟨k, e, hk⟩ := h.eq hN
  rw [e]
  exact sm_low (k := 3000) (by omega) (by omega) (by simpa using hN2) (Nat.le_refl _)
theorem gd_div {t b : Int} (hb : 0 < b) (hd : b ∣ (N : Int)) (ht : t.natAbs ≤ M) : Gd N M (Rat.divInt t b) := by
  obtain ⟨c, hc⟩ := hd
  have hb0 : (0 : Rat) < (b : Rat) := by
    have := Rat.intCast_lt_intCast.mpr hb; simpa using this
  have hne : (b : Rat) ≠ 0 := by grind
  rw [Rat.divInt_eq_div]
  have hN : (N : Rat) = (b : Rat) * (c : Rat) := by rw [← Rat.intCast_natCast, hc, Rat.intCast_mul]
  have hb1 : (1 : Rat) ≤ (b : Rat) := by
    have := Rat.intCast_le_intCast.mpr (show (1 : Int) ≤ b by omega); simpa using this
  refine ⟨⟨t * c, ?_⟩, ?_, ?_⟩
  · rw [hN, Rat.intCast_mul]; grind
  · refine Rat.not_lt.mp fun hlt => ?_
    have hx : (t : Rat) / (b : Rat) * (b : Rat) = (t : Rat) := Rat.div_mul_cancel hne
    have hlt := Rat.mul_lt_mul_of_pos_right hlt hb0
    have a1 : (-(M : Int) : Int) ≤ t := by omega
    have a2 : -(M : Rat) ≤ (t : Rat) := by
      have := Rat.intCast_le_intCast.mpr a1
      rw [Rat.intCast_neg, Rat.intCast_natCast] at this; exact this
    have a3 : (0 : Rat) ≤ (M : Rat) := Rat.natCast_nonneg
    have a4 : (M : Rat) * 1 ≤ (M : Rat) * (b : Rat) := Rat.mul_le_mul_of_nonneg_left hb1 a3
    grind
  · refine Rat.not_lt.mp fun hlt => ?_
    have hx : (t : Rat) / (b : Rat) * (b : Rat) = (t : Rat) := Rat.div_mul_cancel hne
    have hlt := Rat.mul_lt_mul_of_pos_right hlt hb0
    have a1 : t ≤ (M : Int) := by omega
    have a2 : (t : Rat) ≤ (M : Rat) := by
      have := Rat.intCast_le_intCast.mpr a1
      rw [Rat.intCast_natCast] at this; exact this
    have a3 : (0 : Rat) ≤ (M : Rat) := Rat.natCast_nonneg
    have a4 : (M : Rat) * 1 ≤ (M : Rat) * (b : Rat) := Rat.mul_le_mul_of_nonneg_left hb1 a3
    grind
end
/-! ### the laws' own functions -/
noncomputable def L_low (v_top : Int) (v_bottom : Int) : R Rat :=
  ((R.ok v_top)).bind fun (one_1 : Int) =>
  ((R.ok v_bottom)).bind fun (other_2 : Int) =>
  R.flow (whileR (fun (st_3 : Int × Int) => (R.b2 (R.ok st_3.2) (R.ok (0 : Int)) fun i j => .ok (!decide (i = j)))) (fun (st_3 : Int × Int) =>
  (((R.b2 (R.ok st_3.1) (R.ok st_3.2) modI)).bind fun (rest_14 : Int) =>
  ((R.ok st_3.2)).bind fun (one_15 : Int) =>
  ((R.ok rest_14)).bind fun (other_16 : Int) =>
  .ok (.nx (one_15, other_16)) : R (Fl (Int × Int) Rat))) ((one_1, other_2) : Int × Int)) (fun (st_3 : Int × Int) =>
  (((((R.b2 (R.ok v_top) (((R.ok st_3.1)).bind fun i => .ok (i.natAbs : Int)) divI)).bind fun t_21 => ((R.b2 (R.ok v_bottom) (((R.ok st_3.1)).bind fun i => .ok (i.natAbs : Int)) divI)).bind fun t_22 => R.ok (t_21, t_22))).bind toRat)) (fun r_23 => .ok r_23)
theorem low_ok {t b : Int} (hb : 0 < b) (hw : b.natAbs < 2 ^ 9000) : L_low t b = .ok (Rat.divInt t b) := by
  unfold L_low
  simp only [R.ok_bind, R.exc_bind, R.bad_bind, R.bind_assoc, R.noexc_ok, R.b2, R.map, R.cond, R.flow, addI, subI, andB, orB, unw_some, unw_none, few_nil, ofRat, isCls, Option.isNone_none, Option.isNone_some, Bool.not_true, Bool.not_false, Bool.false_eq_true, if_true, if_false]
  obtain ⟨n, rfl⟩ : ∃ n : Nat, b = n := ⟨b.toNat, by omega⟩
  rw [low_loop (n + 1) t n (by omega) (.inr (by omega)), R.ok_bind]
  simp only [Int.natAbs_natCast]
  have := low_frac (t := t) (b := (n : Int)) hb hw
  exact this
noncomputable def L_plus (v_one : Rat) (v_other : Rat) (v_sign : Int) : R Rat :=
  (((R.b2 (R.b2 (((R.ok v_one)).map fun q : Rat => q.num) (((R.ok v_other)).map fun q : Rat => (q.den : Int)) mulI) (R.b2 (R.b2 (R.ok v_sign) (((R.ok v_other)).map fun q : Rat => q.num) mulI) (((R.ok v_one)).map fun q : Rat => (q.den : Int)) mulI) addI)).bind fun c_11 => ((R.b2 (((R.ok v_one)).map fun q : Rat => (q.den : Int)) (((R.ok v_other)).map fun q : Rat => (q.den : Int)) mulI)).bind fun c_12 => L_low c_11 c_12)
theorem den_lt {q : Rat} (h : Sm q) : ((q.den : Int)).natAbs < 2 ^ 3000 := by have := h.2; simpa using this
theorem plus_ok {q r : Rat} {s : Int} (h : Sm q) (g : Sm r) (hs : s = 1 ∨ s = -1) : L_plus q r s = .ok (q + s * r) := by
  unfold L_plus
  simp only [R.ok_bind, R.exc_bind, R.bad_bind, R.bind_assoc, R.noexc_ok, R.b2, R.map, R.cond, R.flow, addI, subI, andB, orB, unw_some, unw_none, few_nil, ofRat, isCls, Option.isNone_none, Option.isNone_some, Bool.not_true, Bool.not_false, Bool.false_eq_true, if_true, if_false]
  have hd : (0 : Int) < (q.den : Int) * (r.den : Int) := Int.mul_pos (den_pos' q) (den_pos' r)
  have hdl : ((q.den : Int) * (r.den : Int)).natAbs < 2 ^ 9000 := Nat.lt_of_lt_of_le (mul_lt (den_lt h) (den_lt g)) (Nat.pow_le_pow_right (by decide) (by decide))
  rw [mulI_ok (mm1 h g), R.ok_bind]
  rcases hs with rfl | rfl
  · rw [mulI_ok (.inl (by decide)), R.ok_bind, Int.one_mul, mulI_ok (mm1 g h), R.ok_bind, mulI_ok (mm3 h g), R.ok_bind, low_ok hd hdl, add_fr]
    congr 1
    simp
  · rw [mulI_ok (.inl (by decide)), R.ok_bind]
    have e : (-1 : Int) * r.num = -r.num := by omega
    rw [e]
    have hm : DL.MulOk (-r.num) (q.den : Int) := mulOk_of (by simpa using g.1) (den_lt h) (by decide)
    rw [mulI_ok hm, R.ok_bind, mulI_ok (mm3 h g), R.ok_bind, low_ok hd hdl]
    have e2 : q.num * (r.den : Int) + -r.num * (q.den : Int) = q.num * (r.den : Int) - r.num * (q.den : Int) := by rw [Int.neg_mul]; omega
    rw [e2, sub_fr]
    congr 1
    have : ((-1 : Int) : Rat) = -1 := by rfl
    rw [this]; grind
theorem rngC_mem {lo j c x : Int} (hc : 0 < c) (h : x ∈ rngC lo c (cntC lo j c)) : lo ≤ x ∧ x < j := by
  unfold rngC at h
  rw [List.mem_map] at h
  obtain ⟨i, hi, rfl⟩ := h
  rw [List.mem_range] at hi
  unfold cntC at hi
  have h1 : (i : Int) + 1 ≤ (j - lo + c - 1) / c := by omega
  have h2 : ((i : Int) + 1) * c ≤ j - lo + c - 1 := by
    have := Int.ediv_mul_le (j - lo + c - 1) (show c ≠ 0 by omega)
    have := Int.mul_le_mul_of_nonneg_right h1 (show 0 ≤ c by omega)
    omega
  have h3 : 0 ≤ (i : Int) * c := Int.mul_nonneg (by omega) (by omega)
  rw [Int.add_mul] at h2
  omega
noncomputable def L_cell (step : Int) (v_script : (List Int)) (v_k : Int) : R Int :=
  ((R.ok (0 : Int))).bind fun (total_1 : Int) =>
  ((((R.ok v_k)).bind fun i => ((R.b2 (((R.ok v_script)).bind fun l => .ok (l.length : Int)) (R.ok (98 : Int)) fun i j => .ok (if j < i then j else i))).bind fun j => ((R.ok step)).bind fun k => rng3 i j k)).bind fun l_21 => (foldR l_21 (total_1 : Int) (fun (x_2 : Int) (st_3 : Int) =>
  ((R.b2 (R.ok st_3) (R.b2 (R.b2 (R.ok v_script) (R.ok x_2) ixL) (R.b2 (R.ok (1 : Int)) (R.ok x_2) addI) mulI) addI)).bind fun (total_20 : Int) =>
  .ok total_20)).bind fun (st_3 : Int) =>
  (R.ok st_3)
theorem cell_ok {step : Int} {ns : List Int} {k : Int} (hn : ns.length ≤ 63) (h0 : 0 ≤ k) (h1 : k < 1000) (hs : 0 < step ∧ step < 1000) : (L_cell step ns k).sat fun _ => True := by
  unfold L_cell
  simp only [R.ok_bind, R.exc_bind, R.bad_bind, R.bind_assoc, R.noexc_ok, R.b2, R.map, R.cond, R.flow, addI, subI, andB, orB, unw_some, unw_none, few_nil, ofRat, isCls, Option.isNone_none, Option.isNone_some, Bool.not_true, Bool.not_false, Bool.false_eq_true, if_true, if_false]
  have hm : (if (98 : Int) < (ns.length : Int) then (98 : Int) else (ns.length : Int)) = (ns.length : Int) := if_neg (by omega)
  rw [hm]
  unfold rng3
  rw [if_pos ⟨by omega, by omega, hs.1, by omega⟩, R.ok_bind]
  refine sat_bind (foldR_inv (fun _ => True) ?_ _ trivial) fun _ _ => sat_ok trivial
  intro x hx s _
  obtain ⟨q1, q2⟩ := rngC_mem hs.1 hx
  rw [ixL_ok (by omega) (by omega), R.ok_bind, mulI_ok (.inr (.inl (by omega))), R.ok_bind]
  exact sat_ok trivial
noncomputable def L_signed (v_cell_here : Int) (v_most : Int) : R Int :=
  R.cond (R.b2 (R.ok v_cell_here) (R.ok (0 : Int)) fun i j => .ok (decide (i < j)))
  ((R.b2 (R.ok (0 : Int)) (R.b2 (R.b2 (R.ok (0 : Int)) (R.ok v_cell_here) subI) (R.ok v_most) modI) subI))
  ((R.b2 (R.ok v_cell_here) (R.ok v_most) modI))
theorem signed_ok {c m : Int} (hm : 0 < m) : (L_signed c m).sat fun x => x.natAbs < m.natAbs := by
  unfold L_signed
  simp only [R.ok_bind, R.exc_bind, R.bad_bind, R.bind_assoc, R.noexc_ok, R.b2, R.map, R.cond, R.flow, addI, subI, andB, orB, unw_some, unw_none, few_nil, ofRat, isCls, Option.isNone_none, Option.isNone_some, Bool.not_true, Bool.not_false, Bool.false_eq_true, if_true, if_false]
  rw [modI_pos hm, modI_pos hm]
  have h1 := Int.emod_nonneg (0 - c) (show m ≠ 0 by omega)
  have h2 := Int.emod_lt_of_pos (0 - c) hm
  have h3 := Int.emod_nonneg c (show m ≠ 0 by omega)
  have h4 := Int.emod_lt_of_pos c hm
  split
  · exact sat_ok (by omega)
  · exact sat_ok (by omega)
/-- a name: a letter among others -/
def nmT (c : Nat) (k style : Nat) : Str := sl (List.replicate style c ++ [97 + k] ++ List.replicate (3 - style) c)
theorem nmT_ok {c k style : Nat} (hc : 97 ≤ c ∧ c ≤ 122) (hk : k < 26) (hs : style ≤ 3) : nameB (nmT c k style) = true := by
  unfold nmT
  rw [nameB_sl]
  constructor
  · simp only [List.length_append, List.length_replicate, List.length_cons, List.length_nil]; omega
  · intro x hx
    rcases List.mem_append.mp hx with hx | hx
    · rcases List.mem_append.mp hx with hx | hx
      · rw [List.eq_of_mem_replicate hx]; exact hc
      · rw [List.mem_singleton.mp hx]; omega
    · rw [List.eq_of_mem_replicate hx]; exact hc
theorem nmT_inj {c k k' style : Nat} (h : nmT c k style = nmT c k' style) : k = k' := by
  unfold nmT at h
  have := sl_inj h
  simp only [List.append_assoc, List.append_cancel_left_eq, List.cons_append, List.nil_append, List.cons.injEq] at this
  omega
noncomputable def L_name (abc : Str) (v_k : Int) (v_sign : Str) (v_style : Int) : R Str :=
  (R.b2 (R.b2 (R.b2 (R.ok v_sign) (R.ok v_style) mulS) (R.b2 (R.ok abc) (R.ok v_k) ixS) addS) (R.b2 (R.ok v_sign) (R.b2 (R.ok (3 : Int)) (R.ok v_style) subI) mulS) addS)
theorem name_ok {abc : Str} {n c : Nat} {k st : Int} (ha : abc = sl ((List.range n).map (97 + ·))) (hn : n < 100) (h0 : 0 ≤ k) (h1 : k < n) (h2 : 0 ≤ st) (h3 : st ≤ 3) : L_name abc k (sl [c]) st = .ok (nmT c k.toNat st.toNat) := by
  unfold L_name
  simp only [R.ok_bind, R.exc_bind, R.bad_bind, R.bind_assoc, R.noexc_ok, R.b2, R.map, R.cond, R.flow, addI, subI, andB, orB, unw_some, unw_none, few_nil, ofRat, isCls, Option.isNone_none, Option.isNone_some, Bool.not_true, Bool.not_false, Bool.false_eq_true, if_true, if_false]
  subst ha
  rw [mulS_one (by omega), R.ok_bind, ixS_ok (by simp; omega) h0 (by simpa using h1), R.ok_bind, addS_sl (by simp; omega), R.ok_bind, mulS_one (by omega), R.ok_bind, addS_sl (by simp; omega)]
  unfold nmT
  have : (3 - st).toNat = 3 - st.toNat := by omega
  rw [this]
  simp
theorem abc17 : (Str.ofString "abcdefghijklmnopq") = sl ((List.range 17).map (97 + ·)) := by decide +kernel
theorem abc26 : (Str.ofString "abcdefghijklmnopqrstuvwxyz") = sl ((List.range 26).map (97 + ·)) := by decide +kernel
theorem sf : (Str.ofString "f") = sl [102] := by decide +kernel
theorem sp_ : (Str.ofString "p") = sl [112] := by decide +kernel
theorem sg : (Str.ofString "g") = sl [103] := by decide +kernel
end TF

/-! PT4: parts drawn as trees. -/
namespace TF
open PySem PySem.Spec PyProof.Rows L2 DL FR
open Enc KeyT
/-- parts that grew as trees over faces: each face's root, its place, the parts from its root -/
structure TreeI (ps : List PartV) (ks : List Str) (root : Str → Str) (pos : Str → Rat) (ch : Str → List Str) : Prop where
  ok : ∀ p ∈ ps, OkP p
  nP : (ps.map (·.name)).Nodup
  st : ∀ p ∈ ps, p.start ∈ ks
  fi : ∀ p ∈ ps, p.fin ∈ ks
  pos : PosP ps pos
  rt : ∀ f ∈ ks, JoinP ps (root f) f
  rc : ∀ p ∈ ps, root p.start = root p.fin
  ch1 : ∀ f ∈ ks, ∀ n ∈ ch f, n ∈ ps.map (·.name)
  ch2 : ∀ p ∈ ps, (ch p.fin = ch p.start ++ [p.name] ∧ p.name ∉ ch p.start) ∨ (ch p.start = ch p.fin ++ [p.name] ∧ p.name ∉ ch p.fin)
  two : ∀ f ∈ ks, ∃ g ∈ ks, g ≠ f ∧ root g = root f
theorem TreeI.empty {root pos ch} : TreeI [] [] root pos ch := ⟨fun _ h => (nomatch h), by simp, fun _ h => (nomatch h), fun _ h => (nomatch h), fun _ h => (nomatch h), fun _ h => (nomatch h), fun _ h => (nomatch h), fun _ h => (nomatch h), fun _ h => (nomatch h), fun _ h => (nomatch h)⟩
theorem JoinP.more {ps qs : List PartV} {f g : Str} (j : JoinP ps f g) : JoinP (ps ++ qs) f g := j.mono fun p hp => List.mem_append_left _ hp
theorem TreeI.add {ps ks ks' root pos ch root' pos' ch'} (T : TreeI ps ks root pos ch) {p : PartV} {here there : Str} (ok : OkP p) (hn : p.name ∉ ps.map (·.name)) (ht : there ∉ ks) (hne : here ≠ there) (hk : ∀ f, f ∈ ks' ↔ f = there ∨ f = here ∨ f ∈ ks)
    (hr : ∀ f ∈ ks, root' f = root f) (hp : ∀ f ∈ ks, pos' f = pos f) (hc : ∀ f ∈ ks, ch' f = ch f) (hnew : here ∉ ks → root' here = here ∧ ch' here = [])
    (hr' : root' there = root' here) (hc' : ch' there = ch' here ++ [p.name]) (he : (p.start = here ∧ p.fin = there ∧ pos' there = pos' here + p.size) ∨ (p.start = there ∧ p.fin = here ∧ pos' there = pos' here - p.size)) : TreeI (ps ++ [p]) ks' root' pos' ch' := by
  have hst : ∀ q ∈ ps, q.start ∈ ks := T.st
  have hfi : ∀ q ∈ ps, q.fin ∈ ks := T.fi
  have ks_ : ∀ f ∈ ks, f ∈ ks' := fun f h => (hk f).mpr (.inr (.inr h))
  have hereK : here ∈ ks' := (hk here).mpr (.inr (.inl rfl))
  have thereK : there ∈ ks' := (hk there).mpr (.inl rfl)
  have split : ∀ {P : PartV → Prop}, (∀ q ∈ ps, P q) → P p → ∀ q ∈ ps ++ [p], P q := fun h1 h2 q hq => by
    rcases List.mem_append.mp hq with hq | hq
    · exact h1 q hq
    · cases List.mem_singleton.mp hq; exact h2
  have hch1 : ∀ f ∈ ks, ∀ n ∈ ch' f, n ∈ ps.map (·.name) := fun f hf n h => T.ch1 f hf n (by rw [← hc f hf]; exact h)
  have hhere : ∀ n ∈ ch' here, n ∈ ps.map (·.name) := fun n h => by
    by_cases hh : here ∈ ks
    · exact hch1 here hh n h
    · rw [(hnew hh).2] at h; cases h
  have jhere : JoinP (ps ++ [p]) (root' here) here := by
    by_cases hh : here ∈ ks
    · rw [hr here hh]; exact (T.rt here hh).more
    · rw [(hnew hh).1]; exact .refl _
  have pm : p ∈ ps ++ [p] := List.mem_append_right _ List.mem_cons_self
  refine ⟨split T.ok ok, ?_, split (fun q hq => ks_ _ (hst q hq)) ?_, split (fun q hq => ks_ _ (hfi q hq)) ?_, split (fun q hq => ?_) ?_, fun f hf => ?_, split (fun q hq => ?_) ?_, fun f hf n h => ?_, split (fun q hq => ?_) ?_, fun f hf => ?_⟩
  · rw [List.map_append, List.nodup_append]
    refine ⟨T.nP, by simp, fun x hx y hy e => ?_⟩
    have : y = p.name := by simpa using hy
    subst this; subst e; exact hn hx
  · rcases he with ⟨e, _, _⟩ | ⟨e, _, _⟩
    · rw [e]; exact hereK
    · rw [e]; exact thereK
  · rcases he with ⟨_, e, _⟩ | ⟨_, e, _⟩
    · rw [e]; exact thereK
    · rw [e]; exact hereK
  · rw [hp _ (hfi q hq), hp _ (hst q hq)]; exact T.pos q hq
  · rcases he with ⟨e1, e2, e3⟩ | ⟨e1, e2, e3⟩
    · rw [e1, e2]; exact e3
    · rw [e1, e2, e3]; grind
  · rcases (hk f).mp hf with rfl | rfl | hf
    · rw [hr']
      rcases he with ⟨e1, e2, _⟩ | ⟨e1, e2, _⟩
      · rw [← e2]; refine .fwd ?_ pm; rw [e1]; exact jhere
      · rw [← e1]; refine .bwd ?_ pm; rw [e2]; exact jhere
    · exact jhere
    · rw [hr f hf]; exact (T.rt f hf).more
  · rw [hr _ (hst q hq), hr _ (hfi q hq)]; exact T.rc q hq
  · rcases he with ⟨e1, e2, _⟩ | ⟨e1, e2, _⟩
    · rw [e1, e2]; exact hr'.symm
    · rw [e1, e2]; exact hr'
  · rw [List.map_append, List.mem_append]
    rcases (hk f).mp hf with rfl | rfl | hf
    · rw [hc'] at h
      rcases List.mem_append.mp h with h | h
      · exact .inl (hhere n h)
      · exact .inr (by simpa using h)
    · exact .inl (hhere n h)
    · exact .inl (hch1 f hf n h)
  · rw [hc _ (hfi q hq), hc _ (hst q hq)]; exact T.ch2 q hq
  · have hnot : p.name ∉ ch' here := fun h => hn (hhere _ h)
    rcases he with ⟨e1, e2, _⟩ | ⟨e1, e2, _⟩
    · rw [e1, e2]; exact .inl ⟨hc', hnot⟩
    · rw [e1, e2]; exact .inr ⟨hc', hnot⟩
  · rcases (hk f).mp hf with rfl | rfl | hf
    · exact ⟨here, hereK, hne, hr'.symm⟩
    · exact ⟨there, thereK, fun e => hne e.symm, hr'⟩
    · obtain ⟨g, h1, h2, h3⟩ := T.two f hf
      exact ⟨g, ks_ g h1, h2, by rw [hr g h1, hr f hf]; exact h3⟩
theorem mem_app1 {n m : Str} {l : List Str} : n ∈ l ++ [m] ↔ n ∈ l ∨ n = m := by simp
/-- each part alone changes whether it stands in a chain -/
theorem TreeI.mark {ps ks root pos ch} (T : TreeI ps ks root pos ch) (n : Str) : (∀ p ∈ ps, p.name = n → decide (n ∈ ch p.start) ≠ decide (n ∈ ch p.fin)) ∧ ∀ p ∈ ps, p.name ≠ n → decide (n ∈ ch p.start) = decide (n ∈ ch p.fin) := by
  refine ⟨fun p hp e => ?_, fun p hp e => ?_⟩
  · subst e
    rcases T.ch2 p hp with ⟨h1, h2⟩ | ⟨h1, h2⟩
    · rw [h1, decide_eq_false h2, decide_eq_true (mem_app1.mpr (.inr rfl))]; decide
    · rw [h1, decide_eq_false h2, decide_eq_true (mem_app1.mpr (.inr rfl))]; decide
  · have e' : ¬ n = p.name := fun h => e h.symm
    rcases T.ch2 p hp with ⟨h1, h2⟩ | ⟨h1, h2⟩
    · rw [h1]
      exact decide_eq_decide.mpr ⟨fun h => mem_app1.mpr (.inl h), fun h => (mem_app1.mp h).resolve_right e'⟩
    · rw [h1]
      exact decide_eq_decide.mpr ⟨fun h => (mem_app1.mp h).resolve_right e', fun h => mem_app1.mpr (.inl h)⟩
theorem TreeI.perm {ps qs ks root pos ch} (T : TreeI ps ks root pos ch) (h : qs.Perm ps) : TreeI qs ks root pos ch := by
  have hm : ∀ p ∈ qs, p ∈ ps := fun p hp => h.mem_iff.mp hp
  have hm' : ∀ p ∈ ps, p ∈ qs := fun p hp => h.mem_iff.mpr hp
  refine ⟨fun p hp => T.ok p (hm p hp), (h.map _).nodup_iff.mpr T.nP, fun p hp => T.st p (hm p hp), fun p hp => T.fi p (hm p hp), fun p hp => T.pos p (hm p hp), fun f hf => (T.rt f hf).mono hm', fun p hp => T.rc p (hm p hp), fun f hf n hn => ?_, fun p hp => T.ch2 p (hm p hp), T.two⟩
  exact (h.map _).mem_iff.mpr (T.ch1 f hf n hn)
theorem TreeI.tree {ps ks root pos ch} (T : TreeI ps ks root pos ch) : ∀ pre x post, ps = pre ++ x :: post → ¬ JoinP pre x.start x.fin :=
  tree_of T.nP (fun n f => decide (n ∈ ch f)) (fun p hp => (T.mark p.name).1 p hp rfl) fun p hp q hq e => (T.mark p.name).2 q hq fun h => e h.symm
theorem TreeI.fit {ps ks root pos ch} (T : TreeI ps ks root pos ch) {gs : List GapV} (lp : ps.length < 1000) (lg : gs.length < 1000) (okG : ∀ g ∈ gs, OkG g) (nG : (gs.map (·.name)).Nodup) (hg : ∀ g ∈ gs, g.one ∈ ks ∧ g.other ∈ ks ∧ root g.one = root g.other) : Fit ps gs :=
  ⟨lp, lg, T.ok, okG, T.nP, nG, T.tree, fun g h => by
    obtain ⟨h1, h2, h3⟩ := hg g h
    have j1 := T.rt _ h1
    have j2 := T.rt _ h2
    rw [← h3] at j2
    exact j1.symm.trans j2⟩
theorem TreeI.join {ps ks root pos ch} (T : TreeI ps ks root pos ch) {f g : Str} (h1 : f ∈ ks) (h2 : g ∈ ks) (h3 : root f = root g) : JoinP ps f g := by
  have j2 := T.rt _ h2
  rw [← h3] at j2
  exact (T.rt _ h1).symm.trans j2
theorem TreeI.jmem {ps ks root pos ch} (T : TreeI ps ks root pos ch) {f g : Str} (h : f ∈ ks) (j : JoinP ps f g) : g ∈ ks := by
  induction j with
  | refl => exact h
  | fwd _ hp _ => exact T.fi _ hp
  | bwd _ hp _ => exact T.st _ hp
/-- the parts on a way: those that stand in one end's chain alone -/
theorem TreeI.way {ps ks root pos ch} (T : TreeI ps ks root pos ch) {f g : Str} {w : List (Str × Bool)} (h : WalkP ps f w g) (nd : (w.map (·.1)).Nodup) (n : Str) : n ∈ w.map (·.1) ↔ ¬ (n ∈ ch f ↔ n ∈ ch g) := by
  rw [walk_names (fun f => decide (n ∈ ch f)) (T.mark n).1 (T.mark n).2 h nd]
  constructor
  · intro h1 h2; exact h1 (decide_eq_decide.mpr h2)
  · intro h1 h2; exact h1 (decide_eq_decide.mp h2)

/-! ### faces by their numbers, a table of them -/
section
variable {V : Type} {c st : Nat} {d : Dic Str V}
def FaceI (c st : Nat) (d : Dic Str V) : Prop := d.keys = (List.range d.l.length).map fun k => nmT c k st
theorem FaceI.empty : FaceI c st (⟨[]⟩ : Dic Str V) := rfl
theorem FaceI.fresh (h : FaceI c st d) : nmT c d.l.length st ∉ d.keys := by
  rw [show d.keys = _ from h]
  intro hm
  obtain ⟨k, hk, e⟩ := List.mem_map.mp hm
  have := nmT_inj e
  rw [List.mem_range] at hk
  omega
theorem FaceI.put (h : FaceI c st d) (v : V) : FaceI c st (d.put (nmT c d.l.length st) v) ∧ (d.put (nmT c d.l.length st) v).l.length = d.l.length + 1 := by
  have hl : (d.put (nmT c d.l.length st) v).l.length = d.l.length + 1 := by rw [Dic.put_new h.fresh, List.length_append]; rfl
  refine ⟨?_, hl⟩
  unfold FaceI
  rw [hl, Dic.keys_put_new h.fresh, List.range_succ, List.map_append, show d.keys = _ from h]; rfl
theorem FaceI.nd (h : FaceI c st d) : d.keys.Nodup := by
  rw [show d.keys = _ from h]
  exact List.pairwise_map.mpr ((List.nodup_range (n := d.l.length)).imp fun hne e => hne (nmT_inj e))
theorem FaceI.nm (h : FaceI c st d) (hl : d.l.length ≤ 26) (hc : 97 ≤ c ∧ c ≤ 122) (hs : st ≤ 3) : ∀ f ∈ d.keys, nameB f = true := by
  intro f hf
  rw [show d.keys = _ from h] at hf
  obtain ⟨k, hk, e⟩ := List.mem_map.mp hf
  rw [List.mem_range] at hk
  rw [← e]; exact nmT_ok hc (by omega) hs
variable (rV : V → Str) (pV : V → Rat)
def rtV (d : Dic Str V) (f : Str) : Str := ((d.get? f).map rV).getD f
def poV (d : Dic Str V) (f : Str) : Rat := ((d.get? f).map pV).getD 0
theorem rtV_put {f g : Str} {v : V} : rtV rV (d.put g v) f = if f = g then rV v else rtV rV d f := by
  unfold rtV; rw [Dic.get_put]; split <;> rfl
theorem poV_put {f g : Str} {v : V} : poV pV (d.put g v) f = if f = g then pV v else poV pV d f := by
  unfold poV; rw [Dic.get_put]; split <;> rfl
structure PI (st N S : Nat) (k : Nat) (ps : List PartV) (d : Dic Str V) (ch : Str → List Str) : Prop where
  fa : FaceI 102 st d
  len : d.l.length ≤ 2 * k
  pos_ : 0 < k → 0 < d.l.length
  nm : ps.map (·.name) = (List.range k).map fun j => nmT 112 j st
  T : TreeI ps d.keys (rtV rV d) (poV pV d) ch
  gs : ∀ p ∈ ps, Gd N S p.size
  gp : ∀ f ∈ d.keys, Gd N (k * S) (poV pV d f)
theorem PI.empty {st N S : Nat} {ch} : PI rV pV st N S 0 [] (⟨[]⟩ : Dic Str V) ch := ⟨.empty, Nat.le_refl _, fun h => absurd h (by decide), rfl, .empty, fun _ h => (nomatch h), fun _ h => (nomatch h)⟩
theorem PI.step {rV : V → Str} {pV : V → Rat} {st N S k : Nat} {ps : List PartV} {d d' : Dic Str V} {ch ch' : Str → List Str} {here : Str} {v v0 : V} {p : PartV} (I : PI rV pV st N S k ps d ch) (hk : k < 13) (hst : st ≤ 3)
    (hd : (d' = d ∧ here ∈ d.keys) ∨ (d' = d.put here v0 ∧ here = nmT 102 d.l.length st ∧ rV v0 = here ∧ pV v0 = 0)) (hs : Gd N S p.size) (hn : p.name = nmT 112 k st) (hm : 0 ≤ p.most) (hw : 0 < p.weight)
    (he : (p.start = here ∧ p.fin = nmT 102 d'.l.length st ∧ pV v = poV pV d' here + p.size) ∨ (p.start = nmT 102 d'.l.length st ∧ p.fin = here ∧ pV v = poV pV d' here - p.size)) (hr : rV v = rtV rV d' here)
    (hc : ∀ f ∈ d.keys, ch' f = ch f) (hc0 : here ∉ d.keys → ch' here = []) (hc1 : ch' (nmT 102 d'.l.length st) = ch' here ++ [p.name]) : PI rV pV st N S (k + 1) (ps ++ [p]) (d'.put (nmT 102 d'.l.length st) v) ch' := by
  have fa' : FaceI 102 st d' ∧ d'.l.length ≤ 2 * k + 1 ∧ here ∈ d'.keys ∧ (∀ f, f ∈ d'.keys ↔ f = here ∨ f ∈ d.keys) ∧ (∀ f ∈ d.keys, rtV rV d' f = rtV rV d f ∧ poV pV d' f = poV pV d f) ∧ (here ∉ d.keys → rtV rV d' here = here) ∧ Gd N (k * S) (poV pV d' here) ∧ 0 < d'.l.length := by
    rcases hd with ⟨rfl, hh⟩ | ⟨rfl, e, r0, p0⟩
    · refine ⟨I.fa, by have := I.len; omega, hh, fun f => ⟨.inr, fun h => h.elim (fun e => e ▸ hh) id⟩, fun _ _ => ⟨rfl, rfl⟩, fun h => absurd hh h, I.gp _ hh, ?_⟩
      have : d'.keys.length = d'.l.length := by simp
      rw [← this]; exact List.length_pos_of_mem hh
    · have hf := I.fa.fresh
      rw [← e] at hf
      obtain ⟨q1, q2⟩ := I.fa.put v0
      rw [← e] at q1 q2
      refine ⟨q1, by have := I.len; omega, Dic.mem_put.mpr (.inl rfl), fun f => Dic.mem_put, fun f h => ?_, fun _ => ?_, ?_, by omega⟩
      · have hne : f ≠ here := fun z => hf (z ▸ h)
        rw [rtV_put, poV_put, if_neg hne, if_neg hne]; exact ⟨rfl, rfl⟩
      · rw [rtV_put, if_pos rfl, r0]
      · rw [poV_put, if_pos rfl, p0]; exact Gd.zero.mono (Nat.zero_le _)
  obtain ⟨fa, len, hereK, keys, same, rt0, gp, lpos⟩ := fa'
  have fresh := fa.fresh
  obtain ⟨q1, q2⟩ := fa.put v
  have hne : here ≠ nmT 102 d'.l.length st := fun z => fresh (z ▸ hereK)
  have hlen := I.len
  have nmh : ∀ f ∈ d'.keys, nameB f = true := fa.nm (by omega) (by decide) hst
  have nmt : nameB (nmT 102 d'.l.length st) = true := nmT_ok (by decide) (by omega) hst
  have ok : OkP p := by
    have nmp : nameB p.name = true := by rw [hn]; exact nmT_ok (by decide) (by omega) hst
    rcases he with ⟨e1, e2, _⟩ | ⟨e1, e2, _⟩
    · exact ⟨nmp, by rw [e1]; exact nmh _ hereK, by rw [e2]; exact nmt, by rw [e1, e2]; exact hne, hm, hw⟩
    · exact ⟨nmp, by rw [e1]; exact nmt, by rw [e2]; exact nmh _ hereK, by rw [e1, e2]; exact hne.symm, hm, hw⟩
  have kS : k * S + S = (k + 1) * S := by rw [Nat.add_mul, Nat.one_mul]
  refine ⟨q1, by omega, fun _ => by omega, ?_, ?_, fun q hq => ?_, fun f hf => ?_⟩
  · rw [List.map_append, I.nm, List.range_succ, List.map_append]
    simp [hn]
  · refine I.T.add (here := here) (there := nmT 102 d'.l.length st) ok ?_ ?_ hne (fun f => ?_) (fun f hf => ?_) (fun f hf => ?_) hc (fun h => ⟨?_, hc0 h⟩) ?_ hc1 ?_
    · rw [I.nm, hn]
      intro hm
      obtain ⟨j, hj, e⟩ := List.mem_map.mp hm
      have := nmT_inj e
      rw [List.mem_range] at hj
      omega
    · exact fun h => fresh ((keys _).mpr (.inr h))
    · rw [Dic.mem_put, keys]
    · have : f ≠ nmT 102 d'.l.length st := fun z => fresh (z ▸ (keys f).mpr (.inr hf))
      rw [rtV_put, if_neg this]; exact (same f hf).1
    · have : f ≠ nmT 102 d'.l.length st := fun z => fresh (z ▸ (keys f).mpr (.inr hf))
      rw [poV_put, if_neg this]; exact (same f hf).2
    · rw [rtV_put, if_neg hne]; exact rt0 h
    · rw [rtV_put, if_pos rfl, rtV_put, if_neg hne]; exact hr
    · rw [poV_put, if_pos rfl, poV_put, if_neg hne]; exact he
  · rcases List.mem_append.mp hq with hq | hq
    · exact I.gs q hq
    · cases List.mem_singleton.mp hq; exact hs
  · rw [poV_put]
    split
    · rw [← kS]
      rcases he with ⟨_, _, e⟩ | ⟨_, _, e⟩
      · rw [e]; exact gp.add hs
      · rw [e]; exact gp.sub hs
    · rename_i hne2
      have hf' := (Dic.mem_put.mp hf).resolve_left hne2
      rw [← kS]
      refine Gd.mono ?_ (Nat.le_add_right _ S)
      rcases (keys f).mp hf' with rfl | h
      · exact gp
      · rw [(same f h).2]; exact I.gp f h
end
theorem rngL_at {lo : Int} {n : Nat} {pre post : List Int} {x : Int} (h : rngL lo n = pre ++ x :: post) : x = lo + pre.length ∧ pre.length < n := by
  have h1 := congrArg (·[pre.length]?) h
  have hlen := congrArg List.length h
  rw [rngL_len, List.length_append, List.length_cons] at hlen
  have hlt : pre.length < n := by omega
  refine ⟨?_, hlt⟩
  simp only [List.getElem?_append_right (Nat.le_refl _), Nat.sub_self, List.getElem?_cons_zero] at h1
  unfold rngL at h1
  rw [List.getElem?_map, List.getElem?_range hlt] at h1
  exact (Option.some.inj h1).symm
theorem sortS_mem {l : List Str} {x : Str} : x ∈ sortS l ↔ x ∈ l := (sortS_perm l).mem_iff
theorem sortS_len (l : List Str) : (sortS l).length = l.length := (sortS_perm l).length_eq
theorem ixL_of {α : Type} {l : List α} {i : Int} (h0 : 0 ≤ i) (h1 : i < l.length) : ∃ a, a ∈ l ∧ ixL l i = .ok a := ⟨_, List.getElem_mem _, ixL_ok h0 h1⟩
theorem sat_ix {α : Type} {l : List α} {i : Int} {β : Type} {f : α → R β} {Q : β → Prop} (h0 : 0 ≤ i) (h1 : i < l.length) (h : ∀ a ∈ l, (f a).sat Q) : ((ixL l i).bind f).sat Q := by
  obtain ⟨a, ha, e⟩ := ixL_of h0 h1
  rw [e]; exact h a ha
theorem toRat01 : toRat (0, 1) = .ok 0 := by rw [show ((0 : Int), (1 : Int)) = ((0 : Rat).num, ((0 : Rat).den : Int)) from rfl]; exact toRat_num 0
end TF

/-! PT5: a step of a drawn tree; a face drawn; lists drawn anew. -/
namespace TF
open PySem PySem.Spec PyProof.Rows L2 DL FR
open Enc KeyT
section
variable {V : Type} {rV : V → Str} {pV : V → Rat}
/-- the table with the face to go from -/
def FromI (rV : V → Str) (pV : V → Rat) (st : Nat) (d d' : Dic Str V) (here : Str) : Prop := (d' = d ∧ here ∈ d.keys) ∨ ∃ v0, d' = d.put here v0 ∧ here = nmT 102 d.l.length st ∧ rV v0 = here ∧ pV v0 = 0
theorem FromI.facts {st N S k : Nat} {ps : List PartV} {d d' : Dic Str V} {ch : Str → List Str} {here : Str} (h : FromI rV pV st d d' here) (I : PI rV pV st N S k ps d ch) :
    here ∈ d'.keys ∧ d'.l.length ≤ 2 * k + 1 ∧ FaceI 102 st d' ∧ (∀ f ∈ d.keys, f ∈ d'.keys) ∧ Gd N (k * S) (poV pV d' here) := by
  have := I.len
  rcases h with ⟨rfl, h⟩ | ⟨v0, rfl, e, r0, p0⟩
  · exact ⟨h, by omega, I.fa, fun _ h => h, I.gp _ h⟩
  · obtain ⟨q1, q2⟩ := I.fa.put v0
    rw [← e] at q1 q2
    exact ⟨Dic.mem_put.mpr (.inl rfl), by omega, q1, fun f h => Dic.mem_put.mpr (.inr h), by rw [poV_put, if_pos rfl, p0]; exact Gd.zero.mono (Nat.zero_le _)⟩
theorem PI.grow {st N S k : Nat} {ps : List PartV} {d d' : Dic Str V} {ch : Str → List Str} {here : Str} {v : V} {p : PartV} (I : PI rV pV st N S k ps d ch) (hk : k < 13) (hst : st ≤ 3) (hd : FromI rV pV st d d' here)
    (hs : Gd N S p.size) (hn : p.name = nmT 112 k st) (hm : 0 ≤ p.most) (hw : 0 < p.weight)
    (he : (p.start = here ∧ p.fin = nmT 102 d'.l.length st ∧ pV v = poV pV d' here + p.size) ∨ (p.start = nmT 102 d'.l.length st ∧ p.fin = here ∧ pV v = poV pV d' here - p.size)) (hr : rV v = rtV rV d' here) :
    ∃ ch', PI rV pV st N S (k + 1) (ps ++ [p]) (d'.put (nmT 102 d'.l.length st) v) ch' := by
  obtain ⟨f1, f2, f3, f4, f5⟩ := hd.facts I
  have hnt : ∀ f ∈ d'.keys, f ≠ nmT 102 d'.l.length st := fun f h e => f3.fresh (e ▸ h)
  have hd2 : ∃ v0, (d' = d ∧ here ∈ d.keys) ∨ (d' = d.put here v0 ∧ here = nmT 102 d.l.length st ∧ rV v0 = here ∧ pV v0 = 0) := by
    rcases hd with h | ⟨v0, h⟩
    · exact ⟨v, .inl h⟩
    · exact ⟨v0, .inr h⟩
  obtain ⟨v0, hd2⟩ := hd2
  refine ⟨fun f => if f = nmT 102 d'.l.length st then (if here ∈ d.keys then ch here else []) ++ [p.name] else if f ∈ d.keys then ch f else [], I.step hk hst hd2 hs hn hm hw he hr (fun f h => ?_) (fun h => ?_) ?_⟩
  · show (if _ then _ else _) = _
    rw [if_neg (hnt f (f4 f h)), if_pos h]
  · show (if _ then _ else _) = _
    rw [if_neg (hnt here f1), if_neg h]
  · show (if _ then _ else _) = _
    rw [if_pos rfl]
    congr 1
    show _ = (if _ then _ else _)
    rw [if_neg (hnt here f1)]
/-- .. with the chains told by the table -/
theorem PI.growC {cV : V → List Str} {st N S k : Nat} {ps : List PartV} {d d' : Dic Str V} {here : Str} {v v0 : V} {p : PartV} (I : PI rV pV st N S k ps d (fun f => ((d.get? f).map cV).getD [])) (hk : k < 13) (hst : st ≤ 3)
    (hd : (d' = d ∧ here ∈ d.keys) ∨ (d' = d.put here v0 ∧ here = nmT 102 d.l.length st ∧ rV v0 = here ∧ pV v0 = 0 ∧ cV v0 = []))
    (hs : Gd N S p.size) (hn : p.name = nmT 112 k st) (hm : 0 ≤ p.most) (hw : 0 < p.weight)
    (he : (p.start = here ∧ p.fin = nmT 102 d'.l.length st ∧ pV v = poV pV d' here + p.size) ∨ (p.start = nmT 102 d'.l.length st ∧ p.fin = here ∧ pV v = poV pV d' here - p.size)) (hr : rV v = rtV rV d' here)
    (hc : cV v = ((d'.get? here).map cV).getD [] ++ [p.name]) :
    PI rV pV st N S (k + 1) (ps ++ [p]) (d'.put (nmT 102 d'.l.length st) v) (fun f => (((d'.put (nmT 102 d'.l.length st) v).get? f).map cV).getD []) := by
  have hd' : FromI rV pV st d d' here := by
    rcases hd with h | ⟨h1, h2, h3, h4, _⟩
    · exact .inl h
    · exact .inr ⟨v0, h1, h2, h3, h4⟩
  obtain ⟨f1, f2, f3, f4, f5⟩ := hd'.facts I
  have hnt : ∀ f ∈ d'.keys, f ≠ nmT 102 d'.l.length st := fun f h e => f3.fresh (e ▸ h)
  refine I.step (v0 := v0) hk hst (hd.imp id fun h => ⟨h.1, h.2.1, h.2.2.1, h.2.2.2.1⟩) hs hn hm hw he hr (fun f h => ?_) (fun h => ?_) ?_
  · show ((Dic.get? _ f).map cV).getD [] = ((d.get? f).map cV).getD []
    rw [Dic.get_put, if_neg (hnt f (f4 f h))]
    rcases hd with ⟨rfl, _⟩ | ⟨rfl, e, _⟩
    · rfl
    · rw [Dic.get_put, if_neg]
      intro z
      have := I.fa.fresh
      rw [← e] at this
      exact this (z ▸ h)
  · show ((Dic.get? _ here).map cV).getD [] = []
    rw [Dic.get_put, if_neg (hnt here f1)]
    rcases hd with ⟨rfl, h2⟩ | ⟨rfl, e, _, _, h5⟩
    · exact absurd h2 h
    · rw [Dic.get_put, if_pos rfl]; exact h5
  · show ((Dic.get? _ _).map cV).getD [] = ((Dic.get? _ here).map cV).getD [] ++ [p.name]
    rw [Dic.get_put, if_pos rfl, Dic.get_put, if_neg (hnt here f1)]
    exact hc
end
theorem drawn_ix {d : Dic Str β} {mx : Int} (h0 : 0 < d.l.length) (h1 : d.l.length < 64) {γ : Type} {f : Str → R γ} {Q : γ → Prop} (h : ∀ x ∈ d.keys, (f x).sat Q) : ((sortedDR d).bind fun a => (modI mx (d.l.length : Int)).bind fun a_1 => (ixL a a_1).bind f).sat Q := by
  unfold sortedDR
  rw [if_pos (by omega), R.ok_bind, modI_pos (by omega), R.ok_bind]
  have q1 := Int.emod_nonneg mx (show (d.l.length : Int) ≠ 0 by omega)
  have q2 := Int.emod_lt_of_pos mx (show 0 < (d.l.length : Int) by omega)
  exact sat_ix q1 (by rw [sortS_len, List.length_map]; exact q2) fun f hf => h f (sortS_mem.mp hf)
/-- the face to go from, drawn -/
theorem face2_ok {st k N S : Nat} {sty : Int} {ps : List PartV} {d : Dic Str (Str × Rat)} {ch} {abc : Str} {mx : Int} {b0 : Bool} (I : PI (·.1) (·.2) st N S k ps d ch) (hk : k < 13) (hn : L_name abc (d.l.length : Int) (Str.ofString "f") sty = .ok (nmT 102 d.l.length st)) :
    ((if decide ((d.l.length : Int) = 0) = true then R.ok true else R.ok b0).bind fun a =>
      if a = true then (L_name abc (d.l.length : Int) (Str.ofString "f") sty).bind fun here_194 => (toRat (0, 1)).bind fun a => (fewD d).bind fun x => R.ok (d.put here_194 (here_194, a), here_194)
      else (sortedDR d).bind fun a => (modI mx (d.l.length : Int)).bind fun a_1 => (ixL a a_1).bind fun here_204 => R.ok (d, here_204)).sat
      fun r => FromI (fun v : Str × Rat => v.1) (fun v => v.2) st d r.1 r.2 := by
  have hlen := I.len
  have hne : ∀ b : Bool, (b = false → d.l.length ≠ 0) → (if b = true then (L_name abc (d.l.length : Int) (Str.ofString "f") sty).bind fun here_194 => (toRat (0, 1)).bind fun a => (fewD d).bind fun x => R.ok (d.put here_194 (here_194, a), here_194)
      else (sortedDR d).bind fun a => (modI mx (d.l.length : Int)).bind fun a_1 => (ixL a a_1).bind fun here_204 => R.ok (d, here_204)).sat
      fun r => FromI (fun v : Str × Rat => v.1) (fun v => v.2) st d r.1 r.2 := by
    intro b hb
    cases b with
    | true =>
      rw [if_pos rfl, hn, R.ok_bind, toRat01, R.ok_bind, fewD_ok (by omega), R.ok_bind]
      exact sat_ok (.inr ⟨_, rfl, rfl, rfl, rfl⟩)
    | false =>
      have hb := hb rfl
      rw [if_neg (by decide)]
      exact drawn_ix (by omega) (by omega) fun x hx => sat_ok (.inl ⟨rfl, hx⟩)
  by_cases hz : (d.l.length : Int) = 0
  · rw [decide_eq_true hz, if_pos rfl, R.ok_bind]; exact hne true (fun h => nomatch h)
  · rw [decide_eq_false hz, if_neg (by decide), R.ok_bind]; exact hne _ (fun _ => by omega)
/-- faces beside one, of its tree -/
theorem same_ok {st k N S : Nat} {V : Type} {rV : V → Str} {pV : V → Rat} {ps : List PartV} {d : Dic Str V} {ch} (I : PI rV pV st N S k ps d ch) (hk : k < 13) (hst : st ≤ 3) {fs : List Str} (hsm : ∀ f, f ∈ fs ↔ f ∈ d.keys) (hsl : fs.length < 1000) {one : Str} (ho : one ∈ d.keys) :
    compR (fun x_143 => (eqR true x_143 one).bind fun b => if b = true then (getR d x_143).bind fun a => (getR d one).bind fun a_1 => eqR false (rV a) (rV a_1) else R.ok false) (fun x_143 => R.ok x_143) fs [] =
      .ok (fs.filter fun f => decide (f ≠ one) && decide (rtV rV d f = rtV rV d one)) ∧ (∀ f, f ∈ (fs.filter fun f => decide (f ≠ one) && decide (rtV rV d f = rtV rV d one)) ↔ f ∈ d.keys ∧ f ≠ one ∧ rtV rV d f = rtV rV d one) ∧
      0 < (fs.filter fun f => decide (f ≠ one) && decide (rtV rV d f = rtV rV d one)).length := by
  have hl := I.len
  have nmk : ∀ f ∈ d.keys, nameB f = true := I.fa.nm (by omega) (by decide) hst
  obtain ⟨v1, a1, a2, a3⟩ := getR_of ho
  have hsame : ∀ f, f ∈ (fs.filter fun f => decide (f ≠ one) && decide (rtV rV d f = rtV rV d one)) ↔ f ∈ d.keys ∧ f ≠ one ∧ rtV rV d f = rtV rV d one := fun f => by
    rw [List.mem_filter, hsm]; simp
  refine ⟨?_, hsame, ?_⟩
  · have := compR_ok (c := fun x_143 => (eqR true x_143 one).bind fun b => if b = true then (getR d x_143).bind fun a => (getR d one).bind fun a_1 => eqR false (rV a) (rV a_1) else R.ok false) (f := fun x_143 => R.ok x_143)
      (fun f => decide (f ≠ one) && decide (rtV rV d f = rtV rV d one)) id fs [] (fun f hf => ?_) (fun f _ _ => rfl) (by simp; omega)
    · rw [this]; simp
    · have hf := (hsm f).mp hf
      obtain ⟨v2, b1, b2, b3⟩ := getR_of hf
      have g1 := gd_of (nmk f hf)
      have g2 := gd_of (nmk one ho)
      rw [eqR_ok g1 g2, R.ok_bind, b3, a3]
      have e1 : rV v1 = rtV rV d one := by unfold rtV; rw [a1]; rfl
      have e2 : rV v2 = rtV rV d f := by unfold rtV; rw [b1]; rfl
      have rg : ∀ h ∈ d.keys, GdS (rtV rV d h) := fun h hh => gd_of (nmk _ (I.T.jmem hh (I.T.rt h hh).symm))
      by_cases hfo : f = one
      · simp [hfo]
      · simp only [hfo, decide_false, Bool.xor_false, if_true, R.ok_bind, ne_eq, not_false_eq_true, decide_true, Bool.true_and]
        rw [e1, e2, eqS (rg f hf) (rg one ho)]
  · obtain ⟨g, q1, q2, q3⟩ := I.T.two one ho
    exact List.length_pos_of_mem ((hsame g).mpr ⟨q1, q2, q3⟩)
theorem neS {a : Str} (h : GdS a) : eqR true a a = .ok false := by rw [eqR_ok h h]; simp
theorem insR_ok {α : Type} {l : List α} {i : Int} {a : α} (hl : l.length < 1000000) (h0 : 0 ≤ i) (h1 : i < 1000000) : insR l i a = .ok (l.take i.toNat ++ [a] ++ l.drop i.toNat) := if_pos ⟨hl, h0, by omega⟩
theorem ins_perm {α : Type} (l : List α) (i : Nat) (a : α) : (l.take i ++ [a] ++ l.drop i).Perm (l ++ [a]) := by
  have h1 : (l.take i ++ [a] ++ l.drop i).Perm (l.take i ++ l.drop i ++ [a]) := by
    rw [List.append_assoc, List.append_assoc]
    exact List.Perm.append_left _ (List.perm_append_comm)
  rw [List.take_append_drop] at h1
  exact h1
theorem gd_parts {ps : List PartV} (h : ∀ p ∈ ps, OkP p) : EqD.good ps := fun p hp => ⟨gd_of (h p hp).n, gd_of (h p hp).s, gd_of (h p hp).f⟩
theorem gd_gaps {gs : List GapV} (h : ∀ p ∈ gs, OkG p) : EqD.good gs := fun p hp => ⟨gd_of (h p hp).n, gd_of (h p hp).s, gd_of (h p hp).f⟩
theorem nm_nodup {c st n : Nat} : ((List.range n).map fun j => nmT c j st).Nodup := List.pairwise_map.mpr ((List.nodup_range (n := n)).imp fun hne e => hne (nmT_inj e))
/-- parts listed anew, in a drawn order -/
theorem listed_ok {ps : List PartV} {f : Int → R Int} (hl : ps.length < 1000) (hf : ∀ x : Int, 0 ≤ x → x < ps.length → (f x).sat fun _ => True) : ((rng1 (ps.length : Int)).bind fun l => (foldR l ([] : List PartV) fun x st => (f x).bind fun c => (modI (c * 16807 % 2147483587 / 37) (1 + x)).bind fun k => (ixL ps x).bind fun a => (insR st k a).bind fun kept => R.ok kept).bind fun kept => R.ok kept).sat fun r => r.Perm ps := by
  rw [rng1_ok (by omega), R.ok_bind]
  refine sat_bind (foldR_ind (fun pre (s : List PartV) => s.Perm (ps.take pre.length)) ?_ (by simp)) ?_
  · intro pre x post s e h
    obtain ⟨rfl, hk⟩ := rngL_at e
    refine sat_bind (hf _ (by omega) (by omega)) fun c _ => ?_
    rw [modI_pos (by omega), R.ok_bind]
    have hs : s.length = pre.length := by rw [h.length_eq, List.length_take]; omega
    have q1 := Int.emod_nonneg (c * 16807 % 2147483587 / 37) (show (1 + (0 + (pre.length : Int))) ≠ 0 by omega)
    have q2 := Int.emod_lt_of_pos (c * 16807 % 2147483587 / 37) (show 0 < (1 + (0 + (pre.length : Int))) by omega)
    rw [ixL_ok (l := ps) (by omega) (by omega), R.ok_bind, insR_ok (by omega) q1 (by omega), R.ok_bind]
    refine sat_ok ?_
    rw [List.length_append, List.length_singleton]
    have hlt : pre.length < ps.length := by omega
    rw [List.take_succ_eq_append_getElem hlt]
    have e2 : (0 + (pre.length : Int)).toNat = pre.length := by omega
    have := (ins_perm s (c * 16807 % 2147483587 / 37 % (1 + (0 + (pre.length : Int)))).toNat (ps[(0 + (pre.length : Int)).toNat]'(by omega))).trans (h.append_right _)
    simpa [e2] using this
  · intro s h
    rw [rngL_len] at h
    have : ps.take (ps.length : Int).toNat = ps := by simp
    rw [this] at h
    exact sat_ok h

/-! ### ways walked anew -/
inductive WalkC (ps : List PartV) : Str → List (Str × Bool) → Str → Prop
  | nil (f) : WalkC ps f [] f
  | cons {f s g w h} : StepP ps f s g → WalkC ps g w h → WalkC ps f (s :: w) h
theorem WalkC.nil_eq {ps : List PartV} {f g} (a : WalkC ps f [] g) : f = g := by cases a; rfl
theorem WalkC.snoc {ps : List PartV} {f w g s h} (a : WalkC ps f w g) (b : StepP ps g s h) : WalkC ps f (w ++ [s]) h := by
  induction a with
  | nil => exact .cons b (.nil _)
  | cons x _ ih => exact .cons x (ih b)
theorem WalkP.toC {ps : List PartV} {f w g} (a : WalkP ps f w g) : WalkC ps f w g := by
  induction a with
  | nil => exact .nil _
  | snoc _ b ih => exact ih.snoc b
end TF

namespace K42
open PySem PySem.Spec PyProof.Rows L2 DL FR TF
open TF.Enc
def tb_SlackError : List (String × Bool) := [("Apart", true), ("InRing", true), ("NoGap", true), ("NoName", true), ("NoNumber", true), ("NoPart", true), ("Twice", true)]
def ti_NoFace : List (String × Bool) := [("Apart", false), ("InRing", false), ("NoGap", false), ("NoName", false), ("NoNumber", false), ("NoPart", false), ("Twice", false)]
def ti_NoGap : List (String × Bool) := [("Apart", false), ("InRing", false), ("NoGap", true), ("NoName", false), ("NoNumber", false), ("NoPart", false), ("Twice", false)]
def ti_NoName : List (String × Bool) := [("Apart", false), ("InRing", false), ("NoGap", false), ("NoName", true), ("NoNumber", false), ("NoPart", false), ("Twice", false)]
def ti_NoPart : List (String × Bool) := [("Apart", false), ("InRing", false), ("NoGap", false), ("NoName", false), ("NoNumber", false), ("NoPart", true), ("Twice", false)]
def ti_NoRow : List (String × Bool) := [("Apart", false), ("InRing", false), ("NoGap", false), ("NoName", false), ("NoNumber", false), ("NoPart", false), ("Twice", false)]
def ti_Twice : List (String × Bool) := [("Apart", false), ("InRing", false), ("NoGap", false), ("NoName", false), ("NoNumber", false), ("NoPart", false), ("Twice", true)]
def ti_ValueError : List (String × Bool) := [("Apart", true), ("InRing", true), ("NoGap", true), ("NoName", true), ("NoNumber", true), ("NoPart", true), ("Twice", true)]
noncomputable def F__law_cell (v_script : (List Int)) (v_k : Int) : R Int :=
  ((R.ok (0 : Int))).bind fun (total_1 : Int) =>
  ((((R.ok v_k)).bind fun i => ((R.b2 (((R.ok v_script)).bind fun l => .ok (l.length : Int)) (R.ok (98 : Int)) fun i j => .ok (if j < i then j else i))).bind fun j => ((R.ok (34 : Int))).bind fun k => rng3 i j k)).bind fun l_21 => (foldR l_21 (total_1 : Int) (fun (x_2 : Int) (st_3 : Int) =>
  ((R.b2 (R.ok st_3) (R.b2 (R.b2 (R.ok v_script) (R.ok x_2) ixL) (R.b2 (R.ok (1 : Int)) (R.ok x_2) addI) mulI) addI)).bind fun (total_20 : Int) =>
  .ok total_20)).bind fun (st_3 : Int) =>
  (R.ok st_3)
noncomputable def F__law_signed (v_cell_here : Int) (v_most : Int) : R Int :=
  R.cond (R.b2 (R.ok v_cell_here) (R.ok (0 : Int)) fun i j => .ok (decide (i < j)))
  ((R.b2 (R.ok (0 : Int)) (R.b2 (R.b2 (R.ok (0 : Int)) (R.ok v_cell_here) subI) (R.ok v_most) modI) subI))
  ((R.b2 (R.ok v_cell_here) (R.ok v_most) modI))
noncomputable def F__law_low (v_top : Int) (v_bottom : Int) : R Rat :=
  ((R.ok v_top)).bind fun (one_1 : Int) =>
  ((R.ok v_bottom)).bind fun (other_2 : Int) =>
  R.flow (whileR (fun (st_3 : Int × Int) => (R.b2 (R.ok st_3.2) (R.ok (0 : Int)) fun i j => .ok (!decide (i = j)))) (fun (st_3 : Int × Int) =>
  (((R.b2 (R.ok st_3.1) (R.ok st_3.2) modI)).bind fun (rest_14 : Int) =>
  ((R.ok st_3.2)).bind fun (one_15 : Int) =>
  ((R.ok rest_14)).bind fun (other_16 : Int) =>
  .ok (.nx (one_15, other_16)) : R (Fl (Int × Int) Rat))) ((one_1, other_2) : Int × Int)) (fun (st_3 : Int × Int) =>
  (((((R.b2 (R.ok v_top) (((R.ok st_3.1)).bind fun i => .ok (i.natAbs : Int)) divI)).bind fun t_21 => ((R.b2 (R.ok v_bottom) (((R.ok st_3.1)).bind fun i => .ok (i.natAbs : Int)) divI)).bind fun t_22 => R.ok (t_21, t_22))).bind toRat)) (fun r_23 => .ok r_23)
noncomputable def F__law_plus (v_one : Rat) (v_other : Rat) (v_sign : Int) : R Rat :=
  (((R.b2 (R.b2 (((R.ok v_one)).map fun q : Rat => q.num) (((R.ok v_other)).map fun q : Rat => (q.den : Int)) mulI) (R.b2 (R.b2 (R.ok v_sign) (((R.ok v_other)).map fun q : Rat => q.num) mulI) (((R.ok v_one)).map fun q : Rat => (q.den : Int)) mulI) addI)).bind fun c_11 => ((R.b2 (((R.ok v_one)).map fun q : Rat => (q.den : Int)) (((R.ok v_other)).map fun q : Rat => (q.den : Int)) mulI)).bind fun c_12 => F__law_low c_11 c_12)
noncomputable def F__law_name (v_k : Int) (v_sign : Str) (v_style : Int) : R Str :=
  (R.b2 (R.b2 (R.b2 (R.ok v_sign) (R.ok v_style) mulS) (R.b2 (R.ok ("abcdefghijklmnopq" : Str)) (R.ok v_k) ixS) addS) (R.b2 (R.ok v_sign) (R.b2 (R.ok (3 : Int)) (R.ok v_style) subI) mulS) addS)
noncomputable def F__law_parts (v_script : (List Int)) (v_style : Int) : R ((List PartV) × (Dic Str (Str × Rat))) :=
  (((R.ok ([] : List PartV)).bind few)).bind fun (parts_here_1 : (List PartV)) =>
  ((R.ok (⟨[]⟩ : (Dic Str (Str × Rat))))).bind fun (spots_2 : (Dic Str (Str × Rat))) =>
  ((((R.b2 (R.ok (1 : Int)) (((((R.ok v_script)).bind fun c_3 => ((R.ok (0 : Int))).bind fun c_4 => F__law_cell c_3 c_4)).map fun a_5 => a_5 % 8) addI)).bind rng1)).bind fun l_292 => (foldR l_292 ((parts_here_1, spots_2) : (List PartV) × (Dic Str (Str × Rat))) (fun (x_9 : Int) (st_10 : (List PartV) × (Dic Str (Str × Rat))) =>
  ((((R.ok v_script)).bind fun c_157 => ((R.b2 (R.ok (2 : Int)) (((R.ok x_9)).map fun a_153 => 2 * a_153) addI)).bind fun c_158 => F__law_cell c_157 c_158)).bind fun (cell_here_159 : Int) =>
  ((((((((R.ok cell_here_159)).map fun a_160 => a_160 * 48271)).map fun a_162 => a_162 % 2147483647)).map fun a_164 => a_164 / 37)).bind fun (mixed_166 : Int) =>
  (R.cond (orB (R.b2 (((R.ok st_10.2)).bind fun l => .ok (l.l.length : Int)) (R.ok (0 : Int)) fun i j => .ok (decide (i = j))) (R.b2 (((((R.ok mixed_166)).map fun a_167 => a_167 / 4096)).map fun a_169 => a_169 % 6) (R.ok (1 : Int)) fun i j => .ok (decide (i = j))))
  (((((((R.ok st_10.2)).bind fun l => .ok (l.l.length : Int))).bind fun c_187 => ((R.ok ("f" : Str))).bind fun c_188 => ((R.ok v_style)).bind fun c_189 => F__law_name c_187 c_188 c_189)).bind fun (here_190 : Str) =>
  ((((R.ok here_190)).bind fun t_194 => ((((((R.ok (0 : Int))).bind fun t_192 => ((R.ok (1 : Int))).bind fun t_193 => R.ok (t_192, t_193))).bind toRat)).bind fun t_195 => R.ok (t_194, t_195))).bind fun a_196 => ((R.ok here_190)).bind fun k_197 => (fewD st_10.2).bind fun _ => (R.ok (st_10.2.put k_197 a_196)).bind fun (spots_191 : (Dic Str (Str × Rat))) =>
  .ok (spots_191, here_190))
  (((R.b2 (((R.ok st_10.2)).bind sortedDR) (R.b2 (R.ok mixed_166) (((R.ok st_10.2)).bind fun l => .ok (l.l.length : Int)) modI) ixL)).bind fun (here_200 : Str) =>
  .ok (st_10.2, here_200))).bind fun (st_185 : (Dic Str (Str × Rat)) × Str) =>
  ((((((R.ok st_185.1)).bind fun l => .ok (l.l.length : Int))).bind fun c_201 => ((R.ok ("f" : Str))).bind fun c_202 => ((R.ok v_style)).bind fun c_203 => F__law_name c_201 c_202 c_203)).bind fun (there_204 : Str) =>
  ((((R.ok v_script)).bind fun c_209 => ((R.b2 (R.ok (3 : Int)) (((R.ok x_9)).map fun a_205 => 2 * a_205) addI)).bind fun c_210 => F__law_cell c_209 c_210)).bind fun (other_211 : Int) =>
  ((((((R.ok other_211)).bind fun c_220 => ((R.b2 ((((R.ok (9 : Int))).bind fun t_214 => (((R.ok ((10 : Int) ^ 40))).bind fun t_212 => (R.ok ([] : List Int)).bind fun t_213 => R.ok (t_212 :: t_213)).bind fun t_215 => R.ok (t_214 :: t_215)).bind few) (((((R.ok mixed_166)).map fun a_216 => a_216 / 64)).map fun a_218 => a_218 % 2) ixL)).bind fun c_221 => F__law_signed c_220 c_221)).bind fun c_228 => ((R.b2 (R.ok (1 : Int)) (((((R.ok mixed_166)).map fun a_222 => a_222 / 128)).map fun a_224 => a_224 % 12) addI)).bind fun c_229 => F__law_low c_228 c_229)).bind fun (size_230 : Rat) =>
  ((((((R.ok other_211)).map fun a_231 => a_231 % 13)).bind fun c_239 => ((R.b2 (R.ok (1 : Int)) (((((R.ok mixed_166)).map fun a_233 => a_233 / 16)).map fun a_235 => a_235 % 6) addI)).bind fun c_240 => F__law_low c_239 c_240)).bind fun (most_241 : Rat) =>
  ((R.b2 ((((((R.ok st_185.2)).bind fun t_246 => ((R.ok there_204)).bind fun t_247 => R.ok (t_246, t_247))).bind fun t_252 => (((((R.ok there_204)).bind fun t_248 => ((R.ok st_185.2)).bind fun t_249 => R.ok (t_248, t_249))).bind fun t_250 => (R.ok ([] : List (Str × Str))).bind fun t_251 => R.ok (t_250 :: t_251)).bind fun t_253 => R.ok (t_252 :: t_253)).bind few) (((((R.ok mixed_166)).map fun a_254 => a_254 / 32)).map fun a_256 => a_256 % 2) ixL)).bind fun (ends_258 : (Str × Str)) =>
  ((((((((R.ok x_9)).bind fun c_260 => ((R.ok ("p" : Str))).bind fun c_261 => ((R.ok v_style)).bind fun c_262 => F__law_name c_260 c_261 c_262)).bind fun t_269 => ((((R.ok ends_258)).map (fun t : (Str × Str) => t.1))).bind fun t_270 => ((((R.ok ends_258)).map (fun t : (Str × Str) => t.2))).bind fun t_271 => ((R.ok size_230)).bind fun t_272 => ((R.ok most_241)).bind fun t_273 => ((R.b2 (R.ok (1 : Int)) (((((R.ok mixed_166)).map fun a_263 => a_263 / 8)).map fun a_265 => a_265 % 4) addI)).bind fun t_274 => R.ok (T6.mk t_269 t_270 t_271 t_272 t_273 t_274))).map (fun t : (T6 Str Str Str Rat Rat Int) => ({ name := t.a, start := t.b, fin := t.c, size := t.d, most := t.e, weight := t.f } : PartV)))).bind fun a_275 => (few st_10.1).bind fun _ => (R.ok (st_10.1 ++ [a_275])).bind fun (parts_here_259 : (List PartV)) =>
  ((((((R.b2 (R.ok st_185.1) (R.ok st_185.2) getR)).map (fun t : (Str × Rat) => t.1))).bind fun t_288 => ((((((R.b2 (R.ok st_185.1) (R.ok st_185.2) getR)).map (fun t : (Str × Rat) => t.2))).bind fun c_285 => ((R.ok size_230)).bind fun c_286 => ((R.b2 (R.ok (1 : Int)) (((((((R.ok mixed_166)).map fun a_277 => a_277 / 32)).map fun a_279 => a_279 % 2)).map fun a_281 => 2 * a_281) subI)).bind fun c_287 => F__law_plus c_285 c_286 c_287)).bind fun t_289 => R.ok (t_288, t_289))).bind fun a_290 => ((R.ok there_204)).bind fun k_291 => (fewD st_185.1).bind fun _ => (R.ok (st_185.1.put k_291 a_290)).bind fun (spots_276 : (Dic Str (Str × Rat))) =>
  .ok (parts_here_259, spots_276))).bind fun (st_10 : (List PartV) × (Dic Str (Str × Rat))) =>
  (((R.ok st_10.1)).bind fun t_293 => ((R.ok st_10.2)).bind fun t_294 => R.ok (t_293, t_294))
noncomputable def F__law_listed (v_script : (List Int)) (v_parts_here : (List PartV)) : R (List PartV) :=
  (((R.ok ([] : List PartV)).bind few)).bind fun (kept_1 : (List PartV)) =>
  ((((((R.ok v_parts_here)).bind fun l => .ok (l.length : Int))).bind rng1)).bind fun l_45 => (foldR l_45 (kept_1 : (List PartV)) (fun (x_2 : Int) (st_3 : (List PartV)) =>
  ((R.b2 (((((((((R.ok v_script)).bind fun c_31 => ((R.b2 (R.ok (2 : Int)) (((R.ok x_2)).map fun a_27 => 2 * a_27) addI)).bind fun c_32 => F__law_cell c_31 c_32)).map fun a_33 => a_33 * 16807)).map fun a_35 => a_35 % 2147483587)).map fun a_37 => a_37 / 37) (R.b2 (R.ok (1 : Int)) (R.ok x_2) addI) modI)).bind fun k_43 => ((R.b2 (R.ok v_parts_here) (R.ok x_2) ixL)).bind fun a_44 => (insR st_3 k_43 a_44).bind fun (kept_26 : (List PartV)) =>
  .ok kept_26)).bind fun (st_3 : (List PartV)) =>
  (R.ok st_3)
noncomputable def F__law_gaps (v_script : (List Int)) (v_spots : (Dic Str (Str × Rat))) (v_style : Int) : R (List GapV) :=
  (((R.ok ([] : List GapV)).bind few)).bind fun (gaps_here_1 : (List GapV)) =>
  ((((((((R.ok v_script)).bind fun c_2 => ((R.ok (1 : Int))).bind fun c_3 => F__law_cell c_2 c_3)).map fun a_4 => a_4 % 9)).bind rng1)).bind fun l_189 => (foldR l_189 (gaps_here_1 : (List GapV)) (fun (x_6 : Int) (st_7 : (List GapV)) =>
  ((((R.ok v_script)).bind fun c_104 => ((R.b2 (R.ok (18 : Int)) (((R.ok x_6)).map fun a_100 => 2 * a_100) addI)).bind fun c_105 => F__law_cell c_104 c_105)).bind fun (cell_here_106 : Int) =>
  ((((((((R.ok cell_here_106)).map fun a_107 => a_107 * 39373)).map fun a_109 => a_109 % 2147483629)).map fun a_111 => a_111 / 37)).bind fun (mixed_113 : Int) =>
  ((((R.ok v_spots)).bind sortedDR)).bind fun (faces_114 : (List Str)) =>
  ((R.b2 (R.ok faces_114) (R.b2 (R.ok mixed_113) (((R.ok faces_114)).bind fun l => .ok (l.length : Int)) modI) ixL)).bind fun (one_117 : Str) =>
  ((((R.ok faces_114)).bind fun l_119 => (compR (fun (x_118 : Str) => (andB (R.b2 (R.ok x_118) (R.ok one_117) (eqR true)) (R.b2 (((R.b2 (R.ok v_spots) (R.ok x_118) getR)).map (fun t : (Str × Rat) => t.1)) (((R.b2 (R.ok v_spots) (R.ok one_117) getR)).map (fun t : (Str × Rat) => t.1)) (eqR false)))) (fun (x_118 : Str) => (R.ok x_118)) l_119 []).noexc)).bind fun (same_120 : (List Str)) =>
  ((R.b2 (R.ok same_120) (R.b2 (((R.ok mixed_113)).map fun a_121 => a_121 / 64) (((R.ok same_120)).bind fun l => .ok (l.length : Int)) modI) ixL)).bind fun (two_125 : Str) =>
  ((((((R.b2 (R.ok v_spots) (R.ok two_125) getR)).map (fun t : (Str × Rat) => t.2))).bind fun c_126 => ((((R.b2 (R.ok v_spots) (R.ok one_117) getR)).map (fun t : (Str × Rat) => t.2))).bind fun c_127 => ((((R.ok (1 : Int))).map fun a => -a)).bind fun c_128 => F__law_plus c_126 c_127 c_128)).bind fun (middle_129 : Rat) =>
  ((((R.ok v_script)).bind fun c_134 => ((R.b2 (R.ok (19 : Int)) (((R.ok x_6)).map fun a_130 => 2 * a_130) addI)).bind fun c_135 => F__law_cell c_134 c_135)).bind fun (other_136 : Int) =>
  ((((R.ok middle_129)).bind fun c_147 => ((((((R.ok other_136)).map fun a_137 => a_137 % 23)).bind fun c_145 => ((R.b2 (R.ok (1 : Int)) (((((R.ok mixed_113)).map fun a_139 => a_139 / 1024)).map fun a_141 => a_141 % 5) addI)).bind fun c_146 => F__law_low c_145 c_146)).bind fun c_148 => ((((R.ok (1 : Int))).map fun a => -a)).bind fun c_149 => F__law_plus c_147 c_148 c_149)).bind fun (low_here_150 : Rat) =>
  ((((R.ok middle_129)).bind fun c_163 => ((((((((R.ok other_136)).map fun a_151 => a_151 / 23)).map fun a_153 => a_153 % 23)).bind fun c_161 => ((R.b2 (R.ok (1 : Int)) (((((R.ok mixed_113)).map fun a_155 => a_155 / 8192)).map fun a_157 => a_157 % 5) addI)).bind fun c_162 => F__law_low c_161 c_162)).bind fun c_164 => ((R.ok (1 : Int))).bind fun c_165 => F__law_plus c_163 c_164 c_165)).bind fun (high_166 : Rat) =>
  ((((((((R.ok x_6)).bind fun c_180 => ((R.b2 ((((R.ok ("g" : Str))).bind fun t_170 => (((R.ok ("p" : Str))).bind fun t_168 => (R.ok ([] : List Str)).bind fun t_169 => R.ok (t_168 :: t_169)).bind fun t_171 => R.ok (t_170 :: t_171)).bind few) (((((R.ok mixed_113)).map fun a_172 => a_172 / 32)).map fun a_174 => a_174 % 2) ixL)).bind fun c_181 => ((((R.b2 (R.ok v_style) (R.ok x_6) addI)).map fun a_178 => a_178 % 4)).bind fun c_182 => F__law_name c_180 c_181 c_182)).bind fun t_183 => ((R.ok one_117)).bind fun t_184 => ((R.ok two_125)).bind fun t_185 => ((R.ok low_here_150)).bind fun t_186 => ((R.ok high_166)).bind fun t_187 => R.ok (T5.mk t_183 t_184 t_185 t_186 t_187))).map (fun t : (T5 Str Str Str Rat Rat) => ({ name := t.a, one := t.b, other := t.c, low := t.d, high := t.e } : GapV)))).bind fun a_188 => (few st_7).bind fun _ => (R.ok (st_7 ++ [a_188])).bind fun (gaps_here_167 : (List GapV)) =>
  .ok gaps_here_167)).bind fun (st_7 : (List GapV)) =>
  (R.ok st_7)
noncomputable def F__law_unlike (v_gaps_here : (List GapV)) : R (List GapV) :=
  ((R.ok (⟨[]⟩ : (Dic Str Bool)))).bind fun (names_1 : (Dic Str Bool)) =>
  (((R.ok ([] : List GapV)).bind few)).bind fun (kept_2 : (List GapV)) =>
  ((R.ok v_gaps_here)).bind fun l_26 => (foldR l_26 ((names_1, kept_2) : (Dic Str Bool) × (List GapV)) (fun (x_3 : GapV) (st_4 : (Dic Str Bool) × (List GapV)) =>
  (R.cond (R.b2 (((R.ok x_3)).map (fun t : GapV => t.name)) (R.ok st_4.1) fun k d => .ok (!(d.get? k).isSome))
  (((R.ok x_3)).bind fun a_22 => (few st_4.2).bind fun _ => (R.ok (st_4.2 ++ [a_22])).bind fun (kept_21 : (List GapV)) =>
  .ok kept_21)
  (.ok st_4.2)).bind fun (st_19 : (List GapV)) =>
  ((R.ok true)).bind fun a_24 => ((((R.ok x_3)).map (fun t : GapV => t.name))).bind fun k_25 => (fewD st_4.1).bind fun _ => (R.ok (st_4.1.put k_25 a_24)).bind fun (names_23 : (Dic Str Bool)) =>
  .ok (names_23, st_19))).bind fun (st_4 : (Dic Str Bool) × (List GapV)) =>
  (R.ok st_4.2)
noncomputable def F__law_walked (v_found : (List (Str × Bool))) (v_gap : GapV) (v_parts_here : (List PartV)) : R Bool :=
  R.cond (orB (((((R.ok v_found)).bind fun _ => .ok true)).map (!·)) (R.b2 (((R.ok v_found)).bind fun l => .ok (l.length : Int)) (R.ok (0 : Int)) fun i j => .ok (decide (i = j))))
  ((R.ok false))
  (((R.ok (⟨[]⟩ : (Dic Str (Str × Str))))).bind fun (ends_1 : (Dic Str (Str × Str))) =>
  ((R.ok v_parts_here)).bind fun l_17 => (foldR l_17 (ends_1 : (Dic Str (Str × Str))) (fun (x_2 : PartV) (st_3 : (Dic Str (Str × Str))) =>
  ((((((R.ok x_2)).map (fun t : PartV => t.start))).bind fun t_13 => ((((R.ok x_2)).map (fun t : PartV => t.fin))).bind fun t_14 => R.ok (t_13, t_14))).bind fun a_15 => ((((R.ok x_2)).map (fun t : PartV => t.name))).bind fun k_16 => (fewD st_3).bind fun _ => (R.ok (st_3.put k_16 a_15)).bind fun (ends_12 : (Dic Str (Str × Str))) =>
  .ok ends_12)).bind fun (st_3 : (Dic Str (Str × Str))) =>
  ((((R.ok v_gap)).map (fun t : GapV => t.one))).bind fun (here_18 : Str) =>
  (((R.ok ([] : List Str)).bind few)).bind fun (seen_19 : (List Str)) =>
  ((R.ok v_found)).bind fun l_61 => R.flow (forR l_61 ((here_18, seen_19) : Str × (List Str)) (fun (x_20 : (Str × Bool)) (st_21 : Str × (List Str)) =>
  R.cond (orB (((((R.ok x_20)).bind fun _ => .ok true)).map (!·)) (orB (R.b2 (((R.ok x_20)).bind fun _ => .ok (2 : Int)) (R.ok (2 : Int)) fun i j => .ok (!decide (i = j))) (((((((R.ok x_20)).map (fun t : (Str × Bool) => t.2))).bind fun _ => .ok true)).map (!·))))
  (((R.ok false)).bind fun r_44 => .ok (.rt r_44))
  (R.cond (orB (R.b2 (((R.ok x_20)).map (fun t : (Str × Bool) => t.1)) (R.ok st_3) fun k d => .ok (!(d.get? k).isSome)) (R.b2 (((R.ok x_20)).map (fun t : (Str × Bool) => t.1)) (R.ok st_21.2) (inR false)))
  (((R.ok false)).bind fun r_46 => .ok (.rt r_46))
  (((((R.ok x_20)).map (fun t : (Str × Bool) => t.1))).bind fun a_48 => (few st_21.2).bind fun _ => (R.ok (st_21.2 ++ [a_48])).bind fun (seen_47 : (List Str)) =>
  ((R.b2 (R.ok st_3) (((R.ok x_20)).map (fun t : (Str × Bool) => t.1)) getR)).bind fun (p_49 : (Str × Str)) =>
  R.cond (R.b2 (R.ok st_21.1) (R.b2 ((((R.ok p_49.2)).bind fun t_52 => (((R.ok p_49.1)).bind fun t_50 => (R.ok ([] : List Str)).bind fun t_51 => R.ok (t_50 :: t_51)).bind fun t_53 => R.ok (t_52 :: t_53)).bind few) (((((R.ok x_20)).map (fun t : (Str × Bool) => t.2))).bind fun b => .ok (if b = true then (1 : Int) else 0)) ixL) (eqR true))
  (((R.ok false)).bind fun r_55 => .ok (.rt r_55))
  (((R.b2 ((((R.ok p_49.1)).bind fun t_58 => (((R.ok p_49.2)).bind fun t_56 => (R.ok ([] : List Str)).bind fun t_57 => R.ok (t_56 :: t_57)).bind fun t_59 => R.ok (t_58 :: t_59)).bind few) (((((R.ok x_20)).map (fun t : (Str × Bool) => t.2))).bind fun b => .ok (if b = true then (1 : Int) else 0)) ixL)).bind fun (here_60 : Str) =>
  .ok (.nx (here_60, seen_47)))))) : R (Fl (Str × (List Str)) Bool)) (fun (st_21 : Str × (List Str)) =>
  (R.b2 (R.ok st_21.1) (((R.ok v_gap)).map (fun t : GapV => t.other)) (eqR false))) (fun r_62 => .ok r_62))
noncomputable def F__law_refused (v_thing : ThingV) (v_name_here : Str) (v_way : Int) : R Bool :=
  ((R.ok (none : Option (List Bool)))).bind fun (caught_1 : (Option (List Bool))) =>
  (tryR (R.cond (R.b2 (R.ok v_way) (R.ok (0 : Int)) fun i j => .ok (decide (i = j)))
  (((((R.ok v_thing)).bind fun c_51 => ((R.ok v_name_here)).bind fun c_52 => F_Thing_way c_51 c_52)).bind fun _ =>
  .ok caught_1)
  (R.cond (R.b2 (R.ok v_way) (R.ok (1 : Int)) fun i j => .ok (decide (i = j)))
  (((((R.ok v_thing)).bind fun c_57 => ((R.ok v_name_here)).bind fun c_58 => F_Thing_middle c_57 c_58)).bind fun _ =>
  .ok caught_1)
  (((((R.ok v_thing)).bind fun c_59 => ((R.ok v_name_here)).bind fun c_60 => F_Thing_room c_59 c_60)).bind fun _ =>
  .ok caught_1))) (excT tb_SlackError) (fun xc xfs =>
  (((((((isE ti_NoName xc xfs)).bind fun t_73 => (((isE ti_ValueError xc xfs)).bind fun t_71 => (((isE ti_NoGap xc xfs)).bind fun t_69 => (((isE ti_NoPart xc xfs)).bind fun t_67 => (((isE ti_Twice xc xfs)).bind fun t_65 => (((isE ti_NoFace xc xfs)).bind fun t_63 => (((isE ti_NoRow xc xfs)).bind fun t_61 => (R.ok ([] : List Bool)).bind fun t_62 => R.ok (t_61 :: t_62)).bind fun t_64 => R.ok (t_63 :: t_64)).bind fun t_66 => R.ok (t_65 :: t_66)).bind fun t_68 => R.ok (t_67 :: t_68)).bind fun t_70 => R.ok (t_69 :: t_70)).bind fun t_72 => R.ok (t_71 :: t_72)).bind fun t_74 => R.ok (t_73 :: t_74)).bind few)).map some)).bind fun (caught_75 : (Option (List Bool))) =>
  .ok caught_75)).bind fun (st_37 : (Option (List Bool))) =>
  (R.b2 (R.ok st_37) ((((((R.ok true)).bind fun t_102 => (((R.ok true)).bind fun t_100 => (((R.ok false)).bind fun t_98 => (((R.ok false)).bind fun t_96 => (((R.ok false)).bind fun t_94 => (((R.ok false)).bind fun t_92 => (((R.ok false)).bind fun t_90 => (R.ok ([] : List Bool)).bind fun t_91 => R.ok (t_90 :: t_91)).bind fun t_93 => R.ok (t_92 :: t_93)).bind fun t_95 => R.ok (t_94 :: t_95)).bind fun t_97 => R.ok (t_96 :: t_97)).bind fun t_99 => R.ok (t_98 :: t_99)).bind fun t_101 => R.ok (t_100 :: t_101)).bind fun t_103 => R.ok (t_102 :: t_103)).bind few)).map some) (eqR false))
noncomputable def F_law (v_script : (List Int)) : R Bool :=
  ((((((R.ok v_script)).bind fun c_1 => ((R.ok (2 : Int))).bind fun c_2 => F__law_cell c_1 c_2)).map fun a_3 => a_3 % 4)).bind fun (style_5 : Int) =>
  ((((R.ok v_script)).bind fun c_6 => ((R.ok style_5)).bind fun c_7 => F__law_parts c_6 c_7)).bind fun (p_8 : ((List PartV) × (Dic Str (Str × Rat)))) =>
  ((((R.ok v_script)).bind fun c_9 => ((R.ok p_8.1)).bind fun c_10 => F__law_listed c_9 c_10)).bind fun (parts_here_11 : (List PartV)) =>
  ((((((R.ok v_script)).bind fun c_12 => ((R.ok p_8.2)).bind fun c_13 => ((R.ok style_5)).bind fun c_14 => F__law_gaps c_12 c_13 c_14)).bind fun c_15 => F__law_unlike c_15)).bind fun (gaps_here_16 : (List GapV)) =>
  ((((R.ok parts_here_11)).bind fun c_17 => ((R.ok gaps_here_16)).bind fun c_18 => F_Thing c_17 c_18)).bind fun (thing_19 : ThingV) =>
  ((((R.ok gaps_here_16)).bind fun l_21 => (compR (fun (x_20 : GapV) => (R.ok true)) (fun (x_20 : GapV) => (((R.ok x_20)).map (fun t : GapV => t.name))) l_21 []).noexc)).bind fun (names_22 : (List Str)) =>
  ((R.b2 (R.ok gaps_here_16) (((R.ok gaps_here_16)).bind fun l_23 => ((R.ok none)).bind fun lo_24 => ((((R.ok (1 : Int))).map some)).bind fun hi_25 => .ok (cut l_23 lo_24 hi_25)) fun a b => few (a ++ b))).bind fun l_55 => R.flow (forR l_55 (() : Unit) (fun (x_28 : GapV) (st_29 : Unit) =>
  ((((R.ok thing_19)).bind fun c_44 => ((((R.ok x_28)).map (fun t : GapV => t.name))).bind fun c_45 => F_Thing_way c_44 c_45)).bind fun (found_46 : (List (Str × Bool))) =>
  R.cond (((((R.ok found_46)).bind fun c_47 => ((R.ok x_28)).bind fun c_48 => ((R.ok parts_here_11)).bind fun c_49 => F__law_walked c_47 c_48 c_49)).map (!·))
  (((R.ok false)).bind fun r_51 => .ok (.rt r_51))
  (((R.ok (1 : Int))).bind fun a_53 => (few found_46).bind fun _ => (R.ok (found_46.map enc ++ [enc a_53])).bind fun (found_52 : List D) =>
  .ok (.nx ()))) : R (Fl (Unit) Bool)) (fun (st_29 : Unit) =>
  ((R.b2 (R.b2 ((((R.ok ("nobody" : Str))).bind fun t_56 => (R.ok ([] : List Str)).bind fun t_57 => R.ok (t_56 :: t_57)).bind few) (((R.ok parts_here_11)).bind fun l_59 => (compR (fun (x_58 : PartV) => (R.ok true)) (fun (x_58 : PartV) => (((R.ok x_58)).map (fun t : PartV => t.name))) l_59 []).noexc) fun a b => few (a ++ b)) (((R.ok p_8.2)).bind sortedDR) fun a b => few (a ++ b))).bind fun l_87 => R.flow (forR l_87 (() : Unit) (fun (x_64 : Str) (st_65 : Unit) =>
  R.cond (andB (R.b2 (R.ok x_64) (R.ok names_22) (inR true)) (((((R.ok thing_19)).bind fun c_82 => ((R.ok x_64)).bind fun c_83 => ((((R.b2 (((R.ok x_64)).bind lenS) (((R.ok names_22)).bind fun l => .ok (l.length : Int)) mulI)).map fun a_80 => a_80 % 3)).bind fun c_84 => F__law_refused c_82 c_83 c_84)).map (!·)))
  (((R.ok false)).bind fun r_86 => .ok (.rt r_86))
  (.ok (.nx ()))) : R (Fl (Unit) Bool)) (fun (st_65 : Unit) =>
  (andB (((R.ok thing_19)).bind fun c_94 => ((R.ok ("nobody" : Str))).bind fun c_95 => ((R.ok (0 : Int))).bind fun c_96 => F__law_refused c_94 c_95 c_96) (andB (((R.ok thing_19)).bind fun c_91 => ((R.ok ("nobody" : Str))).bind fun c_92 => ((R.ok (1 : Int))).bind fun c_93 => F__law_refused c_91 c_92 c_93) (((R.ok thing_19)).bind fun c_88 => ((R.ok ("nobody" : Str))).bind fun c_89 => ((R.ok (2 : Int))).bind fun c_90 => F__law_refused c_88 c_89 c_90)))) (fun r_97 => .ok r_97)) (fun r_98 => .ok r_98)
end K42

namespace K42
open PySem PySem.Spec PyProof.Rows L2 DL FR TF
open TF.Enc
theorem cell_eq : F__law_cell = L_cell 34 := rfl
theorem low_eq : F__law_low = L_low := rfl
theorem plus_eq : F__law_plus = L_plus := rfl
theorem signed_eq : F__law_signed = L_signed := rfl
theorem name_eq : F__law_name = L_name (Str.ofString "abcdefghijklmnopq") := rfl
abbrev NN : Nat := 27720
abbrev SZ : Nat := 10 ^ 40
abbrev pR : Str × Rat → Str := fun v => v.1
abbrev pP : Str × Rat → Rat := fun v => v.2
abbrev PI3 (st k : Nat) (ps : List PartV) (d : Dic Str (Str × Rat)) (ch : Str → List Str) : Prop := PI pR pP st NN SZ k ps d ch
theorem bot_ok {b : Int} (h : 1 ≤ b ∧ b ≤ 12) : 0 < b ∧ b ∣ (NN : Int) := by
  have : b = 1 ∨ b = 2 ∨ b = 3 ∨ b = 4 ∨ b = 5 ∨ b = 6 ∨ b = 7 ∨ b = 8 ∨ b = 9 ∨ b = 10 ∨ b = 11 ∨ b = 12 := by omega
  rcases this with rfl | rfl | rfl | rfl | rfl | rfl | rfl | rfl | rfl | rfl | rfl | rfl <;> decide
theorem sm3 {M : Nat} {q : Rat} (h : Gd NN M q) (hM : M ≤ 10 ^ 50) : Sm q := by
  refine h.sm (by decide) ?_ ?_
  · refine Nat.lt_of_le_of_lt (Nat.mul_le_mul_right _ hM) ?_
    exact Nat.lt_of_lt_of_le (show 10 ^ 50 * NN < 2 ^ 250 by decide) (Nat.pow_le_pow_right (by decide) (by decide))
  · exact Nat.lt_of_lt_of_le (show NN < 2 ^ 250 by decide) (Nat.pow_le_pow_right (by decide) (by decide))
theorem div_nonneg {a b : Int} (h : 0 ≤ a) (hb : 0 < b) : 0 ≤ Rat.divInt a b := by
  rw [Rat.divInt_eq_div]
  have hb0 : (0 : Rat) < (b : Rat) := by have := Rat.intCast_lt_intCast.mpr hb; simpa using this
  have hne : (b : Rat) ≠ 0 := by grind
  have h1 : (0 : Rat) ≤ (a : Rat) := by have := Rat.intCast_le_intCast.mpr h; simpa using this
  refine Rat.not_lt.mp fun hlt => ?_
  have := Rat.mul_lt_mul_of_pos_right hlt hb0
  have x1 : (a : Rat) / (b : Rat) * (b : Rat) = (a : Rat) := Rat.div_mul_cancel hne
  grind
theorem parts_ok (ns : List Int) (hn : ns.length ≤ 63) (st : Int) (h0 : 0 ≤ st) (h1 : st ≤ 3) : (F__law_parts ns st).sat (fun r => ∃ k ch, 0 < k ∧ k ≤ 8 ∧ PI3 st.toNat k r.1 r.2 ch) := by
  unfold F__law_parts
  simp only [R.ok_bind, R.exc_bind, R.bad_bind, R.bind_assoc, R.noexc_ok, R.b2, R.map, R.cond, R.flow, addI, subI, andB, orB, unw_some, unw_none, few_nil, ofRat, isCls, Option.isNone_none, Option.isNone_some, Bool.not_true, Bool.not_false, Bool.false_eq_true, if_true, if_false]
  rw [cell_eq, low_eq, plus_eq, signed_eq, name_eq]
  refine sat_bind (cell_ok hn (by omega) (by omega) (by omega)) fun c _ => ?_
  rw [rng1_ok (by omega), R.ok_bind]
  have hm : (1 + c % 8).toNat ≤ 8 ∧ 0 < (1 + c % 8).toNat := by omega
  generalize (1 + c % 8).toNat = m at hm
  refine sat_bind (foldR_ind (fun pre (s : List PartV × Dic Str (Str × Rat)) => ∃ ch, PI3 st.toNat pre.length s.1 s.2 ch) ?_ ⟨fun _ => [], .empty _ _⟩) ?_
  · rintro pre x post ⟨ps, d⟩ e ⟨ch, I⟩
    obtain ⟨rfl, hk⟩ := rngL_at e
    have hlen := I.len
    have hst : st.toNat ≤ 3 := by omega
    refine sat_bind (cell_ok hn (by omega) (by omega) (by omega)) fun c2 _ => ?_
    have hmx : 0 ≤ c2 * 48271 % 2147483647 / 37 := by omega
    generalize c2 * 48271 % 2147483647 / 37 = mx at hmx
    have nameF : ∀ n : Nat, n < 17 → L_name (Str.ofString "abcdefghijklmnopq") (n : Int) (Str.ofString "f") st = .ok (nmT 102 n st.toNat) := fun n hn => by
      rw [sf, name_ok abc17 (by decide) (by omega) (by omega) h0 h1]; simp
    have nameP : L_name (Str.ofString "abcdefghijklmnopq") (0 + (pre.length : Int)) (Str.ofString "p") st = .ok (nmT 112 pre.length st.toNat) := by
      rw [sp_, name_ok abc17 (by decide) (by omega) (by omega) h0 h1]; simp
    simp only at hlen I ⊢
    rw [← R.bind_assoc]
    refine sat_bind (face2_ok I (by omega) (nameF _ (by omega))) ?_
    rintro ⟨d', here⟩ hd
    simp only at hd ⊢
    obtain ⟨hK, hl', fa', hsub, gpos⟩ := hd.facts I
    rw [nameF _ (by omega), R.ok_bind]
    refine sat_bind (cell_ok hn (by omega) (by omega) (by omega)) fun oth _ => ?_
    rw [few_ok (by simp), R.ok_bind]
    refine sat_ix (by omega) (by simp; omega) fun mm hmm => ?_
    have hmm' : 0 < mm ∧ mm ≤ 10 ^ 40 := by
      simp at hmm
      rcases hmm with rfl | rfl <;> decide
    refine sat_bind (signed_ok hmm'.1) fun t ht => ?_
    have ht' : t.natAbs ≤ SZ := by
      show t.natAbs ≤ 10 ^ 40
      omega
    have hb' := bot_ok (b := 1 + mx / 128 % 12) (by omega)
    have hbl : (1 + mx / 128 % 12).natAbs < 2 ^ 9000 := lt_9000 (by omega)
    generalize 1 + mx / 128 % 12 = b at hb' hbl
    rw [low_ok hb'.1 hbl, R.ok_bind]
    have gsz : Gd NN SZ (Rat.divInt t b) := gd_div hb'.1 hb'.2 ht'
    generalize Rat.divInt t b = sz at gsz
    rw [low_ok (by omega) (lt_9000 (by omega)), R.ok_bind]
    have hmost : 0 ≤ Rat.divInt (oth % 13) (1 + mx / 16 % 6) := div_nonneg (by omega) (by omega)
    generalize Rat.divInt (oth % 13) (1 + mx / 16 % 6) = most at hmost
    have hw : 0 < 1 + mx / 8 % 4 := by omega
    generalize 1 + mx / 8 % 4 = wt at hw
    rw [few_ok (by simp), R.ok_bind, nameP]
    obtain ⟨v, hv1, hv2, hv3⟩ := getR_of hK
    have hv2' : v.2 = poV pP d' here := by unfold poV; rw [hv1]; rfl
    have hv1' : v.1 = rtV pR d' here := by unfold rtV; rw [hv1]; rfl
    have smv : Sm v.2 := by rw [hv2']; exact sm3 gpos (by show pre.length * 10 ^ 40 ≤ 10 ^ 50; omega)
    have sms : Sm sz := sm3 gsz (by decide)
    have hps : ps.length = pre.length := by
      have := congrArg List.length I.nm
      simpa using this
    have hcase : mx / 32 % 2 = 0 ∨ mx / 32 % 2 = 1 := by omega
    rw [few_ok (l := ps) (by omega), hv3, fewD_ok (by omega)]
    rcases hcase with h2 | h2
    · rw [h2]
      have e1 : ixL [(here, nmT 102 d'.l.length st.toNat), (nmT 102 d'.l.length st.toNat, here)] 0 = .ok (here, nmT 102 d'.l.length st.toNat) := rfl
      rw [e1]
      simp only [R.ok_bind, R.exc_bind, R.bad_bind, R.bind_assoc, R.noexc_ok, R.b2, R.map, R.cond, R.flow, addI, subI, andB, orB, unw_some, unw_none, few_nil, ofRat, isCls, Option.isNone_none, Option.isNone_some, Bool.not_true, Bool.not_false, Bool.false_eq_true, if_true, if_false]
      rw [show (1 - 2 * 0 : Int) = 1 from rfl, plus_ok smv sms (.inl rfl), R.ok_bind]
      refine sat_ok ?_
      rw [List.length_append]
      refine I.grow (here := here) (p := ⟨_, _, _, sz, most, wt⟩) (by omega) hst hd gsz rfl hmost hw (.inl ⟨rfl, rfl, ?_⟩) hv1'
      show v.2 + ((1 : Int) : Rat) * sz = _
      rw [hv2']
      simp
    · rw [h2]
      have e1 : ixL [(here, nmT 102 d'.l.length st.toNat), (nmT 102 d'.l.length st.toNat, here)] 1 = .ok (nmT 102 d'.l.length st.toNat, here) := rfl
      rw [e1]
      simp only [R.ok_bind, R.exc_bind, R.bad_bind, R.bind_assoc, R.noexc_ok, R.b2, R.map, R.cond, R.flow, addI, subI, andB, orB, unw_some, unw_none, few_nil, ofRat, isCls, Option.isNone_none, Option.isNone_some, Bool.not_true, Bool.not_false, Bool.false_eq_true, if_true, if_false]
      rw [show (1 - 2 * 1 : Int) = -1 from rfl, plus_ok smv sms (.inr rfl), R.ok_bind]
      refine sat_ok ?_
      rw [List.length_append]
      refine I.grow (here := here) (p := ⟨_, _, _, sz, most, wt⟩) (by omega) hst hd gsz rfl hmost hw (.inr ⟨rfl, rfl, ?_⟩) hv1'
      show v.2 + ((-1 : Int) : Rat) * sz = _
      rw [hv2']
      have : ((-1 : Int) : Rat) = -1 := rfl
      rw [this]; grind
  · rintro ⟨ps, d⟩ ⟨ch, I⟩
    rw [rngL_len] at I
    exact sat_ok ⟨m, ch, hm.2, hm.1, I⟩
theorem list_ok (ns : List Int) (hn : ns.length ≤ 63) {ps : List PartV} (hl : ps.length ≤ 8) : (F__law_listed ns ps).sat fun r => r.Perm ps := by
  unfold F__law_listed
  simp only [R.ok_bind, R.exc_bind, R.bad_bind, R.bind_assoc, R.noexc_ok, R.b2, R.map, R.cond, R.flow, addI, subI, andB, orB, unw_some, unw_none, few_nil, ofRat, isCls, Option.isNone_none, Option.isNone_some, Bool.not_true, Bool.not_false, Bool.false_eq_true, if_true, if_false]
  rw [cell_eq]
  exact listed_ok (f := fun x => L_cell 34 ns (2 + 2 * x)) (by omega) fun x h1 h2 => cell_ok hn (by omega) (by omega) (by omega)
theorem nm_len {c k st : Nat} (hs : st ≤ 3) : (nmT c k st).length = 4 := by
  unfold nmT
  rw [sl_len]
  simp; omega
structure GapD (d : Dic Str (Str × Rat)) (g : GapV) : Prop where
  ok : OkG g
  len : g.name.length = 4
  one : g.one ∈ d.keys
  other : g.other ∈ d.keys
  root : rtV pR d g.one = rtV pR d g.other
theorem gaps_ok (ns : List Int) (hn : ns.length ≤ 63) (st : Int) (h0 : 0 ≤ st) (h1 : st ≤ 3) {k : Nat} {ps d ch} (I : PI3 st.toNat k ps d ch) (hk0 : 0 < k) (hk : k ≤ 8) : (F__law_gaps ns d st).sat (fun r => r.length ≤ 8 ∧ ∀ g ∈ r, GapD d g) := by
  unfold F__law_gaps
  simp only [R.ok_bind, R.exc_bind, R.bad_bind, R.bind_assoc, R.noexc_ok, R.b2, R.map, R.cond, R.flow, addI, subI, andB, orB, unw_some, unw_none, few_nil, ofRat, isCls, Option.isNone_none, Option.isNone_some, Bool.not_true, Bool.not_false, Bool.false_eq_true, if_true, if_false]
  rw [cell_eq, low_eq, plus_eq, name_eq]
  have hl := I.len
  have hp := I.pos_ hk0
  have hst : st.toNat ≤ 3 := by omega
  have nmk : ∀ f ∈ d.keys, nameB f = true := I.fa.nm (by omega) (by decide) hst
  refine sat_bind (cell_ok hn (by omega) (by omega) (by omega)) fun c _ => ?_
  rw [rng1_ok (by omega), R.ok_bind]
  have hm : (c % 9).toNat ≤ 8 := by omega
  generalize (c % 9).toNat = m at hm
  refine sat_bind (foldR_ind (fun pre (s : List GapV) => s.length = pre.length ∧ ∀ g ∈ s, GapD d g) ?_ ⟨rfl, fun g h => (nomatch h)⟩) ?_
  · rintro pre x post gs e ⟨gl, G⟩
    obtain ⟨rfl, hkm⟩ := rngL_at e
    refine sat_bind (cell_ok hn (by omega) (by omega) (by omega)) fun c2 _ => ?_
    have hmx : 0 ≤ c2 * 39373 % 2147483629 / 37 := by omega
    generalize c2 * 39373 % 2147483629 / 37 = mx at hmx
    unfold sortedDR
    rw [if_pos (by omega), R.ok_bind]
    have hsl : (sortS (d.l.map (·.1))).length = d.l.length := by rw [sortS_len, List.length_map]
    have hsm : ∀ f, f ∈ sortS (d.l.map (·.1)) ↔ f ∈ d.keys := fun f => sortS_mem
    generalize sortS (d.l.map (·.1)) = fs at hsl hsm
    rw [modI_pos (by omega), R.ok_bind]
    refine sat_ix (Int.emod_nonneg _ (by omega)) (Int.emod_lt_of_pos _ (by omega)) fun one ho => ?_
    have ho := (hsm one).mp ho
    obtain ⟨v1, a1, a2, a3⟩ := getR_of ho
    obtain ⟨cmp, hsame, hne⟩ := same_ok I (by omega) hst hsm (by omega) ho
    rw [cmp, R.noexc_ok, R.ok_bind]
    generalize (fs.filter fun f => decide (f ≠ one) && decide (rtV pR d f = rtV pR d one)) = same at hsame hne
    rw [modI_pos (by omega), R.ok_bind]
    refine sat_ix (Int.emod_nonneg _ (by omega)) (Int.emod_lt_of_pos _ (by omega)) fun two ht => ?_
    obtain ⟨t1, t2, t3⟩ := (hsame two).mp ht
    obtain ⟨v2, b1, b2, b3⟩ := getR_of t1
    have p1 : v1.2 = poV pP d one := by unfold poV; rw [a1]; rfl
    have p2 : v2.2 = poV pP d two := by unfold poV; rw [b1]; rfl
    rw [b3, R.ok_bind, a3, R.ok_bind, p1, p2]
    have g1 := I.gp one ho
    have g2 := I.gp two t1
    have kS : k * SZ ≤ 8 * 10 ^ 40 := by show k * 10 ^ 40 ≤ _; omega
    have k2 : k * SZ + k * SZ ≤ 16 * 10 ^ 40 := Nat.le_trans (Nat.add_le_add kS kS) (by decide)
    have k3 : k * SZ + k * SZ + 25 ≤ 20 * 10 ^ 40 := Nat.le_trans (Nat.add_le_add_right k2 25) (by decide)
    have sS : ∀ {q : Rat} {M : Nat}, Gd NN M q → M ≤ 20 * 10 ^ 40 → Sm q := fun h hM => sm3 h (by omega)
    have eqm : poV pP d two + ((-1 : Int) : Rat) * poV pP d one = poV pP d two - poV pP d one := by
      have : ((-1 : Int) : Rat) = -1 := rfl
      rw [this]; grind
    rw [plus_ok (sS g2 (Nat.le_trans kS (by decide))) (sS g1 (Nat.le_trans kS (by decide))) (.inr rfl), R.ok_bind, eqm]
    have gm := g2.sub g1
    generalize poV pP d two - poV pP d one = mid at gm
    refine sat_bind (cell_ok hn (by omega) (by omega) (by omega)) fun oth _ => ?_
    have hb := bot_ok (b := 1 + mx / 1024 % 5) (by omega)
    have hbl : (1 + mx / 1024 % 5).natAbs < 2 ^ 9000 := lt_9000 (by omega)
    generalize 1 + mx / 1024 % 5 = b at hb hbl
    have hb2 := bot_ok (b := 1 + mx / 8192 % 5) (by omega)
    have hbl2 : (1 + mx / 8192 % 5).natAbs < 2 ^ 9000 := lt_9000 (by omega)
    generalize 1 + mx / 8192 % 5 = b2 at hb2 hbl2
    rw [low_ok hb.1 hbl, R.ok_bind, low_ok hb2.1 hbl2]
    have gb : Gd NN 25 (Rat.divInt (oth % 23) b) := gd_div hb.1 hb.2 (by omega)
    have ga : Gd NN 25 (Rat.divInt (oth / 23 % 23) b2) := gd_div hb2.1 hb2.2 (by omega)
    have nb : 0 ≤ Rat.divInt (oth % 23) b := div_nonneg (by omega) hb.1
    have na : 0 ≤ Rat.divInt (oth / 23 % 23) b2 := div_nonneg (by omega) hb2.1
    generalize Rat.divInt (oth % 23) b = be at gb nb
    generalize Rat.divInt (oth / 23 % 23) b2 = ab at ga na
    have sb := sS gb (by decide)
    have sa := sS ga (by decide)
    have sm := sS gm (Nat.le_trans k2 (by decide))
    have e1 : mid + ((-1 : Int) : Rat) * be = mid - be := by
      have : ((-1 : Int) : Rat) = -1 := rfl
      rw [this]; grind
    have e2 : mid + ((1 : Int) : Rat) * ab = mid + ab := by simp
    rw [plus_ok sm sb (.inr rfl), R.ok_bind, R.ok_bind, plus_ok sm sa (.inl rfl), R.ok_bind, e1, e2, few_ok (by simp), R.ok_bind]
    refine sat_ix (by omega) (by simp; omega) fun sign hs => ?_
    obtain ⟨cc, hcc, rfl⟩ : ∃ cc, (97 ≤ cc ∧ cc ≤ 122) ∧ sign = sl [cc] := by
      simp at hs
      rcases hs with rfl | rfl
      · exact ⟨103, by decide, sg⟩
      · exact ⟨112, by decide, sp_⟩
    rw [name_ok abc17 (by decide) (by omega) (by omega) (by omega) (by omega), R.ok_bind, few_ok (by omega), R.ok_bind]
    refine sat_ok ⟨by rw [List.length_append, List.length_append, gl]; rfl, fun g hg => ?_⟩
    rcases List.mem_append.mp hg with hg | hg
    · exact G g hg
    · cases List.mem_singleton.mp hg
      refine ⟨⟨nmT_ok hcc (by omega) (by omega), nmk _ ho, nmk _ t1, fun e => t2 e.symm, sS (gm.sub gb) k3, sS (gm.add ga) k3, ?_⟩, nm_len (by omega), ho, t1, t3.symm⟩
      show mid - be ≤ mid + ab
      grind
  · rintro gs ⟨gl, G⟩
    rw [rngL_len] at gl
    exact sat_ok ⟨by omega, G⟩
theorem unlike_ok {gs : List GapV} (hl : gs.length ≤ 8) : (F__law_unlike gs).sat fun r => r.length ≤ 8 ∧ (r.map (·.name)).Nodup ∧ ∀ g ∈ r, g ∈ gs := by
  unfold F__law_unlike
  simp only [R.ok_bind, R.exc_bind, R.bad_bind, R.bind_assoc, R.noexc_ok, R.b2, R.map, R.cond, R.flow, addI, subI, andB, orB, unw_some, unw_none, few_nil, ofRat, isCls, Option.isNone_none, Option.isNone_some, Bool.not_true, Bool.not_false, Bool.false_eq_true, if_true, if_false]
  refine sat_bind (foldR_ind (fun pre (s : Dic Str Bool × List GapV) => s.2.length ≤ pre.length ∧ (s.2.map (·.name)).Nodup ∧ (∀ g ∈ s.2, g ∈ gs) ∧ (∀ g ∈ s.2, g.name ∈ s.1.keys) ∧ s.1.l.length ≤ pre.length) ?_ ⟨Nat.le_refl _, by simp, fun g h => (nomatch h), fun g h => (nomatch h), Nat.le_refl _⟩) ?_
  · rintro pre x post ⟨d, ks⟩ e ⟨i1, i2, i3, i4, i5⟩
    simp only at i1 i2 i3 i4 i5 ⊢
    have hx : x ∈ gs := by rw [e]; exact List.mem_append_right _ List.mem_cons_self
    have hpl : pre.length < gs.length := by rw [e, List.length_append, List.length_cons]; omega
    have hput : (d.put x.name true).l.length ≤ pre.length + 1 := by
      by_cases h : x.name ∈ d.keys
      · rw [Dic.put_old h, List.length_map]; omega
      · rw [Dic.put_new h, List.length_append, List.length_singleton]; omega
    rw [Dic.isSome_dec]
    by_cases h : x.name ∈ d.keys
    · simp only [h, decide_true, Bool.not_true, if_false, R.ok_bind, Bool.false_eq_true]
      rw [fewD_ok (by omega), R.ok_bind]
      refine sat_ok ⟨?_, i2, i3, fun g hg => Dic.mem_put.mpr (.inr (i4 g hg)), ?_⟩
      · show ks.length ≤ (pre ++ [x]).length
        rw [List.length_append]; omega
      · rw [List.length_append]; exact hput
    · simp only [h, decide_false, Bool.not_false, if_true, R.ok_bind]
      rw [few_ok (by omega), R.ok_bind, R.ok_bind, fewD_ok (by omega), R.ok_bind]
      refine sat_ok ⟨?_, ?_, fun g hg => ?_, fun g hg => ?_, ?_⟩
      · have e1 : [x].length = 1 := rfl
        show (ks ++ [x]).length ≤ (pre ++ [x]).length
        rw [List.length_append, List.length_append]; omega
      · rw [List.map_append, List.nodup_append]
        refine ⟨i2, by simp, fun a ha b hb e => ?_⟩
        have : b = x.name := by simpa using hb
        subst this; subst e
        obtain ⟨g, hg, e2⟩ := List.mem_map.mp ha
        exact h (e2 ▸ i4 g hg)
      · rcases List.mem_append.mp hg with hg | hg
        · exact i3 g hg
        · cases List.mem_singleton.mp hg; exact hx
      · rcases List.mem_append.mp hg with hg | hg
        · exact Dic.mem_put.mpr (.inr (i4 g hg))
        · cases List.mem_singleton.mp hg; exact Dic.mem_put.mpr (.inl rfl)
      · rw [List.length_append]; exact hput
  · rintro ⟨d, ks⟩ ⟨i1, i2, i3, _, _⟩
    exact sat_ok ⟨by omega, i2, i3⟩
theorem ends_ok {ps : List PartV} (nn : (ps.map (·.name)).Nodup) (hl : ps.length < 1000) : (foldR ps (⟨[]⟩ : Dic Str (Str × Str)) fun x st => (fewD st).bind fun _ => R.ok (st.put x.name (x.start, x.fin))).sat fun d => ∀ p ∈ ps, d.get? p.name = some (p.start, p.fin) := by
  refine sat_imp (foldR_ind (fun pre (d : Dic Str (Str × Str)) => d.l.length ≤ pre.length ∧ ∀ p ∈ pre, d.get? p.name = some (p.start, p.fin)) ?_ ⟨Nat.le_refl _, fun p h => (nomatch h)⟩) fun d h => h.2
  rintro pre x post d e ⟨h1, h2⟩
  have hpl : pre.length < ps.length := by rw [e, List.length_append, List.length_cons]; omega
  rw [e, List.map_append, List.map_cons] at nn
  obtain ⟨n1, n2⟩ := nodup_pre nn
  rw [fewD_ok (by omega), R.ok_bind]
  refine sat_ok ⟨?_, fun p hp => ?_⟩
  · rw [List.length_append]
    by_cases h : x.name ∈ d.keys
    · rw [Dic.put_old h, List.length_map]; omega
    · rw [Dic.put_new h, List.length_append, List.length_singleton]
      have : [x].length = 1 := rfl
      omega
  · rw [Dic.get_put]
    rcases List.mem_append.mp hp with hp | hp
    · rw [if_neg, h2 p hp]
      intro e; exact n2 (e ▸ List.mem_map_of_mem hp)
    · cases List.mem_singleton.mp hp; rw [if_pos rfl]
theorem walked_ok {ps : List PartV} (nn : (ps.map (·.name)).Nodup) (ok : ∀ p ∈ ps, OkP p) (hl : ps.length < 1000) {g : GapV} (hg : OkG g) {w : List (Str × Bool)} (hw : WalkP ps g.one w g.other) (nd : (w.map (·.1)).Nodup) (hwl : w.length < 10000) : F__law_walked w g ps = .ok true := by
  apply sat_true
  unfold F__law_walked
  simp only [R.ok_bind, R.exc_bind, R.bad_bind, R.bind_assoc, R.noexc_ok, R.b2, R.map, R.cond, R.flow, addI, subI, andB, orB, unw_some, unw_none, few_nil, ofRat, isCls, Option.isNone_none, Option.isNone_some, Bool.not_true, Bool.not_false, Bool.false_eq_true, if_true, if_false]
  have hne : ¬ ((w.length : Int) = 0) := fun h => by
    have : w = [] := List.eq_nil_of_length_eq_zero (by omega)
    subst this
    exact hg.ne hw.toC.nil_eq
  rw [decide_eq_false hne, if_neg (by decide)]
  refine sat_bind (ends_ok nn hl) fun d hd => ?_
  generalize hB : (fun (x_20 : Str × Bool) (st_21 : Str × List Str) => ((if (!decide True) = true then R.ok true else R.ok false).bind fun c => if c = true then (R.ok (Fl.rt false) : R (Fl (Str × List Str) Bool)) else
        (if (!(d.get? x_20.fst).isSome) = true then R.ok true else TF.inR false x_20.fst st_21.snd).bind fun c => if c = true then R.ok (Fl.rt false) else
          (few st_21.snd).bind fun x => (getR d x_20.fst).bind fun p_49 => (few [p_49.snd, p_49.fst]).bind fun a => (ixL a (if x_20.snd = true then 1 else 0)).bind fun a => (eqR true st_21.fst a).bind fun c => if c = true then R.ok (Fl.rt false) else
            (few [p_49.fst, p_49.snd]).bind fun a => (ixL a (if x_20.snd = true then 1 else 0)).bind fun here_60 => R.ok (Fl.nx (here_60, st_21.snd ++ [x_20.fst])))) = B
  have key : ∀ (w : List (Str × Bool)) (f : Str) (seen : List Str), WalkC ps f w g.other → GdS f → (w.map (·.1)).Nodup → (∀ n ∈ w.map (·.1), n ∉ seen) → (∀ n ∈ seen, GdS n) → seen.length + w.length < 10000 →
      forR w (f, seen) B = .ok (.nx (g.other, seen ++ w.map (·.1))) := by
    intro w
    induction w with
    | nil =>
      intro f seen h _ _ _ _ _
      cases h
      simp [forR]
    | cons s w ih =>
      intro f seen h gf nd dj gs hlen
      cases h with
      | @cons _ _ f2 _ _ hs hr =>
        obtain ⟨p, hp, en, hd2⟩ := hs
        rw [List.map_cons, List.nodup_cons] at nd
        rw [List.length_cons] at hlen
        have hget := hd p hp
        rw [en] at hget
        have hns : s.1 ∉ seen := dj _ (by simp)
        have gn : GdS s.1 := by rw [← en]; exact gd_of (ok p hp).n
        have hin : TF.inR false s.1 seen = .ok false := by rw [inR_ok gn gs, decide_eq_false hns]; rfl
        have gst := gd_of (ok p hp).s
        have gfi := gd_of (ok p hp).f
        have hgf : GdS f2 ∧ B s (f, seen) = .ok (.nx (f2, seen ++ [s.1])) := by
          rw [← hB]
          simp only [decide_true, Bool.not_true, Bool.false_eq_true, if_false, R.ok_bind, hget, Option.isSome_some, hin, getR_ok hget, few_ok (l := seen) (by omega), few_ok (l := [p.fin, p.start]) (by simp), few_ok (l := [p.start, p.fin]) (by simp)]
          rcases hd2 with ⟨q, e1, e2⟩ | ⟨q, e1, e2⟩
          · subst e1 e2
            have x1 : ixL [p.fin, p.start] 1 = .ok p.start := rfl
            have x2 : ixL [p.start, p.fin] 1 = .ok p.fin := rfl
            simp only [q, if_true, x1, x2, R.ok_bind, neS gst, Bool.false_eq_true, if_false]
            exact ⟨gfi, trivial⟩
          · subst e1 e2
            have x1 : ixL [p.fin, p.start] 0 = .ok p.fin := rfl
            have x2 : ixL [p.start, p.fin] 0 = .ok p.start := rfl
            simp only [q, if_false, x1, x2, R.ok_bind, neS gfi, Bool.false_eq_true]
            exact ⟨gst, trivial⟩
        show ((B s (f, seen)).bind _) = _
        rw [hgf.2, R.ok_bind]
        dsimp only
        rw [ih f2 (seen ++ [s.1]) hr hgf.1 nd.2 (fun n hn hm => by
          rcases List.mem_append.mp hm with hm | hm
          · exact dj n (List.mem_cons_of_mem _ hn) hm
          · exact nd.1 (List.mem_singleton.mp hm ▸ hn)) (fun n hn => by
          rcases List.mem_append.mp hn with hn | hn
          · exact gs n hn
          · rw [List.mem_singleton.mp hn]; exact gn) (by rw [List.length_append, List.length_singleton]; omega)]
        simp
  have k := key w g.one [] hw.toC (gd_of hg.s) nd (fun _ _ h => (nomatch h)) (fun _ h => (nomatch h)) (by simpa using hwl)
  rw [k, R.ok_bind]
  dsimp only
  rw [eqS (gd_of hg.f) (gd_of hg.f)]
  exact sat_ok (by simp)
theorem ie1 : isE ti_NoName "NoName" [] = .ok true := by simp [isE, ti_NoName]
theorem ie2 : isE ti_ValueError "NoName" [] = .ok true := by simp [isE, ti_ValueError]
theorem ie3 : isE ti_NoGap "NoName" [] = .ok false := by simp [isE, ti_NoGap]
theorem ie4 : isE ti_NoPart "NoName" [] = .ok false := by simp [isE, ti_NoPart]
theorem ie5 : isE ti_Twice "NoName" [] = .ok false := by simp [isE, ti_Twice]
theorem ie6 : isE ti_NoFace "NoName" [] = .ok false := by simp [isE, ti_NoFace]
theorem ie7 : isE ti_NoRow "NoName" [] = .ok false := by simp [isE, ti_NoRow]
theorem refused_ok {t : ThingV} {n : Str} (h : n ∉ t.ways.keys) (way : Int) : F__law_refused t n way = .ok true := by
  have e1 := way_none h
  have e2 : F_Thing_middle t n = .exc "NoName" [] := by
    unfold F_Thing_middle
    simp only [R.ok_bind, R.exc_bind, R.bad_bind, R.bind_assoc, R.noexc_ok, R.b2, R.map, R.cond, R.flow, addI, subI, andB, orB, unw_some, unw_none, few_nil, ofRat, isCls, Option.isNone_none, Option.isNone_some, Bool.not_true, Bool.not_false, Bool.false_eq_true, if_true, if_false]
    rw [toRat01, R.ok_bind, e1]; rfl
  have e3 : F_Thing_room t n = .exc "NoName" [] := by
    unfold F_Thing_room
    simp only [R.ok_bind, R.exc_bind, R.bad_bind, R.bind_assoc, R.noexc_ok, R.b2, R.map, R.cond, R.flow, addI, subI, andB, orB, unw_some, unw_none, few_nil, ofRat, isCls, Option.isNone_none, Option.isNone_some, Bool.not_true, Bool.not_false, Bool.false_eq_true, if_true, if_false]
    rw [e2]; rfl
  have ex : excT tb_SlackError "NoName" = some true := by simp [excT, tb_SlackError]
  unfold F__law_refused
  simp only [R.ok_bind, R.exc_bind, R.bad_bind, R.bind_assoc, R.noexc_ok, R.b2, R.map, R.cond, R.flow, addI, subI, andB, orB, unw_some, unw_none, few_nil, ofRat, isCls, Option.isNone_none, Option.isNone_some, Bool.not_true, Bool.not_false, Bool.false_eq_true, if_true, if_false]
  rw [e1, e2, e3]
  have : (if decide (way = 0) = true then (R.exc "NoName" [] : R (List (Str × Bool))).bind fun x => R.ok (none : Option (List Bool)) else if decide (way = 1) = true then (R.exc "NoName" [] : R Rat).bind fun x => R.ok none else (R.exc "NoName" [] : R Rat).bind fun x => R.ok none) = .exc "NoName" [] := by
    split
    · rfl
    · split <;> rfl
  rw [this]
  simp [R.ok_bind, R.exc_bind, R.bad_bind, R.bind_assoc, R.noexc_ok, R.b2, R.map, R.cond, R.flow, addI, subI, andB, orB, unw_some, unw_none, few_nil, ofRat, isCls, Option.isNone_none, Option.isNone_some, Bool.not_true, Bool.not_false, Bool.false_eq_true, if_true, if_false, few, tryR, ex, ie1, ie2, ie3, ie4, ie5, ie6, ie7, eqR, EqD.good]
theorem nobody : (Str.ofString "nobody") = sl [110, 111, 98, 111, 100, 121] := by decide +kernel
theorem law_ok (ns : List Int) (hn : ns.length ≤ 63) : F_law ns = .ok true := by
  apply sat_true
  unfold F_law
  simp only [R.ok_bind, R.exc_bind, R.bad_bind, R.bind_assoc, R.noexc_ok, R.b2, R.map, R.cond, R.flow, addI, subI, andB, orB, unw_some, unw_none, few_nil, ofRat, isCls, Option.isNone_none, Option.isNone_some, Bool.not_true, Bool.not_false, Bool.false_eq_true, if_true, if_false]
  rw [cell_eq]
  refine sat_bind (cell_ok hn (by omega) (by omega) (by omega)) fun c _ => ?_
  have hst : 0 ≤ c % 4 ∧ c % 4 ≤ 3 := by omega
  generalize c % 4 = st at hst
  refine sat_bind (parts_ok ns hn st hst.1 hst.2) ?_
  rintro ⟨ps0, d⟩ ⟨k, ch, hk0, hk, I⟩
  simp only at I ⊢
  have hps0 : ps0.length = k := by have := congrArg List.length I.nm; simpa using this
  refine sat_bind (list_ok ns hn (by omega)) fun ps hperm => ?_
  refine sat_bind (gaps_ok ns hn st hst.1 hst.2 I hk0 hk) ?_
  rintro gs0 ⟨hg0, G0⟩
  refine sat_bind (unlike_ok hg0) ?_
  rintro gs ⟨hgl, nG, hsub⟩
  have G : ∀ g ∈ gs, GapD d g := fun g hg => G0 g (hsub g hg)
  have T := I.T.perm hperm
  have hps : ps.length = k := by rw [hperm.length_eq, hps0]
  have okG : ∀ g ∈ gs, OkG g := fun g hg => (G g hg).ok
  have F : Fit ps gs := T.fit (by omega) (by omega) okG nG fun g hg => ⟨(G g hg).one, (G g hg).other, (G g hg).root⟩
  refine sat_bind (thing_ok F) fun t TO => ?_
  rw [compR_map (fun g : GapV => g.name) gs (fun _ _ => rfl) (by omega), R.noexc_ok, R.ok_bind]
  have hcut : (cut gs none (some 1)).length ≤ 8 := Nat.le_trans (cut_len ..) hgl
  rw [few_ok (by rw [List.length_append]; omega), R.ok_bind]
  have ways : ∀ g ∈ gs ++ cut gs none (some 1), g ∈ gs := fun g hg => by
    rcases List.mem_append.mp hg with hg | hg
    · exact hg
    · exact cut_mem hg
  rw [forR_unit]
  · simp only [R.ok_bind, R.exc_bind, R.bad_bind, R.bind_assoc, R.noexc_ok, R.b2, R.map, R.cond, R.flow, addI, subI, andB, orB, unw_some, unw_none, few_nil, ofRat, isCls, Option.isNone_none, Option.isNone_some, Bool.not_true, Bool.not_false, Bool.false_eq_true, if_true, if_false]
    rw [few_ok (by simp), R.ok_bind, compR_map (fun p : PartV => p.name) ps (fun _ _ => rfl) (by omega), R.noexc_ok, R.ok_bind, few_ok (by simp; omega), R.ok_bind]
    unfold sortedDR
    have hdl := I.len
    rw [if_pos (by omega), R.ok_bind, few_ok (by simp [sortS_len]; omega), R.ok_bind]
    have nms : ∀ x ∈ [Str.ofString "nobody"] ++ ps.map (fun p => p.name) ++ sortS (d.l.map (·.1)), GdS x ∧ x.length < 100 := fun x hx => by
      have hst3 : st.toNat ≤ 3 := by omega
      rcases List.mem_append.mp hx with hx | hx
      · rcases List.mem_append.mp hx with hx | hx
        · rw [List.mem_singleton.mp hx, nobody]
          exact ⟨gd_of (z := sl [110, 111, 98, 111, 100, 121]) (by rw [nameB_sl]; decide), by rw [sl_len]; decide⟩
        · obtain ⟨p, hp, rfl⟩ := List.mem_map.mp hx
          have := nameB_ok (T.ok p hp).n
          exact ⟨this.1, by omega⟩
      · have := nameB_ok (I.fa.nm (by omega) (by decide) hst3 x (sortS_mem.mp hx))
        exact ⟨this.1, by omega⟩
    have nobodyK : Str.ofString "nobody" ∉ t.ways.keys := by
      rw [TO.ways]
      intro hm
      obtain ⟨g, hg, e⟩ := List.mem_map.mp hm
      have h4 := (G g hg).len
      rw [e, nobody, sl_len] at h4
      exact absurd h4 (by decide)
    rw [forR_unit]
    · simp only [R.ok_bind, R.exc_bind, R.bad_bind, R.bind_assoc, R.noexc_ok, R.b2, R.map, R.cond, R.flow, addI, subI, andB, orB, unw_some, unw_none, few_nil, ofRat, isCls, Option.isNone_none, Option.isNone_some, Bool.not_true, Bool.not_false, Bool.false_eq_true, if_true, if_false]
      rw [refused_ok nobodyK, refused_ok nobodyK, refused_ok nobodyK]
      exact sat_ok rfl
    · intro x hx
      obtain ⟨g1, g2⟩ := nms x hx
      rw [inR_ok g1 (fun b hb => by
        obtain ⟨g, hg, rfl⟩ := List.mem_map.mp hb
        exact gd_of (okG g hg).n), R.ok_bind]
      by_cases hin : x ∈ gs.map (fun g => g.name)
      · simp [hin]
      · have hk' : x ∉ t.ways.keys := by rw [TO.ways]; exact hin
        simp only [hin, decide_false, Bool.xor_false, if_true]
        unfold lenS
        rw [if_pos (by omega), R.ok_bind, mulI_ok (.inl (by omega)), R.ok_bind, refused_ok hk']
        rfl
  · intro g hg
    have hg := ways g hg
    obtain ⟨w, w1, w2, w3, w4⟩ := TO.way g hg
    rw [way_eq (ps := ps) (gs := gs) w1, R.ok_bind, walked_ok T.nP T.ok (by omega) (okG g hg) w2 w3 (by omega), R.ok_bind, few_ok (by omega)]
    rfl
end K42

namespace K42
open PySem PySem.Spec PyProof.Rows L2 DL FR TF
open TF.Enc
def sp_divisor : DSp := fun ds A Q _ => match ds with
  | [.int a, .int b] => Q (.int (Int.gcd a b)) A
  | _ => False
@[simp ↓] theorem sp_divisor_eq {A : AH} {Q : DK} {E : DX} {a b : Int} : sp_divisor [.int a, .int b] A Q E = Q (.int (Int.gcd a b)) A := rfl
theorem hs_divisor : ∀ (A : AH) (d0 d1 : D) (x y : Int) (Q : DK) (E : DX), vw A d0 x → vw A d1 y → (F_divisor x y).wp (fun r => Q (enc r) A) (fun c fs => E c fs A) → sp_divisor ([d0, d1] ++ []) A Q E := by
  intro A d0 d1 x y Q E h0 h1 h
  have e0 : d0 = .int x := h0
  have e1 : d1 = .int y := h1
  subst e0 e1
  exact h
def sp_fraction : DSp := fun ds A Q E => match ds with
  | [.int a, .int b] => (b = 0 → E "NoNumber" [] A) ∧ (b ≠ 0 → (Wd a ∧ Wd b) ∧ Q (frD (Rat.divInt a b)) A)
  | _ => False
@[simp ↓] theorem sp_fraction_eq {A : AH} {Q : DK} {E : DX} {a b : Int} : sp_fraction [.int a, .int b] A Q E = ((b = 0 → E "NoNumber" [] A) ∧ (b ≠ 0 → (Wd a ∧ Wd b) ∧ Q (frD (Rat.divInt a b)) A)) := rfl
theorem hs_fraction : ∀ (A : AH) (d0 d1 : D) (x y : Int) (Q : DK) (E : DX), vw A d0 x → vw A d1 y → (F_fraction x y).wp (fun r => Q (enc r) A) (fun c fs => E c fs A) → sp_fraction ([d0, d1] ++ []) A Q E := by
  intro A d0 d1 x y Q E h0 h1 h
  have e0 : d0 = .int x := h0
  have e1 : d1 = .int y := h1
  subst e0 e1
  show sp_fraction [.int x, .int y] A Q E
  rw [sp_fraction_eq]
  unfold F_fraction at h
  split at h
  · rename_i hz; exact ⟨fun _ => h, fun q => absurd hz q⟩
  · rename_i hz
    split at h
    · rename_i g; exact ⟨fun q => absurd q hz, fun _ => ⟨g, h⟩⟩
    · exact h.elim
def sp_plus : DSp := fun ds A Q _ => match ds with
  | [x, y] => (match deFr x, deFr y with
    | some q, some r => (Sm q ∧ Sm r) ∧ Q (frD (q + r)) A
    | _, _ => False)
  | _ => False
@[simp ↓] theorem sp_plus_eq {A : AH} {Q : DK} {E : DX} {q r : Rat} : sp_plus [frD q, frD r] A Q E = ((Sm q ∧ Sm r) ∧ Q (frD (q + r)) A) := by
  simp [sp_plus]
theorem hs_plus : ∀ (A : AH) (d0 d1 : D) (x y : Rat) (Q : DK) (E : DX), vw A d0 x → vw A d1 y → (F_plus x y).wp (fun r => Q (enc r) A) (fun c fs => E c fs A) → sp_plus ([d0, d1] ++ []) A Q E := by
  intro A d0 d1 x y Q E h0 h1 h
  have e0 : d0 = frD x := h0
  have e1 : d1 = frD y := h1
  subst e0 e1
  show sp_plus [frD x, frD y] A Q E
  rw [sp_plus_eq]
  unfold F_plus at h
  split at h
  · rename_i g; exact ⟨g, h⟩
  · exact h.elim
def sp_minus : DSp := fun ds A Q _ => match ds with
  | [x, y] => (match deFr x, deFr y with
    | some q, some r => (Sm q ∧ Sm r) ∧ Q (frD (q - r)) A
    | _, _ => False)
  | _ => False
@[simp ↓] theorem sp_minus_eq {A : AH} {Q : DK} {E : DX} {q r : Rat} : sp_minus [frD q, frD r] A Q E = ((Sm q ∧ Sm r) ∧ Q (frD (q - r)) A) := by
  simp [sp_minus]
theorem hs_minus : ∀ (A : AH) (d0 d1 : D) (x y : Rat) (Q : DK) (E : DX), vw A d0 x → vw A d1 y → (F_minus x y).wp (fun r => Q (enc r) A) (fun c fs => E c fs A) → sp_minus ([d0, d1] ++ []) A Q E := by
  intro A d0 d1 x y Q E h0 h1 h
  have e0 : d0 = frD x := h0
  have e1 : d1 = frD y := h1
  subst e0 e1
  show sp_minus [frD x, frD y] A Q E
  rw [sp_minus_eq]
  unfold F_minus at h
  split at h
  · rename_i g; exact ⟨g, h⟩
  · exact h.elim
def sp_under : DSp := fun ds A Q _ => match ds with
  | [x, y] => (match deFr x, deFr y with
    | some q, some r => (Sm q ∧ Sm r) ∧ Q (.bl (decide (q < r))) A
    | _, _ => False)
  | _ => False
@[simp ↓] theorem sp_under_eq {A : AH} {Q : DK} {E : DX} {q r : Rat} : sp_under [frD q, frD r] A Q E = ((Sm q ∧ Sm r) ∧ Q (.bl (decide (q < r))) A) := by
  simp [sp_under]
theorem hs_under : ∀ (A : AH) (d0 d1 : D) (x y : Rat) (Q : DK) (E : DX), vw A d0 x → vw A d1 y → (F_under x y).wp (fun r => Q (enc r) A) (fun c fs => E c fs A) → sp_under ([d0, d1] ++ []) A Q E := by
  intro A d0 d1 x y Q E h0 h1 h
  have e0 : d0 = frD x := h0
  have e1 : d1 = frD y := h1
  subst e0 e1
  show sp_under [frD x, frD y] A Q E
  rw [sp_under_eq]
  unfold F_under at h
  split at h
  · rename_i g; exact ⟨g, h⟩
  · exact h.elim
def sp_is_whole : DSp := fun ds A Q _ => match ds with
  | [d] => (tyD A d).isSome = true ∧ Q (.bl (isIntD d)) A
  | _ => False
@[simp ↓] theorem sp_is_whole_eq {A : AH} {Q : DK} {E : DX} {d : D} : sp_is_whole [d] A Q E = ((tyD A d).isSome = true ∧ Q (.bl (isIntD d)) A) := rfl
theorem hs_is_whole : ∀ (A : AH) (d0 : D) (x : D) (Q : DK) (E : DX), vw A d0 x → (F_is_whole x).wp (fun r => Q (enc r) A) (fun c fs => E c fs A) → sp_is_whole ([d0] ++ []) A Q E := by
  intro A d0 x Q E h0 h
  have ty : ∀ d : D, (tyD noHeap d).isSome = true → (tyD A d).isSome = true := fun d h => by
    cases d with
    | ref a => exact absurd h (by show ¬ (Option.isSome (none : Option String) = true); decide)
    | _ => exact h
  have e0 : x = d0 := h0.symm
  subst e0
  unfold F_is_whole at h
  split at h
  · rename_i g
    show sp_is_whole [x] A Q E
    exact ⟨ty x g, h⟩
  · exact h.elim
def sp_is_name : DSp := fun ds A Q _ => match ds with
  | [.str z] => Few z.length ∧ Q (.bl (nameB z)) A
  | [d] => ((tyD A d).isSome = true ∧ tyD A d ≠ some "str") ∧ Q (.bl false) A
  | _ => False
@[simp ↓] theorem sp_is_name_str {A : AH} {Q : DK} {E : DX} {z : Str} : sp_is_name [.str z] A Q E = (Few z.length ∧ Q (.bl (nameB z)) A) := rfl
@[simp ↓] theorem sp_is_name_tup {A : AH} {Q : DK} {E : DX} {l : List D} : sp_is_name [.tup l] A Q E = Q (.bl false) A := by simp [sp_is_name]
@[simp ↓] theorem sp_is_name_lst {A : AH} {Q : DK} {E : DX} {l : List D} : sp_is_name [.lst l] A Q E = Q (.bl false) A := by simp [sp_is_name]
@[simp ↓] theorem sp_is_name_int {A : AH} {Q : DK} {E : DX} {i : Int} : sp_is_name [.int i] A Q E = Q (.bl false) A := by simp [sp_is_name]
@[simp ↓] theorem sp_is_name_non {A : AH} {Q : DK} {E : DX} : sp_is_name [.non] A Q E = Q (.bl false) A := by simp [sp_is_name]
def sp_is_fraction : DSp := fun ds A Q _ => match ds with
  | [d] => tyOk A d = true ∧ Q (.bl (fracB d)) A
  | _ => False
@[simp ↓] theorem sp_is_fraction_eq {A : AH} {Q : DK} {E : DX} {d : D} : sp_is_fraction [d] A Q E = (tyOk A d = true ∧ Q (.bl (fracB d)) A) := rfl
theorem hs_is_fraction : ∀ (A : AH) (d0 : D) (x : D) (Q : DK) (E : DX), vw A d0 x → (F_is_fraction x).wp (fun r => Q (enc r) A) (fun c fs => E c fs A) → sp_is_fraction ([d0] ++ []) A Q E := by
  intro A d0 x Q E h0 h
  have ty : ∀ d : D, (tyD noHeap d).isSome = true → (tyD A d).isSome = true := fun d h => by
    cases d with
    | ref a => exact absurd h (by show ¬ (Option.isSome (none : Option String) = true); decide)
    | _ => exact h
  have e0 : x = d0 := h0.symm
  subst e0
  unfold F_is_fraction at h
  split at h
  · rename_i g
    show sp_is_fraction [x] A Q E
    refine ⟨?_, h⟩
    cases x with
    | tup m =>
      have h1' : (m.all fun d => (tyD noHeap d).isSome) = true := g
      show (m.all fun d => (tyD A d).isSome) = true
      rw [List.all_eq_true] at h1' ⊢
      exact fun y hy => ty y (h1' y hy)
    | ref a => exact absurd g (by show ¬ (Option.isSome (none : Option String) = true); decide)
    | _ => exact g
  · exact h.elim
def sp_has_ends : DSp := fun ds A Q _ => match ds with
  | [.tup (.str a :: .str b :: .str c :: r), .int n] => (nmOk a ∧ nmOk b ∧ nmOk c) ∧ Q (.bl (endsB a b c r.length n)) A
  | _ => False
@[simp ↓] theorem sp_has_ends_eq {A : AH} {Q : DK} {E : DX} {a b c : Str} {r : List D} {n : Int} : sp_has_ends [.tup (.str a :: .str b :: .str c :: r), .int n] A Q E = ((nmOk a ∧ nmOk b ∧ nmOk c) ∧ Q (.bl (endsB a b c r.length n)) A) := rfl
theorem hs_has_ends : ∀ (A : AH) (d0 d1 : D) (x : D) (y : Int) (Q : DK) (E : DX), vw A d0 x → vw A d1 y → (F_has_ends x y).wp (fun r => Q (enc r) A) (fun c fs => E c fs A) → sp_has_ends ([d0, d1] ++ []) A Q E := by
  intro A d0 d1 x y Q E h0 h1 h
  have e0 : x = d0 := h0.symm
  have e1 : d1 = .int y := h1
  subst e0 e1
  unfold F_has_ends at h
  split at h
  · split at h
    · rename_i g; exact ⟨g, h⟩
    · exact h.elim
  · exact h.elim
def sp_is_part : DSp := fun ds A Q E => ∃ (d0 : D) (v_thing : PartV), ds = [d0] ∧ vw A d0 v_thing ∧ (F_is_part v_thing).wp (fun r => Q (enc r) A) (fun c fs => E c fs A)
theorem hs_is_part : ∀ (A : AH) (d0 : D) (v_thing : PartV) (Q : DK) (E : DX), vw A d0 v_thing → (F_is_part v_thing).wp (fun r => Q (enc r) A) (fun c fs => E c fs A) → sp_is_part ([d0] ++ []) A Q E :=
  fun A d0 v_thing Q E h0 h => ⟨d0, v_thing, rfl, h0, h⟩
def sp_is_gap : DSp := fun ds A Q E => ∃ (d0 : D) (v_thing : GapV), ds = [d0] ∧ vw A d0 v_thing ∧ (F_is_gap v_thing).wp (fun r => Q (enc r) A) (fun c fs => E c fs A)
theorem hs_is_gap : ∀ (A : AH) (d0 : D) (v_thing : GapV) (Q : DK) (E : DX), vw A d0 v_thing → (F_is_gap v_thing).wp (fun r => Q (enc r) A) (fun c fs => E c fs A) → sp_is_gap ([d0] ++ []) A Q E :=
  fun A d0 v_thing Q E h0 h => ⟨d0, v_thing, rfl, h0, h⟩
def sp_way_between : DSp := fun ds A Q E => ∃ (d0 : D) (d1 : D) (d2 : D) (v_parts : (List PartV)) (v_one : Str) (v_other : Str), ds = [d0, d1, d2] ∧ vw A d0 v_parts ∧ vw A d1 v_one ∧ vw A d2 v_other ∧ (F_way_between v_parts v_one v_other).wp (fun r => Q (enc r) A) (fun c fs => E c fs A)
theorem hs_way_between : ∀ (A : AH) (d0 : D) (d1 : D) (d2 : D) (v_parts : (List PartV)) (v_one : Str) (v_other : Str) (Q : DK) (E : DX), vw A d0 v_parts → vw A d1 v_one → vw A d2 v_other → (F_way_between v_parts v_one v_other).wp (fun r => Q (enc r) A) (fun c fs => E c fs A) → sp_way_between ([d0, d1, d2] ++ []) A Q E :=
  fun A d0 d1 d2 v_parts v_one v_other Q E h0 h1 h2 h => ⟨d0, d1, d2, v_parts, v_one, v_other, rfl, h0, h1, h2, h⟩
def sp_Thing_add_part : DSp := fun ds A Q E => ∃ (A0 : AH) (p : Addr) (t : ThingV) (x : PartV), ds = [.ref p, enc x] ∧ New A0 (.ob "Thing" (some p) (fThing t)) p A ∧
  (F_Thing_add_part t x).wp (fun t' => ∀ A', New A0 (.ob "Thing" (some p) (fThing t')) p A' → Q .non A') (fun k gs => ∀ A', New A0 (.ob "Thing" (some p) (fThing t)) p A' → E k gs A')
theorem io_add_part (t : ThingV) (x : PartV) : IoP "Thing" fThing t (F_Thing_add_part t x) (fun p => [.ref p, enc x]) sp_Thing_add_part := fun A0 A p Q E hn h => ⟨A0, p, t, x, rfl, hn, h⟩
def sp_Thing_add_gap : DSp := fun ds A Q E => ∃ (A0 : AH) (p : Addr) (t : ThingV) (x : GapV), ds = [.ref p, enc x] ∧ New A0 (.ob "Thing" (some p) (fThing t)) p A ∧
  (F_Thing_add_gap t x).wp (fun t' => ∀ A', New A0 (.ob "Thing" (some p) (fThing t')) p A' → Q .non A') (fun k gs => ∀ A', New A0 (.ob "Thing" (some p) (fThing t)) p A' → E k gs A')
theorem io_add_gap (t : ThingV) (x : GapV) : IoP "Thing" fThing t (F_Thing_add_gap t x) (fun p => [.ref p, enc x]) sp_Thing_add_gap := fun A0 A p Q E hn h => ⟨A0, p, t, x, rfl, hn, h⟩
def sp_Thing___init__ : DSp := fun ds A Q E => ∃ (A0 : AH) (p : Addr) (d1 d2 : D) (parts : List PartV) (gaps : List GapV), ds = [.ref p, d1, d2] ∧ New A0 (.ob "Thing" (some p) []) p A ∧ vw A0 d1 parts ∧ vw A0 d2 gaps ∧
  (F_Thing parts gaps).wp (fun t' => ∀ A', New A0 (.ob "Thing" (some p) (fThing t')) p A' → Q .non A') (fun k gs => E k gs A0)
theorem mk_Thing (A : AH) (x y : D) (a : List PartV) (b : List GapV) (h1 : vw A x a) (h2 : vw A y b) : MkP "Thing" fThing (F_Thing a b) A (fun p => [.ref p, x, y]) sp_Thing___init__ := fun A' p Q E hn h => ⟨A, p, x, y, a, b, rfl, hn, h1, h2, h⟩
def sp_Thing_way : DSp := fun ds A Q E => ∃ (d0 : D) (d1 : D) (v_self : ThingV) (v_name : Str), ds = [d0, d1] ∧ vw A d0 v_self ∧ vw A d1 v_name ∧ (F_Thing_way v_self v_name).wp (fun r => ∀ p A', New A (oL r) p A' → Q (.ref p) A') (fun c fs => E c fs A)
theorem hs_Thing_way : ∀ (A : AH) (d0 : D) (d1 : D) (v_self : ThingV) (v_name : Str) (Q : DK) (E : DX), vw A d0 v_self → vw A d1 v_name → (F_Thing_way v_self v_name).wp (fun r => ∀ p A', New A (oL r) p A' → Q (.ref p) A') (fun c fs => E c fs A) → sp_Thing_way ([d0, d1] ++ []) A Q E :=
  fun A d0 d1 v_self v_name Q E h0 h1 h => ⟨d0, d1, v_self, v_name, rfl, h0, h1, h⟩
def sp_Thing_middle : DSp := fun ds A Q E => ∃ (d0 : D) (d1 : D) (v_self : ThingV) (v_name : Str), ds = [d0, d1] ∧ vw A d0 v_self ∧ vw A d1 v_name ∧ (F_Thing_middle v_self v_name).wp (fun r => Q (enc r) A) (fun c fs => E c fs A)
theorem hs_Thing_middle : ∀ (A : AH) (d0 : D) (d1 : D) (v_self : ThingV) (v_name : Str) (Q : DK) (E : DX), vw A d0 v_self → vw A d1 v_name → (F_Thing_middle v_self v_name).wp (fun r => Q (enc r) A) (fun c fs => E c fs A) → sp_Thing_middle ([d0, d1] ++ []) A Q E :=
  fun A d0 d1 v_self v_name Q E h0 h1 h => ⟨d0, d1, v_self, v_name, rfl, h0, h1, h⟩
def sp_Thing_room : DSp := fun ds A Q E => ∃ (d0 : D) (d1 : D) (v_self : ThingV) (v_name : Str), ds = [d0, d1] ∧ vw A d0 v_self ∧ vw A d1 v_name ∧ (F_Thing_room v_self v_name).wp (fun r => Q (enc r) A) (fun c fs => E c fs A)
theorem hs_Thing_room : ∀ (A : AH) (d0 : D) (d1 : D) (v_self : ThingV) (v_name : Str) (Q : DK) (E : DX), vw A d0 v_self → vw A d1 v_name → (F_Thing_room v_self v_name).wp (fun r => Q (enc r) A) (fun c fs => E c fs A) → sp_Thing_room ([d0, d1] ++ []) A Q E :=
  fun A d0 d1 v_self v_name Q E h0 h1 h => ⟨d0, d1, v_self, v_name, rfl, h0, h1, h⟩
def sp__law_cell : DSp := fun ds A Q E => ∃ (d0 : D) (d1 : D) (v_script : (List Int)) (v_k : Int), ds = [d0, d1] ∧ vw A d0 v_script ∧ vw A d1 v_k ∧ (F__law_cell v_script v_k).wp (fun r => Q (enc r) A) (fun c fs => E c fs A)
theorem hs__law_cell : ∀ (A : AH) (d0 : D) (d1 : D) (v_script : (List Int)) (v_k : Int) (Q : DK) (E : DX), vw A d0 v_script → vw A d1 v_k → (F__law_cell v_script v_k).wp (fun r => Q (enc r) A) (fun c fs => E c fs A) → sp__law_cell ([d0, d1] ++ []) A Q E :=
  fun A d0 d1 v_script v_k Q E h0 h1 h => ⟨d0, d1, v_script, v_k, rfl, h0, h1, h⟩
def sp__law_signed : DSp := fun ds A Q E => ∃ (d0 : D) (d1 : D) (v_cell_here : Int) (v_most : Int), ds = [d0, d1] ∧ vw A d0 v_cell_here ∧ vw A d1 v_most ∧ (F__law_signed v_cell_here v_most).wp (fun r => Q (enc r) A) (fun c fs => E c fs A)
theorem hs__law_signed : ∀ (A : AH) (d0 : D) (d1 : D) (v_cell_here : Int) (v_most : Int) (Q : DK) (E : DX), vw A d0 v_cell_here → vw A d1 v_most → (F__law_signed v_cell_here v_most).wp (fun r => Q (enc r) A) (fun c fs => E c fs A) → sp__law_signed ([d0, d1] ++ []) A Q E :=
  fun A d0 d1 v_cell_here v_most Q E h0 h1 h => ⟨d0, d1, v_cell_here, v_most, rfl, h0, h1, h⟩
def sp__law_low : DSp := fun ds A Q E => ∃ (d0 : D) (d1 : D) (v_top : Int) (v_bottom : Int), ds = [d0, d1] ∧ vw A d0 v_top ∧ vw A d1 v_bottom ∧ (F__law_low v_top v_bottom).wp (fun r => Q (enc r) A) (fun c fs => E c fs A)
theorem hs__law_low : ∀ (A : AH) (d0 : D) (d1 : D) (v_top : Int) (v_bottom : Int) (Q : DK) (E : DX), vw A d0 v_top → vw A d1 v_bottom → (F__law_low v_top v_bottom).wp (fun r => Q (enc r) A) (fun c fs => E c fs A) → sp__law_low ([d0, d1] ++ []) A Q E :=
  fun A d0 d1 v_top v_bottom Q E h0 h1 h => ⟨d0, d1, v_top, v_bottom, rfl, h0, h1, h⟩
def sp__law_plus : DSp := fun ds A Q E => ∃ (d0 : D) (d1 : D) (d2 : D) (v_one : Rat) (v_other : Rat) (v_sign : Int), ds = [d0, d1, d2] ∧ vw A d0 v_one ∧ vw A d1 v_other ∧ vw A d2 v_sign ∧ (F__law_plus v_one v_other v_sign).wp (fun r => Q (enc r) A) (fun c fs => E c fs A)
theorem hs__law_plus : ∀ (A : AH) (d0 : D) (d1 : D) (d2 : D) (v_one : Rat) (v_other : Rat) (v_sign : Int) (Q : DK) (E : DX), vw A d0 v_one → vw A d1 v_other → vw A d2 v_sign → (F__law_plus v_one v_other v_sign).wp (fun r => Q (enc r) A) (fun c fs => E c fs A) → sp__law_plus ([d0, d1, d2] ++ []) A Q E :=
  fun A d0 d1 d2 v_one v_other v_sign Q E h0 h1 h2 h => ⟨d0, d1, d2, v_one, v_other, v_sign, rfl, h0, h1, h2, h⟩
def sp__law_name : DSp := fun ds A Q E => ∃ (d0 : D) (d1 : D) (d2 : D) (v_k : Int) (v_sign : Str) (v_style : Int), ds = [d0, d1, d2] ∧ vw A d0 v_k ∧ vw A d1 v_sign ∧ vw A d2 v_style ∧ (F__law_name v_k v_sign v_style).wp (fun r => Q (enc r) A) (fun c fs => E c fs A)
theorem hs__law_name : ∀ (A : AH) (d0 : D) (d1 : D) (d2 : D) (v_k : Int) (v_sign : Str) (v_style : Int) (Q : DK) (E : DX), vw A d0 v_k → vw A d1 v_sign → vw A d2 v_style → (F__law_name v_k v_sign v_style).wp (fun r => Q (enc r) A) (fun c fs => E c fs A) → sp__law_name ([d0, d1, d2] ++ []) A Q E :=
  fun A d0 d1 d2 v_k v_sign v_style Q E h0 h1 h2 h => ⟨d0, d1, d2, v_k, v_sign, v_style, rfl, h0, h1, h2, h⟩
def sp__law_parts : DSp := fun ds A Q E => ∃ (d0 : D) (d1 : D) (v_script : (List Int)) (v_style : Int), ds = [d0, d1] ∧ vw A d0 v_script ∧ vw A d1 v_style ∧ (F__law_parts v_script v_style).wp (fun r => Q (enc r) A) (fun c fs => E c fs A)
theorem hs__law_parts : ∀ (A : AH) (d0 : D) (d1 : D) (v_script : (List Int)) (v_style : Int) (Q : DK) (E : DX), vw A d0 v_script → vw A d1 v_style → (F__law_parts v_script v_style).wp (fun r => Q (enc r) A) (fun c fs => E c fs A) → sp__law_parts ([d0, d1] ++ []) A Q E :=
  fun A d0 d1 v_script v_style Q E h0 h1 h => ⟨d0, d1, v_script, v_style, rfl, h0, h1, h⟩
def sp__law_listed : DSp := fun ds A Q E => ∃ (d0 : D) (d1 : D) (v_script : (List Int)) (v_parts_here : (List PartV)), ds = [d0, d1] ∧ vw A d0 v_script ∧ vw A d1 v_parts_here ∧ (F__law_listed v_script v_parts_here).wp (fun r => Q (enc r) A) (fun c fs => E c fs A)
theorem hs__law_listed : ∀ (A : AH) (d0 : D) (d1 : D) (v_script : (List Int)) (v_parts_here : (List PartV)) (Q : DK) (E : DX), vw A d0 v_script → vw A d1 v_parts_here → (F__law_listed v_script v_parts_here).wp (fun r => Q (enc r) A) (fun c fs => E c fs A) → sp__law_listed ([d0, d1] ++ []) A Q E :=
  fun A d0 d1 v_script v_parts_here Q E h0 h1 h => ⟨d0, d1, v_script, v_parts_here, rfl, h0, h1, h⟩
def sp__law_gaps : DSp := fun ds A Q E => ∃ (d0 : D) (d1 : D) (d2 : D) (v_script : (List Int)) (v_spots : (Dic Str (Str × Rat))) (v_style : Int), ds = [d0, d1, d2] ∧ vw A d0 v_script ∧ vw A d1 v_spots ∧ vw A d2 v_style ∧ (F__law_gaps v_script v_spots v_style).wp (fun r => Q (enc r) A) (fun c fs => E c fs A)
theorem hs__law_gaps : ∀ (A : AH) (d0 : D) (d1 : D) (d2 : D) (v_script : (List Int)) (v_spots : (Dic Str (Str × Rat))) (v_style : Int) (Q : DK) (E : DX), vw A d0 v_script → vw A d1 v_spots → vw A d2 v_style → (F__law_gaps v_script v_spots v_style).wp (fun r => Q (enc r) A) (fun c fs => E c fs A) → sp__law_gaps ([d0, d1, d2] ++ []) A Q E :=
  fun A d0 d1 d2 v_script v_spots v_style Q E h0 h1 h2 h => ⟨d0, d1, d2, v_script, v_spots, v_style, rfl, h0, h1, h2, h⟩
def sp__law_unlike : DSp := fun ds A Q E => ∃ (d0 : D) (v_gaps_here : (List GapV)), ds = [d0] ∧ vw A d0 v_gaps_here ∧ (F__law_unlike v_gaps_here).wp (fun r => Q (enc r) A) (fun c fs => E c fs A)
theorem hs__law_unlike : ∀ (A : AH) (d0 : D) (v_gaps_here : (List GapV)) (Q : DK) (E : DX), vw A d0 v_gaps_here → (F__law_unlike v_gaps_here).wp (fun r => Q (enc r) A) (fun c fs => E c fs A) → sp__law_unlike ([d0] ++ []) A Q E :=
  fun A d0 v_gaps_here Q E h0 h => ⟨d0, v_gaps_here, rfl, h0, h⟩
def sp__law_walked : DSp := fun ds A Q E => ∃ (d0 : D) (d1 : D) (d2 : D) (v_found : (List (Str × Bool))) (v_gap : GapV) (v_parts_here : (List PartV)), ds = [d0, d1, d2] ∧ vw A d0 v_found ∧ vw A d1 v_gap ∧ vw A d2 v_parts_here ∧ (F__law_walked v_found v_gap v_parts_here).wp (fun r => Q (enc r) A) (fun c fs => E c fs A)
theorem hs__law_walked : ∀ (A : AH) (d0 : D) (d1 : D) (d2 : D) (v_found : (List (Str × Bool))) (v_gap : GapV) (v_parts_here : (List PartV)) (Q : DK) (E : DX), vw A d0 v_found → vw A d1 v_gap → vw A d2 v_parts_here → (F__law_walked v_found v_gap v_parts_here).wp (fun r => Q (enc r) A) (fun c fs => E c fs A) → sp__law_walked ([d0, d1, d2] ++ []) A Q E :=
  fun A d0 d1 d2 v_found v_gap v_parts_here Q E h0 h1 h2 h => ⟨d0, d1, d2, v_found, v_gap, v_parts_here, rfl, h0, h1, h2, h⟩
def sp__law_refused : DSp := fun ds A Q E => ∃ (d0 : D) (d1 : D) (d2 : D) (v_thing : ThingV) (v_name_here : Str) (v_way : Int), ds = [d0, d1, d2] ∧ vw A d0 v_thing ∧ vw A d1 v_name_here ∧ vw A d2 v_way ∧ (F__law_refused v_thing v_name_here v_way).wp (fun r => Q (enc r) A) (fun c fs => E c fs A)
theorem hs__law_refused : ∀ (A : AH) (d0 : D) (d1 : D) (d2 : D) (v_thing : ThingV) (v_name_here : Str) (v_way : Int) (Q : DK) (E : DX), vw A d0 v_thing → vw A d1 v_name_here → vw A d2 v_way → (F__law_refused v_thing v_name_here v_way).wp (fun r => Q (enc r) A) (fun c fs => E c fs A) → sp__law_refused ([d0, d1, d2] ++ []) A Q E :=
  fun A d0 d1 d2 v_thing v_name_here v_way Q E h0 h1 h2 h => ⟨d0, d1, d2, v_thing, v_name_here, v_way, rfl, h0, h1, h2, h⟩
def exl : List String := ["Apart", "InRing", "NoGap", "NoName", "NoNumber", "NoPart", "Twice"]
def mt_add_gap : List (String × DSp) := [("Thing", sp_Thing_add_gap)]
def mt_add_part : List (String × DSp) := [("Thing", sp_Thing_add_part)]
def mt_middle : List (String × DSp) := [("Thing", sp_Thing_middle)]
def mt_room : List (String × DSp) := [("Thing", sp_Thing_room)]
def mt_way : List (String × DSp) := [("Thing", sp_Thing_way)]
def t_divisor (w : DW) : DS :=
  (sSeq (sAsg (eCB bAbs (aCons (eVar 0) aNil)) (dgName 0))
  (sSeq (sAsg (eCB bAbs (aCons (eVar 1) aNil)) (dgName 1))
  (sSeq (sWhile (bE (eBin (opCmp fun i j => decide (j < i)) (eVar 1) (eC (.int 0))))
  (sPar 0 1 (aCons (eVar 1) (aCons (eBin opMod (eVar 0) (eVar 1)) aNil))))
  (sRet (eVar 0)))))
def t_fraction (w : DW) : DS :=
  (sSeq (sIf (bE (eBin (opEq false) (eVar 1) (eC (.int 0))))
  (sRaise w "NoNumber")
  sNext)
  (sSeq (sAsg (eCall w sp_divisor [] (aCons (eVar 0) (aCons (eVar 1) aNil))) (dgName 2))
  (sSeq (sIf (bE (eBin (opCmp fun i j => decide (i < j)) (eVar 1) (eC (.int 0))))
  (sAsg (eNeg (eVar 2)) (dgName 2))
  sNext)
  (sRet (eTup (aCons (eBin opDiv (eVar 0) (eVar 2)) (aCons (eBin opDiv (eVar 1) (eVar 2)) aNil)))))))
def t_plus (w : DW) : DS :=
  (sRet (eCall w sp_fraction [] (aCons (eBin (opAdd mkF) (eBin opMul (eBin opIx (eVar 0) (eC (.int 0))) (eBin opIx (eVar 1) (eC (.int 1)))) (eBin opMul (eBin opIx (eVar 1) (eC (.int 0))) (eBin opIx (eVar 0) (eC (.int 1))))) (aCons (eBin opMul (eBin opIx (eVar 0) (eC (.int 1))) (eBin opIx (eVar 1) (eC (.int 1)))) aNil))))
def t_minus (w : DW) : DS :=
  (sRet (eCall w sp_fraction [] (aCons (eBin opSub (eBin opMul (eBin opIx (eVar 0) (eC (.int 0))) (eBin opIx (eVar 1) (eC (.int 1)))) (eBin opMul (eBin opIx (eVar 1) (eC (.int 0))) (eBin opIx (eVar 0) (eC (.int 1))))) (aCons (eBin opMul (eBin opIx (eVar 0) (eC (.int 1))) (eBin opIx (eVar 1) (eC (.int 1)))) aNil))))
def t_under (w : DW) : DS :=
  (sRet (eBin (opCmp fun i j => decide (i < j)) (eBin opMul (eBin opIx (eVar 0) (eC (.int 0))) (eBin opIx (eVar 1) (eC (.int 1)))) (eBin opMul (eBin opIx (eVar 1) (eC (.int 0))) (eBin opIx (eVar 0) (eC (.int 1))))))
def t_is_whole (w : DW) : DS :=
  (sRet (eAnd (eIsi "int" (eVar 0)) (eNot (eIsi "bool" (eVar 0)))))
def t_is_name (w : DW) : DS :=
  (sSeq (sIf (bOr (bNot (bE (eIsi "str" (eVar 0)))) (bOr (bE (eBin (opCmp fun i j => decide (i < j)) (eCB bLen (aCons (eVar 0) aNil)) (eC (.int 1)))) (bE (eBin (opCmp fun i j => decide (j < i)) (eCB bLen (aCons (eVar 0) aNil)) (eC (.int 8))))))
  (sRet (eC (.bl false)))
  sNext)
  (sSeq (sFor (iText (eVar 0)) (dgName 1)
  (sIf (bE (eBin (opIn true) (eVar 1) (eC (.str ("abcdefghijklmnopqrstuvwxyz" : Str)))))
  (sRet (eC (.bl false)))
  sNext))
  (sRet (eC (.bl true)))))
def t_is_fraction (w : DW) : DS :=
  (sSeq (sIf (bOr (bNot (bE (eIsi "tuple" (eVar 0)))) (bE (eBin (opEq true) (eCB bLen (aCons (eVar 0) aNil)) (eC (.int 2)))))
  (sRet (eC (.bl false)))
  sNext)
  (sSeq (sIf (bOr (bNot (bE (eCall w sp_is_whole [] (aCons (eBin opIx (eVar 0) (eC (.int 0))) aNil)))) (bOr (bNot (bE (eCall w sp_is_whole [] (aCons (eBin opIx (eVar 0) (eC (.int 1))) aNil)))) (bE (eBin (opCmp fun i j => decide (i < j)) (eBin opIx (eVar 0) (eC (.int 1))) (eC (.int 1))))))
  (sRet (eC (.bl false)))
  sNext)
  (sRet (eBin (opEq false) (eCall w sp_divisor [] (aCons (eBin opIx (eVar 0) (eC (.int 0))) (aCons (eBin opIx (eVar 0) (eC (.int 1))) aNil))) (eC (.int 1))))))
def t_has_ends (w : DW) : DS :=
  (sSeq (sIf (bOr (bNot (bE (eIsi "tuple" (eVar 0)))) (bE (eBin (opEq true) (eCB bLen (aCons (eVar 0) aNil)) (eVar 1))))
  (sRet (eC (.bl false)))
  sNext)
  (sSeq (sFor (iSeq (eSl mkF (eVar 0) oNone (oSome (eC (.int 3))))) (dgName 2)
  (sIf (bNot (bE (eCall w sp_is_name [] (aCons (eVar 2) aNil))))
  (sRet (eC (.bl false)))
  sNext))
  (sRet (eBin (opEq true) (eBin opIx (eVar 0) (eC (.int 1))) (eBin opIx (eVar 0) (eC (.int 2)))))))
def t_is_part (w : DW) : DS :=
  (sSeq (sIf (bOr (bNot (bE (eCall w sp_has_ends [] (aCons (eVar 0) (aCons (eC (.int 6)) aNil))))) (bOr (bNot (bE (eCall w sp_is_fraction [] (aCons (eBin opIx (eVar 0) (eC (.int 3))) aNil)))) (bNot (bE (eCall w sp_is_fraction [] (aCons (eBin opIx (eVar 0) (eC (.int 4))) aNil))))))
  (sRet (eC (.bl false)))
  sNext)
  (sRet (eAnd (eBin (opCmp fun i j => decide (j ≤ i)) (eBin opIx (eBin opIx (eVar 0) (eC (.int 4))) (eC (.int 0))) (eC (.int 0))) (eAnd (eCall w sp_is_whole [] (aCons (eBin opIx (eVar 0) (eC (.int 5))) aNil)) (eBin (opCmp fun i j => decide (j < i)) (eBin opIx (eVar 0) (eC (.int 5))) (eC (.int 0)))))))
def t_is_gap (w : DW) : DS :=
  (sSeq (sIf (bOr (bNot (bE (eCall w sp_has_ends [] (aCons (eVar 0) (aCons (eC (.int 5)) aNil))))) (bOr (bNot (bE (eCall w sp_is_fraction [] (aCons (eBin opIx (eVar 0) (eC (.int 3))) aNil)))) (bNot (bE (eCall w sp_is_fraction [] (aCons (eBin opIx (eVar 0) (eC (.int 4))) aNil))))))
  (sRet (eC (.bl false)))
  sNext)
  (sRet (eNot (eCall w sp_under [] (aCons (eBin opIx (eVar 0) (eC (.int 4))) (aCons (eBin opIx (eVar 0) (eC (.int 3))) aNil))))))
def t_way_between (w : DW) : DS :=
  (sSeq (sAsg (eDic1 (eVar 1) (eLst mkF aNil)) (dgName 3))
  (sSeq (sAsg (eLst mkO (aCons (eVar 1) aNil)) (dgName 4))
  (sSeq (sWhile (bE (eBin (opCmp fun i j => decide (j < i)) (eCB bLen (aCons (eVar 4) aNil)) (eC (.int 0))))
  (sSeq (sAsg (eMt "list" mPopI (eVar 4) (aCons (eC (.int 0)) aNil)) (dgName 5))
  (sFor (iSeq (eVar 0)) (dgTup 6 (dgCons (dgName 6) (dgCons (dgName 7) (dgCons (dgName 8) (dgCons (dgName 9) (dgCons (dgName 10) (dgCons (dgName 11) dgNil)))))))
  (sIf (bAnd (bE (eBin (opEq false) (eVar 7) (eVar 5))) (bE (eBin (opIn true) (eVar 8) (eVar 3))))
  (sSeq (sAsg (eBin (opAdd mkF) (eBin opIx (eVar 3) (eVar 5)) (eLst mkF (aCons (eTup (aCons (eVar 6) (aCons (eC (.bl true)) aNil))) aNil))) (dgSub (eVar 3) (eVar 8)))
  (sDrop (eMt "list" mApp (eVar 4) (aCons (eVar 8) aNil))))
  (sIf (bAnd (bE (eBin (opEq false) (eVar 8) (eVar 5))) (bE (eBin (opIn true) (eVar 7) (eVar 3))))
  (sSeq (sAsg (eBin (opAdd mkF) (eBin opIx (eVar 3) (eVar 5)) (eLst mkF (aCons (eTup (aCons (eVar 6) (aCons (eC (.bl false)) aNil))) aNil))) (dgSub (eVar 3) (eVar 7)))
  (sDrop (eMt "list" mApp (eVar 4) (aCons (eVar 7) aNil))))
  sNext)))))
  (sFz 3
  (sRet (eMt "dict" mGet (eVar 3) (aCons (eVar 2) aNil)))))))
def t_Thing_add_part (w : DW) : DS :=
  (sSeq (sIf (bNot (bE (eCall w sp_is_part [] (aCons (eVar 1) aNil))))
  (sRaise w "NoPart")
  sNext)
  (sSeq (sIf (bE (eBin (opIn false) (eBin opIx (eVar 1) (eC (.int 0))) (eFld ["Thing"] "sizes" (eVar 0))))
  (sRaise w "Twice")
  sNext)
  (sSeq (sIf (bE (eBin (opIs true) (eCall w sp_way_between [] (aCons (eFld ["Thing"] "kept_parts" (eVar 0)) (aCons (eBin opIx (eVar 1) (eC (.int 1))) (aCons (eBin opIx (eVar 1) (eC (.int 2))) aNil)))) (eC .non)))
  (sRaise w "InRing")
  sNext)
  (sSeq (sDrop (eMt "list" mApp (eFld ["Thing"] "kept_parts" (eVar 0)) (aCons (eVar 1) aNil)))
  (sAsg (eBin opIx (eVar 1) (eC (.int 3))) (dgSub (eFld ["Thing"] "sizes" (eVar 0)) (eBin opIx (eVar 1) (eC (.int 0)))))))))
def t_Thing_add_gap (w : DW) : DS :=
  (sSeq (sIf (bNot (bE (eCall w sp_is_gap [] (aCons (eVar 1) aNil))))
  (sRaise w "NoGap")
  sNext)
  (sSeq (sIf (bE (eBin (opIn false) (eBin opIx (eVar 1) (eC (.int 0))) (eFld ["Thing"] "kept_ways" (eVar 0))))
  (sRaise w "Twice")
  sNext)
  (sSeq (sAsg (eCall w sp_way_between [] (aCons (eFld ["Thing"] "kept_parts" (eVar 0)) (aCons (eBin opIx (eVar 1) (eC (.int 1))) (aCons (eBin opIx (eVar 1) (eC (.int 2))) aNil)))) (dgName 2))
  (sSeq (sIf (bE (eBin (opIs false) (eVar 2) (eC .non)))
  (sRaise w "Apart")
  sNext)
  (sSeq (sDrop (eMt "list" mApp (eFld ["Thing"] "kept_gaps" (eVar 0)) (aCons (eVar 1) aNil)))
  (sAsg (eVar 2) (dgSub (eFld ["Thing"] "kept_ways" (eVar 0)) (eBin opIx (eVar 1) (eC (.int 0))))))))))
def t_Thing___init__ (w : DW) : DS :=
  (sSeq (sFldSet ["Thing"] "kept_parts" (eVar 0) (eLst mkO aNil))
  (sSeq (sFldSet ["Thing"] "kept_gaps" (eVar 0) (eLst mkO aNil))
  (sSeq (sFldSet ["Thing"] "sizes" (eVar 0) eDic0)
  (sSeq (sFldSet ["Thing"] "kept_ways" (eVar 0) eDic0)
  (sSeq (sFor (iSeq (eVar 1)) (dgName 3)
  (sDrop (eMth w "add_part" mt_add_part (eVar 0) (aCons (eVar 3) aNil))))
  (sFor (iSeq (eVar 2)) (dgName 4)
  (sDrop (eMth w "add_gap" mt_add_gap (eVar 0) (aCons (eVar 4) aNil)))))))))
def t_Thing_way (w : DW) : DS :=
  (sSeq (sIf (bE (eBin (opIn true) (eVar 1) (eFld ["Thing"] "kept_ways" (eVar 0))))
  (sRaise w "NoName")
  sNext)
  (sRet (eCB (bList mkO) (aCons (eBin opIx (eFld ["Thing"] "kept_ways" (eVar 0)) (eVar 1)) aNil))))
def t_Thing_middle (w : DW) : DS :=
  (sSeq (sAsg (eTup (aCons (eC (.int 0)) (aCons (eC (.int 1)) aNil))) (dgName 2))
  (sSeq (sFor (iSeq (eFz (eMth w "way" mt_way (eVar 0) (aCons (eVar 1) aNil)))) (dgTup 2 (dgCons (dgName 3) (dgCons (dgName 4) dgNil)))
  (sIf (bE (eVar 4))
  (sAsg (eCall w sp_plus [] (aCons (eVar 2) (aCons (eBin opIx (eFld ["Thing"] "sizes" (eVar 0)) (eVar 3)) aNil))) (dgName 2))
  (sAsg (eCall w sp_minus [] (aCons (eVar 2) (aCons (eBin opIx (eFld ["Thing"] "sizes" (eVar 0)) (eVar 3)) aNil))) (dgName 2))))
  (sRet (eVar 2))))
def t_Thing_room (w : DW) : DS :=
  (sSeq (sAsg (eMth w "middle" mt_middle (eVar 0) (aCons (eVar 1) aNil)) (dgName 2))
  (sSeq (sFor (iSeq (eFld ["Thing"] "kept_gaps" (eVar 0))) (dgName 3)
  (sIf (bE (eBin (opEq false) (eBin opIx (eVar 3) (eC (.int 0))) (eVar 1)))
  (sSeq (sAsg (eCall w sp_minus [] (aCons (eVar 2) (aCons (eBin opIx (eVar 3) (eC (.int 3))) aNil))) (dgName 4))
  (sAsg (eCall w sp_minus [] (aCons (eBin opIx (eVar 3) (eC (.int 4))) (aCons (eVar 2) aNil))) (dgName 5)))
  sNext))
  (sSeq (sIf (bE (eCall w sp_under [] (aCons (eVar 5) (aCons (eVar 4) aNil))))
  (sRet (eVar 5))
  sNext)
  (sRet (eVar 4)))))
def t__law_cell (w : DW) : DS :=
  (sSeq (sAsg (eC (.int 0)) (dgName 2))
  (sSeq (sFor (iRng3D (aCons (eVar 1) (aCons (eCB bMin (aCons (eCB bLen (aCons (eVar 0) aNil)) (aCons (eC (.int 98)) aNil))) (aCons (eC (.int 34)) aNil)))) (dgName 3)
  (sAsg (eBin (opAdd mkF) (eVar 2) (eBin opMul (eBin opIx (eVar 0) (eVar 3)) (eBin (opAdd mkF) (eC (.int 1)) (eVar 3)))) (dgName 2)))
  (sRet (eVar 2))))
def t__law_signed (w : DW) : DS :=
  (sSeq (sIf (bE (eBin (opCmp fun i j => decide (i < j)) (eVar 0) (eC (.int 0))))
  (sRet (eBin opSub (eC (.int 0)) (eBin opMod (eBin opSub (eC (.int 0)) (eVar 0)) (eVar 1))))
  sNext)
  (sRet (eBin opMod (eVar 0) (eVar 1))))
def t__law_low (w : DW) : DS :=
  (sSeq (sAsg (eVar 0) (dgName 2))
  (sSeq (sAsg (eVar 1) (dgName 3))
  (sSeq (sWhile (bE (eBin (opEq true) (eVar 3) (eC (.int 0))))
  (sSeq (sAsg (eBin opMod (eVar 2) (eVar 3)) (dgName 4))
  (sSeq (sAsg (eVar 3) (dgName 2))
  (sAsg (eVar 4) (dgName 3)))))
  (sRet (eTup (aCons (eBin opDiv (eVar 0) (eCB bAbs (aCons (eVar 2) aNil))) (aCons (eBin opDiv (eVar 1) (eCB bAbs (aCons (eVar 2) aNil))) aNil)))))))
def t__law_plus (w : DW) : DS :=
  (sRet (eCall w sp__law_low [] (aCons (eBin (opAdd mkF) (eBin opMul (eBin opIx (eVar 0) (eC (.int 0))) (eBin opIx (eVar 1) (eC (.int 1)))) (eBin opMul (eBin opMul (eVar 2) (eBin opIx (eVar 1) (eC (.int 0)))) (eBin opIx (eVar 0) (eC (.int 1))))) (aCons (eBin opMul (eBin opIx (eVar 0) (eC (.int 1))) (eBin opIx (eVar 1) (eC (.int 1)))) aNil))))
def t__law_name (w : DW) : DS :=
  (sRet (eBin (opAdd mkF) (eBin (opAdd mkF) (eBin opMul (eVar 1) (eVar 2)) (eBin opIx (eC (.str ("abcdefghijklmnopq" : Str))) (eVar 0))) (eBin opMul (eVar 1) (eBin opSub (eC (.int 3)) (eVar 2)))))
def t__law_parts (w : DW) : DS :=
  (sSeq (sAsg (eLst mkO aNil) (dgName 2))
  (sSeq (sAsg eDic0 (dgName 3))
  (sSeq (sFor (iRng1 (aCons (eBin (opAdd mkF) (eC (.int 1)) (eBin opMod (eCall w sp__law_cell [] (aCons (eVar 0) (aCons (eC (.int 0)) aNil))) (eC (.int 8)))) aNil)) (dgName 4)
  (sSeq (sAsg (eCall w sp__law_cell [] (aCons (eVar 0) (aCons (eBin (opAdd mkF) (eC (.int 2)) (eBin opMul (eC (.int 2)) (eVar 4))) aNil))) (dgName 5))
  (sSeq (sAsg (eBin opDiv (eBin opMod (eBin opMul (eVar 5) (eC (.int 48271))) (eC (.int 2147483647))) (eC (.int 37))) (dgName 6))
  (sSeq (sIf (bOr (bE (eBin (opEq false) (eCB bLen (aCons (eVar 3) aNil)) (eC (.int 0)))) (bE (eBin (opEq false) (eBin opMod (eBin opDiv (eVar 6) (eC (.int 4096))) (eC (.int 6))) (eC (.int 1)))))
  (sSeq (sAsg (eCall w sp__law_name [] (aCons (eCB bLen (aCons (eVar 3) aNil)) (aCons (eC (.str ("f" : Str))) (aCons (eVar 1) aNil)))) (dgName 7))
  (sAsg (eTup (aCons (eVar 7) (aCons (eTup (aCons (eC (.int 0)) (aCons (eC (.int 1)) aNil))) aNil))) (dgSub (eVar 3) (eVar 7))))
  (sAsg (eBin opIx (eCB (bSorted mkF) (aCons (eVar 3) aNil)) (eBin opMod (eVar 6) (eCB bLen (aCons (eVar 3) aNil)))) (dgName 7)))
  (sSeq (sAsg (eCall w sp__law_name [] (aCons (eCB bLen (aCons (eVar 3) aNil)) (aCons (eC (.str ("f" : Str))) (aCons (eVar 1) aNil)))) (dgName 8))
  (sSeq (sAsg (eCall w sp__law_cell [] (aCons (eVar 0) (aCons (eBin (opAdd mkF) (eC (.int 3)) (eBin opMul (eC (.int 2)) (eVar 4))) aNil))) (dgName 9))
  (sSeq (sAsg (eCall w sp__law_low [] (aCons (eCall w sp__law_signed [] (aCons (eVar 9) (aCons (eBin opIx (eLst mkF (aCons (eC (.int 9)) (aCons (eBin opPow (eC (.int 10)) (eC (.int 40))) aNil))) (eBin opMod (eBin opDiv (eVar 6) (eC (.int 64))) (eC (.int 2)))) aNil))) (aCons (eBin (opAdd mkF) (eC (.int 1)) (eBin opMod (eBin opDiv (eVar 6) (eC (.int 128))) (eC (.int 12)))) aNil))) (dgName 10))
  (sSeq (sAsg (eCall w sp__law_low [] (aCons (eBin opMod (eVar 9) (eC (.int 13))) (aCons (eBin (opAdd mkF) (eC (.int 1)) (eBin opMod (eBin opDiv (eVar 6) (eC (.int 16))) (eC (.int 6)))) aNil))) (dgName 11))
  (sSeq (sAsg (eBin opIx (eLst mkF (aCons (eTup (aCons (eVar 7) (aCons (eVar 8) aNil))) (aCons (eTup (aCons (eVar 8) (aCons (eVar 7) aNil))) aNil))) (eBin opMod (eBin opDiv (eVar 6) (eC (.int 32))) (eC (.int 2)))) (dgName 12))
  (sSeq (sDrop (eMt "list" mApp (eVar 2) (aCons (eTup (aCons (eCall w sp__law_name [] (aCons (eVar 4) (aCons (eC (.str ("p" : Str))) (aCons (eVar 1) aNil)))) (aCons (eBin opIx (eVar 12) (eC (.int 0))) (aCons (eBin opIx (eVar 12) (eC (.int 1))) (aCons (eVar 10) (aCons (eVar 11) (aCons (eBin (opAdd mkF) (eC (.int 1)) (eBin opMod (eBin opDiv (eVar 6) (eC (.int 8))) (eC (.int 4)))) aNil))))))) aNil)))
  (sAsg (eTup (aCons (eBin opIx (eBin opIx (eVar 3) (eVar 7)) (eC (.int 0))) (aCons (eCall w sp__law_plus [] (aCons (eBin opIx (eBin opIx (eVar 3) (eVar 7)) (eC (.int 1))) (aCons (eVar 10) (aCons (eBin opSub (eC (.int 1)) (eBin opMul (eC (.int 2)) (eBin opMod (eBin opDiv (eVar 6) (eC (.int 32))) (eC (.int 2))))) aNil)))) aNil))) (dgSub (eVar 3) (eVar 8)))))))))))))
  (sFz 2
  (sFz 3
  (sRet (eTup (aCons (eVar 2) (aCons (eVar 3) aNil)))))))))
def t__law_listed (w : DW) : DS :=
  (sSeq (sAsg (eLst mkO aNil) (dgName 2))
  (sSeq (sFor (iRng1 (aCons (eCB bLen (aCons (eVar 1) aNil)) aNil)) (dgName 3)
  (sDrop (eMt "list" mIns (eVar 2) (aCons (eBin opMod (eBin opDiv (eBin opMod (eBin opMul (eCall w sp__law_cell [] (aCons (eVar 0) (aCons (eBin (opAdd mkF) (eC (.int 2)) (eBin opMul (eC (.int 2)) (eVar 3))) aNil))) (eC (.int 16807))) (eC (.int 2147483587))) (eC (.int 37))) (eBin (opAdd mkF) (eC (.int 1)) (eVar 3))) (aCons (eBin opIx (eVar 1) (eVar 3)) aNil)))))
  (sFz 2
  (sRet (eVar 2)))))
def t__law_gaps (w : DW) : DS :=
  (sSeq (sAsg (eLst mkO aNil) (dgName 3))
  (sSeq (sFor (iRng1 (aCons (eBin opMod (eCall w sp__law_cell [] (aCons (eVar 0) (aCons (eC (.int 1)) aNil))) (eC (.int 9))) aNil)) (dgName 4)
  (sSeq (sAsg (eCall w sp__law_cell [] (aCons (eVar 0) (aCons (eBin (opAdd mkF) (eC (.int 18)) (eBin opMul (eC (.int 2)) (eVar 4))) aNil))) (dgName 5))
  (sSeq (sAsg (eBin opDiv (eBin opMod (eBin opMul (eVar 5) (eC (.int 39373))) (eC (.int 2147483629))) (eC (.int 37))) (dgName 6))
  (sSeq (sAsg (eCB (bSorted mkF) (aCons (eVar 1) aNil)) (dgName 7))
  (sSeq (sAsg (eBin opIx (eVar 7) (eBin opMod (eVar 6) (eCB bLen (aCons (eVar 7) aNil)))) (dgName 8))
  (sSeq (sAsg (eLc finF (iSeq (eVar 7)) (dgName 10) (bAnd (bE (eBin (opEq true) (eVar 10) (eVar 8))) (bE (eBin (opEq false) (eBin opIx (eBin opIx (eVar 1) (eVar 10)) (eC (.int 0))) (eBin opIx (eBin opIx (eVar 1) (eVar 8)) (eC (.int 0)))))) (eVar 10) [10]) (dgName 9))
  (sSeq (sAsg (eBin opIx (eVar 9) (eBin opMod (eBin opDiv (eVar 6) (eC (.int 64))) (eCB bLen (aCons (eVar 9) aNil)))) (dgName 11))
  (sSeq (sAsg (eCall w sp__law_plus [] (aCons (eBin opIx (eBin opIx (eVar 1) (eVar 11)) (eC (.int 1))) (aCons (eBin opIx (eBin opIx (eVar 1) (eVar 8)) (eC (.int 1))) (aCons (eNeg (eC (.int 1))) aNil)))) (dgName 12))
  (sSeq (sAsg (eCall w sp__law_cell [] (aCons (eVar 0) (aCons (eBin (opAdd mkF) (eC (.int 19)) (eBin opMul (eC (.int 2)) (eVar 4))) aNil))) (dgName 13))
  (sSeq (sAsg (eCall w sp__law_plus [] (aCons (eVar 12) (aCons (eCall w sp__law_low [] (aCons (eBin opMod (eVar 13) (eC (.int 23))) (aCons (eBin (opAdd mkF) (eC (.int 1)) (eBin opMod (eBin opDiv (eVar 6) (eC (.int 1024))) (eC (.int 5)))) aNil))) (aCons (eNeg (eC (.int 1))) aNil)))) (dgName 14))
  (sSeq (sAsg (eCall w sp__law_plus [] (aCons (eVar 12) (aCons (eCall w sp__law_low [] (aCons (eBin opMod (eBin opDiv (eVar 13) (eC (.int 23))) (eC (.int 23))) (aCons (eBin (opAdd mkF) (eC (.int 1)) (eBin opMod (eBin opDiv (eVar 6) (eC (.int 8192))) (eC (.int 5)))) aNil))) (aCons (eC (.int 1)) aNil)))) (dgName 15))
  (sDrop (eMt "list" mApp (eVar 3) (aCons (eTup (aCons (eCall w sp__law_name [] (aCons (eVar 4) (aCons (eBin opIx (eLst mkF (aCons (eC (.str ("g" : Str))) (aCons (eC (.str ("p" : Str))) aNil))) (eBin opMod (eBin opDiv (eVar 6) (eC (.int 32))) (eC (.int 2)))) (aCons (eBin opMod (eBin (opAdd mkF) (eVar 2) (eVar 4)) (eC (.int 4))) aNil)))) (aCons (eVar 8) (aCons (eVar 11) (aCons (eVar 14) (aCons (eVar 15) aNil)))))) aNil))))))))))))))
  (sFz 3
  (sRet (eVar 3)))))
def t__law_unlike (w : DW) : DS :=
  (sSeq (sAsg eDic0 (dgName 1))
  (sSeq (sAsg (eLst mkO aNil) (dgName 2))
  (sSeq (sFor (iSeq (eVar 0)) (dgName 3)
  (sSeq (sIf (bE (eBin (opIn true) (eBin opIx (eVar 3) (eC (.int 0))) (eVar 1)))
  (sDrop (eMt "list" mApp (eVar 2) (aCons (eVar 3) aNil)))
  sNext)
  (sAsg (eC (.bl true)) (dgSub (eVar 1) (eBin opIx (eVar 3) (eC (.int 0)))))))
  (sFz 2
  (sRet (eVar 2))))))
def t__law_walked (w : DW) : DS :=
  (sSeq (sIf (bOr (bNot (bE (eIsi "list" (eVar 0)))) (bE (eBin (opEq false) (eCB bLen (aCons (eVar 0) aNil)) (eC (.int 0)))))
  (sRet (eC (.bl false)))
  sNext)
  (sSeq (sAsg eDic0 (dgName 3))
  (sSeq (sFor (iSeq (eVar 2)) (dgName 4)
  (sAsg (eTup (aCons (eBin opIx (eVar 4) (eC (.int 1))) (aCons (eBin opIx (eVar 4) (eC (.int 2))) aNil))) (dgSub (eVar 3) (eBin opIx (eVar 4) (eC (.int 0))))))
  (sFz 3
  (sSeq (sAsg (eBin opIx (eVar 1) (eC (.int 1))) (dgName 5))
  (sSeq (sAsg (eLst mkO aNil) (dgName 6))
  (sSeq (sFor (iSeq (eVar 0)) (dgName 7)
  (sSeq (sIf (bOr (bNot (bE (eIsi "tuple" (eVar 7)))) (bOr (bE (eBin (opEq true) (eCB bLen (aCons (eVar 7) aNil)) (eC (.int 2)))) (bNot (bE (eIsi "bool" (eBin opIx (eVar 7) (eC (.int 1))))))))
  (sRet (eC (.bl false)))
  sNext)
  (sSeq (sIf (bOr (bE (eBin (opIn true) (eBin opIx (eVar 7) (eC (.int 0))) (eVar 3))) (bE (eBin (opIn false) (eBin opIx (eVar 7) (eC (.int 0))) (eVar 6))))
  (sRet (eC (.bl false)))
  sNext)
  (sSeq (sDrop (eMt "list" mApp (eVar 6) (aCons (eBin opIx (eVar 7) (eC (.int 0))) aNil)))
  (sSeq (sAsg (eBin opIx (eVar 3) (eBin opIx (eVar 7) (eC (.int 0)))) (dgTup 2 (dgCons (dgName 8) (dgCons (dgName 9) dgNil))))
  (sSeq (sIf (bE (eBin (opEq true) (eVar 5) (eBin opIx (eLst mkF (aCons (eVar 9) (aCons (eVar 8) aNil))) (eCB bInt (aCons (eBin opIx (eVar 7) (eC (.int 1))) aNil)))))
  (sRet (eC (.bl false)))
  sNext)
  (sAsg (eBin opIx (eLst mkF (aCons (eVar 8) (aCons (eVar 9) aNil))) (eCB bInt (aCons (eBin opIx (eVar 7) (eC (.int 1))) aNil))) (dgName 5))))))))
  (sRet (eBin (opEq false) (eVar 5) (eBin opIx (eVar 1) (eC (.int 2))))))))))))
def t__law_refused (w : DW) : DS :=
  (sSeq (sAsg (eC .non) (dgName 3))
  (sSeq (sTryAs w (excT tb_SlackError) 4 (fun w => (sIf (bE (eBin (opEq false) (eVar 2) (eC (.int 0))))
  (sDrop (eFz (eMth w "way" mt_way (eVar 0) (aCons (eVar 1) aNil))))
  (sIf (bE (eBin (opEq false) (eVar 2) (eC (.int 1))))
  (sDrop (eMth w "middle" mt_middle (eVar 0) (aCons (eVar 1) aNil)))
  (sDrop (eMth w "room" mt_room (eVar 0) (aCons (eVar 1) aNil)))))) (fun xa xc xfs =>
  (sAsg (eLst mkF (aCons (eIsE xa xc xfs ti_NoName (eVar 4)) (aCons (eIsE xa xc xfs ti_ValueError (eVar 4)) (aCons (eIsE xa xc xfs ti_NoGap (eVar 4)) (aCons (eIsE xa xc xfs ti_NoPart (eVar 4)) (aCons (eIsE xa xc xfs ti_Twice (eVar 4)) (aCons (eIsE xa xc xfs ti_NoFace (eVar 4)) (aCons (eIsE xa xc xfs ti_NoRow (eVar 4)) aNil)))))))) (dgName 3))))
  (sRet (eBin (opEq false) (eVar 3) (eLst mkF (aCons (eC (.bl true)) (aCons (eC (.bl true)) (aCons (eC (.bl false)) (aCons (eC (.bl false)) (aCons (eC (.bl false)) (aCons (eC (.bl false)) (aCons (eC (.bl false)) aNil))))))))))))
def t_law (w : DW) : DS :=
  (sSeq (sAsg (eBin opMod (eCall w sp__law_cell [] (aCons (eVar 0) (aCons (eC (.int 2)) aNil))) (eC (.int 4))) (dgName 1))
  (sSeq (sAsg (eCall w sp__law_parts [] (aCons (eVar 0) (aCons (eVar 1) aNil))) (dgTup 2 (dgCons (dgName 2) (dgCons (dgName 3) dgNil))))
  (sSeq (sAsg (eCall w sp__law_listed [] (aCons (eVar 0) (aCons (eVar 2) aNil))) (dgName 2))
  (sSeq (sAsg (eCall w sp__law_unlike [] (aCons (eCall w sp__law_gaps [] (aCons (eVar 0) (aCons (eVar 3) (aCons (eVar 1) aNil)))) aNil)) (dgName 4))
  (sSeq (sAsg (eFzD (eMk w "Thing" sp_Thing___init__ (aCons (eVar 2) (aCons (eVar 4) aNil)))) (dgName 5))
  (sSeq (sAsg (eLc finF (iSeq (eVar 4)) (dgName 7) bYes (eBin opIx (eVar 7) (eC (.int 0))) [7]) (dgName 6))
  (sSeq (sFor (iSeq (eBin (opAdd mkF) (eVar 4) (eSl mkF (eVar 4) oNone (oSome (eC (.int 1)))))) (dgName 7)
  (sSeq (sAsg (eMth w "way" mt_way (eVar 5) (aCons (eBin opIx (eVar 7) (eC (.int 0))) aNil)) (dgName 8))
  (sSeq (sIf (bNot (bE (eCall w sp__law_walked [] (aCons (eVar 8) (aCons (eVar 7) (aCons (eVar 2) aNil))))))
  (sRet (eC (.bl false)))
  sNext)
  (sSeq (sDrop (eMt "list" mApp (eVar 8) (aCons (eC (.int 1)) aNil)))
  (sDrop (eMt "list" mRev (eVar 8) aNil))))))
  (sSeq (sFor (iSeq (eBin (opAdd mkF) (eBin (opAdd mkF) (eLst mkF (aCons (eC (.str ("nobody" : Str))) aNil)) (eLc finF (iSeq (eVar 2)) (dgName 10) bYes (eBin opIx (eVar 10) (eC (.int 0))) [10])) (eCB (bSorted mkF) (aCons (eVar 3) aNil)))) (dgName 9)
  (sIf (bAnd (bE (eBin (opIn true) (eVar 9) (eVar 6))) (bNot (bE (eCall w sp__law_refused [] (aCons (eVar 5) (aCons (eVar 9) (aCons (eBin opMod (eBin opMul (eCB bLen (aCons (eVar 9) aNil)) (eCB bLen (aCons (eVar 6) aNil))) (eC (.int 3))) aNil)))))))
  (sRet (eC (.bl false)))
  sNext))
  (sRet (eAnd (eCall w sp__law_refused [] (aCons (eVar 5) (aCons (eC (.str ("nobody" : Str))) (aCons (eC (.int 0)) aNil)))) (eAnd (eCall w sp__law_refused [] (aCons (eVar 5) (aCons (eC (.str ("nobody" : Str))) (aCons (eC (.int 1)) aNil)))) (eCall w sp__law_refused [] (aCons (eVar 5) (aCons (eC (.str ("nobody" : Str))) (aCons (eC (.int 2)) aNil)))))))))))))))
theorem mt_way_ok : lookS "Thing" mt_way = some sp_Thing_way := by rw [lookS_eq]; rfl
theorem hm_Thing_way : ∀ (A : AH) (x : D) (y1 : D) (a : ThingV) (b1 : Str) (Q : DK) (E : DX), vw A x a → vw A y1 b1 → (F_Thing_way a b1).wp (fun r => ∀ p A', New A (oL r) p A' → Q (.ref p) A') (fun c fs => E c fs A) → MethOk mt_way "way" x A [y1] Q E := by
  intro A x y1 a b1 Q E hx h1 h
  have e : x = enc a := hx
  subst e
  unfold MethOk
  refine ⟨by rw [lookS_eq]; rfl, ?_⟩
  rw [mt_way_ok]
  exact hs_Thing_way A _ y1 a b1 Q E rfl h1 h
theorem hsh_Thing_way : ∀ (A : AH) (x : D) (a : ThingV), vw A x a → ∃ c fs, asObj A x = some (c, fs) ∧ lookS "way" fs = none ∧ ∃ sp, lookS c mt_way = some sp := by
  intro A x a hx
  have e : x = enc a := hx
  subst e
  exact ⟨_, _, rfl, by rw [lookS_eq]; rfl, _, mt_way_ok⟩
theorem mt_middle_ok : lookS "Thing" mt_middle = some sp_Thing_middle := by rw [lookS_eq]; rfl
theorem hm_Thing_middle : ∀ (A : AH) (x : D) (y1 : D) (a : ThingV) (b1 : Str) (Q : DK) (E : DX), vw A x a → vw A y1 b1 → (F_Thing_middle a b1).wp (fun r => Q (enc r) A) (fun c fs => E c fs A) → MethOk mt_middle "middle" x A [y1] Q E := by
  intro A x y1 a b1 Q E hx h1 h
  have e : x = enc a := hx
  subst e
  unfold MethOk
  refine ⟨by rw [lookS_eq]; rfl, ?_⟩
  rw [mt_middle_ok]
  exact hs_Thing_middle A _ y1 a b1 Q E rfl h1 h
theorem hsh_Thing_middle : ∀ (A : AH) (x : D) (a : ThingV), vw A x a → ∃ c fs, asObj A x = some (c, fs) ∧ lookS "middle" fs = none ∧ ∃ sp, lookS c mt_middle = some sp := by
  intro A x a hx
  have e : x = enc a := hx
  subst e
  exact ⟨_, _, rfl, by rw [lookS_eq]; rfl, _, mt_middle_ok⟩
theorem mt_room_ok : lookS "Thing" mt_room = some sp_Thing_room := by rw [lookS_eq]; rfl
theorem hm_Thing_room : ∀ (A : AH) (x : D) (y1 : D) (a : ThingV) (b1 : Str) (Q : DK) (E : DX), vw A x a → vw A y1 b1 → (F_Thing_room a b1).wp (fun r => Q (enc r) A) (fun c fs => E c fs A) → MethOk mt_room "room" x A [y1] Q E := by
  intro A x y1 a b1 Q E hx h1 h
  have e : x = enc a := hx
  subst e
  unfold MethOk
  refine ⟨by rw [lookS_eq]; rfl, ?_⟩
  rw [mt_room_ok]
  exact hs_Thing_room A _ y1 a b1 Q E rfl h1 h
theorem hsh_Thing_room : ∀ (A : AH) (x : D) (a : ThingV), vw A x a → ∃ c fs, asObj A x = some (c, fs) ∧ lookS "room" fs = none ∧ ∃ sp, lookS c mt_room = some sp := by
  intro A x a hx
  have e : x = enc a := hx
  subst e
  exact ⟨_, _, rfl, by rw [lookS_eq]; rfl, _, mt_room_ok⟩
theorem len_divisor {ds A Q E} (h : sp_divisor ds A Q E) : ds.length = 2 := by first | (unfold sp_divisor at h; split at h <;> first | rfl | exact h.elim) | (obtain ⟨_, rfl, _⟩ := h; rfl) | (obtain ⟨_, _, rfl, _⟩ := h; rfl)
theorem rd_divisor {ds A Q E} (h : sp_divisor ds A Q E) : t_divisor (fun c fs _ A => E c fs A) { nx := fun _ A => Q .non A, rt := Q } (startD 2 ds) A := by
  unfold sp_divisor at h
  split at h
  case h_2 => exact h.elim
  rename_i a b
  have q := h
  unfold t_divisor
  simp [sWhile_eq]
  have key : ∀ (n : Nat) (x y : Nat), y < n → Int.gcd a b = Nat.gcd x y → whileN (bE (eBin (opCmp fun i j => decide (j < i)) (eVar 1) (eC (.int 0)))) (sPar 0 1 (aCons (eVar 1) (aCons (eBin opMod (eVar 0) (eVar 1)) aNil)))
      { nx := sRet (eVar 0) { nx := fun _ A => Q .non A, rt := Q }, rt := Q } n [some (.int x), some (.int y)] A := by
    intro n
    induction n with
    | zero => intro x y h; omega
    | succ n ih =>
      intro x y hy e
      unfold whileN
      by_cases h0 : y = 0
      · subst h0
        simp
        rw [Nat.gcd_zero_right] at e
        rw [e] at q
        exact q
      · have hp : 0 < y := by omega
        simp [hp, h0]
        have e2 : (x : Int).fmod (y : Int) = ((x % y : Nat) : Int) := by rw [Int.fmod_eq_emod_of_nonneg _ (by omega)]; rfl
        rw [e2]
        refine ih y (x % y) (by have := Nat.mod_lt x (show 0 < y by omega); omega) ?_
        rw [e, Nat.gcd_comm x y, Nat.gcd_rec y x, Nat.gcd_comm]
  exact ⟨b.natAbs + 1, key _ a.natAbs b.natAbs (by omega) rfl⟩
theorem len_fraction {ds A Q E} (h : sp_fraction ds A Q E) : ds.length = 2 := by first | (unfold sp_fraction at h; split at h <;> first | rfl | exact h.elim) | (obtain ⟨_, rfl, _⟩ := h; rfl) | (obtain ⟨_, _, rfl, _⟩ := h; rfl)
theorem rd_fraction {ds A Q E} (h : sp_fraction ds A Q E) : t_fraction (fun c fs _ A => E c fs A) { nx := fun _ A => Q .non A, rt := Q } (startD 3 ds) A := by
  unfold sp_fraction at h
  split at h
  case h_2 => exact h.elim
  rename_i a b
  unfold t_fraction
  by_cases hb : b = 0
  · simp [sIf_eq, hb]
    exact h.1 hb
  · obtain ⟨⟨wa, wb⟩, q⟩ := h.2 hb
    obtain ⟨d1, d2⟩ := gcd_ok (a := a) hb wb
    have en := low_num (a := a) hb
    have ed := low_den (a := a) hb
    by_cases hn : b < 0
    · simp [sIf_eq, hb, hn, d1, d2]
      rw [if_pos hn] at en ed
      unfold frD at q
      rw [en, ed] at q
      exact q
    · simp [sIf_eq, hb, hn, d1, d2]
      rw [if_neg hn] at en ed
      unfold frD at q
      rw [en, ed] at q
      exact q
theorem len_plus {ds A Q E} (h : sp_plus ds A Q E) : ds.length = 2 := by first | (unfold sp_plus at h; split at h <;> first | rfl | exact h.elim) | (obtain ⟨_, rfl, _⟩ := h; rfl) | (obtain ⟨_, _, rfl, _⟩ := h; rfl)
theorem rd_plus {ds A Q E} (h : sp_plus ds A Q E) : t_plus (fun c fs _ A => E c fs A) { nx := fun _ A => Q .non A, rt := Q } (startD 2 ds) A := by
  unfold sp_plus at h
  split at h
  case h_2 => exact h.elim
  split at h
  case h_2 => exact h.elim
  rename_i q r hq hr
  rw [deFr_ok hq, deFr_ok hr]
  obtain ⟨⟨sq, sr⟩, k⟩ := h
  have hd := den_mul_ne q r
  unfold t_plus
  simp [mm1 sq sr, mm1 sr sq, mm3 sq sr, w_add sq sr, w_den sq sr, den_mul_ne, add_fr]
  simp at hd
  exact k
theorem len_minus {ds A Q E} (h : sp_minus ds A Q E) : ds.length = 2 := by first | (unfold sp_minus at h; split at h <;> first | rfl | exact h.elim) | (obtain ⟨_, rfl, _⟩ := h; rfl) | (obtain ⟨_, _, rfl, _⟩ := h; rfl)
theorem rd_minus {ds A Q E} (h : sp_minus ds A Q E) : t_minus (fun c fs _ A => E c fs A) { nx := fun _ A => Q .non A, rt := Q } (startD 2 ds) A := by
  unfold sp_minus at h
  split at h
  case h_2 => exact h.elim
  split at h
  case h_2 => exact h.elim
  rename_i q r hq hr
  rw [deFr_ok hq, deFr_ok hr]
  obtain ⟨⟨sq, sr⟩, k⟩ := h
  have hd := den_mul_ne q r
  unfold t_minus
  simp [mm1 sq sr, mm1 sr sq, mm3 sq sr, w_sub sq sr, w_den sq sr, den_mul_ne, sub_fr]
  simp at hd
  exact k
theorem len_under {ds A Q E} (h : sp_under ds A Q E) : ds.length = 2 := by first | (unfold sp_under at h; split at h <;> first | rfl | exact h.elim) | (obtain ⟨_, rfl, _⟩ := h; rfl) | (obtain ⟨_, _, rfl, _⟩ := h; rfl)
theorem rd_under {ds A Q E} (h : sp_under ds A Q E) : t_under (fun c fs _ A => E c fs A) { nx := fun _ A => Q .non A, rt := Q } (startD 2 ds) A := by
  unfold sp_under at h
  split at h
  case h_2 => exact h.elim
  split at h
  case h_2 => exact h.elim
  rename_i q r hq hr
  rw [deFr_ok hq, deFr_ok hr]
  obtain ⟨⟨sq, sr⟩, k⟩ := h
  unfold t_under
  simp [mm1 sq sr, mm1 sr sq]
  simpa [Rat.lt_iff] using k
theorem len_is_whole {ds A Q E} (h : sp_is_whole ds A Q E) : ds.length = 1 := by first | (unfold sp_is_whole at h; split at h <;> first | rfl | exact h.elim) | (obtain ⟨_, rfl, _⟩ := h; rfl) | (obtain ⟨_, _, rfl, _⟩ := h; rfl)
theorem ty_int_iff {A : AH} {d : D} {s : String} (h : tyD A d = some s) : isIntD d = (instB s "int" && !instB s "bool") := by
  cases d with
  | ref a =>
    have h' : (match A a with | some (.lst _) => some "list" | some (.dic _) => some "dict" | _ => none) = some s := h
    split at h' <;> cases h' <;> rfl
  | obj _ _ _ => cases h
  | _ => cases h; rfl
theorem rd_is_whole {ds A Q E} (h : sp_is_whole ds A Q E) : t_is_whole (fun c fs _ A => E c fs A) { nx := fun _ A => Q .non A, rt := Q } (startD 1 ds) A := by
  unfold sp_is_whole at h
  split at h
  case h_2 => exact h.elim
  rename_i d
  obtain ⟨h1, k⟩ := h
  obtain ⟨s, hs⟩ := Option.isSome_iff_exists.mp h1
  rw [ty_int_iff hs] at k
  unfold t_is_whole
  simp [eAnd_eq, hs]
  cases h2 : instB s "int" <;> simp [h2] at k ⊢ <;> exact k
theorem len_is_name {ds A Q E} (h : sp_is_name ds A Q E) : ds.length = 1 := by first | (unfold sp_is_name at h; split at h <;> first | rfl | exact h.elim) | (obtain ⟨_, rfl, _⟩ := h; rfl) | (obtain ⟨_, _, rfl, _⟩ := h; rfl)
theorem letters_mem (c : Nat) : decide (c ∈ ("abcdefghijklmnopqrstuvwxyz" : Str).cps.toList) = decide (97 ≤ c ∧ c ≤ 122) := by
  have e : ("abcdefghijklmnopqrstuvwxyz" : Str).cps.toList = [97,98,99,100,101,102,103,104,105,106,107,108,109,110,111,112,113,114,115,116,117,118,119,120,121,122] := by decide +kernel
  rw [e]
  apply decide_eq_decide.mpr
  simp only [List.mem_cons, List.not_mem_nil, or_false]
  omega
theorem instB_str {s : String} (h : s ≠ "str") : instB s "str" = false := by
  unfold instB; simp [h]
theorem rd_is_name {ds A Q E} (h : sp_is_name ds A Q E) : t_is_name (fun c fs _ A => E c fs A) { nx := fun _ A => Q .non A, rt := Q } (startD 2 ds) A := by
  unfold sp_is_name at h
  split at h
  · rename_i z
    obtain ⟨hf, k⟩ := h
    unfold t_is_name
    by_cases hl : 1 ≤ z.length ∧ z.length ≤ 8
    · have h1 : ¬ ((z.length : Int) < 1) := by omega
      have h2 : ¬ ((8 : Int) < z.length) := by omega
      have h3 : z.length ≠ 0 := by omega
      have h4 : ¬ 8 < z.length := by omega
      simp [sIf_eq, bOr_eq, instB, hf, h1, h2, h3, h4, sFor_eq]
      have hall : nameB z = z.cps.toList.all fun c => decide (97 ≤ c ∧ c ≤ 122) := by unfold nameB; simp [hl]
      rw [hall] at k
      refine forD_ind (fun l δ A' => A' = A ∧ (∃ o, δ = [some (.str z), o]) ∧ ∃ cs : List Nat, l = cs.map (fun c => D.str ⟨#[c]⟩) ∧ Q (.bl (cs.all fun c => decide (97 ≤ c ∧ c ≤ 122))) A) (fun _ _ _ _ => trivial) ?_ ?_ _ _ _ ⟨rfl, ⟨_, rfl⟩, _, rfl, k⟩
      · rintro δ A' ⟨rfl, ⟨o, rfl⟩, cs, e, k⟩
        cases cs with
        | nil => simpa using k
        | cons c cs => cases e
      · rintro x l δ A' N hN ⟨rfl, ⟨o, rfl⟩, cs, e, k⟩
        cases cs with
        | nil => cases e
        | cons c cs =>
          simp only [List.map_cons, List.cons.injEq] at e
          obtain ⟨rfl, rfl⟩ := e
          have lm := letters_mem c
          simp [sIf_eq, -List.mem_toArray]
          rw [List.all_cons] at k
          have lm2 : (c ∈ ("abcdefghijklmnopqrstuvwxyz" : Str).cps.toList) ↔ (97 ≤ c ∧ c ≤ 122) := decide_eq_decide.mp lm
          simp only [Array.mem_toList_iff] at lm2
          by_cases hc : 97 ≤ c ∧ c ≤ 122
          · rw [decide_eq_true hc, Bool.true_and] at k
            exact ⟨fun hh => absurd (lm2.mpr hc) hh, fun _ => hN _ _ ⟨rfl, ⟨_, rfl⟩, cs, rfl, k⟩⟩
          · rw [decide_eq_false hc, Bool.false_and] at k
            exact ⟨fun _ => k, fun hh => absurd (lm2.mp hh) hc⟩
    · have e : nameB z = false := by unfold nameB; simp [hl]
      rw [e] at k
      by_cases h1 : z.length < 1
      · have h3 : z.length = 0 := by omega
        simp [sIf_eq, bOr_eq, instB, h3]
        simpa using k
      · have h2 : 8 < z.length := by omega
        have h3 : z.length ≠ 0 := by omega
        have h5 : ¬ z.length ≤ 0 := by omega
        have h6 : ¬ ((z.length : Int) < 1) := by omega
        simp [sIf_eq, bOr_eq, instB, hf, h2, h3, h6]
        first | exact k | exact ⟨fun _ => k, fun hh => absurd hh (by omega)⟩ | exact fun hh => absurd hh (by omega)
  · rename_i d _
    obtain ⟨⟨h1, h2⟩, k⟩ := h
    obtain ⟨s, hs⟩ := Option.isSome_iff_exists.mp h1
    have hi := instB_str (s := s) (fun e => h2 (by rw [hs, e]))
    unfold t_is_name
    simp [sIf_eq, bOr_eq, hs, hi]
    exact k
  · exact h.elim
theorem len_is_fraction {ds A Q E} (h : sp_is_fraction ds A Q E) : ds.length = 1 := by first | (unfold sp_is_fraction at h; split at h <;> first | rfl | exact h.elim) | (obtain ⟨_, rfl, _⟩ := h; rfl) | (obtain ⟨_, _, rfl, _⟩ := h; rfl)
theorem isInt_ok {d : D} (h : isIntD d = true) : ∃ i, d = .int i := by
  cases d <;> first | exact ⟨_, rfl⟩ | cases h
theorem ty_tup_iff {A : AH} {d : D} {s : String} (h : tyD A d = some s) (hn : ∀ l, d ≠ .tup l) : instB s "tuple" = false := by
  cases d with
  | ref a =>
    have h' : (match A a with | some (.lst _) => some "list" | some (.dic _) => some "dict" | _ => none) = some s := h
    split at h' <;> cases h' <;> rfl
  | obj _ _ _ => cases h
  | tup l => exact absurd rfl (hn l)
  | _ => cases h; rfl
theorem rd_is_fraction {ds A Q E} (h : sp_is_fraction ds A Q E) : t_is_fraction (fun c fs _ A => E c fs A) { nx := fun _ A => Q .non A, rt := Q } (startD 1 ds) A := by
  unfold sp_is_fraction at h
  split at h
  case h_2 => exact h.elim
  rename_i d
  obtain ⟨h1, k⟩ := h
  unfold t_is_fraction
  by_cases ht : ∃ l, d = .tup l
  · obtain ⟨l, rfl⟩ := ht
    match l, h1, k with
    | [], _, k =>
      have e : fracB (.tup []) = false := rfl
      rw [e] at k
      simp [sIf_eq, bOr_eq, instB]; exact k
    | [x], _, k =>
      have e : fracB (.tup [x]) = false := by cases x <;> rfl
      rw [e] at k
      simp [sIf_eq, bOr_eq, instB]; exact k
    | x :: y :: z :: r, _, k =>
      have e : fracB (.tup (x :: y :: z :: r)) = false := by cases x <;> first | rfl | (cases y <;> rfl)
      rw [e] at k
      simp [sIf_eq, bOr_eq, instB]
      exact ⟨fun _ => k, fun hh => absurd hh (by omega)⟩
    | [x, y], h1, k =>
      simp only [tyOk, List.all_cons, List.all_nil, Bool.and_true, Bool.and_eq_true] at h1
      obtain ⟨g1, g2⟩ := h1
      cases hx : isIntD x with
      | false =>
        have e : fracB (.tup [x, y]) = false := by cases x <;> first | rfl | cases hx
        rw [e] at k
        simp [sIf_eq, bOr_eq, instB, g1, g2, hx]
        exact k
      | true =>
        obtain ⟨a, rfl⟩ := isInt_ok hx
        cases hy : isIntD y with
        | false =>
          have e : fracB (.tup [.int a, y]) = false := by cases y <;> first | rfl | cases hy
          rw [e] at k
          simp [sIf_eq, bOr_eq, instB, g1, g2, hx, hy]
          exact k
        | true =>
          obtain ⟨b, rfl⟩ := isInt_ok hy
          have e : fracB (.tup [.int a, .int b]) = (decide (1 ≤ b) && decide (Int.gcd a b = 1)) := rfl
          rw [e] at k
          by_cases hb : b < 1
          · have hb2 : ¬ 1 ≤ b := by omega
            simp [hb2] at k
            simp [sIf_eq, bOr_eq, instB, hx, hy, hb]
            exact k
          · have hb2 : 1 ≤ b := by omega
            simp [hb2] at k
            simp [sIf_eq, bOr_eq, instB, hx, hy, hb]
            have e2 : ((Int.gcd a b : Int) == 1) = decide (Int.gcd a b = 1) := by
              by_cases hg : Int.gcd a b = 1
              · simp [hg]
              · simp [hg]; omega
            first | exact k | (rw [e2]; exact k) | simpa [e2] using k
  · have h2 : (tyD A d).isSome = true := by
      cases d with
      | tup l => exact absurd ⟨l, rfl⟩ ht
      | _ => exact h1
    obtain ⟨s, hs⟩ := Option.isSome_iff_exists.mp h2
    have hi := ty_tup_iff hs fun l e => ht ⟨l, e⟩
    have e : fracB d = false := by cases d <;> first | rfl | exact absurd ⟨_, rfl⟩ ht
    rw [e] at k
    simp [sIf_eq, bOr_eq, hs, hi]
    exact k
theorem len_has_ends {ds A Q E} (h : sp_has_ends ds A Q E) : ds.length = 2 := by first | (unfold sp_has_ends at h; split at h <;> first | rfl | exact h.elim) | (obtain ⟨_, rfl, _⟩ := h; rfl) | (obtain ⟨_, _, rfl, _⟩ := h; rfl)
theorem rd_has_ends {ds A Q E} (h : sp_has_ends ds A Q E) : t_has_ends (fun c fs _ A => E c fs A) { nx := fun _ A => Q .non A, rt := Q } (startD 3 ds) A := by
  unfold sp_has_ends at h
  split at h
  case h_2 => exact h.elim
  rename_i a b c r n
  obtain ⟨⟨⟨a1, a2⟩, ⟨b1, b2⟩, c1, c2⟩, k⟩ := h
  unfold t_has_ends
  have e1 : DL.cutD (.str a :: .str b :: .str c :: r) none (some 3) = [.str a, .str b, .str c] := rfl
  have hl : (((D.str a :: D.str b :: D.str c :: r).length : Nat) : Int) = ((r.length : Nat) : Int) + 3 := by simp; omega
  have na := fun (z : Str) (hz : Few z.length) (Q : DK) (E : DX) => show sp_is_name [.str z] A Q E = Q (.bl (nameD (.str z))) A from propext ⟨fun h => h.2, fun h => ⟨hz, h⟩⟩
  have na' := na a a1
  have nb' := na b b1
  have nc' := na c c1
  have ea : ∀ z, nameD (.str z) = nameB z := fun _ => rfl
  simp only [ea] at na' nb' nc'
  unfold endsB at k
  by_cases h0 : ((r.length : Nat) : Int) + 3 = n
  · subst h0
    rw [decide_eq_true rfl, Bool.true_and] at k
    simp [sIf_eq, bOr_eq, instB, sFor_eq, e1, forD, na', nb', nc']
    refine ⟨fun hh => absurd (by omega) hh, fun _ => ⟨a1, fun q => ?_, fun qa => ⟨b1, fun q => ?_, fun qb => ⟨c1, fun q => ?_, fun qc => ⟨b2, c2, ?_⟩⟩⟩⟩⟩
    · rw [q] at k; exact k
    · rw [qa, q] at k; exact k
    · rw [qa, qb, q] at k; exact k
    · rw [qa, qb, qc] at k
      have e : (b == c) = decide (b = c) := Bool.beq_eq_decide_eq b c
      rw [e]; exact k
  · rw [decide_eq_false h0, Bool.false_and] at k
    simp [sIf_eq, bOr_eq, instB, h0]
    exact ⟨fun _ => k, fun hh => absurd (by omega) h0⟩
theorem len_is_part {ds A Q E} (h : sp_is_part ds A Q E) : ds.length = 1 := by obtain ⟨_, _, e, _⟩ := h; rw [e]; rfl
theorem rd_is_part {ds A Q E} (h : sp_is_part ds A Q E) : t_is_part (fun c fs _ A => dropE E c fs A) { nx := fun _ A => dropQ Q .non A, rt := dropQ Q } (startD 1 ds) A := by
  obtain ⟨d0, v_thing, rfl, h0, h⟩ := h
  have e0 : d0 = enc v_thing := h0
  subst e0
  have hw : WX A (fun c fs _ A' => dropE E c fs A') (fun c fs => E c fs A) := fun c fs δ A' s h => ⟨A, s, h⟩
  have hrt : ∀ (a : Bool) A', Sub A A' → Q (enc a) A → dropQ Q (enc a) A' := fun a A' s h => ⟨A, s, h⟩
  have key : SS A (fun c fs => E c fs A) { nx := fun _ A => dropQ Q .non A, rt := dropQ Q } (fun (r : Bool) => Q (enc r) A) [.val (enc v_thing)] (t_is_part (fun c fs _ A => dropE E c fs A)) (F_is_part v_thing) :=
  (ss_ifs (we hw) (st_or (st_not (st_of (se_call2 hs_has_ends ((se_dyn (se_var (i := 0) rfl))).v ((se_int 6)).v))) (st_or (st_not (st_of (se_call1 hs_is_fraction ((se_dyn (se_proj (fun t : PartV => t.size) 3 (fun _ => ⟨_, rfl, rfl⟩) (se_var (i := 0) rfl)))).v))) (st_not (st_of (se_call1 hs_is_fraction ((se_dyn (se_proj (fun t : PartV => t.most) 4 (fun _ => ⟨_, rfl, rfl⟩) (se_var (i := 0) rfl)))).v)))))
  (ss_one (ss_ret1 (we hw) (se_bl false) (fun a A' s h => hrt a A' s h)))
  (ss_into (ss_one (ss_ret1 (we hw) (se_and (se_bin op_cmpI (se_proj (fun q : Rat => q.num) 0 ix_num (se_proj (fun t : PartV => t.most) 4 (fun _ => ⟨_, rfl, rfl⟩) (se_var (i := 0) rfl))) (se_int 0)) (se_and (se_call1 hs_is_whole ((se_dyn (se_proj (fun t : PartV => t.weight) 5 (fun _ => ⟨_, rfl, rfl⟩) (se_var (i := 0) rfl)))).v) (se_bin op_cmpI (se_proj (fun t : PartV => t.weight) 5 (fun _ => ⟨_, rfl, rfl⟩) (se_var (i := 0) rfl)) (se_int 0)))) (fun a A' s h => hrt a A' s h)))))
  exact key _ _ ⟨Sub.refl A, [], (.val .nil)⟩ h
theorem len_is_gap {ds A Q E} (h : sp_is_gap ds A Q E) : ds.length = 1 := by obtain ⟨_, _, e, _⟩ := h; rw [e]; rfl
theorem rd_is_gap {ds A Q E} (h : sp_is_gap ds A Q E) : t_is_gap (fun c fs _ A => dropE E c fs A) { nx := fun _ A => dropQ Q .non A, rt := dropQ Q } (startD 1 ds) A := by
  obtain ⟨d0, v_thing, rfl, h0, h⟩ := h
  have e0 : d0 = enc v_thing := h0
  subst e0
  have hw : WX A (fun c fs _ A' => dropE E c fs A') (fun c fs => E c fs A) := fun c fs δ A' s h => ⟨A, s, h⟩
  have hrt : ∀ (a : Bool) A', Sub A A' → Q (enc a) A → dropQ Q (enc a) A' := fun a A' s h => ⟨A, s, h⟩
  have key : SS A (fun c fs => E c fs A) { nx := fun _ A => dropQ Q .non A, rt := dropQ Q } (fun (r : Bool) => Q (enc r) A) [.val (enc v_thing)] (t_is_gap (fun c fs _ A => dropE E c fs A)) (F_is_gap v_thing) :=
  (ss_ifs (we hw) (st_or (st_not (st_of (se_call2 hs_has_ends ((se_dyn (se_var (i := 0) rfl))).v ((se_int 5)).v))) (st_or (st_not (st_of (se_call1 hs_is_fraction ((se_dyn (se_proj (fun t : GapV => t.low) 3 (fun _ => ⟨_, rfl, rfl⟩) (se_var (i := 0) rfl)))).v))) (st_not (st_of (se_call1 hs_is_fraction ((se_dyn (se_proj (fun t : GapV => t.high) 4 (fun _ => ⟨_, rfl, rfl⟩) (se_var (i := 0) rfl)))).v)))))
  (ss_one (ss_ret1 (we hw) (se_bl false) (fun a A' s h => hrt a A' s h)))
  (ss_into (ss_one (ss_ret1 (we hw) (se_not (se_call2 hs_under ((se_proj (fun t : GapV => t.high) 4 (fun _ => ⟨_, rfl, rfl⟩) (se_var (i := 0) rfl))).v ((se_proj (fun t : GapV => t.low) 3 (fun _ => ⟨_, rfl, rfl⟩) (se_var (i := 0) rfl))).v)) (fun a A' s h => hrt a A' s h)))))
  exact key _ _ ⟨Sub.refl A, [], (.val .nil)⟩ h
theorem len_way_between {ds A Q E} (h : sp_way_between ds A Q E) : ds.length = 3 := by obtain ⟨_, _, _, _, _, _, e, _⟩ := h; rw [e]; rfl
theorem rd_way_between {ds A Q E} (h : sp_way_between ds A Q E) : t_way_between (fun c fs _ A => dropE E c fs A) { nx := fun _ A => dropQ Q .non A, rt := dropQ Q } (startD 12 ds) A := by
  obtain ⟨d0, d1, d2, v_parts, v_one, v_other, rfl, h0, h1, h2, h⟩ := h
  have e1 : d1 = enc v_one := h1
  subst e1
  have e2 : d2 = enc v_other := h2
  subst e2
  have hw : WX A (fun c fs _ A' => dropE E c fs A') (fun c fs => E c fs A) := fun c fs δ A' s h => ⟨A, s, h⟩
  have hrt : ∀ (a : (Option (List (Str × Bool)))) A', Sub A A' → Q (enc a) A → dropQ Q (enc a) A' := fun a A' s h => ⟨A, s, h⟩
  have key : SS A (fun c fs => E c fs A) { nx := fun _ A => dropQ Q .non A, rt := dropQ Q } (fun (r : (Option (List (Str × Bool)))) => Q (enc r) A) [.val d0, .val (enc v_one), .val (enc v_other), .emp, .emp, .emp, .emp, .emp, .emp, .emp, .emp, .emp] (t_way_between (fun c fs _ A => dropE E c fs A)) (F_way_between v_parts v_one v_other) :=
  (ss_asgO (we hw) (so_dic1 (se_var (i := 1) rfl) (se_lst ses_nil) (by intros; simp) (by intros; simp)) fun ways_1 =>
  (ss_asgO (we hw) (so_lst (ses_cons (se_var (i := 1) rfl) ses_nil)) fun queue_4 =>
  (ss_norm (J := [.val d0, .val (enc v_one), .val (enc v_other), .own (oD ways_1), .own (oL queue_4), .emp, .emp, .emp, .emp, .emp, .emp, .emp]) rfl
  (ss_while hw (fun (st_5 : (Dic Str (List (Str × Bool))) × (List Str)) => [.val d0, .val (enc v_one), .val (enc v_other), .own (oD st_5.1), .own (oL st_5.2), .emp, .emp, .emp, .emp, .emp, .emp, .emp]) [true, true, true, true, true, false, false, false, false, false, false, false] rfl hrt (fun st_5 => (st_of (se_bin op_cmpI (sv_cb cb_len (sv_own (i := 4) rfl)) (se_int 0)))) (fun V' N B hN_172 hB_173 hR_174 st_5 =>
  (ss_popIA (we hw) rfl (se_int 0) fun p_178 =>
  (ss_norm (J := [.val d0, .val (enc v_one), .val (enc v_other), .own (oD st_5.1), .own (oL p_178.2), .val (enc p_178.1), .emp, .emp, .emp, .emp, .emp, .emp]) rfl
  (ss_one (ss_for (we hw) (fun (st_180 : (Dic Str (List (Str × Bool))) × (List Str)) => [.val d0, .val (enc v_one), .val (enc v_other), .own (oD st_180.1), .own (oL st_180.2), .val (enc p_178.1), .emp, .emp, .emp, .emp, .emp, .emp]) _ [true, true, true, true, true, true, false, false, false, false, false, false] rfl (sif_var (i := 0) rfl h0) (fun x_179 st_180 => (sg_tup6 rfl)) (fun V' N B hN_259 x_179 st_180 =>
  (ss_norm (J := [.val d0, .val (enc v_one), .val (enc v_other), .own (oD st_180.1), .own (oL st_180.2), .val (enc p_178.1), .val (enc x_179.name), .val (enc x_179.start), .val (enc x_179.fin), .val (enc x_179.size), .val (enc x_179.most), .val (enc x_179.weight)]) rfl
  (ss_one (ss_ifs (we hw) (st_and (st_of (sv_bin (op_eqV false (by decide)) ((se_var (i := 7) rfl)).v ((se_var (i := 5) rfl)).v)) (st_of (se_inD1 (se_var (i := 8) rfl) (sv_ownD (i := 3) rfl))))
  (ss_setD (we hw) rfl (sv_bin op_cat ((se_get (sv_ownD (i := 3) rfl) (se_var (i := 5) rfl))).v ((se_lst (ses_cons (se_tup2 (se_var (i := 6) rfl) (se_bl true)) ses_nil))).v) (se_var (i := 8) rfl) fun ways_301 =>
  (ss_one (ss_app (we hw) rfl (se_var (i := 8) rfl) fun queue_312 =>
  (ss_next [true, true, true, true, true, true, false, false, false, false, false, false] rfl fun δ A v e => hN_259 _ δ A v e))))
  (ss_one (ss_ifs (we hw) (st_and (st_of (sv_bin (op_eqV false (by decide)) ((se_var (i := 8) rfl)).v ((se_var (i := 5) rfl)).v)) (st_of (se_inD1 (se_var (i := 7) rfl) (sv_ownD (i := 3) rfl))))
  (ss_setD (we hw) rfl (sv_bin op_cat ((se_get (sv_ownD (i := 3) rfl) (se_var (i := 5) rfl))).v ((se_lst (ses_cons (se_tup2 (se_var (i := 6) rfl) (se_bl false)) ses_nil))).v) (se_var (i := 7) rfl) fun ways_327 =>
  (ss_one (ss_app (we hw) rfl (se_var (i := 7) rfl) fun queue_338 =>
  (ss_next [true, true, true, true, true, true, false, false, false, false, false, false] rfl fun δ A v e => hN_259 _ δ A v e))))
  (ss_next [true, true, true, true, true, true, false, false, false, false, false, false] rfl fun δ A v e => hN_259 _ δ A v e))))))) fun st_180 =>
  (ss_next [true, true, true, true, true, false, false, false, false, false, false, false] rfl fun δ A v e => hN_172 _ δ A v e)))))) fun st_5 =>
  (ss_fzD (i := 3) rfl
  (ss_one (ss_ret1 (we hw) (se_dget ((se_var (i := 3) rfl)).v (se_var (i := 2) rfl)) (fun a A' s h => hrt a A' s h))))))))
  exact key _ _ ⟨Sub.refl A, [], (.val (.val (.val (.emp (.emp (.emp (.emp (.emp (.emp (.emp (.emp (.emp .nil))))))))))))⟩ h
theorem len_Thing_add_part {ds A Q E} (h : sp_Thing_add_part ds A Q E) : ds.length = 2 := by
  obtain ⟨_, _, _, _, e, _⟩ := h; rw [e]; rfl
theorem rd_Thing_add_part {ds A Q E} (h : sp_Thing_add_part ds A Q E) : t_Thing_add_part (fun c fs _ A => dropE E c fs A) { nx := fun _ A => dropQ Q .non A, rt := dropQ Q } (startD 2 ds) A := by
  obtain ⟨A0, p, t, x, rfl, hn, h⟩ := h
  have he : Env A0 [.own (.ob "Thing" (some p) (fThing t)), .val (enc x)] (startD 2 [.ref p, enc x]) A := hn.env (.val .nil)
  have we0 : ∀ {ss : List Sl}, ss[0]? = some (.own (.ob "Thing" (some p) (fThing t))) → WE A0 (fun k gs _ A => dropE E k gs A) (fun k gs => ∀ A', New A0 (.ob "Thing" (some p) (fThing t)) p A' → E k gs A') ss := fun h => we_io (flds := fThing) (x := t) h
  have key : SS A0 (fun k gs => ∀ A', New A0 (.ob "Thing" (some p) (fThing t)) p A' → E k gs A') { nx := fun _ A => dropQ Q .non A, rt := dropQ Q } (fun t' : ThingV => ∀ A', New A0 (.ob "Thing" (some p) (fThing t')) p A' → Q .non A') [.own (.ob "Thing" (some p) (fThing t)), .val (enc x)] (t_Thing_add_part (fun c fs _ A => dropE E c fs A)) (F_Thing_add_part t x) :=
    (ss_ifs (we0 rfl) (st_not (st_of (se_call1 hs_is_part ((se_var (i := 1) rfl)).v)))
    (ss_one (ss_raise (we0 rfl)))
    (ss_ifs (we0 rfl) (st_of (se_inD0 (se_proj (fun t : PartV => t.name) 0 (fun _ => ⟨_, rfl, rfl⟩) (se_var (i := 1) rfl)) (sv_fldD (i := 0) rfl (by decide) rfl)))
    (ss_one (ss_raise (we0 rfl)))
    (ss_ifs (we0 rfl) (st_of (se_isN1 (se_call3 hs_way_between (sv_fldL (i := 0) rfl (by decide) rfl) ((se_proj (fun t : PartV => t.start) 1 (fun _ => ⟨_, rfl, rfl⟩) (se_var (i := 1) rfl))).v ((se_proj (fun t : PartV => t.fin) 2 (fun _ => ⟨_, rfl, rfl⟩) (se_var (i := 1) rfl))).v)))
    (ss_one (ss_raise (we0 rfl)))
    (ss_fapp (we0 rfl) (i := 0) rfl (by decide) rfl (se_var (i := 1) rfl) fun ps =>
    (ss_norm (J := [.own (.ob "Thing" (some p) (fThing { t with parts := ps })), .val (enc x)]) rfl
    (ss_one (ss_fsetD (w := fun k gs _ _ => ∀ A', New A0 (.ob "Thing" (some p) (fThing t)) p A' → E k gs A') (fun _ _ _ _ _ h => h) (i := 0) rfl (by decide) rfl (se_proj (fun t : PartV => t.size) 3 (fun _ => ⟨_, rfl, rfl⟩) (se_var (i := 1) rfl)) (se_proj (fun t : PartV => t.name) 0 (fun _ => ⟨_, rfl, rfl⟩) (se_var (i := 1) rfl)) fun sz =>
    (ss_norm (J := [.own (.ob "Thing" (some p) (fThing { t with parts := ps, sizes := sz })), .val (enc x)]) rfl
    (io_fin (j := 0) rfl)))))))))
  exact key _ _ he h
theorem len_Thing_add_gap {ds A Q E} (h : sp_Thing_add_gap ds A Q E) : ds.length = 2 := by
  obtain ⟨_, _, _, _, e, _⟩ := h; rw [e]; rfl
theorem rd_Thing_add_gap {ds A Q E} (h : sp_Thing_add_gap ds A Q E) : t_Thing_add_gap (fun c fs _ A => dropE E c fs A) { nx := fun _ A => dropQ Q .non A, rt := dropQ Q } (startD 3 ds) A := by
  obtain ⟨A0, p, t, x, rfl, hn, h⟩ := h
  have he : Env A0 [.own (.ob "Thing" (some p) (fThing t)), .val (enc x), .emp] (startD 3 [.ref p, enc x]) A := hn.env (.val (.emp .nil))
  have we0 : ∀ {ss : List Sl}, ss[0]? = some (.own (.ob "Thing" (some p) (fThing t))) → WE A0 (fun k gs _ A => dropE E k gs A) (fun k gs => ∀ A', New A0 (.ob "Thing" (some p) (fThing t)) p A' → E k gs A') ss := fun h => we_io (flds := fThing) (x := t) h
  have key : SS A0 (fun k gs => ∀ A', New A0 (.ob "Thing" (some p) (fThing t)) p A' → E k gs A') { nx := fun _ A => dropQ Q .non A, rt := dropQ Q } (fun t' : ThingV => ∀ A', New A0 (.ob "Thing" (some p) (fThing t')) p A' → Q .non A') [.own (.ob "Thing" (some p) (fThing t)), .val (enc x), .emp] (t_Thing_add_gap (fun c fs _ A => dropE E c fs A)) (F_Thing_add_gap t x) :=
    (ss_ifs (we0 rfl) (st_not (st_of (se_call1 hs_is_gap ((se_var (i := 1) rfl)).v)))
    (ss_one (ss_raise (we0 rfl)))
    (ss_ifs (we0 rfl) (st_of (se_inD0 (se_proj (fun t : GapV => t.name) 0 (fun _ => ⟨_, rfl, rfl⟩) (se_var (i := 1) rfl)) (sv_fldD (i := 0) rfl (by decide) rfl)))
    (ss_one (ss_raise (we0 rfl)))
    (ss_asg (we0 rfl) (se_call3 hs_way_between (sv_fldL (i := 0) rfl (by decide) rfl) ((se_proj (fun t : GapV => t.one) 1 (fun _ => ⟨_, rfl, rfl⟩) (se_var (i := 1) rfl))).v ((se_proj (fun t : GapV => t.other) 2 (fun _ => ⟨_, rfl, rfl⟩) (se_var (i := 1) rfl))).v) fun found =>
    (ss_norm (J := [.own (.ob "Thing" (some p) (fThing t)), .val (enc x), .val (enc found)]) rfl
    (ss_ifs (we0 rfl) (st_of (se_isN0 (se_var (i := 2) rfl)))
    (ss_one (ss_raise (we0 rfl)))
    (ss_fapp (we0 rfl) (i := 0) rfl (by decide) rfl (se_var (i := 1) rfl) fun gs =>
    (ss_norm (J := [.own (.ob "Thing" (some p) (fThing { t with gaps := gs })), .val (enc x), .val (enc found)]) rfl
    (ss_one (ss_fsetD (w := fun k gs _ _ => ∀ A', New A0 (.ob "Thing" (some p) (fThing t)) p A' → E k gs A') (fun _ _ _ _ _ h => h) (i := 0) rfl (by decide) rfl (se_unw (se_var (i := 2) rfl)) (se_proj (fun t : GapV => t.name) 0 (fun _ => ⟨_, rfl, rfl⟩) (se_var (i := 1) rfl)) fun ws =>
    (ss_norm (J := [.own (.ob "Thing" (some p) (fThing { t with gaps := gs, ways := ws })), .val (enc x), .val (enc found)]) rfl
    (io_fin (j := 0) rfl)))))))))))
  exact key _ _ he h
theorem len_Thing___init__ {ds A Q E} (h : sp_Thing___init__ ds A Q E) : ds.length = 3 := by
  obtain ⟨_, _, _, _, _, _, e, _⟩ := h; rw [e]; rfl
theorem rd_Thing___init__ {ds A Q E} (h : sp_Thing___init__ ds A Q E) : t_Thing___init__ (fun c fs _ A => dropE E c fs A) { nx := fun _ A => dropQ Q .non A, rt := dropQ Q } (startD 5 ds) A := by
  obtain ⟨A0, p, d1, d2, parts, gaps, rfl, hn, h1, h2, h⟩ := h
  have he : Env A0 [.own (.ob "Thing" (some p) []), .val d1, .val d2, .emp, .emp] (startD 5 [.ref p, d1, d2]) A := hn.env (.val (.val (.emp (.emp .nil))))
  have key : SS A0 (fun k gs => E k gs A0) { nx := fun _ A => dropQ Q .non A, rt := dropQ Q } (fun t' : ThingV => ∀ A', New A0 (.ob "Thing" (some p) (fThing t')) p A' → Q .non A') [.own (.ob "Thing" (some p) []), .val d1, .val d2, .emp, .emp] (t_Thing___init__ (fun c fs _ A => dropE E c fs A)) (F_Thing parts gaps) :=
    (ss_fown (cs := ["Thing"]) (i := 0) we_mk rfl (by decide) (by simp) (so_lst (α := PartV) ses_nil) fun l1 =>
    (ss_norm (J := [.own (.ob "Thing" (some p) [("kept_parts", .inr (.lst (l1.map enc)))]), .val d1, .val d2, .emp, .emp]) rfl
    (ss_fown (cs := ["Thing"]) (i := 0) we_mk rfl (by decide) (by simp) (so_lst (α := GapV) ses_nil) fun l2 =>
    (ss_norm (J := [.own (.ob "Thing" (some p) [("kept_parts", .inr (.lst (l1.map enc))), ("kept_gaps", .inr (.lst (l2.map enc)))]), .val d1, .val d2, .emp, .emp]) rfl
    (ss_fown (cs := ["Thing"]) (i := 0) we_mk rfl (by decide) (by simp) (so_dic0 (κ := Str) (α := Rat)) fun e1 =>
    (ss_norm (J := [.own (.ob "Thing" (some p) [("kept_parts", .inr (.lst (l1.map enc))), ("kept_gaps", .inr (.lst (l2.map enc))), ("sizes", .inr (.dic (encKV e1.l)))]), .val d1, .val d2, .emp, .emp]) rfl
    (ss_fown (cs := ["Thing"]) (i := 0) we_mk rfl (by decide) (by simp) (so_dic0 (κ := Str) (α := List (Str × Bool))) fun e2 =>
    (ss_norm (J := [.own (.ob "Thing" (some p) (fThing ⟨l1, l2, e1, e2⟩)), .val d1, .val d2, .emp, .emp]) rfl
    (ss_for we_mk (fun (st : ThingV) => [.own (.ob "Thing" (some p) (fThing st)), .val d1, .val d2, .emp, .emp]) _ [true, true, true, false, false] rfl (sif_var (i := 1) rfl h1) (fun x st => (sg_name (i := 3))) (fun V' N B hN x st =>
    (ss_one (ss_io1 (i := 0) we_mk rfl rfl rfl (io_add_part st) (se_var (i := 3) rfl) fun t' =>
    (ss_next [true, true, true, false, false] rfl fun δ A v e => hN _ δ A v e)))) fun st =>
    (ss_one (ss_for we_mk (fun (st : ThingV) => [.own (.ob "Thing" (some p) (fThing st)), .val d1, .val d2, .emp, .emp]) _ [true, true, true, false, false] rfl (sif_var (i := 2) rfl h2) (fun x st => (sg_name (i := 4))) (fun V' N B hN x st =>
    (ss_one (ss_io1 (i := 0) we_mk rfl rfl rfl (io_add_gap st) (se_var (i := 4) rfl) fun t' =>
    (ss_next [true, true, true, false, false] rfl fun δ A v e => hN _ δ A v e)))) fun st =>
    (io_fin (j := 0) rfl))))))))))))
  exact key _ _ he h
theorem len_Thing_way {ds A Q E} (h : sp_Thing_way ds A Q E) : ds.length = 2 := by obtain ⟨_, _, _, _, e, _⟩ := h; rw [e]; rfl
theorem rd_Thing_way {ds A Q E} (h : sp_Thing_way ds A Q E) : t_Thing_way (fun c fs _ A => dropE E c fs A) { nx := fun _ A => dropQ Q .non A, rt := dropQ Q } (startD 2 ds) A := by
  obtain ⟨d0, d1, v_self, v_name, rfl, h0, h1, h⟩ := h
  have e0 : d0 = enc v_self := h0
  subst e0
  have e1 : d1 = enc v_name := h1
  subst e1
  have hw : WX A (fun c fs _ A' => dropE E c fs A') (fun c fs => E c fs A) := fun c fs δ A' s h => ⟨A, s, h⟩
  have hrtO : ∀ (a : (List (Str × Bool))) A1 A' p, Sub A A1 → New A1 (oL a) p A' → (∀ p A', New A (oL a) p A' → Q (.ref p) A') → dropQ Q (.ref p) A' := fun a A1 A' p s hn h => rtO s hn h
  have hrtW : ∀ (a : (List (Str × Bool))) A' p, Sub A A' → A' p = some (.lst (a.map enc)) → A p = none → (∀ p A', New A (oL a) p A' → Q (.ref p) A') → dropQ Q (.ref p) A' := fun a A' p s h1 h2 h => rtW s h1 h2 h
  have key : SS A (fun c fs => E c fs A) { nx := fun _ A => dropQ Q .non A, rt := dropQ Q } (fun r => ∀ p A', New A (oL r) p A' → Q (.ref p) A') [.val (enc v_self), .val (enc v_name)] (t_Thing_way (fun c fs _ A => dropE E c fs A)) (F_Thing_way v_self v_name) :=
  (ss_ifs (we hw) (st_of (se_inD1 (se_var (i := 1) rfl) ((fld_ways (se_var (i := 0) rfl))).v))
  (ss_one (ss_raise (we hw)))
  (ss_into (ss_one (ss_retO (we hw) (so_cb cb_listO ((se_get ((fld_ways (se_var (i := 0) rfl))).v (se_var (i := 1) rfl))).v) (fun a A1 A' p s hn h => hrtO a A1 A' p s hn h)))))
  exact key _ _ ⟨Sub.refl A, [], (.val (.val .nil))⟩ h
theorem len_Thing_middle {ds A Q E} (h : sp_Thing_middle ds A Q E) : ds.length = 2 := by obtain ⟨_, _, _, _, e, _⟩ := h; rw [e]; rfl
theorem rd_Thing_middle {ds A Q E} (h : sp_Thing_middle ds A Q E) : t_Thing_middle (fun c fs _ A => dropE E c fs A) { nx := fun _ A => dropQ Q .non A, rt := dropQ Q } (startD 5 ds) A := by
  obtain ⟨d0, d1, v_self, v_name, rfl, h0, h1, h⟩ := h
  have e0 : d0 = enc v_self := h0
  subst e0
  have e1 : d1 = enc v_name := h1
  subst e1
  have hw : WX A (fun c fs _ A' => dropE E c fs A') (fun c fs => E c fs A) := fun c fs δ A' s h => ⟨A, s, h⟩
  have hrt : ∀ (a : Rat) A', Sub A A' → Q (enc a) A → dropQ Q (enc a) A' := fun a A' s h => ⟨A, s, h⟩
  have key : SS A (fun c fs => E c fs A) { nx := fun _ A => dropQ Q .non A, rt := dropQ Q } (fun (r : Rat) => Q (enc r) A) [.val (enc v_self), .val (enc v_name), .emp, .emp, .emp] (t_Thing_middle (fun c fs _ A => dropE E c fs A)) (F_Thing_middle v_self v_name) :=
  (ss_asg (we hw) (se_toRat (se_tup2 (se_int 0) (se_int 1))) fun total_3 =>
  (ss_for (we hw) (fun (st_7 : Rat) => [.val (enc v_self), .val (enc v_name), .val (enc st_7), .emp, .emp]) _ [true, true, true, false, false] rfl (sif_seq (se_fzO (so_meth1 hm_Thing_way hsh_Thing_way ((se_var (i := 0) rfl)).v ((se_var (i := 1) rfl)).v))) (fun x_6 st_7 => (sg_tup2 rfl)) (fun V' N B hN_20 x_6 st_7 =>
  (ss_norm (J := [.val (enc v_self), .val (enc v_name), .val (enc st_7), .val (enc x_6.1), .val (enc x_6.2)]) rfl
  (ss_one (ss_ifs (we hw) (st_of (se_var (i := 4) rfl))
  (ss_one (ss_asg (we hw) (se_call2 hs_plus ((se_var (i := 2) rfl)).v ((se_get ((fld_sizes (se_var (i := 0) rfl))).v (se_var (i := 3) rfl))).v) fun total_31 =>
  (ss_next [true, true, true, false, false] rfl fun δ A v e => hN_20 _ δ A v e)))
  (ss_one (ss_asg (we hw) (se_call2 hs_minus ((se_var (i := 2) rfl)).v ((se_get ((fld_sizes (se_var (i := 0) rfl))).v (se_var (i := 3) rfl))).v) fun total_34 =>
  (ss_next [true, true, true, false, false] rfl fun δ A v e => hN_20 _ δ A v e))))))) fun st_7 =>
  (ss_one (ss_ret1 (we hw) (se_var (i := 2) rfl) (fun a A' s h => hrt a A' s h)))))
  exact key _ _ ⟨Sub.refl A, [], (.val (.val (.emp (.emp (.emp .nil)))))⟩ h
theorem len_Thing_room {ds A Q E} (h : sp_Thing_room ds A Q E) : ds.length = 2 := by obtain ⟨_, _, _, _, e, _⟩ := h; rw [e]; rfl
theorem rd_Thing_room {ds A Q E} (h : sp_Thing_room ds A Q E) : t_Thing_room (fun c fs _ A => dropE E c fs A) { nx := fun _ A => dropQ Q .non A, rt := dropQ Q } (startD 6 ds) A := by
  obtain ⟨d0, d1, v_self, v_name, rfl, h0, h1, h⟩ := h
  have e0 : d0 = enc v_self := h0
  subst e0
  have e1 : d1 = enc v_name := h1
  subst e1
  have hw : WX A (fun c fs _ A' => dropE E c fs A') (fun c fs => E c fs A) := fun c fs δ A' s h => ⟨A, s, h⟩
  have hrt : ∀ (a : Rat) A', Sub A A' → Q (enc a) A → dropQ Q (enc a) A' := fun a A' s h => ⟨A, s, h⟩
  have key : SS A (fun c fs => E c fs A) { nx := fun _ A => dropQ Q .non A, rt := dropQ Q } (fun (r : Rat) => Q (enc r) A) [.val (enc v_self), .val (enc v_name), .emp, .emp, .emp, .emp] (t_Thing_room (fun c fs _ A => dropE E c fs A)) (F_Thing_room v_self v_name) :=
  (ss_asg (we hw) (se_meth1 hm_Thing_middle hsh_Thing_middle (se_var (i := 0) rfl).v (se_var (i := 1) rfl).v) fun middle =>
  (ss_for (we hw) (fun (st : Option (Rat × Rat)) => match st with | none => [.val (enc v_self), .val (enc v_name), .val (enc middle), .emp, .emp, .emp] | some p => [.val (enc v_self), .val (enc v_name), .val (enc middle), .emp, .val (enc p.1), .val (enc p.2)]) _ [true, true, true, false, false, false] rfl (sif_seq (fld_gaps (se_var (i := 0) rfl))) (fun x st => sg_name (i := 3)) (fun V' N B hN x st => by
    cases st with
    | none => exact (ss_if (we hw) (st_of (sv_bin (op_eqV false (by decide)) (se_proj (fun t : GapV => t.name) 0 (fun _ => ⟨_, rfl, rfl⟩) (se_var (i := 3) rfl)).v (se_var (i := 1) rfl).v))
        (ss_asg (we hw) (se_call2 hs_minus (se_var (i := 2) rfl).v (se_proj (fun t : GapV => t.low) 3 (fun _ => ⟨_, rfl, rfl⟩) (se_var (i := 3) rfl)).v) fun below =>
          (ss_one (ss_asg (we hw) (se_call2 hs_minus (se_proj (fun t : GapV => t.high) 4 (fun _ => ⟨_, rfl, rfl⟩) (se_var (i := 3) rfl)).v (se_var (i := 2) rfl).v) fun above =>
            (ss_next [true, true, true, false, true, true] rfl fun δ A v e => hN _ δ A v e))))
        (ss_next [true, true, true, false, true, true] rfl fun δ A v e => hN _ δ A v e))
    | some p => exact (ss_if (we hw) (st_of (sv_bin (op_eqV false (by decide)) (se_proj (fun t : GapV => t.name) 0 (fun _ => ⟨_, rfl, rfl⟩) (se_var (i := 3) rfl)).v (se_var (i := 1) rfl).v))
        (ss_asg (we hw) (se_call2 hs_minus (se_var (i := 2) rfl).v (se_proj (fun t : GapV => t.low) 3 (fun _ => ⟨_, rfl, rfl⟩) (se_var (i := 3) rfl)).v) fun below =>
          (ss_one (ss_asg (we hw) (se_call2 hs_minus (se_proj (fun t : GapV => t.high) 4 (fun _ => ⟨_, rfl, rfl⟩) (se_var (i := 3) rfl)).v (se_var (i := 2) rfl).v) fun above =>
            (ss_next [true, true, true, false, true, true] rfl fun δ A v e => hN _ δ A v e))))
        (ss_next [true, true, true, false, true, true] rfl fun δ A v e => hN _ δ A v e)))
  fun st => by
    cases st with
    | none => exact fun _ _ _ h => h.elim
    | some p => exact (ss_ifs (we hw) (st_of (se_call2 hs_under (se_var (i := 5) rfl).v (se_var (i := 4) rfl).v))
        (ss_ret1 (we hw) (se_var (i := 5) rfl) (fun a A' s h => hrt a A' s h))
        (ss_into (ss_ret1 (we hw) (se_var (i := 4) rfl) (fun a A' s h => hrt a A' s h))))))
  exact key _ _ ⟨Sub.refl A, [], (.val (.val (.emp (.emp (.emp (.emp .nil))))))⟩ h
theorem len__law_cell {ds A Q E} (h : sp__law_cell ds A Q E) : ds.length = 2 := by obtain ⟨_, _, _, _, e, _⟩ := h; rw [e]; rfl
theorem rd__law_cell {ds A Q E} (h : sp__law_cell ds A Q E) : t__law_cell (fun c fs _ A => dropE E c fs A) { nx := fun _ A => dropQ Q .non A, rt := dropQ Q } (startD 4 ds) A := by
  obtain ⟨d0, d1, v_script, v_k, rfl, h0, h1, h⟩ := h
  have e1 : d1 = enc v_k := h1
  subst e1
  have hw : WX A (fun c fs _ A' => dropE E c fs A') (fun c fs => E c fs A) := fun c fs δ A' s h => ⟨A, s, h⟩
  have hrt : ∀ (a : Int) A', Sub A A' → Q (enc a) A → dropQ Q (enc a) A' := fun a A' s h => ⟨A, s, h⟩
  have key : SS A (fun c fs => E c fs A) { nx := fun _ A => dropQ Q .non A, rt := dropQ Q } (fun (r : Int) => Q (enc r) A) [.val d0, .val (enc v_k), .emp, .emp] (t__law_cell (fun c fs _ A => dropE E c fs A)) (F__law_cell v_script v_k) :=
  (ss_asg (we hw) (se_int 0) fun total_1 =>
  (ss_for (we hw) (fun (st_3 : Int) => [.val d0, .val (enc v_k), .val (enc st_3), .emp]) _ [true, true, true, false] rfl (sif_rng3 (se_var (i := 1) rfl) (se_min (sv_cb cb_len (sv_var (i := 0) rfl h0)) (se_int 98)) (se_int 34)) (fun x_2 st_3 => (sg_name (i := 3))) (fun V' N B hN_11 x_2 st_3 =>
  (ss_one (ss_asg (we hw) (se_bin op_addI (se_var (i := 2) rfl) (se_bin op_mulI (se_ix (sv_var (i := 0) rfl h0) (se_var (i := 3) rfl)) (se_bin op_addI (se_int 1) (se_var (i := 3) rfl)))) fun total_20 =>
  (ss_next [true, true, true, false] rfl fun δ A v e => hN_11 _ δ A v e)))) fun st_3 =>
  (ss_one (ss_ret1 (we hw) (se_var (i := 2) rfl) (fun a A' s h => hrt a A' s h)))))
  exact key _ _ ⟨Sub.refl A, [], (.val (.val (.emp (.emp .nil))))⟩ h
theorem len__law_signed {ds A Q E} (h : sp__law_signed ds A Q E) : ds.length = 2 := by obtain ⟨_, _, _, _, e, _⟩ := h; rw [e]; rfl
theorem rd__law_signed {ds A Q E} (h : sp__law_signed ds A Q E) : t__law_signed (fun c fs _ A => dropE E c fs A) { nx := fun _ A => dropQ Q .non A, rt := dropQ Q } (startD 2 ds) A := by
  obtain ⟨d0, d1, v_cell_here, v_most, rfl, h0, h1, h⟩ := h
  have e0 : d0 = enc v_cell_here := h0
  subst e0
  have e1 : d1 = enc v_most := h1
  subst e1
  have hw : WX A (fun c fs _ A' => dropE E c fs A') (fun c fs => E c fs A) := fun c fs δ A' s h => ⟨A, s, h⟩
  have hrt : ∀ (a : Int) A', Sub A A' → Q (enc a) A → dropQ Q (enc a) A' := fun a A' s h => ⟨A, s, h⟩
  have key : SS A (fun c fs => E c fs A) { nx := fun _ A => dropQ Q .non A, rt := dropQ Q } (fun (r : Int) => Q (enc r) A) [.val (enc v_cell_here), .val (enc v_most)] (t__law_signed (fun c fs _ A => dropE E c fs A)) (F__law_signed v_cell_here v_most) :=
  (ss_ifs (we hw) (st_of (se_bin op_cmpI (se_var (i := 0) rfl) (se_int 0)))
  (ss_one (ss_ret1 (we hw) (se_bin op_subI (se_int 0) (se_bin op_modI (se_bin op_subI (se_int 0) (se_var (i := 0) rfl)) (se_var (i := 1) rfl))) (fun a A' s h => hrt a A' s h)))
  (ss_into (ss_one (ss_ret1 (we hw) (se_bin op_modI (se_var (i := 0) rfl) (se_var (i := 1) rfl)) (fun a A' s h => hrt a A' s h)))))
  exact key _ _ ⟨Sub.refl A, [], (.val (.val .nil))⟩ h
theorem len__law_low {ds A Q E} (h : sp__law_low ds A Q E) : ds.length = 2 := by obtain ⟨_, _, _, _, e, _⟩ := h; rw [e]; rfl
theorem rd__law_low {ds A Q E} (h : sp__law_low ds A Q E) : t__law_low (fun c fs _ A => dropE E c fs A) { nx := fun _ A => dropQ Q .non A, rt := dropQ Q } (startD 5 ds) A := by
  obtain ⟨d0, d1, v_top, v_bottom, rfl, h0, h1, h⟩ := h
  have e0 : d0 = enc v_top := h0
  subst e0
  have e1 : d1 = enc v_bottom := h1
  subst e1
  have hw : WX A (fun c fs _ A' => dropE E c fs A') (fun c fs => E c fs A) := fun c fs δ A' s h => ⟨A, s, h⟩
  have hrt : ∀ (a : Rat) A', Sub A A' → Q (enc a) A → dropQ Q (enc a) A' := fun a A' s h => ⟨A, s, h⟩
  have key : SS A (fun c fs => E c fs A) { nx := fun _ A => dropQ Q .non A, rt := dropQ Q } (fun (r : Rat) => Q (enc r) A) [.val (enc v_top), .val (enc v_bottom), .emp, .emp, .emp] (t__law_low (fun c fs _ A => dropE E c fs A)) (F__law_low v_top v_bottom) :=
  (ss_asg (we hw) (se_var (i := 0) rfl) fun one_1 =>
  (ss_asg (we hw) (se_var (i := 1) rfl) fun other_2 =>
  (ss_norm (J := [.val (enc v_top), .val (enc v_bottom), .val (enc one_1), .val (enc other_2), .emp]) rfl
  (ss_while hw (fun (st_3 : Int × Int) => [.val (enc v_top), .val (enc v_bottom), .val (enc st_3.1), .val (enc st_3.2), .emp]) [true, true, true, true, false] rfl hrt (fun st_3 => (st_of (se_bin op_neI (se_var (i := 3) rfl) (se_int 0)))) (fun V' N B hN_9 hB_10 hR_11 st_3 =>
  (ss_asg (we hw) (se_bin op_modI (se_var (i := 2) rfl) (se_var (i := 3) rfl)) fun rest_14 =>
  (ss_asg (we hw) (se_var (i := 3) rfl) fun one_15 =>
  (ss_norm (J := [.val (enc v_top), .val (enc v_bottom), .val (enc one_15), .val (enc st_3.2), .val (enc rest_14)]) rfl
  (ss_one (ss_asg (we hw) (se_var (i := 4) rfl) fun other_16 =>
  (ss_next [true, true, true, true, false] rfl fun δ A v e => hN_9 _ δ A v e))))))) fun st_3 =>
  (ss_one (ss_ret1 (we hw) (se_toRat (se_tup2 (se_bin op_divI (se_var (i := 0) rfl) (se_cb cb_abs (se_var (i := 2) rfl))) (se_bin op_divI (se_var (i := 1) rfl) (se_cb cb_abs (se_var (i := 2) rfl))))) (fun a A' s h => hrt a A' s h)))))))
  exact key _ _ ⟨Sub.refl A, [], (.val (.val (.emp (.emp (.emp .nil)))))⟩ h
theorem len__law_plus {ds A Q E} (h : sp__law_plus ds A Q E) : ds.length = 3 := by obtain ⟨_, _, _, _, _, _, e, _⟩ := h; rw [e]; rfl
theorem rd__law_plus {ds A Q E} (h : sp__law_plus ds A Q E) : t__law_plus (fun c fs _ A => dropE E c fs A) { nx := fun _ A => dropQ Q .non A, rt := dropQ Q } (startD 3 ds) A := by
  obtain ⟨d0, d1, d2, v_one, v_other, v_sign, rfl, h0, h1, h2, h⟩ := h
  have e0 : d0 = enc v_one := h0
  subst e0
  have e1 : d1 = enc v_other := h1
  subst e1
  have e2 : d2 = enc v_sign := h2
  subst e2
  have hw : WX A (fun c fs _ A' => dropE E c fs A') (fun c fs => E c fs A) := fun c fs δ A' s h => ⟨A, s, h⟩
  have hrt : ∀ (a : Rat) A', Sub A A' → Q (enc a) A → dropQ Q (enc a) A' := fun a A' s h => ⟨A, s, h⟩
  have key : SS A (fun c fs => E c fs A) { nx := fun _ A => dropQ Q .non A, rt := dropQ Q } (fun (r : Rat) => Q (enc r) A) [.val (enc v_one), .val (enc v_other), .val (enc v_sign)] (t__law_plus (fun c fs _ A => dropE E c fs A)) (F__law_plus v_one v_other v_sign) :=
  (ss_one (ss_ret1 (we hw) (se_call2 hs__law_low ((se_bin op_addI (se_bin op_mulI (se_proj (fun q : Rat => q.num) 0 ix_num (se_var (i := 0) rfl)) (se_proj (fun q : Rat => (q.den : Int)) 1 ix_den (se_var (i := 1) rfl))) (se_bin op_mulI (se_bin op_mulI (se_var (i := 2) rfl) (se_proj (fun q : Rat => q.num) 0 ix_num (se_var (i := 1) rfl))) (se_proj (fun q : Rat => (q.den : Int)) 1 ix_den (se_var (i := 0) rfl))))).v ((se_bin op_mulI (se_proj (fun q : Rat => (q.den : Int)) 1 ix_den (se_var (i := 0) rfl)) (se_proj (fun q : Rat => (q.den : Int)) 1 ix_den (se_var (i := 1) rfl)))).v) (fun a A' s h => hrt a A' s h)))
  exact key _ _ ⟨Sub.refl A, [], (.val (.val (.val .nil)))⟩ h
theorem len__law_name {ds A Q E} (h : sp__law_name ds A Q E) : ds.length = 3 := by obtain ⟨_, _, _, _, _, _, e, _⟩ := h; rw [e]; rfl
theorem rd__law_name {ds A Q E} (h : sp__law_name ds A Q E) : t__law_name (fun c fs _ A => dropE E c fs A) { nx := fun _ A => dropQ Q .non A, rt := dropQ Q } (startD 3 ds) A := by
  obtain ⟨d0, d1, d2, v_k, v_sign, v_style, rfl, h0, h1, h2, h⟩ := h
  have e0 : d0 = enc v_k := h0
  subst e0
  have e1 : d1 = enc v_sign := h1
  subst e1
  have e2 : d2 = enc v_style := h2
  subst e2
  have hw : WX A (fun c fs _ A' => dropE E c fs A') (fun c fs => E c fs A) := fun c fs δ A' s h => ⟨A, s, h⟩
  have hrt : ∀ (a : Str) A', Sub A A' → Q (enc a) A → dropQ Q (enc a) A' := fun a A' s h => ⟨A, s, h⟩
  have key : SS A (fun c fs => E c fs A) { nx := fun _ A => dropQ Q .non A, rt := dropQ Q } (fun (r : Str) => Q (enc r) A) [.val (enc v_k), .val (enc v_sign), .val (enc v_style)] (t__law_name (fun c fs _ A => dropE E c fs A)) (F__law_name v_k v_sign v_style) :=
  (ss_one (ss_ret1 (we hw) (se_bin op_addS (se_bin op_addS (se_bin op_mulS (se_var (i := 1) rfl) (se_var (i := 2) rfl)) (se_bin op_ixS (se_str "abcdefghijklmnopq") (se_var (i := 0) rfl))) (se_bin op_mulS (se_var (i := 1) rfl) (se_bin op_subI (se_int 3) (se_var (i := 2) rfl)))) (fun a A' s h => hrt a A' s h)))
  exact key _ _ ⟨Sub.refl A, [], (.val (.val (.val .nil)))⟩ h
theorem len__law_parts {ds A Q E} (h : sp__law_parts ds A Q E) : ds.length = 2 := by obtain ⟨_, _, _, _, e, _⟩ := h; rw [e]; rfl
theorem rd__law_parts {ds A Q E} (h : sp__law_parts ds A Q E) : t__law_parts (fun c fs _ A => dropE E c fs A) { nx := fun _ A => dropQ Q .non A, rt := dropQ Q } (startD 13 ds) A := by
  obtain ⟨d0, d1, v_script, v_style, rfl, h0, h1, h⟩ := h
  have e1 : d1 = enc v_style := h1
  subst e1
  have hw : WX A (fun c fs _ A' => dropE E c fs A') (fun c fs => E c fs A) := fun c fs δ A' s h => ⟨A, s, h⟩
  have hrt : ∀ (a : ((List PartV) × (Dic Str (Str × Rat)))) A', Sub A A' → Q (enc a) A → dropQ Q (enc a) A' := fun a A' s h => ⟨A, s, h⟩
  have key : SS A (fun c fs => E c fs A) { nx := fun _ A => dropQ Q .non A, rt := dropQ Q } (fun (r : ((List PartV) × (Dic Str (Str × Rat)))) => Q (enc r) A) [.val d0, .val (enc v_style), .emp, .emp, .emp, .emp, .emp, .emp, .emp, .emp, .emp, .emp, .emp] (t__law_parts (fun c fs _ A => dropE E c fs A)) (F__law_parts v_script v_style) :=
  (ss_asgO (we hw) (so_lst ses_nil) fun parts_here_1 =>
  (ss_asgO (we hw) so_dic0 fun spots_2 =>
  (ss_norm (J := [.val d0, .val (enc v_style), .own (oL parts_here_1), .own (oD spots_2), .emp, .emp, .emp, .emp, .emp, .emp, .emp, .emp, .emp]) rfl
  (ss_for (we hw) (fun (st_10 : (List PartV) × (Dic Str (Str × Rat))) => [.val d0, .val (enc v_style), .own (oL st_10.1), .own (oD st_10.2), .emp, .emp, .emp, .emp, .emp, .emp, .emp, .emp, .emp]) _ [true, true, true, true, false, false, false, false, false, false, false, false, false] rfl (sif_rng1 (se_bin op_addI (se_int 1) (se_modR 8 (by decide) (se_call2 hs__law_cell (sv_var (i := 0) rfl h0) ((se_int 0)).v)))) (fun x_9 st_10 => (sg_name (i := 4))) (fun V' N B hN_150 x_9 st_10 =>
  (ss_asg (we hw) (se_call2 hs__law_cell (sv_var (i := 0) rfl h0) ((se_bin op_addI (se_int 2) (se_mulL 2 (by decide) (se_var (i := 4) rfl)))).v) fun cell_here_159 =>
  (ss_norm (J := [.val d0, .val (enc v_style), .own (oL st_10.1), .own (oD st_10.2), .val (enc x_9), .val (enc cell_here_159), .emp, .emp, .emp, .emp, .emp, .emp, .emp]) rfl
  (ss_asg (we hw) (se_divR 37 (by decide) (se_modR 2147483647 (by decide) (se_mulR 48271 (by decide) (se_var (i := 5) rfl)))) fun mixed_166 =>
  (ss_join (fun (st_185 : (Dic Str (Str × Rat)) × Str) => [.val d0, .val (enc v_style), .own (oL st_10.1), .own (oD st_185.1), .val (enc x_9), .val (enc cell_here_159), .val (enc mixed_166), .val (enc st_185.2), .emp, .emp, .emp, .emp, .emp]) (fun V' N hN_186 => ss_if (we hw) (st_or (st_of (se_bin op_eqI (sv_cb cb_lenD (sv_ownD (i := 3) rfl)) (se_int 0))) (st_of (se_bin op_eqI (se_modR 6 (by decide) (se_divR 4096 (by decide) (se_var (i := 6) rfl))) (se_int 1))))
  (ss_asg (we hw) (se_call3 hs__law_name ((sv_cb cb_lenD (sv_ownD (i := 3) rfl))).v ((se_str "f")).v ((se_var (i := 1) rfl)).v) fun here_190 =>
  (ss_norm (J := [.val d0, .val (enc v_style), .own (oL st_10.1), .own (oD st_10.2), .val (enc x_9), .val (enc cell_here_159), .val (enc mixed_166), .val (enc here_190), .emp, .emp, .emp, .emp, .emp]) rfl
  (ss_one (ss_setD (we hw) rfl (se_tup2 (se_var (i := 7) rfl) (se_toRat (se_tup2 (se_int 0) (se_int 1)))) (se_var (i := 7) rfl) fun spots_191 =>
  (ss_next [true, true, true, true, true, true, true, true, false, false, false, false, false] rfl fun δ A v e => hN_186 _ δ A v e)))))
  (ss_one (ss_asg (we hw) (se_ix ((sv_cb cb_sortedD (sv_ownD (i := 3) rfl))).v (se_bin op_modI (se_var (i := 6) rfl) (sv_cb cb_lenD (sv_ownD (i := 3) rfl)))) fun here_200 =>
  (ss_next [true, true, true, true, true, true, true, true, false, false, false, false, false] rfl fun δ A v e => hN_186 _ δ A v e)))) fun st_185 =>
  (ss_asg (we hw) (se_call3 hs__law_name ((sv_cb cb_lenD (sv_ownD (i := 3) rfl))).v ((se_str "f")).v ((se_var (i := 1) rfl)).v) fun there_204 =>
  (ss_asg (we hw) (se_call2 hs__law_cell (sv_var (i := 0) rfl h0) ((se_bin op_addI (se_int 3) (se_mulL 2 (by decide) (se_var (i := 4) rfl)))).v) fun other_211 =>
  (ss_norm (J := [.val d0, .val (enc v_style), .own (oL st_10.1), .own (oD st_185.1), .val (enc x_9), .val (enc cell_here_159), .val (enc mixed_166), .val (enc st_185.2), .val (enc there_204), .val (enc other_211), .emp, .emp, .emp]) rfl
  (ss_asg (we hw) (se_call2 hs__law_low ((se_call2 hs__law_signed ((se_var (i := 9) rfl)).v ((se_ix ((se_lst (ses_cons (se_int 9) (ses_cons (se_powN 10 40 40 rfl (by decide)) ses_nil)))).v (se_modR 2 (by decide) (se_divR 64 (by decide) (se_var (i := 6) rfl))))).v)).v ((se_bin op_addI (se_int 1) (se_modR 12 (by decide) (se_divR 128 (by decide) (se_var (i := 6) rfl))))).v) fun size_230 =>
  (ss_asg (we hw) (se_call2 hs__law_low ((se_modR 13 (by decide) (se_var (i := 9) rfl))).v ((se_bin op_addI (se_int 1) (se_modR 6 (by decide) (se_divR 16 (by decide) (se_var (i := 6) rfl))))).v) fun most_241 =>
  (ss_norm (J := [.val d0, .val (enc v_style), .own (oL st_10.1), .own (oD st_185.1), .val (enc x_9), .val (enc cell_here_159), .val (enc mixed_166), .val (enc st_185.2), .val (enc there_204), .val (enc other_211), .val (enc size_230), .val (enc most_241), .emp]) rfl
  (ss_asg (we hw) (se_ix ((se_lst (ses_cons (se_tup2 (se_var (i := 7) rfl) (se_var (i := 8) rfl)) (ses_cons (se_tup2 (se_var (i := 8) rfl) (se_var (i := 7) rfl)) ses_nil)))).v (se_modR 2 (by decide) (se_divR 32 (by decide) (se_var (i := 6) rfl)))) fun ends_258 =>
  (ss_app (we hw) rfl (se_co (fun t : (T6 Str Str Str Rat Rat Int) => ({ name := t.a, start := t.b, fin := t.c, size := t.d, most := t.e, weight := t.f } : PartV)) (fun _ => rfl) (se_tup6 (se_call3 hs__law_name ((se_var (i := 4) rfl)).v ((se_str "p")).v ((se_var (i := 1) rfl)).v) (se_proj (fun t : (Str × Str) => t.1) 0 (fun _ => ⟨_, rfl, rfl⟩) (se_var (i := 12) rfl)) (se_proj (fun t : (Str × Str) => t.2) 1 (fun _ => ⟨_, rfl, rfl⟩) (se_var (i := 12) rfl)) (se_var (i := 10) rfl) (se_var (i := 11) rfl) (se_bin op_addI (se_int 1) (se_modR 4 (by decide) (se_divR 8 (by decide) (se_var (i := 6) rfl)))))) fun parts_here_259 =>
  (ss_norm (J := [.val d0, .val (enc v_style), .own (oL parts_here_259), .own (oD st_185.1), .val (enc x_9), .val (enc cell_here_159), .val (enc mixed_166), .val (enc st_185.2), .val (enc there_204), .val (enc other_211), .val (enc size_230), .val (enc most_241), .val (enc ends_258)]) rfl
  (ss_one (ss_setD (we hw) rfl (se_tup2 (se_proj (fun t : (Str × Rat) => t.1) 0 (fun _ => ⟨_, rfl, rfl⟩) (se_get (sv_ownD (i := 3) rfl) (se_var (i := 7) rfl))) (se_call3 hs__law_plus ((se_proj (fun t : (Str × Rat) => t.2) 1 (fun _ => ⟨_, rfl, rfl⟩) (se_get (sv_ownD (i := 3) rfl) (se_var (i := 7) rfl)))).v ((se_var (i := 10) rfl)).v ((se_bin op_subI (se_int 1) (se_mulL 2 (by decide) (se_modR 2 (by decide) (se_divR 32 (by decide) (se_var (i := 6) rfl)))))).v)) (se_var (i := 8) rfl) fun spots_276 =>
  (ss_next [true, true, true, true, false, false, false, false, false, false, false, false, false] rfl fun δ A v e => hN_150 _ δ A v e))))))))))))))))) fun st_10 =>
  (ss_fz (i := 2) rfl
  (ss_fzD (i := 3) rfl
  (ss_norm (J := [.val d0, .val (enc v_style), .val (enc st_10.1), .val (enc st_10.2), .emp, .emp, .emp, .emp, .emp, .emp, .emp, .emp, .emp]) rfl
  (ss_one (ss_ret1 (we hw) (se_tup2 (se_var (i := 2) rfl) (se_var (i := 3) rfl)) (fun a A' s h => hrt a A' s h))))))))))
  exact key _ _ ⟨Sub.refl A, [], (.val (.val (.emp (.emp (.emp (.emp (.emp (.emp (.emp (.emp (.emp (.emp (.emp .nil)))))))))))))⟩ h
theorem len__law_listed {ds A Q E} (h : sp__law_listed ds A Q E) : ds.length = 2 := by obtain ⟨_, _, _, _, e, _⟩ := h; rw [e]; rfl
theorem rd__law_listed {ds A Q E} (h : sp__law_listed ds A Q E) : t__law_listed (fun c fs _ A => dropE E c fs A) { nx := fun _ A => dropQ Q .non A, rt := dropQ Q } (startD 4 ds) A := by
  obtain ⟨d0, d1, v_script, v_parts_here, rfl, h0, h1, h⟩ := h
  have hw : WX A (fun c fs _ A' => dropE E c fs A') (fun c fs => E c fs A) := fun c fs δ A' s h => ⟨A, s, h⟩
  have hrt : ∀ (a : (List PartV)) A', Sub A A' → Q (enc a) A → dropQ Q (enc a) A' := fun a A' s h => ⟨A, s, h⟩
  have key : SS A (fun c fs => E c fs A) { nx := fun _ A => dropQ Q .non A, rt := dropQ Q } (fun (r : (List PartV)) => Q (enc r) A) [.val d0, .val d1, .emp, .emp] (t__law_listed (fun c fs _ A => dropE E c fs A)) (F__law_listed v_script v_parts_here) :=
  (ss_asgO (we hw) (so_lst ses_nil) fun kept_1 =>
  (ss_for (we hw) (fun (st_3 : (List PartV)) => [.val d0, .val d1, .own (oL st_3), .emp]) _ [true, true, true, false] rfl (sif_rng1 (sv_cb cb_len (sv_var (i := 1) rfl h1))) (fun x_2 st_3 => (sg_name (i := 3))) (fun V' N B hN_23 x_2 st_3 =>
  (ss_one (ss_ins (we hw) rfl (se_bin op_modI (se_divR 37 (by decide) (se_modR 2147483587 (by decide) (se_mulR 16807 (by decide) (se_call2 hs__law_cell (sv_var (i := 0) rfl h0) ((se_bin op_addI (se_int 2) (se_mulL 2 (by decide) (se_var (i := 3) rfl)))).v)))) (se_bin op_addI (se_int 1) (se_var (i := 3) rfl))) (se_ix (sv_var (i := 1) rfl h1) (se_var (i := 3) rfl)) fun kept_26 =>
  (ss_next [true, true, true, false] rfl fun δ A v e => hN_23 _ δ A v e)))) fun st_3 =>
  (ss_fz (i := 2) rfl
  (ss_one (ss_ret1 (we hw) (se_var (i := 2) rfl) (fun a A' s h => hrt a A' s h))))))
  exact key _ _ ⟨Sub.refl A, [], (.val (.val (.emp (.emp .nil))))⟩ h
theorem len__law_gaps {ds A Q E} (h : sp__law_gaps ds A Q E) : ds.length = 3 := by obtain ⟨_, _, _, _, _, _, e, _⟩ := h; rw [e]; rfl
theorem rd__law_gaps {ds A Q E} (h : sp__law_gaps ds A Q E) : t__law_gaps (fun c fs _ A => dropE E c fs A) { nx := fun _ A => dropQ Q .non A, rt := dropQ Q } (startD 16 ds) A := by
  obtain ⟨d0, d1, d2, v_script, v_spots, v_style, rfl, h0, h1, h2, h⟩ := h
  have e2 : d2 = enc v_style := h2
  subst e2
  have hw : WX A (fun c fs _ A' => dropE E c fs A') (fun c fs => E c fs A) := fun c fs δ A' s h => ⟨A, s, h⟩
  have hrt : ∀ (a : (List GapV)) A', Sub A A' → Q (enc a) A → dropQ Q (enc a) A' := fun a A' s h => ⟨A, s, h⟩
  have key : SS A (fun c fs => E c fs A) { nx := fun _ A => dropQ Q .non A, rt := dropQ Q } (fun (r : (List GapV)) => Q (enc r) A) [.val d0, .val d1, .val (enc v_style), .emp, .emp, .emp, .emp, .emp, .emp, .emp, .emp, .emp, .emp, .emp, .emp, .emp] (t__law_gaps (fun c fs _ A => dropE E c fs A)) (F__law_gaps v_script v_spots v_style) :=
  (ss_asgO (we hw) (so_lst ses_nil) fun gaps_here_1 =>
  (ss_for (we hw) (fun (st_7 : (List GapV)) => [.val d0, .val d1, .val (enc v_style), .own (oL st_7), .emp, .emp, .emp, .emp, .emp, .emp, .emp, .emp, .emp, .emp, .emp, .emp]) _ [true, true, true, true, false, false, false, false, false, false, false, false, false, false, false, false] rfl (sif_rng1 (se_modR 9 (by decide) (se_call2 hs__law_cell (sv_var (i := 0) rfl h0) ((se_int 1)).v))) (fun x_6 st_7 => (sg_name (i := 4))) (fun V' N B hN_97 x_6 st_7 =>
  (ss_asg (we hw) (se_call2 hs__law_cell (sv_var (i := 0) rfl h0) ((se_bin op_addI (se_int 18) (se_mulL 2 (by decide) (se_var (i := 4) rfl)))).v) fun cell_here_106 =>
  (ss_norm (J := [.val d0, .val d1, .val (enc v_style), .own (oL st_7), .val (enc x_6), .val (enc cell_here_106), .emp, .emp, .emp, .emp, .emp, .emp, .emp, .emp, .emp, .emp]) rfl
  (ss_asg (we hw) (se_divR 37 (by decide) (se_modR 2147483629 (by decide) (se_mulR 39373 (by decide) (se_var (i := 5) rfl)))) fun mixed_113 =>
  (ss_asg (we hw) (sv_cb cb_sortedD (sv_var (i := 1) rfl h1)) fun faces_114 =>
  (ss_norm (J := [.val d0, .val d1, .val (enc v_style), .own (oL st_7), .val (enc x_6), .val (enc cell_here_106), .val (enc mixed_113), .val (enc faces_114), .emp, .emp, .emp, .emp, .emp, .emp, .emp, .emp]) rfl
  (ss_asg (we hw) (se_ix ((se_var (i := 7) rfl)).v (se_bin op_modI (se_var (i := 6) rfl) (sv_cb cb_len ((se_var (i := 7) rfl)).v))) fun one_117 =>
  (ss_asg (we hw) (se_lc _ (sic_v ((se_var (i := 7) rfl)).v) (fun x_118 => (sg_name (i := 10))) (fun x_118 => (st_and (st_of (sv_bin (op_eqV true (by decide)) ((se_var (i := 10) rfl)).v ((se_var (i := 8) rfl)).v)) (st_of (sv_bin (op_eqV false (by decide)) ((se_proj (fun t : (Str × Rat) => t.1) 0 (fun _ => ⟨_, rfl, rfl⟩) (se_get (sv_var (i := 1) rfl h1) (se_var (i := 10) rfl)))).v ((se_proj (fun t : (Str × Rat) => t.1) 0 (fun _ => ⟨_, rfl, rfl⟩) (se_get (sv_var (i := 1) rfl h1) (se_var (i := 8) rfl)))).v)))) (fun x_118 => (se_var (i := 10) rfl))) fun same_120 =>
  (ss_norm (J := [.val d0, .val d1, .val (enc v_style), .own (oL st_7), .val (enc x_6), .val (enc cell_here_106), .val (enc mixed_113), .val (enc faces_114), .val (enc one_117), .val (enc same_120), .emp, .emp, .emp, .emp, .emp, .emp]) rfl
  (ss_asg (we hw) (se_ix ((se_var (i := 9) rfl)).v (se_bin op_modI (se_divR 64 (by decide) (se_var (i := 6) rfl)) (sv_cb cb_len ((se_var (i := 9) rfl)).v))) fun two_125 =>
  (ss_asg (we hw) (se_call3 hs__law_plus ((se_proj (fun t : (Str × Rat) => t.2) 1 (fun _ => ⟨_, rfl, rfl⟩) (se_get (sv_var (i := 1) rfl h1) (se_var (i := 11) rfl)))).v ((se_proj (fun t : (Str × Rat) => t.2) 1 (fun _ => ⟨_, rfl, rfl⟩) (se_get (sv_var (i := 1) rfl h1) (se_var (i := 8) rfl)))).v ((se_neg (se_int 1))).v) fun middle_129 =>
  (ss_norm (J := [.val d0, .val d1, .val (enc v_style), .own (oL st_7), .val (enc x_6), .val (enc cell_here_106), .val (enc mixed_113), .val (enc faces_114), .val (enc one_117), .val (enc same_120), .emp, .val (enc two_125), .val (enc middle_129), .emp, .emp, .emp]) rfl
  (ss_asg (we hw) (se_call2 hs__law_cell (sv_var (i := 0) rfl h0) ((se_bin op_addI (se_int 19) (se_mulL 2 (by decide) (se_var (i := 4) rfl)))).v) fun other_136 =>
  (ss_asg (we hw) (se_call3 hs__law_plus ((se_var (i := 12) rfl)).v ((se_call2 hs__law_low ((se_modR 23 (by decide) (se_var (i := 13) rfl))).v ((se_bin op_addI (se_int 1) (se_modR 5 (by decide) (se_divR 1024 (by decide) (se_var (i := 6) rfl))))).v)).v ((se_neg (se_int 1))).v) fun low_here_150 =>
  (ss_norm (J := [.val d0, .val d1, .val (enc v_style), .own (oL st_7), .val (enc x_6), .val (enc cell_here_106), .val (enc mixed_113), .val (enc faces_114), .val (enc one_117), .val (enc same_120), .emp, .val (enc two_125), .val (enc middle_129), .val (enc other_136), .val (enc low_here_150), .emp]) rfl
  (ss_asg (we hw) (se_call3 hs__law_plus ((se_var (i := 12) rfl)).v ((se_call2 hs__law_low ((se_modR 23 (by decide) (se_divR 23 (by decide) (se_var (i := 13) rfl)))).v ((se_bin op_addI (se_int 1) (se_modR 5 (by decide) (se_divR 8192 (by decide) (se_var (i := 6) rfl))))).v)).v ((se_int 1)).v) fun high_166 =>
  (ss_one (ss_app (we hw) rfl (se_co (fun t : (T5 Str Str Str Rat Rat) => ({ name := t.a, one := t.b, other := t.c, low := t.d, high := t.e } : GapV)) (fun _ => rfl) (se_tup5 (se_call3 hs__law_name ((se_var (i := 4) rfl)).v ((se_ix ((se_lst (ses_cons (se_str "g") (ses_cons (se_str "p") ses_nil)))).v (se_modR 2 (by decide) (se_divR 32 (by decide) (se_var (i := 6) rfl))))).v ((se_modR 4 (by decide) (se_bin op_addI (se_var (i := 2) rfl) (se_var (i := 4) rfl)))).v) (se_var (i := 8) rfl) (se_var (i := 11) rfl) (se_var (i := 14) rfl) (se_var (i := 15) rfl))) fun gaps_here_167 =>
  (ss_next [true, true, true, true, false, false, false, false, false, false, false, false, false, false, false, false] rfl fun δ A v e => hN_97 _ δ A v e))))))))))))))))))) fun st_7 =>
  (ss_fz (i := 3) rfl
  (ss_one (ss_ret1 (we hw) (se_var (i := 3) rfl) (fun a A' s h => hrt a A' s h))))))
  exact key _ _ ⟨Sub.refl A, [], (.val (.val (.val (.emp (.emp (.emp (.emp (.emp (.emp (.emp (.emp (.emp (.emp (.emp (.emp (.emp .nil))))))))))))))))⟩ h
theorem len__law_unlike {ds A Q E} (h : sp__law_unlike ds A Q E) : ds.length = 1 := by obtain ⟨_, _, e, _⟩ := h; rw [e]; rfl
theorem rd__law_unlike {ds A Q E} (h : sp__law_unlike ds A Q E) : t__law_unlike (fun c fs _ A => dropE E c fs A) { nx := fun _ A => dropQ Q .non A, rt := dropQ Q } (startD 4 ds) A := by
  obtain ⟨d0, v_gaps_here, rfl, h0, h⟩ := h
  have hw : WX A (fun c fs _ A' => dropE E c fs A') (fun c fs => E c fs A) := fun c fs δ A' s h => ⟨A, s, h⟩
  have hrt : ∀ (a : (List GapV)) A', Sub A A' → Q (enc a) A → dropQ Q (enc a) A' := fun a A' s h => ⟨A, s, h⟩
  have key : SS A (fun c fs => E c fs A) { nx := fun _ A => dropQ Q .non A, rt := dropQ Q } (fun (r : (List GapV)) => Q (enc r) A) [.val d0, .emp, .emp, .emp] (t__law_unlike (fun c fs _ A => dropE E c fs A)) (F__law_unlike v_gaps_here) :=
  (ss_asgO (we hw) so_dic0 fun names_1 =>
  (ss_asgO (we hw) (so_lst ses_nil) fun kept_2 =>
  (ss_norm (J := [.val d0, .own (oD names_1), .own (oL kept_2), .emp]) rfl
  (ss_for (we hw) (fun (st_4 : (Dic Str Bool) × (List GapV)) => [.val d0, .own (oD st_4.1), .own (oL st_4.2), .emp]) _ [true, true, true, false] rfl (sif_var (i := 0) rfl h0) (fun x_3 st_4 => (sg_name (i := 3))) (fun V' N B hN_14 x_3 st_4 =>
  (ss_join (fun (st_19 : (List GapV)) => [.val d0, .own (oD st_4.1), .own (oL st_19), .val (enc x_3)]) (fun V' N hN_20 => ss_if (we hw) (st_of (se_inD1 (se_proj (fun t : GapV => t.name) 0 (fun _ => ⟨_, rfl, rfl⟩) (se_var (i := 3) rfl)) (sv_ownD (i := 1) rfl)))
  (ss_one (ss_app (we hw) rfl (se_var (i := 3) rfl) fun kept_21 =>
  (ss_next [true, true, true, true] rfl fun δ A v e => hN_20 _ δ A v e)))
  (ss_next [true, true, true, true] rfl fun δ A v e => hN_20 _ δ A v e)) fun st_19 =>
  (ss_one (ss_setD (we hw) rfl (se_bl true) (se_proj (fun t : GapV => t.name) 0 (fun _ => ⟨_, rfl, rfl⟩) (se_var (i := 3) rfl)) fun names_23 =>
  (ss_next [true, true, true, false] rfl fun δ A v e => hN_14 _ δ A v e))))) fun st_4 =>
  (ss_fz (i := 2) rfl
  (ss_one (ss_ret1 (we hw) (se_var (i := 2) rfl) (fun a A' s h => hrt a A' s h))))))))
  exact key _ _ ⟨Sub.refl A, [], (.val (.emp (.emp (.emp .nil))))⟩ h
theorem len__law_walked {ds A Q E} (h : sp__law_walked ds A Q E) : ds.length = 3 := by obtain ⟨_, _, _, _, _, _, e, _⟩ := h; rw [e]; rfl
theorem rd__law_walked {ds A Q E} (h : sp__law_walked ds A Q E) : t__law_walked (fun c fs _ A => dropE E c fs A) { nx := fun _ A => dropQ Q .non A, rt := dropQ Q } (startD 10 ds) A := by
  obtain ⟨d0, d1, d2, v_found, v_gap, v_parts_here, rfl, h0, h1, h2, h⟩ := h
  have e1 : d1 = enc v_gap := h1
  subst e1
  have hw : WX A (fun c fs _ A' => dropE E c fs A') (fun c fs => E c fs A) := fun c fs δ A' s h => ⟨A, s, h⟩
  have hrt : ∀ (a : Bool) A', Sub A A' → Q (enc a) A → dropQ Q (enc a) A' := fun a A' s h => ⟨A, s, h⟩
  have key : SS A (fun c fs => E c fs A) { nx := fun _ A => dropQ Q .non A, rt := dropQ Q } (fun (r : Bool) => Q (enc r) A) [.val d0, .val (enc v_gap), .val d2, .emp, .emp, .emp, .emp, .emp, .emp, .emp] (t__law_walked (fun c fs _ A => dropE E c fs A)) (F__law_walked v_found v_gap v_parts_here) :=
  (ss_ifs (we hw) (st_or (st_not (st_of (sv_isi true (by decide +kernel) (sv_var (i := 0) rfl h0)))) (st_of (se_bin op_eqI (sv_cb cb_len (sv_var (i := 0) rfl h0)) (se_int 0))))
  (ss_one (ss_ret1 (we hw) (se_bl false) (fun a A' s h => hrt a A' s h)))
  (ss_into (ss_asgO (we hw) so_dic0 fun ends_1 =>
  (ss_for (we hw) (fun (st_3 : (Dic Str (Str × Str))) => [.val d0, .val (enc v_gap), .val d2, .own (oD st_3), .emp, .emp, .emp, .emp, .emp, .emp]) _ [true, true, true, true, false, false, false, false, false, false] rfl (sif_var (i := 2) rfl h2) (fun x_2 st_3 => (sg_name (i := 4))) (fun V' N B hN_9 x_2 st_3 =>
  (ss_one (ss_setD (we hw) rfl (se_tup2 (se_proj (fun t : PartV => t.start) 1 (fun _ => ⟨_, rfl, rfl⟩) (se_var (i := 4) rfl)) (se_proj (fun t : PartV => t.fin) 2 (fun _ => ⟨_, rfl, rfl⟩) (se_var (i := 4) rfl))) (se_proj (fun t : PartV => t.name) 0 (fun _ => ⟨_, rfl, rfl⟩) (se_var (i := 4) rfl)) fun ends_12 =>
  (ss_next [true, true, true, true, false, false, false, false, false, false] rfl fun δ A v e => hN_9 _ δ A v e)))) fun st_3 =>
  (ss_fzD (i := 3) rfl
  (ss_asg (we hw) (se_proj (fun t : GapV => t.one) 1 (fun _ => ⟨_, rfl, rfl⟩) (se_var (i := 1) rfl)) fun here_18 =>
  (ss_norm (J := [.val d0, .val (enc v_gap), .val d2, .val (enc st_3), .emp, .val (enc here_18), .emp, .emp, .emp, .emp]) rfl
  (ss_asgO (we hw) (so_lst ses_nil) fun seen_19 =>
  (ss_forF (we hw) (fun (st_21 : Str × (List Str)) => [.val d0, .val (enc v_gap), .val d2, .val (enc st_3), .emp, .val (enc st_21.1), .own (oL st_21.2), .emp, .emp, .emp]) _ [true, true, true, true, false, true, true, false, false, false] rfl (sif_var (i := 0) rfl h0) hrt (fun x_20 st_21 => (sg_name (i := 7))) (fun V' N B hN_40 hB_41 hR_42 x_20 st_21 =>
  (ss_ifs (we hw) (st_or (st_not (st_of (se_isi true (by decide +kernel) (fun _ _ => rfl) (se_var (i := 7) rfl)))) (st_or (st_of (se_bin op_neI (se_cb (cb_lenT (fun _ => ⟨_, rfl, rfl⟩)) (se_var (i := 7) rfl)) (se_int 2))) (st_not (st_of (se_isi true (by decide +kernel) (fun _ _ => rfl) (se_proj (fun t : (Str × Bool) => t.2) 1 (fun _ => ⟨_, rfl, rfl⟩) (se_var (i := 7) rfl)))))))
  (ss_one (ss_ret (we hw) (se_bl false) (fun a A' s h => hR_42 a A' s h)))
  (ss_into (ss_ifs (we hw) (st_or (st_of (se_inD1 (se_proj (fun t : (Str × Bool) => t.1) 0 (fun _ => ⟨_, rfl, rfl⟩) (se_var (i := 7) rfl)) ((se_var (i := 3) rfl)).v)) (st_of (se_in false (by decide) (se_proj (fun t : (Str × Bool) => t.1) 0 (fun _ => ⟨_, rfl, rfl⟩) (se_var (i := 7) rfl)) (sv_own (i := 6) rfl))))
  (ss_one (ss_ret (we hw) (se_bl false) (fun a A' s h => hR_42 a A' s h)))
  (ss_into (ss_app (we hw) rfl (se_proj (fun t : (Str × Bool) => t.1) 0 (fun _ => ⟨_, rfl, rfl⟩) (se_var (i := 7) rfl)) fun seen_47 =>
  (ss_norm (J := [.val d0, .val (enc v_gap), .val d2, .val (enc st_3), .emp, .val (enc st_21.1), .own (oL seen_47), .val (enc x_20), .emp, .emp]) rfl
  (ss_asgT (we hw) (se_get ((se_var (i := 3) rfl)).v (se_proj (fun t : (Str × Bool) => t.1) 0 (fun _ => ⟨_, rfl, rfl⟩) (se_var (i := 7) rfl))) (fun p_49 => sg_tup2 rfl) fun p_49 =>
  (ss_norm (J := [.val d0, .val (enc v_gap), .val d2, .val (enc st_3), .emp, .val (enc st_21.1), .own (oL seen_47), .val (enc x_20), .val (enc p_49.1), .val (enc p_49.2)]) rfl
  (ss_ifs (we hw) (st_of (sv_bin (op_eqV true (by decide)) ((se_var (i := 5) rfl)).v ((se_ix ((se_lst (ses_cons (se_var (i := 9) rfl) (ses_cons (se_var (i := 8) rfl) ses_nil)))).v (se_cb cb_intB (se_proj (fun t : (Str × Bool) => t.2) 1 (fun _ => ⟨_, rfl, rfl⟩) (se_var (i := 7) rfl))))).v))
  (ss_one (ss_ret (we hw) (se_bl false) (fun a A' s h => hR_42 a A' s h)))
  (ss_into (ss_one (ss_asg (we hw) (se_ix ((se_lst (ses_cons (se_var (i := 8) rfl) (ses_cons (se_var (i := 9) rfl) ses_nil)))).v (se_cb cb_intB (se_proj (fun t : (Str × Bool) => t.2) 1 (fun _ => ⟨_, rfl, rfl⟩) (se_var (i := 7) rfl)))) fun here_60 =>
  (ss_next [true, true, true, true, false, true, true, false, false, false] rfl fun δ A v e => hN_40 _ δ A v e)))))))))))))) fun st_21 =>
  (ss_one (ss_ret1 (we hw) (sv_bin (op_eqV false (by decide)) ((se_var (i := 5) rfl)).v ((se_proj (fun t : GapV => t.other) 2 (fun _ => ⟨_, rfl, rfl⟩) (se_var (i := 1) rfl))).v) (fun a A' s h => hrt a A' s h))))))))))))
  exact key _ _ ⟨Sub.refl A, [], (.val (.val (.val (.emp (.emp (.emp (.emp (.emp (.emp (.emp .nil))))))))))⟩ h
theorem len__law_refused {ds A Q E} (h : sp__law_refused ds A Q E) : ds.length = 3 := by obtain ⟨_, _, _, _, _, _, e, _⟩ := h; rw [e]; rfl
theorem rd__law_refused {ds A Q E} (h : sp__law_refused ds A Q E) : t__law_refused (fun c fs _ A => dropE E c fs A) { nx := fun _ A => dropQ Q .non A, rt := dropQ Q } (startD 5 ds) A := by
  obtain ⟨d0, d1, d2, v_thing, v_name_here, v_way, rfl, h0, h1, h2, h⟩ := h
  have e0 : d0 = enc v_thing := h0
  subst e0
  have e1 : d1 = enc v_name_here := h1
  subst e1
  have e2 : d2 = enc v_way := h2
  subst e2
  have hw : WX A (fun c fs _ A' => dropE E c fs A') (fun c fs => E c fs A) := fun c fs δ A' s h => ⟨A, s, h⟩
  have hrt : ∀ (a : Bool) A', Sub A A' → Q (enc a) A → dropQ Q (enc a) A' := fun a A' s h => ⟨A, s, h⟩
  have key : SS A (fun c fs => E c fs A) { nx := fun _ A => dropQ Q .non A, rt := dropQ Q } (fun (r : Bool) => Q (enc r) A) [.val (enc v_thing), .val (enc v_name_here), .val (enc v_way), .emp, .emp] (t__law_refused (fun c fs _ A => dropE E c fs A)) (F__law_refused v_thing v_name_here v_way) :=
  (ss_asg (we hw) se_non fun caught_1 =>
  (ss_tryAs (i := 4) hw (fun (st_37 : (Option (List Bool))) => [.val (enc v_thing), .val (enc v_name_here), .val (enc v_way), .val (enc st_37), .emp]) [.val (enc v_thing), .val (enc v_name_here), .val (enc v_way), .val (enc caught_1), .emp] [true, true, true, true, false] rfl (fun st_37 δ A e => env_none (i := 4) rfl e) (fun V' N w' X' hN_38 hw_39 => (ss_one (ss_ifs (we_try [true, true, true, true, false] rfl hw_39) (st_of (se_bin op_eqI (se_var (i := 2) rfl) (se_int 0)))
  (ss_one (ss_drop (we_try [true, true, true, true, false] rfl hw_39) (se_fzO (so_meth1 hm_Thing_way hsh_Thing_way ((se_var (i := 0) rfl)).v ((se_var (i := 1) rfl)).v))
  (ss_next [true, true, true, true, false] rfl fun δ A v e => hN_38 _ δ A v e)))
  (ss_one (ss_ifs (we_try [true, true, true, true, false] rfl hw_39) (st_of (se_bin op_eqI (se_var (i := 2) rfl) (se_int 1)))
  (ss_one (ss_drop (we_try [true, true, true, true, false] rfl hw_39) (se_meth1 hm_Thing_middle hsh_Thing_middle ((se_var (i := 0) rfl)).v ((se_var (i := 1) rfl)).v)
  (ss_next [true, true, true, true, false] rfl fun δ A v e => hN_38 _ δ A v e)))
  (ss_one (ss_drop (we_try [true, true, true, true, false] rfl hw_39) (se_meth1 hm_Thing_room hsh_Thing_room ((se_var (i := 0) rfl)).v ((se_var (i := 1) rfl)).v)
  (ss_next [true, true, true, true, false] rfl fun δ A v e => hN_38 _ δ A v e)))))))) (fun V' N B' C' hN_40 xa xc xfs => (ss_one (ss_asg (we hw) (se_some (se_lst (ses_cons (se_isE (i := 4) rfl) (ses_cons (se_isE (i := 4) rfl) (ses_cons (se_isE (i := 4) rfl) (ses_cons (se_isE (i := 4) rfl) (ses_cons (se_isE (i := 4) rfl) (ses_cons (se_isE (i := 4) rfl) (ses_cons (se_isE (i := 4) rfl) ses_nil))))))))) fun caught_75 =>
  (ss_next [true, true, true, true, false] rfl fun δ A v e => hN_40 _ δ A v e)))) fun st_37 =>
  (ss_one (ss_ret1 (we hw) (sv_bin (op_eqV false (by decide)) ((se_var (i := 3) rfl)).v ((se_some (se_lst (ses_cons (se_bl true) (ses_cons (se_bl true) (ses_cons (se_bl false) (ses_cons (se_bl false) (ses_cons (se_bl false) (ses_cons (se_bl false) (ses_cons (se_bl false) ses_nil)))))))))).v) (fun a A' s h => hrt a A' s h)))))
  exact key _ _ ⟨Sub.refl A, [], (.val (.val (.val (.emp (.emp .nil)))))⟩ h
theorem len_law {ds A Q E} (h : spLaw ds A Q E) : ds.length = 1 := by obtain ⟨_, rfl, _⟩ := h; rfl
theorem rd_law {ds A Q E} (h : spLaw ds A Q E) : t_law (fun c fs _ A => dropE E c fs A) { nx := fun _ A => dropQ Q .non A, rt := dropQ Q } (startD 11 ds) A := by
  obtain ⟨v_script, rfl, hl, q⟩ := h
  have h0 : vw A (D.rol (v_script.map D.int)) v_script := rfl
  have h : (F_law v_script).wp (fun r => Q (enc r) A) (fun c fs => E c fs A) := by rw [law_ok v_script hl]; exact q A
  generalize D.rol (v_script.map D.int) = d0 at h0 ⊢
  have hw : WX A (fun c fs _ A' => dropE E c fs A') (fun c fs => E c fs A) := fun c fs δ A' s h => ⟨A, s, h⟩
  have hrt : ∀ (a : Bool) A', Sub A A' → Q (enc a) A → dropQ Q (enc a) A' := fun a A' s h => ⟨A, s, h⟩
  have key : SS A (fun c fs => E c fs A) { nx := fun _ A => dropQ Q .non A, rt := dropQ Q } (fun (r : Bool) => Q (enc r) A) [.val d0, .emp, .emp, .emp, .emp, .emp, .emp, .emp, .emp, .emp, .emp] (t_law (fun c fs _ A => dropE E c fs A)) (F_law v_script) :=
  (ss_asg (we hw) (se_modR 4 (by decide) (se_call2 hs__law_cell (sv_var (i := 0) rfl h0) ((se_int 2)).v)) fun style_5 =>
  (ss_asgT (we hw) (se_call2 hs__law_parts (sv_var (i := 0) rfl h0) ((se_var (i := 1) rfl)).v) (fun p_8 => sg_tup2 rfl) fun p_8 =>
  (ss_norm (J := [.val d0, .val (enc style_5), .val (enc p_8.1), .val (enc p_8.2), .emp, .emp, .emp, .emp, .emp, .emp, .emp]) rfl
  (ss_asg (we hw) (se_call2 hs__law_listed (sv_var (i := 0) rfl h0) ((se_var (i := 2) rfl)).v) fun parts_here_11 =>
  (ss_asg (we hw) (se_call1 hs__law_unlike ((se_call3 hs__law_gaps (sv_var (i := 0) rfl h0) ((se_var (i := 3) rfl)).v ((se_var (i := 1) rfl)).v)).v) fun gaps_here_16 =>
  (ss_norm (J := [.val d0, .val (enc style_5), .val (enc parts_here_11), .val (enc p_8.2), .val (enc gaps_here_16), .emp, .emp, .emp, .emp, .emp, .emp]) rfl
  (ss_asg (we hw) (se_fzD (fun _ => rfl) okF_thing (so_mk2 mk_Thing ((se_var (i := 2) rfl)).v ((se_var (i := 4) rfl)).v)) fun thing_19 =>
  (ss_asg (we hw) (se_lc _ (sic_v ((se_var (i := 4) rfl)).v) (fun x_20 => (sg_name (i := 7))) (fun x_20 => st_yes) (fun x_20 => (se_proj (fun t : GapV => t.name) 0 (fun _ => ⟨_, rfl, rfl⟩) (se_var (i := 7) rfl)))) fun names_22 =>
  (ss_norm (J := [.val d0, .val (enc style_5), .val (enc parts_here_11), .val (enc p_8.2), .val (enc gaps_here_16), .val (enc thing_19), .val (enc names_22), .emp, .emp, .emp, .emp]) rfl
  (ss_forF (we hw) (fun (st_29 : Unit) => [.val d0, .val (enc style_5), .val (enc parts_here_11), .val (enc p_8.2), .val (enc gaps_here_16), .val (enc thing_19), .val (enc names_22), .emp, .emp, .emp, .emp]) _ [true, true, true, true, true, true, true, false, false, false, false] rfl (sif_seq (sv_bin op_cat ((se_var (i := 4) rfl)).v ((se_sl ((se_var (i := 4) rfl)).v sop_none (sop_some (se_int 1)))).v)) hrt (fun x_28 st_29 => (sg_name (i := 7))) (fun V' N B hN_41 hB_42 hR_43 x_28 st_29 =>
  (ss_asgO (we hw) (so_meth1 hm_Thing_way hsh_Thing_way ((se_var (i := 5) rfl)).v ((se_proj (fun t : GapV => t.name) 0 (fun _ => ⟨_, rfl, rfl⟩) (se_var (i := 7) rfl))).v) fun found_46 =>
  (ss_norm (J := [.val d0, .val (enc style_5), .val (enc parts_here_11), .val (enc p_8.2), .val (enc gaps_here_16), .val (enc thing_19), .val (enc names_22), .val (enc x_28), .own (oL found_46), .emp, .emp]) rfl
  (ss_ifs (we hw) (st_not (st_of (se_call3 hs__law_walked (sv_own (i := 8) rfl) ((se_var (i := 7) rfl)).v ((se_var (i := 2) rfl)).v)))
  (ss_one (ss_ret (we hw) (se_bl false) (fun a A' s h => hR_43 a A' s h)))
  (ss_into (ss_appD (we hw) rfl (se_int 1) fun found_52 =>
  (ss_one (ss_rev rfl (ss_next [true, true, true, true, true, true, true, false, false, false, false] rfl fun δ A v e => hN_41 _ δ A v e))))))))) fun st_29 =>
  (ss_forF (we hw) (fun (st_65 : Unit) => [.val d0, .val (enc style_5), .val (enc parts_here_11), .val (enc p_8.2), .val (enc gaps_here_16), .val (enc thing_19), .val (enc names_22), .emp, .emp, .emp, .emp]) _ [true, true, true, true, true, true, true, false, false, false, false] rfl (sif_seq (sv_bin op_cat ((sv_bin op_cat ((se_lst (ses_cons (se_str "nobody") ses_nil))).v ((se_lc _ (sic_v ((se_var (i := 2) rfl)).v) (fun x_58 => (sg_name (i := 10))) (fun x_58 => st_yes) (fun x_58 => (se_proj (fun t : PartV => t.name) 0 (fun _ => ⟨_, rfl, rfl⟩) (se_var (i := 10) rfl))))).v)).v ((sv_cb cb_sortedD ((se_var (i := 3) rfl)).v)).v)) hrt (fun x_64 st_65 => (sg_name (i := 9))) (fun V' N B hN_75 hB_76 hR_77 x_64 st_65 =>
  (ss_one (ss_ifs (we hw) (st_and (st_of (se_in true (by decide) (se_var (i := 9) rfl) ((se_var (i := 6) rfl)).v)) (st_not (st_of (se_call3 hs__law_refused ((se_var (i := 5) rfl)).v ((se_var (i := 9) rfl)).v ((se_modR 3 (by decide) (se_bin op_mulI (se_cb cb_lenS (se_var (i := 9) rfl)) (sv_cb cb_len ((se_var (i := 6) rfl)).v)))).v))))
  (ss_one (ss_ret (we hw) (se_bl false) (fun a A' s h => hR_77 a A' s h)))
  (ss_next [true, true, true, true, true, true, true, false, false, false, false] rfl fun δ A v e => hN_75 _ δ A v e)))) fun st_65 =>
  (ss_one (ss_ret1 (we hw) (se_and (se_call3 hs__law_refused ((se_var (i := 5) rfl)).v ((se_str "nobody")).v ((se_int 0)).v) (se_and (se_call3 hs__law_refused ((se_var (i := 5) rfl)).v ((se_str "nobody")).v ((se_int 1)).v) (se_call3 hs__law_refused ((se_var (i := 5) rfl)).v ((se_str "nobody")).v ((se_int 2)).v))) (fun a A' s h => hrt a A' s h))))))))))))))
  exact key _ _ ⟨Sub.refl A, [], (.val (.emp (.emp (.emp (.emp (.emp (.emp (.emp (.emp (.emp (.emp .nil)))))))))))⟩ h
end K42

namespace K42
open PySem PySem.Spec PyProof.Rows L2 DL FR TF
open TF.Enc
def top (i : Nat) : Stmt := PySem.Challenge.pw_slackchain_k42_ways_of_gaps.main.body.getD i (.Pass ⟨0, 0, 0, 0⟩)
def inn (st : Stmt) (j : Nat) : Stmt := match st with | .ClassDef _ _ _ b .. => b.getD j (.Pass ⟨0, 0, 0, 0⟩) | _ => st
abbrev s_divisor : Stmt := top 12
abbrev s_fraction : Stmt := top 13
abbrev s_plus : Stmt := top 14
abbrev s_minus : Stmt := top 15
abbrev s_under : Stmt := top 16
abbrev s_is_whole : Stmt := top 19
abbrev s_is_name : Stmt := top 20
abbrev s_is_fraction : Stmt := top 21
abbrev s_has_ends : Stmt := top 23
abbrev s_is_part : Stmt := top 24
abbrev s_is_gap : Stmt := top 25
abbrev s_way_between : Stmt := top 26
abbrev s_Thing_add_part : Stmt := inn (top 27) 1
abbrev s_Thing_add_gap : Stmt := inn (top 27) 2
abbrev s_Thing___init__ : Stmt := inn (top 27) 0
abbrev s_Thing_way : Stmt := inn (top 27) 5
abbrev s_Thing_middle : Stmt := inn (top 27) 6
abbrev s_Thing_room : Stmt := inn (top 27) 7
abbrev s__law_cell : Stmt := top 29
abbrev s__law_signed : Stmt := top 30
abbrev s__law_low : Stmt := top 31
abbrev s__law_plus : Stmt := top 32
abbrev s__law_name : Stmt := top 33
abbrev s__law_parts : Stmt := top 34
abbrev s__law_listed : Stmt := top 35
abbrev s__law_gaps : Stmt := top 36
abbrev s__law_unlike : Stmt := top 37
abbrev s__law_walked : Stmt := top 38
abbrev s__law_refused : Stmt := top 39
abbrev s_law : Stmt := top 40
structure C (K : PySem.W.Frag) (mg : Str → Option Value) : Prop where
  d_divisor : ∃ fd, FunD K "divisor" "divisor" (defArgs s_divisor) (defBody s_divisor) (defScope s_divisor) [] [] (He.fAd K ("divisor", none)) fd
  d_fraction : ∃ fd, FunD K "fraction" "fraction" (defArgs s_fraction) (defBody s_fraction) (defScope s_fraction) [V.int 1] [] (He.fAd K ("fraction", none)) fd
  d_plus : ∃ fd, FunD K "plus" "plus" (defArgs s_plus) (defBody s_plus) (defScope s_plus) [] [] (He.fAd K ("plus", none)) fd
  d_minus : ∃ fd, FunD K "minus" "minus" (defArgs s_minus) (defBody s_minus) (defScope s_minus) [] [] (He.fAd K ("minus", none)) fd
  d_under : ∃ fd, FunD K "under" "under" (defArgs s_under) (defBody s_under) (defScope s_under) [] [] (He.fAd K ("under", none)) fd
  d_is_whole : ∃ fd, FunD K "is_whole" "is_whole" (defArgs s_is_whole) (defBody s_is_whole) (defScope s_is_whole) [] [] (He.fAd K ("is_whole", none)) fd
  d_is_name : ∃ fd, FunD K "is_name" "is_name" (defArgs s_is_name) (defBody s_is_name) (defScope s_is_name) [] [] (He.fAd K ("is_name", none)) fd
  d_is_fraction : ∃ fd, FunD K "is_fraction" "is_fraction" (defArgs s_is_fraction) (defBody s_is_fraction) (defScope s_is_fraction) [] [] (He.fAd K ("is_fraction", none)) fd
  d_has_ends : ∃ fd, FunD K "has_ends" "has_ends" (defArgs s_has_ends) (defBody s_has_ends) (defScope s_has_ends) [] [] (He.fAd K ("has_ends", none)) fd
  d_is_part : ∃ fd, FunD K "is_part" "is_part" (defArgs s_is_part) (defBody s_is_part) (defScope s_is_part) [] [] (He.fAd K ("is_part", none)) fd
  d_is_gap : ∃ fd, FunD K "is_gap" "is_gap" (defArgs s_is_gap) (defBody s_is_gap) (defScope s_is_gap) [] [] (He.fAd K ("is_gap", none)) fd
  d_way_between : ∃ fd, FunD K "way_between" "way_between" (defArgs s_way_between) (defBody s_way_between) (defScope s_way_between) [] [] (He.fAd K ("way_between", none)) fd
  d_Thing_add_part : ∃ fd, FunD K "add_part" "Thing.add_part" (defArgs s_Thing_add_part) (defBody s_Thing_add_part) (defScope s_Thing_add_part) [] [] (He.fAd K ("Thing", some "add_part")) fd
  d_Thing_add_gap : ∃ fd, FunD K "add_gap" "Thing.add_gap" (defArgs s_Thing_add_gap) (defBody s_Thing_add_gap) (defScope s_Thing_add_gap) [] [] (He.fAd K ("Thing", some "add_gap")) fd
  d_Thing___init__ : ∃ fd, FunD K "__init__" "Thing.__init__" (defArgs s_Thing___init__) (defBody s_Thing___init__) (defScope s_Thing___init__) [] [] (He.fAd K ("Thing", some "__init__")) fd
  d_Thing_way : ∃ fd, FunD K "way" "Thing.way" (defArgs s_Thing_way) (defBody s_Thing_way) (defScope s_Thing_way) [] [] (He.fAd K ("Thing", some "way")) fd
  d_Thing_middle : ∃ fd, FunD K "middle" "Thing.middle" (defArgs s_Thing_middle) (defBody s_Thing_middle) (defScope s_Thing_middle) [] [] (He.fAd K ("Thing", some "middle")) fd
  d_Thing_room : ∃ fd, FunD K "room" "Thing.room" (defArgs s_Thing_room) (defBody s_Thing_room) (defScope s_Thing_room) [] [] (He.fAd K ("Thing", some "room")) fd
  d__law_cell : ∃ fd, FunD K "_law_cell" "_law_cell" (defArgs s__law_cell) (defBody s__law_cell) (defScope s__law_cell) [] [] (He.fAd K ("_law_cell", none)) fd
  d__law_signed : ∃ fd, FunD K "_law_signed" "_law_signed" (defArgs s__law_signed) (defBody s__law_signed) (defScope s__law_signed) [] [] (He.fAd K ("_law_signed", none)) fd
  d__law_low : ∃ fd, FunD K "_law_low" "_law_low" (defArgs s__law_low) (defBody s__law_low) (defScope s__law_low) [] [] (He.fAd K ("_law_low", none)) fd
  d__law_plus : ∃ fd, FunD K "_law_plus" "_law_plus" (defArgs s__law_plus) (defBody s__law_plus) (defScope s__law_plus) [] [] (He.fAd K ("_law_plus", none)) fd
  d__law_name : ∃ fd, FunD K "_law_name" "_law_name" (defArgs s__law_name) (defBody s__law_name) (defScope s__law_name) [] [] (He.fAd K ("_law_name", none)) fd
  d__law_parts : ∃ fd, FunD K "_law_parts" "_law_parts" (defArgs s__law_parts) (defBody s__law_parts) (defScope s__law_parts) [] [] (He.fAd K ("_law_parts", none)) fd
  d__law_listed : ∃ fd, FunD K "_law_listed" "_law_listed" (defArgs s__law_listed) (defBody s__law_listed) (defScope s__law_listed) [] [] (He.fAd K ("_law_listed", none)) fd
  d__law_gaps : ∃ fd, FunD K "_law_gaps" "_law_gaps" (defArgs s__law_gaps) (defBody s__law_gaps) (defScope s__law_gaps) [] [] (He.fAd K ("_law_gaps", none)) fd
  d__law_unlike : ∃ fd, FunD K "_law_unlike" "_law_unlike" (defArgs s__law_unlike) (defBody s__law_unlike) (defScope s__law_unlike) [] [] (He.fAd K ("_law_unlike", none)) fd
  d__law_walked : ∃ fd, FunD K "_law_walked" "_law_walked" (defArgs s__law_walked) (defBody s__law_walked) (defScope s__law_walked) [] [] (He.fAd K ("_law_walked", none)) fd
  d__law_refused : ∃ fd, FunD K "_law_refused" "_law_refused" (defArgs s__law_refused) (defBody s__law_refused) (defScope s__law_refused) [] [] (He.fAd K ("_law_refused", none)) fd
  d_law : ∃ fd, FunD K "law" "law" (defArgs s_law) (defBody s_law) (defScope s_law) [] [] (He.fAd K ("law", none)) fd
  n_ValueError : mg "ValueError" = none
  n_abs : mg "abs" = none
  n_bool : mg "bool" = none
  n_int : mg "int" = none
  n_isinstance : mg "isinstance" = none
  n_len : mg "len" = none
  n_list : mg "list" = none
  n_min : mg "min" = none
  n_range : mg "range" = none
  n_sorted : mg "sorted" = none
  n_str : mg "str" = none
  n_tuple : mg "tuple" = none
  g_Apart : mg "Apart" = some (.ref (He.ga K "Apart"))
  g_InRing : mg "InRing" = some (.ref (He.ga K "InRing"))
  g_NoFace : mg "NoFace" = some (.ref (He.ga K "NoFace"))
  g_NoGap : mg "NoGap" = some (.ref (He.ga K "NoGap"))
  g_NoName : mg "NoName" = some (.ref (He.ga K "NoName"))
  g_NoNumber : mg "NoNumber" = some (.ref (He.ga K "NoNumber"))
  g_NoPart : mg "NoPart" = some (.ref (He.ga K "NoPart"))
  g_NoRow : mg "NoRow" = some (.ref (He.ga K "NoRow"))
  g_SlackError : mg "SlackError" = some (.ref (He.ga K "SlackError"))
  g_Thing : mg "Thing" = some (.ref (He.ga K "Thing"))
  g_Twice : mg "Twice" = some (.ref (He.ga K "Twice"))
  s_LETTERS : ∃ t, mg "LETTERS" = some (.str "abcdefghijklmnopqrstuvwxyz" t)
  x_Apart : (He.Fa.exc "Apart").ok K = true
  x_InRing : (He.Fa.exc "InRing").ok K = true
  x_NoGap : (He.Fa.exc "NoGap").ok K = true
  x_NoName : (He.Fa.exc "NoName").ok K = true
  x_NoNumber : (He.Fa.exc "NoNumber").ok K = true
  x_NoPart : (He.Fa.exc "NoPart").ok K = true
  x_Twice : (He.Fa.exc "Twice").ok K = true
  tb_SlackError : ∀ p ∈ tb_SlackError, (He.Fa.exm (Str.ofString p.1) "SlackError" p.2).ok K = true
  ek : ∀ k ∈ exl, ExcC K (He.ga K (Str.ofString k))
  ti_NoFace : ∀ p ∈ ti_NoFace, PySem.W.kitOne K (.ref (He.ga K (Str.ofString p.1))) (.ref (He.ga K "NoFace")) = some p.2
  ti_NoGap : ∀ p ∈ ti_NoGap, PySem.W.kitOne K (.ref (He.ga K (Str.ofString p.1))) (.ref (He.ga K "NoGap")) = some p.2
  ti_NoName : ∀ p ∈ ti_NoName, PySem.W.kitOne K (.ref (He.ga K (Str.ofString p.1))) (.ref (He.ga K "NoName")) = some p.2
  ti_NoPart : ∀ p ∈ ti_NoPart, PySem.W.kitOne K (.ref (He.ga K (Str.ofString p.1))) (.ref (He.ga K "NoPart")) = some p.2
  ti_NoRow : ∀ p ∈ ti_NoRow, PySem.W.kitOne K (.ref (He.ga K (Str.ofString p.1))) (.ref (He.ga K "NoRow")) = some p.2
  ti_Twice : ∀ p ∈ ti_Twice, PySem.W.kitOne K (.ref (He.ga K (Str.ofString p.1))) (.ref (He.ga K "Twice")) = some p.2
  ti_ValueError : ∀ p ∈ ti_ValueError, PySem.W.kitOne K (.ref (He.ga K (Str.ofString p.1))) (.type "ValueError") = some p.2
  f_kept_gaps : ∀ c ∈ ["Thing"], FldOk K c "kept_gaps"
  f_kept_parts : ∀ c ∈ ["Thing"], FldOk K c "kept_parts"
  f_kept_ways : ∀ c ∈ ["Thing"], FldOk K c "kept_ways"
  f_sizes : ∀ c ∈ ["Thing"], FldOk K c "sizes"
  me_Thing_add_gap : Cls K (He.ga K "Thing") ∧ Meth K (He.ga K "Thing") "add_gap" (He.ma K (He.ga K "Thing") "add_gap")
  me_Thing_add_part : Cls K (He.ga K "Thing") ∧ Meth K (He.ga K "Thing") "add_part" (He.ma K (He.ga K "Thing") "add_part")
  me_Thing_middle : Cls K (He.ga K "Thing") ∧ Meth K (He.ga K "Thing") "middle" (He.ma K (He.ga K "Thing") "middle")
  me_Thing_room : Cls K (He.ga K "Thing") ∧ Meth K (He.ga K "Thing") "room" (He.ma K (He.ga K "Thing") "room")
  me_Thing_way : Cls K (He.ga K "Thing") ∧ Meth K (He.ga K "Thing") "way" (He.ma K (He.ga K "Thing") "way")
  mk_Thing : L2.Mk K (He.ga K "Thing") (He.ma K (He.ga K "Thing") "__init__")
  m_divisor : mg "divisor" = some (.ref (He.ga K "divisor"))
  m_fraction : mg "fraction" = some (.ref (He.ga K "fraction"))
  m_plus : mg "plus" = some (.ref (He.ga K "plus"))
  m_minus : mg "minus" = some (.ref (He.ga K "minus"))
  m_under : mg "under" = some (.ref (He.ga K "under"))
  m_is_whole : mg "is_whole" = some (.ref (He.ga K "is_whole"))
  m_is_name : mg "is_name" = some (.ref (He.ga K "is_name"))
  m_is_fraction : mg "is_fraction" = some (.ref (He.ga K "is_fraction"))
  m_has_ends : mg "has_ends" = some (.ref (He.ga K "has_ends"))
  m_is_part : mg "is_part" = some (.ref (He.ga K "is_part"))
  m_is_gap : mg "is_gap" = some (.ref (He.ga K "is_gap"))
  m_way_between : mg "way_between" = some (.ref (He.ga K "way_between"))
  m__law_cell : mg "_law_cell" = some (.ref (He.ga K "_law_cell"))
  m__law_signed : mg "_law_signed" = some (.ref (He.ga K "_law_signed"))
  m__law_low : mg "_law_low" = some (.ref (He.ga K "_law_low"))
  m__law_plus : mg "_law_plus" = some (.ref (He.ga K "_law_plus"))
  m__law_name : mg "_law_name" = some (.ref (He.ga K "_law_name"))
  m__law_parts : mg "_law_parts" = some (.ref (He.ga K "_law_parts"))
  m__law_listed : mg "_law_listed" = some (.ref (He.ga K "_law_listed"))
  m__law_gaps : mg "_law_gaps" = some (.ref (He.ga K "_law_gaps"))
  m__law_unlike : mg "_law_unlike" = some (.ref (He.ga K "_law_unlike"))
  m__law_walked : mg "_law_walked" = some (.ref (He.ga K "_law_walked"))
  m__law_refused : mg "_law_refused" = some (.ref (He.ga K "_law_refused"))
  m_law : mg "law" = some (.ref (He.ga K "law"))
section
variable {P : Program} {w : World} {K : PySem.W.Frag} {mg : Str → Option Value} {base : Heap}
theorem sc_divisor : FnScope ["one", "other"] ["one", "other"] (defScope s_divisor) := ⟨rfl, rfl, rfl, by decide +kernel, rfl, by decide +kernel, by decide +kernel⟩
theorem ok_divisor (C : C K mg) {fd : FuncData} (F : FunD K "divisor" "divisor" (defArgs s_divisor) (defBody s_divisor) (defScope s_divisor) [] [] (He.fAd K ("divisor", none)) fd) : FnOk P w K mg base (CX P w) 1 (He.fAd K ("divisor", none)) fd ["one", "other"] (liftSp K sp_divisor) := by
  refine DL.fn_ok (t := t_divisor) F sc_divisor (fun ds A Q E h => len_divisor h) (fun cdv A outer s H E Z0 wd hr tk => ?_) (fun ds A Q E h => rd_divisor h)
  have hu := uA hr
  have hu65 := uC hr
  have hu64 := uB hr
  exact (qss_cons (qs_set (i := 0) sc_divisor.nd rfl (.inl rfl) (qe_callB lift_abs call_abs (by rfl) C.n_abs (by decide +kernel) (qa_cons (qe_var (pv 0)) qa_nil)))
  (qss_cons (qs_set (i := 1) sc_divisor.nd rfl (.inl rfl) (qe_callB lift_abs call_abs (by rfl) C.n_abs (by decide +kernel) (qa_cons (qe_var (pv 1)) qa_nil)))
  (qss_cons (qs_while (passes_of rfl) (qt_cmp lift_cmp op_gt (qe_var (pv 1)) qe_int (nomark _))
  (qss_one (qs_par (i := 0) (j := 1) rfl sc_divisor.nd rfl rfl (by decide) rfl rfl (qa_cons (qe_var (pv 1)) (qa_cons (qe_mod (qe_var (pv 0)) (qe_var (pv 1))) qa_nil)) (by rfl))))
  (qss_one (qs_ret (qe_var (pv 0)))))))
theorem df_divisor (C : C K mg) : DFn P w K mg base 1 "divisor" sp_divisor [] := by
  obtain ⟨fd, F⟩ := C.d_divisor
  exact dfn (ok_divisor C F) C.m_divisor F.kp (F.bindsN fun _ _ _ _ _ _ us hl => match us, hl with | [_, _], _ => rfl)
theorem sc_fraction : FnScope ["top", "bottom", "by"] ["top", "bottom"] (defScope s_fraction) := ⟨rfl, rfl, rfl, by decide +kernel, rfl, by decide +kernel, by decide +kernel⟩
theorem ok_fraction (C : C K mg) {fd : FuncData} (F : FunD K "fraction" "fraction" (defArgs s_fraction) (defBody s_fraction) (defScope s_fraction) [V.int 1] [] (He.fAd K ("fraction", none)) fd) : FnOk P w K mg base (CX P w) 2 (He.fAd K ("fraction", none)) fd ["top", "bottom"] (liftSp K sp_fraction) := by
  have F_divisor := @df_divisor P w K mg base C
  refine DL.fn_ok (t := t_fraction) F sc_fraction (fun ds A Q E h => len_fraction h) (fun cdv A outer s H E Z0 wd hr tk => ?_) (fun ds A Q E h => rd_fraction h)
  have hu := uA hr
  have hu65 := uC hr
  have hu64 := uB hr
  exact (qss_cons (qs_if (qt_cmp lift_eq (op_eqD hu64) (qe_var (pv 1)) qe_int (nomark _))
  (qss_one (qs_raiseC (c := "NoNumber") C.x_NoNumber C.g_NoNumber rfl tk (by rfl) (by decide)))
  qss_nil)
  (qss_cons (qs_set (i := 2) sc_fraction.nd rfl (.inl rfl) (qe_call F_divisor hr (by decide) (by rfl) tk (qa_cons (qe_var (pv 0)) (qa_cons (qe_var (pv 1)) qa_nil))))
  (qss_cons (qs_if (qt_cmp lift_cmp op_lt (qe_var (pv 1)) qe_int (nomark _))
  (qss_one (qs_set (i := 2) sc_fraction.nd rfl (.inl rfl) (qe_neg (qe_var (pv 2)))))
  qss_nil)
  (qss_one (qs_ret (qe_tup (qa_cons (qe_div (qe_var (pv 0)) (qe_var (pv 2))) (qa_cons (qe_div (qe_var (pv 1)) (qe_var (pv 2))) qa_nil))))))))
theorem df_fraction (C : C K mg) : DFn P w K mg base 2 "fraction" sp_fraction [] := by
  obtain ⟨fd, F⟩ := C.d_fraction
  obtain ⟨ds, v, b⟩ := F.binds1 (ps := ["top", "bottom"]) 2 1 (by decide) rfl fun _ _ _ _ _ _ _ us its hl hl2 => match us, hl, its, hl2 with | [_, _], _, [_], _ => ⟨_, rfl, rfl⟩
  exact dfnD (ok_fraction C F) C.m_fraction F.kp b v (fun Z => by simp [RVs, RV])
theorem sc_plus : FnScope ["one", "other"] ["one", "other"] (defScope s_plus) := ⟨rfl, rfl, rfl, by decide +kernel, rfl, by decide +kernel, by decide +kernel⟩
theorem ok_plus (C : C K mg) {fd : FuncData} (F : FunD K "plus" "plus" (defArgs s_plus) (defBody s_plus) (defScope s_plus) [] [] (He.fAd K ("plus", none)) fd) : FnOk P w K mg base (CX P w) 3 (He.fAd K ("plus", none)) fd ["one", "other"] (liftSp K sp_plus) := by
  have F_fraction := @df_fraction P w K mg base C
  refine DL.fn_ok (t := t_plus) F sc_plus (fun ds A Q E h => len_plus h) (fun cdv A outer s H E Z0 wd hr tk => ?_) (fun ds A Q E h => rd_plus h)
  have hu := uA hr
  have hu65 := uC hr
  have hu64 := uB hr
  exact (qss_one (qs_ret (qe_call F_fraction hr (by decide) (by rfl) tk (qa_cons (qe_add mkF_ok (qe_mul (qe_ix hu (qe_var (pv 0)) qe_int (fun _ _ => rfl)) (qe_ix hu (qe_var (pv 1)) qe_int (fun _ _ => rfl))) (qe_mul (qe_ix hu (qe_var (pv 1)) qe_int (fun _ _ => rfl)) (qe_ix hu (qe_var (pv 0)) qe_int (fun _ _ => rfl)))) (qa_cons (qe_mul (qe_ix hu (qe_var (pv 0)) qe_int (fun _ _ => rfl)) (qe_ix hu (qe_var (pv 1)) qe_int (fun _ _ => rfl))) qa_nil)))))
theorem df_plus (C : C K mg) : DFn P w K mg base 3 "plus" sp_plus [] := by
  obtain ⟨fd, F⟩ := C.d_plus
  exact dfn (ok_plus C F) C.m_plus F.kp (F.bindsN fun _ _ _ _ _ _ us hl => match us, hl with | [_, _], _ => rfl)
theorem sc_minus : FnScope ["one", "other"] ["one", "other"] (defScope s_minus) := ⟨rfl, rfl, rfl, by decide +kernel, rfl, by decide +kernel, by decide +kernel⟩
theorem ok_minus (C : C K mg) {fd : FuncData} (F : FunD K "minus" "minus" (defArgs s_minus) (defBody s_minus) (defScope s_minus) [] [] (He.fAd K ("minus", none)) fd) : FnOk P w K mg base (CX P w) 3 (He.fAd K ("minus", none)) fd ["one", "other"] (liftSp K sp_minus) := by
  have F_fraction := @df_fraction P w K mg base C
  refine DL.fn_ok (t := t_minus) F sc_minus (fun ds A Q E h => len_minus h) (fun cdv A outer s H E Z0 wd hr tk => ?_) (fun ds A Q E h => rd_minus h)
  have hu := uA hr
  have hu65 := uC hr
  have hu64 := uB hr
  exact (qss_one (qs_ret (qe_call F_fraction hr (by decide) (by rfl) tk (qa_cons (qe_sub (qe_mul (qe_ix hu (qe_var (pv 0)) qe_int (fun _ _ => rfl)) (qe_ix hu (qe_var (pv 1)) qe_int (fun _ _ => rfl))) (qe_mul (qe_ix hu (qe_var (pv 1)) qe_int (fun _ _ => rfl)) (qe_ix hu (qe_var (pv 0)) qe_int (fun _ _ => rfl)))) (qa_cons (qe_mul (qe_ix hu (qe_var (pv 0)) qe_int (fun _ _ => rfl)) (qe_ix hu (qe_var (pv 1)) qe_int (fun _ _ => rfl))) qa_nil)))))
theorem df_minus (C : C K mg) : DFn P w K mg base 3 "minus" sp_minus [] := by
  obtain ⟨fd, F⟩ := C.d_minus
  exact dfn (ok_minus C F) C.m_minus F.kp (F.bindsN fun _ _ _ _ _ _ us hl => match us, hl with | [_, _], _ => rfl)
theorem sc_under : FnScope ["one", "other"] ["one", "other"] (defScope s_under) := ⟨rfl, rfl, rfl, by decide +kernel, rfl, by decide +kernel, by decide +kernel⟩
theorem ok_under (C : C K mg) {fd : FuncData} (F : FunD K "under" "under" (defArgs s_under) (defBody s_under) (defScope s_under) [] [] (He.fAd K ("under", none)) fd) : FnOk P w K mg base (CX P w) 1 (He.fAd K ("under", none)) fd ["one", "other"] (liftSp K sp_under) := by
  refine DL.fn_ok (t := t_under) F sc_under (fun ds A Q E h => len_under h) (fun cdv A outer s H E Z0 wd hr tk => ?_) (fun ds A Q E h => rd_under h)
  have hu := uA hr
  have hu65 := uC hr
  have hu64 := uB hr
  exact (qss_one (qs_ret (qe_cmp lift_cmp op_lt (qe_mul (qe_ix hu (qe_var (pv 0)) qe_int (fun _ _ => rfl)) (qe_ix hu (qe_var (pv 1)) qe_int (fun _ _ => rfl))) (qe_mul (qe_ix hu (qe_var (pv 1)) qe_int (fun _ _ => rfl)) (qe_ix hu (qe_var (pv 0)) qe_int (fun _ _ => rfl))) (nomark _))))
theorem df_under (C : C K mg) : DFn P w K mg base 1 "under" sp_under [] := by
  obtain ⟨fd, F⟩ := C.d_under
  exact dfn (ok_under C F) C.m_under F.kp (F.bindsN fun _ _ _ _ _ _ us hl => match us, hl with | [_, _], _ => rfl)
theorem sc_is_whole : FnScope ["thing"] ["thing"] (defScope s_is_whole) := ⟨rfl, rfl, rfl, by decide +kernel, rfl, by decide +kernel, by decide +kernel⟩
theorem ok_is_whole (C : C K mg) {fd : FuncData} (F : FunD K "is_whole" "is_whole" (defArgs s_is_whole) (defBody s_is_whole) (defScope s_is_whole) [] [] (He.fAd K ("is_whole", none)) fd) : FnOk P w K mg base (CX P w) 1 (He.fAd K ("is_whole", none)) fd ["thing"] (liftSp K sp_is_whole) := by
  refine DL.fn_ok (t := t_is_whole) F sc_is_whole (fun ds A Q E h => len_is_whole h) (fun cdv A outer s H E Z0 wd hr tk => ?_) (fun ds A Q E h => rd_is_whole h)
  have hu := uA hr
  have hu65 := uC hr
  have hu64 := uB hr
  exact (qss_one (qs_ret (qe_and (qe_isi (T := "int") (by decide) (by rfl) C.n_isinstance (by rfl) C.n_int (by decide +kernel) (by decide) (by decide) (qe_var (pv 0))) (qe_one (qe_not (qe_isi (T := "bool") (by decide) (by rfl) C.n_isinstance (by rfl) C.n_bool (by decide +kernel) (by decide) (by decide) (qe_var (pv 0))))))))
theorem df_is_whole (C : C K mg) : DFn P w K mg base 1 "is_whole" sp_is_whole [] := by
  obtain ⟨fd, F⟩ := C.d_is_whole
  exact dfn (ok_is_whole C F) C.m_is_whole F.kp (F.bindsN fun _ _ _ _ _ _ us hl => match us, hl with | [_], _ => rfl)
theorem sc_is_name : FnScope ["thing", "sign"] ["thing"] (defScope s_is_name) := ⟨rfl, rfl, rfl, by decide +kernel, rfl, by decide +kernel, by decide +kernel⟩
theorem ok_is_name (C : C K mg) {fd : FuncData} (F : FunD K "is_name" "is_name" (defArgs s_is_name) (defBody s_is_name) (defScope s_is_name) [] [] (He.fAd K ("is_name", none)) fd) : FnOk P w K mg base (CX P w) 1 (He.fAd K ("is_name", none)) fd ["thing"] (liftSp K sp_is_name) := by
  refine DL.fn_ok (t := t_is_name) F sc_is_name (fun ds A Q E h => len_is_name h) (fun cdv A outer s H E Z0 wd hr tk => ?_) (fun ds A Q E h => rd_is_name h)
  have hu := uA hr
  have hu65 := uC hr
  have hu64 := uB hr
  exact (qss_cons (qs_if (qt_w (qw_or (qt_not (qt_val (qe_isi (T := "str") (by decide) (by rfl) C.n_isinstance (by rfl) C.n_str (by decide +kernel) (by decide) (by decide) (qe_var (pv 0))))) (qw_or (qt_cmp lift_cmp op_lt (qe_callB lift_len call_lenAll (by rfl) C.n_len (by decide +kernel) (qa_cons (qe_var (pv 0)) qa_nil)) qe_int (nomark _)) (qw_or1 (qt_cmp lift_cmp op_gt (qe_callB lift_len call_lenAll (by rfl) C.n_len (by decide +kernel) (qa_cons (qe_var (pv 0)) qa_nil)) qe_int (nomark _))))))
  (qss_one (qs_ret qe_bl))
  qss_nil)
  (qss_cons (qs_for (passes_of rfl) rfl (qi_str (qe_var (pv 0))) (qg_name (i := 1) sc_is_name.nd rfl (.inl rfl))
  (qss_one (qs_if (qt_cmp lift_notin (op_notInAll hu65) (qe_var (pv 1)) (qe_gstr (C.s_LETTERS) (by rfl)) (by rfl))
  (qss_one (qs_ret qe_bl))
  qss_nil)))
  (qss_one (qs_ret qe_bl))))
theorem df_is_name (C : C K mg) : DFn P w K mg base 1 "is_name" sp_is_name [] := by
  obtain ⟨fd, F⟩ := C.d_is_name
  exact dfn (ok_is_name C F) C.m_is_name F.kp (F.bindsN fun _ _ _ _ _ _ us hl => match us, hl with | [_], _ => rfl)
theorem sc_is_fraction : FnScope ["thing"] ["thing"] (defScope s_is_fraction) := ⟨rfl, rfl, rfl, by decide +kernel, rfl, by decide +kernel, by decide +kernel⟩
theorem ok_is_fraction (C : C K mg) {fd : FuncData} (F : FunD K "is_fraction" "is_fraction" (defArgs s_is_fraction) (defBody s_is_fraction) (defScope s_is_fraction) [] [] (He.fAd K ("is_fraction", none)) fd) : FnOk P w K mg base (CX P w) 2 (He.fAd K ("is_fraction", none)) fd ["thing"] (liftSp K sp_is_fraction) := by
  have F_divisor := @df_divisor P w K mg base C
  have F_is_whole := @df_is_whole P w K mg base C
  refine DL.fn_ok (t := t_is_fraction) F sc_is_fraction (fun ds A Q E h => len_is_fraction h) (fun cdv A outer s H E Z0 wd hr tk => ?_) (fun ds A Q E h => rd_is_fraction h)
  have hu := uA hr
  have hu65 := uC hr
  have hu64 := uB hr
  exact (qss_cons (qs_if (qt_w (qw_or (qt_not (qt_val (qe_isi (T := "tuple") (by decide) (by rfl) C.n_isinstance (by rfl) C.n_tuple (by decide +kernel) (by decide) (by decide) (qe_var (pv 0))))) (qw_or1 (qt_cmp lift_ne (op_neD hu64) (qe_callB lift_len call_lenAll (by rfl) C.n_len (by decide +kernel) (qa_cons (qe_var (pv 0)) qa_nil)) qe_int (nomark _)))))
  (qss_one (qs_ret qe_bl))
  qss_nil)
  (qss_cons (qs_if (qt_w (qw_or (qt_not (qt_val (qe_call F_is_whole hr (by decide) (by rfl) tk (qa_cons (qe_ix hu (qe_var (pv 0)) qe_int (fun _ _ => rfl)) qa_nil)))) (qw_or (qt_not (qt_val (qe_call F_is_whole hr (by decide) (by rfl) tk (qa_cons (qe_ix hu (qe_var (pv 0)) qe_int (fun _ _ => rfl)) qa_nil)))) (qw_or1 (qt_cmp lift_cmp op_lt (qe_ix hu (qe_var (pv 0)) qe_int (fun _ _ => rfl)) qe_int (nomark _))))))
  (qss_one (qs_ret qe_bl))
  qss_nil)
  (qss_one (qs_ret (qe_cmp lift_eq (op_eqD hu64) (qe_call F_divisor hr (by decide) (by rfl) tk (qa_cons (qe_ix hu (qe_var (pv 0)) qe_int (fun _ _ => rfl)) (qa_cons (qe_ix hu (qe_var (pv 0)) qe_int (fun _ _ => rfl)) qa_nil))) qe_int (nomark _))))))
theorem df_is_fraction (C : C K mg) : DFn P w K mg base 2 "is_fraction" sp_is_fraction [] := by
  obtain ⟨fd, F⟩ := C.d_is_fraction
  exact dfn (ok_is_fraction C F) C.m_is_fraction F.kp (F.bindsN fun _ _ _ _ _ _ us hl => match us, hl with | [_], _ => rfl)
theorem sc_has_ends : FnScope ["thing", "many", "word"] ["thing", "many"] (defScope s_has_ends) := ⟨rfl, rfl, rfl, by decide +kernel, rfl, by decide +kernel, by decide +kernel⟩
theorem ok_has_ends (C : C K mg) {fd : FuncData} (F : FunD K "has_ends" "has_ends" (defArgs s_has_ends) (defBody s_has_ends) (defScope s_has_ends) [] [] (He.fAd K ("has_ends", none)) fd) : FnOk P w K mg base (CX P w) 2 (He.fAd K ("has_ends", none)) fd ["thing", "many"] (liftSp K sp_has_ends) := by
  have F_is_name := @df_is_name P w K mg base C
  refine DL.fn_ok (t := t_has_ends) F sc_has_ends (fun ds A Q E h => len_has_ends h) (fun cdv A outer s H E Z0 wd hr tk => ?_) (fun ds A Q E h => rd_has_ends h)
  have hu := uA hr
  have hu65 := uC hr
  have hu64 := uB hr
  exact (qss_cons (qs_if (qt_w (qw_or (qt_not (qt_val (qe_isi (T := "tuple") (by decide) (by rfl) C.n_isinstance (by rfl) C.n_tuple (by decide +kernel) (by decide) (by decide) (qe_var (pv 0))))) (qw_or1 (qt_cmp lift_ne (op_neD hu64) (qe_callB lift_len call_lenAll (by rfl) C.n_len (by decide +kernel) (qa_cons (qe_var (pv 0)) qa_nil)) (qe_var (pv 1)) (nomark _)))))
  (qss_one (qs_ret qe_bl))
  qss_nil)
  (qss_cons (qs_for (passes_of rfl) rfl (qi_seq (qe_sl mkF_ok (qe_var (pv 0)) qo_none (qo_some qe_int))) (qg_name (i := 2) sc_has_ends.nd rfl (.inl rfl))
  (qss_one (qs_if (qt_not (qt_val (qe_call F_is_name hr (by decide) (by rfl) tk (qa_cons (qe_var (pv 2)) qa_nil))))
  (qss_one (qs_ret qe_bl))
  qss_nil)))
  (qss_one (qs_ret (qe_cmp lift_ne (op_neD hu64) (qe_ix hu (qe_var (pv 0)) qe_int (fun _ _ => rfl)) (qe_ix hu (qe_var (pv 0)) qe_int (fun _ _ => rfl)) (nomark _))))))
theorem df_has_ends (C : C K mg) : DFn P w K mg base 2 "has_ends" sp_has_ends [] := by
  obtain ⟨fd, F⟩ := C.d_has_ends
  exact dfn (ok_has_ends C F) C.m_has_ends F.kp (F.bindsN fun _ _ _ _ _ _ us hl => match us, hl with | [_, _], _ => rfl)
theorem sc_is_part : FnScope ["thing"] ["thing"] (defScope s_is_part) := ⟨rfl, rfl, rfl, by decide +kernel, rfl, by decide +kernel, by decide +kernel⟩
theorem ok_is_part (C : C K mg) {fd : FuncData} (F : FunD K "is_part" "is_part" (defArgs s_is_part) (defBody s_is_part) (defScope s_is_part) [] [] (He.fAd K ("is_part", none)) fd) : FnOk P w K mg base (CX P w) 3 (He.fAd K ("is_part", none)) fd ["thing"] (liftSp K sp_is_part) := by
  have F_has_ends := @df_has_ends P w K mg base C
  have F_is_fraction := @df_is_fraction P w K mg base C
  have F_is_whole := @df_is_whole P w K mg base C
  refine TF.fn_okX (t := t_is_part) F sc_is_part (fun ds A Q E h => len_is_part h) (fun cdv A outer s H E Z0 wd hr tk => ?_) (fun ds A Q E h => rd_is_part h)
  have hu := uA hr
  have hu65 := uC hr
  have hu64 := uB hr
  exact (qss_cons (qs_if (qt_w (qw_or (qt_not (qt_val (qe_call F_has_ends hr (by decide) (by rfl) tk (qa_cons (qe_var (pv 0)) (qa_cons qe_int qa_nil))))) (qw_or (qt_not (qt_val (qe_call F_is_fraction hr (by decide) (by rfl) tk (qa_cons (qe_ix hu (qe_var (pv 0)) qe_int (fun _ _ => rfl)) qa_nil)))) (qw_or1 (qt_not (qt_val (qe_call F_is_fraction hr (by decide) (by rfl) tk (qa_cons (qe_ix hu (qe_var (pv 0)) qe_int (fun _ _ => rfl)) qa_nil))))))))
  (qss_one (qs_ret qe_bl))
  qss_nil)
  (qss_one (qs_ret (qe_and (qe_cmp lift_cmp op_ge (qe_ix hu (qe_ix hu (qe_var (pv 0)) qe_int (fun _ _ => rfl)) qe_int (fun _ _ => rfl)) qe_int (nomark _)) (qe_and (qe_call F_is_whole hr (by decide) (by rfl) tk (qa_cons (qe_ix hu (qe_var (pv 0)) qe_int (fun _ _ => rfl)) qa_nil)) (qe_one (qe_cmp lift_cmp op_gt (qe_ix hu (qe_var (pv 0)) qe_int (fun _ _ => rfl)) qe_int (nomark _))))))))
theorem df_is_part (C : C K mg) : DFn P w K mg base 3 "is_part" sp_is_part [] := by
  obtain ⟨fd, F⟩ := C.d_is_part
  exact dfn (ok_is_part C F) C.m_is_part F.kp (F.bindsN fun _ _ _ _ _ _ us hl => match us, hl with | [_], _ => rfl)
theorem sc_is_gap : FnScope ["thing"] ["thing"] (defScope s_is_gap) := ⟨rfl, rfl, rfl, by decide +kernel, rfl, by decide +kernel, by decide +kernel⟩
theorem ok_is_gap (C : C K mg) {fd : FuncData} (F : FunD K "is_gap" "is_gap" (defArgs s_is_gap) (defBody s_is_gap) (defScope s_is_gap) [] [] (He.fAd K ("is_gap", none)) fd) : FnOk P w K mg base (CX P w) 3 (He.fAd K ("is_gap", none)) fd ["thing"] (liftSp K sp_is_gap) := by
  have F_has_ends := @df_has_ends P w K mg base C
  have F_is_fraction := @df_is_fraction P w K mg base C
  have F_under := @df_under P w K mg base C
  refine TF.fn_okX (t := t_is_gap) F sc_is_gap (fun ds A Q E h => len_is_gap h) (fun cdv A outer s H E Z0 wd hr tk => ?_) (fun ds A Q E h => rd_is_gap h)
  have hu := uA hr
  have hu65 := uC hr
  have hu64 := uB hr
  exact (qss_cons (qs_if (qt_w (qw_or (qt_not (qt_val (qe_call F_has_ends hr (by decide) (by rfl) tk (qa_cons (qe_var (pv 0)) (qa_cons qe_int qa_nil))))) (qw_or (qt_not (qt_val (qe_call F_is_fraction hr (by decide) (by rfl) tk (qa_cons (qe_ix hu (qe_var (pv 0)) qe_int (fun _ _ => rfl)) qa_nil)))) (qw_or1 (qt_not (qt_val (qe_call F_is_fraction hr (by decide) (by rfl) tk (qa_cons (qe_ix hu (qe_var (pv 0)) qe_int (fun _ _ => rfl)) qa_nil))))))))
  (qss_one (qs_ret qe_bl))
  qss_nil)
  (qss_one (qs_ret (qe_not (qe_call F_under hr (by decide) (by rfl) tk (qa_cons (qe_ix hu (qe_var (pv 0)) qe_int (fun _ _ => rfl)) (qa_cons (qe_ix hu (qe_var (pv 0)) qe_int (fun _ _ => rfl)) qa_nil)))))))
theorem df_is_gap (C : C K mg) : DFn P w K mg base 3 "is_gap" sp_is_gap [] := by
  obtain ⟨fd, F⟩ := C.d_is_gap
  exact dfn (ok_is_gap C F) C.m_is_gap F.kp (F.bindsN fun _ _ _ _ _ _ us hl => match us, hl with | [_], _ => rfl)
theorem sc_way_between : FnScope ["parts", "one", "other", "ways", "queue", "here", "name", "start", "end", "size", "most", "weight"] ["parts", "one", "other"] (defScope s_way_between) := ⟨rfl, rfl, rfl, by decide +kernel, rfl, by decide +kernel, by decide +kernel⟩
theorem ok_way_between (C : C K mg) {fd : FuncData} (F : FunD K "way_between" "way_between" (defArgs s_way_between) (defBody s_way_between) (defScope s_way_between) [] [] (He.fAd K ("way_between", none)) fd) : FnOk P w K mg base (CX P w) 1 (He.fAd K ("way_between", none)) fd ["parts", "one", "other"] (liftSp K sp_way_between) := by
  refine TF.fn_okX (t := t_way_between) F sc_way_between (fun ds A Q E h => len_way_between h) (fun cdv A outer s H E Z0 wd hr tk => ?_) (fun ds A Q E h => rd_way_between h)
  have hu := uA hr
  have hu65 := uC hr
  have hu64 := uB hr
  exact (qss_cons (qs_set (i := 3) sc_way_between.nd rfl (.inl rfl) (qe_dic1 (qe_var (pv 1)) (qe_lst mkF_ok qa_nil)))
  (qss_cons (qs_set (i := 4) sc_way_between.nd rfl (.inl rfl) (qe_lst mkO_ok (qa_cons (qe_var (pv 1)) qa_nil)))
  (qss_cons (qs_while (passes_of rfl) (qt_cmp lift_cmp op_gt (qe_callB lift_len call_lenAll (by rfl) C.n_len (by decide +kernel) (qa_cons (qe_var (pv 4)) qa_nil)) qe_int (nomark _))
  (qss_cons (qs_set (i := 5) sc_way_between.nd rfl (.inl rfl) (qe_bm lift_popI PySem.F.plainAttrs_list PySem.F.slot_list_pop PySem.F.type_list_pop mt_popAt (qe_var (pv 4)) (qa_cons qe_int qa_nil)))
  (qss_one (qs_for (passes_of rfl) rfl (qi_seq (qe_var (pv 0))) (qg_tup rfl (qgs_cons (qg_name (i := 6) sc_way_between.nd rfl (.inl rfl)) (qgs_cons (qg_name (i := 7) sc_way_between.nd rfl (.inl rfl)) (qgs_cons (qg_name (i := 8) sc_way_between.nd rfl (.inl rfl)) (qgs_cons (qg_name (i := 9) sc_way_between.nd rfl (.inl rfl)) (qgs_cons (qg_name (i := 10) sc_way_between.nd rfl (.inl rfl)) (qgs_cons (qg_name (i := 11) sc_way_between.nd rfl (.inl rfl)) qgs_nil)))))))
  (qss_one (qs_if (qt_w (qw_and (qt_cmp lift_eq (op_eqD hu64) (qe_var (pv 7)) (qe_var (pv 5)) (nomark _)) (qw_and1 (qt_cmp lift_notin (op_notInAll hu65) (qe_var (pv 8)) (qe_var (pv 3)) (by rfl)))))
  (qss_cons (qs_asg (qe_add mkF_ok (qe_ix hu (qe_var (pv 3)) (qe_var (pv 5)) (fun _ _ => rfl)) (qe_lst mkF_ok (qa_cons (qe_tup (qa_cons (qe_var (pv 6)) (qa_cons qe_bl qa_nil))) qa_nil))) (qg_sub hu (qe_var (pv 3)) (qe_var (pv 8))))
  (qss_one (qs_expr (qe_bm lift_app PySem.F.plainAttrs_list PySem.F.slot_list_append PySem.F.type_list_append mt_append (qe_var (pv 4)) (qa_cons (qe_var (pv 8)) qa_nil)))))
  (qss_one (qs_if (qt_w (qw_and (qt_cmp lift_eq (op_eqD hu64) (qe_var (pv 8)) (qe_var (pv 5)) (nomark _)) (qw_and1 (qt_cmp lift_notin (op_notInAll hu65) (qe_var (pv 7)) (qe_var (pv 3)) (by rfl)))))
  (qss_cons (qs_asg (qe_add mkF_ok (qe_ix hu (qe_var (pv 3)) (qe_var (pv 5)) (fun _ _ => rfl)) (qe_lst mkF_ok (qa_cons (qe_tup (qa_cons (qe_var (pv 6)) (qa_cons qe_bl qa_nil))) qa_nil))) (qg_sub hu (qe_var (pv 3)) (qe_var (pv 7))))
  (qss_one (qs_expr (qe_bm lift_app PySem.F.plainAttrs_list PySem.F.slot_list_append PySem.F.type_list_append mt_append (qe_var (pv 4)) (qa_cons (qe_var (pv 7)) qa_nil)))))
  qss_nil))))))))
  (qss_fz (i := 3)
  (qss_one (qs_ret (qe_dget hu (qe_var (pv 3)) (qe_var (pv 2)))))))))
theorem df_way_between (C : C K mg) : DFn P w K mg base 1 "way_between" sp_way_between [] := by
  obtain ⟨fd, F⟩ := C.d_way_between
  exact dfn (ok_way_between C F) C.m_way_between F.kp (F.bindsN fun _ _ _ _ _ _ us hl => match us, hl with | [_, _, _], _ => rfl)
theorem sc_Thing_add_part : FnScope ["self", "part"] ["self", "part"] (defScope s_Thing_add_part) := ⟨rfl, rfl, rfl, by decide +kernel, rfl, by decide +kernel, by decide +kernel⟩
theorem ok_Thing_add_part (C : C K mg) {fd : FuncData} (F : FunD K "add_part" "Thing.add_part" (defArgs s_Thing_add_part) (defBody s_Thing_add_part) (defScope s_Thing_add_part) [] [] (He.fAd K ("Thing", some "add_part")) fd) : FnOk P w K mg base (CX P w) 4 (He.fAd K ("Thing", some "add_part")) fd ["self", "part"] (liftSp K sp_Thing_add_part) := by
  have F_is_part := @df_is_part P w K mg base C
  have F_way_between := @df_way_between P w K mg base C
  refine TF.fn_okX (t := t_Thing_add_part) F sc_Thing_add_part (fun ds A Q E h => len_Thing_add_part h) (fun cdv A outer s H E Z0 wd hr tk => ?_) (fun ds A Q E h => rd_Thing_add_part h)
  have hu := uA hr
  have hu65 := uC hr
  have hu64 := uB hr
  exact (qss_cons (qs_if (qt_not (qt_val (qe_call F_is_part hr (by decide) (by rfl) tk (qa_cons (qe_var (pv 1)) qa_nil))))
  (qss_one (qs_raiseC (c := "NoPart") C.x_NoPart C.g_NoPart rfl tk (by rfl) (by decide)))
  qss_nil)
  (qss_cons (qs_if (qt_cmp lift_in (op_inAll hu65) (qe_ix hu (qe_var (pv 1)) qe_int (fun _ _ => rfl)) (qe_fld C.f_sizes (qe_var (pv 0)) (by rfl)) (by rfl))
  (qss_one (qs_raiseC (c := "Twice") C.x_Twice C.g_Twice rfl tk (by rfl) (by decide)))
  qss_nil)
  (qss_cons (qs_if (qt_cmp lift_isnot op_isnotAll (qe_call F_way_between hr (by decide) (by rfl) tk (qa_cons (qe_fld C.f_kept_parts (qe_var (pv 0)) (by rfl)) (qa_cons (qe_ix hu (qe_var (pv 1)) qe_int (fun _ _ => rfl)) (qa_cons (qe_ix hu (qe_var (pv 1)) qe_int (fun _ _ => rfl)) qa_nil)))) qe_non (nomark _))
  (qss_one (qs_raiseC (c := "InRing") C.x_InRing C.g_InRing rfl tk (by rfl) (by decide)))
  qss_nil)
  (qss_cons (qs_expr (qe_bm lift_app PySem.F.plainAttrs_list PySem.F.slot_list_append PySem.F.type_list_append mt_append (qe_fld C.f_kept_parts (qe_var (pv 0)) (by rfl)) (qa_cons (qe_var (pv 1)) qa_nil)))
  (qss_one (qs_asg (qe_ix hu (qe_var (pv 1)) qe_int (fun _ _ => rfl)) (qg_sub hu (qe_fld C.f_sizes (qe_var (pv 0)) (by rfl)) (qe_ix hu (qe_var (pv 1)) qe_int (fun _ _ => rfl)))))))))
theorem dmt_add_part (C : C K mg) : ∀ p ∈ mt_add_part, DMeth P w K mg base 4 p.1 "add_part" p.2 := by
  exact (List.forall_mem_cons.mpr ⟨by
    obtain ⟨fd, F⟩ := C.d_Thing_add_part
    exact ⟨⟨_, fd, ["self", "part"], C.me_Thing_add_part.1, C.me_Thing_add_part.2, fnok_mono (ok_Thing_add_part C F) (by decide), F.bindsN fun _ _ _ _ _ _ us hl => match us, hl with | [_, _], _ => rfl⟩⟩, (fun _ h => nomatch h)⟩)
theorem sc_Thing_add_gap : FnScope ["self", "gap", "found"] ["self", "gap"] (defScope s_Thing_add_gap) := ⟨rfl, rfl, rfl, by decide +kernel, rfl, by decide +kernel, by decide +kernel⟩
theorem ok_Thing_add_gap (C : C K mg) {fd : FuncData} (F : FunD K "add_gap" "Thing.add_gap" (defArgs s_Thing_add_gap) (defBody s_Thing_add_gap) (defScope s_Thing_add_gap) [] [] (He.fAd K ("Thing", some "add_gap")) fd) : FnOk P w K mg base (CX P w) 4 (He.fAd K ("Thing", some "add_gap")) fd ["self", "gap"] (liftSp K sp_Thing_add_gap) := by
  have F_is_gap := @df_is_gap P w K mg base C
  have F_way_between := @df_way_between P w K mg base C
  refine TF.fn_okX (t := t_Thing_add_gap) F sc_Thing_add_gap (fun ds A Q E h => len_Thing_add_gap h) (fun cdv A outer s H E Z0 wd hr tk => ?_) (fun ds A Q E h => rd_Thing_add_gap h)
  have hu := uA hr
  have hu65 := uC hr
  have hu64 := uB hr
  exact (qss_cons (qs_if (qt_not (qt_val (qe_call F_is_gap hr (by decide) (by rfl) tk (qa_cons (qe_var (pv 1)) qa_nil))))
  (qss_one (qs_raiseC (c := "NoGap") C.x_NoGap C.g_NoGap rfl tk (by rfl) (by decide)))
  qss_nil)
  (qss_cons (qs_if (qt_cmp lift_in (op_inAll hu65) (qe_ix hu (qe_var (pv 1)) qe_int (fun _ _ => rfl)) (qe_fld C.f_kept_ways (qe_var (pv 0)) (by rfl)) (by rfl))
  (qss_one (qs_raiseC (c := "Twice") C.x_Twice C.g_Twice rfl tk (by rfl) (by decide)))
  qss_nil)
  (qss_cons (qs_set (i := 2) sc_Thing_add_gap.nd rfl (.inl rfl) (qe_call F_way_between hr (by decide) (by rfl) tk (qa_cons (qe_fld C.f_kept_parts (qe_var (pv 0)) (by rfl)) (qa_cons (qe_ix hu (qe_var (pv 1)) qe_int (fun _ _ => rfl)) (qa_cons (qe_ix hu (qe_var (pv 1)) qe_int (fun _ _ => rfl)) qa_nil)))))
  (qss_cons (qs_if (qt_cmp lift_is op_isAll (qe_var (pv 2)) qe_non (nomark _))
  (qss_one (qs_raiseC (c := "Apart") C.x_Apart C.g_Apart rfl tk (by rfl) (by decide)))
  qss_nil)
  (qss_cons (qs_expr (qe_bm lift_app PySem.F.plainAttrs_list PySem.F.slot_list_append PySem.F.type_list_append mt_append (qe_fld C.f_kept_gaps (qe_var (pv 0)) (by rfl)) (qa_cons (qe_var (pv 1)) qa_nil)))
  (qss_one (qs_asg (qe_var (pv 2)) (qg_sub hu (qe_fld C.f_kept_ways (qe_var (pv 0)) (by rfl)) (qe_ix hu (qe_var (pv 1)) qe_int (fun _ _ => rfl))))))))))
theorem dmt_add_gap (C : C K mg) : ∀ p ∈ mt_add_gap, DMeth P w K mg base 4 p.1 "add_gap" p.2 := by
  exact (List.forall_mem_cons.mpr ⟨by
    obtain ⟨fd, F⟩ := C.d_Thing_add_gap
    exact ⟨⟨_, fd, ["self", "gap"], C.me_Thing_add_gap.1, C.me_Thing_add_gap.2, fnok_mono (ok_Thing_add_gap C F) (by decide), F.bindsN fun _ _ _ _ _ _ us hl => match us, hl with | [_, _], _ => rfl⟩⟩, (fun _ h => nomatch h)⟩)
theorem sc_Thing___init__ : FnScope ["self", "parts", "gaps", "part", "gap"] ["self", "parts", "gaps"] (defScope s_Thing___init__) := ⟨rfl, rfl, rfl, by decide +kernel, rfl, by decide +kernel, by decide +kernel⟩
theorem ok_Thing___init__ (C : C K mg) {fd : FuncData} (F : FunD K "__init__" "Thing.__init__" (defArgs s_Thing___init__) (defBody s_Thing___init__) (defScope s_Thing___init__) [] [] (He.fAd K ("Thing", some "__init__")) fd) : FnOk P w K mg base (CX P w) 5 (He.fAd K ("Thing", some "__init__")) fd ["self", "parts", "gaps"] (liftSp K sp_Thing___init__) := by
  have MT_add_gap := @dmt_add_gap P w K mg base C
  have MT_add_part := @dmt_add_part P w K mg base C
  refine TF.fn_okX (t := t_Thing___init__) F sc_Thing___init__ (fun ds A Q E h => len_Thing___init__ h) (fun cdv A outer s H E Z0 wd hr tk => ?_) (fun ds A Q E h => rd_Thing___init__ h)
  have hu := uA hr
  have hu65 := uC hr
  have hu64 := uB hr
  exact (qss_cons (qs_fld C.f_kept_parts (qe_var (pv 0)) (qe_lst mkO_ok qa_nil) (by rfl))
  (qss_cons (qs_fld C.f_kept_gaps (qe_var (pv 0)) (qe_lst mkO_ok qa_nil) (by rfl))
  (qss_cons (qs_fld C.f_sizes (qe_var (pv 0)) qe_dic0 (by rfl))
  (qss_cons (qs_fld C.f_kept_ways (qe_var (pv 0)) qe_dic0 (by rfl))
  (qss_cons (qs_for (passes_of rfl) rfl (qi_seq (qe_var (pv 1))) (qg_name (i := 3) sc_Thing___init__.nd rfl (.inl rfl))
  (qss_one (qs_expr (qe_mth (m := "add_part") MT_add_part hr (by decide) tk (qe_var (pv 0)) (qa_cons (qe_var (pv 3)) qa_nil)))))
  (qss_one (qs_for (passes_of rfl) rfl (qi_seq (qe_var (pv 2))) (qg_name (i := 4) sc_Thing___init__.nd rfl (.inl rfl))
  (qss_one (qs_expr (qe_mth (m := "add_gap") MT_add_gap hr (by decide) tk (qe_var (pv 0)) (qa_cons (qe_var (pv 4)) qa_nil)))))))))))
theorem mkc_Thing (C : C K mg) : DMake P w K mg base 5 "Thing" sp_Thing___init__ := by
  obtain ⟨fd, F⟩ := C.d_Thing___init__
  exact ⟨⟨_, fd, ["self", "parts", "gaps"], C.mk_Thing, ok_Thing___init__ C F, C.g_Thing, (F.bindsN fun _ _ _ _ _ _ us hl => match us, hl with | [_, _, _], _ => rfl)⟩⟩
theorem sc_Thing_way : FnScope ["self", "name"] ["self", "name"] (defScope s_Thing_way) := ⟨rfl, rfl, rfl, by decide +kernel, rfl, by decide +kernel, by decide +kernel⟩
theorem ok_Thing_way (C : C K mg) {fd : FuncData} (F : FunD K "way" "Thing.way" (defArgs s_Thing_way) (defBody s_Thing_way) (defScope s_Thing_way) [] [] (He.fAd K ("Thing", some "way")) fd) : FnOk P w K mg base (CX P w) 1 (He.fAd K ("Thing", some "way")) fd ["self", "name"] (liftSp K sp_Thing_way) := by
  refine TF.fn_okX (t := t_Thing_way) F sc_Thing_way (fun ds A Q E h => len_Thing_way h) (fun cdv A outer s H E Z0 wd hr tk => ?_) (fun ds A Q E h => rd_Thing_way h)
  have hu := uA hr
  have hu65 := uC hr
  have hu64 := uB hr
  exact (qss_cons (qs_if (qt_cmp lift_notin (op_notInAll hu65) (qe_var (pv 1)) (qe_fld C.f_kept_ways (qe_var (pv 0)) (by rfl)) (by rfl))
  (qss_one (qs_raiseC (c := "NoName") C.x_NoName C.g_NoName rfl tk (by rfl) (by decide)))
  qss_nil)
  (qss_one (qs_ret (qe_callTy (lift_list mkO_ok) (call_listAll rfl) (by rfl) C.n_list (by decide +kernel) (qa_cons (qe_ix hu (qe_fld C.f_kept_ways (qe_var (pv 0)) (by rfl)) (qe_var (pv 1)) (fun _ _ => rfl)) qa_nil)))))
theorem dmt_way (C : C K mg) : ∀ p ∈ mt_way, DMeth P w K mg base 1 p.1 "way" p.2 := by
  exact (List.forall_mem_cons.mpr ⟨by
    obtain ⟨fd, F⟩ := C.d_Thing_way
    exact ⟨⟨_, fd, ["self", "name"], C.me_Thing_way.1, C.me_Thing_way.2, fnok_mono (ok_Thing_way C F) (by decide), F.bindsN fun _ _ _ _ _ _ us hl => match us, hl with | [_, _], _ => rfl⟩⟩, (fun _ h => nomatch h)⟩)
theorem sc_Thing_middle : FnScope ["self", "name", "total", "part", "forward"] ["self", "name"] (defScope s_Thing_middle) := ⟨rfl, rfl, rfl, by decide +kernel, rfl, by decide +kernel, by decide +kernel⟩
theorem ok_Thing_middle (C : C K mg) {fd : FuncData} (F : FunD K "middle" "Thing.middle" (defArgs s_Thing_middle) (defBody s_Thing_middle) (defScope s_Thing_middle) [] [] (He.fAd K ("Thing", some "middle")) fd) : FnOk P w K mg base (CX P w) 4 (He.fAd K ("Thing", some "middle")) fd ["self", "name"] (liftSp K sp_Thing_middle) := by
  have F_minus := @df_minus P w K mg base C
  have F_plus := @df_plus P w K mg base C
  have MT_way := @dmt_way P w K mg base C
  refine TF.fn_okX (t := t_Thing_middle) F sc_Thing_middle (fun ds A Q E h => len_Thing_middle h) (fun cdv A outer s H E Z0 wd hr tk => ?_) (fun ds A Q E h => rd_Thing_middle h)
  have hu := uA hr
  have hu65 := uC hr
  have hu64 := uB hr
  exact (qss_cons (qs_set (i := 2) sc_Thing_middle.nd rfl (.inl rfl) (qe_tup (qa_cons qe_int (qa_cons qe_int qa_nil))))
  (qss_cons (qs_for (passes_of rfl) rfl (qi_seq (qe_fz (qe_mth (m := "way") MT_way hr (by decide) tk (qe_var (pv 0)) (qa_cons (qe_var (pv 1)) qa_nil)))) (qg_tup rfl (qgs_cons (qg_name (i := 3) sc_Thing_middle.nd rfl (.inl rfl)) (qgs_cons (qg_name (i := 4) sc_Thing_middle.nd rfl (.inl rfl)) qgs_nil)))
  (qss_one (qs_if (qt_val (qe_var (pv 4)))
  (qss_one (qs_set (i := 2) sc_Thing_middle.nd rfl (.inl rfl) (qe_call F_plus hr (by decide) (by rfl) tk (qa_cons (qe_var (pv 2)) (qa_cons (qe_ix hu (qe_fld C.f_sizes (qe_var (pv 0)) (by rfl)) (qe_var (pv 3)) (fun _ _ => rfl)) qa_nil)))))
  (qss_one (qs_set (i := 2) sc_Thing_middle.nd rfl (.inl rfl) (qe_call F_minus hr (by decide) (by rfl) tk (qa_cons (qe_var (pv 2)) (qa_cons (qe_ix hu (qe_fld C.f_sizes (qe_var (pv 0)) (by rfl)) (qe_var (pv 3)) (fun _ _ => rfl)) qa_nil))))))))
  (qss_one (qs_ret (qe_var (pv 2))))))
theorem dmt_middle (C : C K mg) : ∀ p ∈ mt_middle, DMeth P w K mg base 4 p.1 "middle" p.2 := by
  exact (List.forall_mem_cons.mpr ⟨by
    obtain ⟨fd, F⟩ := C.d_Thing_middle
    exact ⟨⟨_, fd, ["self", "name"], C.me_Thing_middle.1, C.me_Thing_middle.2, fnok_mono (ok_Thing_middle C F) (by decide), F.bindsN fun _ _ _ _ _ _ us hl => match us, hl with | [_, _], _ => rfl⟩⟩, (fun _ h => nomatch h)⟩)
theorem sc_Thing_room : FnScope ["self", "name", "middle", "gap", "below", "above"] ["self", "name"] (defScope s_Thing_room) := ⟨rfl, rfl, rfl, by decide +kernel, rfl, by decide +kernel, by decide +kernel⟩
theorem ok_Thing_room (C : C K mg) {fd : FuncData} (F : FunD K "room" "Thing.room" (defArgs s_Thing_room) (defBody s_Thing_room) (defScope s_Thing_room) [] [] (He.fAd K ("Thing", some "room")) fd) : FnOk P w K mg base (CX P w) 5 (He.fAd K ("Thing", some "room")) fd ["self", "name"] (liftSp K sp_Thing_room) := by
  have F_minus := @df_minus P w K mg base C
  have F_under := @df_under P w K mg base C
  have MT_middle := @dmt_middle P w K mg base C
  refine TF.fn_okX (t := t_Thing_room) F sc_Thing_room (fun ds A Q E h => len_Thing_room h) (fun cdv A outer s H E Z0 wd hr tk => ?_) (fun ds A Q E h => rd_Thing_room h)
  have hu := uA hr
  have hu65 := uC hr
  have hu64 := uB hr
  exact (qss_cons (qs_set (i := 2) sc_Thing_room.nd rfl (.inl rfl) (qe_mth (m := "middle") MT_middle hr (by decide) tk (qe_var (pv 0)) (qa_cons (qe_var (pv 1)) qa_nil)))
  (qss_cons (qs_for (passes_of rfl) rfl (qi_seq (qe_fld C.f_kept_gaps (qe_var (pv 0)) (by rfl))) (qg_name (i := 3) sc_Thing_room.nd rfl (.inl rfl))
  (qss_one (qs_if (qt_cmp lift_eq (op_eqD hu64) (qe_ix hu (qe_var (pv 3)) qe_int (fun _ _ => rfl)) (qe_var (pv 1)) (nomark _))
  (qss_cons (qs_set (i := 4) sc_Thing_room.nd rfl (.inl rfl) (qe_call F_minus hr (by decide) (by rfl) tk (qa_cons (qe_var (pv 2)) (qa_cons (qe_ix hu (qe_var (pv 3)) qe_int (fun _ _ => rfl)) qa_nil))))
  (qss_one (qs_set (i := 5) sc_Thing_room.nd rfl (.inl rfl) (qe_call F_minus hr (by decide) (by rfl) tk (qa_cons (qe_ix hu (qe_var (pv 3)) qe_int (fun _ _ => rfl)) (qa_cons (qe_var (pv 2)) qa_nil))))))
  qss_nil)))
  (qss_cons (qs_if (qt_val (qe_call F_under hr (by decide) (by rfl) tk (qa_cons (qe_var (pv 5)) (qa_cons (qe_var (pv 4)) qa_nil))))
  (qss_one (qs_ret (qe_var (pv 5))))
  qss_nil)
  (qss_one (qs_ret (qe_var (pv 4)))))))
theorem dmt_room (C : C K mg) : ∀ p ∈ mt_room, DMeth P w K mg base 5 p.1 "room" p.2 := by
  exact (List.forall_mem_cons.mpr ⟨by
    obtain ⟨fd, F⟩ := C.d_Thing_room
    exact ⟨⟨_, fd, ["self", "name"], C.me_Thing_room.1, C.me_Thing_room.2, fnok_mono (ok_Thing_room C F) (by decide), F.bindsN fun _ _ _ _ _ _ us hl => match us, hl with | [_, _], _ => rfl⟩⟩, (fun _ h => nomatch h)⟩)
theorem sc__law_cell : FnScope ["_law_script", "_law_k", "_law_total", "_law_j"] ["_law_script", "_law_k"] (defScope s__law_cell) := ⟨rfl, rfl, rfl, by decide +kernel, rfl, by decide +kernel, by decide +kernel⟩
theorem ok__law_cell (C : C K mg) {fd : FuncData} (F : FunD K "_law_cell" "_law_cell" (defArgs s__law_cell) (defBody s__law_cell) (defScope s__law_cell) [] [] (He.fAd K ("_law_cell", none)) fd) : FnOk P w K mg base (CX P w) 1 (He.fAd K ("_law_cell", none)) fd ["_law_script", "_law_k"] (liftSp K sp__law_cell) := by
  refine TF.fn_okX (t := t__law_cell) F sc__law_cell (fun ds A Q E h => len__law_cell h) (fun cdv A outer s H E Z0 wd hr tk => ?_) (fun ds A Q E h => rd__law_cell h)
  have hu := uA hr
  have hu65 := uC hr
  have hu64 := uB hr
  exact (qss_cons (qs_set (i := 2) sc__law_cell.nd rfl (.inl rfl) qe_int)
  (qss_cons (qs_for (passes_of rfl) rfl (qi_range3 (by rfl) C.n_range (qa_cons (qe_var (pv 1)) (qa_cons (qe_callB lift_min (call_min2 rfl) (by rfl) C.n_min (by decide +kernel) (qa_cons (qe_callB lift_len call_lenAll (by rfl) C.n_len (by decide +kernel) (qa_cons (qe_var (pv 0)) qa_nil)) (qa_cons qe_int qa_nil))) (qa_cons qe_int qa_nil)))) (qg_name (i := 3) sc__law_cell.nd rfl (.inl rfl))
  (qss_one (qs_set (i := 2) sc__law_cell.nd rfl (.inl rfl) (qe_add mkF_ok (qe_var (pv 2)) (qe_mul (qe_ix hu (qe_var (pv 0)) (qe_var (pv 3)) (fun _ _ => rfl)) (qe_add mkF_ok qe_int (qe_var (pv 3))))))))
  (qss_one (qs_ret (qe_var (pv 2))))))
theorem df__law_cell (C : C K mg) : DFn P w K mg base 1 "_law_cell" sp__law_cell [] := by
  obtain ⟨fd, F⟩ := C.d__law_cell
  exact dfn (ok__law_cell C F) C.m__law_cell F.kp (F.bindsN fun _ _ _ _ _ _ us hl => match us, hl with | [_, _], _ => rfl)
theorem sc__law_signed : FnScope ["_law_cell_here", "_law_most"] ["_law_cell_here", "_law_most"] (defScope s__law_signed) := ⟨rfl, rfl, rfl, by decide +kernel, rfl, by decide +kernel, by decide +kernel⟩
theorem ok__law_signed (C : C K mg) {fd : FuncData} (F : FunD K "_law_signed" "_law_signed" (defArgs s__law_signed) (defBody s__law_signed) (defScope s__law_signed) [] [] (He.fAd K ("_law_signed", none)) fd) : FnOk P w K mg base (CX P w) 1 (He.fAd K ("_law_signed", none)) fd ["_law_cell_here", "_law_most"] (liftSp K sp__law_signed) := by
  refine TF.fn_okX (t := t__law_signed) F sc__law_signed (fun ds A Q E h => len__law_signed h) (fun cdv A outer s H E Z0 wd hr tk => ?_) (fun ds A Q E h => rd__law_signed h)
  have hu := uA hr
  have hu65 := uC hr
  have hu64 := uB hr
  exact (qss_cons (qs_if (qt_cmp lift_cmp op_lt (qe_var (pv 0)) qe_int (nomark _))
  (qss_one (qs_ret (qe_sub qe_int (qe_mod (qe_sub qe_int (qe_var (pv 0))) (qe_var (pv 1))))))
  qss_nil)
  (qss_one (qs_ret (qe_mod (qe_var (pv 0)) (qe_var (pv 1))))))
theorem df__law_signed (C : C K mg) : DFn P w K mg base 1 "_law_signed" sp__law_signed [] := by
  obtain ⟨fd, F⟩ := C.d__law_signed
  exact dfn (ok__law_signed C F) C.m__law_signed F.kp (F.bindsN fun _ _ _ _ _ _ us hl => match us, hl with | [_, _], _ => rfl)
theorem sc__law_low : FnScope ["_law_top", "_law_bottom", "_law_one", "_law_other", "_law_rest"] ["_law_top", "_law_bottom"] (defScope s__law_low) := ⟨rfl, rfl, rfl, by decide +kernel, rfl, by decide +kernel, by decide +kernel⟩
theorem ok__law_low (C : C K mg) {fd : FuncData} (F : FunD K "_law_low" "_law_low" (defArgs s__law_low) (defBody s__law_low) (defScope s__law_low) [] [] (He.fAd K ("_law_low", none)) fd) : FnOk P w K mg base (CX P w) 1 (He.fAd K ("_law_low", none)) fd ["_law_top", "_law_bottom"] (liftSp K sp__law_low) := by
  refine TF.fn_okX (t := t__law_low) F sc__law_low (fun ds A Q E h => len__law_low h) (fun cdv A outer s H E Z0 wd hr tk => ?_) (fun ds A Q E h => rd__law_low h)
  have hu := uA hr
  have hu65 := uC hr
  have hu64 := uB hr
  exact (qss_cons (qs_set (i := 2) sc__law_low.nd rfl (.inl rfl) (qe_var (pv 0)))
  (qss_cons (qs_set (i := 3) sc__law_low.nd rfl (.inl rfl) (qe_var (pv 1)))
  (qss_cons (qs_while (passes_of rfl) (qt_cmp lift_ne (op_neD hu64) (qe_var (pv 3)) qe_int (nomark _))
  (qss_cons (qs_set (i := 4) sc__law_low.nd rfl (.inl rfl) (qe_mod (qe_var (pv 2)) (qe_var (pv 3))))
  (qss_cons (qs_set (i := 2) sc__law_low.nd rfl (.inl rfl) (qe_var (pv 3)))
  (qss_one (qs_set (i := 3) sc__law_low.nd rfl (.inl rfl) (qe_var (pv 4)))))))
  (qss_one (qs_ret (qe_tup (qa_cons (qe_div (qe_var (pv 0)) (qe_callB lift_abs call_abs (by rfl) C.n_abs (by decide +kernel) (qa_cons (qe_var (pv 2)) qa_nil))) (qa_cons (qe_div (qe_var (pv 1)) (qe_callB lift_abs call_abs (by rfl) C.n_abs (by decide +kernel) (qa_cons (qe_var (pv 2)) qa_nil))) qa_nil))))))))
theorem df__law_low (C : C K mg) : DFn P w K mg base 1 "_law_low" sp__law_low [] := by
  obtain ⟨fd, F⟩ := C.d__law_low
  exact dfn (ok__law_low C F) C.m__law_low F.kp (F.bindsN fun _ _ _ _ _ _ us hl => match us, hl with | [_, _], _ => rfl)
theorem sc__law_plus : FnScope ["_law_one", "_law_other", "_law_sign"] ["_law_one", "_law_other", "_law_sign"] (defScope s__law_plus) := ⟨rfl, rfl, rfl, by decide +kernel, rfl, by decide +kernel, by decide +kernel⟩
theorem ok__law_plus (C : C K mg) {fd : FuncData} (F : FunD K "_law_plus" "_law_plus" (defArgs s__law_plus) (defBody s__law_plus) (defScope s__law_plus) [] [] (He.fAd K ("_law_plus", none)) fd) : FnOk P w K mg base (CX P w) 2 (He.fAd K ("_law_plus", none)) fd ["_law_one", "_law_other", "_law_sign"] (liftSp K sp__law_plus) := by
  have F__law_low := @df__law_low P w K mg base C
  refine TF.fn_okX (t := t__law_plus) F sc__law_plus (fun ds A Q E h => len__law_plus h) (fun cdv A outer s H E Z0 wd hr tk => ?_) (fun ds A Q E h => rd__law_plus h)
  have hu := uA hr
  have hu65 := uC hr
  have hu64 := uB hr
  exact (qss_one (qs_ret (qe_call F__law_low hr (by decide) (by rfl) tk (qa_cons (qe_add mkF_ok (qe_mul (qe_ix hu (qe_var (pv 0)) qe_int (fun _ _ => rfl)) (qe_ix hu (qe_var (pv 1)) qe_int (fun _ _ => rfl))) (qe_mul (qe_mul (qe_var (pv 2)) (qe_ix hu (qe_var (pv 1)) qe_int (fun _ _ => rfl))) (qe_ix hu (qe_var (pv 0)) qe_int (fun _ _ => rfl)))) (qa_cons (qe_mul (qe_ix hu (qe_var (pv 0)) qe_int (fun _ _ => rfl)) (qe_ix hu (qe_var (pv 1)) qe_int (fun _ _ => rfl))) qa_nil)))))
theorem df__law_plus (C : C K mg) : DFn P w K mg base 2 "_law_plus" sp__law_plus [] := by
  obtain ⟨fd, F⟩ := C.d__law_plus
  exact dfn (ok__law_plus C F) C.m__law_plus F.kp (F.bindsN fun _ _ _ _ _ _ us hl => match us, hl with | [_, _, _], _ => rfl)
theorem sc__law_name : FnScope ["_law_k", "_law_sign", "_law_style"] ["_law_k", "_law_sign", "_law_style"] (defScope s__law_name) := ⟨rfl, rfl, rfl, by decide +kernel, rfl, by decide +kernel, by decide +kernel⟩
theorem ok__law_name (C : C K mg) {fd : FuncData} (F : FunD K "_law_name" "_law_name" (defArgs s__law_name) (defBody s__law_name) (defScope s__law_name) [] [] (He.fAd K ("_law_name", none)) fd) : FnOk P w K mg base (CX P w) 1 (He.fAd K ("_law_name", none)) fd ["_law_k", "_law_sign", "_law_style"] (liftSp K sp__law_name) := by
  refine TF.fn_okX (t := t__law_name) F sc__law_name (fun ds A Q E h => len__law_name h) (fun cdv A outer s H E Z0 wd hr tk => ?_) (fun ds A Q E h => rd__law_name h)
  have hu := uA hr
  have hu65 := uC hr
  have hu64 := uB hr
  exact (qss_one (qs_ret (qe_add mkF_ok (qe_add mkF_ok (qe_mul (qe_var (pv 1)) (qe_var (pv 2))) (qe_ix hu qe_str (qe_var (pv 0)) (fun _ _ => rfl))) (qe_mul (qe_var (pv 1)) (qe_sub qe_int (qe_var (pv 2)))))))
theorem df__law_name (C : C K mg) : DFn P w K mg base 1 "_law_name" sp__law_name [] := by
  obtain ⟨fd, F⟩ := C.d__law_name
  exact dfn (ok__law_name C F) C.m__law_name F.kp (F.bindsN fun _ _ _ _ _ _ us hl => match us, hl with | [_, _, _], _ => rfl)
theorem sc__law_parts : FnScope ["_law_script", "_law_style", "_law_parts_here", "_law_spots", "_law_k", "_law_cell_here", "_law_mixed", "_law_here", "_law_there", "_law_other", "_law_size", "_law_most", "_law_ends"] ["_law_script", "_law_style"] (defScope s__law_parts) := ⟨rfl, rfl, rfl, by decide +kernel, rfl, by decide +kernel, by decide +kernel⟩
theorem ok__law_parts (C : C K mg) {fd : FuncData} (F : FunD K "_law_parts" "_law_parts" (defArgs s__law_parts) (defBody s__law_parts) (defScope s__law_parts) [] [] (He.fAd K ("_law_parts", none)) fd) : FnOk P w K mg base (CX P w) 3 (He.fAd K ("_law_parts", none)) fd ["_law_script", "_law_style"] (liftSp K sp__law_parts) := by
  have F__law_cell := @df__law_cell P w K mg base C
  have F__law_low := @df__law_low P w K mg base C
  have F__law_name := @df__law_name P w K mg base C
  have F__law_plus := @df__law_plus P w K mg base C
  have F__law_signed := @df__law_signed P w K mg base C
  refine TF.fn_okX (t := t__law_parts) F sc__law_parts (fun ds A Q E h => len__law_parts h) (fun cdv A outer s H E Z0 wd hr tk => ?_) (fun ds A Q E h => rd__law_parts h)
  have hu := uA hr
  have hu65 := uC hr
  have hu64 := uB hr
  exact (qss_cons (qs_set (i := 2) sc__law_parts.nd rfl (.inl rfl) (qe_lst mkO_ok qa_nil))
  (qss_cons (qs_set (i := 3) sc__law_parts.nd rfl (.inl rfl) qe_dic0)
  (qss_cons (qs_for (passes_of rfl) rfl (qi_range1 (by rfl) C.n_range (qa_cons (qe_add mkF_ok qe_int (qe_mod (qe_call F__law_cell hr (by decide) (by rfl) tk (qa_cons (qe_var (pv 0)) (qa_cons qe_int qa_nil))) qe_int)) qa_nil)) (qg_name (i := 4) sc__law_parts.nd rfl (.inl rfl))
  (qss_cons (qs_set (i := 5) sc__law_parts.nd rfl (.inl rfl) (qe_call F__law_cell hr (by decide) (by rfl) tk (qa_cons (qe_var (pv 0)) (qa_cons (qe_add mkF_ok qe_int (qe_mul qe_int (qe_var (pv 4)))) qa_nil))))
  (qss_cons (qs_set (i := 6) sc__law_parts.nd rfl (.inl rfl) (qe_div (qe_mod (qe_mul (qe_var (pv 5)) qe_int) qe_int) qe_int))
  (qss_cons (qs_if (qt_w (qw_or (qt_cmp lift_eq (op_eqD hu64) (qe_callB lift_len call_lenAll (by rfl) C.n_len (by decide +kernel) (qa_cons (qe_var (pv 3)) qa_nil)) qe_int (nomark _)) (qw_or1 (qt_cmp lift_eq (op_eqD hu64) (qe_mod (qe_div (qe_var (pv 6)) qe_int) qe_int) qe_int (nomark _)))))
  (qss_cons (qs_set (i := 7) sc__law_parts.nd rfl (.inl rfl) (qe_call F__law_name hr (by decide) (by rfl) tk (qa_cons (qe_callB lift_len call_lenAll (by rfl) C.n_len (by decide +kernel) (qa_cons (qe_var (pv 3)) qa_nil)) (qa_cons qe_str (qa_cons (qe_var (pv 1)) qa_nil)))))
  (qss_one (qs_asg (qe_tup (qa_cons (qe_var (pv 7)) (qa_cons (qe_tup (qa_cons qe_int (qa_cons qe_int qa_nil))) qa_nil))) (qg_sub hu (qe_var (pv 3)) (qe_var (pv 7))))))
  (qss_one (qs_set (i := 7) sc__law_parts.nd rfl (.inl rfl) (qe_ix hu (qe_callB (lift_sorted mkF_ok) (call_sortedAll rfl) (by rfl) C.n_sorted (by decide +kernel) (qa_cons (qe_var (pv 3)) qa_nil)) (qe_mod (qe_var (pv 6)) (qe_callB lift_len call_lenAll (by rfl) C.n_len (by decide +kernel) (qa_cons (qe_var (pv 3)) qa_nil))) (fun _ _ => rfl)))))
  (qss_cons (qs_set (i := 8) sc__law_parts.nd rfl (.inl rfl) (qe_call F__law_name hr (by decide) (by rfl) tk (qa_cons (qe_callB lift_len call_lenAll (by rfl) C.n_len (by decide +kernel) (qa_cons (qe_var (pv 3)) qa_nil)) (qa_cons qe_str (qa_cons (qe_var (pv 1)) qa_nil)))))
  (qss_cons (qs_set (i := 9) sc__law_parts.nd rfl (.inl rfl) (qe_call F__law_cell hr (by decide) (by rfl) tk (qa_cons (qe_var (pv 0)) (qa_cons (qe_add mkF_ok qe_int (qe_mul qe_int (qe_var (pv 4)))) qa_nil))))
  (qss_cons (qs_set (i := 10) sc__law_parts.nd rfl (.inl rfl) (qe_call F__law_low hr (by decide) (by rfl) tk (qa_cons (qe_call F__law_signed hr (by decide) (by rfl) tk (qa_cons (qe_var (pv 9)) (qa_cons (qe_ix hu (qe_lst mkF_ok (qa_cons qe_int (qa_cons (qe_pow qe_int qe_int) qa_nil))) (qe_mod (qe_div (qe_var (pv 6)) qe_int) qe_int) (fun _ _ => rfl)) qa_nil))) (qa_cons (qe_add mkF_ok qe_int (qe_mod (qe_div (qe_var (pv 6)) qe_int) qe_int)) qa_nil))))
  (qss_cons (qs_set (i := 11) sc__law_parts.nd rfl (.inl rfl) (qe_call F__law_low hr (by decide) (by rfl) tk (qa_cons (qe_mod (qe_var (pv 9)) qe_int) (qa_cons (qe_add mkF_ok qe_int (qe_mod (qe_div (qe_var (pv 6)) qe_int) qe_int)) qa_nil))))
  (qss_cons (qs_set (i := 12) sc__law_parts.nd rfl (.inl rfl) (qe_ix hu (qe_lst mkF_ok (qa_cons (qe_tup (qa_cons (qe_var (pv 7)) (qa_cons (qe_var (pv 8)) qa_nil))) (qa_cons (qe_tup (qa_cons (qe_var (pv 8)) (qa_cons (qe_var (pv 7)) qa_nil))) qa_nil))) (qe_mod (qe_div (qe_var (pv 6)) qe_int) qe_int) (fun _ _ => rfl)))
  (qss_cons (qs_expr (qe_bm lift_app PySem.F.plainAttrs_list PySem.F.slot_list_append PySem.F.type_list_append mt_append (qe_var (pv 2)) (qa_cons (qe_tup (qa_cons (qe_call F__law_name hr (by decide) (by rfl) tk (qa_cons (qe_var (pv 4)) (qa_cons qe_str (qa_cons (qe_var (pv 1)) qa_nil)))) (qa_cons (qe_ix hu (qe_var (pv 12)) qe_int (fun _ _ => rfl)) (qa_cons (qe_ix hu (qe_var (pv 12)) qe_int (fun _ _ => rfl)) (qa_cons (qe_var (pv 10)) (qa_cons (qe_var (pv 11)) (qa_cons (qe_add mkF_ok qe_int (qe_mod (qe_div (qe_var (pv 6)) qe_int) qe_int)) qa_nil))))))) qa_nil)))
  (qss_one (qs_asg (qe_tup (qa_cons (qe_ix hu (qe_ix hu (qe_var (pv 3)) (qe_var (pv 7)) (fun _ _ => rfl)) qe_int (fun _ _ => rfl)) (qa_cons (qe_call F__law_plus hr (by decide) (by rfl) tk (qa_cons (qe_ix hu (qe_ix hu (qe_var (pv 3)) (qe_var (pv 7)) (fun _ _ => rfl)) qe_int (fun _ _ => rfl)) (qa_cons (qe_var (pv 10)) (qa_cons (qe_sub qe_int (qe_mul qe_int (qe_mod (qe_div (qe_var (pv 6)) qe_int) qe_int))) qa_nil)))) qa_nil))) (qg_sub hu (qe_var (pv 3)) (qe_var (pv 8)))))))))))))))
  (qss_fz (i := 2)
  (qss_fz (i := 3)
  (qss_one (qs_ret (qe_tup (qa_cons (qe_var (pv 2)) (qa_cons (qe_var (pv 3)) qa_nil))))))))))
theorem df__law_parts (C : C K mg) : DFn P w K mg base 3 "_law_parts" sp__law_parts [] := by
  obtain ⟨fd, F⟩ := C.d__law_parts
  exact dfn (ok__law_parts C F) C.m__law_parts F.kp (F.bindsN fun _ _ _ _ _ _ us hl => match us, hl with | [_, _], _ => rfl)
theorem sc__law_listed : FnScope ["_law_script", "_law_parts_here", "_law_kept", "_law_k"] ["_law_script", "_law_parts_here"] (defScope s__law_listed) := ⟨rfl, rfl, rfl, by decide +kernel, rfl, by decide +kernel, by decide +kernel⟩
theorem ok__law_listed (C : C K mg) {fd : FuncData} (F : FunD K "_law_listed" "_law_listed" (defArgs s__law_listed) (defBody s__law_listed) (defScope s__law_listed) [] [] (He.fAd K ("_law_listed", none)) fd) : FnOk P w K mg base (CX P w) 2 (He.fAd K ("_law_listed", none)) fd ["_law_script", "_law_parts_here"] (liftSp K sp__law_listed) := by
  have F__law_cell := @df__law_cell P w K mg base C
  refine TF.fn_okX (t := t__law_listed) F sc__law_listed (fun ds A Q E h => len__law_listed h) (fun cdv A outer s H E Z0 wd hr tk => ?_) (fun ds A Q E h => rd__law_listed h)
  have hu := uA hr
  have hu65 := uC hr
  have hu64 := uB hr
  exact (qss_cons (qs_set (i := 2) sc__law_listed.nd rfl (.inl rfl) (qe_lst mkO_ok qa_nil))
  (qss_cons (qs_for (passes_of rfl) rfl (qi_range1 (by rfl) C.n_range (qa_cons (qe_callB lift_len call_lenAll (by rfl) C.n_len (by decide +kernel) (qa_cons (qe_var (pv 1)) qa_nil)) qa_nil)) (qg_name (i := 3) sc__law_listed.nd rfl (.inl rfl))
  (qss_one (qs_expr (qe_bm lift_ins PySem.F.plainAttrs_list PySem.F.slot_list_insert PySem.F.type_list_insert mt_insert (qe_var (pv 2)) (qa_cons (qe_mod (qe_div (qe_mod (qe_mul (qe_call F__law_cell hr (by decide) (by rfl) tk (qa_cons (qe_var (pv 0)) (qa_cons (qe_add mkF_ok qe_int (qe_mul qe_int (qe_var (pv 3)))) qa_nil))) qe_int) qe_int) qe_int) (qe_add mkF_ok qe_int (qe_var (pv 3)))) (qa_cons (qe_ix hu (qe_var (pv 1)) (qe_var (pv 3)) (fun _ _ => rfl)) qa_nil))))))
  (qss_fz (i := 2)
  (qss_one (qs_ret (qe_var (pv 2)))))))
theorem df__law_listed (C : C K mg) : DFn P w K mg base 2 "_law_listed" sp__law_listed [] := by
  obtain ⟨fd, F⟩ := C.d__law_listed
  exact dfn (ok__law_listed C F) C.m__law_listed F.kp (F.bindsN fun _ _ _ _ _ _ us hl => match us, hl with | [_, _], _ => rfl)
theorem sc__law_gaps : FnScope ["_law_script", "_law_spots", "_law_style", "_law_gaps_here", "_law_k", "_law_cell_here", "_law_mixed", "_law_faces", "_law_one", "_law_same", "_law_face", "_law_two", "_law_middle", "_law_other", "_law_low_here", "_law_high"] ["_law_script", "_law_spots", "_law_style"] (defScope s__law_gaps) := ⟨rfl, rfl, rfl, by decide +kernel, rfl, by decide +kernel, by decide +kernel⟩
theorem ok__law_gaps (C : C K mg) {fd : FuncData} (F : FunD K "_law_gaps" "_law_gaps" (defArgs s__law_gaps) (defBody s__law_gaps) (defScope s__law_gaps) [] [] (He.fAd K ("_law_gaps", none)) fd) : FnOk P w K mg base (CX P w) 3 (He.fAd K ("_law_gaps", none)) fd ["_law_script", "_law_spots", "_law_style"] (liftSp K sp__law_gaps) := by
  have F__law_cell := @df__law_cell P w K mg base C
  have F__law_low := @df__law_low P w K mg base C
  have F__law_name := @df__law_name P w K mg base C
  have F__law_plus := @df__law_plus P w K mg base C
  refine TF.fn_okX (t := t__law_gaps) F sc__law_gaps (fun ds A Q E h => len__law_gaps h) (fun cdv A outer s H E Z0 wd hr tk => ?_) (fun ds A Q E h => rd__law_gaps h)
  have hu := uA hr
  have hu65 := uC hr
  have hu64 := uB hr
  exact (qss_cons (qs_set (i := 3) sc__law_gaps.nd rfl (.inl rfl) (qe_lst mkO_ok qa_nil))
  (qss_cons (qs_for (passes_of rfl) rfl (qi_range1 (by rfl) C.n_range (qa_cons (qe_mod (qe_call F__law_cell hr (by decide) (by rfl) tk (qa_cons (qe_var (pv 0)) (qa_cons qe_int qa_nil))) qe_int) qa_nil)) (qg_name (i := 4) sc__law_gaps.nd rfl (.inl rfl))
  (qss_cons (qs_set (i := 5) sc__law_gaps.nd rfl (.inl rfl) (qe_call F__law_cell hr (by decide) (by rfl) tk (qa_cons (qe_var (pv 0)) (qa_cons (qe_add mkF_ok qe_int (qe_mul qe_int (qe_var (pv 4)))) qa_nil))))
  (qss_cons (qs_set (i := 6) sc__law_gaps.nd rfl (.inl rfl) (qe_div (qe_mod (qe_mul (qe_var (pv 5)) qe_int) qe_int) qe_int))
  (qss_cons (qs_set (i := 7) sc__law_gaps.nd rfl (.inl rfl) (qe_callB (lift_sorted mkF_ok) (call_sortedAll rfl) (by rfl) C.n_sorted (by decide +kernel) (qa_cons (qe_var (pv 1)) qa_nil)))
  (qss_cons (qs_set (i := 8) sc__law_gaps.nd rfl (.inr rfl) (qe_ix hu (qe_var (pv 7)) (qe_mod (qe_var (pv 6)) (qe_callB lift_len call_lenAll (by rfl) C.n_len (by decide +kernel) (qa_cons (qe_var (pv 7)) qa_nil))) (fun _ _ => rfl)))
  (qss_cons (qs_setLc (own := [("_law_face", 10)]) (i := 9) finF_ok rfl sc__law_gaps.nd rfl rfl (sw_true rfl rfl rfl (by decide +kernel)) (qi_seq (qe_var (pv 7))) (blkOk_by (own := [("_law_face", 10)]) (N := ["_law_script", "_law_spots", "_law_style", "_law_gaps_here", "_law_k", "_law_cell_here", "_law_mixed", "_law_faces", "_law_one", "_law_same", "_law_face", "_law_two", "_law_middle", "_law_other", "_law_low_here", "_law_high"]) (sc := defScope s__law_gaps) (by decide +kernel)) (fun _ _ _ _ _ => (qgw_name (i := 10) (by decide) sc__law_gaps.nd rfl (by first | exact .inl rfl | exact .inr rfl))) (fun _ _ _ _ _ => (qts_one (qt_w (qw_and (qt_cmp lift_ne (op_neD hu64) (qe_var (pv 10)) (qe_var (pv 8)) (nomark _)) (qw_and1 (qt_cmp lift_eq (op_eqD hu64) (qe_ix hu (qe_ix hu (qe_var (pv 1)) (qe_var (pv 10)) (fun _ _ => rfl)) qe_int (fun _ _ => rfl)) (qe_ix hu (qe_ix hu (qe_var (pv 1)) (qe_var (pv 8)) (fun _ _ => rfl)) qe_int (fun _ _ => rfl)) (nomark _))))))) (fun _ _ _ _ _ => (qe_var (pv 10))))
  (qss_cons (qs_set (i := 11) sc__law_gaps.nd rfl (.inl rfl) (qe_ix hu (qe_var (pv 9)) (qe_mod (qe_div (qe_var (pv 6)) qe_int) (qe_callB lift_len call_lenAll (by rfl) C.n_len (by decide +kernel) (qa_cons (qe_var (pv 9)) qa_nil))) (fun _ _ => rfl)))
  (qss_cons (qs_set (i := 12) sc__law_gaps.nd rfl (.inl rfl) (qe_call F__law_plus hr (by decide) (by rfl) tk (qa_cons (qe_ix hu (qe_ix hu (qe_var (pv 1)) (qe_var (pv 11)) (fun _ _ => rfl)) qe_int (fun _ _ => rfl)) (qa_cons (qe_ix hu (qe_ix hu (qe_var (pv 1)) (qe_var (pv 8)) (fun _ _ => rfl)) qe_int (fun _ _ => rfl)) (qa_cons (qe_neg qe_int) qa_nil)))))
  (qss_cons (qs_set (i := 13) sc__law_gaps.nd rfl (.inl rfl) (qe_call F__law_cell hr (by decide) (by rfl) tk (qa_cons (qe_var (pv 0)) (qa_cons (qe_add mkF_ok qe_int (qe_mul qe_int (qe_var (pv 4)))) qa_nil))))
  (qss_cons (qs_set (i := 14) sc__law_gaps.nd rfl (.inl rfl) (qe_call F__law_plus hr (by decide) (by rfl) tk (qa_cons (qe_var (pv 12)) (qa_cons (qe_call F__law_low hr (by decide) (by rfl) tk (qa_cons (qe_mod (qe_var (pv 13)) qe_int) (qa_cons (qe_add mkF_ok qe_int (qe_mod (qe_div (qe_var (pv 6)) qe_int) qe_int)) qa_nil))) (qa_cons (qe_neg qe_int) qa_nil)))))
  (qss_cons (qs_set (i := 15) sc__law_gaps.nd rfl (.inl rfl) (qe_call F__law_plus hr (by decide) (by rfl) tk (qa_cons (qe_var (pv 12)) (qa_cons (qe_call F__law_low hr (by decide) (by rfl) tk (qa_cons (qe_mod (qe_div (qe_var (pv 13)) qe_int) qe_int) (qa_cons (qe_add mkF_ok qe_int (qe_mod (qe_div (qe_var (pv 6)) qe_int) qe_int)) qa_nil))) (qa_cons qe_int qa_nil)))))
  (qss_one (qs_expr (qe_bm lift_app PySem.F.plainAttrs_list PySem.F.slot_list_append PySem.F.type_list_append mt_append (qe_var (pv 3)) (qa_cons (qe_tup (qa_cons (qe_call F__law_name hr (by decide) (by rfl) tk (qa_cons (qe_var (pv 4)) (qa_cons (qe_ix hu (qe_lst mkF_ok (qa_cons qe_str (qa_cons qe_str qa_nil))) (qe_mod (qe_div (qe_var (pv 6)) qe_int) qe_int) (fun _ _ => rfl)) (qa_cons (qe_mod (qe_add mkF_ok (qe_var (pv 2)) (qe_var (pv 4))) qe_int) qa_nil)))) (qa_cons (qe_var (pv 8)) (qa_cons (qe_var (pv 11)) (qa_cons (qe_var (pv 14)) (qa_cons (qe_var (pv 15)) qa_nil)))))) qa_nil)))))))))))))))
  (qss_fz (i := 3)
  (qss_one (qs_ret (qe_var (pv 3)))))))
theorem df__law_gaps (C : C K mg) : DFn P w K mg base 3 "_law_gaps" sp__law_gaps [] := by
  obtain ⟨fd, F⟩ := C.d__law_gaps
  exact dfn (ok__law_gaps C F) C.m__law_gaps F.kp (F.bindsN fun _ _ _ _ _ _ us hl => match us, hl with | [_, _, _], _ => rfl)
theorem sc__law_unlike : FnScope ["_law_gaps_here", "_law_names", "_law_kept", "_law_gap"] ["_law_gaps_here"] (defScope s__law_unlike) := ⟨rfl, rfl, rfl, by decide +kernel, rfl, by decide +kernel, by decide +kernel⟩
theorem ok__law_unlike (C : C K mg) {fd : FuncData} (F : FunD K "_law_unlike" "_law_unlike" (defArgs s__law_unlike) (defBody s__law_unlike) (defScope s__law_unlike) [] [] (He.fAd K ("_law_unlike", none)) fd) : FnOk P w K mg base (CX P w) 1 (He.fAd K ("_law_unlike", none)) fd ["_law_gaps_here"] (liftSp K sp__law_unlike) := by
  refine TF.fn_okX (t := t__law_unlike) F sc__law_unlike (fun ds A Q E h => len__law_unlike h) (fun cdv A outer s H E Z0 wd hr tk => ?_) (fun ds A Q E h => rd__law_unlike h)
  have hu := uA hr
  have hu65 := uC hr
  have hu64 := uB hr
  exact (qss_cons (qs_set (i := 1) sc__law_unlike.nd rfl (.inl rfl) qe_dic0)
  (qss_cons (qs_set (i := 2) sc__law_unlike.nd rfl (.inl rfl) (qe_lst mkO_ok qa_nil))
  (qss_cons (qs_for (passes_of rfl) rfl (qi_seq (qe_var (pv 0))) (qg_name (i := 3) sc__law_unlike.nd rfl (.inl rfl))
  (qss_cons (qs_if (qt_cmp lift_notin (op_notInAll hu65) (qe_ix hu (qe_var (pv 3)) qe_int (fun _ _ => rfl)) (qe_var (pv 1)) (by rfl))
  (qss_one (qs_expr (qe_bm lift_app PySem.F.plainAttrs_list PySem.F.slot_list_append PySem.F.type_list_append mt_append (qe_var (pv 2)) (qa_cons (qe_var (pv 3)) qa_nil))))
  qss_nil)
  (qss_one (qs_asg qe_bl (qg_sub hu (qe_var (pv 1)) (qe_ix hu (qe_var (pv 3)) qe_int (fun _ _ => rfl)))))))
  (qss_fz (i := 2)
  (qss_one (qs_ret (qe_var (pv 2))))))))
theorem df__law_unlike (C : C K mg) : DFn P w K mg base 1 "_law_unlike" sp__law_unlike [] := by
  obtain ⟨fd, F⟩ := C.d__law_unlike
  exact dfn (ok__law_unlike C F) C.m__law_unlike F.kp (F.bindsN fun _ _ _ _ _ _ us hl => match us, hl with | [_], _ => rfl)
theorem sc__law_walked : FnScope ["_law_found", "_law_gap", "_law_parts_here", "_law_ends", "_law_part", "_law_here", "_law_seen", "_law_pair", "_law_start", "_law_end"] ["_law_found", "_law_gap", "_law_parts_here"] (defScope s__law_walked) := ⟨rfl, rfl, rfl, by decide +kernel, rfl, by decide +kernel, by decide +kernel⟩
theorem ok__law_walked (C : C K mg) {fd : FuncData} (F : FunD K "_law_walked" "_law_walked" (defArgs s__law_walked) (defBody s__law_walked) (defScope s__law_walked) [] [] (He.fAd K ("_law_walked", none)) fd) : FnOk P w K mg base (CX P w) 1 (He.fAd K ("_law_walked", none)) fd ["_law_found", "_law_gap", "_law_parts_here"] (liftSp K sp__law_walked) := by
  refine TF.fn_okX (t := t__law_walked) F sc__law_walked (fun ds A Q E h => len__law_walked h) (fun cdv A outer s H E Z0 wd hr tk => ?_) (fun ds A Q E h => rd__law_walked h)
  have hu := uA hr
  have hu65 := uC hr
  have hu64 := uB hr
  exact (qss_cons (qs_if (qt_w (qw_or (qt_not (qt_val (qe_isi (T := "list") (by decide) (by rfl) C.n_isinstance (by rfl) C.n_list (by decide +kernel) (by decide) (by decide) (qe_var (pv 0))))) (qw_or1 (qt_cmp lift_eq (op_eqD hu64) (qe_callB lift_len call_lenAll (by rfl) C.n_len (by decide +kernel) (qa_cons (qe_var (pv 0)) qa_nil)) qe_int (nomark _)))))
  (qss_one (qs_ret qe_bl))
  qss_nil)
  (qss_cons (qs_set (i := 3) sc__law_walked.nd rfl (.inl rfl) qe_dic0)
  (qss_cons (qs_for (passes_of rfl) rfl (qi_seq (qe_var (pv 2))) (qg_name (i := 4) sc__law_walked.nd rfl (.inl rfl))
  (qss_one (qs_asg (qe_tup (qa_cons (qe_ix hu (qe_var (pv 4)) qe_int (fun _ _ => rfl)) (qa_cons (qe_ix hu (qe_var (pv 4)) qe_int (fun _ _ => rfl)) qa_nil))) (qg_sub hu (qe_var (pv 3)) (qe_ix hu (qe_var (pv 4)) qe_int (fun _ _ => rfl))))))
  (qss_fz (i := 3)
  (qss_cons (qs_set (i := 5) sc__law_walked.nd rfl (.inl rfl) (qe_ix hu (qe_var (pv 1)) qe_int (fun _ _ => rfl)))
  (qss_cons (qs_set (i := 6) sc__law_walked.nd rfl (.inl rfl) (qe_lst mkO_ok qa_nil))
  (qss_cons (qs_for (passes_of rfl) rfl (qi_seq (qe_var (pv 0))) (qg_name (i := 7) sc__law_walked.nd rfl (.inl rfl))
  (qss_cons (qs_if (qt_w (qw_or (qt_not (qt_val (qe_isi (T := "tuple") (by decide) (by rfl) C.n_isinstance (by rfl) C.n_tuple (by decide +kernel) (by decide) (by decide) (qe_var (pv 7))))) (qw_or (qt_cmp lift_ne (op_neD hu64) (qe_callB lift_len call_lenAll (by rfl) C.n_len (by decide +kernel) (qa_cons (qe_var (pv 7)) qa_nil)) qe_int (nomark _)) (qw_or1 (qt_not (qt_val (qe_isi (T := "bool") (by decide) (by rfl) C.n_isinstance (by rfl) C.n_bool (by decide +kernel) (by decide) (by decide) (qe_ix hu (qe_var (pv 7)) qe_int (fun _ _ => rfl)))))))))
  (qss_one (qs_ret qe_bl))
  qss_nil)
  (qss_cons (qs_if (qt_w (qw_or (qt_cmp lift_notin (op_notInAll hu65) (qe_ix hu (qe_var (pv 7)) qe_int (fun _ _ => rfl)) (qe_var (pv 3)) (by rfl)) (qw_or1 (qt_cmp lift_in (op_inAll hu65) (qe_ix hu (qe_var (pv 7)) qe_int (fun _ _ => rfl)) (qe_var (pv 6)) (by rfl)))))
  (qss_one (qs_ret qe_bl))
  qss_nil)
  (qss_cons (qs_expr (qe_bm lift_app PySem.F.plainAttrs_list PySem.F.slot_list_append PySem.F.type_list_append mt_append (qe_var (pv 6)) (qa_cons (qe_ix hu (qe_var (pv 7)) qe_int (fun _ _ => rfl)) qa_nil)))
  (qss_cons (qs_asg (qe_ix hu (qe_var (pv 3)) (qe_ix hu (qe_var (pv 7)) qe_int (fun _ _ => rfl)) (fun _ _ => rfl)) (qg_tup rfl (qgs_cons (qg_name (i := 8) sc__law_walked.nd rfl (.inl rfl)) (qgs_cons (qg_name (i := 9) sc__law_walked.nd rfl (.inl rfl)) qgs_nil))))
  (qss_cons (qs_if (qt_cmp lift_ne (op_neD hu64) (qe_var (pv 5)) (qe_ix hu (qe_lst mkF_ok (qa_cons (qe_var (pv 9)) (qa_cons (qe_var (pv 8)) qa_nil))) (qe_callTy lift_int call_intAll (by rfl) C.n_int (by decide +kernel) (qa_cons (qe_ix hu (qe_var (pv 7)) qe_int (fun _ _ => rfl)) qa_nil)) (fun _ _ => rfl)) (nomark _))
  (qss_one (qs_ret qe_bl))
  qss_nil)
  (qss_one (qs_set (i := 5) sc__law_walked.nd rfl (.inl rfl) (qe_ix hu (qe_lst mkF_ok (qa_cons (qe_var (pv 8)) (qa_cons (qe_var (pv 9)) qa_nil))) (qe_callTy lift_int call_intAll (by rfl) C.n_int (by decide +kernel) (qa_cons (qe_ix hu (qe_var (pv 7)) qe_int (fun _ _ => rfl)) qa_nil)) (fun _ _ => rfl))))))))))
  (qss_one (qs_ret (qe_cmp lift_eq (op_eqD hu64) (qe_var (pv 5)) (qe_ix hu (qe_var (pv 1)) qe_int (fun _ _ => rfl)) (nomark _)))))))))))
theorem df__law_walked (C : C K mg) : DFn P w K mg base 1 "_law_walked" sp__law_walked [] := by
  obtain ⟨fd, F⟩ := C.d__law_walked
  exact dfn (ok__law_walked C F) C.m__law_walked F.kp (F.bindsN fun _ _ _ _ _ _ us hl => match us, hl with | [_, _, _], _ => rfl)
theorem sc__law_refused : FnScope ["_law_thing", "_law_name_here", "_law_way", "_law_caught", "e"] ["_law_thing", "_law_name_here", "_law_way"] (defScope s__law_refused) := ⟨rfl, rfl, rfl, by decide +kernel, rfl, by decide +kernel, by decide +kernel⟩
theorem ok__law_refused (C : C K mg) {fd : FuncData} (F : FunD K "_law_refused" "_law_refused" (defArgs s__law_refused) (defBody s__law_refused) (defScope s__law_refused) [] [] (He.fAd K ("_law_refused", none)) fd) : FnOk P w K mg base (CX P w) 6 (He.fAd K ("_law_refused", none)) fd ["_law_thing", "_law_name_here", "_law_way"] (liftSp K sp__law_refused) := by
  have MT_middle := @dmt_middle P w K mg base C
  have MT_room := @dmt_room P w K mg base C
  have MT_way := @dmt_way P w K mg base C
  refine TF.fn_okX (t := t__law_refused) F sc__law_refused (fun ds A Q E h => len__law_refused h) (fun cdv A outer s H E Z0 wd hr tk => ?_) (fun ds A Q E h => rd__law_refused h)
  have hu := uA hr
  have hu65 := uC hr
  have hu64 := uB hr
  exact (qss_cons (qs_set (i := 3) sc__law_refused.nd rfl (.inl rfl) qe_non)
  (qss_cons (qs_try_as (i := 4) rfl rfl sc__law_refused.nd rfl rfl ⟨by rfl, by decide, .inl C.g_SlackError⟩ tk (exc_tab C.tb_SlackError) (fun w Z1 xn xe tk xp => (qss_one (qs_if (qt_cmp lift_eq (op_eqD hu64) (qe_var (pv 2)) qe_int (nomark _))
  (qss_one (qs_expr (qe_fz (qe_mth (m := "way") MT_way hr (by decide) tk (qe_var (pv 0)) (qa_cons (qe_var (pv 1)) qa_nil)))))
  (qss_one (qs_if (qt_cmp lift_eq (op_eqD hu64) (qe_var (pv 2)) qe_int (nomark _))
  (qss_one (qs_expr (qe_mth (m := "middle") MT_middle hr (by decide) tk (qe_var (pv 0)) (qa_cons (qe_var (pv 1)) qa_nil))))
  (qss_one (qs_expr (qe_mth (m := "room") MT_room hr (by decide) tk (qe_var (pv 0)) (qa_cons (qe_var (pv 1)) qa_nil)))))))))
  (fun xa xoe xcls xd xpn xc xfs Z1 xsub xz xfl xrx => (qss_one (qs_set (i := 3) sc__law_refused.nd rfl (.inl rfl) (qe_lst mkF_ok (qa_cons (qe_isAny (tb := ti_NoName) C.ek C.ti_NoName xz xfl xrx (by rfl) C.n_isinstance (pe_glob (by rfl) C.g_NoName (v := .ref (He.ga K "NoName")) rfl (by decide)) (fun _ h => h) (qe_var (pv 4))) (qa_cons (qe_isAny (tb := ti_ValueError) C.ek C.ti_ValueError xz xfl xrx (by rfl) C.n_isinstance (pe_bltn (v := .ty "ValueError") (by rfl) C.n_ValueError (by decide +kernel) rfl (by decide) (by decide)) (fun _ h => h) (qe_var (pv 4))) (qa_cons (qe_isAny (tb := ti_NoGap) C.ek C.ti_NoGap xz xfl xrx (by rfl) C.n_isinstance (pe_glob (by rfl) C.g_NoGap (v := .ref (He.ga K "NoGap")) rfl (by decide)) (fun _ h => h) (qe_var (pv 4))) (qa_cons (qe_isAny (tb := ti_NoPart) C.ek C.ti_NoPart xz xfl xrx (by rfl) C.n_isinstance (pe_glob (by rfl) C.g_NoPart (v := .ref (He.ga K "NoPart")) rfl (by decide)) (fun _ h => h) (qe_var (pv 4))) (qa_cons (qe_isAny (tb := ti_Twice) C.ek C.ti_Twice xz xfl xrx (by rfl) C.n_isinstance (pe_glob (by rfl) C.g_Twice (v := .ref (He.ga K "Twice")) rfl (by decide)) (fun _ h => h) (qe_var (pv 4))) (qa_cons (qe_isAny (tb := ti_NoFace) C.ek C.ti_NoFace xz xfl xrx (by rfl) C.n_isinstance (pe_glob (by rfl) C.g_NoFace (v := .ref (He.ga K "NoFace")) rfl (by decide)) (fun _ h => h) (qe_var (pv 4))) (qa_cons (qe_isAny (tb := ti_NoRow) C.ek C.ti_NoRow xz xfl xrx (by rfl) C.n_isinstance (pe_glob (by rfl) C.g_NoRow (v := .ref (He.ga K "NoRow")) rfl (by decide)) (fun _ h => h) (qe_var (pv 4))) qa_nil))))))))))))
  (qss_one (qs_ret (qe_cmp lift_eq (op_eqD hu64) (qe_var (pv 3)) (qe_lst mkF_ok (qa_cons qe_bl (qa_cons qe_bl (qa_cons qe_bl (qa_cons qe_bl (qa_cons qe_bl (qa_cons qe_bl (qa_cons qe_bl qa_nil)))))))) (nomark _))))))
theorem df__law_refused (C : C K mg) : DFn P w K mg base 6 "_law_refused" sp__law_refused [] := by
  obtain ⟨fd, F⟩ := C.d__law_refused
  exact dfn (ok__law_refused C F) C.m__law_refused F.kp (F.bindsN fun _ _ _ _ _ _ us hl => match us, hl with | [_, _, _], _ => rfl)
theorem sc_law : FnScope ["_law_script", "_law_style", "_law_parts_here", "_law_spots", "_law_gaps_here", "_law_thing", "_law_names", "_law_gap", "_law_found", "_law_name_here", "_law_part"] ["_law_script"] (defScope s_law) := ⟨rfl, rfl, rfl, by decide +kernel, rfl, by decide +kernel, by decide +kernel⟩
theorem ok_law (C : C K mg) {fd : FuncData} (F : FunD K "law" "law" (defArgs s_law) (defBody s_law) (defScope s_law) [] [] (He.fAd K ("law", none)) fd) : FnOk P w K mg base (CX P w) 8 (He.fAd K ("law", none)) fd ["_law_script"] (liftSp K spLaw) := by
  have F__law_cell := @df__law_cell P w K mg base C
  have F__law_gaps := @df__law_gaps P w K mg base C
  have F__law_listed := @df__law_listed P w K mg base C
  have F__law_parts := @df__law_parts P w K mg base C
  have F__law_refused := @df__law_refused P w K mg base C
  have F__law_unlike := @df__law_unlike P w K mg base C
  have F__law_walked := @df__law_walked P w K mg base C
  have MT_way := @dmt_way P w K mg base C
  have M_Thing := @mkc_Thing P w K mg base C
  refine TF.fn_okX (t := t_law) F sc_law (fun ds A Q E h => len_law h) (fun cdv A outer s H E Z0 wd hr tk => ?_) (fun ds A Q E h => rd_law h)
  have hu := uA hr
  have hu65 := uC hr
  have hu64 := uB hr
  exact (qss_cons (qs_set (i := 1) sc_law.nd rfl (.inl rfl) (qe_mod (qe_call F__law_cell hr (by decide) (by rfl) tk (qa_cons (qe_var (pv 0)) (qa_cons qe_int qa_nil))) qe_int))
  (qss_cons (qs_asg (qe_call F__law_parts hr (by decide) (by rfl) tk (qa_cons (qe_var (pv 0)) (qa_cons (qe_var (pv 1)) qa_nil))) (qg_tup rfl (qgs_cons (qg_name (i := 2) sc_law.nd rfl (.inl rfl)) (qgs_cons (qg_name (i := 3) sc_law.nd rfl (.inl rfl)) qgs_nil))))
  (qss_cons (qs_set (i := 2) sc_law.nd rfl (.inl rfl) (qe_call F__law_listed hr (by decide) (by rfl) tk (qa_cons (qe_var (pv 0)) (qa_cons (qe_var (pv 2)) qa_nil))))
  (qss_cons (qs_set (i := 4) sc_law.nd rfl (.inl rfl) (qe_call F__law_unlike hr (by decide) (by rfl) tk (qa_cons (qe_call F__law_gaps hr (by decide) (by rfl) tk (qa_cons (qe_var (pv 0)) (qa_cons (qe_var (pv 3)) (qa_cons (qe_var (pv 1)) qa_nil)))) qa_nil)))
  (qss_cons (qs_set (i := 5) sc_law.nd rfl (.inl rfl) (qe_fzD (qe_mk (c := "Thing") M_Thing hr (by decide) (by rfl) tk (qa_cons (qe_var (pv 2)) (qa_cons (qe_var (pv 4)) qa_nil)) (by decide))))
  (qss_cons (qs_setLc (own := [("_law_gap", 7)]) (i := 6) finF_ok rfl sc_law.nd rfl rfl (sw_true rfl rfl rfl (by decide +kernel)) (qi_seq (qe_var (pv 4))) (blkOk_by (own := [("_law_gap", 7)]) (N := ["_law_script", "_law_style", "_law_parts_here", "_law_spots", "_law_gaps_here", "_law_thing", "_law_names", "_law_gap", "_law_found", "_law_name_here", "_law_part"]) (sc := defScope s_law) (by decide +kernel)) (fun _ _ _ _ _ => (qgw_name (i := 7) (by decide) sc_law.nd rfl (by first | exact .inl rfl | exact .inr rfl))) (fun _ _ _ _ _ => qts_nil) (fun _ _ _ _ _ => (qe_ix hu (qe_var (pv 7)) qe_int (fun _ _ => rfl))))
  (qss_cons (qs_for (passes_of rfl) rfl (qi_seq (qe_add mkF_ok (qe_var (pv 4)) (qe_sl mkF_ok (qe_var (pv 4)) qo_none (qo_some qe_int)))) (qg_name (i := 7) sc_law.nd rfl (.inl rfl))
  (qss_cons (qs_set (i := 8) sc_law.nd rfl (.inl rfl) (qe_mth (m := "way") MT_way hr (by decide) tk (qe_var (pv 5)) (qa_cons (qe_ix hu (qe_var (pv 7)) qe_int (fun _ _ => rfl)) qa_nil)))
  (qss_cons (qs_if (qt_not (qt_val (qe_call F__law_walked hr (by decide) (by rfl) tk (qa_cons (qe_var (pv 8)) (qa_cons (qe_var (pv 7)) (qa_cons (qe_var (pv 2)) qa_nil))))))
  (qss_one (qs_ret qe_bl))
  qss_nil)
  (qss_cons (qs_expr (qe_bm lift_app PySem.F.plainAttrs_list PySem.F.slot_list_append PySem.F.type_list_append mt_append (qe_var (pv 8)) (qa_cons qe_int qa_nil)))
  (qss_one (qs_expr (qe_bm0 lift_rev PySem.F.plainAttrs_list PySem.F.slot_list_reverse PySem.F.type_list_reverse mt_reverse (qe_var (pv 8)))))))))
  (qss_cons (qs_for (passes_of rfl) rfl (qi_seq (qe_add mkF_ok (qe_add mkF_ok (qe_lst mkF_ok (qa_cons qe_str qa_nil)) (qe_lc (own := [("_law_part", 10)]) finF_ok rfl sc_law.nd (qi_seq (qe_var (pv 2))) (blkOk_by (own := [("_law_part", 10)]) (N := ["_law_script", "_law_style", "_law_parts_here", "_law_spots", "_law_gaps_here", "_law_thing", "_law_names", "_law_gap", "_law_found", "_law_name_here", "_law_part"]) (sc := defScope s_law) (by decide +kernel)) (fun _ _ _ _ _ => (qgw_name (i := 10) (by decide) sc_law.nd rfl (by first | exact .inl rfl | exact .inr rfl))) (fun _ _ _ _ _ => qts_nil) (fun _ _ _ _ _ => (qe_ix hu (qe_var (pv 10)) qe_int (fun _ _ => rfl))))) (qe_callB (lift_sorted mkF_ok) (call_sortedAll rfl) (by rfl) C.n_sorted (by decide +kernel) (qa_cons (qe_var (pv 3)) qa_nil)))) (qg_name (i := 9) sc_law.nd rfl (.inl rfl))
  (qss_one (qs_if (qt_w (qw_and (qt_cmp lift_notin (op_notInAll hu65) (qe_var (pv 9)) (qe_var (pv 6)) (by rfl)) (qw_and1 (qt_not (qt_val (qe_call F__law_refused hr (by decide) (by rfl) tk (qa_cons (qe_var (pv 5)) (qa_cons (qe_var (pv 9)) (qa_cons (qe_mod (qe_mul (qe_callB lift_len call_lenAll (by rfl) C.n_len (by decide +kernel) (qa_cons (qe_var (pv 9)) qa_nil)) (qe_callB lift_len call_lenAll (by rfl) C.n_len (by decide +kernel) (qa_cons (qe_var (pv 6)) qa_nil))) qe_int) qa_nil)))))))))
  (qss_one (qs_ret qe_bl))
  qss_nil)))
  (qss_one (qs_ret (qe_and (qe_call F__law_refused hr (by decide) (by rfl) tk (qa_cons (qe_var (pv 5)) (qa_cons qe_str (qa_cons qe_int qa_nil)))) (qe_and (qe_call F__law_refused hr (by decide) (by rfl) tk (qa_cons (qe_var (pv 5)) (qa_cons qe_str (qa_cons qe_int qa_nil)))) (qe_one (qe_call F__law_refused hr (by decide) (by rfl) tk (qa_cons (qe_var (pv 5)) (qa_cons qe_str (qa_cons qe_int qa_nil)))))))))))))))))
end
def d_divisor : He.DefD := ⟨("divisor", none), "divisor", "divisor", defArgs s_divisor, defBody s_divisor, defScope s_divisor, [], []⟩
def d_fraction : He.DefD := ⟨("fraction", none), "fraction", "fraction", defArgs s_fraction, defBody s_fraction, defScope s_fraction, [.int 1], []⟩
def d_plus : He.DefD := ⟨("plus", none), "plus", "plus", defArgs s_plus, defBody s_plus, defScope s_plus, [], []⟩
def d_minus : He.DefD := ⟨("minus", none), "minus", "minus", defArgs s_minus, defBody s_minus, defScope s_minus, [], []⟩
def d_under : He.DefD := ⟨("under", none), "under", "under", defArgs s_under, defBody s_under, defScope s_under, [], []⟩
def d_is_whole : He.DefD := ⟨("is_whole", none), "is_whole", "is_whole", defArgs s_is_whole, defBody s_is_whole, defScope s_is_whole, [], []⟩
def d_is_name : He.DefD := ⟨("is_name", none), "is_name", "is_name", defArgs s_is_name, defBody s_is_name, defScope s_is_name, [], []⟩
def d_is_fraction : He.DefD := ⟨("is_fraction", none), "is_fraction", "is_fraction", defArgs s_is_fraction, defBody s_is_fraction, defScope s_is_fraction, [], []⟩
def d_has_ends : He.DefD := ⟨("has_ends", none), "has_ends", "has_ends", defArgs s_has_ends, defBody s_has_ends, defScope s_has_ends, [], []⟩
def d_is_part : He.DefD := ⟨("is_part", none), "is_part", "is_part", defArgs s_is_part, defBody s_is_part, defScope s_is_part, [], []⟩
def d_is_gap : He.DefD := ⟨("is_gap", none), "is_gap", "is_gap", defArgs s_is_gap, defBody s_is_gap, defScope s_is_gap, [], []⟩
def d_way_between : He.DefD := ⟨("way_between", none), "way_between", "way_between", defArgs s_way_between, defBody s_way_between, defScope s_way_between, [], []⟩
def d_Thing_add_part : He.DefD := ⟨("Thing", some "add_part"), "add_part", "Thing.add_part", defArgs s_Thing_add_part, defBody s_Thing_add_part, defScope s_Thing_add_part, [], []⟩
def d_Thing_add_gap : He.DefD := ⟨("Thing", some "add_gap"), "add_gap", "Thing.add_gap", defArgs s_Thing_add_gap, defBody s_Thing_add_gap, defScope s_Thing_add_gap, [], []⟩
def d_Thing___init__ : He.DefD := ⟨("Thing", some "__init__"), "__init__", "Thing.__init__", defArgs s_Thing___init__, defBody s_Thing___init__, defScope s_Thing___init__, [], []⟩
def d_Thing_way : He.DefD := ⟨("Thing", some "way"), "way", "Thing.way", defArgs s_Thing_way, defBody s_Thing_way, defScope s_Thing_way, [], []⟩
def d_Thing_middle : He.DefD := ⟨("Thing", some "middle"), "middle", "Thing.middle", defArgs s_Thing_middle, defBody s_Thing_middle, defScope s_Thing_middle, [], []⟩
def d_Thing_room : He.DefD := ⟨("Thing", some "room"), "room", "Thing.room", defArgs s_Thing_room, defBody s_Thing_room, defScope s_Thing_room, [], []⟩
def d__law_cell : He.DefD := ⟨("_law_cell", none), "_law_cell", "_law_cell", defArgs s__law_cell, defBody s__law_cell, defScope s__law_cell, [], []⟩
def d__law_signed : He.DefD := ⟨("_law_signed", none), "_law_signed", "_law_signed", defArgs s__law_signed, defBody s__law_signed, defScope s__law_signed, [], []⟩
def d__law_low : He.DefD := ⟨("_law_low", none), "_law_low", "_law_low", defArgs s__law_low, defBody s__law_low, defScope s__law_low, [], []⟩
def d__law_plus : He.DefD := ⟨("_law_plus", none), "_law_plus", "_law_plus", defArgs s__law_plus, defBody s__law_plus, defScope s__law_plus, [], []⟩
def d__law_name : He.DefD := ⟨("_law_name", none), "_law_name", "_law_name", defArgs s__law_name, defBody s__law_name, defScope s__law_name, [], []⟩
def d__law_parts : He.DefD := ⟨("_law_parts", none), "_law_parts", "_law_parts", defArgs s__law_parts, defBody s__law_parts, defScope s__law_parts, [], []⟩
def d__law_listed : He.DefD := ⟨("_law_listed", none), "_law_listed", "_law_listed", defArgs s__law_listed, defBody s__law_listed, defScope s__law_listed, [], []⟩
def d__law_gaps : He.DefD := ⟨("_law_gaps", none), "_law_gaps", "_law_gaps", defArgs s__law_gaps, defBody s__law_gaps, defScope s__law_gaps, [], []⟩
def d__law_unlike : He.DefD := ⟨("_law_unlike", none), "_law_unlike", "_law_unlike", defArgs s__law_unlike, defBody s__law_unlike, defScope s__law_unlike, [], []⟩
def d__law_walked : He.DefD := ⟨("_law_walked", none), "_law_walked", "_law_walked", defArgs s__law_walked, defBody s__law_walked, defScope s__law_walked, [], []⟩
def d__law_refused : He.DefD := ⟨("_law_refused", none), "_law_refused", "_law_refused", defArgs s__law_refused, defBody s__law_refused, defScope s__law_refused, [], []⟩
def d_law : He.DefD := ⟨("law", none), "law", "law", defArgs s_law, defBody s_law, defScope s_law, [], []⟩
def fn : List He.DefD := [d_divisor, d_fraction, d_plus, d_minus, d_under, d_is_whole, d_is_name, d_is_fraction, d_has_ends, d_is_part, d_is_gap, d_way_between, d_Thing_add_part, d_Thing_add_gap, d_Thing___init__, d_Thing_way, d_Thing_middle, d_Thing_room, d__law_cell, d__law_signed, d__law_low, d__law_plus, d__law_name, d__law_parts, d__law_listed, d__law_gaps, d__law_unlike, d__law_walked, d__law_refused, d_law]
def fa : List He.Fa := [.free "ValueError", .free "abs", .free "bool", .free "int", .free "isinstance", .free "len", .free "list", .free "min", .free "range", .free "sorted", .free "str", .free "tuple", .glo "Apart", .glo "InRing", .glo "NoFace", .glo "NoGap", .glo "NoName", .glo "NoNumber", .glo "NoPart", .glo "NoRow", .glo "SlackError", .glo "Thing", .glo "Twice", .str "LETTERS" "abcdefghijklmnopqrstuvwxyz", .exc "Apart", .exc "InRing", .exc "NoGap", .exc "NoName", .exc "NoNumber", .exc "NoPart", .exc "Twice", .exm "Apart" "SlackError" true, .exm "InRing" "SlackError" true, .exm "NoGap" "SlackError" true, .exm "NoName" "SlackError" true, .exm "NoNumber" "SlackError" true, .exm "NoPart" "SlackError" true, .exm "Twice" "SlackError" true, .cls "Thing", .noat "Thing" "kept_gaps", .cls "Thing", .noat "Thing" "kept_parts", .cls "Thing", .noat "Thing" "kept_ways", .cls "Thing", .noat "Thing" "sizes", .cls "Thing", .meth "Thing" "add_gap", .cls "Thing", .meth "Thing" "add_part", .cls "Thing", .meth "Thing" "middle", .cls "Thing", .meth "Thing" "room", .cls "Thing", .meth "Thing" "way", .mkr "Thing", .glo "divisor", .glo "fraction", .glo "plus", .glo "minus", .glo "under", .glo "is_whole", .glo "is_name", .glo "is_fraction", .glo "has_ends", .glo "is_part", .glo "is_gap", .glo "way_between", .glo "_law_cell", .glo "_law_signed", .glo "_law_low", .glo "_law_plus", .glo "_law_name", .glo "_law_parts", .glo "_law_listed", .glo "_law_gaps", .glo "_law_unlike", .glo "_law_walked", .glo "_law_refused", .glo "law"]
def fx : List Fx := [fxEx "Apart", fxEx "InRing", fxEx "NoGap", fxEx "NoName", fxEx "NoNumber", fxEx "NoPart", fxEx "Twice", fxIs "Apart" "NoFace" false, fxIs "InRing" "NoFace" false, fxIs "NoGap" "NoFace" false, fxIs "NoName" "NoFace" false, fxIs "NoNumber" "NoFace" false, fxIs "NoPart" "NoFace" false, fxIs "Twice" "NoFace" false, fxIs "Apart" "NoGap" false, fxIs "InRing" "NoGap" false, fxIs "NoGap" "NoGap" true, fxIs "NoName" "NoGap" false, fxIs "NoNumber" "NoGap" false, fxIs "NoPart" "NoGap" false, fxIs "Twice" "NoGap" false, fxIs "Apart" "NoName" false, fxIs "InRing" "NoName" false, fxIs "NoGap" "NoName" false, fxIs "NoName" "NoName" true, fxIs "NoNumber" "NoName" false, fxIs "NoPart" "NoName" false, fxIs "Twice" "NoName" false, fxIs "Apart" "NoPart" false, fxIs "InRing" "NoPart" false, fxIs "NoGap" "NoPart" false, fxIs "NoName" "NoPart" false, fxIs "NoNumber" "NoPart" false, fxIs "NoPart" "NoPart" true, fxIs "Twice" "NoPart" false, fxIs "Apart" "NoRow" false, fxIs "InRing" "NoRow" false, fxIs "NoGap" "NoRow" false, fxIs "NoName" "NoRow" false, fxIs "NoNumber" "NoRow" false, fxIs "NoPart" "NoRow" false, fxIs "Twice" "NoRow" false, fxIs "Apart" "Twice" false, fxIs "InRing" "Twice" false, fxIs "NoGap" "Twice" false, fxIs "NoName" "Twice" false, fxIs "NoNumber" "Twice" false, fxIs "NoPart" "Twice" false, fxIs "Twice" "Twice" true, fxIsB "Apart" "ValueError" true, fxIsB "InRing" "ValueError" true, fxIsB "NoGap" "ValueError" true, fxIsB "NoName" "ValueError" true, fxIsB "NoNumber" "ValueError" true, fxIsB "NoPart" "ValueError" true, fxIsB "Twice" "ValueError" true]
abbrev R : PySem.W.OpenRow := PySem.W.OpenLaw.row PySem.Challenge.rw_slackchain_k42_ways_of_gaps
abbrev hk : PySem.W.Hook := DL.hookZ 6 fa fn (allX fx)
def ob (s : PySem.W.SharedT) : DL.AlZ := DL.obsZ 6 fa fn (allX fx) (HandSHeadRun.getT s)
theorem ob_eq (s : PySem.W.SharedT) : ob s = hk.obs s.abs := DL.obsZ_eq (HandSHeadRun.getT_eq s)
theorem run (w : World) : HandSHeadRun.RunEq R (PySem.W.view R.prog [40]) hk ob 12000 ("SlackError" :: "NoNumber" :: "Twice" :: "NoName" :: "NoFace" :: "NoPart" :: "NoGap" :: "InRing" :: "Apart" :: "NoRow" :: "divisor" :: "fraction" :: "plus" :: "minus" :: "under" :: "LETTERS" :: "is_whole" :: "is_name" :: "is_fraction" :: "has_ends" :: "is_part" :: "is_gap" :: "way_between" :: "Thing" :: "_law_cell" :: "_law_signed" :: "_law_low" :: "_law_plus" :: "_law_name" :: "_law_parts" :: "_law_listed" :: "_law_gaps" :: "_law_unlike" :: "_law_walked" :: "_law_refused" :: []) w := by
  intro os
  kernel_rfl
theorem facts {P : Program} {w : World} {K : PySem.W.Frag} {h : Heap} {mg : Str → Option Value} {f : Addr} (X : K.In h) (G : h.Ns mainGlobals mg) (hfa : mg ("law" : Str) = some (.ref f)) (c : He.SaysD fa fn K) (cx : allX fx K = true) :
    ∃ fd : FuncData, (∀ (s : Shared) (v : Value), BindsTo s fd ⟨[v], []⟩ [("_law_script", v)]) ∧ ∀ base : Heap, K.In base → base.Ns mainGlobals mg → FnOk P w K mg base (CX P w) 8 f fd ["_law_script"] (liftSp K spLaw) := by
  have C : C K mg := {
    d_divisor := c.def_ 0 (d := d_divisor) rfl
    d_fraction := c.def_ 1 (d := d_fraction) rfl
    d_plus := c.def_ 2 (d := d_plus) rfl
    d_minus := c.def_ 3 (d := d_minus) rfl
    d_under := c.def_ 4 (d := d_under) rfl
    d_is_whole := c.def_ 5 (d := d_is_whole) rfl
    d_is_name := c.def_ 6 (d := d_is_name) rfl
    d_is_fraction := c.def_ 7 (d := d_is_fraction) rfl
    d_has_ends := c.def_ 8 (d := d_has_ends) rfl
    d_is_part := c.def_ 9 (d := d_is_part) rfl
    d_is_gap := c.def_ 10 (d := d_is_gap) rfl
    d_way_between := c.def_ 11 (d := d_way_between) rfl
    d_Thing_add_part := c.def_ 12 (d := d_Thing_add_part) rfl
    d_Thing_add_gap := c.def_ 13 (d := d_Thing_add_gap) rfl
    d_Thing___init__ := c.def_ 14 (d := d_Thing___init__) rfl
    d_Thing_way := c.def_ 15 (d := d_Thing_way) rfl
    d_Thing_middle := c.def_ 16 (d := d_Thing_middle) rfl
    d_Thing_room := c.def_ 17 (d := d_Thing_room) rfl
    d__law_cell := c.def_ 18 (d := d__law_cell) rfl
    d__law_signed := c.def_ 19 (d := d__law_signed) rfl
    d__law_low := c.def_ 20 (d := d__law_low) rfl
    d__law_plus := c.def_ 21 (d := d__law_plus) rfl
    d__law_name := c.def_ 22 (d := d__law_name) rfl
    d__law_parts := c.def_ 23 (d := d__law_parts) rfl
    d__law_listed := c.def_ 24 (d := d__law_listed) rfl
    d__law_gaps := c.def_ 25 (d := d__law_gaps) rfl
    d__law_unlike := c.def_ 26 (d := d__law_unlike) rfl
    d__law_walked := c.def_ 27 (d := d__law_walked) rfl
    d__law_refused := c.def_ 28 (d := d__law_refused) rfl
    d_law := c.def_ 29 (d := d_law) rfl
    n_ValueError := He.free_ok X G (c.fact 0 (f := .free "ValueError") rfl)
    n_abs := He.free_ok X G (c.fact 1 (f := .free "abs") rfl)
    n_bool := He.free_ok X G (c.fact 2 (f := .free "bool") rfl)
    n_int := He.free_ok X G (c.fact 3 (f := .free "int") rfl)
    n_isinstance := He.free_ok X G (c.fact 4 (f := .free "isinstance") rfl)
    n_len := He.free_ok X G (c.fact 5 (f := .free "len") rfl)
    n_list := He.free_ok X G (c.fact 6 (f := .free "list") rfl)
    n_min := He.free_ok X G (c.fact 7 (f := .free "min") rfl)
    n_range := He.free_ok X G (c.fact 8 (f := .free "range") rfl)
    n_sorted := He.free_ok X G (c.fact 9 (f := .free "sorted") rfl)
    n_str := He.free_ok X G (c.fact 10 (f := .free "str") rfl)
    n_tuple := He.free_ok X G (c.fact 11 (f := .free "tuple") rfl)
    g_Apart := He.glo_ok X G (c.fact 12 (f := .glo "Apart") rfl)
    g_InRing := He.glo_ok X G (c.fact 13 (f := .glo "InRing") rfl)
    g_NoFace := He.glo_ok X G (c.fact 14 (f := .glo "NoFace") rfl)
    g_NoGap := He.glo_ok X G (c.fact 15 (f := .glo "NoGap") rfl)
    g_NoName := He.glo_ok X G (c.fact 16 (f := .glo "NoName") rfl)
    g_NoNumber := He.glo_ok X G (c.fact 17 (f := .glo "NoNumber") rfl)
    g_NoPart := He.glo_ok X G (c.fact 18 (f := .glo "NoPart") rfl)
    g_NoRow := He.glo_ok X G (c.fact 19 (f := .glo "NoRow") rfl)
    g_SlackError := He.glo_ok X G (c.fact 20 (f := .glo "SlackError") rfl)
    g_Thing := He.glo_ok X G (c.fact 21 (f := .glo "Thing") rfl)
    g_Twice := He.glo_ok X G (c.fact 22 (f := .glo "Twice") rfl)
    s_LETTERS := He.str_ok X G (c.fact 23 (f := .str "LETTERS" "abcdefghijklmnopqrstuvwxyz") rfl)
    x_Apart := (c.fact 24 (f := .exc "Apart") rfl)
    x_InRing := (c.fact 25 (f := .exc "InRing") rfl)
    x_NoGap := (c.fact 26 (f := .exc "NoGap") rfl)
    x_NoName := (c.fact 27 (f := .exc "NoName") rfl)
    x_NoNumber := (c.fact 28 (f := .exc "NoNumber") rfl)
    x_NoPart := (c.fact 29 (f := .exc "NoPart") rfl)
    x_Twice := (c.fact 30 (f := .exc "Twice") rfl)
    tb_SlackError := (List.forall_mem_cons.mpr ⟨(c.fact 31 (f := .exm "Apart" "SlackError" true) rfl), (List.forall_mem_cons.mpr ⟨(c.fact 32 (f := .exm "InRing" "SlackError" true) rfl), (List.forall_mem_cons.mpr ⟨(c.fact 33 (f := .exm "NoGap" "SlackError" true) rfl), (List.forall_mem_cons.mpr ⟨(c.fact 34 (f := .exm "NoName" "SlackError" true) rfl), (List.forall_mem_cons.mpr ⟨(c.fact 35 (f := .exm "NoNumber" "SlackError" true) rfl), (List.forall_mem_cons.mpr ⟨(c.fact 36 (f := .exm "NoPart" "SlackError" true) rfl), (List.forall_mem_cons.mpr ⟨(c.fact 37 (f := .exm "Twice" "SlackError" true) rfl), (fun _ h => nomatch h)⟩)⟩)⟩)⟩)⟩)⟩)⟩)
    ek := (List.forall_mem_cons.mpr ⟨(fxEx_ok (allX_at cx 0 (f := fxEx "Apart") rfl)), (List.forall_mem_cons.mpr ⟨(fxEx_ok (allX_at cx 1 (f := fxEx "InRing") rfl)), (List.forall_mem_cons.mpr ⟨(fxEx_ok (allX_at cx 2 (f := fxEx "NoGap") rfl)), (List.forall_mem_cons.mpr ⟨(fxEx_ok (allX_at cx 3 (f := fxEx "NoName") rfl)), (List.forall_mem_cons.mpr ⟨(fxEx_ok (allX_at cx 4 (f := fxEx "NoNumber") rfl)), (List.forall_mem_cons.mpr ⟨(fxEx_ok (allX_at cx 5 (f := fxEx "NoPart") rfl)), (List.forall_mem_cons.mpr ⟨(fxEx_ok (allX_at cx 6 (f := fxEx "Twice") rfl)), (fun _ h => nomatch h)⟩)⟩)⟩)⟩)⟩)⟩)⟩)
    ti_NoFace := (List.forall_mem_cons.mpr ⟨(of_decide_eq_true (allX_at cx 7 (f := fxIs "Apart" "NoFace" false) rfl)), (List.forall_mem_cons.mpr ⟨(of_decide_eq_true (allX_at cx 8 (f := fxIs "InRing" "NoFace" false) rfl)), (List.forall_mem_cons.mpr ⟨(of_decide_eq_true (allX_at cx 9 (f := fxIs "NoGap" "NoFace" false) rfl)), (List.forall_mem_cons.mpr ⟨(of_decide_eq_true (allX_at cx 10 (f := fxIs "NoName" "NoFace" false) rfl)), (List.forall_mem_cons.mpr ⟨(of_decide_eq_true (allX_at cx 11 (f := fxIs "NoNumber" "NoFace" false) rfl)), (List.forall_mem_cons.mpr ⟨(of_decide_eq_true (allX_at cx 12 (f := fxIs "NoPart" "NoFace" false) rfl)), (List.forall_mem_cons.mpr ⟨(of_decide_eq_true (allX_at cx 13 (f := fxIs "Twice" "NoFace" false) rfl)), (fun _ h => nomatch h)⟩)⟩)⟩)⟩)⟩)⟩)⟩)
    ti_NoGap := (List.forall_mem_cons.mpr ⟨(of_decide_eq_true (allX_at cx 14 (f := fxIs "Apart" "NoGap" false) rfl)), (List.forall_mem_cons.mpr ⟨(of_decide_eq_true (allX_at cx 15 (f := fxIs "InRing" "NoGap" false) rfl)), (List.forall_mem_cons.mpr ⟨(of_decide_eq_true (allX_at cx 16 (f := fxIs "NoGap" "NoGap" true) rfl)), (List.forall_mem_cons.mpr ⟨(of_decide_eq_true (allX_at cx 17 (f := fxIs "NoName" "NoGap" false) rfl)), (List.forall_mem_cons.mpr ⟨(of_decide_eq_true (allX_at cx 18 (f := fxIs "NoNumber" "NoGap" false) rfl)), (List.forall_mem_cons.mpr ⟨(of_decide_eq_true (allX_at cx 19 (f := fxIs "NoPart" "NoGap" false) rfl)), (List.forall_mem_cons.mpr ⟨(of_decide_eq_true (allX_at cx 20 (f := fxIs "Twice" "NoGap" false) rfl)), (fun _ h => nomatch h)⟩)⟩)⟩)⟩)⟩)⟩)⟩)
    ti_NoName := (List.forall_mem_cons.mpr ⟨(of_decide_eq_true (allX_at cx 21 (f := fxIs "Apart" "NoName" false) rfl)), (List.forall_mem_cons.mpr ⟨(of_decide_eq_true (allX_at cx 22 (f := fxIs "InRing" "NoName" false) rfl)), (List.forall_mem_cons.mpr ⟨(of_decide_eq_true (allX_at cx 23 (f := fxIs "NoGap" "NoName" false) rfl)), (List.forall_mem_cons.mpr ⟨(of_decide_eq_true (allX_at cx 24 (f := fxIs "NoName" "NoName" true) rfl)), (List.forall_mem_cons.mpr ⟨(of_decide_eq_true (allX_at cx 25 (f := fxIs "NoNumber" "NoName" false) rfl)), (List.forall_mem_cons.mpr ⟨(of_decide_eq_true (allX_at cx 26 (f := fxIs "NoPart" "NoName" false) rfl)), (List.forall_mem_cons.mpr ⟨(of_decide_eq_true (allX_at cx 27 (f := fxIs "Twice" "NoName" false) rfl)), (fun _ h => nomatch h)⟩)⟩)⟩)⟩)⟩)⟩)⟩)
    ti_NoPart := (List.forall_mem_cons.mpr ⟨(of_decide_eq_true (allX_at cx 28 (f := fxIs "Apart" "NoPart" false) rfl)), (List.forall_mem_cons.mpr ⟨(of_decide_eq_true (allX_at cx 29 (f := fxIs "InRing" "NoPart" false) rfl)), (List.forall_mem_cons.mpr ⟨(of_decide_eq_true (allX_at cx 30 (f := fxIs "NoGap" "NoPart" false) rfl)), (List.forall_mem_cons.mpr ⟨(of_decide_eq_true (allX_at cx 31 (f := fxIs "NoName" "NoPart" false) rfl)), (List.forall_mem_cons.mpr ⟨(of_decide_eq_true (allX_at cx 32 (f := fxIs "NoNumber" "NoPart" false) rfl)), (List.forall_mem_cons.mpr ⟨(of_decide_eq_true (allX_at cx 33 (f := fxIs "NoPart" "NoPart" true) rfl)), (List.forall_mem_cons.mpr ⟨(of_decide_eq_true (allX_at cx 34 (f := fxIs "Twice" "NoPart" false) rfl)), (fun _ h => nomatch h)⟩)⟩)⟩)⟩)⟩)⟩)⟩)
    ti_NoRow := (List.forall_mem_cons.mpr ⟨(of_decide_eq_true (allX_at cx 35 (f := fxIs "Apart" "NoRow" false) rfl)), (List.forall_mem_cons.mpr ⟨(of_decide_eq_true (allX_at cx 36 (f := fxIs "InRing" "NoRow" false) rfl)), (List.forall_mem_cons.mpr ⟨(of_decide_eq_true (allX_at cx 37 (f := fxIs "NoGap" "NoRow" false) rfl)), (List.forall_mem_cons.mpr ⟨(of_decide_eq_true (allX_at cx 38 (f := fxIs "NoName" "NoRow" false) rfl)), (List.forall_mem_cons.mpr ⟨(of_decide_eq_true (allX_at cx 39 (f := fxIs "NoNumber" "NoRow" false) rfl)), (List.forall_mem_cons.mpr ⟨(of_decide_eq_true (allX_at cx 40 (f := fxIs "NoPart" "NoRow" false) rfl)), (List.forall_mem_cons.mpr ⟨(of_decide_eq_true (allX_at cx 41 (f := fxIs "Twice" "NoRow" false) rfl)), (fun _ h => nomatch h)⟩)⟩)⟩)⟩)⟩)⟩)⟩)
    ti_Twice := (List.forall_mem_cons.mpr ⟨(of_decide_eq_true (allX_at cx 42 (f := fxIs "Apart" "Twice" false) rfl)), (List.forall_mem_cons.mpr ⟨(of_decide_eq_true (allX_at cx 43 (f := fxIs "InRing" "Twice" false) rfl)), (List.forall_mem_cons.mpr ⟨(of_decide_eq_true (allX_at cx 44 (f := fxIs "NoGap" "Twice" false) rfl)), (List.forall_mem_cons.mpr ⟨(of_decide_eq_true (allX_at cx 45 (f := fxIs "NoName" "Twice" false) rfl)), (List.forall_mem_cons.mpr ⟨(of_decide_eq_true (allX_at cx 46 (f := fxIs "NoNumber" "Twice" false) rfl)), (List.forall_mem_cons.mpr ⟨(of_decide_eq_true (allX_at cx 47 (f := fxIs "NoPart" "Twice" false) rfl)), (List.forall_mem_cons.mpr ⟨(of_decide_eq_true (allX_at cx 48 (f := fxIs "Twice" "Twice" true) rfl)), (fun _ h => nomatch h)⟩)⟩)⟩)⟩)⟩)⟩)⟩)
    ti_ValueError := (List.forall_mem_cons.mpr ⟨(of_decide_eq_true (allX_at cx 49 (f := fxIsB "Apart" "ValueError" true) rfl)), (List.forall_mem_cons.mpr ⟨(of_decide_eq_true (allX_at cx 50 (f := fxIsB "InRing" "ValueError" true) rfl)), (List.forall_mem_cons.mpr ⟨(of_decide_eq_true (allX_at cx 51 (f := fxIsB "NoGap" "ValueError" true) rfl)), (List.forall_mem_cons.mpr ⟨(of_decide_eq_true (allX_at cx 52 (f := fxIsB "NoName" "ValueError" true) rfl)), (List.forall_mem_cons.mpr ⟨(of_decide_eq_true (allX_at cx 53 (f := fxIsB "NoNumber" "ValueError" true) rfl)), (List.forall_mem_cons.mpr ⟨(of_decide_eq_true (allX_at cx 54 (f := fxIsB "NoPart" "ValueError" true) rfl)), (List.forall_mem_cons.mpr ⟨(of_decide_eq_true (allX_at cx 55 (f := fxIsB "Twice" "ValueError" true) rfl)), (fun _ h => nomatch h)⟩)⟩)⟩)⟩)⟩)⟩)⟩)
    f_kept_gaps := (List.forall_mem_cons.mpr ⟨⟨He.cls_ok (c.fact 38 (f := .cls "Thing") rfl), He.noat_ok (c.fact 39 (f := .noat "Thing" "kept_gaps") rfl)⟩, (fun _ h => nomatch h)⟩)
    f_kept_parts := (List.forall_mem_cons.mpr ⟨⟨He.cls_ok (c.fact 40 (f := .cls "Thing") rfl), He.noat_ok (c.fact 41 (f := .noat "Thing" "kept_parts") rfl)⟩, (fun _ h => nomatch h)⟩)
    f_kept_ways := (List.forall_mem_cons.mpr ⟨⟨He.cls_ok (c.fact 42 (f := .cls "Thing") rfl), He.noat_ok (c.fact 43 (f := .noat "Thing" "kept_ways") rfl)⟩, (fun _ h => nomatch h)⟩)
    f_sizes := (List.forall_mem_cons.mpr ⟨⟨He.cls_ok (c.fact 44 (f := .cls "Thing") rfl), He.noat_ok (c.fact 45 (f := .noat "Thing" "sizes") rfl)⟩, (fun _ h => nomatch h)⟩)
    me_Thing_add_gap := ⟨He.cls_ok (c.fact 46 (f := .cls "Thing") rfl), He.meth_ok (c.fact 47 (f := .meth "Thing" "add_gap") rfl)⟩
    me_Thing_add_part := ⟨He.cls_ok (c.fact 48 (f := .cls "Thing") rfl), He.meth_ok (c.fact 49 (f := .meth "Thing" "add_part") rfl)⟩
    me_Thing_middle := ⟨He.cls_ok (c.fact 50 (f := .cls "Thing") rfl), He.meth_ok (c.fact 51 (f := .meth "Thing" "middle") rfl)⟩
    me_Thing_room := ⟨He.cls_ok (c.fact 52 (f := .cls "Thing") rfl), He.meth_ok (c.fact 53 (f := .meth "Thing" "room") rfl)⟩
    me_Thing_way := ⟨He.cls_ok (c.fact 54 (f := .cls "Thing") rfl), He.meth_ok (c.fact 55 (f := .meth "Thing" "way") rfl)⟩
    mk_Thing := He.mkr_ok (c.fact 56 (f := .mkr "Thing") rfl)
    m_divisor := He.glo_ok X G (c.fact 57 (f := .glo "divisor") rfl)
    m_fraction := He.glo_ok X G (c.fact 58 (f := .glo "fraction") rfl)
    m_plus := He.glo_ok X G (c.fact 59 (f := .glo "plus") rfl)
    m_minus := He.glo_ok X G (c.fact 60 (f := .glo "minus") rfl)
    m_under := He.glo_ok X G (c.fact 61 (f := .glo "under") rfl)
    m_is_whole := He.glo_ok X G (c.fact 62 (f := .glo "is_whole") rfl)
    m_is_name := He.glo_ok X G (c.fact 63 (f := .glo "is_name") rfl)
    m_is_fraction := He.glo_ok X G (c.fact 64 (f := .glo "is_fraction") rfl)
    m_has_ends := He.glo_ok X G (c.fact 65 (f := .glo "has_ends") rfl)
    m_is_part := He.glo_ok X G (c.fact 66 (f := .glo "is_part") rfl)
    m_is_gap := He.glo_ok X G (c.fact 67 (f := .glo "is_gap") rfl)
    m_way_between := He.glo_ok X G (c.fact 68 (f := .glo "way_between") rfl)
    m__law_cell := He.glo_ok X G (c.fact 69 (f := .glo "_law_cell") rfl)
    m__law_signed := He.glo_ok X G (c.fact 70 (f := .glo "_law_signed") rfl)
    m__law_low := He.glo_ok X G (c.fact 71 (f := .glo "_law_low") rfl)
    m__law_plus := He.glo_ok X G (c.fact 72 (f := .glo "_law_plus") rfl)
    m__law_name := He.glo_ok X G (c.fact 73 (f := .glo "_law_name") rfl)
    m__law_parts := He.glo_ok X G (c.fact 74 (f := .glo "_law_parts") rfl)
    m__law_listed := He.glo_ok X G (c.fact 75 (f := .glo "_law_listed") rfl)
    m__law_gaps := He.glo_ok X G (c.fact 76 (f := .glo "_law_gaps") rfl)
    m__law_unlike := He.glo_ok X G (c.fact 77 (f := .glo "_law_unlike") rfl)
    m__law_walked := He.glo_ok X G (c.fact 78 (f := .glo "_law_walked") rfl)
    m__law_refused := He.glo_ok X G (c.fact 79 (f := .glo "_law_refused") rfl)
    m_law := He.glo_ok X G (c.fact 80 (f := .glo "law") rfl) }
  obtain ⟨fd, F⟩ := C.d_law
  have e := hfa.symm.trans C.m_law
  cases e
  have b := FunD.bindsA (ps := ["_law_script"]) F fun _ _ _ _ _ _ us hl => match us, hl with | [_], _ => rfl
  exact ⟨fd, fun s v => b s [v] rfl, fun base _ _ => ok_law C F⟩
end K42
open PySem PySem.W PySem.Calls PyProof.Rows
theorem PySem.Challenge.cw_slackchain_k42_ways_of_gaps_holds : PySem.Challenge.rw_slackchain_k42_ways_of_gaps.Holds := by
  w_on; o_law
  refine HandSHeadRun.head_any (r := OpenLaw.row PySem.Challenge.rw_slackchain_k42_ways_of_gaps) (q := view (PySem.W.OpenLaw.row PySem.Challenge.rw_slackchain_k42_ways_of_gaps).prog [40]) (H := K42.hk) (ob := K42.ob) (M := 12000) (loose := ("SlackError" :: "NoNumber" :: "Twice" :: "NoName" :: "NoFace" :: "NoPart" :: "NoGap" :: "InRing" :: "Apart" :: "NoRow" :: "divisor" :: "fraction" :: "plus" :: "minus" :: "under" :: "LETTERS" :: "is_whole" :: "is_name" :: "is_fraction" :: "has_ends" :: "is_part" :: "is_gap" :: "way_between" :: "Thing" :: "_law_cell" :: "_law_signed" :: "_law_low" :: "_law_plus" :: "_law_name" :: "_law_parts" :: "_law_listed" :: "_law_gaps" :: "_law_unlike" :: "_law_walked" :: "_law_refused" :: [])) (d := HandSHeadRun.topDef (PySem.W.OpenLaw.row PySem.Challenge.rw_slackchain_k42_ways_of_gaps).prog 40) (kwd := []) K42.ob_eq
    (by kernel_rfl) (fun s => by kernel_rfl) K42.run (by kernel_rfl) (by kernel_rfl) (by kernel_rfl) (by rfl) (by first | assumption | decide +kernel) (by decide +kernel) ⟨rfl, rfl, rfl, rfl, rfl, by decide +kernel⟩ ?hw ?hc
  case hw => w_witness2
  case hc =>
    refine DL.walk_ofW (l := PySem.Challenge.rw_slackchain_k42_ways_of_gaps) (n := 63) (k := 8) (x := "_law_script") rfl (by decide) (by kernel_rfl) ⟨rfl, by decide, by decide⟩ ?F
    intro w mg fa h Y G hmg0
    obtain ⟨K, KX, c⟩ := Y
    have hmg : mg ("law" : PySem.Str) = some (.ref fa) := by
      have e : (HandSHeadRun.topDef (PySem.W.OpenLaw.row PySem.Challenge.rw_slackchain_k42_ways_of_gaps).prog 40).name = ("law" : PySem.Str) := by kernel_rfl
      rw [← e]
      exact hmg0
    obtain ⟨fd, hb, hF⟩ := K42.facts (P := (PySem.Challenge.rw_slackchain_k42_ways_of_gaps).prog) (w := w) KX G hmg c.1 c.2
    exact ⟨K, fd, DL.liftSp K DL.spLaw, KX, hb, fun H a ns hl hS => DL.sp_end hl hS, hF⟩
