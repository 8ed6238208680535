import PyProof.Rows.All
import Wide.All
import OpenK.AllK
import Wide.FinOn
import HandS.ForMost
import HandS.ForExc
import HandS.CallSlots
import HandS.Walk
import HandS.Wide
import HandS.IsInst
import HandS.ExcIs
import HandS.ExcField
import HandS.ExcInit
import HandS.Defaults
import HandS.HeadHook4
import HandS.TupAny
import HandS.TupMul
import HandS.Deep
import HandS.TupLe
import HandS.WideBits
import HandS.More
import HandS.SetFor
import HandS.ExcOwn
import HandS.EndBits
import HandS.Head0
import HandS.Head1
import HandS.Head2
import HandS.HeadEnd
import HandS.HeadHook1
import HandS.HeadHook2
import HandS.HeadHook3
import PySem.Challenge.RW_slackchain_k11_names_and_fractions_told
set_option Elab.async false
set_option linter.all false
set_option maxRecDepth 100000
set_option maxHeartbeats 0
/-! DL0: values as trees, the readings over them. -/
namespace DL
open PySem PySem.Spec PyProof.Rows L2

/-- a value as data: tuples, frozen lists, dicts and objects by what they hold; ref: an object that may change -/
inductive D where
  | non | bl (b : Bool) | int (i : Int) | str (x : Str)
  | tup (l : List D) | lst (l : List D) | rol (l : List D)
  | dic (ks : List Key) (vs : List D)
  | obj (c : String) (ns : List String) (vs : List D)
  | ref (a : Addr)

/-- what may change at an address -/
inductive AO where
  | lst (l : List D) | dic (kvs : List (Key × D)) | obj (c : String) (fs : List (String × D))

abbrev AH := Addr → Option AO
def AH.put (A : AH) (a : Addr) (o : AO) : AH := fun b => if b = a then some o else A b
def AH.del (A : AH) (a : Addr) : AH := fun b => if b = a then none else A b
@[simp] theorem AH.put_same (A : AH) (a : Addr) (o : AO) : (A.put a o) a = some o := if_pos rfl
theorem AH.put_ne (A : AH) {a b : Addr} (o : AO) (h : b ≠ a) : (A.put a o) b = A b := if_neg h
@[simp] theorem AH.put_put (A : AH) (a : Addr) (o u : AO) : (A.put a o).put a u = A.put a u := by
  funext b; unfold AH.put; split <;> rfl
@[simp] theorem AH.del_put {A : AH} {a : Addr} {o : AO} (h : A a = none) : (A.put a o).del a = A := by
  funext b; simp only [AH.put, AH.del]
  by_cases hb : b = a
  · rw [if_pos hb, hb, h]
  · rw [if_neg hb, if_neg hb]
theorem AH.del_ne (A : AH) {a b : Addr} (h : b ≠ a) : (A.del a) b = A b := if_neg h
@[simp] theorem AH.del_same (A : AH) (a : Addr) : (A.del a) a = none := if_pos rfl
@[simp] theorem AH.put_none {A : AH} {a b : Addr} {o : AO} : (A.put a o) b = none ↔ b ≠ a ∧ A b = none := by
  unfold AH.put
  by_cases hb : b = a
  · rw [if_pos hb]; simp [hb]
  · rw [if_neg hb]; simp [hb]
theorem AH.put_comm (A : AH) {a b : Addr} (o u : AO) (h : a ≠ b) : (A.put a o).put b u = (A.put b u).put a o := by
  funext c; simp only [AH.put]
  by_cases h1 : c = b
  · rw [if_pos h1, if_neg (fun e => h (e.symm.trans h1)), if_pos h1]
  · rw [if_neg h1]
    by_cases h2 : c = a
    · rw [if_pos h2, if_pos h2]
    · rw [if_neg h2, if_neg h2, if_neg h1]
theorem AH.del_put_ne (A : AH) {a b : Addr} (o : AO) (h : a ≠ b) : (A.put a o).del b = (A.del b).put a o := by
  funext c; simp only [AH.put, AH.del]
  by_cases h1 : c = b
  · rw [if_pos h1, if_neg (fun e => h (e.symm.trans h1)), if_pos h1]
  · rw [if_neg h1]
    by_cases h2 : c = a
    · rw [if_pos h2, if_pos h2]
    · rw [if_neg h2, if_neg h2, if_neg h1]
theorem AH.del_id {A : AH} {a : Addr} (h : A a = none) : A.del a = A := by
  funext b; unfold AH.del
  by_cases hb : b = a
  · rw [if_pos hb, hb, h]
  · rw [if_neg hb]

/-! ### relations -/
section
variable (K : PySem.W.Frag)
mutual
def RV (Z : Hp) : D → V → Prop
  | .non, v => v = .non
  | .bl b, v => v = .bl b
  | .int i, v => v = .int i
  | .str x, v => v = .str x
  | .tup l, v => ∃ p vs, v = .ref p ∧ SqT K Z p vs ∧ RVs Z l vs
  | .lst l, v => ∃ p vs, v = .ref p ∧ Z p = some (.lst vs) ∧ RVs Z l vs
  | .rol l, v => ∃ p vs, v = .ref p ∧ SqL K Z p vs ∧ RVs Z l vs
  | .dic ks ds, v => ∃ p kvs, v = .ref p ∧ Z p = some (.dK kvs) ∧ kvs.map (·.1) = ks ∧ RVs Z ds (kvs.map (·.2))
  | .obj c ns ds, v => ∃ p dx fs, v = .ref p ∧ Z p = some (.ins (He.ga K (Str.ofString c)) dx fs) ∧ fs.map (·.1) = ns.map Str.ofString ∧ RVs Z ds (fs.map (·.2))
  | .ref a, v => v = .ref a
def RVs (Z : Hp) : List D → List V → Prop
  | [], vs => vs = []
  | d :: l, vs => ∃ v r, vs = v :: r ∧ RV Z d v ∧ RVs Z l r
end
end
variable {K : PySem.W.Frag} {Z Z' : Hp}
theorem rd_mono (e : Same Z Z') {a : Addr} {u : HO} (h : Rd Z a u) : Rd Z' a u := by
  rcases h with h | ⟨o, h⟩
  · exact .inl (e _ _ h)
  · exact .inr ⟨o, e _ _ h⟩
theorem sqL_mono (e : Same Z Z') {a : Addr} {xs : List V} (h : SqL K Z a xs) : SqL K Z' a xs := h.imp (rd_mono e) id
theorem sqT_mono (e : Same Z Z') {a : Addr} {xs : List V} (h : SqT K Z a xs) : SqT K Z' a xs := h.imp (rd_mono e) id
mutual
theorem RV.mono (e : Same Z Z') : ∀ {d : D} {v : V}, RV K Z d v → RV K Z' d v
  | .non, _, h => by simpa only [RV] using h
  | .bl _, _, h => by simpa only [RV] using h
  | .int _, _, h => by simpa only [RV] using h
  | .str _, _, h => by simpa only [RV] using h
  | .ref _, _, h => by simpa only [RV] using h
  | .tup l, _, h => by
    simp only [RV] at h ⊢
    obtain ⟨p, vs, h1, h2, h3⟩ := h
    exact ⟨p, vs, h1, sqT_mono e h2, RVs.mono e h3⟩
  | .lst l, _, h => by
    simp only [RV] at h ⊢
    obtain ⟨p, vs, h1, h2, h3⟩ := h
    exact ⟨p, vs, h1, e _ _ h2, RVs.mono e h3⟩
  | .rol l, _, h => by
    simp only [RV] at h ⊢
    obtain ⟨p, vs, h1, h2, h3⟩ := h
    exact ⟨p, vs, h1, sqL_mono e h2, RVs.mono e h3⟩
  | .dic ks ds, _, h => by
    simp only [RV] at h ⊢
    obtain ⟨p, kvs, h1, h2, h3, h4⟩ := h
    exact ⟨p, kvs, h1, e _ _ h2, h3, RVs.mono e h4⟩
  | .obj c ns ds, _, h => by
    simp only [RV] at h ⊢
    obtain ⟨p, dx, fs, h1, h2, h3, h4⟩ := h
    exact ⟨p, dx, fs, h1, e _ _ h2, h3, RVs.mono e h4⟩
theorem RVs.mono (e : Same Z Z') : ∀ {l : List D} {vs : List V}, RVs K Z l vs → RVs K Z' l vs
  | [], _, h => by simpa only [RVs] using h
  | d :: l, _, h => by
    simp only [RVs] at h ⊢
    obtain ⟨v, r, h1, h2, h3⟩ := h
    exact ⟨v, r, h1, RV.mono e h2, RVs.mono e h3⟩
end
theorem RVs.nil : RVs K Z [] [] := by simp only [RVs]
theorem RVs.cons {d : D} {v : V} {l : List D} {r : List V} (h : RV K Z d v) (t : RVs K Z l r) : RVs K Z (d :: l) (v :: r) := by
  simp only [RVs]; exact ⟨v, r, rfl, h, t⟩
theorem RVs.inv {d : D} {l : List D} {vs : List V} (h : RVs K Z (d :: l) vs) : ∃ v r, vs = v :: r ∧ RV K Z d v ∧ RVs K Z l r := by
  simpa only [RVs] using h
theorem RVs.inv0 {vs : List V} (h : RVs K Z [] vs) : vs = [] := by simpa only [RVs] using h
theorem RVs.len : ∀ {l : List D} {vs : List V}, RVs K Z l vs → vs.length = l.length
  | [], _, h => by rw [h.inv0]; rfl
  | d :: l, _, h => by
    obtain ⟨v, r, rfl, _, h3⟩ := h.inv
    rw [List.length_cons, List.length_cons, RVs.len h3]
theorem RVs.get : ∀ {l : List D} {vs : List V} {i : Nat} {v : V}, RVs K Z l vs → vs[i]? = some v → ∃ d, l[i]? = some d ∧ RV K Z d v
  | [], _, _, _, h, e => by rw [h.inv0] at e; simp at e
  | d :: l, _, 0, _, h, e => by
    obtain ⟨v, r, rfl, h2, _⟩ := h.inv
    simp at e; subst e; exact ⟨d, rfl, h2⟩
  | d :: l, _, i + 1, _, h, e => by
    obtain ⟨v, r, rfl, _, h3⟩ := h.inv
    simp only [List.getElem?_cons_succ] at e ⊢
    exact RVs.get h3 e
theorem RVs.get' : ∀ {l : List D} {vs : List V} {i : Nat} {d : D}, RVs K Z l vs → l[i]? = some d → ∃ v, vs[i]? = some v ∧ RV K Z d v
  | [], _, _, _, h, e => by simp at e
  | x :: l, _, 0, _, h, e => by
    obtain ⟨v, r, rfl, h2, _⟩ := h.inv
    simp at e; subst e; exact ⟨v, rfl, h2⟩
  | x :: l, _, i + 1, _, h, e => by
    obtain ⟨v, r, rfl, _, h3⟩ := h.inv
    simp only [List.getElem?_cons_succ] at e ⊢
    exact RVs.get' h3 e
theorem RVs.append : ∀ {l m : List D} {vs us : List V}, RVs K Z l vs → RVs K Z m us → RVs K Z (l ++ m) (vs ++ us)
  | [], _, _, _, h, q => by rw [h.inv0]; exact q
  | d :: l, _, _, _, h, q => by
    obtain ⟨v, r, rfl, h2, h3⟩ := h.inv
    exact RVs.cons h2 (RVs.append h3 q)
theorem RVs.take : ∀ {l : List D} {vs : List V} (n : Nat), RVs K Z l vs → RVs K Z (l.take n) (vs.take n)
  | _, _, 0, _ => by simp only [List.take_zero]; exact RVs.nil
  | [], _, n + 1, h => by rw [h.inv0]; exact RVs.nil
  | d :: l, _, n + 1, h => by
    obtain ⟨v, r, rfl, h2, h3⟩ := h.inv
    exact RVs.cons h2 (RVs.take n h3)
theorem RVs.drop : ∀ {l : List D} {vs : List V} (n : Nat), RVs K Z l vs → RVs K Z (l.drop n) (vs.drop n)
  | _, _, 0, h => h
  | [], _, n + 1, h => by rw [h.inv0]; exact RVs.nil
  | d :: l, _, n + 1, h => by
    obtain ⟨v, r, rfl, h2, h3⟩ := h.inv
    exact RVs.drop n h3
theorem RVs.set : ∀ {l : List D} {vs : List V} (i : Nat) {d : D} {v : V}, RVs K Z l vs → RV K Z d v → RVs K Z (l.set i d) (vs.set i v)
  | [], _, _, _, _, h, _ => by rw [h.inv0]; exact RVs.nil
  | x :: l, _, 0, _, _, h, q => by
    obtain ⟨v, r, rfl, h2, h3⟩ := h.inv
    exact RVs.cons q h3
  | x :: l, _, i + 1, _, _, h, q => by
    obtain ⟨v, r, rfl, h2, h3⟩ := h.inv
    exact RVs.cons h2 (RVs.set i h3 q)
theorem RVs.reverse : ∀ {l : List D} {vs : List V}, RVs K Z l vs → RVs K Z l.reverse vs.reverse
  | [], _, h => by rw [h.inv0]; exact RVs.nil
  | d :: l, _, h => by
    obtain ⟨v, r, rfl, h2, h3⟩ := h.inv
    rw [List.reverse_cons, List.reverse_cons]
    exact RVs.append (RVs.reverse h3) (RVs.cons h2 RVs.nil)

/-- an object that may change -/
def RO (K : PySem.W.Frag) (Z H : Hp) (a : Addr) : AO → Prop
  | .lst l => ∃ vs, H a = some (.lst vs) ∧ RVs K Z l vs
  | .dic kvs => ∃ us, H a = some (.dK us) ∧ us.map (·.1) = kvs.map (·.1) ∧ RVs K Z (kvs.map (·.2)) (us.map (·.2))
  | .obj c fs => ∃ dx us, H a = some (.ins (He.ga K (Str.ofString c)) dx us) ∧ us.map (·.1) = fs.map (fun p => Str.ofString p.1) ∧ RVs K Z (fs.map (·.2)) (us.map (·.2))
structure RA (K : PySem.W.Frag) (Z : Hp) (A : AH) (H : Hp) : Prop where
  sub : Same Z H
  at_ : ∀ a o, A a = some o → Z a = none ∧ RO K Z H a o
theorem RO.mono {H : Hp} (e : Same Z Z') {a : Addr} {o : AO} (h : RO K Z H a o) : RO K Z' H a o := by
  cases o with
  | lst l => obtain ⟨vs, h1, h2⟩ := h; exact ⟨vs, h1, h2.mono e⟩
  | dic kvs => obtain ⟨us, h1, h2, h3⟩ := h; exact ⟨us, h1, h2, h3.mono e⟩
  | obj c fs => obtain ⟨dx, us, h1, h2, h3⟩ := h; exact ⟨dx, us, h1, h2, h3.mono e⟩
theorem RO.keep {H H' : Hp} {a : Addr} {o : AO} (e : H' a = H a) (h : RO K Z H a o) : RO K Z H' a o := by
  cases o with
  | lst l => obtain ⟨vs, h1, h2⟩ := h; exact ⟨vs, e.trans h1, h2⟩
  | dic kvs => obtain ⟨us, h1, h2⟩ := h; exact ⟨us, e.trans h1, h2⟩
  | obj c fs => obtain ⟨dx, us, h1, h2⟩ := h; exact ⟨dx, us, e.trans h1, h2⟩
theorem RO.there {H : Hp} {a : Addr} {o : AO} (h : RO K Z H a o) : ∃ u, H a = some u := by
  cases o with
  | lst l => obtain ⟨vs, h1, _⟩ := h; exact ⟨_, h1⟩
  | dic kvs => obtain ⟨us, h1, _⟩ := h; exact ⟨_, h1⟩
  | obj c fs => obtain ⟨dx, us, h1, _⟩ := h; exact ⟨_, h1⟩
section
variable {A : AH} {H : Hp} {p : Addr}
theorem RA.fresh (R : RA K Z A H) (h : H p = none) : A p = none ∧ Z p = none := by
  constructor
  · cases e : A p with
    | none => rfl
    | some o =>
      obtain ⟨u, q⟩ := (R.at_ p o e).2.there
      rw [h] at q; cases q
  · cases e : Z p with
    | none => rfl
    | some o => rw [R.sub p o e] at h; cases h
/-- a new frozen object -/
theorem RA.newF (R : RA K Z A H) (h : H p = none) (o : HO) : Same Z (upd Z p o) ∧ RA K (upd Z p o) A (upd H p o) := by
  obtain ⟨hA, hZ⟩ := R.fresh h
  have s : Same Z (upd Z p o) := fun a u e => by rw [upd_ne (ne_of_none e hZ)]; exact e
  refine ⟨s, ⟨fun a u e => ?_, fun a u e => ?_⟩⟩
  · by_cases ha : a = p
    · subst ha; rw [upd_same] at e ⊢; exact e
    · rw [upd_ne ha] at e ⊢; exact R.sub a u e
  · have ha : a ≠ p := fun z => by rw [z, hA] at e; cases e
    obtain ⟨h1, h2⟩ := R.at_ a u e
    exact ⟨by rw [upd_ne ha]; exact h1, (h2.mono s).keep (upd_ne ha)⟩
/-- a new object that may change -/
theorem RA.newO (R : RA K Z A H) (h : H p = none) {o : HO} {u : AO} (q : RO K Z (upd H p o) p u) : RA K Z (A.put p u) (upd H p o) := by
  obtain ⟨hA, hZ⟩ := R.fresh h
  refine ⟨fun a u e => ?_, fun a v e => ?_⟩
  · rw [upd_ne (ne_of_none e hZ)]; exact R.sub a u e
  · by_cases ha : a = p
    · subst ha; rw [AH.put_same] at e; cases e; exact ⟨hZ, q⟩
    · rw [AH.put_ne A u ha] at e
      obtain ⟨h1, h2⟩ := R.at_ a v e
      exact ⟨h1, h2.keep (upd_ne ha)⟩
/-- an object is changed -/
theorem RA.write (R : RA K Z A H) {u : AO} {u' : AO} (h : A p = some u') {o : HO} (q : RO K Z (upd H p o) p u) : RA K Z (A.put p u) (upd H p o) := by
  have hZ := (R.at_ p u' h).1
  refine ⟨fun a u e => ?_, fun a v e => ?_⟩
  · rw [upd_ne (ne_of_none e hZ)]; exact R.sub a u e
  · by_cases ha : a = p
    · subst ha; rw [AH.put_same] at e; cases e; exact ⟨hZ, q⟩
    · rw [AH.put_ne A u ha] at e
      obtain ⟨h1, h2⟩ := R.at_ a v e
      exact ⟨h1, h2.keep (upd_ne ha)⟩
/-- an object changes no more -/
theorem RA.freeze (R : RA K Z A H) {o : AO} {u : HO} (h : A p = some o) (e : H p = some u) : Same Z (upd Z p u) ∧ RA K (upd Z p u) (A.del p) H := by
  have hZ := (R.at_ p o h).1
  have s : Same Z (upd Z p u) := fun a w e => by rw [upd_ne (ne_of_none e hZ)]; exact e
  refine ⟨s, ⟨fun a w q => ?_, fun a w q => ?_⟩⟩
  · by_cases ha : a = p
    · subst ha; rw [upd_same] at q; cases q; exact e
    · rw [upd_ne ha] at q; exact R.sub a w q
  · by_cases ha : a = p
    · subst ha; rw [AH.del_same] at q; cases q
    · rw [AH.del_ne A ha] at q
      obtain ⟨h1, h2⟩ := R.at_ a w q
      exact ⟨by rw [upd_ne ha]; exact h1, h2.mono s⟩
theorem RA.same {A' : AH} (R : RA K Z A H) (h : ∀ a o, A' a = some o → A a = some o) : RA K Z A' H := ⟨R.sub, fun a o e => R.at_ a o (h a o e)⟩
/-- the heap may grow by what nobody knows of -/
theorem RA.grow {H' : Hp} (R : RA K Z A H) (h : Same H H') : RA K Z A H' := ⟨R.sub.trans h, fun a o e => by
  obtain ⟨h1, h2⟩ := R.at_ a o e
  refine ⟨h1, ?_⟩
  obtain ⟨u, q⟩ := h2.there
  exact h2.keep ((h a u q).trans q.symm)⟩
end

abbrev DSt := List (Option D)
def RSl (K : PySem.W.Frag) (Z : Hp) : Option D → Option V → Prop
  | none, _ => True
  | some d, some v => RV K Z d v
  | some _, none => False
abbrev RS (K : PySem.W.Frag) (Z : Hp) : DSt → L2.St → Prop := Paired (RSl K Z)
theorem RSl.mono (e : Same Z Z') {a : Option D} {b : Option V} (h : RSl K Z a b) : RSl K Z' a b := by
  cases a with
  | none => trivial
  | some d => cases b with
    | none => exact h
    | some v => exact RV.mono e h
theorem RS.mono (e : Same Z Z') {δ : DSt} {σ : L2.St} (h : RS K Z δ σ) : RS K Z' δ σ := Paired.mapP h fun _ _ => RSl.mono e
theorem RS.get : ∀ {δ : DSt} {σ : L2.St} {i : Nat} {d : D}, RS K Z δ σ → δ[i]? = some (some d) → ∃ v, σ[i]? = some (some v) ∧ RV K Z d v
  | _, _, _, _, .nil, e => by simp at e
  | _, _, 0, _, .cons (a := a) (b := b) r _, e => by
    simp at e; subst e
    cases b with
    | none => exact r.elim
    | some v => exact ⟨v, rfl, r⟩
  | _, _, i + 1, _, .cons _ t, e => by
    simp only [List.getElem?_cons_succ] at e ⊢
    exact RS.get t e
theorem RS.set : ∀ {δ : DSt} {σ : L2.St} (i : Nat) {a : Option D} {b : Option V}, RS K Z δ σ → RSl K Z a b → RS K Z (δ.set i a) (σ.set i b)
  | _, _, _, _, _, .nil, _ => .nil
  | _, _, 0, _, _, .cons _ t, q => .cons q t
  | _, _, i + 1, _, _, .cons r t, q => .cons r (RS.set i t q)
theorem RS.len {δ : DSt} {σ : L2.St} (h : RS K Z δ σ) : δ.length = σ.length := Paired.length h

/-! ### readings over data -/
abbrev DK := D → AH → Prop
abbrev DE := DSt → AH → DK → Prop
abbrev DT := DSt → AH → (Bool → AH → Prop) → Prop
abbrev DA := DSt → AH → (List D → AH → Prop) → Prop
structure DEnds where
  nx : DSt → AH → Prop
  rt : DK
  bk : DSt → AH → Prop := fun _ _ => False
  ct : DSt → AH → Prop := fun _ _ => False
abbrev DS := DEnds → DSt → AH → Prop
/-- what is wished of an exception: its class, its fields -/
abbrev DX := String → List (String × D) → AH → Prop
abbrev DW := String → List (String × D) → DSt → AH → Prop

def liftE (K : PySem.W.Frag) (Z0 : Hp) (t : DE) : TE := fun σ H Q => ∃ Z δ A Kt, Same Z0 Z ∧ RS K Z δ σ ∧ RA K Z A H ∧ t δ A Kt ∧
  ∀ Z' d A' v H', Same Z Z' → RA K Z' A' H' → RV K Z' d v → Kt d A' → Q v H'
def liftT (K : PySem.W.Frag) (Z0 : Hp) (t : DT) : TT := fun σ H Q => ∃ Z δ A Kt, Same Z0 Z ∧ RS K Z δ σ ∧ RA K Z A H ∧ t δ A Kt ∧
  ∀ Z' b A' H', Same Z Z' → RA K Z' A' H' → Kt b A' → Q b H'
def liftA (K : PySem.W.Frag) (Z0 : Hp) (t : DA) : TA := fun σ H Q => ∃ Z δ A Kt, Same Z0 Z ∧ RS K Z δ σ ∧ RA K Z A H ∧ t δ A Kt ∧
  ∀ Z' ds A' vs H', Same Z Z' → RA K Z' A' H' → RVs K Z' ds vs → Kt ds A' → Q vs H'
structure RE (K : PySem.W.Frag) (Z : Hp) (DD : DEnds) (DV : Ends) : Prop where
  nx : ∀ Z' δ A σ H, Same Z Z' → RS K Z' δ σ → RA K Z' A H → DD.nx δ A → DV.nx σ H
  rt : ∀ Z' d A v H, Same Z Z' → RA K Z' A H → RV K Z' d v → DD.rt d A → DV.rt v H
  bk : ∀ Z' δ A σ H, Same Z Z' → RS K Z' δ σ → RA K Z' A H → DD.bk δ A → DV.bk σ H
  ct : ∀ Z' δ A σ H, Same Z Z' → RS K Z' δ σ → RA K Z' A H → DD.ct δ A → DV.ct σ H
theorem RE.mono {DD : DEnds} {DV : Ends} (e : Same Z Z') (h : RE K Z DD DV) : RE K Z' DD DV :=
  ⟨fun W δ A σ H s => h.nx W δ A σ H (e.trans s), fun W d A v H s => h.rt W d A v H (e.trans s), fun W δ A σ H s => h.bk W δ A σ H (e.trans s), fun W δ A σ H s => h.ct W δ A σ H (e.trans s)⟩
def liftS (K : PySem.W.Frag) (Z0 : Hp) (t : DS) : TS := fun DV σ H => ∃ Z δ A DD, Same Z0 Z ∧ RS K Z δ σ ∧ RA K Z A H ∧ t DD δ A ∧ RE K Z DD DV

abbrev QE (X : Cx) (Z0 : Hp) (e : Expr) (t : DE) : Prop := PE X e (liftE X.K Z0 t)
abbrev QT (X : Cx) (Z0 : Hp) (e : Expr) (t : DT) : Prop := PT X e (liftT X.K Z0 t)
abbrev QW (X : Cx) (Z0 : Hp) (e : Expr) (t : DT) : Prop := PW X e (liftT X.K Z0 t)
abbrev QA (X : Cx) (Z0 : Hp) (es : List Expr) (t : DA) : Prop := PA X es (liftA X.K Z0 t)
abbrev QS (X : Cx) (Z0 : Hp) (st : Stmt) (t : DS) : Prop := PS X st (liftS X.K Z0 t)
abbrev QSs (X : Cx) (Z0 : Hp) (st : List Stmt) (t : DS) : Prop := PSs X st (liftS X.K Z0 t)

theorem PE.imp {X : Cx} {e : Expr} {t u : TE} (h : PE X e t) (i : ∀ σ H Q, u σ H Q → t σ H Q) : PE X e u := ⟨fun pins s σ H Q I q => h.run pins s σ H Q I (i σ H Q q)⟩
theorem PT.imp {X : Cx} {e : Expr} {t u : TT} (h : PT X e t) (i : ∀ σ H Q, u σ H Q → t σ H Q) : PT X e u := ⟨fun pins s σ H Q I q => h.run pins s σ H Q I (i σ H Q q)⟩
theorem PW.imp {X : Cx} {e : Expr} {t u : TT} (h : PW X e t) (i : ∀ σ H Q, u σ H Q → t σ H Q) : PW X e u := ⟨fun wh pins s σ H Q I q => h.run wh pins s σ H Q I (i σ H Q q)⟩
theorem PA.imp {X : Cx} {e : List Expr} {t u : TA} (h : PA X e t) (i : ∀ σ H Q, u σ H Q → t σ H Q) : PA X e u := ⟨fun pos pins s σ H Q I q => h.run pos pins s σ H Q I (i σ H Q q)⟩
theorem PS.imp {X : Cx} {e : Stmt} {t u : TS} (h : PS X e t) (i : ∀ D σ H, u D σ H → t D σ H) : PS X e u := ⟨fun pins s σ H D I q => h.run pins s σ H D I (i D σ H q)⟩
theorem PSs.imp {X : Cx} {e : List Stmt} {t u : TS} (h : PSs X e t) (i : ∀ D σ H, u D σ H → t D σ H) : PSs X e u := ⟨fun pins s σ H D I q => h.run pins s σ H D I (i D σ H q)⟩

/-! ### promises -/
abbrev DSp := List D → AH → DK → DX → Prop
/-- an exception as data -/
def RX (K : PySem.W.Frag) (Z : Hp) (c : String) (fs : List (String × D)) (cv : Value) (dd : Option Addr) : Prop :=
  cv = .ref (He.ga K (Str.ofString c)) ∧ ((fs = [] ∧ dd = none) ∨ ∃ a us, fs ≠ [] ∧ dd = some a ∧ Z a = some (.xd us) ∧ us.map (·.1) = fs.map (fun p => Str.ofString p.1) ∧ RVs K Z (fs.map (·.2)) (us.map (·.2)))
theorem RX.mono (e : Same Z Z') {c : String} {fs : List (String × D)} {cv : Value} {dd : Option Addr} (h : RX K Z c fs cv dd) : RX K Z' c fs cv dd := by
  obtain ⟨h1, h2⟩ := h
  refine ⟨h1, ?_⟩
  rcases h2 with h2 | ⟨a, us, q0, q1, q2, q3, q4⟩
  · exact .inl h2
  · exact .inr ⟨a, us, q0, q1, e _ _ q2, q3, q4.mono e⟩
def liftSp (K : PySem.W.Frag) (sp : DSp) : Sp := fun vs H Q E => ∃ Z ds A Kt Ex, RVs K Z ds vs ∧ RA K Z A H ∧ sp ds A Kt Ex ∧
  (∀ Z' d A' v H', Same Z Z' → RA K Z' A' H' → RV K Z' d v → Kt d A' → Q v H') ∧
  (∀ Z' c fs A' cv dd H', Same Z Z' → RA K Z' A' H' → RX K Z' c fs cv dd → Ex c fs A' → E cv dd H')
/-- a wish, over the slots -/
def liftW (K : PySem.W.Frag) (Z0 : Hp) (w : DW) : WX := fun cv dd σ H => ∃ Z δ A c fs, Same Z0 Z ∧ RS K Z δ σ ∧ RA K Z A H ∧ RX K Z c fs cv dd ∧ w c fs δ A
end DL

/-! DL1: expressions over data. -/
namespace DL
open PySem PySem.Spec PyProof.Rows L2
variable {K : PySem.W.Frag} {Z Z' Z0 : Hp}
theorem rv_int {i : Int} {v : V} (h : RV K Z (.int i) v) : v = .int i := by simpa only [RV] using h
theorem rv_bl {b : Bool} {v : V} (h : RV K Z (.bl b) v) : v = .bl b := by simpa only [RV] using h
theorem rv_str {x : Str} {v : V} (h : RV K Z (.str x) v) : v = .str x := by simpa only [RV] using h
theorem rv_non {v : V} (h : RV K Z .non v) : v = .non := by simpa only [RV] using h
theorem rv_ref {a : Addr} {v : V} (h : RV K Z (.ref a) v) : v = .ref a := by simpa only [RV] using h
theorem rv_tup {l : List D} {v : V} (h : RV K Z (.tup l) v) : ∃ p vs, v = .ref p ∧ SqT K Z p vs ∧ RVs K Z l vs := by simpa only [RV] using h
theorem rv_lst {l : List D} {v : V} (h : RV K Z (.lst l) v) : ∃ p vs, v = .ref p ∧ Z p = some (.lst vs) ∧ RVs K Z l vs := by simpa only [RV] using h
theorem rv_rol {l : List D} {v : V} (h : RV K Z (.rol l) v) : ∃ p vs, v = .ref p ∧ SqL K Z p vs ∧ RVs K Z l vs := by simpa only [RV] using h
theorem rv_dic {ks : List Key} {l : List D} {v : V} (h : RV K Z (.dic ks l) v) : ∃ p kvs, v = .ref p ∧ Z p = some (.dK kvs) ∧ kvs.map (·.1) = ks ∧ RVs K Z l (kvs.map (·.2)) := by simpa only [RV] using h
theorem rv_obj {c : String} {ns : List String} {l : List D} {v : V} (h : RV K Z (.obj c ns l) v) : ∃ p dx fs, v = .ref p ∧ Z p = some (.ins (He.ga K (Str.ofString c)) dx fs) ∧ fs.map (·.1) = ns.map Str.ofString ∧ RVs K Z l (fs.map (·.2)) := by simpa only [RV] using h
theorem mk_int {i : Int} : RV K Z (.int i) (.int i) := by simp only [RV]
theorem mk_bl {b : Bool} : RV K Z (.bl b) (.bl b) := by simp only [RV]
theorem mk_str {x : Str} : RV K Z (.str x) (.str x) := by simp only [RV]
theorem mk_non : RV K Z .non .non := by simp only [RV]
theorem mk_ref {a : Addr} : RV K Z (.ref a) (.ref a) := by simp only [RV]
theorem mk_tup {l : List D} {p : Addr} {vs : List V} (h : SqT K Z p vs) (q : RVs K Z l vs) : RV K Z (.tup l) (.ref p) := by simp only [RV]; exact ⟨p, vs, rfl, h, q⟩
theorem mk_lst {l : List D} {p : Addr} {vs : List V} (h : Z p = some (.lst vs)) (q : RVs K Z l vs) : RV K Z (.lst l) (.ref p) := by simp only [RV]; exact ⟨p, vs, rfl, h, q⟩

/-! ### what is read of an object -/
/-- a list's items -/
def asL (A : AH) : D → Option (List D)
  | .lst l => some l
  | .rol l => some l
  | .ref a => match A a with
    | some (.lst l) => some l
    | _ => none
  | _ => none
/-- a list's or a tuple's items -/
def asS (A : AH) : D → Option (List D)
  | .tup l => some l
  | d => asL A d
def asDic (A : AH) : D → Option (List (Key × D))
  | .dic ks vs => some (ks.zip vs)
  | .ref a => match A a with
    | some (.dic kvs) => some kvs
    | _ => none
  | _ => none
def asObj (A : AH) : D → Option (String × List (String × D))
  | .obj c ns vs => some (c, ns.zip vs)
  | .ref a => match A a with
    | some (.obj c fs) => some (c, fs)
    | _ => none
  | _ => none
section
variable {A : AH} {H : Hp} {d : D} {v : V} {l : List D}
theorem asL_ok (R : RA K Z A H) (r : RV K Z d v) (h : asL A d = some l) : ∃ p vs, v = .ref p ∧ SqL K H p vs ∧ RVs K Z l vs := by
  cases d with
  | lst m =>
    obtain ⟨p, vs, e1, e2, e3⟩ := rv_lst r
    cases (show some m = some l from h)
    exact ⟨p, vs, e1, SqL.of (R.sub _ _ e2), e3⟩
  | rol m =>
    obtain ⟨p, vs, e1, e2, e3⟩ := rv_rol r
    cases (show some m = some l from h)
    exact ⟨p, vs, e1, sqL_mono R.sub e2, e3⟩
  | ref a =>
    have e := rv_ref r
    have h' : (match A a with | some (.lst l) => some l | _ => none) = some l := h
    split at h'
    · rename_i m q
      cases h'
      obtain ⟨vs, e2, e3⟩ := (R.at_ a _ q).2
      exact ⟨a, vs, e, SqL.of e2, e3⟩
    · cases h'
  | _ => cases h
theorem asS_ok (R : RA K Z A H) (r : RV K Z d v) (h : asS A d = some l) : ∃ p vs, v = .ref p ∧ (SqL K H p vs ∨ SqT K H p vs) ∧ RVs K Z l vs := by
  cases d with
  | tup m =>
    obtain ⟨p, vs, e1, e2, e3⟩ := rv_tup r
    cases (show some m = some l from h)
    exact ⟨p, vs, e1, .inr (sqT_mono R.sub e2), e3⟩
  | _ =>
    obtain ⟨p, vs, e1, e2, e3⟩ := asL_ok R r h
    exact ⟨p, vs, e1, .inl e2, e3⟩
theorem zip_unzip_map {α β γ δ : Type} (f : α → γ) : ∀ {us : List (α × β)} {ns : List γ} {l : List δ}, us.map (fun p => f p.1) = ns → l.length = us.length → True := fun _ _ => trivial
theorem asDic_ok {kvs : List (Key × D)} (R : RA K Z A H) (r : RV K Z d v) (h : asDic A d = some kvs) :
    ∃ p us, v = .ref p ∧ H p = some (.dK us) ∧ us.map (·.1) = kvs.map (·.1) ∧ RVs K Z (kvs.map (·.2)) (us.map (·.2)) := by
  cases d with
  | dic ks ds =>
    obtain ⟨p, us, e1, e2, e3, e4⟩ := rv_dic r
    cases (show some (ks.zip ds) = some kvs from h)
    have hl : ds.length = ks.length := by
      have := e4.len
      rw [List.length_map] at this
      rw [← e3, List.length_map]; omega
    refine ⟨p, us, e1, R.sub _ _ e2, ?_, ?_⟩
    · rw [e3]
      exact (List.map_fst_zip (by omega)).symm
    · rw [show (ks.zip ds).map (·.2) = ds from List.map_snd_zip (by omega)]
      exact e4
  | ref a =>
    have e := rv_ref r
    have h' : (match A a with | some (.dic l) => some l | _ => none) = some kvs := h
    split at h'
    · rename_i m q
      cases h'
      obtain ⟨us, e2, e3, e4⟩ := (R.at_ a _ q).2
      exact ⟨a, us, e, e2, e3, e4⟩
    · cases h'
  | _ => cases h
theorem asObj_ok {c : String} {fs : List (String × D)} (R : RA K Z A H) (r : RV K Z d v) (h : asObj A d = some (c, fs)) :
    ∃ p dx us, v = .ref p ∧ H p = some (.ins (He.ga K (Str.ofString c)) dx us) ∧ us.map (·.1) = fs.map (fun p => Str.ofString p.1) ∧ RVs K Z (fs.map (·.2)) (us.map (·.2)) := by
  cases d with
  | obj c' ns ds =>
    obtain ⟨p, dx, us, e1, e2, e3, e4⟩ := rv_obj r
    obtain ⟨rfl, rfl⟩ := Prod.mk.inj (Option.some.inj (show some (c', ns.zip ds) = some (c, fs) from h))
    have hl : ds.length = ns.length := by
      have h1 := e4.len
      have h2 := congrArg List.length e3
      simp only [List.length_map] at h1 h2
      omega
    refine ⟨p, dx, us, e1, R.sub _ _ e2, ?_, ?_⟩
    · have h3 : (ns.zip ds).map (fun p => Str.ofString p.1) = ((ns.zip ds).map (·.1)).map Str.ofString := by rw [List.map_map]; rfl
      rw [e3, h3, List.map_fst_zip (by omega)]
    · rw [show (ns.zip ds).map (·.2) = ds from List.map_snd_zip (by omega)]
      exact e4
  | ref a =>
    have e := rv_ref r
    have h' : (match A a with | some (.obj c fs) => some (c, fs) | _ => none) = some (c, fs) := h
    split at h'
    · rename_i m q
      cases h'
      obtain ⟨dx, us, e2, e3, e4⟩ := (R.at_ a _ ‹_›).2
      exact ⟨a, dx, us, e, e2, e3, e4⟩
    · cases h'
  | _ => cases h
end
/-! ### new lists -/
abbrev Mk := List D → AH → DK → Prop
def mkO : Mk := fun l A Q => ∀ p, A p = none → Q (.ref p) (A.put p (.lst l))
def mkF : Mk := fun l A Q => Q (.lst l) A
/-- what is behind a reading -/
abbrev Kont (K : PySem.W.Frag) (Z : Hp) (Kt : DK) (Q : VK) : Prop := ∀ Z' d A' v H', Same Z Z' → RA K Z' A' H' → RV K Z' d v → Kt d A' → Q v H'
structure MkOk (K : PySem.W.Frag) (mk : Mk) : Prop where
  ok : ∀ {Z : Hp} {A : AH} {H : Hp} {l : List D} {vs : List V} {Kt : DK} {Q : VK}, RA K Z A H → RVs K Z l vs → mk l A Kt → Kont K Z Kt Q → ∀ p, H p = none → Q (.ref p) (upd H p (.lst vs))
theorem mkO_ok : MkOk K mkO := ⟨fun {Z A H l vs Kt Q} R r h k p hp =>
  k Z (.ref p) _ _ _ (Same.refl Z) (R.newO (u := .lst l) hp ⟨vs, upd_same, r⟩) mk_ref (h p (R.fresh hp).1)⟩
theorem mkF_ok : MkOk K mkF := ⟨fun {Z A H l vs Kt Q} R r h k p hp => by
  obtain ⟨s, R'⟩ := R.newF hp (.lst vs)
  exact k _ (.lst l) A _ _ s R' (mk_lst upd_same (r.mono s)) h⟩

/-! ### names, constants, tuples, lists -/
section
variable {X : Cx} {e a b : Expr} {es : List Expr} {pos : Pos}
def eVar (i : Nat) : DE := fun δ A Q => match δ[i]? with
  | some (some d) => Q d A
  | _ => False
theorem qe_var {i : Nat} (h : PE X e (tVar i)) : QE X Z0 e (eVar i) := PE.imp h fun σ H Q ⟨Z, δ, A, Kt, z, rs, ra, t, k⟩ => by
  unfold eVar at t
  split at t
  · rename_i d q
    obtain ⟨v, e1, e2⟩ := rs.get q
    exact ⟨v, e1, k Z d A v H (Same.refl Z) ra e2 t⟩
  · exact t.elim
def eC (d : D) : DE := fun _ A Q => Q d A
theorem qe_c {d : D} {v : V} (r : ∀ Z, RV X.K Z d v) (h : PE X e (tC v)) : QE X Z0 e (eC d) := PE.imp h fun σ H Q ⟨Z, δ, A, Kt, z, rs, ra, t, k⟩ => k Z d A v H (Same.refl Z) ra (r Z) t
theorem qe_int {i : Int} {j : Nat} : QE X Z0 (.Constant (.int i) j pos) (eC (.int i)) := qe_c (fun _ => mk_int) pe_int
theorem qe_bl {i : Bool} {j : Nat} : QE X Z0 (.Constant (.bool i) j pos) (eC (.bl i)) := qe_c (fun _ => mk_bl) pe_bl
theorem qe_str {i : Str} {j : Nat} : QE X Z0 (.Constant (.str i) j pos) (eC (.str i)) := qe_c (fun _ => mk_str) pe_str
theorem qe_non {j : Nat} : QE X Z0 (.Constant .none j pos) (eC .non) := qe_c (fun _ => mk_non) pe_non

def aNil : DA := fun _ A Q => Q [] A
def aCons (t : DE) (u : DA) : DA := fun δ A Q => t δ A fun d A1 => u δ A1 fun ds A2 => Q (d :: ds) A2
theorem qa_nil : QA X Z0 [] aNil := PA.imp pa_nil fun σ H Q ⟨Z, δ, A, Kt, z, rs, ra, t, k⟩ => k Z [] A [] H (Same.refl Z) ra RVs.nil t
theorem qa_cons {t : DE} {u : DA} (ha : QE X Z0 e t) (hr : QA X Z0 es u) (hs : starEach (e :: es) X.env = (false, eval e X.env) :: starEach es X.env := by rfl) : QA X Z0 (e :: es) (aCons t u) :=
  PA.imp (pa_cons ha hr hs) fun σ H Q ⟨Z, δ, A, Kt, z, rs, ra, t, k⟩ =>
    ⟨Z, δ, A, _, z, rs, ra, t, fun Z1 d A1 v H1 s1 ra1 rv t1 => ⟨Z1, δ, A1, _, z.trans s1, rs.mono s1, ra1, t1, fun Z2 ds A2 vs H2 s2 ra2 rvs t2 => k Z2 (d :: ds) A2 (v :: vs) H2 (s1.trans s2) ra2 (RVs.cons (rv.mono s2) rvs) t2⟩⟩
theorem big_line : 1000000 ≤ sizeLine := by rw [sizeLine_eq]; decide
/-- the most items that a reading lets a list have -/
abbrev Few (n : Nat) : Prop := n < 1000000
theorem few_line {n : Nat} (h : Few n) : n ≤ sizeLine := Nat.le_trans (Nat.le_of_lt h) big_line
theorem few_lt {n : Nat} (h : Few n) : n < sizeLine := Nat.lt_of_lt_of_le h big_line
def eTup (t : DA) : DE := fun δ A Q => t δ A fun ds A1 => Few ds.length ∧ Q (.tup ds) A1
theorem qe_tup {x1} {t : DA} (h : QA X Z0 es t) : QE X Z0 (.Tuple es x1 pos) (eTup t) := PE.imp (pe_tup h) fun σ H Q ⟨Z, δ, A, Kt, z, rs, ra, t, k⟩ =>
  ⟨Z, δ, A, _, z, rs, ra, t, fun Z1 ds A1 vs H1 s1 ra1 rv t1 => ⟨by rw [rv.len]; exact few_line t1.1, fun p hp => by
    obtain ⟨s, R'⟩ := ra1.newF hp (.tup vs)
    exact k _ (.tup ds) A1 _ _ (s1.trans s) R' (mk_tup (SqT.of upd_same) (rv.mono s)) t1.2⟩⟩
def eLst (mk : Mk) (t : DA) : DE := fun δ A Q => t δ A fun ds A1 => Few ds.length ∧ mk ds A1 Q
theorem Kont.mono {Kt : DK} {Q : VK} (k : Kont K Z Kt Q) (s : Same Z Z') : Kont K Z' Kt Q := fun W d A v H s' => k W d A v H (s.trans s')
theorem qe_lst {mk : Mk} {t : DA} (m : MkOk X.K mk) (h : QA X Z0 es t) : QE X Z0 (.List es pos) (eLst mk t) := PE.imp (pe_lst h) fun σ H Q ⟨Z, δ, A, Kt, z, rs, ra, t, k⟩ =>
  ⟨Z, δ, A, _, z, rs, ra, t, fun Z1 ds A1 vs H1 s1 ra1 rv t1 => ⟨by rw [rv.len]; exact few_line t1.1, m.ok ra1 rv t1.2 (Kont.mono k s1)⟩⟩

/-! ### operators -/
abbrev DOp := D → D → AH → DK → Prop
def LiftOp (K : PySem.W.Frag) (rd : DOp) (r : R2) : Prop := ∀ (Z : Hp) (A : AH) (H : Hp) (x y : D) (vx vy : V) (Kt : DK) (Q : VK), RA K Z A H → RV K Z x vx → RV K Z y vy → rd x y A Kt → Kont K Z Kt Q → r vx vy H Q
def eBin (rd : DOp) (ta tb : DE) : DE := fun δ A Q => ta δ A fun x A1 => tb δ A1 fun y A2 => rd x y A2 Q
theorem lift_bin {rd : DOp} {r : R2} {ta tb : DE} {σ : L2.St} {H : Hp} {Q : VK} (l : LiftOp K rd r) (h : liftE K Z0 (eBin rd ta tb) σ H Q) : tOp r (liftE K Z0 ta) (liftE K Z0 tb) σ H Q := by
  obtain ⟨Z, δ, A, Kt, z, rs, ra, t, k⟩ := h
  exact ⟨Z, δ, A, _, z, rs, ra, t, fun Z1 d A1 v H1 s1 ra1 rv t1 => ⟨Z1, δ, A1, _, z.trans s1, rs.mono s1, ra1, t1, fun Z2 d2 A2 v2 H2 s2 ra2 rv2 t2 => l Z2 A2 H2 d d2 v v2 Kt Q ra2 (rv.mono s2) rv2 t2 (Kont.mono k (s1.trans s2))⟩⟩
variable {ta tb tc : DE}
theorem qe_op {op : Operator} {rd : DOp} {r : R2} (l : LiftOp X.K rd r) (ho : OpR X (binaryOp op) r) (ha : QE X Z0 a ta) (hb : QE X Z0 b tb) : QE X Z0 (.BinOp a op b pos) (eBin rd ta tb) :=
  PE.imp (pe_op ho ha hb) fun σ H Q h => lift_bin l h
theorem qe_cmp {op : CmpOp} {rd : DOp} {r : R2} (l : LiftOp X.K rd r) (ho : OpR X (compareOp op) r) (ha : QE X Z0 a ta) (hb : QE X Z0 b tb) (hm : behindInMarks op b = false) : QE X Z0 (.Compare a [op] [b] pos) (eBin rd ta tb) :=
  PE.imp (pe_cmpR ho ha hb hm) fun σ H Q h => lift_bin l h
/-- a truth as a test -/
def bE (t : DE) : DT := fun δ A Q => t δ A fun d A1 => match d with
  | .bl b => Q b A1
  | _ => False
theorem bE_of {t : TE} {u : DE} (h : ∀ σ H Q, liftE K Z0 u σ H Q → t σ H Q) : ∀ σ H Q, liftT K Z0 (bE u) σ H Q → tTest t σ H Q := fun σ H Q ⟨Z, δ, A, Kt, z, rs, ra, t, k⟩ => by
  refine h σ H _ ⟨Z, δ, A, _, z, rs, ra, t, fun Z1 d A1 v H1 s1 ra1 rv t1 => ?_⟩
  cases d with
  | bl b => exact ⟨b, rv_bl rv, k Z1 b A1 H1 s1 ra1 t1⟩
  | _ => exact t1.elim
theorem qt_cmp {op : CmpOp} {rd : DOp} {r : R2} (l : LiftOp X.K rd r) (ho : OpR X (compareOp op) r) (ha : QE X Z0 a ta) (hb : QE X Z0 b tb) (hm : behindInMarks op b = false) : QT X Z0 (.Compare a [op] [b] pos) (bE (eBin rd ta tb)) :=
  PT.imp (pt_cmpR ho ha hb hm) (bE_of (t := tOp r (liftE X.K Z0 ta) (liftE X.K Z0 tb)) fun σ H Q h => lift_bin l h)
theorem qt_val {t : DE} (h : QE X Z0 e t) (he : ∀ whole, isTrue e X.env whole = (do let v ← whole; standAt e.pos; holding [v] (truthy v)) := by intro _; rfl) : QT X Z0 e (bE t) :=
  PT.imp (pt_val h he) (bE_of (t := liftE X.K Z0 t) fun σ H Q h => h)
/-- a < b < c -/
def eChain (rd rd' : DOp) (ta tb tc : DE) : DE := fun δ A Q => ta δ A fun x A1 => tb δ A1 fun y A2 => rd x y A2 fun z A3 => match z with
  | .bl k => (k = true → tc δ A3 fun w A4 => rd' y w A4 Q) ∧ (k = false → Q (.bl false) A3)
  | _ => False
theorem lift_chain {rd rd' : DOp} {r r' : R2} (l : LiftOp K rd r) (l' : LiftOp K rd' r') {σ : L2.St} {H : Hp} {Q : VK} (h : liftE K Z0 (eChain rd rd' ta tb tc) σ H Q) : tChain r r' (liftE K Z0 ta) (liftE K Z0 tb) (liftE K Z0 tc) σ H Q := by
  obtain ⟨Z, δ, A, Kt, z, rs, ra, t, k⟩ := h
  refine ⟨Z, δ, A, _, z, rs, ra, t, fun Z1 d A1 v H1 s1 ra1 rv t1 => ⟨Z1, δ, A1, _, z.trans s1, rs.mono s1, ra1, t1, fun Z2 d2 A2 v2 H2 s2 ra2 rv2 t2 => l Z2 A2 H2 d d2 v v2 _ _ ra2 (rv.mono s2) rv2 t2 fun Z3 d3 A3 v3 H3 s3 ra3 rv3 t3 => ?_⟩⟩
  cases d3 with
  | bl c =>
    refine ⟨c, rv_bl rv3, ?_⟩
    cases c with
    | true =>
      exact iteT ⟨Z3, δ, A3, _, ((z.trans s1).trans s2).trans s3, ((rs.mono s1).mono s2).mono s3, ra3, t3.1 rfl, fun Z4 d4 A4 v4 H4 s4 ra4 rv4 t4 => l' Z4 A4 H4 d2 d4 v2 v4 _ _ ra4 ((rv2.mono s3).mono s4) rv4 t4 (Kont.mono k (((s1.trans s2).trans s3).trans s4))⟩
    | false => exact iteF (k Z3 _ A3 _ H3 ((s1.trans s2).trans s3) ra3 mk_bl (t3.2 rfl))
  | _ => exact t3.elim
theorem qe_chain {c : Expr} {op op' : CmpOp} {rd rd' : DOp} {r r' : R2} (l : LiftOp X.K rd r) (l' : LiftOp X.K rd' r') (ho : OpR X (compareOp op) r) (ho' : OpR X (compareOp op') r') (ha : QE X Z0 a ta) (hb : QE X Z0 b tb) (hc : QE X Z0 c tc)
    (hm : lastMarks [op, op'] [b, c] = false := by with_unfolding_all rfl) : QE X Z0 (.Compare a [op, op'] [b, c] pos) (eChain rd rd' ta tb tc) := PE.imp (pe_chain ho ho' ha hb hc hm) fun σ H Q h => lift_chain l l' h
theorem qt_chain {c : Expr} {op op' : CmpOp} {rd rd' : DOp} {r r' : R2} (l : LiftOp X.K rd r) (l' : LiftOp X.K rd' r') (ho : OpR X (compareOp op) r) (ho' : OpR X (compareOp op') r') (ha : QE X Z0 a ta) (hb : QE X Z0 b tb) (hc : QE X Z0 c tc)
    (hm : lastMarks [op, op'] [b, c] = false := by with_unfolding_all rfl) : QT X Z0 (.Compare a [op, op'] [b, c] pos) (bE (eChain rd rd' ta tb tc)) :=
  PT.imp (pt_chain ho ho' ha hb hc hm) (bE_of (t := tChain r r' (liftE X.K Z0 ta) (liftE X.K Z0 tb) (liftE X.K Z0 tc)) fun σ H Q h => lift_chain l l' h)
end
end DL

/-! DL2: operators over data. -/
namespace DL
open PySem PySem.Spec PyProof.Rows L2
variable {K : PySem.W.Frag} {Z Z' Z0 : Hp} {X : Cx}

/-! ### and, or, not -/
section
variable {a b : Expr} {rest : List Expr} {pos : Pos} {t u : DT} {ta tb : DE}
def bAnd (t u : DT) : DT := fun δ A Q => t δ A fun b A1 => (b = true → u δ A1 Q) ∧ (b = false → Q false A1)
def bOr (t u : DT) : DT := fun δ A Q => t δ A fun b A1 => (b = true → Q true A1) ∧ (b = false → u δ A1 Q)
def bNot (t : DT) : DT := fun δ A Q => t δ A fun b A1 => Q (!b) A1
theorem qw_and1 (h : QT X Z0 a t) : QW X Z0 (.BoolOp .And [a] pos) t := pw_and1 h
theorem qw_or1 (h : QT X Z0 a t) : QW X Z0 (.BoolOp .Or [a] pos) t := pw_or1 h
theorem qw_and (ha : QT X Z0 a t) (hb : QW X Z0 (.BoolOp .And (b :: rest) pos) u) : QW X Z0 (.BoolOp .And (a :: b :: rest) pos) (bAnd t u) :=
  PW.imp (pw_and ha hb) fun σ H Q ⟨Z, δ, A, Kt, z, rs, ra, t, k⟩ => ⟨Z, δ, A, _, z, rs, ra, t, fun Z1 c A1 H1 s1 ra1 t1 => by
    cases c with
    | true => exact iteT ⟨Z1, δ, A1, Kt, z.trans s1, rs.mono s1, ra1, t1.1 rfl, fun Z2 b2 A2 H2 s2 => k Z2 b2 A2 H2 (s1.trans s2)⟩
    | false => exact iteF (k Z1 false A1 H1 s1 ra1 (t1.2 rfl))⟩
theorem qw_or (ha : QT X Z0 a t) (hb : QW X Z0 (.BoolOp .Or (b :: rest) pos) u) : QW X Z0 (.BoolOp .Or (a :: b :: rest) pos) (bOr t u) :=
  PW.imp (pw_or ha hb) fun σ H Q ⟨Z, δ, A, Kt, z, rs, ra, t, k⟩ => ⟨Z, δ, A, _, z, rs, ra, t, fun Z1 c A1 H1 s1 ra1 t1 => by
    cases c with
    | false => exact iteF ⟨Z1, δ, A1, Kt, z.trans s1, rs.mono s1, ra1, t1.2 rfl, fun Z2 b2 A2 H2 s2 => k Z2 b2 A2 H2 (s1.trans s2)⟩
    | true => exact iteT (k Z1 true A1 H1 s1 ra1 (t1.1 rfl))⟩
theorem qt_w {e : Expr} (h : QW X Z0 e t) : QT X Z0 e t := h.pt
theorem qt_not (h : QT X Z0 a t) : QT X Z0 (.UnaryOp .Not a pos) (bNot t) :=
  PT.imp (pt_not h) fun σ H Q ⟨Z, δ, A, Kt, z, rs, ra, t, k⟩ => ⟨Z, δ, A, _, z, rs, ra, t, fun Z1 c A1 H1 s1 ra1 t1 => k Z1 (!c) A1 H1 s1 ra1 t1⟩
def eAnd (ta tb : DE) : DE := fun δ A Q => ta δ A fun d A1 => match d with
  | .bl c => (c = true → tb δ A1 Q) ∧ (c = false → Q (.bl false) A1)
  | _ => False
def eOr (ta tb : DE) : DE := fun δ A Q => ta δ A fun d A1 => match d with
  | .bl c => (c = true → Q (.bl true) A1) ∧ (c = false → tb δ A1 Q)
  | _ => False
def eNot (ta : DE) : DE := fun δ A Q => ta δ A fun d A1 => match d with
  | .bl c => Q (.bl (!c)) A1
  | _ => False
theorem qe_one {op} (h : QE X Z0 a ta) : QE X Z0 (.BoolOp op [a] pos) ta := pe_one h
theorem qe_and (ha : QE X Z0 a ta) (hb : QE X Z0 (.BoolOp .And (b :: rest) pos) tb) : QE X Z0 (.BoolOp .And (a :: b :: rest) pos) (eAnd ta tb) :=
  PE.imp (pe_and ha hb) fun σ H Q ⟨Z, δ, A, Kt, z, rs, ra, t, k⟩ => ⟨Z, δ, A, _, z, rs, ra, t, fun Z1 d A1 v H1 s1 ra1 rv t1 => by
    cases d with
    | bl c =>
      refine ⟨c, rv_bl rv, ?_⟩
      cases c with
      | true => exact iteT ⟨Z1, δ, A1, Kt, z.trans s1, rs.mono s1, ra1, t1.1 rfl, Kont.mono k s1⟩
      | false => exact iteF (k Z1 _ A1 _ H1 s1 ra1 mk_bl (t1.2 rfl))
    | _ => exact t1.elim⟩
theorem qe_or (ha : QE X Z0 a ta) (hb : QE X Z0 (.BoolOp .Or (b :: rest) pos) tb) : QE X Z0 (.BoolOp .Or (a :: b :: rest) pos) (eOr ta tb) :=
  PE.imp (pe_or ha hb) fun σ H Q ⟨Z, δ, A, Kt, z, rs, ra, t, k⟩ => ⟨Z, δ, A, _, z, rs, ra, t, fun Z1 d A1 v H1 s1 ra1 rv t1 => by
    cases d with
    | bl c =>
      refine ⟨c, rv_bl rv, ?_⟩
      cases c with
      | false => exact iteF ⟨Z1, δ, A1, Kt, z.trans s1, rs.mono s1, ra1, t1.2 rfl, Kont.mono k s1⟩
      | true => exact iteT (k Z1 _ A1 _ H1 s1 ra1 mk_bl (t1.1 rfl))
    | _ => exact t1.elim⟩
theorem qe_not (ha : QE X Z0 a ta) : QE X Z0 (.UnaryOp .Not a pos) (eNot ta) :=
  PE.imp (pe_not ha) fun σ H Q ⟨Z, δ, A, Kt, z, rs, ra, t, k⟩ => ⟨Z, δ, A, _, z, rs, ra, t, fun Z1 d A1 v H1 s1 ra1 rv t1 => by
    cases d with
    | bl c => exact ⟨c, rv_bl rv, k Z1 _ A1 _ H1 s1 ra1 mk_bl t1⟩
    | _ => exact t1.elim⟩
end

/-! ### arithmetic -/
def opAdd (mk : Mk) : DOp := fun x y A Q => match x, y with
  | .int i, .int j => Q (.int (i + j)) A
  | .str s, .str t => Few (s.length + t.length) ∧ Q (.str (s ++ t)) A
  | .tup l, .tup m => Few (l.length + m.length) ∧ Q (.tup (l ++ m)) A
  | x, y => match asL A x, asL A y with
    | some l, some m => Few (l.length + m.length) ∧ mk (l ++ m) A Q
    | _, _ => False
/-- of two lists that are read in any way -/
def rCatL (K : PySem.W.Frag) : R2 := fun x y H Q => ∃ l b xs zs, x = .ref l ∧ y = .ref b ∧ SqL K H l xs ∧ SqL K H b zs ∧ xs.length + zs.length ≤ sizeLine ∧ ∀ p, H p = none → Q (.ref p) (upd H p (.lst (xs ++ zs)))
theorem op_catL : OpR X (binaryOp .Add) (rCatL X.K) := by
  intro pins s σ H x y v u Q I rx ry h
  obtain ⟨l, b, xs, zs, rfl, rfl, hH, hB, hz, q⟩ := h
  cases rx
  cases ry
  obtain ⟨its, r, pl, z⟩ := I.list hH
  obtain ⟨its2, r2, pl2, z2⟩ := I.list hB
  obtain ⟨⟨cls, dd, data, sl⟩, n, ho, hc, hd, hdt⟩ := pl
  obtain ⟨⟨cls2, dd2, data2, sl2⟩, n2, ho2, hc2, hd2, hdt2⟩ := pl2
  simp only at hc hd hdt hc2 hd2 hdt2
  subst hc hd hdt hc2 hd2 hdt2
  have hl := r.length
  have hl2 := r2.length
  have e : its.toArray ++ its2.toArray = (its ++ its2).toArray := by simp
  refine concat_meets ⟨_, ho, rfl⟩ ⟨_, ho2, rfl⟩ noFill_list_add seq_list_add PySem.F.slot_list_add PySem.F.entry_list_add (PySem.F.args_list_add_2 _ _) (list_addW l b its.toArray its2.toArray n n2 none none sl sl2 (by simp only [List.size_toArray]; omega)) ⟨ho, ho2, ?_⟩
  rw [e]
  refine ⟨.ref s.heap.objs.size, _, I.laid (t' := s.toks) (o := .lst (xs ++ zs)) (fun b ob q => Heap.get?_push_of_some _ q) (Nat.le_refl _) ?_, rfl, q _ (I.hok.fresh (Nat.le_refl _))⟩
  exact ⟨by rw [List.length_append]; exact hz, _, 0, r.append r2, Heap.get?_push_size _ rfl⟩
def rAddAll (K : PySem.W.Frag) : R2 := fun x y H Q => (rI0 (fun i j => .int (i + j)) x y H Q) ∨ (∃ i j, x = .str i ∧ y = .str j ∧ i.length + j.length ≤ sizeLine ∧ Q (.str (i ++ j)) H) ∨ rCatA K x y H Q ∨ rCatL K x y H Q
theorem op_addAll : OpR X (binaryOp .Add) (rAddAll X.K) := op_add.or (op_add_str.or (op_catA.or op_catL))
theorem opAdd_lst {mk : Mk} {x y : D} {A : AH} {Q : DK} (h : opAdd mk x y A Q) :
    (∃ i j, x = .int i ∧ y = .int j ∧ Q (.int (i + j)) A) ∨ (∃ s t, x = .str s ∧ y = .str t ∧ Few (s.length + t.length) ∧ Q (.str (s ++ t)) A) ∨ (∃ l m, x = .tup l ∧ y = .tup m ∧ Few (l.length + m.length) ∧ Q (.tup (l ++ m)) A) ∨
      (∃ l m, asL A x = some l ∧ asL A y = some m ∧ Few (l.length + m.length) ∧ mk (l ++ m) A Q) := by
  unfold opAdd at h
  split at h
  · exact .inl ⟨_, _, rfl, rfl, h⟩
  · exact .inr (.inl ⟨_, _, rfl, rfl, h.1, h.2⟩)
  · exact .inr (.inr (.inl ⟨_, _, rfl, rfl, h.1, h.2⟩))
  · split at h
    · rename_i q1 q2
      exact .inr (.inr (.inr ⟨_, _, q1, q2, h.1, h.2⟩))
    · exact h.elim
theorem lift_add {mk : Mk} (m : MkOk K mk) : LiftOp K (opAdd mk) (rAddAll K) := fun Z A H x y vx vy Kt Q R rx ry h k => by
  rcases opAdd_lst h with ⟨i, j, rfl, rfl, h⟩ | ⟨s, t, rfl, rfl, hf, h⟩ | ⟨l, mm, rfl, rfl, hf, h⟩ | ⟨l, mm, hx, hy, hf, h⟩
  · exact .inl ⟨i, j, rv_int rx, rv_int ry, k Z _ A _ H (Same.refl Z) R mk_int h⟩
  · exact .inr (.inl ⟨s, t, rv_str rx, rv_str ry, few_line hf, k Z _ A _ H (Same.refl Z) R mk_str h⟩)
  · obtain ⟨p, vs, e1, e2, e3⟩ := rv_tup rx
    obtain ⟨p2, us, f1, f2, f3⟩ := rv_tup ry
    refine .inr (.inr (.inl ⟨p, p2, vs, us, e1, f1, sqT_mono R.sub e2, sqT_mono R.sub f2, by rw [e3.len, f3.len]; exact few_line hf, fun z => ?_, fun _ z => ?_, fun _ _ q hq => ?_⟩))
    · subst z
      refine k Z _ A _ H (Same.refl Z) R (mk_tup f2 ?_) h
      have : l = [] := List.eq_nil_of_length_eq_zero (by have := e3.len; simpa using this.symm)
      subst this; exact f3
    · subst z
      refine k Z _ A _ H (Same.refl Z) R (mk_tup e2 ?_) h
      have : mm = [] := List.eq_nil_of_length_eq_zero (by have := f3.len; simpa using this.symm)
      subst this; rw [List.append_nil]; exact e3
    · obtain ⟨s, R'⟩ := R.newF hq (.tup (vs ++ us))
      exact k _ _ A _ _ s R' (mk_tup (SqT.of upd_same) ((e3.append f3).mono s)) h
  · obtain ⟨p, vs, e1, e2, e3⟩ := asL_ok R rx hx
    obtain ⟨p2, us, f1, f2, f3⟩ := asL_ok R ry hy
    exact .inr (.inr (.inr ⟨p, p2, vs, us, e1, f1, e2, f2, by rw [e3.len, f3.len]; exact few_line hf, m.ok R (e3.append f3) h k⟩))

def opSub : DOp := fun x y A Q => match x, y with
  | .int i, .int j => Q (.int (i - j)) A
  | _, _ => False
theorem lift_sub : LiftOp K opSub (rI0 fun i j => .int (i - j)) := fun Z A H x y vx vy Kt Q R rx ry h k => by
  unfold opSub at h
  split at h
  · exact ⟨_, _, rv_int rx, rv_int ry, k Z _ A _ H (Same.refl Z) R mk_int h⟩
  · exact h.elim
/-- a product that the machine lets be -/
def MulOk (i j : Int) : Prop := i.natAbs < 2 ^ 64 ∨ j.natAbs < 2 ^ 64 ∨ ∃ a b : Nat, i.natAbs < 2 ^ a ∧ j.natAbs < 2 ^ b ∧ a + b ≤ 134217728
theorem MulOk.ok {i j : Int} (h : MulOk i j) : IntMulOk i j := by
  rcases h with h | h | ⟨a, b, h1, h2, h3⟩
  · exact CMul.ok (.inl ⟨by omega, by omega⟩)
  · exact CMul.ok (.inr ⟨by omega, by omega⟩)
  · exact (mulx_ok h1 h2 h3).ok
/-- s * n -/
def strRep (x : Str) (n : Nat) : Str := ⟨(List.replicate n x.cps.toList).flatten.toArray⟩
theorem foldl_rep (c : Array Nat) : ∀ (n : Nat) (a : Array Nat), ((List.replicate n c).foldl (· ++ ·) a).toList = a.toList ++ (List.replicate n c.toList).flatten
  | 0, a => by simp
  | n + 1, a => by
    rw [List.replicate_succ, List.foldl_cons, foldl_rep c n (a ++ c), List.replicate_succ, List.flatten_cons, Array.toList_append, List.append_assoc]
theorem strRep_eq (x : Str) (n : Nat) : (⟨(List.replicate n x.cps).foldl (· ++ ·) #[]⟩ : Str) = strRep x n := by
  unfold strRep
  congr 1
  apply Array.toList_inj.mp
  rw [foldl_rep]
  simp
def opMul : DOp := fun x y A Q => match x, y with
  | .int i, .int j => MulOk i j ∧ Q (.int (i * j)) A
  | .str s, .int n => (s.length ≤ 1000 ∧ n.natAbs ≤ 1000) ∧ Q (.str (strRep s n.toNat)) A
  | _, _ => False
def rMulStr : R2 := fun x y H Q => ∃ s n, x = .str s ∧ y = .int n ∧ (s.length ≤ 1000 ∧ n.natAbs ≤ 1000) ∧ Q (.str (strRep s n.toNat)) H
theorem op_mulStr : OpR X (binaryOp .Mult) rMulStr := by
  intro pins s σ H x y v u Q I rx ry h
  obtain ⟨z, n, rfl, rfl, ⟨h1, h2⟩, q⟩ := h
  obtain ⟨t, rfl⟩ := rx
  obtain ⟨t', rfl⟩ := ry
  have e1 : decide (n < -(2 ^ 63 : Int)) = false := decide_eq_false (by omega)
  have e2 : decide (n ≥ 2 ^ 63) = false := decide_eq_false (by omega)
  have hm : z.length * n.toNat ≤ 1000 * 1000 := Nat.mul_le_mul h1 (by omega)
  refine PySem.P.mul_str (by rw [e1, e2]; rfl) (fun hn _ => ?_) (fun hn _ => ?_) ?_
  · intro hc
    have h3 : (1000 : Int) ≤ (2 ^ 63 - 1) / n := by
      have hn1 : 1 ≤ n := by omega
      have hn2 : n ≤ 1000 := by omega
      refine (Int.le_ediv_iff_mul_le (by omega)).mpr ?_
      have : 1000 * n ≤ 1000 * 1000 := Int.mul_le_mul_of_nonneg_left hn2 (by decide)
      omega
    omega
  · have h9 : sizeLine = 16777216 := sizeLine_eq
    exact (decide_eq_false (by omega) : decide (z.length * n.toNat > sizeLine) = false)
  · by_cases hn : n < 1
    · rw [if_pos hn]
      refine ⟨by decide, ?_⟩
      refine ⟨.str _, H, I.tok _, ⟨_, rfl⟩, ?_⟩
      have e : strRep z n.toNat = Str.empty := by
        have : n.toNat = 0 := by omega
        rw [this]; rfl
      rw [← e]; exact q
    · rw [if_neg hn]
      by_cases h0 : (n == 1 || z.length == 0) = true
      · rw [if_pos h0]
        have e : strRep z n.toNat = z := by
          apply PyProof.Rows.ext_toList
          unfold strRep
          rw [Bool.or_eq_true] at h0
          rcases h0 with h0 | h0
          · have : n = 1 := by simpa using h0
            subst this; simp
          · have : z.cps.size = 0 := by simpa [Str.length] using h0
            have e0 : z.cps = #[] := Array.eq_empty_of_size_eq_zero this
            rw [e0]; simp
        refine ⟨.str z, H, I, ⟨_, rfl⟩, ?_⟩
        rw [← e]; exact q
      · rw [if_neg h0, strRep_eq]
        refine ⟨?_, ?_⟩
        · unfold strRep
          have : sizeLine = 16777216 := sizeLine_eq
          unfold Str.length at hm ⊢
          have e3 : (List.replicate n.toNat z.cps.toList).flatten.length = n.toNat * z.cps.size := by simp [List.length_flatten]
          show (List.replicate n.toNat z.cps.toList).flatten.toArray.size ≤ sizeLine
          rw [List.size_toArray, e3, Nat.mul_comm]
          omega
        · exact ⟨.str _, H, I.tok _, ⟨_, rfl⟩, q⟩

theorem lift_mul : LiftOp K opMul (fun x y H Q => rI (fun i j => IntMulOk i j) (fun i j => .int (i * j)) x y H Q ∨ rMulStr x y H Q) := fun Z A H x y vx vy Kt Q R rx ry h k => by
  unfold opMul at h
  split at h
  · exact .inl ⟨_, _, rv_int rx, rv_int ry, h.1.ok, k Z _ A _ H (Same.refl Z) R mk_int h.2⟩
  · exact .inr ⟨_, _, rv_str rx, rv_int ry, h.1, k Z _ A _ H (Same.refl Z) R mk_str h.2⟩
  · exact h.elim
theorem op_mulAll : OpR X (binaryOp .Mult) (fun x y H Q => rI (fun i j => IntMulOk i j) (fun i j => .int (i * j)) x y H Q ∨ rMulStr x y H Q) := (opI fun _ _ _ _ _ _ _ hc q => mul_int q hc).or op_mulStr
/-- a divisor that the machine takes -/
def DivOk (j : Int) : Prop := j ≠ 0 ∧ j.natAbs < 2 ^ 9000
def opDiv : DOp := fun x y A Q => match x, y with
  | .int i, .int j => DivOk j ∧ Q (.int (i.fdiv j)) A
  | _, _ => False
theorem op_fdivD : OpR X (binaryOp .FloorDiv) (rI (fun _ j => DivOk j) fun i j => .int (i.fdiv j)) := opI fun i j _ _ _ _ _ hc q =>
  floordiv_int hc.1 q (.inl (PyProof.noPylong_of_log2 (PySem.Flt.log2_lt_of (by decide) hc.2)))
theorem lift_div : LiftOp K opDiv (rI (fun _ j => DivOk j) fun i j => .int (i.fdiv j)) := fun Z A H x y vx vy Kt Q R rx ry h k => by
  unfold opDiv at h
  split at h
  · exact ⟨_, _, rv_int rx, rv_int ry, h.1, k Z _ A _ H (Same.refl Z) R mk_int h.2⟩
  · exact h.elim
def opMod : DOp := fun x y A Q => match x, y with
  | .int i, .int j => j ≠ 0 ∧ Q (.int (i.fmod j)) A
  | _, _ => False
theorem lift_mod : LiftOp K opMod (rI (fun _ j => j ≠ 0) fun i j => .int (i.fmod j)) := fun Z A H x y vx vy Kt Q R rx ry h k => by
  unfold opMod at h
  split at h
  · exact ⟨_, _, rv_int rx, rv_int ry, h.1, k Z _ A _ H (Same.refl Z) R mk_int h.2⟩
  · exact h.elim
def opPow : DOp := fun x y A Q => match x, y with
  | .int i, .int j => (0 ≤ j ∧ j ≤ 1000000 ∧ i.natAbs < 2 ^ 64) ∧ Q (.int (i ^ j.toNat)) A
  | _, _ => False
theorem lift_pow : LiftOp K opPow (rI CPow fun i j => .int (i ^ j.toNat)) := fun Z A H x y vx vy Kt Q R rx ry h k => by
  unfold opPow at h
  split at h
  · exact ⟨_, _, rv_int rx, rv_int ry, h.1, k Z _ A _ H (Same.refl Z) R mk_int h.2⟩
  · exact h.elim
def eNeg (t : DE) : DE := fun δ A Q => t δ A fun d A1 => match d with
  | .int i => Q (.int (-i)) A1
  | _ => False
section
variable {a b : Expr} {pos : Pos} {ta tb : DE}
theorem qe_neg (h : QE X Z0 a ta) : QE X Z0 (.UnaryOp .USub a pos) (eNeg ta) := PE.imp (pe_un un_neg h) fun σ H Q ⟨Z, δ, A, Kt, z, rs, ra, t, k⟩ =>
  ⟨Z, δ, A, _, z, rs, ra, t, fun Z1 d A1 v H1 s1 ra1 rv t1 => by
    cases d with
    | int i => exact ⟨i, rv_int rv, k Z1 _ A1 _ H1 s1 ra1 mk_int t1⟩
    | _ => exact t1.elim⟩
theorem qe_add {mk : Mk} (m : MkOk X.K mk) (ha : QE X Z0 a ta) (hb : QE X Z0 b tb) : QE X Z0 (.BinOp a .Add b pos) (eBin (opAdd mk) ta tb) := qe_op (lift_add m) op_addAll ha hb
theorem qe_sub (ha : QE X Z0 a ta) (hb : QE X Z0 b tb) : QE X Z0 (.BinOp a .Sub b pos) (eBin opSub ta tb) := qe_op lift_sub op_sub ha hb
theorem qe_mul (ha : QE X Z0 a ta) (hb : QE X Z0 b tb) : QE X Z0 (.BinOp a .Mult b pos) (eBin opMul ta tb) := qe_op lift_mul op_mulAll ha hb
theorem qe_div (ha : QE X Z0 a ta) (hb : QE X Z0 b tb) : QE X Z0 (.BinOp a .FloorDiv b pos) (eBin opDiv ta tb) := qe_op lift_div op_fdivD ha hb
theorem qe_mod (ha : QE X Z0 a ta) (hb : QE X Z0 b tb) : QE X Z0 (.BinOp a .Mod b pos) (eBin opMod ta tb) := qe_op lift_mod op_modN ha hb
theorem qe_pow (ha : QE X Z0 a ta) (hb : QE X Z0 b tb) : QE X Z0 (.BinOp a .Pow b pos) (eBin opPow ta tb) := qe_op lift_pow op_pow ha hb
end

/-! ### order of ints, is None, is True -/
def opCmp (p : Int → Int → Bool) : DOp := fun x y A Q => match x, y with
  | .int i, .int j => Q (.bl (p i j)) A
  | _, _ => False
theorem lift_cmp {p : Int → Int → Bool} : LiftOp K (opCmp p) (rI0 fun i j => .bl (p i j)) := fun Z A H x y vx vy Kt Q R rx ry h k => by
  unfold opCmp at h
  split at h
  · exact ⟨_, _, rv_int rx, rv_int ry, k Z _ A _ H (Same.refl Z) R mk_bl h⟩
  · exact h.elim
def D.isNon : D → Bool
  | .non => true
  | _ => false
theorem rv_isNon {d : D} {v : V} (r : RV K Z d v) : decide (v = .non) = d.isNon := by
  cases d with
  | non => rw [rv_non r]; rfl
  | bl b => rw [rv_bl r]; rfl
  | int b => rw [rv_int r]; rfl
  | str b => rw [rv_str r]; rfl
  | tup l => obtain ⟨p, _, e, _⟩ := rv_tup r; rw [e]; rfl
  | lst l => obtain ⟨p, _, e, _⟩ := rv_lst r; rw [e]; rfl
  | rol l => obtain ⟨p, _, e, _⟩ := rv_rol r; rw [e]; rfl
  | dic ks l => obtain ⟨p, _, e, _⟩ := rv_dic r; rw [e]; rfl
  | obj c ns l => obtain ⟨p, _, _, e, _⟩ := rv_obj r; rw [e]; rfl
  | ref a => rw [rv_ref r]; rfl
def opIs (neg : Bool) : DOp := fun x y A Q => match y with
  | .non => Q (.bl (xor neg x.isNon)) A
  | .bl b => match x with
    | .bl a => Q (.bl (xor neg (a == b))) A
    | _ => False
  | _ => False
theorem lift_is : LiftOp K (opIs false) (fun x y H Q => (y = .non ∧ Q (.bl (decide (x = .non))) H) ∨ ∃ a b, x = .bl a ∧ y = .bl b ∧ Q (.bl (decide (a = b))) H) := fun Z A H x y vx vy Kt Q R rx ry h k => by
  unfold opIs at h
  split at h
  · refine .inl ⟨rv_non ry, ?_⟩
    rw [rv_isNon rx]
    refine k Z _ A _ H (Same.refl Z) R mk_bl ?_
    simpa using h
  · split at h
    · rename_i b _ a
      refine .inr ⟨a, b, rv_bl rx, rv_bl ry, k Z _ A _ H (Same.refl Z) R mk_bl ?_⟩
      simpa [Bool.beq_eq_decide_eq] using h
    · exact h.elim
  · exact h.elim
theorem lift_isnot : LiftOp K (opIs true) (fun x y H Q => (y = .non ∧ Q (.bl (!decide (x = .non))) H) ∨ ∃ a b, x = .bl a ∧ y = .bl b ∧ Q (.bl (!decide (a = b))) H) := fun Z A H x y vx vy Kt Q R rx ry h k => by
  unfold opIs at h
  split at h
  · refine .inl ⟨rv_non ry, ?_⟩
    rw [rv_isNon rx]
    refine k Z _ A _ H (Same.refl Z) R mk_bl ?_
    simpa using h
  · split at h
    · rename_i b _ a
      refine .inr ⟨a, b, rv_bl rx, rv_bl ry, k Z _ A _ H (Same.refl Z) R mk_bl ?_⟩
      simpa [Bool.beq_eq_decide_eq] using h
    · exact h.elim
  · exact h.elim
theorem op_isAll : OpR X (compareOp .Is) (fun x y H Q => (y = .non ∧ Q (.bl (decide (x = .non))) H) ∨ ∃ a b, x = .bl a ∧ y = .bl b ∧ Q (.bl (decide (a = b))) H) := op_isN.or op_is_bl
theorem op_isnotAll : OpR X (compareOp .IsNot) (fun x y H Q => (y = .non ∧ Q (.bl (!decide (x = .non))) H) ∨ ∃ a b, x = .bl a ∧ y = .bl b ∧ Q (.bl (!decide (a = b))) H) := op_notN.or op_isnot_bl

/-! ### == of data -/
mutual
/-- data, of depth n at most -/
def dt : Nat → D → Bool
  | _, .non => true
  | _, .bl _ => true
  | _, .int _ => true
  | _, .str x => PyData.strOk x
  | n + 1, .tup l => dts n l
  | n + 1, .lst l => dts n l
  | n + 1, .rol l => dts n l
  | _, _ => false
def dts : Nat → List D → Bool
  | _, [] => true
  | n, d :: l => dt n d && dts n l
end
mutual
def py : D → PyData
  | .non => .none
  | .bl b => .bool b
  | .int i => .int i
  | .str x => .str x
  | .tup l => .tuple (pys l)
  | .lst l => .list (pys l)
  | .rol l => .list (pys l)
  | .dic _ _ => .none
  | .obj _ _ _ => .none
  | .ref _ => .none
def pys : List D → List PyData
  | [] => []
  | d :: l => py d :: pys l
end
mutual
/-- == -/
def deq : D → D → Bool
  | .non, .non => true
  | .bl a, .bl b => a == b
  | .bl a, .int j => (if a then 1 else 0) == j
  | .int i, .bl b => i == (if b then 1 else 0)
  | .int i, .int j => i == j
  | .str x, .str y => x == y
  | .tup l, .tup m => deqs l m
  | .lst l, .lst m => deqs l m
  | .lst l, .rol m => deqs l m
  | .rol l, .lst m => deqs l m
  | .rol l, .rol m => deqs l m
  | _, _ => false
def deqs : List D → List D → Bool
  | [], [] => true
  | d :: l, e :: m => deq d e && deqs l m
  | _, _ => false
end
mutual
theorem dt_canLay : ∀ (n : Nat) (d : D), dt n d = true → (py d).canLay0 = true ∧ (py d).depth ≤ n
  | _, .non, _ => by simp [py, PyData.canLay0, PyData.depth]
  | _, .bl _, _ => by simp [py, PyData.canLay0, PyData.depth]
  | _, .int _, _ => by simp [py, PyData.canLay0, PyData.depth]
  | _, .str x, h => by simp only [dt] at h; simp [py, PyData.canLay0, PyData.depth, h]
  | n + 1, .tup l, h => by
    simp only [dt] at h
    have := dts_canLay n l h
    simp [py, PyData.canLay0, PyData.depth, this.1, this.2]
  | n + 1, .lst l, h => by
    simp only [dt] at h
    have := dts_canLay n l h
    simp [py, PyData.canLay0, PyData.depth, this.1, this.2]
  | n + 1, .rol l, h => by
    simp only [dt] at h
    have := dts_canLay n l h
    simp [py, PyData.canLay0, PyData.depth, this.1, this.2]
  | 0, .tup l, h => by simp [dt] at h
  | 0, .lst l, h => by simp [dt] at h
  | 0, .rol l, h => by simp [dt] at h
  | _, .dic _ _, h => by simp [dt] at h
  | _, .obj _ _ _, h => by simp [dt] at h
  | _, .ref _, h => by simp [dt] at h
theorem dts_canLay : ∀ (n : Nat) (l : List D), dts n l = true → PyData.canLayAll0 (pys l) = true ∧ PyData.depthAll (pys l) ≤ n
  | _, [], _ => by simp [pys, PyData.canLayAll0, PyData.depthAll]
  | n, d :: l, h => by
    simp only [dts, Bool.and_eq_true] at h
    have h1 := dt_canLay n d h.1
    have h2 := dts_canLay n l h.2
    simp [pys, PyData.canLayAll0, PyData.depthAll, h1.1, h2.1, Nat.max_le, h1.2, h2.2]
end

mutual
theorem deq_eqv : ∀ (d e : D) (n m : Nat), dt n d = true → dt m e = true → PyData.eqv (py d) (py e) = deq d e
  | .non, e, _, _, _, h => by cases e <;> first | rfl | simp [dt] at h | simp [py, PyData.eqv, deq]
  | .bl _, e, _, _, _, h => by cases e <;> first | rfl | simp [dt] at h | simp [py, PyData.eqv, deq]
  | .int _, e, _, _, _, h => by cases e <;> first | rfl | simp [dt] at h | simp [py, PyData.eqv, deq]
  | .str _, e, _, _, _, h => by cases e <;> first | rfl | simp [dt] at h | simp [py, PyData.eqv, deq]
  | .tup l, e, 0, _, h0, h => by simp [dt] at h0
  | .lst l, e, 0, _, h0, h => by simp [dt] at h0
  | .rol l, e, 0, _, h0, h => by simp [dt] at h0
  | .tup l, e, n + 1, m, h0, h => by
    simp only [dt] at h0
    cases e with
    | tup k => cases m with
      | zero => simp [dt] at h
      | succ m => simp only [dt] at h; simp only [py, PyData.eqv, deq]; exact deqs_eqv l k n m h0 h
    | dic _ _ => simp [dt] at h
    | obj _ _ _ => simp [dt] at h
    | ref _ => simp [dt] at h
    | _ => simp [py, PyData.eqv, deq]
  | .lst l, e, n + 1, m, h0, h => by
    simp only [dt] at h0
    cases e with
    | lst k => cases m with
      | zero => simp [dt] at h
      | succ m => simp only [dt] at h; simp only [py, PyData.eqv, deq]; exact deqs_eqv l k n m h0 h
    | rol k => cases m with
      | zero => simp [dt] at h
      | succ m => simp only [dt] at h; simp only [py, PyData.eqv, deq]; exact deqs_eqv l k n m h0 h
    | dic _ _ => simp [dt] at h
    | obj _ _ _ => simp [dt] at h
    | ref _ => simp [dt] at h
    | _ => simp [py, PyData.eqv, deq]
  | .rol l, e, n + 1, m, h0, h => by
    simp only [dt] at h0
    cases e with
    | lst k => cases m with
      | zero => simp [dt] at h
      | succ m => simp only [dt] at h; simp only [py, PyData.eqv, deq]; exact deqs_eqv l k n m h0 h
    | rol k => cases m with
      | zero => simp [dt] at h
      | succ m => simp only [dt] at h; simp only [py, PyData.eqv, deq]; exact deqs_eqv l k n m h0 h
    | dic _ _ => simp [dt] at h
    | obj _ _ _ => simp [dt] at h
    | ref _ => simp [dt] at h
    | _ => simp [py, PyData.eqv, deq]
  | .dic _ _, _, _, _, h0, _ => by simp [dt] at h0
  | .obj _ _ _, _, _, _, h0, _ => by simp [dt] at h0
  | .ref _, _, _, _, h0, _ => by simp [dt] at h0
theorem deqs_eqv : ∀ (l k : List D) (n m : Nat), dts n l = true → dts m k = true → PyData.eqvAll (pys l) (pys k) = deqs l k
  | [], [], _, _, _, _ => by simp [pys, PyData.eqvAll, deqs]
  | [], _ :: _, _, _, _, _ => by simp [pys, PyData.eqvAll, deqs]
  | _ :: _, [], _, _, _, _ => by simp [pys, PyData.eqvAll, deqs]
  | d :: l, e :: k, n, m, h1, h2 => by
    simp only [dts, Bool.and_eq_true] at h1 h2
    simp only [pys, PyData.eqvAll, deqs]
    rw [deq_eqv d e n m h1.1 h2.1, deqs_eqv l k n m h1.2 h2.2]
end
mutual
theorem dp_of {A : AH} {H : Hp} (R : RA K Z A H) : ∀ (d : D) (v : V) (n : Nat), dt n d = true → RV K Z d v → Dp K H v (py d)
  | .non, v, _, _, r => by rw [rv_non r]; simp only [py]; exact .non
  | .bl _, v, _, _, r => by rw [rv_bl r]; simp only [py]; exact .bl _
  | .int _, v, _, _, r => by rw [rv_int r]; simp only [py]; exact .int _
  | .str _, v, _, _, r => by rw [rv_str r]; simp only [py]; exact .str _
  | .tup l, v, 0, h, r => by simp [dt] at h
  | .lst l, v, 0, h, r => by simp [dt] at h
  | .rol l, v, 0, h, r => by simp [dt] at h
  | .tup l, v, n + 1, h, r => by
    simp only [dt] at h
    obtain ⟨p, vs, rfl, e2, e3⟩ := rv_tup r
    simp only [py]
    exact .tup (sqT_mono R.sub e2) (dps_of R l vs n h e3)
  | .lst l, v, n + 1, h, r => by
    simp only [dt] at h
    obtain ⟨p, vs, rfl, e2, e3⟩ := rv_lst r
    simp only [py]
    exact .lst (SqL.of (R.sub _ _ e2)) (dps_of R l vs n h e3)
  | .rol l, v, n + 1, h, r => by
    simp only [dt] at h
    obtain ⟨p, vs, rfl, e2, e3⟩ := rv_rol r
    simp only [py]
    exact .lst (sqL_mono R.sub e2) (dps_of R l vs n h e3)
  | .dic _ _, _, _, h0, _ => by simp [dt] at h0
  | .obj _ _ _, _, _, h0, _ => by simp [dt] at h0
  | .ref _, _, _, h0, _ => by simp [dt] at h0
theorem dps_of {A : AH} {H : Hp} (R : RA K Z A H) : ∀ (l : List D) (vs : List V) (n : Nat), dts n l = true → RVs K Z l vs → DpAll K H vs (pys l)
  | [], vs, _, _, r => by rw [r.inv0]; simp only [pys]; exact .nil
  | d :: l, vs, n, h, r => by
    simp only [dts, Bool.and_eq_true] at h
    obtain ⟨v, u, rfl, r1, r2⟩ := r.inv
    simp only [pys]
    exact .cons (dp_of R d v n h.1 r1) (dps_of R l u n h.2 r2)
end
/-- a list that may change, as it stands -/
def drf (A : AH) : D → D
  | .ref a => match A a with
    | some (.lst l) => .lst l
    | _ => .ref a
  | d => d
theorem dp_drf {A : AH} {H : Hp} (R : RA K Z A H) {d : D} {v : V} {n : Nat} (h : dt n (drf A d) = true) (r : RV K Z d v) : Dp K H v (py (drf A d)) := by
  cases d with
  | ref a =>
    have e : drf A (.ref a) = (match A a with | some (.lst l) => .lst l | _ => .ref a) := rfl
    rw [e] at h ⊢
    split at h
    · rename_i l q
      obtain ⟨vs, e2, e3⟩ := (R.at_ a _ q).2
      rw [rv_ref r]
      cases n with
      | zero => simp [dt] at h
      | succ n =>
        simp only [dt] at h
        simp only [py]
        exact .lst (SqL.of e2) (dps_of R l vs n h e3)
    · simp [dt] at h
  | _ => exact dp_of R _ _ n h r
def opEq (neg : Bool) : DOp := fun x y A Q => dt 60 (drf A x) = true ∧ dt 60 (drf A y) = true ∧ Q (.bl (xor neg (deq (drf A x) (drf A y)))) A
theorem lift_eq : LiftOp K (opEq false) (rEqD K) := fun Z A H x y vx vy Kt Q R rx ry ⟨h1, h2, h⟩ k => by
  obtain ⟨c1, c2⟩ := dt_canLay _ _ h1
  obtain ⟨c3, c4⟩ := dt_canLay _ _ h2
  refine ⟨_, _, dp_drf R h1 rx, dp_drf R h2 ry, ?_, ?_, ?_⟩
  · unfold SeqAt.shaped; rw [c1, Bool.true_and]; exact decide_eq_true (by omega)
  · unfold SeqAt.shaped; rw [c3, Bool.true_and]; exact decide_eq_true (by omega)
  · rw [deq_eqv _ _ _ _ h1 h2]
    exact k Z _ A _ H (Same.refl Z) R mk_bl (by simpa using h)
theorem lift_ne : LiftOp K (opEq true) (rNeD K) := fun Z A H x y vx vy Kt Q R rx ry ⟨h1, h2, h⟩ k => by
  obtain ⟨c1, c2⟩ := dt_canLay _ _ h1
  obtain ⟨c3, c4⟩ := dt_canLay _ _ h2
  refine ⟨_, _, dp_drf R h1 rx, dp_drf R h2 ry, ?_, ?_, ?_⟩
  · unfold SeqAt.shaped; rw [c1, Bool.true_and]; exact decide_eq_true (by omega)
  · unfold SeqAt.shaped; rw [c3, Bool.true_and]; exact decide_eq_true (by omega)
  · rw [deq_eqv _ _ _ _ h1 h2]
    exact k Z _ A _ H (Same.refl Z) R mk_bl (by simpa using h)

/-! ### in -/
theorem dts_any (y : D) (n : Nat) (hy : dt n y = true) : ∀ (l : List D) (m : Nat), dts m l = true → (pys l).any (fun z => PyData.eqv z (py y)) = l.any (fun z => deq z y)
  | [], _, _ => by simp [pys]
  | d :: l, m, h => by
    simp only [dts, Bool.and_eq_true] at h
    simp only [pys, List.any_cons]
    rw [deq_eqv d y m n h.1 hy, dts_any y n hy l m h.2]
/-- a dict's key -/
def asKey : D → Option Key
  | .int i => some (.inl i)
  | .str x => some (.inr x)
  | _ => none
theorem asKey_ok {d : D} {v : V} {k : Key} (r : RV K Z d v) (h : asKey d = some k) : v = kV k := by
  cases d with
  | int i => cases (show some (Sum.inl i) = some k from h); exact rv_int r
  | str i => cases (show some (Sum.inr i) = some k from h); exact rv_str r
  | _ => cases h
/-- the value at a key -/
def dget (kvs : List (Key × D)) (k : Key) : Option D := (kvs.find? fun kv => decide (kv.1 = k)).map (·.2)
theorem dget_ok {k : Key} : ∀ {kvs : List (Key × D)} {us : List (Key × V)}, us.map (·.1) = kvs.map (·.1) → RVs K Z (kvs.map (·.2)) (us.map (·.2)) →
    (dget kvs k = none ∧ valV us k = none) ∨ ∃ d v, dget kvs k = some d ∧ valV us k = some v ∧ RV K Z d v
  | [], us, e, _ => by
    have : us = [] := by simpa using e
    subst this; exact .inl ⟨rfl, rfl⟩
  | (k1, d) :: kvs, [], e, _ => by simp at e
  | (k1, d) :: kvs, (k2, v) :: us, e, r => by
    simp only [List.map_cons, List.cons.injEq] at e
    obtain ⟨e1, e2⟩ := e
    have e1 : k2 = k1 := e1
    subst e1
    obtain ⟨v', u', hv, r1, r2⟩ := RVs.inv (show RVs K Z (d :: kvs.map (·.2)) (v :: us.map (·.2)) from r)
    obtain ⟨rfl, rfl⟩ := List.cons.inj hv
    by_cases hk : k2 = k
    · refine .inr ⟨d, v, ?_, ?_, r1⟩
      · simp [dget, List.find?_cons, hk]
      · exact valV_pos (p := (k2, v)) hk
    · have ih := dget_ok (k := k) e2 r2
      have h1 : dget ((k2, d) :: kvs) k = dget kvs k := by simp [dget, List.find?_cons, hk]
      have h2 : valV ((k2, v) :: us) k = valV us k := valV_neg (p := (k2, v)) hk
      rw [h1, h2]
      exact ih
def opIn (neg : Bool) : DOp := fun x y A Q => match asDic A y, asKey x with
  | some kvs, some k => Q (.bl (xor neg (dget kvs k).isSome)) A
  | some _, none => False
  | none, _ => match x, y with
    | .str c, .str z => c.cps.size = 1 ∧ Q (.bl (xor neg (decide (c.cps.getD 0 0 ∈ z.cps.toList)))) A
    | x, .tup l => (flatD x && l.all flatD) = true ∧ Q (.bl (xor neg (l.any fun z => deq z x))) A
    | x, y => match asL A y with
      | some l => dt 60 (drf A x) = true ∧ dts 59 l = true ∧ Q (.bl (xor neg (l.any fun z => deq z (drf A x)))) A
      | none => False
where flatD : D → Bool
  | .non => true | .bl _ => true | .int _ => true | .str _ => true | _ => false

def rInDict (neg : Bool) : R2 := fun x y H Q => ∃ a o, y = .ref a ∧ DGet H a x o ∧ Q (.bl (xor neg o.isSome)) H
theorem op_inDict (hu : X.A.units + 1 < cLine) : OpR X (compareOp .In) (rInDict false) := by
  intro pins s σ H x y v u Q I rx ry h
  obtain ⟨a, o, rfl, g, q⟩ := h
  obtain rfl : u = Value.ref a := ry
  exact d_in hu I g rx fun s3 I3 => ⟨.bl o.isSome, H, I3, rfl, by simpa using q⟩
theorem op_notInDict (hu : X.A.units + 1 < cLine) : OpR X (compareOp .NotIn) (rInDict true) := by
  intro pins s σ H x y v u Q I rx ry h
  obtain ⟨a, o, rfl, g, q⟩ := h
  obtain rfl : u = Value.ref a := ry
  exact d_notIn hu I g rx fun s3 I3 => ⟨.bl (!o.isSome), H, I3, rfl, by simpa using q⟩
def rInSign (neg : Bool) : R2 := fun x y H Q => ∃ (c : Nat) (z : Str), x = .str ⟨#[c]⟩ ∧ y = .str z ∧ Q (.bl (xor neg (decide (c ∈ z.cps.toList)))) H
theorem op_inSign : OpR X (compareOp .In) (rInSign false) := by
  intro pins s σ H x y v u Q I rx ry ⟨c, z, h1, h2, q⟩
  exact op_in_sign pins s σ H x y v u Q I rx ry ⟨c, z, h1, h2, by simpa using q⟩
theorem op_notInSign : OpR X (compareOp .NotIn) (rInSign true) := by
  intro pins s σ H x y v u Q I rx ry ⟨c, z, h1, h2, q⟩
  exact op_notIn_sign pins s σ H x y v u Q I rx ry ⟨c, z, h1, h2, by simpa using q⟩
def rInAll (K : PySem.W.Frag) (neg : Bool) (rd : R2) : R2 := fun x y H Q => rInDict neg x y H Q ∨ rInSign neg x y H Q ∨ rIn K neg x y H Q ∨ rd x y H Q
theorem op_inAll (hu : X.A.units + 65 < cLine) : OpR X (compareOp .In) (rInAll X.K false (rInD X.K)) := (op_inDict (by omega)).or (op_inSign.or (op_in_seq.or (op_inD hu)))
theorem op_notInAll (hu : X.A.units + 65 < cLine) : OpR X (compareOp .NotIn) (rInAll X.K true (rNotInD X.K)) := (op_notInDict (by omega)).or (op_notInSign.or (op_notIn_seq.or (op_notInD hu)))
theorem flat_rv {d : D} {v : V} (r : RV K Z d v) (h : opIn.flatD d = true) : flatV v = true := by
  cases d with
  | non => rw [rv_non r]; rfl
  | bl b => rw [rv_bl r]; rfl
  | int b => rw [rv_int r]; rfl
  | str b => rw [rv_str r]; rfl
  | _ => cases h
theorem flat_eq {d e : D} {v u : V} (r : RV K Z d v) (q : RV K Z e u) (h : opIn.flatD d = true) (h' : opIn.flatD e = true) : eqV v u = deq d e := by
  cases d with
  | non => rw [rv_non r]; cases e with
    | non => rw [rv_non q]; simp [eqV, deq]
    | bl b => rw [rv_bl q]; simp [eqV, deq]
    | int b => rw [rv_int q]; simp [eqV, deq]
    | str b => rw [rv_str q]; simp [eqV, deq]
    | _ => cases h'
  | bl b => rw [rv_bl r]; cases e with
    | non => rw [rv_non q]; simp [eqV, deq]
    | bl b => rw [rv_bl q]; simp [eqV, deq]
    | int b => rw [rv_int q]; simp [eqV, deq]
    | str b => rw [rv_str q]; simp [eqV, deq]
    | _ => cases h'
  | int b => rw [rv_int r]; cases e with
    | non => rw [rv_non q]; simp [eqV, deq]
    | bl b => rw [rv_bl q]; simp [eqV, deq]
    | int b => rw [rv_int q]; simp [eqV, deq]
    | str b => rw [rv_str q]; simp [eqV, deq]
    | _ => cases h'
  | str b => rw [rv_str r]; cases e with
    | non => rw [rv_non q]; simp [eqV, deq]
    | bl b => rw [rv_bl q]; simp [eqV, deq]
    | int b => rw [rv_int q]; simp [eqV, deq]
    | str b => rw [rv_str q]; simp [eqV, deq]
    | _ => cases h'
  | _ => cases h
theorem flat_any {x : D} {vx : V} (rx : RV K Z x vx) (hx : opIn.flatD x = true) : ∀ {l : List D} {vs : List V}, RVs K Z l vs → l.all opIn.flatD = true → vs.all flatV = true ∧ inV vx vs = l.any (fun z => deq z x)
  | [], vs, r, _ => by rw [r.inv0]; exact ⟨rfl, rfl⟩
  | d :: l, vs, r, h => by
    obtain ⟨v, u, rfl, r1, r2⟩ := r.inv
    simp only [List.all_cons, Bool.and_eq_true] at h
    have ih := flat_any rx hx r2 h.2
    refine ⟨by simp only [List.all_cons, Bool.and_eq_true]; exact ⟨flat_rv r1 h.1, ih.1⟩, ?_⟩
    have e := ih.2
    unfold inV at e ⊢
    rw [List.any_cons, List.any_cons, e, flat_eq r1 rx h.1 hx]
theorem opIn_cases {neg : Bool} {x y : D} {A : AH} {Q : DK} (h : opIn neg x y A Q) :
    (∃ kvs k, asDic A y = some kvs ∧ asKey x = some k ∧ Q (.bl (xor neg (dget kvs k).isSome)) A) ∨
    (∃ c z, x = .str c ∧ y = .str z ∧ c.cps.size = 1 ∧ Q (.bl (xor neg (decide (c.cps.getD 0 0 ∈ z.cps.toList)))) A) ∨
    (∃ l, y = .tup l ∧ (opIn.flatD x && l.all opIn.flatD) = true ∧ Q (.bl (xor neg (l.any fun z => deq z x))) A) ∨
    ∃ l, asL A y = some l ∧ dt 60 (drf A x) = true ∧ dts 59 l = true ∧ Q (.bl (xor neg (l.any fun z => deq z (drf A x)))) A := by
  unfold opIn at h
  split at h
  · rename_i kvs k h1 h2
    exact .inl ⟨kvs, k, h1, h2, h⟩
  · exact h.elim
  · split at h
    · exact .inr (.inl ⟨_, _, rfl, rfl, h.1, h.2⟩)
    · exact .inr (.inr (.inl ⟨_, rfl, h.1, h.2⟩))
    · split at h
      · rename_i l q
        exact .inr (.inr (.inr ⟨l, q, h⟩))
      · exact h.elim
theorem asL_dp {A : AH} {H : Hp} (R : RA K Z A H) {d : D} {v : V} {l : List D} {n : Nat} (r : RV K Z d v) (h : asL A d = some l) (q : dts n l = true) : Dp K H v (.list (pys l)) := by
  obtain ⟨p, vs, e1, e2, e3⟩ := asL_ok R r h
  rw [e1]
  exact .lst e2 (dps_of R l vs n q e3)
theorem one_sign {c : Str} (h : c.cps.size = 1) : c = ⟨#[c.cps.getD 0 0]⟩ := by
  apply PyProof.Rows.ext_toList
  have h2 : c.cps.toList.length = 1 := by simpa using h
  match hc : c.cps.toList, h2 with
  | [x], _ =>
    have : c.cps = #[x] := by apply Array.toList_inj.mp; simpa using hc
    rw [this]; simp
theorem lift_in0 {neg : Bool} {rd : R2} (hrd : ∀ x y H Q, (∃ d ds, Dp K H x d ∧ Dp K H y (.list ds) ∧ SeqAt.shaped d = true ∧ SeqAt.shaped (.list ds) = true ∧ Q (.bl (xor neg (ds.any fun z => PyData.eqv z d))) H) → rd x y H Q) : LiftOp K (opIn neg) (rInAll K neg rd) := fun Z A H x y vx vy Kt Q R rx ry h k => by
  rcases opIn_cases h with ⟨kvs, ky, h1, h2, h⟩ | ⟨c, z, rfl, rfl, h1, h⟩ | ⟨l, rfl, h1, h⟩ | ⟨l, h1, h2, h3, h⟩
  · obtain ⟨p, us, e1, e2, e3, e4⟩ := asDic_ok R ry h1
    refine .inl ⟨p, valV us ky, e1, ?_, ?_⟩
    · rw [asKey_ok rx h2]; exact DGet.k e2
    · refine k Z _ A _ H (Same.refl Z) R mk_bl ?_
      rcases dget_ok (k := ky) e3 e4 with ⟨q1, q2⟩ | ⟨d, v, q1, q2, _⟩
      · rw [q2]; rw [q1] at h; exact h
      · rw [q2]; rw [q1] at h; exact h
  · refine .inr (.inl ⟨c.cps.getD 0 0, z, ?_, rv_str ry, k Z _ A _ H (Same.refl Z) R mk_bl h⟩)
    rw [rv_str rx]; exact congrArg V.str (one_sign h1)
  · obtain ⟨p, vs, e1, e2, e3⟩ := rv_tup ry
    simp only [Bool.and_eq_true] at h1
    obtain ⟨f1, f2⟩ := flat_any rx h1.1 e3 h1.2
    refine .inr (.inr (.inl ⟨p, vs, e1, .inr (sqT_mono R.sub e2), flat_rv rx h1.1, f1, ?_⟩))
    rw [f2]
    refine k Z _ A _ H (Same.refl Z) R ?_ h
    cases neg <;> simp [RV]
  · obtain ⟨c1, c2⟩ := dt_canLay _ _ h2
    obtain ⟨c3, c4⟩ := dts_canLay _ _ h3
    refine .inr (.inr (.inr (hrd _ _ _ _ ⟨_, _, dp_drf R h2 rx, asL_dp R ry h1 h3, ?_, ?_, ?_⟩)))
    · unfold SeqAt.shaped; rw [c1, Bool.true_and]; exact decide_eq_true (by omega)
    · unfold SeqAt.shaped; simp only [PyData.canLay0, PyData.depth]; rw [c3, Bool.true_and]; exact decide_eq_true (by omega)
    · rw [dts_any _ _ h2 _ _ h3]
      exact k Z _ A _ H (Same.refl Z) R mk_bl h
theorem lift_in : LiftOp K (opIn false) (rInAll K false (rInD K)) := lift_in0 fun x y H Q ⟨d, ds, h1, h2, h3, h4, h5⟩ => ⟨d, ds, h1, h2, h3, h4, by simpa using h5⟩
theorem lift_notin : LiftOp K (opIn true) (rInAll K true (rNotInD K)) := lift_in0 fun x y H Q ⟨d, ds, h1, h2, h3, h4, h5⟩ => ⟨d, ds, h1, h2, h3, h4, by simpa using h5⟩
end DL

/-! DL3: subscripts, slices, fields, built-in functions and methods over data. -/
namespace DL
open PySem PySem.Spec PyProof.Rows L2
variable {K : PySem.W.Frag} {Z Z' Z0 : Hp} {X : Cx}

/-! ### subscripts -/
def opIx : DOp := fun x y A Q => match y with
  | .int i => (match x with
    | .str z => Few z.length ∧ (match atI z.cps.toList i with
      | some c => Q (.str ⟨#[c]⟩) A
      | none => False)
    | x => match asS A x with
      | some l => (match atI l i with
        | some d => Q d A
        | none => False)
      | none => match asDic A x with
        | some kvs => (match dget kvs (.inl i) with
          | some d => Q d A
          | none => False)
        | none => False)
  | .str k => (match asDic A x with
    | some kvs => (match dget kvs (.inr k) with
      | some d => Q d A
      | none => False)
    | none => False)
  | _ => False
def rIxD : R2 := fun x y H Q => ∃ a v, x = .ref a ∧ DGet H a y (some v) ∧ Q v H
theorem ix_dict (hu : X.A.units + 1 < cLine) : IxR X rIxD := by
  intro value slice pins s σ H x y v u Q I rx ry h hs
  obtain ⟨a, w, rfl, g, q⟩ := h
  obtain rfl : v = Value.ref a := rx
  exact tail_any (dict_typeIs I g) PySem.F.slot_dict_getitem.lookup (d_getItem hu I g ry fun w' s3 I3 rw' => ⟨w, H, I3, rw', q⟩) hs
def rIxAll (K : PySem.W.Frag) : R2 := fun x y H Q => rIxL K x y H Q ∨ rIxT K x y H Q ∨ rIxS x y H Q ∨ rIxD x y H Q
theorem ix_all (hu : X.A.units + 1 < cLine) : IxR X (rIxAll X.K) := ix_list.or (ix_tup.or (ix_str.or (ix_dict hu)))
theorem atI_rvs {l : List D} {vs : List V} {i : Int} {d : D} (r : RVs K Z l vs) (h : atI l i = some d) : ∃ v, atI vs i = some v ∧ RV K Z d v := by
  unfold atI at h ⊢
  rw [r.len]
  cases e : ixN l.length i with
  | none => rw [e] at h; cases h
  | some j =>
    rw [e] at h
    obtain ⟨v, h1, h2⟩ := r.get' (show l[j]? = some d from h)
    exact ⟨v, h1, h2⟩
theorem opIx_cases {x y : D} {A : AH} {Q : DK} (h : opIx x y A Q) :
    (∃ i z c, y = .int i ∧ x = .str z ∧ Few z.length ∧ atI z.cps.toList i = some c ∧ Q (.str ⟨#[c]⟩) A) ∨ (∃ i l d, y = .int i ∧ asS A x = some l ∧ atI l i = some d ∧ Q d A) ∨
      (∃ k kvs d, asKey y = some k ∧ asDic A x = some kvs ∧ dget kvs k = some d ∧ Q d A) := by
  unfold opIx at h
  split at h
  · rename_i i
    split at h
    · obtain ⟨h1, h2⟩ := h
      split at h2
      · rename_i c q
        exact .inl ⟨i, _, c, rfl, rfl, h1, q, h2⟩
      · exact h2.elim
    · split at h
      · rename_i l q
        split at h
        · rename_i d q2
          exact .inr (.inl ⟨i, l, d, rfl, q, q2, h⟩)
        · exact h.elim
      · split at h
        · rename_i kvs q
          split at h
          · rename_i d q2
            exact .inr (.inr ⟨.inl i, kvs, d, rfl, q, q2, h⟩)
          · exact h.elim
        · exact h.elim
  · rename_i k
    split at h
    · rename_i kvs q
      split at h
      · rename_i d q2
        exact .inr (.inr ⟨.inr k, kvs, d, rfl, q, q2, h⟩)
      · exact h.elim
    · exact h.elim
  · exact h.elim
theorem lift_ix : LiftOp K opIx (rIxAll K) := fun Z A H x y vx vy Kt Q R rx ry h k => by
  rcases opIx_cases h with ⟨i, z, c, rfl, rfl, h1, h2, h⟩ | ⟨i, l, d, rfl, h1, h2, h⟩ | ⟨ky, kvs, d, h1, h2, h3, h⟩
  · exact .inr (.inr (.inl ⟨z, i, c, rv_str rx, rv_int ry, few_line h1, h2, k Z _ A _ H (Same.refl Z) R mk_str h⟩))
  · obtain ⟨p, vs, e1, e2, e3⟩ := asS_ok R rx h1
    obtain ⟨v, f1, f2⟩ := atI_rvs e3 h2
    rcases e2 with e2 | e2
    · exact .inl ⟨p, vs, i, v, e1, rv_int ry, e2, f1, k Z _ A _ H (Same.refl Z) R f2 h⟩
    · exact .inr (.inl ⟨p, vs, i, v, e1, rv_int ry, e2, f1, k Z _ A _ H (Same.refl Z) R f2 h⟩)
  · obtain ⟨p, us, e1, e2, e3, e4⟩ := asDic_ok R rx h2
    rcases dget_ok (k := ky) e3 e4 with ⟨q1, _⟩ | ⟨d', v, q1, q2, q3⟩
    · rw [q1] at h3; cases h3
    · rw [q1] at h3; cases h3
      refine .inr (.inr (.inr ⟨p, v, e1, ?_, k Z _ A _ H (Same.refl Z) R q3 h⟩))
      rw [asKey_ok ry h1, ← q2]; exact DGet.k e2
section
variable {a b e : Expr} {es : List Expr} {pos p2 : Pos} {ta tb : DE} {lo hi : Option Expr}
theorem qe_ix (hu : X.A.units + 1 < cLine) (ha : QE X Z0 a ta) (hb : QE X Z0 b tb) (hs : PlainIx b) : QE X Z0 (.Subscript a b pos) (eBin opIx ta tb) :=
  PE.imp (pe_ix (ix_all hu) ha hb hs) fun σ H Q h => lift_bin lift_ix h

/-! ### slices -/
abbrev DOpt := DSt → AH → (Option Int → AH → Prop) → Prop
def liftO (K : PySem.W.Frag) (Z0 : Hp) (t : DOpt) : TO := fun σ H Q => ∃ Z δ A Kt, Same Z0 Z ∧ RS K Z δ σ ∧ RA K Z A H ∧ t δ A Kt ∧
  ∀ Z' o A' H', Same Z Z' → RA K Z' A' H' → Kt o A' → Q o H'
def oNone : DOpt := fun _ A Q => Q none A
def oSome (t : DE) : DOpt := fun δ A Q => t δ A fun d A1 => match d with
  | .int i => Q (some i) A1
  | _ => False
abbrev QO (X : Cx) (Z0 : Hp) (e : Option Expr) (t : DOpt) : Prop := PO X e (liftO X.K Z0 t)
theorem PO.imp {X : Cx} {e : Option Expr} {t u : TO} (h : PO X e t) (i : ∀ σ H Q, u σ H Q → t σ H Q) : PO X e u := ⟨fun pins s σ H Q I q => h.run pins s σ H Q I (i σ H Q q)⟩
theorem qo_none : QO X Z0 none oNone := PO.imp po_none fun σ H Q ⟨Z, δ, A, Kt, z, rs, ra, t, k⟩ => k Z none A H (Same.refl Z) ra t
theorem qo_some (h : QE X Z0 e ta) : QO X Z0 (some e) (oSome ta) := PO.imp (po_some h) fun σ H Q ⟨Z, δ, A, Kt, z, rs, ra, t, k⟩ =>
  ⟨Z, δ, A, _, z, rs, ra, t, fun Z1 d A1 v H1 s1 ra1 rv t1 => by
    cases d with
    | int i => exact ⟨i, rv_int rv, k Z1 _ A1 H1 s1 ra1 t1⟩
    | _ => exact t1.elim⟩
/-- the items lo .. hi -/
def cutD (l : List D) (lo hi : Option Int) : List D := (l.drop (HT.sIx l.length 0 lo)).take (HT.sIx l.length l.length hi - HT.sIx l.length 0 lo)
theorem cut_rvs {l : List D} {vs : List V} (r : RVs K Z l vs) (lo hi : Option Int) : RVs K Z (cutD l lo hi) (cutV vs lo hi) := by
  unfold cutD cutV
  rw [r.len]
  exact (r.drop _).take _
def opSl (mk : Mk) (x : D) (lo hi : Option Int) : AH → DK → Prop := fun A Q => match x with
  | .str z => Few z.length ∧ Q (.str (cutS z lo hi)) A
  | .tup l => Q (.tup (cutD l lo hi)) A
  | x => match asL A x with
    | some l => mk (cutD l lo hi) A Q
    | none => False
def eSl (mk : Mk) (t : DE) (lo hi : DOpt) : DE := fun δ A Q => t δ A fun x A1 => lo δ A1 fun l A2 => hi δ A2 fun h A3 => opSl mk x l h A3 Q
def rSlAll (K : PySem.W.Frag) : V → Option Int → Option Int → Hp → VK → Prop := fun x lo hi H Q => rSlS x lo hi H Q ∨ rSlA K x lo hi H Q ∨ rSlL K x lo hi H Q
theorem sl_all : SlR X (rSlAll X.K) := sl_str.or (sl_tupA.or sl_list)
theorem opSl_cases {mk : Mk} {x : D} {lo hi : Option Int} {A : AH} {Q : DK} (h : opSl mk x lo hi A Q) :
    (∃ z, x = .str z ∧ Few z.length ∧ Q (.str (cutS z lo hi)) A) ∨ (∃ l, x = .tup l ∧ Q (.tup (cutD l lo hi)) A) ∨ ∃ l, asL A x = some l ∧ mk (cutD l lo hi) A Q := by
  unfold opSl at h
  split at h
  · exact .inl ⟨_, rfl, h⟩
  · exact .inr (.inl ⟨_, rfl, h⟩)
  · split at h
    · rename_i l q
      exact .inr (.inr ⟨l, q, h⟩)
    · exact h.elim
theorem qe_sl {mk : Mk} (m : MkOk X.K mk) {tl th : DOpt} (he : QE X Z0 e ta) (hl : QO X Z0 lo tl) (hu : QO X Z0 hi th) : QE X Z0 (.Subscript e (.Slice lo hi none p2) pos) (eSl mk ta tl th) :=
  PE.imp (pe_slice sl_all he hl hu) fun σ H Q ⟨Z, δ, A, Kt, z, rs, ra, t, k⟩ => ⟨Z, δ, A, _, z, rs, ra, t, fun Z1 d A1 v H1 s1 ra1 rv t1 =>
    ⟨Z1, δ, A1, _, z.trans s1, rs.mono s1, ra1, t1, fun Z2 l A2 H2 s2 ra2 t2 => ⟨Z2, δ, A2, _, (z.trans s1).trans s2, (rs.mono s1).mono s2, ra2, t2, fun Z3 h A3 H3 s3 ra3 t3 => by
      have rx := (rv.mono s2).mono s3
      have k3 : Kont X.K Z3 Kt Q := Kont.mono k ((s1.trans s2).trans s3)
      rcases opSl_cases t3 with ⟨z, rfl, h1, t4⟩ | ⟨l', rfl, t4⟩ | ⟨l', h1, t4⟩
      · exact .inl ⟨z, rv_str rx, few_line h1, k3 Z3 _ A3 _ H3 (Same.refl _) ra3 mk_str t4⟩
      · obtain ⟨p, vs, e1, e2, e3⟩ := rv_tup rx
        refine .inr (.inl ⟨p, vs, e1, sqT_mono ra3.sub e2, fun hw => ?_, fun _ q hq => ?_⟩)
        · refine k3 Z3 _ A3 _ H3 (Same.refl _) ra3 (mk_tup e2 ?_) t4
          have hc : cutD l' l h = l' := by
            unfold cutD
            rw [← e3.len, hw.1, hw.2, List.drop_zero, Nat.sub_zero, e3.len, List.take_length]
          rw [hc]; exact e3
        · obtain ⟨s, R'⟩ := ra3.newF hq (.tup (cutV vs l h))
          exact k3 _ _ A3 _ _ s R' (mk_tup (SqT.of upd_same) ((cut_rvs e3 l h).mono s)) t4
      · obtain ⟨p, vs, e1, e2, e3⟩ := asL_ok ra3 rx h1
        exact .inr (.inr ⟨p, vs, e1, e2, m.ok ra3 (cut_rvs e3 l h) t4 k3⟩)⟩⟩⟩
end

/-! ### fields -/
theorem map_inj_toNat : ∀ {a b : List Char}, a.map Char.toNat = b.map Char.toNat → a = b
  | [], [], _ => rfl
  | [], _ :: _, h => by simp at h
  | _ :: _, [], h => by simp at h
  | c :: a, d :: b, h => by
    simp only [List.map_cons, List.cons.injEq] at h
    rw [Char.toNat_inj.mp h.1, map_inj_toNat h.2]
theorem ofString_inj {a b : String} (h : Str.ofString a = Str.ofString b) : a = b := by
  rw [Str.ofString_eq_toList, Str.ofString_eq_toList] at h
  have h2 : a.toList.map Char.toNat = b.toList.map Char.toNat := by
    have := congrArg (fun z : Str => z.cps.toList) h
    simpa using this
  have h3 : a.toList = b.toList := map_inj_toNat h2
  exact String.toList_inj.mp h3
theorem look_ok {f : String} : ∀ {fs : List (String × D)} {us : List (Str × V)}, us.map (·.1) = fs.map (fun p => Str.ofString p.1) → RVs K Z (fs.map (·.2)) (us.map (·.2)) →
    (fs.lookup f = none ∧ us.lookup (Str.ofString f) = none) ∨ ∃ d v, fs.lookup f = some d ∧ us.lookup (Str.ofString f) = some v ∧ RV K Z d v
  | [], us, e, _ => by
    have : us = [] := by simpa using e
    subst this; exact .inl ⟨rfl, rfl⟩
  | (k1, d) :: kvs, [], e, _ => by simp at e
  | (k1, d) :: kvs, (k2, v) :: us, e, r => by
    simp only [List.map_cons, List.cons.injEq] at e
    obtain ⟨e1, e2⟩ := e
    have e1 : k2 = Str.ofString k1 := e1
    subst e1
    obtain ⟨v', u', hv, r1, r2⟩ := RVs.inv (show RVs K Z (d :: kvs.map (·.2)) (v :: us.map (·.2)) from r)
    obtain ⟨rfl, rfl⟩ := List.cons.inj hv
    by_cases hk : f = k1
    · subst hk
      refine .inr ⟨d, v, ?_, ?_, r1⟩
      · simp [List.lookup]
      · simp [List.lookup]
    · have ih := look_ok (f := f) e2 r2
      have hk2 : (Str.ofString f == Str.ofString k1) = false := beq_eq_false_iff_ne.mpr fun z => hk (ofString_inj z)
      have h1 : ((k1, d) :: kvs).lookup f = kvs.lookup f := by simp [List.lookup, beq_eq_false_iff_ne.mpr hk]
      have h2 : ((Str.ofString k1, v) :: us).lookup (Str.ofString f) = us.lookup (Str.ofString f) := by simp [List.lookup, hk2]
      rw [h1, h2]
      exact ih
/-- a class whose field f is plain -/
structure FldOk (K : PySem.W.Frag) (c f : String) : Prop where
  cls : Cls K (He.ga K (Str.ofString c))
  no : NoAttr K (He.ga K (Str.ofString c)) (Str.ofString f)
def eFld (cs : List String) (f : String) (t : DE) : DE := fun δ A Q => t δ A fun d A1 => match asObj A1 d with
  | some (c, fs) => c ∈ cs ∧ (match fs.lookup f with
    | some d => Q d A1
    | none => False)
  | none => False
section
variable {a b e o : Expr} {es : List Expr} {pos p2 : Pos} {ta tb : DE} {cs : List String} {f : String}
theorem qe_fld (hf : ∀ c ∈ cs, FldOk X.K c f) (he : QE X Z0 e ta) (hb : attributeBase e (Str.ofString f) X.env (eval e X.env) = eval e X.env) : QE X Z0 (.Attribute e (Str.ofString f) pos) (eFld cs f ta) :=
  PE.imp (pe_fld he hb) fun σ H Q ⟨Z, δ, A, Kt, z, rs, ra, t, k⟩ => ⟨Z, δ, A, _, z, rs, ra, t, fun Z1 d A1 v H1 s1 ra1 rv t1 => by
    split at t1
    · rename_i c fs q
      obtain ⟨hc, t1⟩ := t1
      obtain ⟨p, dx, us, e1, e2, e3, e4⟩ := asObj_ok ra1 rv q
      split at t1
      · rename_i d' q2
        rcases look_ok (f := f) e3 e4 with ⟨h1, _⟩ | ⟨d2, v2, h1, h2, h3⟩
        · rw [q2] at h1; cases h1
        · rw [q2] at h1; cases h1
          exact ⟨p, _, dx, us, v2, e1, e2, (hf c hc).cls, (hf c hc).no, h2, k Z1 _ A1 _ H1 s1 ra1 h3 t1⟩
      · exact t1.elim
    · exact t1.elim⟩

/-! ### built-in functions -/
abbrev DCall := List D → AH → DK → Prop
def LiftCall (K : PySem.W.Frag) (rd : DCall) (r : List V → Hp → VK → Prop) : Prop := ∀ (Z : Hp) (A : AH) (H : Hp) (ds : List D) (vs : List V) (Kt : DK) (Q : VK), RA K Z A H → RVs K Z ds vs → rd ds A Kt → Kont K Z Kt Q → r vs H Q
def eCB (rd : DCall) (t : DA) : DE := fun δ A Q => t δ A fun ds A1 => rd ds A1 Q
theorem lift_cb {rd : DCall} {r : List V → Hp → VK → Prop} {t : DA} {σ : L2.St} {H : Hp} {Q : VK} (l : LiftCall K rd r) (h : liftE K Z0 (eCB rd t) σ H Q) : tCB r (liftA K Z0 t) σ H Q := by
  obtain ⟨Z, δ, A, Kt, z, rs, ra, t, k⟩ := h
  exact ⟨Z, δ, A, _, z, rs, ra, t, fun Z1 ds A1 vs H1 s1 ra1 rv t1 => l Z1 A1 H1 ds vs Kt Q ra1 rv t1 (Kont.mono k s1)⟩
variable {x : Str} {id T : String} {rd : DCall} {r : List V → Hp → VK → Prop} {t : DA} {p : Pos}
theorem qe_callB (l : LiftCall X.K rd r) (hc : CallR X (.builtin id) r) (hg : Gl X x) (hm : X.mg x = none) (hv : bootBuiltins x = some (.builtin id)) (ha : QA X Z0 (e :: es) t) (hn : x ≠ "__name__" := by decide) (hdb : (x == ("__debug__" : Str)) = false := by decide)
    (he : starEach (e :: es) X.env = (false, eval e X.env) :: starEach es X.env := by rfl) (hpl : (backTo pos (starEach es X.env)).any (·.1) = false := by rfl) : QE X Z0 (.Call (.Name x p) (e :: es) [] pos) (eCB rd t) :=
  PE.imp (pe_callB hc hg hm hv ha hn hdb he hpl) fun σ H Q h => lift_cb l h
theorem qe_callTy (l : LiftCall X.K rd r) (hc : CallR X (.type T) r) (hg : Gl X x) (hm : X.mg x = none) (hv : bootBuiltins x = some (.type T)) (ha : QA X Z0 (e :: es) t) (hn : x ≠ "__name__" := by decide) (hdb : (x == ("__debug__" : Str)) = false := by decide)
    (he : starEach (e :: es) X.env = (false, eval e X.env) :: starEach es X.env := by rfl) (hpl : (backTo pos (starEach es X.env)).any (·.1) = false := by rfl) : QE X Z0 (.Call (.Name x p) (e :: es) [] pos) (eCB rd t) :=
  PE.imp (pe_callTy hc hg hm hv ha hn hdb he hpl) fun σ H Q h => lift_cb l h
end
theorem CallR.or {f : Value} {r r' : List V → Hp → VK → Prop} (h : CallR X f r) (h' : CallR X f r') : CallR X f (fun xs H Q => r xs H Q ∨ r' xs H Q) := by
  intro pins s σ H xs us Q I rx q
  rcases q with q | q
  · exact h pins s σ H xs us Q I rx q
  · exact h' pins s σ H xs us Q I rx q
theorem RVs.one {d : D} {vs : List V} (h : RVs K Z [d] vs) : ∃ v, vs = [v] ∧ RV K Z d v := by
  obtain ⟨v, r, rfl, h1, h2⟩ := h.inv
  rw [h2.inv0]
  exact ⟨v, rfl, h1⟩
theorem RVs.two {d e : D} {vs : List V} (h : RVs K Z [d, e] vs) : ∃ v u, vs = [v, u] ∧ RV K Z d v ∧ RV K Z e u := by
  obtain ⟨v, r, rfl, h1, h2⟩ := h.inv
  obtain ⟨u, rfl, h3⟩ := h2.one
  exact ⟨v, u, rfl, h1, h3⟩
def bAbs : DCall := fun ds A Q => match ds with
  | [.int i] => Q (.int i.natAbs) A
  | _ => False
theorem lift_abs : LiftCall K bAbs (fun xs H Q => ∃ i, xs = [.int i] ∧ Q (.int (if i < 0 then -i else i)) H) := fun Z A H ds vs Kt Q R r h k => by
  unfold bAbs at h
  split at h
  · rename_i i
    obtain ⟨v, rfl, rv⟩ := r.one
    refine ⟨i, by rw [rv_int rv], ?_⟩
    have e : (if i < 0 then -i else i) = (i.natAbs : Int) := by split <;> omega
    rw [e]
    exact k Z _ A _ H (Same.refl Z) R mk_int h
  · exact h.elim
def bMin : DCall := fun ds A Q => match ds with
  | [.int i, .int j] => Q (.int (if j < i then j else i)) A
  | _ => False
theorem lift_min : LiftCall K bMin (fun xs H Q => ∃ i j, xs = [.int i, .int j] ∧ Q (.int (if j < i then j else i)) H) := fun Z A H ds vs Kt Q R r h k => by
  unfold bMin at h
  split at h
  · obtain ⟨v, u, rfl, r1, r2⟩ := r.two
    exact ⟨_, _, by rw [rv_int r1, rv_int r2], k Z _ A _ H (Same.refl Z) R mk_int h⟩
  · exact h.elim
def bLen : DCall := fun ds A Q => match ds with
  | [.str s] => Few s.length ∧ Q (.int s.length) A
  | [d] => (match asS A d with
    | some l => Q (.int l.length) A
    | none => match asDic A d with
      | some kvs => Q (.int kvs.length) A
      | none => False)
  | _ => False
theorem lift_len : LiftCall K bLen (fun xs H Q => (∃ x n, xs = [x] ∧ LenV K x H n ∧ Q (.int n) H) ∨ ∃ a kvs, xs = [.ref a] ∧ H a = some (.dK kvs) ∧ Q (.int kvs.length) H) := fun Z A H ds vs Kt Q R r h k => by
  unfold bLen at h
  split at h
  · obtain ⟨v, rfl, rv⟩ := r.one
    exact .inl ⟨.str _, _, by rw [rv_str rv], ⟨few_line h.1, rfl⟩, k Z _ A _ H (Same.refl Z) R mk_int h.2⟩
  · obtain ⟨v, rfl, rv⟩ := r.one
    split at h
    · rename_i l q
      obtain ⟨p, us, e1, e2, e3⟩ := asS_ok R rv q
      refine .inl ⟨.ref p, us.length, by rw [e1], ?_, ?_⟩
      · rcases e2 with e2 | e2
        · exact .inl ⟨us, e2, rfl⟩
        · exact .inr ⟨us, e2, rfl⟩
      · rw [e3.len]; exact k Z _ A _ H (Same.refl Z) R mk_int h
    · split at h
      · rename_i kvs q
        obtain ⟨p, us, e1, e2, e3, e4⟩ := asDic_ok R rv q
        refine .inr ⟨p, us, by rw [e1], e2, ?_⟩
        have : us.length = kvs.length := by have := congrArg List.length e3; simpa using this
        rw [this]; exact k Z _ A _ H (Same.refl Z) R mk_int h
      · exact h.elim
  · exact h.elim
theorem call_lenAll : CallR X (.builtin "len") (fun xs H Q => (∃ x n, xs = [x] ∧ LenV X.K x H n ∧ Q (.int n) H) ∨ ∃ a kvs, xs = [.ref a] ∧ H a = some (.dK kvs) ∧ Q (.int kvs.length) H) := by
  refine CallR.or call_len ?_
  intro pins s σ H xs us Q I r h
  obtain ⟨a, kvs, rfl, hk, q⟩ := h
  obtain ⟨u, rfl, rx⟩ := vals1 r
  obtain rfl : u = Value.ref a := rx
  exact d_len I (.inl hk) fun t s' I' => ⟨.int kvs.length, H, I', ⟨t, rfl⟩, q⟩
/-- the text of a number -/
def numStr (i : Int) : Str := Str.ofString (toString i)
def bStr : DCall := fun ds A Q => match ds with
  | [.int i] => i.natAbs < 2 ^ 1900 ∧ Q (.str (numStr i)) A
  | _ => False
theorem lift_str : LiftCall K bStr (fun xs H Q => ∃ i, xs = [.int i] ∧ i.natAbs.log2 < 1920 ∧ Q (.str (toString i)) H) := fun Z A H ds vs Kt Q R r h k => by
  unfold bStr at h
  split at h
  · obtain ⟨v, rfl, rv⟩ := r.one
    refine ⟨_, by rw [rv_int rv], Nat.lt_of_lt_of_le (PySem.Flt.log2_lt_of (by decide) h.1) (by decide), k Z _ A _ H (Same.refl Z) R mk_str h.2⟩
  · exact h.elim
def bInt : DCall := fun ds A Q => match ds with
  | [.int i] => Q (.int i) A
  | [.bl b] => Q (.int (if b then 1 else 0)) A
  | [.str s] => s.length ≤ 640 ∧ (match PySem.intText? s with
    | some n => Q (.int n) A
    | none => False)
  | _ => False
theorem lift_int : LiftCall K bInt (fun xs H Q => ((∃ i, xs = [.int i] ∧ Q (.int i) H) ∨ ∃ k, xs = [.bl k] ∧ Q (.int (if k then 1 else 0)) H) ∨ ∃ a n, xs = [.str a] ∧ PySem.intText? a = some n ∧ a.length ≤ 640 ∧ Q (.int n) H) := fun Z A H ds vs Kt Q R r h k => by
  unfold bInt at h
  split at h
  · obtain ⟨v, rfl, rv⟩ := r.one
    exact .inl (.inl ⟨_, by rw [rv_int rv], k Z _ A _ H (Same.refl Z) R mk_int h⟩)
  · obtain ⟨v, rfl, rv⟩ := r.one
    exact .inl (.inr ⟨_, by rw [rv_bl rv], k Z _ A _ H (Same.refl Z) R mk_int h⟩)
  · obtain ⟨v, rfl, rv⟩ := r.one
    obtain ⟨h1, h2⟩ := h
    split at h2
    · rename_i n q
      exact .inr ⟨_, n, by rw [rv_str rv], q, h1, k Z _ A _ H (Same.refl Z) R mk_int h2⟩
    · exact h2.elim
  · exact h.elim
theorem call_intAll : CallR X (.type "int") (fun xs H Q => ((∃ i, xs = [.int i] ∧ Q (.int i) H) ∨ ∃ k, xs = [.bl k] ∧ Q (.int (if k then 1 else 0)) H) ∨ ∃ a n, xs = [.str a] ∧ PySem.intText? a = some n ∧ a.length ≤ 640 ∧ Q (.int n) H) := CallR.or call_int1 call_int_str
def keyD : Key → D
  | .inl i => .int i
  | .inr x => .str x
def bList (mk : Mk) : DCall := fun ds A Q => match ds with
  | [d] => (match asS A d with
    | some l => mk l A Q
    | none => match asDic A d with
      | some kvs => mk (kvs.map fun kv => keyD kv.1) A Q
      | none => False)
  | _ => False
theorem rvs_keys : ∀ (us : List (Key × V)), RVs K Z (us.map fun kv => keyD kv.1) (us.map fun kv => kV kv.1)
  | [] => RVs.nil
  | (k, v) :: us => RVs.cons (by cases k with
      | inl i => exact mk_int
      | inr x => exact mk_str) (rvs_keys us)
theorem lift_list {mk : Mk} (m : MkOk K mk) : LiftCall K (bList mk) (fun xs H Q => (∃ p ys, xs = [.ref p] ∧ (SqL K H p ys ∨ SqT K H p ys) ∧ ∀ l, H l = none → Q (.ref l) (upd H l (.lst ys))) ∨
    ∃ a kvs, xs = [.ref a] ∧ Rd H a (.dK kvs) ∧ ∀ p, H p = none → Q (.ref p) (upd H p (.lst (kvs.map fun kv => kV kv.1)))) := fun Z A H ds vs Kt Q R r h k => by
  unfold bList at h
  split at h
  · obtain ⟨v, rfl, rv⟩ := r.one
    split at h
    · rename_i l q
      obtain ⟨p, us, e1, e2, e3⟩ := asS_ok R rv q
      exact .inl ⟨p, us, by rw [e1], e2, m.ok R e3 h k⟩
    · split at h
      · rename_i kvs q
        obtain ⟨p, us, e1, e2, e3, e4⟩ := asDic_ok R rv q
        refine .inr ⟨p, us, by rw [e1], .inl e2, m.ok R ?_ h k⟩
        have e5 : (kvs.map fun kv => keyD kv.1) = us.map fun kv => keyD kv.1 := by
          have h1 : (kvs.map fun kv => keyD kv.1) = (kvs.map (·.1)).map keyD := by rw [List.map_map]; rfl
          rw [h1, ← e3, List.map_map]; rfl
        rw [e5]
        exact rvs_keys us
      · exact h.elim
  · exact h.elim
theorem call_listAll (hc : X.calm = true) : CallR X (.type "list") (fun xs H Q => (∃ p ys, xs = [.ref p] ∧ (SqL X.K H p ys ∨ SqT X.K H p ys) ∧ ∀ l, H l = none → Q (.ref l) (upd H l (.lst ys))) ∨
    ∃ a kvs, xs = [.ref a] ∧ Rd H a (.dK kvs) ∧ ∀ p, H p = none → Q (.ref p) (upd H p (.lst (kvs.map fun kv => kV kv.1)))) := CallR.or call_list_of (call_listD hc)
def bTuple : DCall := fun ds A Q => match ds with
  | [d] => (match asS A d with
    | some l => Q (.tup l) A
    | none => False)
  | _ => False
theorem lift_tuple : LiftCall K bTuple (fun xs H Q => ∃ p ys, xs = [.ref p] ∧ ((SqL K H p ys ∧ ∀ l, H l = none → Q (.ref l) (upd H l (.tup ys))) ∨ (SqT K H p ys ∧ Q (.ref p) H))) := fun Z A H ds vs Kt Q R r h k => by
  unfold bTuple at h
  split at h
  · rename_i d
    obtain ⟨v, rfl, rv⟩ := r.one
    split at h
    · rename_i l q
      cases d with
      | tup l' =>
        cases (show some l' = some l from q)
        obtain ⟨p, us, e1, e2, e3⟩ := rv_tup rv
        exact ⟨p, us, by rw [e1], .inr ⟨sqT_mono R.sub e2, k Z _ A _ H (Same.refl Z) R (mk_tup e2 e3) h⟩⟩
      | _ =>
        obtain ⟨p, us, e1, e2, e3⟩ := asL_ok R rv q
        refine ⟨p, us, by rw [e1], .inl ⟨e2, fun l hl => ?_⟩⟩
        obtain ⟨s, R'⟩ := R.newF hl (.tup us)
        exact k _ _ A _ _ s R' (mk_tup (SqT.of upd_same) (e3.mono s)) h
    · exact h.elim
  · exact h.elim
end DL

/-! DL4: statements, loops, calls of the text's own defs. -/
namespace DL
open PySem PySem.Spec PyProof.Rows L2
variable {K : PySem.W.Frag} {Z Z' Z0 : Hp} {X : Cx}

/-! ### blocks -/
section
variable {st : Stmt} {rest a b : List Stmt} {t u : DS} {e c : Expr} {te : DE} {tc : DT} {pos : Pos}
def sNext : DS := fun D δ A => D.nx δ A
def sSeq (t u : DS) : DS := fun D δ A => t { D with nx := u D } δ A
def sBreak : DS := fun D δ A => D.bk δ A
def sCont : DS := fun D δ A => D.ct δ A
def sDrop (te : DE) : DS := fun D δ A => te δ A fun _ A1 => D.nx δ A1
def sRet (te : DE) : DS := fun D δ A => te δ A D.rt
def sRetN : DS := fun D _ A => D.rt .non A
def sIf (c : DT) (t u : DS) : DS := fun D δ A => c δ A fun b A1 => (b = true → t D δ A1) ∧ (b = false → u D δ A1)
def sNever : DS := fun _ _ _ => False
theorem lift_next {D : Ends} {σ : L2.St} {H : Hp} (h : liftS K Z0 sNext D σ H) : D.nx σ H := by
  obtain ⟨Z, δ, A, DD, z, rs, ra, t, re⟩ := h
  exact re.nx Z δ A σ H (Same.refl Z) rs ra t
theorem qss_nil : QSs X Z0 [] sNext := PSs.imp pss_nil fun D σ H h => lift_next h
theorem qss_cons (h1 : QS X Z0 st t) (h2 : QSs X Z0 rest u) : QSs X Z0 (st :: rest) (sSeq t u) := PSs.imp (pss_cons h1 h2) fun D σ H ⟨Z, δ, A, DD, z, rs, ra, t, re⟩ =>
  ⟨Z, δ, A, { DD with nx := u DD }, z, rs, ra, t, ⟨fun Z1 δ1 A1 σ1 H1 s1 rs1 ra1 t1 => ⟨Z1, δ1, A1, DD, z.trans s1, rs1, ra1, t1, re.mono s1⟩, re.rt, re.bk, re.ct⟩⟩
theorem qss_one (h1 : QS X Z0 st t) : QSs X Z0 [st] t := PSs.imp (pss_one h1) fun D σ H h => h
theorem qs_pass : QS X Z0 (.Pass pos) sNext := PS.imp ps_pass fun D σ H h => lift_next h
theorem qs_doc {x j pos pos'} : QS X Z0 (.Expr (.Constant (.str x) j pos) pos') sNext := PS.imp ps_doc fun D σ H h => lift_next h
theorem qs_break : QS X Z0 (.Break pos) sBreak := PS.imp ps_break fun D σ H ⟨Z, δ, A, DD, z, rs, ra, t, re⟩ => re.bk Z δ A σ H (Same.refl Z) rs ra t
theorem qs_cont : QS X Z0 (.Continue pos) sCont := PS.imp ps_continue fun D σ H ⟨Z, δ, A, DD, z, rs, ra, t, re⟩ => re.ct Z δ A σ H (Same.refl Z) rs ra t
theorem qs_expr (he : QE X Z0 e te) (hs : swapsWith e none pos.line X.env = pure false := by rfl) : QS X Z0 (.Expr e pos) (sDrop te) := PS.imp (ps_expr he hs) fun D σ H ⟨Z, δ, A, DD, z, rs, ra, t, re⟩ =>
  ⟨Z, δ, A, _, z, rs, ra, t, fun Z1 d A1 v H1 s1 ra1 rv t1 => re.nx Z1 δ A1 σ H1 s1 (rs.mono s1) ra1 t1⟩
theorem qs_ret (he : QE X Z0 e te) : QS X Z0 (.Return (some e) pos) (sRet te) := PS.imp (ps_ret he) fun D σ H ⟨Z, δ, A, DD, z, rs, ra, t, re⟩ =>
  ⟨Z, δ, A, _, z, rs, ra, t, fun Z1 d A1 v H1 s1 ra1 rv t1 => re.rt Z1 d A1 v H1 s1 ra1 rv t1⟩
theorem qs_retN : QS X Z0 (.Return none pos) sRetN := PS.imp ps_retN fun D σ H ⟨Z, δ, A, DD, z, rs, ra, t, re⟩ => re.rt Z .non A .non H (Same.refl Z) ra mk_non t
theorem qs_if (hc : QT X Z0 c tc) (ha : QSs X Z0 a t) (hb : QSs X Z0 b u) : QS X Z0 (.If c a b pos) (sIf tc t u) := PS.imp (ps_if hc ha hb) fun D σ H ⟨Z, δ, A, DD, z, rs, ra, t, re⟩ =>
  ⟨Z, δ, A, _, z, rs, ra, t, fun Z1 k A1 H1 s1 ra1 t1 => by
    cases k with
    | true => exact iteT ⟨Z1, δ, A1, DD, z.trans s1, rs.mono s1, ra1, t1.1 rfl, re.mono s1⟩
    | false => exact iteF ⟨Z1, δ, A1, DD, z.trans s1, rs.mono s1, ra1, t1.2 rfl, re.mono s1⟩⟩
theorem qs_never : QS X Z0 st sNever := PS.imp ps_never fun D σ H ⟨Z, δ, A, DD, z, rs, ra, t, re⟩ => t
theorem qss_never : QSs X Z0 rest sNever := PSs.imp pss_never fun D σ H ⟨Z, δ, A, DD, z, rs, ra, t, re⟩ => t
end

/-! ### targets -/
abbrev DG := D → DSt → AH → (DSt → AH → Prop) → Prop
abbrev DGs := List D → DSt → AH → (DSt → AH → Prop) → Prop
def liftG (K : PySem.W.Frag) (Z0 : Hp) (g : DG) : TG := fun v σ H Q => ∃ Z d δ A Kt, Same Z0 Z ∧ RV K Z d v ∧ RS K Z δ σ ∧ RA K Z A H ∧ g d δ A Kt ∧
  ∀ Z' δ' A' σ' H', Same Z Z' → RS K Z' δ' σ' → RA K Z' A' H' → Kt δ' A' → Q σ' H'
def liftGs (K : PySem.W.Frag) (Z0 : Hp) (g : DGs) : TGs := fun vs σ H Q => ∃ Z ds δ A Kt, Same Z0 Z ∧ RVs K Z ds vs ∧ RS K Z δ σ ∧ RA K Z A H ∧ g ds δ A Kt ∧
  ∀ Z' δ' A' σ' H', Same Z Z' → RS K Z' δ' σ' → RA K Z' A' H' → Kt δ' A' → Q σ' H'
abbrev QG (X : Cx) (Z0 : Hp) (e : Expr) (g : DG) : Prop := PG X e (liftG X.K Z0 g)
abbrev QGs (X : Cx) (Z0 : Hp) (e : List Expr) (g : DGs) : Prop := PGs X e (liftGs X.K Z0 g)
theorem PG.imp {e : Expr} {t u : TG} (h : PG X e t) (i : ∀ v σ H Q, u v σ H Q → t v σ H Q) : PG X e u := ⟨fun pins s σ H v w Q I r q => h.run pins s σ H v w Q I r (i v σ H Q q)⟩
theorem PG.or {e : Expr} {t u : TG} (h : PG X e t) (h' : PG X e u) : PG X e (fun v σ H Q => t v σ H Q ∨ u v σ H Q) := ⟨fun pins s σ H v w Q I r q => q.elim (h.run pins s σ H v w Q I r) (h'.run pins s σ H v w Q I r)⟩
theorem PGs.imp {e : List Expr} {t u : TGs} (h : PGs X e t) (i : ∀ v σ H Q, u v σ H Q → t v σ H Q) : PGs X e u := ⟨fun pins s σ H v w Q I r q => h.run pins s σ H v w Q I r (i v σ H Q q)⟩
def dgName (i : Nat) : DG := fun d δ A Q => Q (δ.set i (some d)) A
def dgNil : DGs := fun ds δ A Q => match ds with
  | [] => Q δ A
  | _ => False
def dgCons (g : DG) (gs : DGs) : DGs := fun ds δ A Q => match ds with
  | d :: r => g d δ A fun δ1 A1 => gs r δ1 A1 Q
  | [] => False
def dgTup (n : Nat) (gs : DGs) : DG := fun d δ A Q => match asS A d with
  | some l => l.length = n ∧ gs l δ A Q
  | none => False
section
variable {e : Expr} {es : List Expr} {g : DG} {gs : DGs} {pos : Pos} {k : Nat}
theorem qg_name {i : Nat} {x : Str} (hN : X.N.Nodup) (hi : X.N[i]? = some x) (hx : Loc X.env.scope x) (hf : X.fn x = true ∨ X.env.scope.names.lookup x = some .local := by first | exact .inl rfl | exact .inr rfl | assumption) : QG X Z0 (.Name x pos) (dgName i) :=
  PG.imp (pg_name hN hi hx hf) fun v σ H Q ⟨Z, d, δ, A, Kt, z, rv, rs, ra, t, k⟩ => k Z _ A _ H (Same.refl Z) (rs.set i (a := some d) (b := some v) rv) ra t
theorem qgs_nil : QGs X Z0 [] dgNil := PGs.imp pgs_nil fun vs σ H Q ⟨Z, ds, δ, A, Kt, z, rv, rs, ra, t, k⟩ => by
  unfold dgNil at t
  split at t
  · exact ⟨rv.inv0, k Z δ A σ H (Same.refl Z) rs ra t⟩
  · exact t.elim
theorem qgs_cons (h1 : QG X Z0 e g) (h2 : QGs X Z0 es gs) (hs : (assignEach (e :: es) X.env).map (·.2) = assign e X.env :: (assignEach es X.env).map (·.2) := by rfl) : QGs X Z0 (e :: es) (dgCons g gs) :=
  PGs.imp (pgs_cons h1 h2 hs) fun vs σ H Q ⟨Z, ds, δ, A, Kt, z, rv, rs, ra, t, k⟩ => by
  unfold dgCons at t
  split at t
  · obtain ⟨v, r, e1, r1, r2⟩ := rv.inv
    exact ⟨v, r, e1, Z, _, δ, A, _, z, r1, rs, ra, t, fun Z1 δ1 A1 σ1 H1 s1 rs1 ra1 t1 => ⟨Z1, _, δ1, A1, Kt, z.trans s1, r2.mono s1, rs1, ra1, t1, fun Z2 δ2 A2 σ2 H2 s2 => k Z2 δ2 A2 σ2 H2 (s1.trans s2)⟩⟩
  · exact t.elim
theorem qg_tup {n : Nat} (hc : X.calm = true) (h : QGs X Z0 es gs) (hn : (assignEach es X.env).length = n := by rfl) (hst : (assignEach es X.env).findIdx? (·.1) = none := by rfl) : QG X Z0 (.Tuple es k pos) (dgTup n gs) :=
  PG.imp (PG.or (pg_tup hc h hn hst) (pg_lst hc h hn hst)) fun v σ H Q ⟨Z, d, δ, A, Kt, z, rv, rs, ra, t, k⟩ => by
  unfold dgTup at t
  split at t
  · rename_i l q
    obtain ⟨p, vs, e1, e2, e3⟩ := asS_ok ra rv q
    have hl : vs.length = n := by rw [e3.len]; exact t.1
    have fin : liftGs X.K Z0 gs vs σ H Q := ⟨Z, l, δ, A, Kt, z, e3, rs, ra, t.2, k⟩
    rcases e2 with e2 | e2
    · exact .inr ⟨p, vs, e1, e2, hl, fin⟩
    · exact .inl ⟨p, vs, e1, e2, hl, fin⟩
  · exact t.elim
end

/-! ### stores -/
section
variable {e tg o : Expr} {te to : DE} {g : DG} {pos pos' : Pos}
def sAsg (te : DE) (g : DG) : DS := fun D δ A => te δ A fun d A1 => g d δ A1 D.nx
theorem lift_asg {D : Ends} {σ : L2.St} {H : Hp} (h : liftS K Z0 (sAsg te g) D σ H) : tAsg (liftE K Z0 te) (liftG K Z0 g) D σ H := by
  obtain ⟨Z, δ, A, DD, z, rs, ra, t, re⟩ := h
  exact ⟨Z, δ, A, _, z, rs, ra, t, fun Z1 d A1 v H1 s1 ra1 rv t1 => ⟨Z1, d, δ, A1, DD.nx, z.trans s1, rv, rs.mono s1, ra1, t1, fun Z2 δ2 A2 σ2 H2 s2 => re.nx Z2 δ2 A2 σ2 H2 (s1.trans s2)⟩⟩
theorem qs_asg (he : QE X Z0 e te) (hg : QG X Z0 tg g) (hs : swapsWithSole [tg] e pos.line X.env = pure false := by rfl) (hw : swappedStores [tg] e X.env = pure none := by rfl) (h1 : (assignEach [tg] X.env).map (·.2) = [assign tg X.env] := by rfl) :
    QS X Z0 (.Assign [tg] e pos) (sAsg te g) := PS.imp (ps_asg he hg hs hw h1) fun D σ H h => lift_asg h
theorem qs_set {i : Nat} {x : Str} (hN : X.N.Nodup) (hi : X.N[i]? = some x) (hx : Loc X.env.scope x) (he : QE X Z0 e te) (hs : swapsWith e (some (.Name x pos')) pos.line X.env = pure false := by rfl)
    (hf : X.fn x = true ∨ X.env.scope.names.lookup x = some .local := by first | exact .inl rfl | exact .inr rfl | assumption) : QS X Z0 (.Assign [.Name x pos'] e pos) (sAsg te (dgName i)) :=
  PS.imp (ps_set hN hi hx he hs hf) fun D σ H ⟨Z, δ, A, DD, z, rs, ra, t, re⟩ =>
    ⟨Z, δ, A, _, z, rs, ra, t, fun Z1 d A1 v H1 s1 ra1 rv t1 => re.nx Z1 _ A1 _ H1 s1 ((rs.mono s1).set i (a := some d) (b := some v) rv) ra1 t1⟩
/-- a, b = x, y -/
def sPar (i j : Nat) (ta : DA) : DS := fun D δ A => ta δ A fun ds A1 => match ds with
  | [d, e] => D.nx ((δ.set i (some d)).set j (some e)) A1
  | _ => False
theorem qs_par {i j : Nat} {x y : Str} {a b : Expr} {ta : DA} {px py pt : Pos} {kt k2 pt2} (hc : X.calm = true) (hN : X.N.Nodup) (hi : X.N[i]? = some x) (hj : X.N[j]? = some y) (hij : i ≠ j)
    (hx : X.env.scope.names.lookup x = some .local) (hy : X.env.scope.names.lookup y = some .local) (ha : QA X Z0 [a, b] ta)
    (hw : swappedStores [.Tuple [.Name x px, .Name y py] kt pt] (.Tuple [a, b] k2 pt2) X.env = pure (some [x, y]))
    (hs : swapsWithSole [.Tuple [.Name x px, .Name y py] kt pt] (.Tuple [a, b] k2 pt2) pos.line X.env = pure false := by rfl) :
    QS X Z0 (.Assign [.Tuple [.Name x px, .Name y py] kt pt] (.Tuple [a, b] k2 pt2) pos) (sPar i j ta) := PS.imp (ps_par hc hN hi hj hij hx hy ha hw hs) fun D σ H ⟨Z, δ, A, DD, z, rs, ra, t, re⟩ =>
  ⟨Z, δ, A, _, z, rs, ra, t, fun Z1 ds A1 vs H1 s1 ra1 rv t1 => by
    split at t1
    · obtain ⟨v, u, rfl, r1, r2⟩ := rv.two
      exact ⟨v, u, rfl, re.nx Z1 _ A1 _ H1 s1 (((rs.mono s1).set i (a := some _) (b := some v) r1).set j (a := some _) (b := some u) r2) ra1 t1⟩
    · exact t1.elim⟩
end

/-! ### while -/
def whileN (c : DT) (body : DS) (D : DEnds) : Nat → DSt → AH → Prop
  | 0, _, _ => False
  | n + 1, δ, A => c δ A fun b A1 => (b = true → body { D with nx := whileN c body D n, ct := whileN c body D n, bk := D.nx } δ A1) ∧ (b = false → D.nx δ A1)
def sWhile (c : DT) (body : DS) : DS := fun D δ A => ∃ n, whileN c body D n δ A
theorem qs_while {c : Expr} {body : List Stmt} {tc : DT} {tb : DS} {pos : Pos} (hp : PassesOwn (model X.prog X.w) X.A X.env X.xe) (hc : QT X Z0 c tc) (hb : QSs X Z0 body tb) : QS X Z0 (.While c body [] pos) (sWhile tc tb) :=
  PS.imp (ps_while hp hc hb) fun D σ H ⟨Z, δ, A, DD, z, rs, ra, ⟨n, t⟩, re⟩ => by
  refine ⟨fun m σ H => ∃ Z1 δ A, Same Z Z1 ∧ RS X.K Z1 δ σ ∧ RA X.K Z1 A H ∧ whileN tc tb DD m δ A, ⟨n, Z, δ, A, Same.refl Z, rs, ra, t⟩, fun m σ H ⟨Z1, δ, A, s1, rs, ra, t⟩ => ?_⟩
  cases m with
  | zero => exact t.elim
  | succ m =>
    refine ⟨Z1, δ, A, _, z.trans s1, rs, ra, t, fun Z2 b A2 H2 s2 ra2 t2 => ?_⟩
    cases b with
    | true =>
      refine iteT ⟨fun σ' H' => ∃ Z3 δ A, Same Z Z3 ∧ RS X.K Z3 δ σ' ∧ RA X.K Z3 A H' ∧ whileN tc tb DD m δ A, fun σ' H' q => ⟨m, Nat.lt_succ_self m, q⟩, ?_⟩
      have re2 := re.mono (s1.trans s2)
      have nx : ∀ Z' δ A σ H, Same Z2 Z' → RS X.K Z' δ σ → RA X.K Z' A H → whileN tc tb DD m δ A → ∃ Z3 δ A, Same Z Z3 ∧ RS X.K Z3 δ σ ∧ RA X.K Z3 A H ∧ whileN tc tb DD m δ A :=
        fun Z3 δ3 A3 σ3 H3 s3 rs3 ra3 t3 => ⟨Z3, δ3, A3, (s1.trans s2).trans s3, rs3, ra3, t3⟩
      exact ⟨Z2, δ, A2, _, (z.trans s1).trans s2, rs.mono s2, ra2, t2.1 rfl, ⟨nx, re2.rt, re2.nx, nx⟩⟩
    | false => exact iteF (re.nx Z2 δ A2 σ H2 (s1.trans s2) (rs.mono s2) ra2 (t2.2 rfl))

/-! ### what a for walks -/
/-- the items, and what must hold of the objects at each turn -/
abbrev DI := DSt → AH → (List D → (AH → Prop) → AH → Prop) → Prop
structure WalkD (K : PySem.W.Frag) (Z : Hp) (J : It) (l : List D) (g : AH → Prop) : Prop where
  ex : ∃ (G : Hp → Prop) (Y : Nat → Hp → V → Hp → Prop), Walk J l.length G Y ∧ (∀ Z' A H, Same Z Z' → RA K Z' A H → g A → G H) ∧
    ∀ i Z' A H x H', i < l.length → Same Z Z' → RA K Z' A H → g A → Y i H x H' → ∃ Z2 d, Same Z' Z2 ∧ RA K Z2 A H' ∧ l[i]? = some d ∧ RV K Z2 d x
def liftI (K : PySem.W.Frag) (Z0 : Hp) (it : DI) : TI := fun σ H R => ∃ Z δ A Kt, Same Z0 Z ∧ RS K Z δ σ ∧ RA K Z A H ∧ it δ A Kt ∧
  ∀ Z' l g A' J H', Same Z Z' → RA K Z' A' H' → WalkD K Z' J l g → Kt l g A' → R J H'
abbrev QI (X : Cx) (Z0 : Hp) (tg e : Expr) (it : DI) : Prop := PI X tg e (liftI X.K Z0 it)
theorem PI.imp {tg e : Expr} {t u : TI} (h : PI X tg e t) (i : ∀ σ H R, u σ H R → t σ H R) : PI X tg e u := ⟨fun pins s σ H R I q => h.run pins s σ H R I (i σ H R q)⟩
theorem PI.or {tg e : Expr} {t u : TI} (h : PI X tg e t) (h' : PI X tg e u) : PI X tg e (fun σ H R => t σ H R ∨ u σ H R) := ⟨fun pins s σ H R I q => q.elim (h.run pins s σ H R I) (h'.run pins s σ H R I)⟩
def forD (g : AH → Prop) (tg : DG) (body : DS) (DD : DEnds) : List D → DSt → AH → Prop
  | [], δ, A => g A ∧ DD.nx δ A
  | x :: l, δ, A => g A ∧ tg x δ A fun δ1 A1 => body { DD with nx := forD g tg body DD l, ct := forD g tg body DD l, bk := DD.nx } δ1 A1
def sFor (it : DI) (tg : DG) (body : DS) : DS := fun D δ A => it δ A fun l g A1 => forD g tg body D l δ A1
theorem qs_for {tg iter : Expr} {body : List Stmt} {it : DI} {g : DG} {tb : DS} {pos : Pos} (hp : PassesOwn (model X.prog X.w) X.A X.env X.xe) (hc : X.calm = true) (hi : QI X Z0 tg iter it) (hg : QG X Z0 tg g) (hb : QSs X Z0 body tb)
    (hs : ∀ x, foldedSetIterable iter X.env x = pure x := by intro _; rfl) : QS X Z0 (.For tg iter body [] pos) (sFor it g tb) :=
  PS.imp (ps_for hp hc hi hg hb hs) fun D σ H ⟨Z, δ, A, DD, z, rs, ra, t, re⟩ => by
  refine ⟨Z, δ, A, _, z, rs, ra, t, fun Z1 l gd A1 J H1 s1 ra1 w t1 => ?_⟩
  obtain ⟨G, Y, wk, hG, hY⟩ := w.ex
  refine ⟨fun i m σ H => m = l.length - i ∧ i ≤ l.length ∧ ∃ Z2 δ2 A2, Same Z1 Z2 ∧ RS X.K Z2 δ2 σ ∧ RA X.K Z2 A2 H ∧ forD gd g tb DD (l.drop i) δ2 A2,
    ⟨l.length, by omega, Nat.zero_le _, Z1, δ, A1, Same.refl Z1, rs.mono s1, ra1, t1⟩, fun i m σ H ⟨em, hi, Z2, δ2, A2, s2, rs2, ra2, t2⟩ => ?_⟩
  by_cases hlt : i < l.length
  · have ed : l.drop i = l[i] :: l.drop (i + 1) := List.drop_eq_getElem_cons hlt
    rw [ed] at t2
    obtain ⟨tg2, t2⟩ := t2
    have nx : ∀ (σ' : L2.St) (H' : Hp), (∃ Z2 δ2 A2, Same Z1 Z2 ∧ RS X.K Z2 δ2 σ' ∧ RA X.K Z2 A2 H' ∧ forD gd g tb DD (l.drop (i + 1)) δ2 A2) → ∃ m', m' < m ∧ m' = l.length - (i + 1) ∧ i + 1 ≤ l.length ∧ ∃ Z2 δ2 A2, Same Z1 Z2 ∧ RS X.K Z2 δ2 σ' ∧ RA X.K Z2 A2 H' ∧ forD gd g tb DD (l.drop (i + 1)) δ2 A2 :=
      fun σ' H' q => ⟨l.length - (i + 1), by omega, rfl, hlt, q⟩
    refine .inr ⟨wk.goes i H hlt (hG Z2 A2 H s2 ra2 tg2), _, nx, fun x H' hy => ?_⟩
    obtain ⟨Z3, d, s3, ra3, hd, rv⟩ := hY i Z2 A2 H x H' hlt s2 ra2 tg2 (wk.yields i H x H' hlt (hG Z2 A2 H s2 ra2 tg2) hy)
    have ed2 : l[i] = d := by rw [List.getElem?_eq_getElem hlt] at hd; exact Option.some.inj hd
    rw [ed2] at t2
    refine ⟨Z3, d, δ2, A2, _, ((z.trans s1).trans s2).trans s3, rv, rs2.mono s3, ra3, t2, fun Z4 δ4 A4 σ4 H4 s4 rs4 ra4 t4 => ?_⟩
    have s14 : Same Z1 Z4 := (s2.trans s3).trans s4
    have re4 := re.mono (s1.trans s14)
    have again : ∀ Z' δ A σ H, Same Z4 Z' → RS X.K Z' δ σ → RA X.K Z' A H → forD gd g tb DD (l.drop (i + 1)) δ A → ∃ Z2 δ2 A2, Same Z1 Z2 ∧ RS X.K Z2 δ2 σ ∧ RA X.K Z2 A2 H ∧ forD gd g tb DD (l.drop (i + 1)) δ2 A2 :=
      fun Z5 δ5 A5 σ5 H5 s5 rs5 ra5 t5 => ⟨Z5, δ5, A5, s14.trans s5, rs5, ra5, t5⟩
    exact ⟨Z4, δ4, A4, _, (z.trans s1).trans s14, rs4, ra4, t4, ⟨again, re4.rt, re4.nx, again⟩⟩
  · have ei : i = l.length := by omega
    subst ei
    rw [List.drop_length] at t2
    exact .inl ⟨wk.stops H (hG Z2 A2 H s2 ra2 t2.1), re.nx Z2 δ2 A2 σ H (s1.trans s2) rs2 ra2 t2.2⟩
/-- over a list, a tuple -/
def iSeq (t : DE) : DI := fun δ A R => t δ A fun d A1 => match d with
  | .tup l => R l (fun _ => True) A1
  | .lst l => R l (fun _ => True) A1
  | .rol l => R l (fun _ => True) A1
  | .ref a => (match A1 a with
    | some (.lst l) => R l (fun A' => A' a = some (.lst l)) A1
    | _ => False)
  | _ => False
def iSeqH (K : PySem.W.Frag) (tl : TE) : TI := fun σ H R => tl σ H fun x H1 => ∃ a, x = .ref a ∧ ((∃ xs, SqL K H1 a xs ∧ R (Itl K a) H1) ∨ ∃ xs, SqT K H1 a xs ∧ R (Itt K a) H1)
theorem pi_seqH {tg l : Expr} {tl : TE} (hl : PE X l tl) : PI X tg l (iSeqH X.K tl) := by
  refine ⟨fun pins s σ H R I h => ?_⟩
  refine thn (hl.run pins s σ H _ I h) fun v s1 ⟨x, H1, I1, r1, q1⟩ => ?_
  obtain ⟨a, e, q⟩ := q1
  subst e
  cases r1
  have fp : ∀ b ∈ [s1.heap.objs.size], FpOk X pins H1 b := fun b hb => by
    have e : b = s1.heap.objs.size := by simpa using hb
    subst e
    exact I1.fpOk (Nat.le_refl _) (I1.hok.fresh (Nat.le_refl _))
  rcases q with ⟨xs, hq, q⟩ | ⟨xs, hq, q⟩
  · obtain ⟨its, rv, p, hz⟩ := I1.list hq
    refine wpAny_pyIter_list p.isList ?_
    exact ⟨s1.heap.objs.size, [s1.heap.objs.size], _, _, H1, rfl, I1.kept (t' := s1.toks) fun b o e => Heap.get?_push_of_some _ e, turn_list a _, ⟨_, Heap.get?_push_size _ rfl, rfl, rfl⟩, fp, q⟩
  · obtain ⟨its, rv, p, hz⟩ := I1.tuple hq
    refine wpAny_pyIter_tuple (show s1.heap.IsTuple a its.toArray from p) ?_
    exact ⟨s1.heap.objs.size, [s1.heap.objs.size], _, _, H1, rfl, I1.kept (t' := s1.toks) fun b o e => Heap.get?_push_of_some _ e, turn_tuple a _, ⟨_, Heap.get?_push_size _ rfl, rfl, rfl⟩, fp, q⟩
theorem walkD_list {a : Addr} {l : List D} {vs : List V} {g : AH → Prop} (r : RVs K Z l vs) (hG : ∀ Z' A H, Same Z Z' → RA K Z' A H → g A → SqL K H a vs) : WalkD K Z (Itl K a) l g :=
  ⟨_, _, r.len ▸ walk_list (a := a) (xs := vs), hG, fun i Z' A H x H' hi s ra _ hy => by
    obtain ⟨rfl, hx⟩ := hy
    obtain ⟨d, h1, h2⟩ := r.get hx
    exact ⟨Z', d, Same.refl _, ra, h1, h2.mono s⟩⟩
theorem walkD_tup {a : Addr} {l : List D} {vs : List V} {g : AH → Prop} (r : RVs K Z l vs) (h : SqT K Z a vs) : WalkD K Z (Itt K a) l g :=
  ⟨_, _, r.len ▸ walk_tup (a := a) (xs := vs), fun Z' A H s ra _ => sqT_mono (s.trans ra.sub) h, fun i Z' A H x H' hi s ra _ hy => by
    obtain ⟨rfl, hx⟩ := hy
    obtain ⟨d, h1, h2⟩ := r.get hx
    exact ⟨Z', d, Same.refl _, ra, h1, h2.mono s⟩⟩
theorem walkD_mut {a : Addr} {l : List D} : WalkD K Z (Itl K a) l (fun A' => A' a = some (.lst l)) :=
  ⟨fun H => ∃ vs, SqL K H a vs ∧ vs.length = l.length, fun i H x H' => H' = H ∧ ∀ xs, SqL K H a xs → xs[i]? = some x,
    ⟨fun i H hi ⟨vs, q, e⟩ => ⟨vs, vs[i]'(by omega), q, by simp [e, hi]⟩, fun H ⟨vs, q, e⟩ => ⟨vs, q, by omega⟩, fun i H x H' hi _ y => y⟩,
    fun Z' A H s ra g => by
      obtain ⟨vs, e2, e3⟩ := (ra.at_ a _ g).2
      exact ⟨vs, SqL.of e2, e3.len⟩,
    fun i Z' A H x H' hi s ra g ⟨eH, hy⟩ => by
      subst eH
      obtain ⟨vs, e2, e3⟩ := (ra.at_ a _ g).2
      obtain ⟨d, h1, h2⟩ := e3.get (hy vs (SqL.of e2))
      exact ⟨Z', d, Same.refl _, ra, h1, h2⟩⟩
theorem qi_seq {tg e : Expr} {t : DE} (h : QE X Z0 e t) : QI X Z0 tg e (iSeq t) := PI.imp (pi_seqH h) fun σ H R ⟨Z, δ, A, Kt, z, rs, ra, t, k⟩ =>
  ⟨Z, δ, A, _, z, rs, ra, t, fun Z1 d A1 v H1 s1 ra1 rv t1 => by
    cases d with
    | tup l =>
      obtain ⟨p, vs, e1, e2, e3⟩ := rv_tup rv
      exact ⟨p, e1, .inr ⟨vs, sqT_mono ra1.sub e2, k Z1 l _ A1 _ H1 s1 ra1 (walkD_tup e3 e2) t1⟩⟩
    | lst l =>
      obtain ⟨p, vs, e1, e2, e3⟩ := rv_lst rv
      exact ⟨p, e1, .inl ⟨vs, SqL.of (ra1.sub _ _ e2), k Z1 l _ A1 _ H1 s1 ra1 (walkD_list e3 fun Z' A H s ra _ => SqL.of (ra.sub _ _ (s _ _ e2))) t1⟩⟩
    | rol l =>
      obtain ⟨p, vs, e1, e2, e3⟩ := rv_rol rv
      exact ⟨p, e1, .inl ⟨vs, sqL_mono ra1.sub e2, k Z1 l _ A1 _ H1 s1 ra1 (walkD_list e3 fun Z' A H s ra _ => sqL_mono (s.trans ra.sub) e2) t1⟩⟩
    | ref a =>
      have t1' : (match A1 a with | some (.lst l) => Kt l (fun A' => A' a = some (.lst l)) A1 | _ => False) := t1
      split at t1'
      · rename_i l q
        obtain ⟨vs, e2, e3⟩ := (ra1.at_ a _ q).2
        exact ⟨a, rv_ref rv, .inl ⟨vs, SqL.of e2, k Z1 l _ A1 _ H1 s1 ra1 walkD_mut t1'⟩⟩
      · exact t1'.elim
    | _ => exact t1.elim⟩

/-! ### ranges, texts -/
def rngD (lo : Int) (n : Nat) : List D := (List.range n).map fun i => .int (lo + (i : Nat))
theorem walkD_range {lo : Int} {n : Nat} : WalkD K Z (Itr lo n) (rngD lo n) (fun _ => True) :=
  ⟨fun _ => True, YFn fun i => .int (lo + i), by have := walk_range (lo := lo) (n := n); unfold rngD; rw [List.length_map, List.length_range]; exact this, fun _ _ _ _ _ _ => trivial, fun i Z' A H x H' hi s ra _ ⟨e1, e2⟩ => by
    subst e1 e2
    unfold rngD at hi ⊢
    rw [List.length_map, List.length_range] at hi
    exact ⟨Z', .int (lo + (i : Nat)), Same.refl _, ra, by simp [hi], mk_int⟩⟩
abbrev Small (i : Int) : Prop := i.natAbs < 2 ^ 62
def iRng1 (t : DA) : DI := fun δ A R => t δ A fun ds A1 => match ds with
  | [.int n] => Small n ∧ R (rngD 0 n.toNat) (fun _ => True) A1
  | _ => False
def iRng2 (t : DA) : DI := fun δ A R => t δ A fun ds A1 => match ds with
  | [.int i, .int j] => (Small i ∧ Small j) ∧ R (rngD i (j - i).toNat) (fun _ => True) A1
  | _ => False
theorem qi_range1 {tg a : Expr} {t : DA} {p pos : Pos} (hg : Gl X "range") (hm : X.mg "range" = none) (ha : QA X Z0 [a] t) (hs : starEach [a] X.env = [(false, eval a X.env)] := by rfl) : QI X Z0 tg (.Call (.Name "range" p) [a] [] pos) (iRng1 t) :=
  PI.imp (pi_range1 hg hm ha hs) fun σ H R ⟨Z, δ, A, Kt, z, rs, ra, t, k⟩ => ⟨Z, δ, A, _, z, rs, ra, t, fun Z1 ds A1 vs H1 s1 ra1 rv t1 => by
    split at t1
    · obtain ⟨v, rfl, r1⟩ := rv.one
      exact ⟨_, by rw [rv_int r1], by have := t1.1; unfold Small at this; omega, by have := t1.1; unfold Small at this; omega, k Z1 _ _ A1 _ H1 s1 ra1 walkD_range t1.2⟩
    · exact t1.elim⟩
theorem qi_range2 {tg a b : Expr} {t : DA} {p pos : Pos} (hg : Gl X "range") (hm : X.mg "range" = none) (ha : QA X Z0 [a, b] t) (hs : starEach [a, b] X.env = [(false, eval a X.env), (false, eval b X.env)] := by rfl) (hs2 : starEach [b] X.env = [(false, eval b X.env)] := by rfl) :
    QI X Z0 tg (.Call (.Name "range" p) [a, b] [] pos) (iRng2 t) :=
  PI.imp (pi_range2 hg hm ha hs hs2) fun σ H R ⟨Z, δ, A, Kt, z, rs, ra, t, k⟩ => ⟨Z, δ, A, _, z, rs, ra, t, fun Z1 ds A1 vs H1 s1 ra1 rv t1 => by
    split at t1
    · obtain ⟨v, u, rfl, r1, r2⟩ := rv.two
      obtain ⟨⟨h1, h2⟩, t1⟩ := t1
      unfold Small at h1 h2
      exact ⟨_, _, by rw [rv_int r1, rv_int r2], ⟨by omega, by omega, by omega, by omega⟩, k Z1 _ _ A1 _ H1 s1 ra1 walkD_range t1⟩
    · exact t1.elim⟩
/-- a text's signs -/
def signsD (z : Str) : List D := z.cps.toList.map fun c => .str ⟨#[c]⟩
def iText (t : DE) : DI := fun δ A R => t δ A fun d A1 => match d with
  | .str z => R (signsD z) (fun _ => True) A1
  | _ => False
theorem walkD_str {z : Str} : WalkD K Z (Its z) (signsD z) (fun _ => True) :=
  ⟨fun _ => True, fun i H v H' => H' = H ∧ ∃ c, z.cps[i]? = some c ∧ v = .str ⟨#[c]⟩, by have := walk_str (z := z); unfold signsD; rw [List.length_map, Array.length_toList]; exact this, fun _ _ _ _ _ _ => trivial, fun i Z' A H x H' hi s ra _ ⟨e1, c, e2, e3⟩ => by
    subst e1 e3
    refine ⟨Z', .str ⟨#[c]⟩, Same.refl _, ra, ?_, mk_str⟩
    unfold signsD
    rw [List.getElem?_map, Array.getElem?_toList, e2]; rfl⟩
theorem qi_str {tg e : Expr} {t : DE} (h : QE X Z0 e t) : QI X Z0 tg e (iText t) := PI.imp (pi_str h) fun σ H R ⟨Z, δ, A, Kt, z, rs, ra, t, k⟩ =>
  ⟨Z, δ, A, _, z, rs, ra, t, fun Z1 d A1 v H1 s1 ra1 rv t1 => by
    cases d with
    | str z => exact ⟨z, rv_str rv, k Z1 _ _ A1 _ H1 s1 ra1 walkD_str t1⟩
    | _ => exact t1.elim⟩

/-! ### raise, the text's own defs -/
section
variable {w : DW}
def sRaise (w : DW) (c : String) : DS := fun _ δ A => w c [] δ A
theorem qs_raise {c : String} {e : Expr} {pos : Pos} (hc : X.calm = true) (tk : Takes X (liftW X.K Z0 w)) (he : PMk X e (fun _ H Q => Q (.ref (He.ga X.K (Str.ofString c))) none H)) : QS X Z0 (.Raise (some e) none pos) (sRaise w c) :=
  PS.imp (ps_raise hc tk he) fun D σ H ⟨Z, δ, A, DD, z, rs, ra, t, re⟩ => ⟨Z, δ, A, c, [], z, rs, ra, ⟨rfl, .inl ⟨rfl, rfl⟩⟩, t⟩
/-- f(..), by the promise of f; what f raises is wished for as w says -/
def eCall (w : DW) (sp : DSp) (dvs : List D) (t : DA) : DE := fun δ A Q => t δ A fun ds A1 => sp (ds ++ dvs) A1 Q fun c fs A2 => w c fs δ A2
theorem lift_call {sp : DSp} {dvs : List D} {ws : List V} {t : DA} {σ : L2.St} {H : Hp} {Q : VK} (hd : ∀ Z, RVs K Z dvs ws) (h : liftE K Z0 (eCall w sp dvs t) σ H Q) : tCallSD (liftSp K sp) ws (WE (liftW K Z0 w)) (liftA K Z0 t) σ H Q := by
  obtain ⟨Z, δ, A, Kt, z, rs, ra, t, k⟩ := h
  exact ⟨Z, δ, A, _, z, rs, ra, t, fun Z1 ds A1 vs H1 s1 ra1 rv t1 => ⟨Z1, ds ++ dvs, A1, Kt, _, rv.append (hd Z1), ra1, t1, Kont.mono k s1, fun Z2 c fs A2 cv dd H2 s2 ra2 rx q => ⟨Z2, δ, A2, c, fs, (z.trans s1).trans s2, (rs.mono s1).mono s2, ra2, rx, q⟩⟩⟩
/-- a def of the text, by its promise -/
structure DFn (P : Program) (w : World) (K : PySem.W.Frag) (mg : Str → Option Value) (base : Heap) (k : Nat) (x : Str) (sp : DSp) (dvs : List D) : Prop where
  ex : ∃ (f : Addr) (fd : FuncData) (ps : List Str) (ds : List Value) (ws : List V), FnOk P w K mg base (CX P w) k f fd ps (liftSp K sp) ∧ mg x = some (.ref f) ∧ PySem.W.keepIn K (.ref f) = true ∧ Binds K fd ps ds ∧ Vals ws ds ∧ ∀ Z, RVs K Z dvs ws
variable {x : Str} {k j : Nat} {sp : DSp} {dvs : List D} {e : Expr} {es : List Expr} {t : DA} {p pos : Pos}
theorem qe_call (F : DFn X.prog X.w X.K X.mg X.base k x sp dvs) (hr : Room j X.A) (hk : k ≤ j) (hg : Gl X x) (tk : Takes X (liftW X.K Z0 w)) (ha : QA X Z0 (e :: es) t) (hdb : (x == ("__debug__" : Str)) = false := by decide)
    (he : starEach (e :: es) X.env = (false, eval e X.env) :: starEach es X.env := by rfl) (hpl : (backTo pos (starEach es X.env)).any (·.1) = false := by rfl) : QE X Z0 (.Call (.Name x p) (e :: es) [] pos) (eCall w sp dvs t) := by
  obtain ⟨f, fd, ps, ds, ws, F, hm, kp, b, d, hd⟩ := F.ex
  exact PE.imp (pe_callSD F (hr.mono hk) hg hm kp b d (fun σ => passAt tk σ) ha hdb he hpl) fun σ H Q h => lift_call hd h
theorem qe_call0 (F : DFn X.prog X.w X.K X.mg X.base k x sp dvs) (hr : Room j X.A) (hk : k ≤ j) (hg : Gl X x) (tk : Takes X (liftW X.K Z0 w)) (hdb : (x == ("__debug__" : Str)) = false := by decide) : QE X Z0 (.Call (.Name x p) [] [] pos) (eCall w sp dvs aNil) := by
  obtain ⟨f, fd, ps, ds, ws, F, hm, kp, b, d, hd⟩ := F.ex
  have h0 : PE X (.Call (.Name x p) [] [] pos) (tCallSD (liftSp X.K sp) ws (WE (liftW X.K Z0 w)) tNil) := ⟨fun pins s σ H Q I h => by
    refine wpAny_Call_Name_kw (ld_glob I hg hm ?_ hdb)
    exact PySem.W.callWith_K0 I.kIn kp (run_fnSD (us := []) F (hr.mono hk) b d (passAt tk σ) I .nil h)⟩
  refine PE.imp h0 fun σ H Q h => ?_
  obtain ⟨Z, δ, A, Kt, z, rs, ra, t, k⟩ := h
  exact ⟨Z, dvs, A, Kt, _, hd Z, ra, t, k, fun Z2 c fs A2 cv dd H2 s2 ra2 rx q => ⟨Z2, δ, A2, c, fs, z.trans s2, rs.mono s2, ra2, rx, q⟩⟩
end
/-- a def keeps its promise -/
@[simp] def startD (n : Nat) (ds : List D) : DSt := ds.map some ++ List.replicate (n - ds.length) none
theorem start_rs : ∀ {ds : List D} {vs : List V} (m : Nat), RVs K Z ds vs → RS K Z (ds.map some ++ List.replicate m none) (vs.map some ++ List.replicate m none)
  | [], vs, m, r => by
    rw [r.inv0]
    simp only [List.map_nil, List.nil_append]
    induction m with
    | zero => exact .nil
    | succ m ih => rw [List.replicate_succ, List.replicate_succ]; exact .cons trivial ih
  | d :: ds, vs, m, r => by
    obtain ⟨v, u, rfl, r1, r2⟩ := r.inv
    exact .cons (a := some d) (b := some v) r1 (start_rs m r2)
theorem fn_ok {P : Program} {w : World} {mg : Str → Option Value} {base : Heap} {x qual : Str} {params : Arguments} {body : List Stmt} {scope : Scope} {dvs : List V} {kws : List (Str × V)} {f : Addr} {fd : FuncData} {N ps : List Str} {k : Nat} {sp : DSp} {t : DW → DS}
    (F : FunD K x qual params body scope dvs kws f fd) (S : FnScope N ps scope) (len : ∀ ds A Q E, sp ds A Q E → ds.length = ps.length)
    (hder : ∀ (cdv : Value) (A : Around) (outer : List Env) (s : Shared) (H : Hp) (E : XK) (Z0 : Hp) (wd : DW), Room k (A.deeper (envOfC qual scope s.heap.objs.size f cdv)) → Takes (cxOf (CX P w) P w K mg base N qual scope f cdv A outer s H E) (liftW K Z0 wd) → QSs (cxOf (CX P w) P w K mg base N qual scope f cdv A outer s H E) Z0 body (t wd))
    (hrd : ∀ ds A Q E, sp ds A Q E → t (fun c fs _ A => E c fs A) { nx := fun _ A => Q .non A, rt := Q } (startD N.length ds) A) : FnOk P w K mg base (CX P w) (k + 1) f fd ps (liftSp K sp) := by
  refine F.ok S (fun vs H Q E ⟨Z, ds, A, Kt, Ex, r, ra, h, _, _⟩ => by rw [r.len]; exact len ds A Kt Ex h) fun cdv A0 outer s H vs Q E hr ⟨Z, ds, A, Kt, Ex, r, ra, h, hq, he⟩ => ?_
  have tk : Takes (cxOf (CX P w) P w K mg base N qual scope f cdv A0 outer s H E) (liftW K Z fun c fs _ A => Ex c fs A) :=
    Takes.imp (takes_of rfl rfl rfl rfl) fun cv dd σ H' ⟨Z', δ, A', c, fs, z, rs, ra', rx, q⟩ => he Z' c fs A' cv dd H' z ra' rx q
  refine ⟨_, hder cdv A0 outer s H E Z (fun c fs _ A => Ex c fs A) hr tk, Z, startD N.length ds, A, _, Same.refl Z, ?_, ra, hrd ds A Kt Ex h, ?_⟩
  · unfold startD L2.start
    rw [r.len]
    exact start_rs _ r
  · exact ⟨fun Z' δ A' σ H' s rs ra' q => hq Z' .non A' .non H' s ra' mk_non q, fun Z' d A' v H' s ra' rv q => hq Z' d A' v H' s ra' rv q, fun _ _ _ _ _ _ _ _ q => q.elim, fun _ _ _ _ _ _ _ _ q => q.elim⟩
end DL

/-! DL5: isinstance, try. -/
namespace DL
open PySem PySem.Spec PyProof.Rows L2
variable {K : PySem.W.Frag} {Z Z' Z0 : Hp} {X : Cx}

/-! ### isinstance -/
/-- a value's built-in type -/
def tyD (A : AH) : D → Option String
  | .non => some "NoneType" | .bl _ => some "bool" | .int _ => some "int" | .str _ => some "str" | .tup _ => some "tuple" | .lst _ => some "list" | .rol _ => some "list" | .dic _ _ => some "dict"
  | .obj _ _ _ => none
  | .ref a => match A a with
    | some (.lst _) => some "list"
    | some (.dic _) => some "dict"
    | _ => none
def tyNames : List String := ["NoneType", "bool", "int", "str", "tuple", "list", "dict"]
def instB (t T : String) : Bool := t == T || (t == "bool" && T == "int")
theorem kitB_all : ∀ t ∈ tyNames, ∀ T ∈ ["bool", "int", "str", "tuple", "list", "dict"], kitB t T = some (instB t T) := by decide +kernel
theorem tyD_mem {A : AH} {d : D} {t : String} (h : tyD A d = some t) : t ∈ tyNames := by
  cases d with
  | ref a =>
    have h' : (match A a with | some (.lst _) => some "list" | some (.dic _) => some "dict" | _ => none) = some t := h
    split at h'
    · cases h'; decide
    · cases h'; decide
    · cases h'
  | obj _ _ _ => cases h
  | _ => cases h; decide
theorem tyX_rol {H : Hp} {p : Addr} {vs : List V} (h : SqL K H p vs) : TyX K H (.ref p) (.type "list") := by
  rcases h with (h | ⟨o, h⟩) | ⟨o, its, n, h1, h2, _⟩
  · exact .base (.lst h)
  · exact .base (.frz h)
  · exact .kList h1 h2
theorem tyX_tup {H : Hp} {p : Addr} {vs : List V} (h : SqT K H p vs) : TyX K H (.ref p) (.type "tuple") := by
  rcases h with (h | ⟨o, h⟩) | ⟨o, its, n, h1, h2, _⟩
  · exact .base (.tup h)
  · exact .fTuple h
  · exact .kTuple h1 h2
theorem tyD_ok {A : AH} {H : Hp} (R : RA K Z A H) {d : D} {v : V} {t : String} (r : RV K Z d v) (h : tyD A d = some t) : TyX K H v (.type t) := by
  cases d with
  | non => cases h; rw [rv_non r]; exact .base .non
  | bl b => cases h; rw [rv_bl r]; exact .base (.bl b)
  | int b => cases h; rw [rv_int r]; exact .base (.int b)
  | str b => cases h; rw [rv_str r]; exact .base (.str b)
  | tup l => cases h; obtain ⟨p, vs, rfl, e, _⟩ := rv_tup r; exact tyX_tup (sqT_mono R.sub e)
  | lst l => cases h; obtain ⟨p, vs, rfl, e, _⟩ := rv_lst r; exact .base (.lst (R.sub _ _ e))
  | rol l => cases h; obtain ⟨p, vs, rfl, e, _⟩ := rv_rol r; exact tyX_rol (sqL_mono R.sub e)
  | dic ks l => cases h; obtain ⟨p, vs, rfl, e, _⟩ := rv_dic r; exact .base (.dK (R.sub _ _ e))
  | obj _ _ _ => cases h
  | ref a =>
    rw [rv_ref r]
    have h' : (match A a with | some (.lst _) => some "list" | some (.dic _) => some "dict" | _ => none) = some t := h
    split at h'
    · rename_i q; cases h'; obtain ⟨vs, e, _⟩ := (R.at_ a _ q).2; exact .base (.lst e)
    · rename_i q; cases h'; obtain ⟨vs, e, _⟩ := (R.at_ a _ q).2; exact .base (.dK e)
    · cases h'
def eIsi (T : String) (t : DE) : DE := fun δ A Q => t δ A fun d A1 => match tyD A1 d with
  | some s => Q (.bl (instB s T)) A1
  | none => False
section
variable {e : Expr} {te : DE} {p p2 pos : Pos} {T : String}
theorem qe_isi (hT : T ∈ ["bool", "int", "str", "tuple", "list", "dict"]) (hg : Gl X "isinstance") (hm : X.mg "isinstance" = none) (hg2 : Gl X (Str.ofString T)) (hm2 : X.mg (Str.ofString T) = none) (hv2 : bootBuiltins (Str.ofString T) = some (.type T)) (hn2 : Str.ofString T ≠ "__name__") (hd2 : (Str.ofString T == ("__debug__" : Str)) = false) (he : QE X Z0 e te)
    (h1 : starEach (e :: [.Name (Str.ofString T) p2]) X.env = (false, eval e X.env) :: starEach [.Name (Str.ofString T) p2] X.env := by rfl) (h2 : (backTo pos (starEach [.Name (Str.ofString T) p2] X.env)).any (·.1) = false := by rfl)
    (h3 : starEach [.Name (Str.ofString T) p2] X.env = [(false, eval (.Name (Str.ofString T) p2) X.env)] := by rfl) : QE X Z0 (.Call (.Name "isinstance" p) [e, .Name (Str.ofString T) p2] [] pos) (eIsi T te) :=
  PE.imp (pe_callB call_isi hg hm (by decide +kernel) (pa_cons he (pa_cons (pe_bltn (v := .ty T) hg2 hm2 hv2 rfl hn2 hd2) pa_nil h3) h1) (he := h1) (hpl := h2)) fun σ H Q ⟨Z, δ, A, Kt, z, rs, ra, t, k⟩ =>
    ⟨Z, δ, A, _, z, rs, ra, t, fun Z1 d A1 v H1 s1 ra1 rv t1 => by
      split at t1
      · rename_i s q
        exact ⟨v, .ty T, .type s, .type T, _, rfl, .ty T, tyD_ok ra1 rv q, kit_ty (kitB_all s (tyD_mem q) T hT), k Z1 _ A1 _ H1 s1 ra1 mk_bl t1⟩
      · exact t1.elim⟩
end

/-! ### try -/
/-- what is known of the classes of exceptions: sub c d: c stands under d (d may be built-in) -/
structure ExcK (K : PySem.W.Frag) (c : String) : Prop where
  c : ExcC K (He.ga K (Str.ofString c))
def suiteEnds (i : Nat) (D : DEnds) : DEnds := { nx := fun δ A => D.nx (δ.set i none) A, rt := D.rt, bk := fun δ A => D.bk (δ.set i none) A, ct := fun δ A => D.ct (δ.set i none) A }
/-- try: body / except C as e (e in slot i): suite. sub: which classes the clause takes; suite: by the exception's address, class, fields -/
def sTryAs (w : DW) (sub : String → Option Bool) (i : Nat) (body : DW → DS) (suite : Addr → String → List (String × D) → DS) : DS := fun D δ A =>
  body (fun c fs δ1 A1 => match sub c with
    | some true => ∀ a, suite a c fs (suiteEnds i D) (δ1.set i (some (.ref a))) A1
    | some false => w c fs δ1 A1
    | none => False) D δ A
def sTryOnly (w : DW) (sub : String → Option Bool) (body : DW → DS) (suite : Addr → String → List (String × D) → DS) : DS := fun D δ A =>
  body (fun c fs δ1 A1 => match sub c with
    | some true => ∀ a, suite a c fs D δ1 A1
    | some false => w c fs δ1 A1
    | none => False) D δ A
section
variable {x n : Str} {c : Value} {i : Nat} {body suite : List Stmt} {b₀ : Stmt} {np pos pos' : Pos} {tb : DW → DS} {ts : Addr → String → List (String × D) → DS} {w : DW} {sub : String → Option Bool}
theorem re_suite {D : DEnds} {E : Ends} (i : Nat) (re : RE K Z D E) : RE K Z (suiteEnds i D) { nx := fun σ' H' => E.nx (σ'.set i none) H', rt := E.rt, bk := fun σ' H' => E.bk (σ'.set i none) H', ct := fun σ' H' => E.ct (σ'.set i none) H' } :=
  ⟨fun Z' δ A σ H s rs ra q => re.nx Z' _ A _ H s (rs.set i (a := none) (b := none) trivial) ra q, re.rt, fun Z' δ A σ H s rs ra q => re.bk Z' _ A _ H s (rs.set i (a := none) (b := none) trivial) ra q, fun Z' δ A σ H s rs ra q => re.ct Z' _ A _ H s (rs.set i (a := none) (b := none) trivial) ra q⟩
theorem qs_try_as (hs : X.stack = X.env :: X.outer) (hf : X.env.frame = some X.env.locals) (hN : X.N.Nodup) (hi : X.N[i]? = some n) (hln : X.env.kindOf n = some .local) (hc : Names X x c) (tk : Takes X (liftW X.K Z0 w))
    (hsub : ∀ k b, sub k = some b → PySem.W.exmOne X.K (.ref (He.ga X.K (Str.ofString k))) c = some b)
    (hb : ∀ (w' : DW) (Z1 : Hp) (pn : List (Addr × Obj)) (xe : Value → Shared → Prop), Takes (X.tr pn xe) (liftW X.K Z1 w') → PassesOwn (model X.prog X.w) X.A X.env xe → QSs (X.tr pn xe) Z1 body (tb w'))
    (hsu : ∀ (a : Addr) (oe : Obj) (cls : Value) (d : Option Addr) (pn : List (Addr × Obj)) (k : String) (fs : List (String × D)) (Z1 : Hp), sub k = some true → Zc cls d oe → (∃ vs, oe.data = .fields vs) → RX X.K Z1 k fs cls d → QSs (X.suite a ((a, oe) :: pn)) Z1 (b₀ :: suite) (ts a k fs)) :
    QS X Z0 (.Try body [.ExceptHandler (some (.Name x np)) (some n) (b₀ :: suite) pos'] [] [] pos) (sTryAs w sub i tb ts) := by
  refine PS.imp (ps_try_as (tb := fun W D σ H => ∃ w' Z1, (∀ cls d σ H, liftW X.K Z1 w' cls d σ H → W cls d σ H) ∧ liftS X.K Z1 (tb w') D σ H)
    (ts := fun a cls d D σ H => ∃ k fs Z1, sub k = some true ∧ RX X.K Z1 k fs cls d ∧ liftS X.K Z1 (ts a k fs) D σ H) hs hf hN hi hln hc tk ?_ ?_) ?_
  · intro W pn xe tW hp
    refine ⟨fun pins s σ H D I ⟨w', Z1, h1, h2⟩ => ?_⟩
    exact (hb w' Z1 pn xe (Takes.imp tW h1) hp).run pins s σ H D I h2
  · intro a oe cls d pn hz hfl
    refine ⟨fun pins s σ H D I ⟨k, fs, Z1, h0, h1, h2⟩ => ?_⟩
    exact (hsu a oe cls d pn k fs Z1 h0 hz hfl h1).run pins s σ H D I h2
  · rintro D σ H ⟨Z, δ, A, DD, z, rs, ra, t, re⟩
    refine ⟨_, Z, fun cls d σ1 H1 ⟨Z1, δ1, A1, k, fs, z1, rs1, ra1, rx, q⟩ => ?_, Z, δ, A, DD, Same.refl Z, rs, ra, t, re⟩
    have ec := rx.1
    have q' : (match sub k with
        | some true => ∀ a, ts a k fs (suiteEnds i DD) (δ1.set i (some (.ref a))) A1
        | some false => w k fs δ1 A1
        | none => False) := q
    split at q'
    · rename_i hk
      refine ⟨true, by rw [ec]; exact hsub k true hk, fun _ a ha => ?_, fun e => Bool.noConfusion e⟩
      exact ⟨k, fs, Z1, hk, rx, Z1, δ1.set i (some (.ref a)), A1, suiteEnds i DD, Same.refl _, rs1.set i (a := some (.ref a)) (b := some (.ref a)) (mk_ref (K := X.K) (Z := Z1)), ra1, q' a, re_suite i (re.mono z1)⟩
    · rename_i hk
      exact ⟨false, by rw [ec]; exact hsub k false hk, fun e => Bool.noConfusion e, fun _ => ⟨Z1, δ1, A1, k, fs, z.trans z1, rs1, ra1, rx, q'⟩⟩
    · exact q'.elim
theorem qs_try_only (hs : X.stack = X.env :: X.outer) (hf : X.env.frame = some X.env.locals) (hc : Names X x c) (tk : Takes X (liftW X.K Z0 w))
    (hsub : ∀ k b, sub k = some b → PySem.W.exmOne X.K (.ref (He.ga X.K (Str.ofString k))) c = some b)
    (hb : ∀ (w' : DW) (Z1 : Hp) (pn : List (Addr × Obj)) (xe : Value → Shared → Prop), Takes (X.tr pn xe) (liftW X.K Z1 w') → PassesOwn (model X.prog X.w) X.A X.env xe → QSs (X.tr pn xe) Z1 body (tb w'))
    (hsu : ∀ (a : Addr) (oe : Obj) (cls : Value) (d : Option Addr) (pn : List (Addr × Obj)) (k : String) (fs : List (String × D)) (Z1 : Hp), sub k = some true → Zc cls d oe → (∃ vs, oe.data = .fields vs) → RX X.K Z1 k fs cls d → QSs (X.suite a ((a, oe) :: pn)) Z1 (b₀ :: suite) (ts a k fs)) :
    QS X Z0 (.Try body [.ExceptHandler (some (.Name x np)) none (b₀ :: suite) pos'] [] [] pos) (sTryOnly w sub tb ts) := by
  refine PS.imp (ps_try_only (tb := fun W D σ H => ∃ w' Z1, (∀ cls d σ H, liftW X.K Z1 w' cls d σ H → W cls d σ H) ∧ liftS X.K Z1 (tb w') D σ H)
    (ts := fun a cls d D σ H => ∃ k fs Z1, sub k = some true ∧ RX X.K Z1 k fs cls d ∧ liftS X.K Z1 (ts a k fs) D σ H) hs hf hc tk ?_ ?_) ?_
  · intro W pn xe tW hp
    refine ⟨fun pins s σ H D I ⟨w', Z1, h1, h2⟩ => ?_⟩
    exact (hb w' Z1 pn xe (Takes.imp tW h1) hp).run pins s σ H D I h2
  · intro a oe cls d pn hz hfl
    refine ⟨fun pins s σ H D I ⟨k, fs, Z1, h0, h1, h2⟩ => ?_⟩
    exact (hsu a oe cls d pn k fs Z1 h0 hz hfl h1).run pins s σ H D I h2
  · rintro D σ H ⟨Z, δ, A, DD, z, rs, ra, t, re⟩
    refine ⟨_, Z, fun cls d σ1 H1 ⟨Z1, δ1, A1, k, fs, z1, rs1, ra1, rx, q⟩ => ?_, Z, δ, A, DD, Same.refl Z, rs, ra, t, re⟩
    have ec := rx.1
    have q' : (match sub k with
        | some true => ∀ a, ts a k fs DD δ1 A1
        | some false => w k fs δ1 A1
        | none => False) := q
    split at q'
    · rename_i hk
      refine ⟨true, by rw [ec]; exact hsub k true hk, fun _ a ha => ?_, fun e => Bool.noConfusion e⟩
      exact ⟨k, fs, Z1, hk, rx, Z1, δ1, A1, DD, Same.refl _, rs1, ra1, q' a, re.mono z1⟩
    · rename_i hk
      exact ⟨false, by rw [ec]; exact hsub k false hk, fun e => Bool.noConfusion e, fun _ => ⟨Z1, δ1, A1, k, fs, z.trans z1, rs1, ra1, rx, q'⟩⟩
    · exact q'.elim
/-- e.f of the exception that the suite holds -/
def eXf (a : Addr) (fs : List (String × D)) (f : String) (t : DE) : DE := fun δ A Q => t δ A fun d A1 => d = .ref a ∧ match fs.lookup f with
  | some v => Q v A1
  | none => False
end
end DL

/-! DL6: a def by its promise, the law's end. -/
namespace DL
open PySem PySem.Spec PyProof.Rows L2
variable {K : PySem.W.Frag} {Z Z' Z0 : Hp} {X : Cx}
theorem uA {k : Nat} {A : Around} (r : Room k A) : A.units + 1 < cLine := by have := r.un; omega
theorem uC {k : Nat} {A : Around} (r : Room k A) : A.units + 65 < cLine := by have := r.un; omega
section
variable {P : Program} {w : World} {mg : Str → Option Value} {base : Heap} {k : Nat} {x : Str} {sp : DSp} {f : Addr} {fd : FuncData} {ps : List Str}
theorem dfn (F : FnOk P w K mg base (CX P w) k f fd ps (liftSp K sp)) (hm : mg x = some (.ref f)) (kp : PySem.W.keepIn K (.ref f) = true) (b : Binds K fd ps []) : DFn P w K mg base k x sp [] :=
  ⟨f, fd, ps, [], [], F, hm, kp, b, .nil, fun Z => .nil⟩
theorem dfnD {dvs : List D} {ws : List V} {ds : List Value} (F : FnOk P w K mg base (CX P w) k f fd ps (liftSp K sp)) (hm : mg x = some (.ref f)) (kp : PySem.W.keepIn K (.ref f) = true) (b : Binds K fd ps ds) (v : Vals ws ds) (h : ∀ Z, RVs K Z dvs ws) : DFn P w K mg base k x sp dvs :=
  ⟨f, fd, ps, ds, ws, F, hm, kp, b, v, h⟩
end
/-- the law's promise: True, whatever the script is -/
def spLaw : DSp := fun ds A Q _ => ∃ ns : List Int, ds = [.rol (ns.map .int)] ∧ ns.length ≤ 63 ∧ ∀ A', Q (.bl true) A'
theorem rvs_ints {H : Hp} : ∀ ns : List Int, RVs K H (ns.map .int) (ns.map V.int)
  | [] => .nil
  | n :: ns => .cons mk_int (rvs_ints ns)
theorem sp_end {H : Hp} {a : Addr} {ns : List Int} (hl : ns.length ≤ 63) (hS : SqL K H a (ns.map V.int)) : liftSp K spLaw [.ref a] H (fun v _ => v = .bl true) (fun _ _ _ => False) := by
  refine ⟨H, [.rol (ns.map .int)], fun _ => none, fun d _ => d = .bl true, fun _ _ _ => False, .cons ?_ .nil, ⟨fun _ _ e => e, fun _ _ e => by cases e⟩, ⟨ns, rfl, hl, fun _ => rfl⟩, ?_, ?_⟩
  · rw [RV]; exact ⟨a, _, rfl, hS, rvs_ints ns⟩
  · rintro Z' d A' v H' _ _ rv rfl; exact rv_bl rv
  · exact fun _ _ _ _ _ _ _ _ _ _ q => q
theorem walk_ofW {l : PySem.W.OpenLaw} {n k : Nat} {q : Program} {loose : List Str} {XP : (Str → Option Value) → Heap → Prop} {YP : World → Heap → Prop} {d : DefRec} {x : Str}
    (hn : l.most = some n) (hn2 : n ≤ sizeLine) (hdf : d.params.defaults = []) (hr : Room k callerA)
    (F : ∀ (w : World) (mg : Str → Option Value) (fa : Addr) (h : Heap), YP w h → h.Ns mainGlobals mg → mg d.name = some (.ref fa) →
      ∃ (K : PySem.W.Frag) (fd : FuncData) (sp : Sp), K.In h ∧ (∀ (s : Shared) (u : Value), BindsTo s fd ⟨[u], []⟩ [(x, u)]) ∧
        (∀ (H : Hp) (a : Addr) (ns : List Int), ns.length ≤ n → SqL K H a (ns.map V.int) → sp [.ref a] H (fun v _ => v = .bl true) fun _ _ _ => False) ∧
        ∀ base : Heap, K.In base → base.Ns mainGlobals mg → FnOk l.prog w K mg base (CX l.prog w) k fa fd [x] sp) :
    PySem.W.WalkO q loose XP YP l.row.toRowW d [] (fun f vs => PySem.call f vs) := by
  refine Att.attach_call hn hdf fun w s₀ s₁ mg mb fa o pm cd doc a vs ns G Y ho hd hcd hmg hobj hints hlen hg => ?_
  obtain ⟨K, fd, sp, KX, hb, hsp, hF⟩ := F w mg fa _ Y G.T.g hmg
  exact law_call KX G.T.g G.T.b G.T.builtins G.T.nolimit hg hobj hints (Nat.le_trans hlen hn2) hr hF hb (fun H _ hS => hsp H a ns hlen hS) fun H e s' ⟨_, _, _, _, _, _, _, _, _, _, _, _, h⟩ => h
end DL

/-! DL7: running a reading by simp. -/
namespace DL
open PySem PySem.Spec PyProof.Rows L2
/-- a number whose text may be taken -/
def Num (i : Int) : Prop := i.natAbs < 2 ^ 1900
theorem num_of {i : Int} {k : Nat} (h : i.natAbs < 2 ^ k) (hk : k ≤ 1900) : Num i := Nat.lt_of_lt_of_le h (Nat.pow_le_pow_right (by decide) hk)
@[simp] theorem num_lit {n : Int} (h1 : -18446744073709551616 < n) (h2 : n < 18446744073709551616) : Num n := num_of (k := 64) (by omega) (by decide)
theorem uB {k : Nat} {A : Around} (r : Room k A) : A.units + 64 < cLine := by have := r.un; omega
section
variable {δ : DSt} {A : AH} {Q : DK} {D0 : DEnds} {R : List D → AH → Prop} {B : Bool → AH → Prop} {G : DSt → AH → Prop}
@[simp ↓] theorem sNext_eq : sNext D0 δ A = D0.nx δ A := rfl
@[simp ↓] theorem sSeq_eq {t u : DS} : sSeq t u D0 δ A = t { D0 with nx := u D0 } δ A := rfl
@[simp ↓] theorem sBreak_eq : sBreak D0 δ A = D0.bk δ A := rfl
@[simp ↓] theorem sCont_eq : sCont D0 δ A = D0.ct δ A := rfl
@[simp ↓] theorem sDrop_eq {t : DE} : sDrop t D0 δ A = t δ A fun _ A1 => D0.nx δ A1 := rfl
@[simp ↓] theorem sRet_eq {t : DE} : sRet t D0 δ A = t δ A D0.rt := rfl
@[simp ↓] theorem sRetN_eq : sRetN D0 δ A = D0.rt .non A := rfl
theorem sIf_eq {c : DT} {t u : DS} : sIf c t u D0 δ A = c δ A fun b A1 => (b = true → t D0 δ A1) ∧ (b = false → u D0 δ A1) := rfl
@[simp ↓] theorem sAsg_eq {t : DE} {g : DG} : sAsg t g D0 δ A = t δ A fun d A1 => g d δ A1 D0.nx := rfl
@[simp ↓] theorem sPar_eq {i j : Nat} {ta : DA} : sPar i j ta D0 δ A = ta δ A fun ds A1 => match ds with
  | [d, e] => D0.nx ((δ.set i (some d)).set j (some e)) A1
  | _ => False := rfl
@[simp ↓] theorem dgName_eq {i : Nat} {d : D} : dgName i d δ A G = G (δ.set i (some d)) A := rfl
@[simp ↓] theorem dgNil_eq : dgNil [] δ A G = G δ A := rfl
@[simp ↓] theorem dgCons_eq {g : DG} {gs : DGs} {d : D} {r : List D} : dgCons g gs (d :: r) δ A G = g d δ A fun δ1 A1 => gs r δ1 A1 G := rfl
@[simp ↓] theorem dgTup_tup {n : Nat} {gs : DGs} {l : List D} : dgTup n gs (.tup l) δ A G = (l.length = n ∧ gs l δ A G) := rfl
@[simp ↓] theorem dgTup_lst {n : Nat} {gs : DGs} {l : List D} : dgTup n gs (.lst l) δ A G = (l.length = n ∧ gs l δ A G) := rfl
@[simp ↓] theorem eVar_eq {i : Nat} {d : D} (h : δ[i]? = some (some d)) : eVar i δ A Q = Q d A := by unfold eVar; rw [h]
@[simp ↓] theorem eC_eq {d : D} : eC d δ A Q = Q d A := rfl
@[simp ↓] theorem aNil_eq : aNil δ A R = R [] A := rfl
@[simp ↓] theorem aCons_eq {t : DE} {u : DA} : aCons t u δ A R = t δ A fun d A1 => u δ A1 fun ds A2 => R (d :: ds) A2 := rfl
@[simp ↓] theorem eTup_eq {t : DA} : eTup t δ A Q = t δ A fun ds A1 => Few ds.length ∧ Q (.tup ds) A1 := rfl
@[simp ↓] theorem eLst_eq {m : Mk} {t : DA} : eLst m t δ A Q = t δ A fun ds A1 => Few ds.length ∧ m ds A1 Q := rfl
@[simp ↓] theorem mkF_eq {l : List D} : mkF l A Q = Q (.lst l) A := rfl
@[simp ↓] theorem eBin_eq {rd : DOp} {a b : DE} : eBin rd a b δ A Q = a δ A fun x A1 => b δ A1 fun y A2 => rd x y A2 Q := rfl
@[simp ↓] theorem eChain_eq {rd rd' : DOp} {ta tb tc : DE} : eChain rd rd' ta tb tc δ A Q = ta δ A fun x A1 => tb δ A1 fun y A2 => rd x y A2 fun z A3 => match z with
  | .bl k => (k = true → tc δ A3 fun w A4 => rd' y w A4 Q) ∧ (k = false → Q (.bl false) A3)
  | _ => False := rfl
@[simp ↓] theorem bE_eq {t : DE} : bE t δ A B = t δ A fun d A1 => match d with
  | .bl b => B b A1
  | _ => False := rfl
theorem bAnd_eq {t u : DT} : bAnd t u δ A B = t δ A fun b A1 => (b = true → u δ A1 B) ∧ (b = false → B false A1) := rfl
theorem bOr_eq {t u : DT} : bOr t u δ A B = t δ A fun b A1 => (b = true → B true A1) ∧ (b = false → u δ A1 B) := rfl
@[simp ↓] theorem bNot_eq {t : DT} : bNot t δ A B = t δ A fun b A1 => B (!b) A1 := rfl
@[simp ↓] theorem eCB_eq {rd : DCall} {t : DA} : eCB rd t δ A Q = t δ A fun ds A1 => rd ds A1 Q := rfl
@[simp ↓] theorem eCall_eq {w : DW} {sp : DSp} {dvs : List D} {t : DA} : eCall w sp dvs t δ A Q = t δ A fun ds A1 => sp (ds ++ dvs) A1 Q fun c fs A2 => w c fs δ A2 := rfl
@[simp ↓] theorem opAdd_int {m : Mk} {i j : Int} : opAdd m (.int i) (.int j) A Q = Q (.int (i + j)) A := rfl
@[simp ↓] theorem opAdd_str {m : Mk} {i j : Str} : opAdd m (.str i) (.str j) A Q = (Few (i.length + j.length) ∧ Q (.str (i ++ j)) A) := rfl
@[simp ↓] theorem opAdd_tup {m : Mk} {i j : List D} : opAdd m (.tup i) (.tup j) A Q = (Few (i.length + j.length) ∧ Q (.tup (i ++ j)) A) := rfl
@[simp ↓] theorem opAdd_lsts {m : Mk} {i j : List D} : opAdd m (.lst i) (.lst j) A Q = (Few (i.length + j.length) ∧ m (i ++ j) A Q) := rfl
@[simp ↓] theorem opSub_int {i j : Int} : opSub (.int i) (.int j) A Q = Q (.int (i - j)) A := rfl
@[simp ↓] theorem opMul_int {i j : Int} : opMul (.int i) (.int j) A Q = (MulOk i j ∧ Q (.int (i * j)) A) := rfl
@[simp ↓] theorem opDiv_int {i j : Int} : opDiv (.int i) (.int j) A Q = (DivOk j ∧ Q (.int (i.fdiv j)) A) := rfl
@[simp ↓] theorem opMod_int {i j : Int} : opMod (.int i) (.int j) A Q = (j ≠ 0 ∧ Q (.int (i.fmod j)) A) := rfl
@[simp ↓] theorem opPow_int {i j : Int} : opPow (.int i) (.int j) A Q = ((0 ≤ j ∧ j ≤ 1000000 ∧ i.natAbs < 2 ^ 64) ∧ Q (.int (i ^ j.toNat)) A) := rfl
@[simp ↓] theorem opCmp_int {p : Int → Int → Bool} {i j : Int} : opCmp p (.int i) (.int j) A Q = Q (.bl (p i j)) A := rfl
@[simp ↓] theorem eNeg_eq {t : DE} : eNeg t δ A Q = t δ A fun d A1 => match d with
  | .int i => Q (.int (-i)) A1
  | _ => False := rfl
@[simp ↓] theorem opIs_non {b : Bool} {x : D} : opIs b x .non A Q = Q (.bl (xor b x.isNon)) A := rfl
@[simp ↓] theorem opIs_bl {b : Bool} {x y : Bool} : opIs b (.bl x) (.bl y) A Q = Q (.bl (xor b (x == y))) A := rfl
@[simp ↓] theorem opEq_eq {b : Bool} {x y : D} : opEq b x y A Q = (dt 60 (drf A x) = true ∧ dt 60 (drf A y) = true ∧ Q (.bl (xor b (deq (drf A x) (drf A y)))) A) := rfl
@[simp ↓] theorem opIx_tup {l : List D} {i : Int} : opIx (.tup l) (.int i) A Q = match atI l i with
  | some d => Q d A
  | none => False := rfl
@[simp ↓] theorem opIx_lst {l : List D} {i : Int} : opIx (.lst l) (.int i) A Q = match atI l i with
  | some d => Q d A
  | none => False := rfl
@[simp ↓] theorem opIx_rol {l : List D} {i : Int} : opIx (.rol l) (.int i) A Q = match atI l i with
  | some d => Q d A
  | none => False := rfl
@[simp ↓] theorem bAbs_eq {i : Int} : bAbs [.int i] A Q = Q (.int i.natAbs) A := rfl
@[simp ↓] theorem bStr_eq {i : Int} : bStr [.int i] A Q = (Num i ∧ Q (.str (numStr i)) A) := rfl
@[simp ↓] theorem eSl_eq {m : Mk} {t : DE} {lo hi : DOpt} : eSl m t lo hi δ A Q = t δ A fun x A1 => lo δ A1 fun l A2 => hi δ A2 fun h A3 => opSl m x l h A3 Q := rfl
@[simp ↓] theorem oNone_eq {O : Option Int → AH → Prop} : oNone δ A O = O none A := rfl
@[simp ↓] theorem oSome_eq {t : DE} {O : Option Int → AH → Prop} : oSome t δ A O = t δ A fun d A1 => match d with
  | .int i => O (some i) A1
  | _ => False := rfl
@[simp ↓] theorem opSl_tup {m : Mk} {l : List D} {lo hi : Option Int} : opSl m (.tup l) lo hi A Q = Q (.tup (cutD l lo hi)) A := rfl
@[simp ↓] theorem opSl_lst {m : Mk} {l : List D} {lo hi : Option Int} : opSl m (.lst l) lo hi A Q = m (cutD l lo hi) A Q := rfl
@[simp ↓] theorem opSl_rol {m : Mk} {l : List D} {lo hi : Option Int} : opSl m (.rol l) lo hi A Q = m (cutD l lo hi) A Q := rfl
@[simp ↓] theorem opSl_str {m : Mk} {l : Str} {lo hi : Option Int} : opSl m (.str l) lo hi A Q = (Few l.length ∧ Q (.str (cutS l lo hi)) A) := rfl
@[simp ↓] theorem eIsi_eq {T : String} {t : DE} : eIsi T t δ A Q = t δ A fun d A1 => match tyD A1 d with
  | some s => Q (.bl (instB s T)) A1
  | none => False := rfl
theorem eAnd_eq {a b : DE} : eAnd a b δ A Q = a δ A fun d A1 => match d with
  | .bl b1 => (b1 = true → b δ A1 Q) ∧ (b1 = false → Q (.bl false) A1)
  | _ => False := rfl
theorem eOr_eq {a b : DE} : eOr a b δ A Q = a δ A fun d A1 => match d with
  | .bl b1 => (b1 = true → Q (.bl true) A1) ∧ (b1 = false → b δ A1 Q)
  | _ => False := rfl
@[simp ↓] theorem iSeq_eq {t : DE} {I : List D → (AH → Prop) → AH → Prop} : iSeq t δ A I = t δ A fun d A1 => match d with
  | .tup l => I l (fun _ => True) A1
  | .lst l => I l (fun _ => True) A1
  | .rol l => I l (fun _ => True) A1
  | .ref a => (match A1 a with
    | some (.lst l) => I l (fun A' => A' a = some (.lst l)) A1
    | _ => False)
  | _ => False := rfl
@[simp ↓] theorem eNot_eq {a : DE} : eNot a δ A Q = a δ A fun d A1 => match d with
  | .bl c => Q (.bl (!c)) A1
  | _ => False := rfl
theorem sFor_eq {it : DI} {g : DG} {t : DS} : sFor it g t D0 δ A = it δ A fun l gd A1 => forD gd g t D0 l δ A1 := rfl
theorem sWhile_eq {c : DT} {t : DS} : sWhile c t D0 δ A = ∃ n, whileN c t D0 n δ A := rfl
end

@[simp] theorem drf_non {A : AH} : drf A .non = .non := rfl
@[simp] theorem drf_bl {A : AH} {b : Bool} : drf A (.bl b) = .bl b := rfl
@[simp] theorem drf_int {A : AH} {b : Int} : drf A (.int b) = .int b := rfl
@[simp] theorem drf_str {A : AH} {b : Str} : drf A (.str b) = .str b := rfl
@[simp] theorem drf_tup {A : AH} {b : List D} : drf A (.tup b) = .tup b := rfl
@[simp] theorem drf_lst {A : AH} {b : List D} : drf A (.lst b) = .lst b := rfl
@[simp] theorem drf_rol {A : AH} {b : List D} : drf A (.rol b) = .rol b := rfl
@[simp] theorem drf_obj {A : AH} {c : String} {ns : List String} {b : List D} : drf A (.obj c ns b) = .obj c ns b := rfl
@[simp] theorem dt_non {n : Nat} : dt n .non = true := by cases n <;> rfl
@[simp] theorem dt_bl {n : Nat} {b : Bool} : dt n (.bl b) = true := by cases n <;> rfl
@[simp] theorem dt_int {n : Nat} {b : Int} : dt n (.int b) = true := by cases n <;> rfl
@[simp] theorem dt_str {n : Nat} {b : Str} : dt n (.str b) = PyData.strOk b := by cases n <;> rfl
@[simp] theorem dt_tup {n : Nat} {l : List D} : dt (n + 1) (.tup l) = dts n l := by rw [dt]
@[simp] theorem dt_lst {n : Nat} {l : List D} : dt (n + 1) (.lst l) = dts n l := by rw [dt]
@[simp] theorem dts_nil {n : Nat} : dts n [] = true := by cases n <;> rfl
@[simp] theorem dts_cons {n : Nat} {d : D} {l : List D} : dts n (d :: l) = (dt n d && dts n l) := by cases n <;> rfl
@[simp] theorem deq_int {i j : Int} : deq (.int i) (.int j) = (i == j) := by simp [deq]
@[simp] theorem deq_bl {i j : Bool} : deq (.bl i) (.bl j) = (i == j) := by simp [deq]
@[simp] theorem deq_str {i j : Str} : deq (.str i) (.str j) = (i == j) := by simp [deq]
@[simp] theorem deq_tup {i j : List D} : deq (.tup i) (.tup j) = deqs i j := by simp [deq]
@[simp] theorem deq_lst {i j : List D} : deq (.lst i) (.lst j) = deqs i j := by simp [deq]
@[simp] theorem deqs_nil : deqs [] [] = true := by simp [deqs]
@[simp] theorem deqs_cons {a b : D} {i j : List D} : deqs (a :: i) (b :: j) = (deq a b && deqs i j) := by simp [deqs]
theorem atI_nat {α : Type} (l : List α) (n : Nat) : atI l (n : Int) = l[n]? := by
  unfold atI ixN
  rw [if_pos (Int.natCast_nonneg n)]
  by_cases h : (n : Int) < (l.length : Int)
  · rw [if_pos h]; rfl
  · rw [if_neg h]; exact (List.getElem?_eq_none (by omega)).symm
@[simp] theorem atI_0 {α : Type} (l : List α) : atI l 0 = l[0]? := atI_nat l 0
@[simp] theorem atI_1 {α : Type} (l : List α) : atI l 1 = l[1]? := atI_nat l 1
@[simp] theorem atI_2 {α : Type} (l : List α) : atI l 2 = l[2]? := atI_nat l 2
@[simp] theorem atI_3 {α : Type} (l : List α) : atI l 3 = l[3]? := atI_nat l 3
@[simp] theorem atI_4 {α : Type} (l : List α) : atI l 4 = l[4]? := atI_nat l 4
@[simp] theorem atI_5 {α : Type} (l : List α) : atI l 5 = l[5]? := atI_nat l 5
@[simp] theorem atI_6 {α : Type} (l : List α) : atI l 6 = l[6]? := atI_nat l 6
@[simp] theorem atI_7 {α : Type} (l : List α) : atI l 7 = l[7]? := atI_nat l 7
@[simp] theorem atI_8 {α : Type} (l : List α) : atI l 8 = l[8]? := atI_nat l 8
@[simp] theorem atI_9 {α : Type} (l : List α) : atI l 9 = l[9]? := atI_nat l 9
@[simp] theorem atI_10 {α : Type} (l : List α) : atI l 10 = l[10]? := atI_nat l 10
@[simp] theorem atI_11 {α : Type} (l : List α) : atI l 11 = l[11]? := atI_nat l 11
@[simp] theorem atI_m1 {α : Type} (l : List α) : atI l (-1) = l[l.length - 1]? := by
  unfold atI ixN
  rw [if_neg (by decide)]
  by_cases h : -(l.length : Int) ≤ -1
  · rw [if_pos h]
    show l[((-1 : Int) + (l.length : Int)).toNat]? = _
    congr 1; omega
  · rw [if_neg h]; exact (List.getElem?_eq_none (by omega)).symm
theorem numStr_len {i : Int} {k : Nat} (hk : 0 < k) (h : i.natAbs < 2 ^ k) : (numStr i).length ≤ k + 1 := by
  have e : (toString i).length ≤ k + 1 := by
    cases i with
    | ofNat m => exact Nat.le_succ_of_le ((Nat.length_repr_le_iff hk).mpr (Nat.lt_of_lt_of_le h (Nat.pow_le_pow_left (by decide) k)))
    | negSucc m =>
      have e : toString (Int.negSucc m) = "-" ++ Nat.repr (m + 1) := rfl
      rw [e, String.length_append]
      have e1 : "-".length = 1 := rfl
      have e2 := (Nat.length_repr_le_iff (n := m + 1) hk).mpr (Nat.lt_of_lt_of_le h (Nat.pow_le_pow_left (by decide) k))
      omega
  unfold numStr
  rw [PySem.ofString_length]; exact e
theorem strOk_of (s : String) : PyData.strOk (Str.ofString s) = true := by
  rw [Str.ofString_eq_toList]
  unfold PyData.strOk
  rw [Array.all_eq_true_iff_forall_mem]
  intro x hx
  simp only [List.mem_toArray, List.mem_map] at hx
  obtain ⟨c, _, rfl⟩ := hx
  have h := c.valid
  refine decide_eq_true ?_
  rcases h with h | ⟨_, h⟩
  · exact Nat.lt_trans h (by decide)
  · exact h
theorem strOk_app {x y : Str} (hx : PyData.strOk x = true) (hy : PyData.strOk y = true) : PyData.strOk (x ++ y) = true := by
  show (x.cps ++ y.cps).all _ = true
  rw [Array.all_append]
  exact Bool.and_eq_true_iff.mpr ⟨hx, hy⟩
@[simp] theorem strOk_num (i : Int) : PyData.strOk (numStr i) = true := strOk_of _
/-- a for by an invariant of what is left -/
theorem forD_ind {g : AH → Prop} {tg : DG} {body : DS} {DD : DEnds} (I : List D → DSt → AH → Prop) (hg : ∀ l δ A, I l δ A → g A) (h0 : ∀ δ A, I [] δ A → DD.nx δ A)
    (h1 : ∀ x l δ A (N : DSt → AH → Prop), (∀ δ A, I l δ A → N δ A) → I (x :: l) δ A → tg x δ A fun δ1 A1 => body { DD with nx := N, ct := N, bk := DD.nx } δ1 A1) : ∀ l δ A, I l δ A → forD g tg body DD l δ A
  | [], δ, A, h => ⟨hg _ _ _ h, h0 _ _ h⟩
  | x :: l, δ, A, h => ⟨hg _ _ _ h, h1 x l δ A _ (forD_ind I hg h0 h1 l) h⟩
theorem cutD_map {α : Type} (f : α → D) (l : List α) (lo hi : Option Int) : ∃ m : List α, cutD (l.map f) lo hi = m.map f ∧ ∀ x ∈ m, x ∈ l := by
  unfold cutD
  exact ⟨(l.drop (HT.sIx (l.map f).length 0 lo)).take (HT.sIx (l.map f).length (l.map f).length hi - HT.sIx (l.map f).length 0 lo), by rw [List.map_take, List.map_drop], fun x hx => List.mem_of_mem_drop (List.mem_of_mem_take hx)⟩
@[simp] theorem divOk_lit {n : Int} (h1 : 0 < n) (h2 : n < 18446744073709551616) : DivOk n := ⟨by omega, Nat.lt_of_lt_of_le (show n.natAbs < 2 ^ 64 by omega) (Nat.pow_le_pow_right (by decide) (by decide))⟩
@[simp] theorem mulOk_lit {i j : Int} (h1 : 0 ≤ j) (h2 : j < 18446744073709551616) : DL.MulOk i j := .inr (.inl (show j.natAbs < 2 ^ 64 by omega))
theorem divOk_of {n : Int} {k : Nat} (h1 : n ≠ 0) (h2 : n.natAbs < 2 ^ k) (hk : k ≤ 9000) : DivOk n := ⟨h1, Nat.lt_of_lt_of_le h2 (Nat.pow_le_pow_right (by decide) hk)⟩
theorem mulOk_of {i j : Int} {a b : Nat} (h1 : i.natAbs < 2 ^ a) (h2 : j.natAbs < 2 ^ b) (hk : a + b ≤ 134217728) : DL.MulOk i j := .inr (.inr ⟨a, b, h1, h2, hk⟩)
theorem num_len {i : Int} (h : Num i) : (numStr i).length ≤ 1901 := numStr_len (by decide) h
section
variable {δ : DSt} {A : AH} {Q : DK} {D0 : DEnds} {R : List D → AH → Prop} {B : Bool → AH → Prop} {I : List D → (AH → Prop) → AH → Prop}
@[simp ↓] theorem bMin_eq {i j : Int} : bMin [.int i, .int j] A Q = Q (.int (if j < i then j else i)) A := rfl
@[simp ↓] theorem bLen_str {s : Str} : bLen [.str s] A Q = (Few s.length ∧ Q (.int s.length) A) := rfl
@[simp ↓] theorem bLen_tup {l : List D} : bLen [.tup l] A Q = Q (.int l.length) A := rfl
@[simp ↓] theorem bLen_lst {l : List D} : bLen [.lst l] A Q = Q (.int l.length) A := rfl
@[simp ↓] theorem bLen_rol {l : List D} : bLen [.rol l] A Q = Q (.int l.length) A := rfl
@[simp ↓] theorem iRng1_eq {t : DA} : iRng1 t δ A I = t δ A fun ds A1 => match ds with
  | [.int n] => Small n ∧ I (rngD 0 n.toNat) (fun _ => True) A1
  | _ => False := rfl
@[simp ↓] theorem iRng2_eq {t : DA} : iRng2 t δ A I = t δ A fun ds A1 => match ds with
  | [.int i, .int j] => (Small i ∧ Small j) ∧ I (rngD i (j - i).toNat) (fun _ => True) A1
  | _ => False := rfl
@[simp ↓] theorem iText_eq {t : DE} : iText t δ A I = t δ A fun d A1 => match d with
  | .str z => I (signsD z) (fun _ => True) A1
  | _ => False := rfl
@[simp ↓] theorem sRaise_eq {w : DW} {c : String} : sRaise w c D0 δ A = w c [] δ A := rfl
@[simp ↓] theorem sTryOnly_eq {w : DW} {sub : String → Option Bool} {b : DW → DS} {s : Addr → String → List (String × D) → DS} : sTryOnly w sub b s D0 δ A = b (fun c fs δ1 A1 => match sub c with
    | some true => ∀ a, s a c fs D0 δ1 A1
    | some false => w c fs δ1 A1
    | none => False) D0 δ A := rfl
@[simp ↓] theorem sTryAs_eq {w : DW} {sub : String → Option Bool} {i : Nat} {b : DW → DS} {s : Addr → String → List (String × D) → DS} : sTryAs w sub i b s D0 δ A = b (fun c fs δ1 A1 => match sub c with
    | some true => ∀ a, s a c fs (suiteEnds i D0) (δ1.set i (some (.ref a))) A1
    | some false => w c fs δ1 A1
    | none => False) D0 δ A := rfl
end
/-- the numbers a range runs over, left ones first -/
theorem rngD_succ (lo : Int) (n : Nat) : rngD lo (n + 1) = .int lo :: rngD (lo + 1) n := by
  unfold rngD
  rw [List.range_succ_eq_map, List.map_cons, List.map_map]
  congr 1
  · simp
  · apply List.map_congr_left; intro x _; simp; omega
@[simp] theorem rngD_zero (lo : Int) : rngD lo 0 = [] := rfl
theorem rngD_len (lo : Int) (n : Nat) : (rngD lo n).length = n := by unfold rngD; simp
/-- a for over a range by an invariant of the number that comes next -/
theorem forR_ind {g : AH → Prop} {tg : DG} {body : DS} {DD : DEnds} (hi : Int) (I : Int → DSt → AH → Prop) (hg : ∀ i δ A, I i δ A → g A) (h0 : ∀ δ A, I hi δ A → DD.nx δ A)
    (h1 : ∀ i δ A (N : DSt → AH → Prop), i < hi → (∀ δ A, I (i + 1) δ A → N δ A) → I i δ A → tg (.int i) δ A fun δ1 A1 => body { DD with nx := N, ct := N, bk := DD.nx } δ1 A1) :
    ∀ (n : Nat) (lo : Int) δ A, lo + n = hi → I lo δ A → forD g tg body DD (rngD lo n) δ A
  | 0, lo, δ, A, e, h => by
    have : lo = hi := by omega
    subst this
    exact ⟨hg _ _ _ h, h0 _ _ h⟩
  | n + 1, lo, δ, A, e, h => by
    rw [rngD_succ]
    exact ⟨hg _ _ _ h, h1 lo δ A _ (by omega) (fun δ A h => forR_ind hi I hg h0 h1 n (lo + 1) δ A (by omega) h) h⟩
section
variable {A : AH}
@[simp] theorem ty_non : tyD A .non = some "NoneType" := rfl
@[simp] theorem ty_bl {b : Bool} : tyD A (.bl b) = some "bool" := rfl
@[simp] theorem ty_int {b : Int} : tyD A (.int b) = some "int" := rfl
@[simp] theorem ty_str {b : Str} : tyD A (.str b) = some "str" := rfl
@[simp] theorem ty_tup {b : List D} : tyD A (.tup b) = some "tuple" := rfl
@[simp] theorem ty_lst {b : List D} : tyD A (.lst b) = some "list" := rfl
@[simp] theorem ty_rol {b : List D} : tyD A (.rol b) = some "list" := rfl
@[simp] theorem ty_dic {k : List Key} {b : List D} : tyD A (.dic k b) = some "dict" := rfl
end
@[simp] theorem mulOk_lit2 {i j : Int} (h1 : 0 ≤ i) (h2 : i < 18446744073709551616) : DL.MulOk i j := .inl (show i.natAbs < 2 ^ 64 by omega)
end DL

/-! DL8: raise, except, isinstance of an exception; facts of one's own. -/
namespace DL
open PySem PySem.Spec PyProof.Rows L2
variable {K : PySem.W.Frag} {Z Z' Z0 : Hp} {X : Cx}
/-! ### raise C('..'), except C -/
theorem qs_raiseC {w : DW} {c : String} {m : Str} {j : Nat} {p p2 pos pos' : Pos} (fx : (He.Fa.exc (Str.ofString c)).ok X.K = true) (g : X.mg (Str.ofString c) = some (.ref (He.ga X.K (Str.ofString c)))) (hc : X.calm = true) (tk : Takes X (liftW X.K Z0 w)) (hg : Gl X (Str.ofString c))
    (hdb : (Str.ofString c == ("__debug__" : Str)) = false) : QS X Z0 (.Raise (some (.Call (.Name (Str.ofString c) p) [.Constant (.str m) j p2] [] pos')) none pos) (sRaise w c) := by
  obtain ⟨h1, h2, h3, h4⟩ := He.exc_ok fx
  exact qs_raise hc tk (pmk_own PySem.F.excBase_ValueError h1 g h2 (raises_own h3 h4) hg hdb)
/-- which classes an except clause takes -/
def excT (l : List (String × Bool)) (k : String) : Option Bool := l.lookup k
theorem look_mem {k : String} {b : Bool} : ∀ {l : List (String × Bool)}, l.lookup k = some b → (k, b) ∈ l
  | [], h => by cases h
  | (a, c) :: l, h => by
    rw [List.lookup_cons] at h
    split at h
    · rename_i e
      have e2 := beq_iff_eq.mp e
      subst e2; cases h; exact List.mem_cons_self
    · exact List.mem_cons_of_mem _ (look_mem h)
theorem exc_tab {l : List (String × Bool)} {x : String} (h : ∀ p ∈ l, (He.Fa.exm (Str.ofString p.1) (Str.ofString x) p.2).ok K = true) (k : String) (b : Bool) (e : excT l k = some b) : PySem.W.exmOne K (.ref (He.ga K (Str.ofString k))) (.ref (He.ga K (Str.ofString x))) = some b :=
  He.exm_ok (h (k, b) (look_mem e))
/-! ### facts of one's own -/
abbrev Fx := PySem.W.Frag → Bool
def allX (l : List Fx) (K : PySem.W.Frag) : Bool := l.all fun f => f K
theorem allX_at {l : List Fx} (h : allX l K = true) (i : Nat) {f : Fx} (e : l[i]? = some f := by rfl) : f K = true := List.all_eq_true.mp h f (List.mem_of_getElem? e)
/-- isinstance(e, D), e of the class c, D of the text -/
def fxIs (c D : String) (b : Bool) : Fx := fun K => decide (PySem.W.kitOne K (.ref (He.ga K (Str.ofString c))) (.ref (He.ga K (Str.ofString D))) = some b)
/-- .. D built-in -/
def fxIsB (c D : String) (b : Bool) : Fx := fun K => decide (PySem.W.kitOne K (.ref (He.ga K (Str.ofString c))) (.type D) = some b)
/-- what isinstance asks of an exception's class -/
def fxEx (c : String) : Fx := fun K => He.eqO (PySem.W.findIn K (.ref (He.ga K (Str.ofString c))) "__getattribute__") (some (some (.builtin "BaseException.__getattribute__"))) && (He.eqO (PySem.W.findIn K (.ref (He.ga K (Str.ofString c))) "__getattr__") (some none) && (decide (PySem.W.subIn K (.ref (He.ga K (Str.ofString c))) (.type "BaseException") = some true) && (PySem.W.hasDictIn K (He.ga K (Str.ofString c)) &&
  (He.eqO (PySem.W.findIn K (.ref (He.ga K (Str.ofString c))) "__class__") (some (some (.builtin "object.__class__"))) && (He.eqO (PySem.W.specialIn K (.builtin "object.__class__") "__get__") (some (some (.builtin "getset_descriptor.__get__"))) && (decide (PySem.W.takesIn K (.builtin "object.__class__") = some true) && decide (PySem.W.mroIn K (He.ga K (Str.ofString c)) (.type "object") = some true)))))))
theorem fxEx_ok {c : String} (h : fxEx c K = true) : ExcC K (He.ga K (Str.ofString c)) := by
  obtain ⟨h1, h⟩ := He.ba h
  obtain ⟨h2, h⟩ := He.ba h
  obtain ⟨h3, h⟩ := He.ba h
  obtain ⟨h4, h⟩ := He.ba h
  obtain ⟨h5, h⟩ := He.ba h
  obtain ⟨h6, h⟩ := He.ba h
  obtain ⟨h7, h8⟩ := He.ba h
  exact ⟨He.eqO_ok h1, He.eqO_ok h2, of_decide_eq_true h3, h4, He.eqO_ok h5, He.eqO_ok h6, of_decide_eq_true h7, of_decide_eq_true h8⟩
/-! ### isinstance(e, D) in a suite -/
section
variable {a : Addr} {oe : Obj} {cls : Value} {d : Option Addr} {pn : List (Addr × Obj)} {k : String} {Z1 : Hp} {e e2 : Expr} {te : DE} {p pos : Pos}
/-- the table tells what isinstance says: rows by the exception's class -/
def eIsE (a : Addr) (k : String) (fs : List (String × D)) (tb : List (String × Bool)) (t : DE) : DE := fun δ A Q => t δ A fun d A1 => d = .ref a ∧ fs = [] ∧ (match tb.lookup k with
  | some b => Q (.bl b) A1
  | none => False)
theorem call_isTab {tb : List (String × Bool)} {fs : List (String × D)} {cv : Value} (kf : ∀ k ∈ tb.map (·.1), ExcC X.K (He.ga X.K (Str.ofString k))) (hk : ∀ p ∈ tb, PySem.W.kitOne X.K (.ref (He.ga X.K (Str.ofString p.1))) cv = some p.2) (hz : Zc cls d oe) (hf : ∃ vs, oe.data = .fields vs) (rx : RX X.K Z1 k fs cls d) :
    CallR (X.suite a ((a, oe) :: pn)) (.builtin "isinstance") (fun xs H Q => ∃ b, fs = [] ∧ tb.lookup k = some b ∧ ∃ c : V, xs = [.ref a, c] ∧ (∀ u, RelV c u → u = cv) ∧ Q (.bl b) H) := by
  intro pins s σ H xs us Q I r ⟨b, hfs, hb, c, e1, e2, q⟩
  have hmem := look_mem hb
  obtain ⟨ec, ed⟩ := rx
  subst hfs
  have dn : d = none := by
    rcases ed with ⟨_, q⟩ | ⟨_, _, q, _⟩
    · exact q
    · exact absurd rfl q
  subst dn
  rw [ec] at hz
  exact call_isE (kf k (List.mem_map.mpr ⟨_, hmem, rfl⟩)) hz hf pins s σ H xs us Q I r ⟨c, cv, b, e1, e2, hk _ hmem, q⟩
theorem qe_isAny {tb : List (String × Bool)} {c : V} {cv : Value} {fs : List (String × D)} (kf : ∀ k ∈ tb.map (·.1), ExcC X.K (He.ga X.K (Str.ofString k))) (hk : ∀ p ∈ tb, PySem.W.kitOne X.K (.ref (He.ga X.K (Str.ofString p.1))) cv = some p.2) (hz : Zc cls d oe) (hf : ∃ vs, oe.data = .fields vs) (rx : RX X.K Z1 k fs cls d)
    (hg : Gl (X.suite a ((a, oe) :: pn)) "isinstance") (hm : X.mg "isinstance" = none) (hc : PE (X.suite a ((a, oe) :: pn)) e2 (tC c)) (hcv : ∀ u, RelV c u → u = cv) (he : QE (X.suite a ((a, oe) :: pn)) Z0 e te)
    (h1 : starEach (e :: [e2]) X.env = (false, eval e X.env) :: starEach [e2] X.env := by rfl) (h2 : (backTo pos (starEach [e2] X.env)).any (·.1) = false := by rfl) (h3 : starEach [e2] X.env = [(false, eval e2 X.env)] := by rfl) :
    QE (X.suite a ((a, oe) :: pn)) Z0 (.Call (.Name "isinstance" p) [e, e2] [] pos) (eIsE a k fs tb te) := by
  refine PE.imp (pe_callB (call_isTab kf hk hz hf rx) hg hm (by decide +kernel) (pa_cons he (pa_cons hc pa_nil h3) h1) (he := h1) (hpl := h2)) fun σ H Q ⟨Z, δ, A, Kt, z, rs, ra, t, kk⟩ =>
    ⟨Z, δ, A, _, z, rs, ra, t, fun Z2 d A1 v H1 s1 ra1 rv t1 => ?_⟩
  obtain ⟨rfl, hfs, t1⟩ := t1
  split at t1
  · rename_i b hb
    exact ⟨b, hfs, hb, c, by rw [rv_ref rv], hcv, kk Z2 _ A1 _ H1 s1 ra1 mk_bl t1⟩
  · exact t1.elim
end
end DL

/-! DL9: chains of three. -/
namespace DL
open PySem PySem.Spec PyProof.Rows L2
variable {K : PySem.W.Frag} {Z Z' Z0 : Hp} {X : Cx}
section
variable {a b c e : Expr} {ta tb tc td : TE} {pos : Pos}
def tChain3 (r r' r'' : R2) (ta tb tc td : TE) : TE := fun σ H Q => ta σ H fun x H1 => tb σ H1 fun y H2 => r x y H2 fun z H3 => ∃ k, z = .bl k ∧
  (if k = true then tChain r' r'' (fun _ H Q => Q y H) tc td σ H3 Q else Q (.bl false) H3)
theorem pe_chain3 {op op' op'' : CmpOp} {r r' r'' : R2} (ho : OpR X (compareOp op) r) (ho' : OpR X (compareOp op') r') (ho'' : OpR X (compareOp op'') r'') (ha : PE X a ta) (hb : PE X b tb) (hc : PE X c tc) (hd : PE X e td)
    (hm : lastMarks [op, op', op''] [b, c, e] = false := by with_unfolding_all rfl) : PE X (.Compare a [op, op', op''] [b, c, e] pos) (tChain3 r r' r'' ta tb tc td) := by
  refine ⟨fun pins s σ H Q I h => ?_⟩
  refine Compare_chain (thn (ha.run pins s σ H _ I h) fun v s1 ⟨x, H1, I1, r1, q1⟩ => chain_link (thn (hb.run pins s1 σ H1 _ I1 q1) fun u s2 ⟨y, H2, I2, r2, q2⟩ =>
    thn (ho pins s2 σ H2 x y v u _ I2 r1 r2 q2) fun d s3 ⟨z, H3, I3, r3, k, e, q3⟩ => ?_)) hm
  subst e
  cases r3
  refine wpAny_truthy_bool ?_
  cases k with
  | false => exact ite_ff ⟨.bl false, H3, I3, rfl, q3⟩
  | true =>
    refine ite_tt (chain_link (thn (hc.run pins s3 σ H3 _ I3 q3) fun u4 s4 ⟨y4, H4, I4, r4, q4⟩ => thn (ho' pins s4 σ H4 y y4 u u4 _ I4 r2 r4 q4) fun d5 s5 ⟨z5, H5, I5, r5, k5, e5, q5⟩ => ?_))
    subst e5
    cases r5
    refine wpAny_truthy_bool ?_
    cases k5 with
    | false => exact ite_ff ⟨.bl false, H5, I5, rfl, q5⟩
    | true => exact ite_tt (chain_last (thn (hd.run pins s5 σ H5 _ I5 q5) fun w' s6 ⟨z', H6, I6, r6, q6⟩ => ho'' pins s6 σ H6 y4 z' u4 w' Q I6 r4 r6 q6))
end
section
variable {a b c e : Expr} {ta tb tc td : DE} {pos : Pos}
def eChain3 (rd rd' rd'' : DOp) (ta tb tc td : DE) : DE := fun δ A Q => ta δ A fun x A1 => tb δ A1 fun y A2 => rd x y A2 fun z A3 => match z with
  | .bl k => (k = true → tc δ A3 fun w A4 => rd' y w A4 fun z A5 => match z with
    | .bl k => (k = true → td δ A5 fun v A6 => rd'' w v A6 Q) ∧ (k = false → Q (.bl false) A5)
    | _ => False) ∧ (k = false → Q (.bl false) A3)
  | _ => False
theorem qe_chain3 {op op' op'' : CmpOp} {rd rd' rd'' : DOp} {r r' r'' : R2} (l : LiftOp X.K rd r) (l' : LiftOp X.K rd' r') (l'' : LiftOp X.K rd'' r'') (ho : OpR X (compareOp op) r) (ho' : OpR X (compareOp op') r') (ho'' : OpR X (compareOp op'') r'')
    (ha : QE X Z0 a ta) (hb : QE X Z0 b tb) (hc : QE X Z0 c tc) (hd : QE X Z0 e td) (hm : lastMarks [op, op', op''] [b, c, e] = false := by with_unfolding_all rfl) : QE X Z0 (.Compare a [op, op', op''] [b, c, e] pos) (eChain3 rd rd' rd'' ta tb tc td) :=
  PE.imp (pe_chain3 ho ho' ho'' ha hb hc hd hm) fun σ H Q ⟨Z, δ, A, Kt, z, rs, ra, t, k⟩ => by
  refine ⟨Z, δ, A, _, z, rs, ra, t, fun Z1 d A1 v H1 s1 ra1 rv t1 => ⟨Z1, δ, A1, _, z.trans s1, rs.mono s1, ra1, t1, fun Z2 d2 A2 v2 H2 s2 ra2 rv2 t2 => l Z2 A2 H2 d d2 v v2 _ _ ra2 (rv.mono s2) rv2 t2 fun Z3 d3 A3 v3 H3 s3 ra3 rv3 t3 => ?_⟩⟩
  cases d3 with
  | bl c =>
    refine ⟨c, rv_bl rv3, ?_⟩
    cases c with
    | true =>
      refine iteT ⟨Z3, δ, A3, _, ((z.trans s1).trans s2).trans s3, ((rs.mono s1).mono s2).mono s3, ra3, t3.1 rfl, fun Z4 d4 A4 v4 H4 s4 ra4 rv4 t4 => l' Z4 A4 H4 d2 d4 v2 v4 _ _ ra4 ((rv2.mono s3).mono s4) rv4 t4 fun Z5 d5 A5 v5 H5 s5 ra5 rv5 t5 => ?_⟩
      cases d5 with
      | bl c5 =>
        refine ⟨c5, rv_bl rv5, ?_⟩
        cases c5 with
        | true =>
          exact iteT ⟨Z5, δ, A5, _, ((((z.trans s1).trans s2).trans s3).trans s4).trans s5, ((((rs.mono s1).mono s2).mono s3).mono s4).mono s5, ra5, t5.1 rfl, fun Z6 d6 A6 v6 H6 s6 ra6 rv6 t6 => l'' Z6 A6 H6 d4 d6 v4 v6 _ _ ra6 ((rv4.mono s5).mono s6) rv6 t6 (Kont.mono k (((((s1.trans s2).trans s3).trans s4).trans s5).trans s6))⟩
        | false => exact iteF (k Z5 _ A5 _ H5 ((((s1.trans s2).trans s3).trans s4).trans s5) ra5 mk_bl (t5.2 rfl))
      | _ => exact t5.elim
    | false => exact iteF (k Z3 _ A3 _ H3 ((s1.trans s2).trans s3) ra3 mk_bl (t3.2 rfl))
  | _ => exact t3.elim
end
section
variable {δ : DSt} {A : AH} {Q : DK}
@[simp ↓] theorem eChain3_eq {rd rd' rd'' : DOp} {ta tb tc td : DE} : eChain3 rd rd' rd'' ta tb tc td δ A Q = ta δ A fun x A1 => tb δ A1 fun y A2 => rd x y A2 fun z A3 => match z with
  | .bl k => (k = true → tc δ A3 fun w A4 => rd' y w A4 fun z A5 => match z with
    | .bl k => (k = true → td δ A5 fun v A6 => rd'' w v A6 Q) ∧ (k = false → Q (.bl false) A5)
    | _ => False) ∧ (k = false → Q (.bl false) A3)
  | _ => False := rfl
@[simp ↓] theorem eIsE_eq {a : Addr} {k : String} {fs : List (String × D)} {tb : List (String × Bool)} {t : DE} : eIsE a k fs tb t δ A Q = t δ A fun d A1 => d = .ref a ∧ fs = [] ∧ (match tb.lookup k with
  | some b => Q (.bl b) A1
  | none => False) := rfl
end
end DL

/-! DLA: the module's texts; more of in, subscripts. -/
namespace DL
open PySem PySem.Spec PyProof.Rows L2
variable {K : PySem.W.Frag} {Z Z' Z0 : Hp} {X : Cx}
theorem qe_gstr {x z : Str} {pos : Pos} (h : ∃ t, X.mg x = some (.str z t)) (hg : Gl X x) (hd : (x == ("__debug__" : Str)) = false := by decide) : QE X Z0 (.Name x pos) (eC (.str z)) := by
  obtain ⟨t, h⟩ := h
  refine PE.imp (pe_glob (v := .str z) hg h ⟨t, rfl⟩ hd) fun σ H Q ⟨Z, δ, A, Kt, zz, rs, ra, q, k⟩ => k Z _ A _ H (Same.refl Z) ra mk_str q
section
variable {δ : DSt} {A : AH} {Q : DK}
@[simp ↓] theorem opIn_sign {b : Bool} {c : Nat} {z : Str} : opIn b (.str ⟨#[c]⟩) (.str z) A Q = Q (.bl (xor b (decide (c ∈ z.cps.toList)))) A := by
  simp [opIn, asDic]
@[simp ↓] theorem opIx_str {z : Str} {i : Int} : opIx (.str z) (.int i) A Q = (Few z.length ∧ (match atI z.cps.toList i with
      | some c => Q (.str ⟨#[c]⟩) A
      | none => False)) := rfl
end
theorem signs_mem {z : Str} {x : D} (h : x ∈ signsD z) : ∃ c, x = .str ⟨#[c]⟩ ∧ c ∈ z.cps.toList := by
  unfold signsD at h
  obtain ⟨c, hc, e⟩ := List.mem_map.mp h
  exact ⟨c, e.symm, hc⟩
theorem cps_app (x y : Str) : (x ++ y).cps.toList = x.cps.toList ++ y.cps.toList := by
  show (x.cps ++ y.cps).toList = _
  simp
theorem str_len (x : Str) : x.length = x.cps.toList.length := by simp [Str.length]
end DL

/-! FR: fractions as rational numbers. -/
namespace FR
open PySem PySem.Spec PyProof.Rows L2 DL
/-- a fraction's value -/
def frD (q : Rat) : D := .tup [.int q.num, .int q.den]
theorem frD_inj {q r : Rat} (h : frD q = frD r) : q = r := by
  unfold frD at h
  simp only [D.tup.injEq, List.cons.injEq, D.int.injEq, and_true] at h
  exact Rat.ext h.1 (by omega)
def deFr : D → Option Rat
  | .tup [.int a, .int b] => if h : 0 < b ∧ a.natAbs.gcd b.natAbs = 1 then some ⟨a, b.natAbs, by omega, h.2⟩ else none
  | _ => none
@[simp] theorem deFr_frD (q : Rat) : deFr (frD q) = some q := by
  unfold frD deFr
  have h : (0 : Int) < (q.den : Int) ∧ q.num.natAbs.gcd (q.den : Int).natAbs = 1 := ⟨by have := q.den_pos; omega, q.reduced⟩
  simp only
  rw [dif_pos h]
  congr 1
theorem deFr_ok {d : D} {q : Rat} (h : deFr d = some q) : d = frD q := by
  unfold deFr at h
  split at h
  · rename_i a b
    split at h
    · rename_i hc
      cases h
      unfold frD
      have : ((b.natAbs : Nat) : Int) = b := by omega
      simp only [this]
    · cases h
  · cases h
section
variable {A : AH} {Q : DK} {q r : Rat}
@[simp ↓] theorem ix0 : opIx (frD q) (.int 0) A Q = Q (.int q.num) A := rfl
@[simp ↓] theorem ix1 : opIx (frD q) (.int 1) A Q = Q (.int q.den) A := rfl
@[simp] theorem ty_fr : tyD A (frD q) = some "tuple" := rfl
@[simp ↓] theorem len_fr : bLen [frD q] A Q = Q (.int 2) A := rfl
@[simp] theorem drf_fr : drf A (frD q) = frD q := rfl
@[simp] theorem dt_fr {n : Nat} : dt (n + 1) (frD q) = true := by unfold frD; simp
@[simp] theorem non_fr : (frD q).isNon = false := rfl
@[simp] theorem deq_fr : deq (frD q) (frD r) = decide (q = r) := by
  unfold frD
  simp only [deq_tup, deqs_cons, deq_int, deqs_nil, Bool.and_true]
  by_cases h : q = r
  · subst h; simp
  · rw [decide_eq_false h]
    apply Bool.eq_false_iff.mpr
    intro e
    simp at e
    exact h (Rat.ext e.1 (by omega))
end
/-! ### sizes -/
def Wd (i : Int) : Prop := i.natAbs < 2 ^ 8000
def Sm (q : Rat) : Prop := q.num.natAbs < 2 ^ 3000 ∧ q.den < 2 ^ 3000
theorem wd_of {i : Int} {k : Nat} (h : i.natAbs < 2 ^ k) (hk : k ≤ 8000) : Wd i := Nat.lt_of_lt_of_le h (Nat.pow_le_pow_right (by decide) hk)
@[simp] theorem wd_lit {n : Int} (h1 : -18446744073709551616 < n) (h2 : n < 18446744073709551616) : Wd n := wd_of (k := 64) (by omega) (by decide)
theorem mul_lt {i j : Int} {a b : Nat} (h1 : i.natAbs < 2 ^ a) (h2 : j.natAbs < 2 ^ b) : (i * j).natAbs < 2 ^ (a + b) := by
  rw [Int.natAbs_mul, Nat.pow_add]
  exact Nat.mul_lt_mul_of_lt_of_le h1 (Nat.le_of_lt h2) (Nat.pow_pos (by decide))
theorem add_lt {i j : Int} {a : Nat} (h1 : i.natAbs < 2 ^ a) (h2 : j.natAbs < 2 ^ a) : (i + j).natAbs < 2 ^ (a + 1) := by
  rw [Nat.pow_succ]
  have := Int.natAbs_add_le i j
  omega
theorem sub_lt {i j : Int} {a : Nat} (h1 : i.natAbs < 2 ^ a) (h2 : j.natAbs < 2 ^ a) : (i - j).natAbs < 2 ^ (a + 1) := by
  rw [Nat.pow_succ]
  have := Int.natAbs_sub_le i j
  omega
/-! ### the lowest terms -/
theorem low_num {a b : Int} (h : b ≠ 0) : (Rat.divInt a b).num = if b < 0 then a.fdiv (-(Int.gcd a b : Int)) else a.fdiv (Int.gcd a b : Int) := by
  rw [Rat.num_divInt, Int.gcd_comm]
  split
  · rename_i hb
    have e : a.fdiv (-(Int.gcd a b : Int)) = (-a).fdiv (Int.gcd a b : Int) := by
      have := Int.neg_fdiv_neg (-a) (Int.gcd a b : Int)
      rw [Int.neg_neg] at this
      exact this
    rw [e, Int.fdiv_eq_ediv_of_nonneg _ (by omega), Int.sign_eq_neg_one_of_neg hb]
    congr 1; omega
  · rename_i hb
    rw [Int.fdiv_eq_ediv_of_nonneg _ (by omega), Int.sign_eq_one_of_pos (by omega), Int.one_mul]
theorem low_den {a b : Int} (h : b ≠ 0) : ((Rat.divInt a b).den : Int) = if b < 0 then b.fdiv (-(Int.gcd a b : Int)) else b.fdiv (Int.gcd a b : Int) := by
  rw [Rat.den_divInt, if_neg h, Int.gcd_comm, Int.natCast_ediv]
  split
  · rename_i hb
    have e : b.fdiv (-(Int.gcd a b : Int)) = (-b).fdiv (Int.gcd a b : Int) := by
      have := Int.neg_fdiv_neg (-b) (Int.gcd a b : Int)
      rw [Int.neg_neg] at this
      exact this
    rw [e, Int.fdiv_eq_ediv_of_nonneg _ (by omega)]
    congr 1; omega
  · rename_i hb
    rw [Int.fdiv_eq_ediv_of_nonneg _ (by omega)]
    congr 1; omega
theorem low_lt {a b : Int} {k : Nat} (h : b ≠ 0) (ha : a.natAbs < 2 ^ k) (hb : b.natAbs < 2 ^ k) : (Rat.divInt a b).num.natAbs < 2 ^ k ∧ (Rat.divInt a b).den < 2 ^ k := by
  constructor
  · refine Nat.lt_of_le_of_lt ?_ ha
    rw [Rat.num_divInt]
    refine Nat.le_trans (Int.natAbs_ediv_le_natAbs _ _) ?_
    rw [Int.natAbs_mul]
    have : b.sign.natAbs ≤ 1 := by
      rcases Int.lt_trichotomy b 0 with h | h | h
      · rw [Int.sign_eq_neg_one_of_neg h]; decide
      · subst h; decide
      · rw [Int.sign_eq_one_of_pos h]; decide
    calc b.sign.natAbs * a.natAbs ≤ 1 * a.natAbs := Nat.mul_le_mul_right _ this
      _ = a.natAbs := Nat.one_mul _
  · refine Nat.lt_of_le_of_lt ?_ hb
    rw [Rat.den_divInt, if_neg h]
    exact Nat.div_le_self _ _
theorem sm_low {a b : Int} {k : Nat} (h : b ≠ 0) (ha : a.natAbs < 2 ^ k) (hb : b.natAbs < 2 ^ k) (hk : k ≤ 3000) : Sm (Rat.divInt a b) :=
  have l := low_lt h ha hb
  ⟨Nat.lt_of_lt_of_le l.1 (Nat.pow_le_pow_right (by decide) hk), Nat.lt_of_lt_of_le l.2 (Nat.pow_le_pow_right (by decide) hk)⟩
theorem gcd_pos {a b : Int} (h : b ≠ 0) : 0 < (Int.gcd a b : Int) := by have := Int.gcd_pos_of_ne_zero_right a h; omega
theorem gcd_lt {a b : Int} {k : Nat} (h : b ≠ 0) (hb : b.natAbs < 2 ^ k) : (Int.gcd a b : Int).natAbs < 2 ^ k := by
  have := Int.gcd_le_natAbs_right a h
  omega
theorem gcd_ok {a b : Int} (h : b ≠ 0) (hb : Wd b) : DivOk (Int.gcd a b) ∧ DivOk (-(Int.gcd a b : Int)) := by
  have p := gcd_pos (a := a) h
  have l := gcd_lt (a := a) h hb
  exact ⟨divOk_of (by omega) l (by decide), divOk_of (by omega) (by omega : (-(Int.gcd a b : Int)).natAbs < 2 ^ 8000) (by decide)⟩
/-! ### sums and products -/
theorem add_fr (q r : Rat) : Rat.divInt (q.num * r.den + r.num * q.den) (q.den * r.den) = q + r := by
  have h1 : (q.den : Int) ≠ 0 := by have := q.den_pos; omega
  have h2 : (r.den : Int) ≠ 0 := by have := r.den_pos; omega
  have := Rat.divInt_add_divInt q.num r.num h1 h2
  rw [Rat.num_divInt_den, Rat.num_divInt_den] at this
  exact this.symm
theorem sub_fr (q r : Rat) : Rat.divInt (q.num * r.den - r.num * q.den) (q.den * r.den) = q - r := by
  have h1 : (q.den : Int) ≠ 0 := by have := q.den_pos; omega
  have h2 : (r.den : Int) ≠ 0 := by have := r.den_pos; omega
  have := Rat.divInt_sub_divInt q.num r.num h1 h2
  rw [Rat.num_divInt_den, Rat.num_divInt_den] at this
  exact this.symm
theorem mul_fr (q r : Rat) : Rat.divInt (q.num * r.num) (q.den * r.den) = q * r := by
  have := Rat.divInt_mul_divInt q.num r.num (d₁ := q.den) (d₂ := r.den)
  rw [Rat.num_divInt_den, Rat.num_divInt_den] at this
  exact this.symm
theorem div_fr (q r : Rat) : Rat.divInt (q.num * r.den) (q.den * r.num) = q / r := by
  have := Rat.divInt_mul_divInt q.num r.den (d₁ := q.den) (d₂ := r.num)
  rw [Rat.num_divInt_den] at this
  rw [Rat.div_def, Rat.inv_def, this]
theorem den_ne (q : Rat) : (q.den : Int) ≠ 0 := by have := q.den_pos; omega
theorem den_mul_ne (q r : Rat) : (q.den : Int) * (r.den : Int) ≠ 0 := Int.mul_ne_zero (den_ne q) (den_ne r)
theorem num_ne {r : Rat} (h : r ≠ 0) : r.num ≠ 0 := fun e => h (Rat.num_eq_zero.mp e)
section
variable {q r : Rat}
theorem sm_d (h : Sm q) : (q.den : Int).natAbs < 2 ^ 3000 := by have := h.2; omega
theorem mm1 (h : Sm q) (g : Sm r) : DL.MulOk q.num r.den := mulOk_of h.1 (sm_d g) (by decide)
theorem mm2 (h : Sm q) (g : Sm r) : DL.MulOk q.num r.num := mulOk_of h.1 g.1 (by decide)
theorem mm3 (h : Sm q) (g : Sm r) : DL.MulOk (q.den : Int) (r.den : Int) := mulOk_of (sm_d h) (sm_d g) (by decide)
theorem mm4 (h : Sm q) (g : Sm r) : DL.MulOk (q.den : Int) r.num := mulOk_of (sm_d h) g.1 (by decide)
theorem w_add (h : Sm q) (g : Sm r) : Wd (q.num * r.den + r.num * q.den) := wd_of (add_lt (mul_lt h.1 (sm_d g)) (mul_lt g.1 (sm_d h))) (by decide)
theorem w_sub (h : Sm q) (g : Sm r) : Wd (q.num * r.den - r.num * q.den) := wd_of (sub_lt (mul_lt h.1 (sm_d g)) (mul_lt g.1 (sm_d h))) (by decide)
theorem w_den (h : Sm q) (g : Sm r) : Wd ((q.den : Int) * (r.den : Int)) := wd_of (mul_lt (sm_d h) (sm_d g)) (by decide)
theorem w_nn (h : Sm q) (g : Sm r) : Wd (q.num * r.num) := wd_of (mul_lt h.1 g.1) (by decide)
theorem w_nd (h : Sm q) (g : Sm r) : Wd (q.num * (r.den : Int)) := wd_of (mul_lt h.1 (sm_d g)) (by decide)
theorem w_dn (h : Sm q) (g : Sm r) : Wd ((q.den : Int) * r.num) := wd_of (mul_lt (sm_d h) g.1) (by decide)
end
end FR

namespace K11
open PySem PySem.Spec PyProof.Rows L2 DL FR
def sp_divisor : DSp := fun ds A Q _ => match ds with
  | [.int a, .int b] => Q (.int (Int.gcd a b)) A
  | _ => False
@[simp ↓] theorem sp_divisor_eq {A : AH} {Q : DK} {E : DX} {a b : Int} : sp_divisor [.int a, .int b] A Q E = Q (.int (Int.gcd a b)) A := rfl
def isIntD : D → Bool
  | .int _ => true
  | _ => false
def sp_is_whole : DSp := fun ds A Q _ => match ds with
  | [d] => (tyD A d).isSome = true ∧ Q (.bl (isIntD d)) A
  | _ => False
@[simp ↓] theorem sp_is_whole_eq {A : AH} {Q : DK} {E : DX} {d : D} : sp_is_whole [d] A Q E = ((tyD A d).isSome = true ∧ Q (.bl (isIntD d)) A) := rfl
def nameB (z : Str) : Bool := decide (1 ≤ z.length ∧ z.length ≤ 8) && z.cps.toList.all fun c => decide (97 ≤ c ∧ c ≤ 122)
def sp_is_name : DSp := fun ds A Q _ => match ds with
  | [.str z] => Few z.length ∧ Q (.bl (nameB z)) A
  | [d] => ((tyD A d).isSome = true ∧ tyD A d ≠ some "str") ∧ Q (.bl false) A
  | _ => False
@[simp ↓] theorem sp_is_name_str {A : AH} {Q : DK} {E : DX} {z : Str} : sp_is_name [.str z] A Q E = (Few z.length ∧ Q (.bl (nameB z)) A) := rfl
@[simp ↓] theorem sp_is_name_tup {A : AH} {Q : DK} {E : DX} {l : List D} : sp_is_name [.tup l] A Q E = Q (.bl false) A := by simp [sp_is_name]
@[simp ↓] theorem sp_is_name_lst {A : AH} {Q : DK} {E : DX} {l : List D} : sp_is_name [.lst l] A Q E = Q (.bl false) A := by simp [sp_is_name]
@[simp ↓] theorem sp_is_name_int {A : AH} {Q : DK} {E : DX} {i : Int} : sp_is_name [.int i] A Q E = Q (.bl false) A := by simp [sp_is_name]
@[simp ↓] theorem sp_is_name_non {A : AH} {Q : DK} {E : DX} : sp_is_name [.non] A Q E = Q (.bl false) A := by simp [sp_is_name]
def fracB : D → Bool
  | .tup [.int a, .int b] => decide (1 ≤ b) && decide (Int.gcd a b = 1)
  | _ => false
def tyOk (A : AH) : D → Bool
  | .tup l => l.all fun d => (tyD A d).isSome
  | d => (tyD A d).isSome
def sp_is_fraction : DSp := fun ds A Q _ => match ds with
  | [d] => tyOk A d = true ∧ Q (.bl (fracB d)) A
  | _ => False
@[simp ↓] theorem sp_is_fraction_eq {A : AH} {Q : DK} {E : DX} {d : D} : sp_is_fraction [d] A Q E = (tyOk A d = true ∧ Q (.bl (fracB d)) A) := rfl
def sp__law_divisor : DSp := fun ds A Q _ => match ds with
  | [.int a, .int b] => Q (.int (Int.gcd a b)) A
  | _ => False
@[simp ↓] theorem sp__law_divisor_eq {A : AH} {Q : DK} {E : DX} {a b : Int} : sp__law_divisor [.int a, .int b] A Q E = Q (.int (Int.gcd a b)) A := rfl
def Lets (z : Str) : Prop := ∀ c ∈ z.cps.toList, 97 ≤ c ∧ c ≤ 122
def sp__law_text : DSp := fun ds A Q _ => match ds with
  | [.int _] => ∀ z : Str, z.length ≤ 10 → Lets z → Q (.str z) A
  | _ => False
@[simp ↓] theorem sp__law_text_eq {A : AH} {Q : DK} {E : DX} {a : Int} : sp__law_text [.int a] A Q E = (∀ z : Str, z.length ≤ 10 → Lets z → Q (.str z) A) := rfl
def sp__law_bent : DSp := fun ds A Q _ => match ds with
  | [.str z, .int _] => z.length ≤ 10 ∧ ∀ y : Str, y.length ≤ 30 → (∃ c ∈ y.cps.toList, ¬ (97 ≤ c ∧ c ≤ 122)) → Q (.str y) A
  | _ => False
@[simp ↓] theorem sp__law_bent_eq {A : AH} {Q : DK} {E : DX} {a : Int} {z : Str} : sp__law_bent [.str z, .int a] A Q E = (z.length ≤ 10 ∧ ∀ y : Str, y.length ≤ 30 → (∃ c ∈ y.cps.toList, ¬ (97 ≤ c ∧ c ≤ 122)) → Q (.str y) A) := rfl
def sp__law_truth : DSp := fun ds A Q _ => match ds with
  | [.bl a, .bl b] => Q (.bl (a == b)) A
  | _ => False
@[simp ↓] theorem sp__law_truth_eq {A : AH} {Q : DK} {E : DX} {a b : Bool} : sp__law_truth [.bl a, .bl b] A Q E = Q (.bl (a == b)) A := rfl
def sp__law_pair : DSp := fun ds A Q _ => match ds with
  | [.int _] => ∀ t b : Int, Num t → Num b → Q (.tup [.int t, .int b]) A
  | _ => False
@[simp ↓] theorem sp__law_pair_eq {A : AH} {Q : DK} {E : DX} {a : Int} : sp__law_pair [.int a] A Q E = (∀ t b : Int, Num t → Num b → Q (.tup [.int t, .int b]) A) := rfl
def sp__law_numbers : DSp := fun ds A Q _ => match ds with
  | [.int _] => Q (.bl true) A
  | _ => False
@[simp ↓] theorem sp__law_numbers_eq {A : AH} {Q : DK} {E : DX} {a : Int} : sp__law_numbers [.int a] A Q E = Q (.bl true) A := rfl
def t_divisor (w : DW) : DS :=
  (sSeq (sAsg (eCB bAbs (aCons (eVar 0) aNil)) (dgName 0))
  (sSeq (sAsg (eCB bAbs (aCons (eVar 1) aNil)) (dgName 1))
  (sSeq (sWhile (bE (eBin (opCmp fun i j => decide (j < i)) (eVar 1) (eC (.int 0))))
  (sPar 0 1 (aCons (eVar 1) (aCons (eBin opMod (eVar 0) (eVar 1)) aNil))))
  (sRet (eVar 0)))))
def t_is_whole (w : DW) : DS :=
  (sRet (eAnd (eIsi "int" (eVar 0)) (eNot (eIsi "bool" (eVar 0)))))
def t_is_name (w : DW) : DS :=
  (sSeq (sIf (bOr (bNot (bE (eIsi "str" (eVar 0)))) (bOr (bE (eBin (opCmp fun i j => decide (i < j)) (eCB bLen (aCons (eVar 0) aNil)) (eC (.int 1)))) (bE (eBin (opCmp fun i j => decide (j < i)) (eCB bLen (aCons (eVar 0) aNil)) (eC (.int 8))))))
  (sRet (eC (.bl false)))
  sNext)
  (sSeq (sFor (iText (eVar 0)) (dgName 1)
  (sIf (bE (eBin (opIn true) (eVar 1) (eC (.str ("abcdefghijklmnopqrstuvwxyz" : Str)))))
  (sRet (eC (.bl false)))
  sNext))
  (sRet (eC (.bl true)))))
def t_is_fraction (w : DW) : DS :=
  (sSeq (sIf (bOr (bNot (bE (eIsi "tuple" (eVar 0)))) (bE (eBin (opEq true) (eCB bLen (aCons (eVar 0) aNil)) (eC (.int 2)))))
  (sRet (eC (.bl false)))
  sNext)
  (sSeq (sIf (bOr (bNot (bE (eCall w sp_is_whole [] (aCons (eBin opIx (eVar 0) (eC (.int 0))) aNil)))) (bOr (bNot (bE (eCall w sp_is_whole [] (aCons (eBin opIx (eVar 0) (eC (.int 1))) aNil)))) (bE (eBin (opCmp fun i j => decide (i < j)) (eBin opIx (eVar 0) (eC (.int 1))) (eC (.int 1))))))
  (sRet (eC (.bl false)))
  sNext)
  (sRet (eBin (opEq false) (eCall w sp_divisor [] (aCons (eBin opIx (eVar 0) (eC (.int 0))) (aCons (eBin opIx (eVar 0) (eC (.int 1))) aNil))) (eC (.int 1))))))
def t__law_divisor (w : DW) : DS :=
  (sSeq (sAsg (eCB bAbs (aCons (eVar 0) aNil)) (dgName 0))
  (sSeq (sAsg (eCB bAbs (aCons (eVar 1) aNil)) (dgName 1))
  (sSeq (sWhile (bE (eBin (opCmp fun i j => decide (j < i)) (eVar 1) (eC (.int 0))))
  (sPar 0 1 (aCons (eVar 1) (aCons (eBin opMod (eVar 0) (eVar 1)) aNil))))
  (sRet (eVar 0)))))
def t__law_text (w : DW) : DS :=
  (sSeq (sAsg (eC (.str ("abcdefghijklmnopqrstuvwxyz" : Str))) (dgName 1))
  (sSeq (sAsg (eBin opDiv (eBin opMod (eBin opMul (eVar 0) (eC (.int 48271))) (eC (.int 2147483647))) (eC (.int 37))) (dgName 2))
  (sSeq (sAsg (eC (.str ("" : Str))) (dgName 3))
  (sSeq (sFor (iRng1 (aCons (eBin opMod (eVar 2) (eC (.int 11))) aNil)) (dgName 4)
  (sAsg (eBin (opAdd mkF) (eVar 3) (eBin opIx (eVar 1) (eBin opMod (eBin (opAdd mkF) (eBin opDiv (eVar 2) (eC (.int 11))) (eBin opMul (eBin opMul (eVar 4) (eVar 4)) (eBin (opAdd mkF) (eC (.int 1)) (eBin opMod (eVar 2) (eC (.int 5)))))) (eC (.int 26))))) (dgName 3)))
  (sRet (eVar 3))))))
def t__law_bent (w : DW) : DS :=
  (sSeq (sAsg (eBin opDiv (eBin opMod (eBin opMul (eVar 1) (eC (.int 69621))) (eC (.int 2147483629))) (eC (.int 37))) (dgName 2))
  (sSeq (sAsg (eBin opMod (eVar 2) (eBin (opAdd mkF) (eCB bLen (aCons (eVar 0) aNil)) (eC (.int 1)))) (dgName 3))
  (sSeq (sAsg (eBin opIx (eLst mkF (aCons (eC (.str ("A" : Str))) (aCons (eC (.str ("Z" : Str))) (aCons (eC (.str ("0" : Str))) (aCons (eC (.str (" " : Str))) (aCons (eC (.str ("\n" : Str))) (aCons (eC (.str ("." : Str))) (aCons (eC (.str ("_" : Str))) (aCons (eC (.str ("-" : Str))) aNil))))))))) (eBin opMod (eBin opDiv (eVar 2) (eC (.int 11))) (eC (.int 8)))) (dgName 4))
  (sRet (eBin (opAdd mkF) (eBin (opAdd mkF) (eSl mkF (eVar 0) oNone (oSome (eVar 3))) (eVar 4)) (eSl mkF (eVar 0) (oSome (eVar 3)) oNone))))))
def t__law_truth (w : DW) : DS :=
  (sRet (eAnd (eIsi "bool" (eVar 0)) (eBin (opEq false) (eVar 0) (eVar 1))))
def t__law_pair (w : DW) : DS :=
  (sSeq (sAsg (eBin opDiv (eBin opMod (eBin opMul (eVar 0) (eC (.int 48271))) (eC (.int 2147483647))) (eC (.int 37))) (dgName 1))
  (sSeq (sAsg (eBin opSub (eBin opMod (eVar 1) (eC (.int 61))) (eC (.int 30))) (dgName 2))
  (sSeq (sAsg (eBin opSub (eBin opMod (eBin opDiv (eVar 1) (eC (.int 61))) (eC (.int 21))) (eC (.int 2))) (dgName 3))
  (sSeq (sIf (bE (eBin (opEq false) (eBin opMod (eVar 1) (eC (.int 5))) (eC (.int 1))))
  (sSeq (sAsg (eBin opMod (eVar 0) (eBin opPow (eC (.int 10)) (eC (.int 60)))) (dgName 2))
  (sAsg (eBin (opAdd mkF) (eC (.int 1)) (eBin opMod (eBin opDiv (eVar 0) (eC (.int 3))) (eBin opPow (eC (.int 10)) (eC (.int 59))))) (dgName 3)))
  sNext)
  (sRet (eTup (aCons (eVar 2) (aCons (eVar 3) aNil))))))))
def t__law_numbers (w : DW) : DS :=
  (sSeq (sAsg (eCall w sp__law_pair [] (aCons (eVar 0) aNil)) (dgTup 2 (dgCons (dgName 1) (dgCons (dgName 2) dgNil))))
  (sSeq (sAsg (eAnd (eBin (opCmp fun i j => decide (j < i)) (eVar 2) (eC (.int 0))) (eBin (opEq false) (eCall w sp__law_divisor [] (aCons (eVar 1) (aCons (eVar 2) aNil))) (eC (.int 1)))) (dgName 3))
  (sSeq (sIf (bNot (bE (eCall w sp__law_truth [] (aCons (eCall w sp_is_fraction [] (aCons (eTup (aCons (eVar 1) (aCons (eVar 2) aNil))) aNil)) (aCons (eVar 3) aNil)))))
  (sRet (eC (.bl false)))
  sNext)
  (sSeq (sFor (iSeq (eLst mkF (aCons (eLst mkF (aCons (eVar 1) (aCons (eVar 2) aNil))) (aCons (eTup (aCons (eVar 1) aNil)) (aCons (eTup (aCons (eVar 1) (aCons (eVar 2) (aCons (eC (.int 1)) aNil)))) (aCons (eTup (aCons (eVar 1) (aCons (eC (.bl true)) aNil))) (aCons (eTup (aCons (eC (.bl false)) (aCons (eC (.int 1)) aNil))) (aCons (eTup (aCons (eCB bStr (aCons (eVar 1) aNil)) (aCons (eC (.int 1)) aNil))) (aCons (eVar 1) (aCons (eC .non) aNil)))))))))) (dgName 4)
  (sIf (bNot (bE (eCall w sp__law_truth [] (aCons (eCall w sp_is_fraction [] (aCons (eVar 4) aNil)) (aCons (eC (.bl false)) aNil)))))
  (sRet (eC (.bl false)))
  sNext))
  (sRet (eC (.bl true)))))))
def t_law (w : DW) : DS :=
  (sSeq (sFor (iSeq (eSl mkF (eVar 0) oNone (oSome (eC (.int 98))))) (dgName 1)
  (sSeq (sAsg (eCall w sp__law_text [] (aCons (eVar 1) aNil)) (dgName 2))
  (sSeq (sIf (bOr (bNot (bE (eCall w sp__law_truth [] (aCons (eCall w sp_is_name [] (aCons (eVar 2) aNil)) (aCons (eChain (opCmp fun i j => decide (i < j)) (opCmp fun i j => decide (i < j)) (eC (.int 0)) (eCB bLen (aCons (eVar 2) aNil)) (eC (.int 9))) aNil))))) (bNot (bE (eCall w sp__law_truth [] (aCons (eCall w sp_is_name [] (aCons (eCall w sp__law_bent [] (aCons (eVar 2) (aCons (eVar 1) aNil))) aNil)) (aCons (eC (.bl false)) aNil))))))
  (sRet (eC (.bl false)))
  sNext)
  (sSeq (sIf (bOr (bNot (bE (eCall w sp__law_truth [] (aCons (eCall w sp_is_name [] (aCons (eTup (aCons (eVar 2) aNil)) aNil)) (aCons (eC (.bl false)) aNil))))) (bNot (bE (eCall w sp__law_truth [] (aCons (eCall w sp_is_name [] (aCons (eBin opMod (eVar 1) (eBin opPow (eC (.int 10)) (eC (.int 60)))) aNil)) (aCons (eC (.bl false)) aNil))))))
  (sRet (eC (.bl false)))
  sNext)
  (sIf (bNot (bE (eCall w sp__law_numbers [] (aCons (eVar 1) aNil))))
  (sRet (eC (.bl false)))
  sNext)))))
  (sRet (eAnd (eCall w sp__law_truth [] (aCons (eCall w sp_is_name [] (aCons (eC (.str ("" : Str))) aNil)) (aCons (eC (.bl false)) aNil))) (eAnd (eCall w sp__law_truth [] (aCons (eCall w sp_is_name [] (aCons (eLst mkF (aCons (eC (.str ("a" : Str))) aNil)) aNil)) (aCons (eC (.bl false)) aNil))) (eCall w sp__law_truth [] (aCons (eCall w sp_is_name [] (aCons (eC .non) aNil)) (aCons (eC (.bl false)) aNil)))))))
theorem len_divisor {ds A Q E} (h : sp_divisor ds A Q E) : ds.length = 2 := by unfold sp_divisor at h; split at h <;> first | rfl | exact h.elim
theorem rd_divisor {ds A Q E} (h : sp_divisor ds A Q E) : t_divisor (fun c fs _ A => E c fs A) { nx := fun _ A => Q .non A, rt := Q } (startD 2 ds) A := by
  unfold sp_divisor at h
  split at h
  case h_2 => exact h.elim
  rename_i a b
  have q := h
  unfold t_divisor
  simp [sWhile_eq]
  have key : ∀ (n : Nat) (x y : Nat), y < n → Int.gcd a b = Nat.gcd x y → whileN (bE (eBin (opCmp fun i j => decide (j < i)) (eVar 1) (eC (.int 0)))) (sPar 0 1 (aCons (eVar 1) (aCons (eBin opMod (eVar 0) (eVar 1)) aNil)))
      { nx := sRet (eVar 0) { nx := fun _ A => Q .non A, rt := Q }, rt := Q } n [some (.int x), some (.int y)] A := by
    intro n
    induction n with
    | zero => intro x y h; omega
    | succ n ih =>
      intro x y hy e
      unfold whileN
      by_cases h0 : y = 0
      · subst h0
        simp
        rw [Nat.gcd_zero_right] at e
        rw [e] at q
        exact q
      · have hp : 0 < y := by omega
        simp [hp, h0]
        have e2 : (x : Int).fmod (y : Int) = ((x % y : Nat) : Int) := by rw [Int.fmod_eq_emod_of_nonneg _ (by omega)]; rfl
        rw [e2]
        refine ih y (x % y) (by have := Nat.mod_lt x (show 0 < y by omega); omega) ?_
        rw [e, Nat.gcd_comm x y, Nat.gcd_rec y x, Nat.gcd_comm]
  exact ⟨b.natAbs + 1, key _ a.natAbs b.natAbs (by omega) rfl⟩
theorem len_is_whole {ds A Q E} (h : sp_is_whole ds A Q E) : ds.length = 1 := by unfold sp_is_whole at h; split at h <;> first | rfl | exact h.elim
theorem ty_int_iff {A : AH} {d : D} {s : String} (h : tyD A d = some s) : isIntD d = (instB s "int" && !instB s "bool") := by
  cases d with
  | ref a =>
    have h' : (match A a with | some (.lst _) => some "list" | some (.dic _) => some "dict" | _ => none) = some s := h
    split at h' <;> cases h' <;> rfl
  | obj _ _ _ => cases h
  | _ => cases h; rfl
theorem rd_is_whole {ds A Q E} (h : sp_is_whole ds A Q E) : t_is_whole (fun c fs _ A => E c fs A) { nx := fun _ A => Q .non A, rt := Q } (startD 1 ds) A := by
  unfold sp_is_whole at h
  split at h
  case h_2 => exact h.elim
  rename_i d
  obtain ⟨h1, k⟩ := h
  obtain ⟨s, hs⟩ := Option.isSome_iff_exists.mp h1
  rw [ty_int_iff hs] at k
  unfold t_is_whole
  simp [eAnd_eq, hs]
  cases h2 : instB s "int" <;> simp [h2] at k ⊢ <;> exact k
theorem len_is_name {ds A Q E} (h : sp_is_name ds A Q E) : ds.length = 1 := by unfold sp_is_name at h; split at h <;> first | rfl | exact h.elim
theorem letters_mem (c : Nat) : decide (c ∈ ("abcdefghijklmnopqrstuvwxyz" : Str).cps.toList) = decide (97 ≤ c ∧ c ≤ 122) := by
  have e : ("abcdefghijklmnopqrstuvwxyz" : Str).cps.toList = [97,98,99,100,101,102,103,104,105,106,107,108,109,110,111,112,113,114,115,116,117,118,119,120,121,122] := by decide +kernel
  rw [e]
  apply decide_eq_decide.mpr
  simp only [List.mem_cons, List.not_mem_nil, or_false]
  omega
theorem instB_str {s : String} (h : s ≠ "str") : instB s "str" = false := by
  unfold instB; simp [h]
theorem rd_is_name {ds A Q E} (h : sp_is_name ds A Q E) : t_is_name (fun c fs _ A => E c fs A) { nx := fun _ A => Q .non A, rt := Q } (startD 2 ds) A := by
  unfold sp_is_name at h
  split at h
  · rename_i z
    obtain ⟨hf, k⟩ := h
    unfold t_is_name
    by_cases hl : 1 ≤ z.length ∧ z.length ≤ 8
    · have h1 : ¬ ((z.length : Int) < 1) := by omega
      have h2 : ¬ ((8 : Int) < z.length) := by omega
      have h3 : z.length ≠ 0 := by omega
      have h4 : ¬ 8 < z.length := by omega
      simp [sIf_eq, bOr_eq, instB, hf, h1, h2, h3, h4, sFor_eq]
      have hall : nameB z = z.cps.toList.all fun c => decide (97 ≤ c ∧ c ≤ 122) := by unfold nameB; simp [hl]
      rw [hall] at k
      refine forD_ind (fun l δ A' => A' = A ∧ (∃ o, δ = [some (.str z), o]) ∧ ∃ cs : List Nat, l = cs.map (fun c => D.str ⟨#[c]⟩) ∧ Q (.bl (cs.all fun c => decide (97 ≤ c ∧ c ≤ 122))) A) (fun _ _ _ _ => trivial) ?_ ?_ _ _ _ ⟨rfl, ⟨_, rfl⟩, _, rfl, k⟩
      · rintro δ A' ⟨rfl, ⟨o, rfl⟩, cs, e, k⟩
        cases cs with
        | nil => simpa using k
        | cons c cs => cases e
      · rintro x l δ A' N hN ⟨rfl, ⟨o, rfl⟩, cs, e, k⟩
        cases cs with
        | nil => cases e
        | cons c cs =>
          simp only [List.map_cons, List.cons.injEq] at e
          obtain ⟨rfl, rfl⟩ := e
          have lm := letters_mem c
          simp [sIf_eq, -List.mem_toArray]
          rw [List.all_cons] at k
          have lm2 : (c ∈ ("abcdefghijklmnopqrstuvwxyz" : Str).cps.toList) ↔ (97 ≤ c ∧ c ≤ 122) := decide_eq_decide.mp lm
          simp only [Array.mem_toList_iff] at lm2
          by_cases hc : 97 ≤ c ∧ c ≤ 122
          · rw [decide_eq_true hc, Bool.true_and] at k
            exact ⟨fun hh => absurd (lm2.mpr hc) hh, fun _ => hN _ _ ⟨rfl, ⟨_, rfl⟩, cs, rfl, k⟩⟩
          · rw [decide_eq_false hc, Bool.false_and] at k
            exact ⟨fun _ => k, fun hh => absurd (lm2.mp hh) hc⟩
    · have e : nameB z = false := by unfold nameB; simp [hl]
      rw [e] at k
      by_cases h1 : z.length < 1
      · have h3 : z.length = 0 := by omega
        simp [sIf_eq, bOr_eq, instB, h3]
        simpa using k
      · have h2 : 8 < z.length := by omega
        have h3 : z.length ≠ 0 := by omega
        have h5 : ¬ z.length ≤ 0 := by omega
        have h6 : ¬ ((z.length : Int) < 1) := by omega
        simp [sIf_eq, bOr_eq, instB, hf, h2, h3, h6]
        first | exact k | exact ⟨fun _ => k, fun hh => absurd hh (by omega)⟩ | exact fun hh => absurd hh (by omega)
  · rename_i d _
    obtain ⟨⟨h1, h2⟩, k⟩ := h
    obtain ⟨s, hs⟩ := Option.isSome_iff_exists.mp h1
    have hi := instB_str (s := s) (fun e => h2 (by rw [hs, e]))
    unfold t_is_name
    simp [sIf_eq, bOr_eq, hs, hi]
    exact k
  · exact h.elim
theorem len_is_fraction {ds A Q E} (h : sp_is_fraction ds A Q E) : ds.length = 1 := by unfold sp_is_fraction at h; split at h <;> first | rfl | exact h.elim
theorem isInt_ok {d : D} (h : isIntD d = true) : ∃ i, d = .int i := by
  cases d <;> first | exact ⟨_, rfl⟩ | cases h
theorem ty_tup_iff {A : AH} {d : D} {s : String} (h : tyD A d = some s) (hn : ∀ l, d ≠ .tup l) : instB s "tuple" = false := by
  cases d with
  | ref a =>
    have h' : (match A a with | some (.lst _) => some "list" | some (.dic _) => some "dict" | _ => none) = some s := h
    split at h' <;> cases h' <;> rfl
  | obj _ _ _ => cases h
  | tup l => exact absurd rfl (hn l)
  | _ => cases h; rfl
theorem rd_is_fraction {ds A Q E} (h : sp_is_fraction ds A Q E) : t_is_fraction (fun c fs _ A => E c fs A) { nx := fun _ A => Q .non A, rt := Q } (startD 1 ds) A := by
  unfold sp_is_fraction at h
  split at h
  case h_2 => exact h.elim
  rename_i d
  obtain ⟨h1, k⟩ := h
  unfold t_is_fraction
  by_cases ht : ∃ l, d = .tup l
  · obtain ⟨l, rfl⟩ := ht
    match l, h1, k with
    | [], _, k =>
      have e : fracB (.tup []) = false := rfl
      rw [e] at k
      simp [sIf_eq, bOr_eq, instB]; exact k
    | [x], _, k =>
      have e : fracB (.tup [x]) = false := by cases x <;> rfl
      rw [e] at k
      simp [sIf_eq, bOr_eq, instB]; exact k
    | x :: y :: z :: r, _, k =>
      have e : fracB (.tup (x :: y :: z :: r)) = false := by cases x <;> first | rfl | (cases y <;> rfl)
      rw [e] at k
      simp [sIf_eq, bOr_eq, instB]
      exact ⟨fun _ => k, fun hh => absurd hh (by omega)⟩
    | [x, y], h1, k =>
      simp only [tyOk, List.all_cons, List.all_nil, Bool.and_true, Bool.and_eq_true] at h1
      obtain ⟨g1, g2⟩ := h1
      cases hx : isIntD x with
      | false =>
        have e : fracB (.tup [x, y]) = false := by cases x <;> first | rfl | cases hx
        rw [e] at k
        simp [sIf_eq, bOr_eq, instB, g1, g2, hx]
        exact k
      | true =>
        obtain ⟨a, rfl⟩ := isInt_ok hx
        cases hy : isIntD y with
        | false =>
          have e : fracB (.tup [.int a, y]) = false := by cases y <;> first | rfl | cases hy
          rw [e] at k
          simp [sIf_eq, bOr_eq, instB, g1, g2, hx, hy]
          exact k
        | true =>
          obtain ⟨b, rfl⟩ := isInt_ok hy
          have e : fracB (.tup [.int a, .int b]) = (decide (1 ≤ b) && decide (Int.gcd a b = 1)) := rfl
          rw [e] at k
          by_cases hb : b < 1
          · have hb2 : ¬ 1 ≤ b := by omega
            simp [hb2] at k
            simp [sIf_eq, bOr_eq, instB, hx, hy, hb]
            exact k
          · have hb2 : 1 ≤ b := by omega
            simp [hb2] at k
            simp [sIf_eq, bOr_eq, instB, hx, hy, hb]
            have e2 : ((Int.gcd a b : Int) == 1) = decide (Int.gcd a b = 1) := by
              by_cases hg : Int.gcd a b = 1
              · simp [hg]
              · simp [hg]; omega
            first | exact k | (rw [e2]; exact k) | simpa [e2] using k
  · have h2 : (tyD A d).isSome = true := by
      cases d with
      | tup l => exact absurd ⟨l, rfl⟩ ht
      | _ => exact h1
    obtain ⟨s, hs⟩ := Option.isSome_iff_exists.mp h2
    have hi := ty_tup_iff hs fun l e => ht ⟨l, e⟩
    have e : fracB d = false := by cases d <;> first | rfl | exact absurd ⟨_, rfl⟩ ht
    rw [e] at k
    simp [sIf_eq, bOr_eq, hs, hi]
    exact k
theorem len__law_divisor {ds A Q E} (h : sp__law_divisor ds A Q E) : ds.length = 2 := by unfold sp__law_divisor at h; split at h <;> first | rfl | exact h.elim
theorem rd__law_divisor {ds A Q E} (h : sp__law_divisor ds A Q E) : t__law_divisor (fun c fs _ A => E c fs A) { nx := fun _ A => Q .non A, rt := Q } (startD 2 ds) A := by
  unfold sp__law_divisor at h
  split at h
  case h_2 => exact h.elim
  rename_i a b
  have q := h
  unfold t__law_divisor
  simp [sWhile_eq]
  have key : ∀ (n : Nat) (x y : Nat), y < n → Int.gcd a b = Nat.gcd x y → whileN (bE (eBin (opCmp fun i j => decide (j < i)) (eVar 1) (eC (.int 0)))) (sPar 0 1 (aCons (eVar 1) (aCons (eBin opMod (eVar 0) (eVar 1)) aNil)))
      { nx := sRet (eVar 0) { nx := fun _ A => Q .non A, rt := Q }, rt := Q } n [some (.int x), some (.int y)] A := by
    intro n
    induction n with
    | zero => intro x y h; omega
    | succ n ih =>
      intro x y hy e
      unfold whileN
      by_cases h0 : y = 0
      · subst h0
        simp
        rw [Nat.gcd_zero_right] at e
        rw [e] at q
        exact q
      · have hp : 0 < y := by omega
        simp [hp, h0]
        have e2 : (x : Int).fmod (y : Int) = ((x % y : Nat) : Int) := by rw [Int.fmod_eq_emod_of_nonneg _ (by omega)]; rfl
        rw [e2]
        refine ih y (x % y) (by have := Nat.mod_lt x (show 0 < y by omega); omega) ?_
        rw [e, Nat.gcd_comm x y, Nat.gcd_rec y x, Nat.gcd_comm]
  exact ⟨b.natAbs + 1, key _ a.natAbs b.natAbs (by omega) rfl⟩
theorem len__law_text {ds A Q E} (h : sp__law_text ds A Q E) : ds.length = 1 := by unfold sp__law_text at h; split at h <;> first | rfl | exact h.elim
theorem fmod_bd (x m : Int) (hm : 0 < m) : 0 ≤ x.fmod m ∧ x.fmod m < m := by rw [Int.fmod_eq_emod_of_nonneg _ (by omega)]; exact ⟨Int.emod_nonneg _ (by omega), Int.emod_lt_of_pos _ hm⟩
theorem letter_at {j : Int} (h0 : 0 ≤ j) (h1 : j < 26) : atI ("abcdefghijklmnopqrstuvwxyz" : Str).cps.toList j = some (97 + j.toNat) := by
  have e : ("abcdefghijklmnopqrstuvwxyz" : Str).cps.toList = [97,98,99,100,101,102,103,104,105,106,107,108,109,110,111,112,113,114,115,116,117,118,119,120,121,122] := by decide +kernel
  rw [e]
  have := atI_nat [97,98,99,100,101,102,103,104,105,106,107,108,109,110,111,112,113,114,115,116,117,118,119,120,121,122] j.toNat
  rw [show ((j.toNat : Nat) : Int) = j by omega] at this
  rw [this]
  have hk : j.toNat < 26 := by omega
  generalize j.toNat = n at hk
  have : ∀ n : Fin 26, [97,98,99,100,101,102,103,104,105,106,107,108,109,110,111,112,113,114,115,116,117,118,119,120,121,122][n.val]? = some (97 + n.val) := by decide
  exact this ⟨n, hk⟩
theorem rd__law_text {ds A Q E} (h : sp__law_text ds A Q E) : t__law_text (fun c fs _ A => E c fs A) { nx := fun _ A => Q .non A, rt := Q } (startD 5 ds) A := by
  unfold sp__law_text at h
  split at h
  case h_2 => exact h.elim
  rename_i c
  unfold t__law_text
  simp [sFor_eq]
  generalize ((c * 48271).fmod 2147483647).fdiv 37 = m
  have a1 := fmod_bd m 11 (by decide)
  refine ⟨by omega, ?_⟩
  refine forR_ind (m.fmod 11) (fun i δ A' => A' = A ∧ 0 ≤ i ∧ i ≤ 10 ∧ ∃ z o, δ = [some (.int c), some (.str ("abcdefghijklmnopqrstuvwxyz" : Str)), some (.int m), some (.str z), o] ∧ (z.length : Int) = i ∧ Lets z) (fun _ _ _ _ => trivial) ?_ ?_ (m.fmod 11).toNat 0 _ _ (by omega) ⟨rfl, by omega, by omega, ("" : Str), _, rfl, rfl, by intro c hc; cases hc⟩
  · rintro δ A' ⟨rfl, h0, h1, z, o, rfl, hz, hL⟩
    simp
    exact h z (by omega) hL
  · rintro i δ A' N hi hN ⟨rfl, h0, h1, z, o, rfl, hz, hL⟩
    have a2 := fmod_bd (m.fdiv 11 + i * i * (1 + m.fmod 5)) 26 (by decide)
    have a3 := fmod_bd m 5 (by decide)
    have g1 := letter_at a2.1 a2.2
    have m1 : DL.MulOk i i := mulOk_lit h0 (by omega)
    have m2 : DL.MulOk (i * i) (1 + m.fmod 5) := mulOk_lit (by omega) (by omega)
    have l26 : ("abcdefghijklmnopqrstuvwxyz" : Str).length = 26 := by decide +kernel
    have l1 : ((⟨#[97 + ((m.fdiv 11 + i * i * (1 + m.fmod 5)).fmod 26).toNat]⟩ : Str)).length = 1 := rfl
    generalize hj : ((m.fdiv 11 + i * i * (1 + m.fmod 5)).fmod 26) = j at a2 g1 l1
    have hF : z.length + 1 < 1000000 := by omega
    simp [hj, g1, m1, m2, l26, l1, hF]
    refine hN _ _ ⟨rfl, by omega, by omega, _, _, rfl, ?_, ?_⟩
    · rw [strLen_append, l1]; omega
    · intro c hc
      rw [cps_app] at hc
      rcases List.mem_append.mp hc with hc | hc
      · exact hL c hc
      · have : c = 97 + j.toNat := by simpa using hc
        omega
theorem len__law_bent {ds A Q E} (h : sp__law_bent ds A Q E) : ds.length = 2 := by unfold sp__law_bent at h; split at h <;> first | rfl | exact h.elim
theorem cut_len (z : Str) (lo hi : Option Int) : (cutS z lo hi).length ≤ z.length := by
  rw [str_len, str_len]
  unfold cutS
  simp only [List.toList_toArray]
  exact Nat.le_trans (List.length_take_le' _ _) (by simp)
theorem bad_sign {j : Int} (h0 : 0 ≤ j) (h1 : j < 8) : ∃ s : Str, atI [D.str ("A" : Str), .str ("Z" : Str), .str ("0" : Str), .str (" " : Str), .str ("\n" : Str), .str ("." : Str), .str ("_" : Str), .str ("-" : Str)] j = some (.str s) ∧ s.length = 1 ∧ ∃ c ∈ s.cps.toList, ¬ (97 ≤ c ∧ c ≤ 122) := by
  have hj : j = 0 ∨ j = 1 ∨ j = 2 ∨ j = 3 ∨ j = 4 ∨ j = 5 ∨ j = 6 ∨ j = 7 := by omega
  rcases hj with rfl | rfl | rfl | rfl | rfl | rfl | rfl | rfl <;> exact ⟨_, rfl, by decide +kernel, by decide +kernel⟩
theorem rd__law_bent {ds A Q E} (h : sp__law_bent ds A Q E) : t__law_bent (fun c fs _ A => E c fs A) { nx := fun _ A => Q .non A, rt := Q } (startD 5 ds) A := by
  unfold sp__law_bent at h
  split at h
  case h_2 => exact h.elim
  rename_i z c
  obtain ⟨hl, k⟩ := h
  unfold t__law_bent
  have hF : Few z.length := by show _ < _; omega
  generalize hm : ((c * 69621).fmod 2147483629).fdiv 37 = m
  have a1 := fmod_bd (m.fdiv 11) 8 (by decide)
  obtain ⟨s, g1, g2, x, g3, g4⟩ := bad_sign a1.1 a1.2
  have hne : (z.length : Int) + 1 ≠ 0 := by omega
  have c1 := cut_len z none (some (m.fmod ((z.length : Int) + 1)))
  have c2 := cut_len z (some (m.fmod ((z.length : Int) + 1))) none
  have f1 : (cutS z none (some (m.fmod ((z.length : Int) + 1)))).length + s.length < 1000000 := by omega
  have f2 : (cutS z none (some (m.fmod ((z.length : Int) + 1))) ++ s).length + (cutS z (some (m.fmod ((z.length : Int) + 1))) none).length < 1000000 := by rw [strLen_append]; omega
  simp [hF, hm, g1, f1, f2, hne]
  refine k _ (by rw [strLen_append, strLen_append]; omega) ⟨x, ?_, g4⟩
  rw [cps_app, cps_app]
  exact List.mem_append_left _ (List.mem_append_right _ g3)
theorem len__law_truth {ds A Q E} (h : sp__law_truth ds A Q E) : ds.length = 2 := by unfold sp__law_truth at h; split at h <;> first | rfl | exact h.elim
theorem rd__law_truth {ds A Q E} (h : sp__law_truth ds A Q E) : t__law_truth (fun c fs _ A => E c fs A) { nx := fun _ A => Q .non A, rt := Q } (startD 2 ds) A := by
  unfold sp__law_truth at h
  split at h
  case h_2 => exact h.elim
  unfold t__law_truth
  simp [eAnd_eq, instB]
  exact h
theorem len__law_pair {ds A Q E} (h : sp__law_pair ds A Q E) : ds.length = 1 := by unfold sp__law_pair at h; split at h <;> first | rfl | exact h.elim
theorem rd__law_pair {ds A Q E} (h : sp__law_pair ds A Q E) : t__law_pair (fun c fs _ A => E c fs A) { nx := fun _ A => Q .non A, rt := Q } (startD 4 ds) A := by
  unfold sp__law_pair at h
  split at h
  case h_2 => exact h.elim
  rename_i c
  unfold t__law_pair
  simp [sIf_eq]
  generalize ((c * 48271).fmod 2147483647).fdiv 37 = m
  have a1 := fmod_bd m 61 (by decide)
  have a2 := fmod_bd (m.fdiv 61) 21 (by decide)
  have a3 := fmod_bd c 1000000000000000000000000000000000000000000000000000000000000 (by decide)
  have a4 := fmod_bd (c.fdiv 3) 100000000000000000000000000000000000000000000000000000000000 (by decide)
  have p4 : (2 : Nat) ^ 400 = 1606938044258990275541962092341162602522202993782792835301376 * 1606938044258990275541962092341162602522202993782792835301376 := by decide +kernel
  have key : ∀ x : Int, x.natAbs < 1606938044258990275541962092341162602522202993782792835301376 * 1606938044258990275541962092341162602522202993782792835301376 → Num x := fun x hx => by
    rw [← p4] at hx
    exact num_of hx (by decide)
  exact ⟨fun _ => h _ _ (key _ (by omega)) (key _ (by omega)), fun _ => h _ _ (key _ (by omega)) (key _ (by omega))⟩
theorem len__law_numbers {ds A Q E} (h : sp__law_numbers ds A Q E) : ds.length = 1 := by unfold sp__law_numbers at h; split at h <;> first | rfl | exact h.elim
theorem rd__law_numbers {ds A Q E} (h : sp__law_numbers ds A Q E) : t__law_numbers (fun c fs _ A => E c fs A) { nx := fun _ A => Q .non A, rt := Q } (startD 5 ds) A := by
  unfold sp__law_numbers at h
  split at h
  case h_2 => exact h.elim
  rename_i c
  unfold t__law_numbers
  simp [sIf_eq, sFor_eq, eAnd_eq]
  intro t b ht hb
  have e : fracB (.tup [.int t, .int b]) = (decide (1 ≤ b) && decide (Int.gcd t b = 1)) := rfl
  have e1 : 0 < b → fracB (.tup [.int t, .int b]) = ((t.gcd b : Int) == 1) := fun hp => by
    have h1 : 1 ≤ b := by omega
    rw [e]
    by_cases hg : Int.gcd t b = 1
    · simp [h1, hg]
    · have : ¬ (t.gcd b : Int) = 1 := by omega
      simp [hg, this]
  have e2 : b ≤ 0 → fracB (.tup [.int t, .int b]) = false := fun hp => by
    have h1 : ¬ 1 ≤ b := by omega
    rw [e]; simp [h1]
  refine ⟨fun hp => ⟨by simp [tyOk], fun hn => absurd (e1 hp) hn, fun _ => ⟨ht, ?_⟩⟩, fun hp => ⟨by simp [tyOk], fun hn => (by rw [e2 hp] at hn; exact nomatch hn), fun _ => ⟨ht, ?_⟩⟩⟩
  all_goals
    simp [forD, sIf_eq, tyOk, fracB]
    exact h
theorem len_law {ds A Q E} (h : spLaw ds A Q E) : ds.length = 1 := by obtain ⟨_, rfl, _⟩ := h; rfl
theorem rd_law {ds A Q E} (h : spLaw ds A Q E) : t_law (fun c fs _ A => E c fs A) { nx := fun _ A => Q .non A, rt := Q } (startD 3 ds) A := by
  obtain ⟨ns, rfl, hl, q⟩ := h
  unfold t_law
  obtain ⟨ms, em, _⟩ := cutD_map D.int ns none (some 98)
  simp [sFor_eq, em]
  refine forD_ind (fun l δ A' => ∃ ms : List Int, l = ms.map .int ∧ A' = A ∧ ∃ o1 o2, δ = [some (.rol (ns.map .int)), o1, o2]) ?_ ?_ ?_ _ _ _ ⟨ms, rfl, rfl, _, _, rfl⟩
  · intros; trivial
  · rintro δ A' ⟨_, _, rfl, o1, o2, rfl⟩
    have e1 : nameB (Str.ofString "") = false := by decide +kernel
    simp [eAnd_eq, e1, q]
    decide +kernel
  · rintro x l δ A' N hN ⟨ms, e, rfl, o1, o2, rfl⟩
    cases ms with
    | nil => cases e
    | cons c ms =>
      simp only [List.map_cons, List.cons.injEq] at e
      obtain ⟨rfl, rfl⟩ := e
      simp
      intro z hz hL
      have hF : Few z.length := by show _ < _; omega
      have g1 : ∀ y : Str, (∃ c ∈ y.cps.toList, ¬ (97 ≤ c ∧ c ≤ 122)) → nameB y = false := fun y ⟨c, h1, h2⟩ => by
        unfold nameB
        rw [show (y.cps.toList.all fun c => decide (97 ≤ c ∧ c ≤ 122)) = false from List.all_eq_false.mpr ⟨c, h1, by simpa using h2⟩, Bool.and_false]
      have g2 : nameB z = decide (1 ≤ z.length ∧ z.length ≤ 8) := by
        unfold nameB
        rw [show (z.cps.toList.all fun c => decide (97 ≤ c ∧ c ≤ 122)) = true from List.all_eq_true.mpr fun c hc => decide_eq_true (hL c hc), Bool.and_true]
      have fin : N [some (.rol (ns.map .int)), some (.int c), some (.str z)] A' := hN _ _ ⟨ms, rfl, rfl, _, _, rfl⟩
      have rest : ∀ (y : Str), y.length ≤ 30 → ∀ (x : Nat), x ∈ y.cps → (97 ≤ x → 122 < x) → y.length < 1000000 ∧ (nameB y = true → Q (D.bl false) A') ∧ (nameB y = false → N [some (.rol (ns.map .int)), some (.int c), some (.str z)] A') := fun y hy x h1 h2 =>
        have e := g1 y ⟨x, by simpa using h1, fun hh => by have := h2 hh.1; omega⟩
        ⟨by omega, fun hh => (by rw [e] at hh; cases hh), fun _ => fin⟩
      simp [sIf_eq, bOr_eq, hF, hz]
      refine ⟨fun h0 => ⟨fun hn => absurd ?_ hn, fun _ => rest⟩, fun h0 => ⟨fun hn => ?_, fun _ => rest⟩⟩
      · rw [g2]; apply decide_eq_decide.mpr; omega
      · rw [g2] at hn
        have := of_decide_eq_true hn
        omega
end K11

namespace K11
open PySem PySem.Spec PyProof.Rows L2 DL FR
def top (i : Nat) : Stmt := PySem.Challenge.pw_slackchain_k11_names_and_fractions_told.main.body.getD i (.Pass ⟨0, 0, 0, 0⟩)
abbrev s_divisor : Stmt := top 1
abbrev s_is_whole : Stmt := top 4
abbrev s_is_name : Stmt := top 5
abbrev s_is_fraction : Stmt := top 6
abbrev s__law_divisor : Stmt := top 8
abbrev s__law_text : Stmt := top 9
abbrev s__law_bent : Stmt := top 10
abbrev s__law_truth : Stmt := top 11
abbrev s__law_pair : Stmt := top 12
abbrev s__law_numbers : Stmt := top 13
abbrev s_law : Stmt := top 14
structure C (K : PySem.W.Frag) (mg : Str → Option Value) : Prop where
  d_divisor : ∃ fd, FunD K "divisor" "divisor" (defArgs s_divisor) (defBody s_divisor) (defScope s_divisor) [] [] (He.fAd K ("divisor", none)) fd
  d_is_whole : ∃ fd, FunD K "is_whole" "is_whole" (defArgs s_is_whole) (defBody s_is_whole) (defScope s_is_whole) [] [] (He.fAd K ("is_whole", none)) fd
  d_is_name : ∃ fd, FunD K "is_name" "is_name" (defArgs s_is_name) (defBody s_is_name) (defScope s_is_name) [] [] (He.fAd K ("is_name", none)) fd
  d_is_fraction : ∃ fd, FunD K "is_fraction" "is_fraction" (defArgs s_is_fraction) (defBody s_is_fraction) (defScope s_is_fraction) [] [] (He.fAd K ("is_fraction", none)) fd
  d__law_divisor : ∃ fd, FunD K "_law_divisor" "_law_divisor" (defArgs s__law_divisor) (defBody s__law_divisor) (defScope s__law_divisor) [] [] (He.fAd K ("_law_divisor", none)) fd
  d__law_text : ∃ fd, FunD K "_law_text" "_law_text" (defArgs s__law_text) (defBody s__law_text) (defScope s__law_text) [] [] (He.fAd K ("_law_text", none)) fd
  d__law_bent : ∃ fd, FunD K "_law_bent" "_law_bent" (defArgs s__law_bent) (defBody s__law_bent) (defScope s__law_bent) [] [] (He.fAd K ("_law_bent", none)) fd
  d__law_truth : ∃ fd, FunD K "_law_truth" "_law_truth" (defArgs s__law_truth) (defBody s__law_truth) (defScope s__law_truth) [] [] (He.fAd K ("_law_truth", none)) fd
  d__law_pair : ∃ fd, FunD K "_law_pair" "_law_pair" (defArgs s__law_pair) (defBody s__law_pair) (defScope s__law_pair) [] [] (He.fAd K ("_law_pair", none)) fd
  d__law_numbers : ∃ fd, FunD K "_law_numbers" "_law_numbers" (defArgs s__law_numbers) (defBody s__law_numbers) (defScope s__law_numbers) [] [] (He.fAd K ("_law_numbers", none)) fd
  d_law : ∃ fd, FunD K "law" "law" (defArgs s_law) (defBody s_law) (defScope s_law) [] [] (He.fAd K ("law", none)) fd
  n_abs : mg "abs" = none
  n_bool : mg "bool" = none
  n_int : mg "int" = none
  n_isinstance : mg "isinstance" = none
  n_len : mg "len" = none
  n_range : mg "range" = none
  n_str : mg "str" = none
  n_tuple : mg "tuple" = none
  s_LETTERS : ∃ t, mg "LETTERS" = some (.str "abcdefghijklmnopqrstuvwxyz" t)
  m_divisor : mg "divisor" = some (.ref (He.ga K "divisor"))
  m_is_whole : mg "is_whole" = some (.ref (He.ga K "is_whole"))
  m_is_name : mg "is_name" = some (.ref (He.ga K "is_name"))
  m_is_fraction : mg "is_fraction" = some (.ref (He.ga K "is_fraction"))
  m__law_divisor : mg "_law_divisor" = some (.ref (He.ga K "_law_divisor"))
  m__law_text : mg "_law_text" = some (.ref (He.ga K "_law_text"))
  m__law_bent : mg "_law_bent" = some (.ref (He.ga K "_law_bent"))
  m__law_truth : mg "_law_truth" = some (.ref (He.ga K "_law_truth"))
  m__law_pair : mg "_law_pair" = some (.ref (He.ga K "_law_pair"))
  m__law_numbers : mg "_law_numbers" = some (.ref (He.ga K "_law_numbers"))
  m_law : mg "law" = some (.ref (He.ga K "law"))
section
variable {P : Program} {w : World} {K : PySem.W.Frag} {mg : Str → Option Value} {base : Heap}
theorem sc_divisor : FnScope ["one", "other"] ["one", "other"] (defScope s_divisor) := ⟨rfl, rfl, rfl, by decide +kernel, rfl, by decide +kernel, by decide +kernel⟩
theorem ok_divisor (C : C K mg) {fd : FuncData} (F : FunD K "divisor" "divisor" (defArgs s_divisor) (defBody s_divisor) (defScope s_divisor) [] [] (He.fAd K ("divisor", none)) fd) : FnOk P w K mg base (CX P w) 1 (He.fAd K ("divisor", none)) fd ["one", "other"] (liftSp K sp_divisor) := by
  refine DL.fn_ok (t := t_divisor) F sc_divisor (fun ds A Q E h => len_divisor h) (fun cdv A outer s H E Z0 wd hr tk => ?_) (fun ds A Q E h => rd_divisor h)
  have hu := uA hr
  have hu65 := uC hr
  have hu64 := uB hr
  exact (qss_cons (qs_set (i := 0) sc_divisor.nd rfl (.inl rfl) (qe_callB lift_abs call_abs (by rfl) C.n_abs (by decide +kernel) (qa_cons (qe_var (pv 0)) qa_nil)))
  (qss_cons (qs_set (i := 1) sc_divisor.nd rfl (.inl rfl) (qe_callB lift_abs call_abs (by rfl) C.n_abs (by decide +kernel) (qa_cons (qe_var (pv 1)) qa_nil)))
  (qss_cons (qs_while (passes_of rfl) (qt_cmp lift_cmp op_gt (qe_var (pv 1)) qe_int (nomark _))
  (qss_one (qs_par (i := 0) (j := 1) rfl sc_divisor.nd rfl rfl (by decide) rfl rfl (qa_cons (qe_var (pv 1)) (qa_cons (qe_mod (qe_var (pv 0)) (qe_var (pv 1))) qa_nil)) (by rfl))))
  (qss_one (qs_ret (qe_var (pv 0)))))))
theorem df_divisor (C : C K mg) : DFn P w K mg base 1 "divisor" sp_divisor [] := by
  obtain ⟨fd, F⟩ := C.d_divisor
  exact dfn (ok_divisor C F) C.m_divisor F.kp (F.bindsN fun _ _ _ _ _ _ us hl => match us, hl with | [_, _], _ => rfl)
theorem sc_is_whole : FnScope ["thing"] ["thing"] (defScope s_is_whole) := ⟨rfl, rfl, rfl, by decide +kernel, rfl, by decide +kernel, by decide +kernel⟩
theorem ok_is_whole (C : C K mg) {fd : FuncData} (F : FunD K "is_whole" "is_whole" (defArgs s_is_whole) (defBody s_is_whole) (defScope s_is_whole) [] [] (He.fAd K ("is_whole", none)) fd) : FnOk P w K mg base (CX P w) 1 (He.fAd K ("is_whole", none)) fd ["thing"] (liftSp K sp_is_whole) := by
  refine DL.fn_ok (t := t_is_whole) F sc_is_whole (fun ds A Q E h => len_is_whole h) (fun cdv A outer s H E Z0 wd hr tk => ?_) (fun ds A Q E h => rd_is_whole h)
  have hu := uA hr
  have hu65 := uC hr
  have hu64 := uB hr
  exact (qss_one (qs_ret (qe_and (qe_isi (T := "int") (by decide) (by rfl) C.n_isinstance (by rfl) C.n_int (by decide +kernel) (by decide) (by decide) (qe_var (pv 0))) (qe_one (qe_not (qe_isi (T := "bool") (by decide) (by rfl) C.n_isinstance (by rfl) C.n_bool (by decide +kernel) (by decide) (by decide) (qe_var (pv 0))))))))
theorem df_is_whole (C : C K mg) : DFn P w K mg base 1 "is_whole" sp_is_whole [] := by
  obtain ⟨fd, F⟩ := C.d_is_whole
  exact dfn (ok_is_whole C F) C.m_is_whole F.kp (F.bindsN fun _ _ _ _ _ _ us hl => match us, hl with | [_], _ => rfl)
theorem sc_is_name : FnScope ["thing", "sign"] ["thing"] (defScope s_is_name) := ⟨rfl, rfl, rfl, by decide +kernel, rfl, by decide +kernel, by decide +kernel⟩
theorem ok_is_name (C : C K mg) {fd : FuncData} (F : FunD K "is_name" "is_name" (defArgs s_is_name) (defBody s_is_name) (defScope s_is_name) [] [] (He.fAd K ("is_name", none)) fd) : FnOk P w K mg base (CX P w) 1 (He.fAd K ("is_name", none)) fd ["thing"] (liftSp K sp_is_name) := by
  refine DL.fn_ok (t := t_is_name) F sc_is_name (fun ds A Q E h => len_is_name h) (fun cdv A outer s H E Z0 wd hr tk => ?_) (fun ds A Q E h => rd_is_name h)
  have hu := uA hr
  have hu65 := uC hr
  have hu64 := uB hr
  exact (qss_cons (qs_if (qt_w (qw_or (qt_not (qt_val (qe_isi (T := "str") (by decide) (by rfl) C.n_isinstance (by rfl) C.n_str (by decide +kernel) (by decide) (by decide) (qe_var (pv 0))))) (qw_or (qt_cmp lift_cmp op_lt (qe_callB lift_len call_lenAll (by rfl) C.n_len (by decide +kernel) (qa_cons (qe_var (pv 0)) qa_nil)) qe_int (nomark _)) (qw_or1 (qt_cmp lift_cmp op_gt (qe_callB lift_len call_lenAll (by rfl) C.n_len (by decide +kernel) (qa_cons (qe_var (pv 0)) qa_nil)) qe_int (nomark _))))))
  (qss_one (qs_ret qe_bl))
  qss_nil)
  (qss_cons (qs_for (passes_of rfl) rfl (qi_str (qe_var (pv 0))) (qg_name (i := 1) sc_is_name.nd rfl (.inl rfl))
  (qss_one (qs_if (qt_cmp lift_notin (op_notInAll hu65) (qe_var (pv 1)) (qe_gstr (C.s_LETTERS) (by rfl)) (by rfl))
  (qss_one (qs_ret qe_bl))
  qss_nil)))
  (qss_one (qs_ret qe_bl))))
theorem df_is_name (C : C K mg) : DFn P w K mg base 1 "is_name" sp_is_name [] := by
  obtain ⟨fd, F⟩ := C.d_is_name
  exact dfn (ok_is_name C F) C.m_is_name F.kp (F.bindsN fun _ _ _ _ _ _ us hl => match us, hl with | [_], _ => rfl)
theorem sc_is_fraction : FnScope ["thing"] ["thing"] (defScope s_is_fraction) := ⟨rfl, rfl, rfl, by decide +kernel, rfl, by decide +kernel, by decide +kernel⟩
theorem ok_is_fraction (C : C K mg) {fd : FuncData} (F : FunD K "is_fraction" "is_fraction" (defArgs s_is_fraction) (defBody s_is_fraction) (defScope s_is_fraction) [] [] (He.fAd K ("is_fraction", none)) fd) : FnOk P w K mg base (CX P w) 2 (He.fAd K ("is_fraction", none)) fd ["thing"] (liftSp K sp_is_fraction) := by
  have F_divisor := @df_divisor P w K mg base C
  have F_is_whole := @df_is_whole P w K mg base C
  refine DL.fn_ok (t := t_is_fraction) F sc_is_fraction (fun ds A Q E h => len_is_fraction h) (fun cdv A outer s H E Z0 wd hr tk => ?_) (fun ds A Q E h => rd_is_fraction h)
  have hu := uA hr
  have hu65 := uC hr
  have hu64 := uB hr
  exact (qss_cons (qs_if (qt_w (qw_or (qt_not (qt_val (qe_isi (T := "tuple") (by decide) (by rfl) C.n_isinstance (by rfl) C.n_tuple (by decide +kernel) (by decide) (by decide) (qe_var (pv 0))))) (qw_or1 (qt_cmp lift_ne (op_neD hu64) (qe_callB lift_len call_lenAll (by rfl) C.n_len (by decide +kernel) (qa_cons (qe_var (pv 0)) qa_nil)) qe_int (nomark _)))))
  (qss_one (qs_ret qe_bl))
  qss_nil)
  (qss_cons (qs_if (qt_w (qw_or (qt_not (qt_val (qe_call F_is_whole hr (by decide) (by rfl) tk (qa_cons (qe_ix hu (qe_var (pv 0)) qe_int (fun _ _ => rfl)) qa_nil)))) (qw_or (qt_not (qt_val (qe_call F_is_whole hr (by decide) (by rfl) tk (qa_cons (qe_ix hu (qe_var (pv 0)) qe_int (fun _ _ => rfl)) qa_nil)))) (qw_or1 (qt_cmp lift_cmp op_lt (qe_ix hu (qe_var (pv 0)) qe_int (fun _ _ => rfl)) qe_int (nomark _))))))
  (qss_one (qs_ret qe_bl))
  qss_nil)
  (qss_one (qs_ret (qe_cmp lift_eq (op_eqD hu64) (qe_call F_divisor hr (by decide) (by rfl) tk (qa_cons (qe_ix hu (qe_var (pv 0)) qe_int (fun _ _ => rfl)) (qa_cons (qe_ix hu (qe_var (pv 0)) qe_int (fun _ _ => rfl)) qa_nil))) qe_int (nomark _))))))
theorem df_is_fraction (C : C K mg) : DFn P w K mg base 2 "is_fraction" sp_is_fraction [] := by
  obtain ⟨fd, F⟩ := C.d_is_fraction
  exact dfn (ok_is_fraction C F) C.m_is_fraction F.kp (F.bindsN fun _ _ _ _ _ _ us hl => match us, hl with | [_], _ => rfl)
theorem sc__law_divisor : FnScope ["_law_one", "_law_other"] ["_law_one", "_law_other"] (defScope s__law_divisor) := ⟨rfl, rfl, rfl, by decide +kernel, rfl, by decide +kernel, by decide +kernel⟩
theorem ok__law_divisor (C : C K mg) {fd : FuncData} (F : FunD K "_law_divisor" "_law_divisor" (defArgs s__law_divisor) (defBody s__law_divisor) (defScope s__law_divisor) [] [] (He.fAd K ("_law_divisor", none)) fd) : FnOk P w K mg base (CX P w) 1 (He.fAd K ("_law_divisor", none)) fd ["_law_one", "_law_other"] (liftSp K sp__law_divisor) := by
  refine DL.fn_ok (t := t__law_divisor) F sc__law_divisor (fun ds A Q E h => len__law_divisor h) (fun cdv A outer s H E Z0 wd hr tk => ?_) (fun ds A Q E h => rd__law_divisor h)
  have hu := uA hr
  have hu65 := uC hr
  have hu64 := uB hr
  exact (qss_cons (qs_set (i := 0) sc__law_divisor.nd rfl (.inl rfl) (qe_callB lift_abs call_abs (by rfl) C.n_abs (by decide +kernel) (qa_cons (qe_var (pv 0)) qa_nil)))
  (qss_cons (qs_set (i := 1) sc__law_divisor.nd rfl (.inl rfl) (qe_callB lift_abs call_abs (by rfl) C.n_abs (by decide +kernel) (qa_cons (qe_var (pv 1)) qa_nil)))
  (qss_cons (qs_while (passes_of rfl) (qt_cmp lift_cmp op_gt (qe_var (pv 1)) qe_int (nomark _))
  (qss_one (qs_par (i := 0) (j := 1) rfl sc__law_divisor.nd rfl rfl (by decide) rfl rfl (qa_cons (qe_var (pv 1)) (qa_cons (qe_mod (qe_var (pv 0)) (qe_var (pv 1))) qa_nil)) (by rfl))))
  (qss_one (qs_ret (qe_var (pv 0)))))))
theorem df__law_divisor (C : C K mg) : DFn P w K mg base 1 "_law_divisor" sp__law_divisor [] := by
  obtain ⟨fd, F⟩ := C.d__law_divisor
  exact dfn (ok__law_divisor C F) C.m__law_divisor F.kp (F.bindsN fun _ _ _ _ _ _ us hl => match us, hl with | [_, _], _ => rfl)
theorem sc__law_text : FnScope ["_law_cell", "_law_letters", "_law_mixed", "_law_text_here", "_law_k"] ["_law_cell"] (defScope s__law_text) := ⟨rfl, rfl, rfl, by decide +kernel, rfl, by decide +kernel, by decide +kernel⟩
theorem ok__law_text (C : C K mg) {fd : FuncData} (F : FunD K "_law_text" "_law_text" (defArgs s__law_text) (defBody s__law_text) (defScope s__law_text) [] [] (He.fAd K ("_law_text", none)) fd) : FnOk P w K mg base (CX P w) 1 (He.fAd K ("_law_text", none)) fd ["_law_cell"] (liftSp K sp__law_text) := by
  refine DL.fn_ok (t := t__law_text) F sc__law_text (fun ds A Q E h => len__law_text h) (fun cdv A outer s H E Z0 wd hr tk => ?_) (fun ds A Q E h => rd__law_text h)
  have hu := uA hr
  have hu65 := uC hr
  have hu64 := uB hr
  exact (qss_cons (qs_set (i := 1) sc__law_text.nd rfl (.inl rfl) qe_str)
  (qss_cons (qs_set (i := 2) sc__law_text.nd rfl (.inl rfl) (qe_div (qe_mod (qe_mul (qe_var (pv 0)) qe_int) qe_int) qe_int))
  (qss_cons (qs_set (i := 3) sc__law_text.nd rfl (.inl rfl) qe_str)
  (qss_cons (qs_for (passes_of rfl) rfl (qi_range1 (by rfl) C.n_range (qa_cons (qe_mod (qe_var (pv 2)) qe_int) qa_nil)) (qg_name (i := 4) sc__law_text.nd rfl (.inl rfl))
  (qss_one (qs_set (i := 3) sc__law_text.nd rfl (.inl rfl) (qe_add mkF_ok (qe_var (pv 3)) (qe_ix hu (qe_var (pv 1)) (qe_mod (qe_add mkF_ok (qe_div (qe_var (pv 2)) qe_int) (qe_mul (qe_mul (qe_var (pv 4)) (qe_var (pv 4))) (qe_add mkF_ok qe_int (qe_mod (qe_var (pv 2)) qe_int)))) qe_int) (fun _ _ => rfl))))))
  (qss_one (qs_ret (qe_var (pv 3))))))))
theorem df__law_text (C : C K mg) : DFn P w K mg base 1 "_law_text" sp__law_text [] := by
  obtain ⟨fd, F⟩ := C.d__law_text
  exact dfn (ok__law_text C F) C.m__law_text F.kp (F.bindsN fun _ _ _ _ _ _ us hl => match us, hl with | [_], _ => rfl)
theorem sc__law_bent : FnScope ["_law_text_here", "_law_cell", "_law_mixed", "_law_at", "_law_sign"] ["_law_text_here", "_law_cell"] (defScope s__law_bent) := ⟨rfl, rfl, rfl, by decide +kernel, rfl, by decide +kernel, by decide +kernel⟩
theorem ok__law_bent (C : C K mg) {fd : FuncData} (F : FunD K "_law_bent" "_law_bent" (defArgs s__law_bent) (defBody s__law_bent) (defScope s__law_bent) [] [] (He.fAd K ("_law_bent", none)) fd) : FnOk P w K mg base (CX P w) 1 (He.fAd K ("_law_bent", none)) fd ["_law_text_here", "_law_cell"] (liftSp K sp__law_bent) := by
  refine DL.fn_ok (t := t__law_bent) F sc__law_bent (fun ds A Q E h => len__law_bent h) (fun cdv A outer s H E Z0 wd hr tk => ?_) (fun ds A Q E h => rd__law_bent h)
  have hu := uA hr
  have hu65 := uC hr
  have hu64 := uB hr
  exact (qss_cons (qs_set (i := 2) sc__law_bent.nd rfl (.inl rfl) (qe_div (qe_mod (qe_mul (qe_var (pv 1)) qe_int) qe_int) qe_int))
  (qss_cons (qs_set (i := 3) sc__law_bent.nd rfl (.inl rfl) (qe_mod (qe_var (pv 2)) (qe_add mkF_ok (qe_callB lift_len call_lenAll (by rfl) C.n_len (by decide +kernel) (qa_cons (qe_var (pv 0)) qa_nil)) qe_int)))
  (qss_cons (qs_set (i := 4) sc__law_bent.nd rfl (.inl rfl) (qe_ix hu (qe_lst mkF_ok (qa_cons qe_str (qa_cons qe_str (qa_cons qe_str (qa_cons qe_str (qa_cons qe_str (qa_cons qe_str (qa_cons qe_str (qa_cons qe_str qa_nil))))))))) (qe_mod (qe_div (qe_var (pv 2)) qe_int) qe_int) (fun _ _ => rfl)))
  (qss_one (qs_ret (qe_add mkF_ok (qe_add mkF_ok (qe_sl mkF_ok (qe_var (pv 0)) qo_none (qo_some (qe_var (pv 3)))) (qe_var (pv 4))) (qe_sl mkF_ok (qe_var (pv 0)) (qo_some (qe_var (pv 3))) qo_none)))))))
theorem df__law_bent (C : C K mg) : DFn P w K mg base 1 "_law_bent" sp__law_bent [] := by
  obtain ⟨fd, F⟩ := C.d__law_bent
  exact dfn (ok__law_bent C F) C.m__law_bent F.kp (F.bindsN fun _ _ _ _ _ _ us hl => match us, hl with | [_, _], _ => rfl)
theorem sc__law_truth : FnScope ["_law_found", "_law_due"] ["_law_found", "_law_due"] (defScope s__law_truth) := ⟨rfl, rfl, rfl, by decide +kernel, rfl, by decide +kernel, by decide +kernel⟩
theorem ok__law_truth (C : C K mg) {fd : FuncData} (F : FunD K "_law_truth" "_law_truth" (defArgs s__law_truth) (defBody s__law_truth) (defScope s__law_truth) [] [] (He.fAd K ("_law_truth", none)) fd) : FnOk P w K mg base (CX P w) 1 (He.fAd K ("_law_truth", none)) fd ["_law_found", "_law_due"] (liftSp K sp__law_truth) := by
  refine DL.fn_ok (t := t__law_truth) F sc__law_truth (fun ds A Q E h => len__law_truth h) (fun cdv A outer s H E Z0 wd hr tk => ?_) (fun ds A Q E h => rd__law_truth h)
  have hu := uA hr
  have hu65 := uC hr
  have hu64 := uB hr
  exact (qss_one (qs_ret (qe_and (qe_isi (T := "bool") (by decide) (by rfl) C.n_isinstance (by rfl) C.n_bool (by decide +kernel) (by decide) (by decide) (qe_var (pv 0))) (qe_one (qe_cmp lift_eq (op_eqD hu64) (qe_var (pv 0)) (qe_var (pv 1)) (nomark _))))))
theorem df__law_truth (C : C K mg) : DFn P w K mg base 1 "_law_truth" sp__law_truth [] := by
  obtain ⟨fd, F⟩ := C.d__law_truth
  exact dfn (ok__law_truth C F) C.m__law_truth F.kp (F.bindsN fun _ _ _ _ _ _ us hl => match us, hl with | [_, _], _ => rfl)
theorem sc__law_pair : FnScope ["_law_cell", "_law_mixed", "_law_top", "_law_bottom"] ["_law_cell"] (defScope s__law_pair) := ⟨rfl, rfl, rfl, by decide +kernel, rfl, by decide +kernel, by decide +kernel⟩
theorem ok__law_pair (C : C K mg) {fd : FuncData} (F : FunD K "_law_pair" "_law_pair" (defArgs s__law_pair) (defBody s__law_pair) (defScope s__law_pair) [] [] (He.fAd K ("_law_pair", none)) fd) : FnOk P w K mg base (CX P w) 1 (He.fAd K ("_law_pair", none)) fd ["_law_cell"] (liftSp K sp__law_pair) := by
  refine DL.fn_ok (t := t__law_pair) F sc__law_pair (fun ds A Q E h => len__law_pair h) (fun cdv A outer s H E Z0 wd hr tk => ?_) (fun ds A Q E h => rd__law_pair h)
  have hu := uA hr
  have hu65 := uC hr
  have hu64 := uB hr
  exact (qss_cons (qs_set (i := 1) sc__law_pair.nd rfl (.inl rfl) (qe_div (qe_mod (qe_mul (qe_var (pv 0)) qe_int) qe_int) qe_int))
  (qss_cons (qs_set (i := 2) sc__law_pair.nd rfl (.inl rfl) (qe_sub (qe_mod (qe_var (pv 1)) qe_int) qe_int))
  (qss_cons (qs_set (i := 3) sc__law_pair.nd rfl (.inl rfl) (qe_sub (qe_mod (qe_div (qe_var (pv 1)) qe_int) qe_int) qe_int))
  (qss_cons (qs_if (qt_cmp lift_eq (op_eqD hu64) (qe_mod (qe_var (pv 1)) qe_int) qe_int (nomark _))
  (qss_cons (qs_set (i := 2) sc__law_pair.nd rfl (.inl rfl) (qe_mod (qe_var (pv 0)) (qe_pow qe_int qe_int)))
  (qss_one (qs_set (i := 3) sc__law_pair.nd rfl (.inl rfl) (qe_add mkF_ok qe_int (qe_mod (qe_div (qe_var (pv 0)) qe_int) (qe_pow qe_int qe_int))))))
  qss_nil)
  (qss_one (qs_ret (qe_tup (qa_cons (qe_var (pv 2)) (qa_cons (qe_var (pv 3)) qa_nil)))))))))
theorem df__law_pair (C : C K mg) : DFn P w K mg base 1 "_law_pair" sp__law_pair [] := by
  obtain ⟨fd, F⟩ := C.d__law_pair
  exact dfn (ok__law_pair C F) C.m__law_pair F.kp (F.bindsN fun _ _ _ _ _ _ us hl => match us, hl with | [_], _ => rfl)
theorem sc__law_numbers : FnScope ["_law_cell", "_law_top", "_law_bottom", "_law_due", "_law_thing"] ["_law_cell"] (defScope s__law_numbers) := ⟨rfl, rfl, rfl, by decide +kernel, rfl, by decide +kernel, by decide +kernel⟩
theorem ok__law_numbers (C : C K mg) {fd : FuncData} (F : FunD K "_law_numbers" "_law_numbers" (defArgs s__law_numbers) (defBody s__law_numbers) (defScope s__law_numbers) [] [] (He.fAd K ("_law_numbers", none)) fd) : FnOk P w K mg base (CX P w) 3 (He.fAd K ("_law_numbers", none)) fd ["_law_cell"] (liftSp K sp__law_numbers) := by
  have F__law_divisor := @df__law_divisor P w K mg base C
  have F__law_pair := @df__law_pair P w K mg base C
  have F__law_truth := @df__law_truth P w K mg base C
  have F_is_fraction := @df_is_fraction P w K mg base C
  refine DL.fn_ok (t := t__law_numbers) F sc__law_numbers (fun ds A Q E h => len__law_numbers h) (fun cdv A outer s H E Z0 wd hr tk => ?_) (fun ds A Q E h => rd__law_numbers h)
  have hu := uA hr
  have hu65 := uC hr
  have hu64 := uB hr
  exact (qss_cons (qs_asg (qe_call F__law_pair hr (by decide) (by rfl) tk (qa_cons (qe_var (pv 0)) qa_nil)) (qg_tup rfl (qgs_cons (qg_name (i := 1) sc__law_numbers.nd rfl (.inl rfl)) (qgs_cons (qg_name (i := 2) sc__law_numbers.nd rfl (.inl rfl)) qgs_nil))))
  (qss_cons (qs_set (i := 3) sc__law_numbers.nd rfl (.inl rfl) (qe_and (qe_cmp lift_cmp op_gt (qe_var (pv 2)) qe_int (nomark _)) (qe_one (qe_cmp lift_eq (op_eqD hu64) (qe_call F__law_divisor hr (by decide) (by rfl) tk (qa_cons (qe_var (pv 1)) (qa_cons (qe_var (pv 2)) qa_nil))) qe_int (nomark _)))))
  (qss_cons (qs_if (qt_not (qt_val (qe_call F__law_truth hr (by decide) (by rfl) tk (qa_cons (qe_call F_is_fraction hr (by decide) (by rfl) tk (qa_cons (qe_tup (qa_cons (qe_var (pv 1)) (qa_cons (qe_var (pv 2)) qa_nil))) qa_nil)) (qa_cons (qe_var (pv 3)) qa_nil)))))
  (qss_one (qs_ret qe_bl))
  qss_nil)
  (qss_cons (qs_for (passes_of rfl) rfl (qi_seq (qe_lst mkF_ok (qa_cons (qe_lst mkF_ok (qa_cons (qe_var (pv 1)) (qa_cons (qe_var (pv 2)) qa_nil))) (qa_cons (qe_tup (qa_cons (qe_var (pv 1)) qa_nil)) (qa_cons (qe_tup (qa_cons (qe_var (pv 1)) (qa_cons (qe_var (pv 2)) (qa_cons qe_int qa_nil)))) (qa_cons (qe_tup (qa_cons (qe_var (pv 1)) (qa_cons qe_bl qa_nil))) (qa_cons (qe_tup (qa_cons qe_bl (qa_cons qe_int qa_nil))) (qa_cons (qe_tup (qa_cons (qe_callTy lift_str call_str_int (by rfl) C.n_str (by decide +kernel) (qa_cons (qe_var (pv 1)) qa_nil)) (qa_cons qe_int qa_nil))) (qa_cons (qe_var (pv 1)) (qa_cons qe_non qa_nil)))))))))) (qg_name (i := 4) sc__law_numbers.nd rfl (.inl rfl))
  (qss_one (qs_if (qt_not (qt_val (qe_call F__law_truth hr (by decide) (by rfl) tk (qa_cons (qe_call F_is_fraction hr (by decide) (by rfl) tk (qa_cons (qe_var (pv 4)) qa_nil)) (qa_cons qe_bl qa_nil)))))
  (qss_one (qs_ret qe_bl))
  qss_nil)))
  (qss_one (qs_ret qe_bl))))))
theorem df__law_numbers (C : C K mg) : DFn P w K mg base 3 "_law_numbers" sp__law_numbers [] := by
  obtain ⟨fd, F⟩ := C.d__law_numbers
  exact dfn (ok__law_numbers C F) C.m__law_numbers F.kp (F.bindsN fun _ _ _ _ _ _ us hl => match us, hl with | [_], _ => rfl)
theorem sc_law : FnScope ["_law_script", "_law_cell", "_law_text_here"] ["_law_script"] (defScope s_law) := ⟨rfl, rfl, rfl, by decide +kernel, rfl, by decide +kernel, by decide +kernel⟩
theorem ok_law (C : C K mg) {fd : FuncData} (F : FunD K "law" "law" (defArgs s_law) (defBody s_law) (defScope s_law) [] [] (He.fAd K ("law", none)) fd) : FnOk P w K mg base (CX P w) 4 (He.fAd K ("law", none)) fd ["_law_script"] (liftSp K spLaw) := by
  have F__law_bent := @df__law_bent P w K mg base C
  have F__law_numbers := @df__law_numbers P w K mg base C
  have F__law_text := @df__law_text P w K mg base C
  have F__law_truth := @df__law_truth P w K mg base C
  have F_is_name := @df_is_name P w K mg base C
  refine DL.fn_ok (t := t_law) F sc_law (fun ds A Q E h => len_law h) (fun cdv A outer s H E Z0 wd hr tk => ?_) (fun ds A Q E h => rd_law h)
  have hu := uA hr
  have hu65 := uC hr
  have hu64 := uB hr
  exact (qss_cons (qs_for (passes_of rfl) rfl (qi_seq (qe_sl mkF_ok (qe_var (pv 0)) qo_none (qo_some qe_int))) (qg_name (i := 1) sc_law.nd rfl (.inl rfl))
  (qss_cons (qs_set (i := 2) sc_law.nd rfl (.inl rfl) (qe_call F__law_text hr (by decide) (by rfl) tk (qa_cons (qe_var (pv 1)) qa_nil)))
  (qss_cons (qs_if (qt_w (qw_or (qt_not (qt_val (qe_call F__law_truth hr (by decide) (by rfl) tk (qa_cons (qe_call F_is_name hr (by decide) (by rfl) tk (qa_cons (qe_var (pv 2)) qa_nil)) (qa_cons (qe_chain lift_cmp lift_cmp op_lt op_lt qe_int (qe_callB lift_len call_lenAll (by rfl) C.n_len (by decide +kernel) (qa_cons (qe_var (pv 2)) qa_nil)) qe_int) qa_nil))))) (qw_or1 (qt_not (qt_val (qe_call F__law_truth hr (by decide) (by rfl) tk (qa_cons (qe_call F_is_name hr (by decide) (by rfl) tk (qa_cons (qe_call F__law_bent hr (by decide) (by rfl) tk (qa_cons (qe_var (pv 2)) (qa_cons (qe_var (pv 1)) qa_nil))) qa_nil)) (qa_cons qe_bl qa_nil))))))))
  (qss_one (qs_ret qe_bl))
  qss_nil)
  (qss_cons (qs_if (qt_w (qw_or (qt_not (qt_val (qe_call F__law_truth hr (by decide) (by rfl) tk (qa_cons (qe_call F_is_name hr (by decide) (by rfl) tk (qa_cons (qe_tup (qa_cons (qe_var (pv 2)) qa_nil)) qa_nil)) (qa_cons qe_bl qa_nil))))) (qw_or1 (qt_not (qt_val (qe_call F__law_truth hr (by decide) (by rfl) tk (qa_cons (qe_call F_is_name hr (by decide) (by rfl) tk (qa_cons (qe_mod (qe_var (pv 1)) (qe_pow qe_int qe_int)) qa_nil)) (qa_cons qe_bl qa_nil))))))))
  (qss_one (qs_ret qe_bl))
  qss_nil)
  (qss_one (qs_if (qt_not (qt_val (qe_call F__law_numbers hr (by decide) (by rfl) tk (qa_cons (qe_var (pv 1)) qa_nil))))
  (qss_one (qs_ret qe_bl))
  qss_nil))))))
  (qss_one (qs_ret (qe_and (qe_call F__law_truth hr (by decide) (by rfl) tk (qa_cons (qe_call F_is_name hr (by decide) (by rfl) tk (qa_cons qe_str qa_nil)) (qa_cons qe_bl qa_nil))) (qe_and (qe_call F__law_truth hr (by decide) (by rfl) tk (qa_cons (qe_call F_is_name hr (by decide) (by rfl) tk (qa_cons (qe_lst mkF_ok (qa_cons qe_str qa_nil)) qa_nil)) (qa_cons qe_bl qa_nil))) (qe_one (qe_call F__law_truth hr (by decide) (by rfl) tk (qa_cons (qe_call F_is_name hr (by decide) (by rfl) tk (qa_cons qe_non qa_nil)) (qa_cons qe_bl qa_nil)))))))))
end
def d_divisor : He.DefD := ⟨("divisor", none), "divisor", "divisor", defArgs s_divisor, defBody s_divisor, defScope s_divisor, [], []⟩
def d_is_whole : He.DefD := ⟨("is_whole", none), "is_whole", "is_whole", defArgs s_is_whole, defBody s_is_whole, defScope s_is_whole, [], []⟩
def d_is_name : He.DefD := ⟨("is_name", none), "is_name", "is_name", defArgs s_is_name, defBody s_is_name, defScope s_is_name, [], []⟩
def d_is_fraction : He.DefD := ⟨("is_fraction", none), "is_fraction", "is_fraction", defArgs s_is_fraction, defBody s_is_fraction, defScope s_is_fraction, [], []⟩
def d__law_divisor : He.DefD := ⟨("_law_divisor", none), "_law_divisor", "_law_divisor", defArgs s__law_divisor, defBody s__law_divisor, defScope s__law_divisor, [], []⟩
def d__law_text : He.DefD := ⟨("_law_text", none), "_law_text", "_law_text", defArgs s__law_text, defBody s__law_text, defScope s__law_text, [], []⟩
def d__law_bent : He.DefD := ⟨("_law_bent", none), "_law_bent", "_law_bent", defArgs s__law_bent, defBody s__law_bent, defScope s__law_bent, [], []⟩
def d__law_truth : He.DefD := ⟨("_law_truth", none), "_law_truth", "_law_truth", defArgs s__law_truth, defBody s__law_truth, defScope s__law_truth, [], []⟩
def d__law_pair : He.DefD := ⟨("_law_pair", none), "_law_pair", "_law_pair", defArgs s__law_pair, defBody s__law_pair, defScope s__law_pair, [], []⟩
def d__law_numbers : He.DefD := ⟨("_law_numbers", none), "_law_numbers", "_law_numbers", defArgs s__law_numbers, defBody s__law_numbers, defScope s__law_numbers, [], []⟩
def d_law : He.DefD := ⟨("law", none), "law", "law", defArgs s_law, defBody s_law, defScope s_law, [], []⟩
def fn : List He.DefD := [d_divisor, d_is_whole, d_is_name, d_is_fraction, d__law_divisor, d__law_text, d__law_bent, d__law_truth, d__law_pair, d__law_numbers, d_law]
def fa : List He.Fa := [.free "abs", .free "bool", .free "int", .free "isinstance", .free "len", .free "range", .free "str", .free "tuple", .str "LETTERS" "abcdefghijklmnopqrstuvwxyz", .glo "divisor", .glo "is_whole", .glo "is_name", .glo "is_fraction", .glo "_law_divisor", .glo "_law_text", .glo "_law_bent", .glo "_law_truth", .glo "_law_pair", .glo "_law_numbers", .glo "law"]
def fx : List Fx := []
abbrev R : PySem.W.OpenRow := PySem.W.OpenLaw.row PySem.Challenge.rw_slackchain_k11_names_and_fractions_told
abbrev hk : PySem.W.Hook := He.hookX 4 fa fn [] [] (allX fx)
def ob (s : PySem.W.SharedT) : He.AlX := He.obsX 4 fa fn [] [] (allX fx) (HandSHeadRun.getT s)
theorem ob_eq (s : PySem.W.SharedT) : ob s = hk.obs s.abs := He.obsX_eq (HandSHeadRun.getT_eq s)
theorem run (w : World) : HandSHeadRun.RunEq R (PySem.W.view R.prog [14]) hk ob 4000 ["divisor", "LETTERS", "is_whole", "is_name", "is_fraction", "_law_divisor", "_law_text", "_law_bent", "_law_truth", "_law_pair", "_law_numbers"] w := by
  intro os
  kernel_rfl
theorem facts {P : Program} {w : World} {K : PySem.W.Frag} {h : Heap} {mg : Str → Option Value} {f : Addr} (X : K.In h) (G : h.Ns mainGlobals mg) (hfa : mg ("law" : Str) = some (.ref f)) (c : He.SaysD fa fn K) (cx : allX fx K = true) :
    ∃ fd : FuncData, (∀ (s : Shared) (v : Value), BindsTo s fd ⟨[v], []⟩ [("_law_script", v)]) ∧ ∀ base : Heap, K.In base → base.Ns mainGlobals mg → FnOk P w K mg base (CX P w) 4 f fd ["_law_script"] (liftSp K spLaw) := by
  have C : C K mg := {
    d_divisor := c.def_ 0 (d := d_divisor) rfl
    d_is_whole := c.def_ 1 (d := d_is_whole) rfl
    d_is_name := c.def_ 2 (d := d_is_name) rfl
    d_is_fraction := c.def_ 3 (d := d_is_fraction) rfl
    d__law_divisor := c.def_ 4 (d := d__law_divisor) rfl
    d__law_text := c.def_ 5 (d := d__law_text) rfl
    d__law_bent := c.def_ 6 (d := d__law_bent) rfl
    d__law_truth := c.def_ 7 (d := d__law_truth) rfl
    d__law_pair := c.def_ 8 (d := d__law_pair) rfl
    d__law_numbers := c.def_ 9 (d := d__law_numbers) rfl
    d_law := c.def_ 10 (d := d_law) rfl
    n_abs := He.free_ok X G (c.fact 0 (f := .free "abs") rfl)
    n_bool := He.free_ok X G (c.fact 1 (f := .free "bool") rfl)
    n_int := He.free_ok X G (c.fact 2 (f := .free "int") rfl)
    n_isinstance := He.free_ok X G (c.fact 3 (f := .free "isinstance") rfl)
    n_len := He.free_ok X G (c.fact 4 (f := .free "len") rfl)
    n_range := He.free_ok X G (c.fact 5 (f := .free "range") rfl)
    n_str := He.free_ok X G (c.fact 6 (f := .free "str") rfl)
    n_tuple := He.free_ok X G (c.fact 7 (f := .free "tuple") rfl)
    s_LETTERS := He.str_ok X G (c.fact 8 (f := .str "LETTERS" "abcdefghijklmnopqrstuvwxyz") rfl)
    m_divisor := He.glo_ok X G (c.fact 9 (f := .glo "divisor") rfl)
    m_is_whole := He.glo_ok X G (c.fact 10 (f := .glo "is_whole") rfl)
    m_is_name := He.glo_ok X G (c.fact 11 (f := .glo "is_name") rfl)
    m_is_fraction := He.glo_ok X G (c.fact 12 (f := .glo "is_fraction") rfl)
    m__law_divisor := He.glo_ok X G (c.fact 13 (f := .glo "_law_divisor") rfl)
    m__law_text := He.glo_ok X G (c.fact 14 (f := .glo "_law_text") rfl)
    m__law_bent := He.glo_ok X G (c.fact 15 (f := .glo "_law_bent") rfl)
    m__law_truth := He.glo_ok X G (c.fact 16 (f := .glo "_law_truth") rfl)
    m__law_pair := He.glo_ok X G (c.fact 17 (f := .glo "_law_pair") rfl)
    m__law_numbers := He.glo_ok X G (c.fact 18 (f := .glo "_law_numbers") rfl)
    m_law := He.glo_ok X G (c.fact 19 (f := .glo "law") rfl) }
  obtain ⟨fd, F⟩ := C.d_law
  have e := hfa.symm.trans C.m_law
  cases e
  have b := FunD.bindsA (ps := ["_law_script"]) F fun _ _ _ _ _ _ us hl => match us, hl with | [_], _ => rfl
  exact ⟨fd, fun s v => b s [v] rfl, fun base _ _ => ok_law C F⟩
end K11
open PySem PySem.W PySem.Calls PyProof.Rows
theorem PySem.Challenge.cw_slackchain_k11_names_and_fractions_told_holds : PySem.Challenge.rw_slackchain_k11_names_and_fractions_told.Holds := by
  w_on; o_law
  refine HandSHeadRun.head_any (r := OpenLaw.row PySem.Challenge.rw_slackchain_k11_names_and_fractions_told) (q := view (PySem.W.OpenLaw.row PySem.Challenge.rw_slackchain_k11_names_and_fractions_told).prog [14]) (H := K11.hk) (ob := K11.ob) (M := 4000) (loose := ["divisor", "LETTERS", "is_whole", "is_name", "is_fraction", "_law_divisor", "_law_text", "_law_bent", "_law_truth", "_law_pair", "_law_numbers"]) (d := HandSHeadRun.topDef (PySem.W.OpenLaw.row PySem.Challenge.rw_slackchain_k11_names_and_fractions_told).prog 14) (kwd := []) K11.ob_eq
    (by kernel_rfl) (fun s => by kernel_rfl) K11.run (by kernel_rfl) (by kernel_rfl) (by kernel_rfl) (by rfl) (by first | assumption | decide +kernel) (by decide +kernel) ⟨rfl, rfl, rfl, rfl, rfl, by decide +kernel⟩ ?hw ?hc
  case hw => w_witness2
  case hc =>
    refine DL.walk_ofW (l := PySem.Challenge.rw_slackchain_k11_names_and_fractions_told) (n := 63) (k := 4) (x := "_law_script") rfl (by decide) (by kernel_rfl) ⟨rfl, by decide, by decide⟩ ?F
    intro w mg fa h Y G hmg0
    obtain ⟨K, KX, c⟩ := Y
    have hmg : mg ("law" : PySem.Str) = some (.ref fa) := by
      have e : (HandSHeadRun.topDef (PySem.W.OpenLaw.row PySem.Challenge.rw_slackchain_k11_names_and_fractions_told).prog 14).name = ("law" : PySem.Str) := by kernel_rfl
      rw [← e]
      exact hmg0
    obtain ⟨fd, hb, hF⟩ := K11.facts (P := (PySem.Challenge.rw_slackchain_k11_names_and_fractions_told).prog) (w := w) KX G hmg c.t.d c.more
    exact ⟨K, fd, DL.liftSp K DL.spLaw, KX, hb, fun H a ns hl hS => DL.sp_end hl hS, hF⟩
