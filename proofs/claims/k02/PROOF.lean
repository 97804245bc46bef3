import PyProof.Rows.All
import Wide.All
import OpenK.AllK
import Wide.FinOn
import HandS.ForMost
import HandS.Exc
import HandS.WordsExc
import HandS.IsInst
import HandS.Walk
import HandS.CallSlots
import HandS.TupAny
import HandS.Deep
import HandS.Small
import PySem.Challenge.RW_worldbridge_k02_worlds_of_rows
set_option Elab.async false
set_option autoImplicit false
set_option linter.all false
set_option maxHeartbeats 4000000
set_option maxRecDepth 100000
/-! A layer over the hand layer: tuples are plain data, what is not named is forgotten. -/
namespace M
open PySem L2

/-! ### data, objects, heaps -/
inductive D where
  | non | bl (b : Bool) | int (i : Int) | str (x : Str) | ref (a : Addr) | ty (n : String) | tup (ds : List D) | fl (ds : List D)
inductive GO where
  | lst (ds : List D)
  | dk (kvs : List (Key × D))
  | dt (kvs : List (List Key × D))
  | ins (C : Addr) (fs : List (Str × D))
abbrev MH := Addr → Option GO
def gup (g : MH) (a : Addr) (o : GO) : MH := fun b => if b = a then some o else g b
def gdel (g : MH) (a : Addr) : MH := fun b => if b = a then none else g b
theorem gup_same {g : MH} {a : Addr} {o : GO} : gup g a o a = some o := by unfold gup; rw [if_pos rfl]
theorem gup_ne {g : MH} {a b : Addr} {o : GO} (h : b ≠ a) : gup g a o b = g b := by unfold gup; rw [if_neg h]
theorem gup_gup {g : MH} {a : Addr} {o u : GO} : gup (gup g a o) a u = gup g a u := by
  funext b; unfold gup; split <;> rfl
theorem gup_self {g : MH} {a : Addr} {o : GO} (h : g a = some o) : gup g a o = g := by
  funext b; unfold gup; split
  · rename_i e; rw [e, h]
  · rfl
theorem gup_comm {g : MH} {a b : Addr} {o u : GO} (h : a ≠ b) : gup (gup g a o) b u = gup (gup g b u) a o := by
  funext c; unfold gup
  by_cases h1 : c = b
  · subst h1
    rw [if_pos rfl, if_neg (Ne.symm h), if_pos rfl]
  · rw [if_neg h1]
    by_cases h2 : c = a
    · rw [if_pos h2, if_pos h2]
    · rw [if_neg h2, if_neg h2, if_neg h1]
theorem gne {g : MH} {a b : Addr} {o : GO} (h : g a = some o) (h' : g b = none) : a ≠ b := by
  intro e; subst e; rw [h] at h'; cases h'
theorem gne' {g : MH} {a b : Addr} {o : GO} (h' : g b = none) (h : g a = some o) : b ≠ a := (gne h h').symm
def Le (g g' : MH) : Prop := ∀ a o, g a = some o → g' a = some o
theorem Le.refl (g : MH) : Le g g := fun _ _ h => h
theorem Le.trans {g g1 g2 : MH} (a : Le g g1) (b : Le g1 g2) : Le g g2 := fun c o h => b c o (a c o h)
theorem Le.new {g : MH} {p : Addr} {o : GO} (h : g p = none) : Le g (gup g p o) := fun a u e => by
  rw [gup_ne (gne e h)]; exact e
theorem Le.up {g g' : MH} {p : Addr} {o : GO} (h : Le g g') : Le (gup g p o) (gup g' p o) := fun a u e => by
  unfold gup at e ⊢
  split at e
  · rename_i q; rw [if_pos q]; exact e
  · rename_i q; rw [if_neg q]; exact h a u e
theorem Le.newup {g g' : MH} {p : Addr} {o : GO} (h : Le g g') (hp : g p = none) : Le g (gup g' p o) := fun a u e => by
  rw [gup_ne (gne e hp)]; exact h a u e
theorem Le.none {g g' : MH} (h : Le g g') {p : Addr} (hp : g' p = none) : g p = none := by
  cases q : g p with
  | none => rfl
  | some o => rw [h p o q] at hp; cases hp
theorem Le.del {g : MH} {p : Addr} : Le (gdel g p) g := fun a u e => by
  unfold gdel at e
  split at e
  · cases e
  · exact e
theorem gdel_gup {g : MH} {p : Addr} {o : GO} (h : g p = none) : gdel (gup g p o) p = g := by
  funext b; unfold gdel gup
  by_cases e : b = p
  · rw [if_pos e, e, h]
  · rw [if_neg e, if_neg e]
theorem gdel_same {g : MH} {p : Addr} : gdel g p p = none := by unfold gdel; rw [if_pos rfl]
theorem gdel_ne {g : MH} {a b : Addr} (h : b ≠ a) : gdel g a b = g b := by unfold gdel; rw [if_neg h]

/-! ### how data lie -/
/-- a list that never changes: known to the object, or the module's -/
def Fz (K : PySem.W.Frag) (H : Hp) (a : Addr) (xs : List V) : Prop := (∃ o, H a = some (.frz o (.lst xs))) ∨
  ∃ (o : Obj) (its : Array Value) (n : Nat), K.lookup a = some o ∧ o.cls = .type "list" ∧ o.dict = none ∧ o.data = .seq its n ∧ its.size ≤ sizeLine ∧ Vals xs its.toList
theorem Fz.sq {K : PySem.W.Frag} {H : Hp} {a : Addr} {xs : List V} (h : Fz K H a xs) : SqL K H a xs := by
  rcases h with ⟨o, h⟩ | h
  · exact .inl (.inr ⟨o, h⟩)
  · exact .inr h
mutual
def RV (K : PySem.W.Frag) (H : Hp) : D → V → Prop
  | .non, v => v = .non
  | .bl b, v => v = .bl b
  | .int i, v => v = .int i
  | .str x, v => v = .str x
  | .ref a, v => v = .ref a
  | .ty n, v => v = .ty n
  | .tup ds, v => ∃ p xs, v = .ref p ∧ H p = some (.tup xs) ∧ RVs K H ds xs
  | .fl ds, v => ∃ p xs, v = .ref p ∧ Fz K H p xs ∧ RVs K H ds xs
def RVs (K : PySem.W.Frag) (H : Hp) : List D → List V → Prop
  | [], vs => vs = []
  | d :: ds, vs => ∃ v r, vs = v :: r ∧ RV K H d v ∧ RVs K H ds r
end
/-- the tuples stay -/
def Tk (H H' : Hp) : Prop := (∀ b xs, H b = some (.tup xs) → H' b = some (.tup xs)) ∧ ∀ b o u, H b = some (.frz o u) → H' b = some (.frz o u)
mutual
theorem RV.mono {K : PySem.W.Frag} {H H' : Hp} (t : Tk H H') : ∀ (d : D) (v : V), RV K H d v → RV K H' d v
  | .non, _, h => by unfold RV at h ⊢; exact h
  | .bl _, _, h => by unfold RV at h ⊢; exact h
  | .int _, _, h => by unfold RV at h ⊢; exact h
  | .str _, _, h => by unfold RV at h ⊢; exact h
  | .ref _, _, h => by unfold RV at h ⊢; exact h
  | .ty _, _, h => by unfold RV at h ⊢; exact h
  | .tup ds, v, h => by
    unfold RV at h ⊢
    obtain ⟨p, xs, e, hp, r⟩ := h
    exact ⟨p, xs, e, t.1 p xs hp, RVs.mono t ds xs r⟩
  | .fl ds, v, h => by
    unfold RV at h ⊢
    obtain ⟨p, xs, e, hp, r⟩ := h
    refine ⟨p, xs, e, ?_, RVs.mono t ds xs r⟩
    rcases hp with ⟨o, hp⟩ | hp
    · exact .inl ⟨o, t.2 p o _ hp⟩
    · exact .inr hp
theorem RVs.mono {K : PySem.W.Frag} {H H' : Hp} (t : Tk H H') : ∀ (ds : List D) (vs : List V), RVs K H ds vs → RVs K H' ds vs
  | [], _, h => by unfold RVs at h ⊢; exact h
  | d :: ds, vs, h => by
    unfold RVs at h ⊢
    obtain ⟨v, r, e, h1, h2⟩ := h
    exact ⟨v, r, e, RV.mono t d v h1, RVs.mono t ds r h2⟩
end
theorem RVs.length {K : PySem.W.Frag} {H : Hp} : ∀ {ds : List D} {vs : List V}, RVs K H ds vs → vs.length = ds.length
  | [], _, h => by unfold RVs at h; subst h; rfl
  | d :: ds, _, h => by
    unfold RVs at h
    obtain ⟨v, r, rfl, _, h2⟩ := h
    rw [List.length_cons, List.length_cons, RVs.length h2]
theorem RVs.nil {K : PySem.W.Frag} {H : Hp} : RVs K H [] [] := by unfold RVs; rfl
theorem RVs.cons {K : PySem.W.Frag} {H : Hp} {d : D} {v : V} {ds : List D} {vs : List V} (a : RV K H d v) (b : RVs K H ds vs) : RVs K H (d :: ds) (v :: vs) := by
  unfold RVs; exact ⟨v, vs, rfl, a, b⟩
theorem RVs.cons_inv {K : PySem.W.Frag} {H : Hp} {d : D} {ds : List D} {vs : List V} (h : RVs K H (d :: ds) vs) : ∃ v r, vs = v :: r ∧ RV K H d v ∧ RVs K H ds r := by
  unfold RVs at h; exact h
theorem RVs.nil_inv {K : PySem.W.Frag} {H : Hp} {vs : List V} (h : RVs K H [] vs) : vs = [] := by unfold RVs at h; exact h
theorem RVs.append {K : PySem.W.Frag} {H : Hp} : ∀ {ds es : List D} {vs ws : List V}, RVs K H ds vs → RVs K H es ws → RVs K H (ds ++ es) (vs ++ ws)
  | [], _, _, _, h, k => by rw [h.nil_inv]; exact k
  | d :: ds, _, _, _, h, k => by
    obtain ⟨v, r, rfl, h1, h2⟩ := h.cons_inv
    exact .cons h1 (RVs.append h2 k)
theorem RVs.get {K : PySem.W.Frag} {H : Hp} : ∀ {ds : List D} {vs : List V} {i : Nat} {d : D}, RVs K H ds vs → ds[i]? = some d → ∃ v, vs[i]? = some v ∧ RV K H d v
  | [], _, _, _, _, e => by simp at e
  | d :: ds, _, 0, _, h, e => by
    obtain ⟨v, r, rfl, h1, h2⟩ := h.cons_inv
    simp at e; subst e
    exact ⟨v, rfl, h1⟩
  | d :: ds, _, i + 1, _, h, e => by
    obtain ⟨v, r, rfl, h1, h2⟩ := h.cons_inv
    obtain ⟨w, h3, h4⟩ := RVs.get (i := i) h2 (by simpa using e)
    exact ⟨w, by simpa using h3, h4⟩
theorem RVs.getV {K : PySem.W.Frag} {H : Hp} : ∀ {ds : List D} {vs : List V} {i : Nat} {v : V}, RVs K H ds vs → vs[i]? = some v → ∃ d, ds[i]? = some d ∧ RV K H d v
  | [], _, _, _, h, e => by rw [h.nil_inv] at e; simp at e
  | d :: ds, _, 0, _, h, e => by
    obtain ⟨v, r, rfl, h1, h2⟩ := h.cons_inv
    simp at e; subst e
    exact ⟨d, rfl, h1⟩
  | d :: ds, _, i + 1, _, h, e => by
    obtain ⟨v, r, rfl, h1, h2⟩ := h.cons_inv
    obtain ⟨w, h3, h4⟩ := RVs.getV (i := i) h2 (by simpa using e)
    exact ⟨w, by simpa using h3, h4⟩
theorem RVs.set {K : PySem.W.Frag} {H : Hp} {d : D} {v : V} (a : RV K H d v) : ∀ {ds : List D} {vs : List V} (i : Nat), RVs K H ds vs → RVs K H (ds.set i d) (vs.set i v)
  | [], _, _, h => by rw [h.nil_inv]; exact RVs.nil
  | _ :: _, _, 0, h => by
    obtain ⟨w, r, rfl, h1, h2⟩ := h.cons_inv
    exact .cons a h2
  | _ :: _, _, i + 1, h => by
    obtain ⟨w, r, rfl, h1, h2⟩ := h.cons_inv
    exact .cons h1 (RVs.set a i h2)
theorem RVs.take {K : PySem.W.Frag} {H : Hp} : ∀ {ds : List D} {vs : List V} (n : Nat), RVs K H ds vs → RVs K H (ds.take n) (vs.take n)
  | _, _, 0, _ => RVs.nil
  | [], _, _ + 1, h => by rw [h.nil_inv]; exact RVs.nil
  | _ :: _, _, n + 1, h => by
    obtain ⟨w, r, rfl, h1, h2⟩ := h.cons_inv
    exact .cons h1 (RVs.take n h2)
theorem RVs.drop {K : PySem.W.Frag} {H : Hp} : ∀ {ds : List D} {vs : List V} (n : Nat), RVs K H ds vs → RVs K H (ds.drop n) (vs.drop n)
  | _, _, 0, h => h
  | [], _, _ + 1, h => by rw [h.nil_inv]; exact RVs.nil
  | _ :: _, _, n + 1, h => by
    obtain ⟨w, r, rfl, h1, h2⟩ := h.cons_inv
    exact RVs.drop n h2
theorem RVs.eraseIdx {K : PySem.W.Frag} {H : Hp} : ∀ {ds : List D} {vs : List V} (n : Nat), RVs K H ds vs → RVs K H (ds.eraseIdx n) (vs.eraseIdx n)
  | [], _, _, h => by rw [h.nil_inv]; exact RVs.nil
  | _ :: _, _, 0, h => by
    obtain ⟨w, r, rfl, h1, h2⟩ := h.cons_inv
    exact h2
  | _ :: _, _, n + 1, h => by
    obtain ⟨w, r, rfl, h1, h2⟩ := h.cons_inv
    exact .cons h1 (RVs.eraseIdx n h2)
theorem RVs.reverse {K : PySem.W.Frag} {H : Hp} : ∀ {ds : List D} {vs : List V}, RVs K H ds vs → RVs K H ds.reverse vs.reverse
  | [], _, h => by rw [h.nil_inv]; exact RVs.nil
  | _ :: _, _, h => by
    obtain ⟨w, r, rfl, h1, h2⟩ := h.cons_inv
    rw [List.reverse_cons, List.reverse_cons]
    exact (RVs.reverse h2).append (.cons h1 .nil)
theorem RVs.dropLast {K : PySem.W.Frag} {H : Hp} {ds : List D} {vs : List V} (h : RVs K H ds vs) : RVs K H ds.dropLast vs.dropLast := by
  rw [List.dropLast_eq_take, List.dropLast_eq_take, h.length]; exact h.take _
/-- pairs with keys -/
def RKs {κ : Type} (K : PySem.W.Frag) (H : Hp) : List (κ × D) → List (κ × V) → Prop
  | [], ks => ks = []
  | (k, d) :: r, ks => ∃ v s, ks = (k, v) :: s ∧ RV K H d v ∧ RKs K H r s
theorem RKs.mono {K : PySem.W.Frag} {κ : Type} {H H' : Hp} (t : Tk H H') : ∀ {ds : List (κ × D)} {vs : List (κ × V)}, RKs K H ds vs → RKs K H' ds vs
  | [], _, h => h
  | (k, d) :: r, _, h => by
    obtain ⟨v, s, e, h1, h2⟩ := h
    exact ⟨v, s, e, RV.mono t d v h1, RKs.mono t h2⟩
theorem RKs.length {K : PySem.W.Frag} {κ : Type} {H : Hp} : ∀ {ds : List (κ × D)} {vs : List (κ × V)}, RKs K H ds vs → vs.length = ds.length
  | [], _, h => by rw [show _ = [] from h]; rfl
  | (k, d) :: r, _, h => by
    obtain ⟨v, s, rfl, h1, h2⟩ := h
    rw [List.length_cons, List.length_cons, RKs.length h2]
theorem RKs.keys {K : PySem.W.Frag} {κ : Type} {H : Hp} : ∀ {ds : List (κ × D)} {vs : List (κ × V)}, RKs K H ds vs → vs.map (·.1) = ds.map (·.1)
  | [], _, h => by rw [show _ = [] from h]; rfl
  | (k, d) :: r, _, h => by
    obtain ⟨v, s, rfl, h1, h2⟩ := h
    rw [List.map_cons, List.map_cons, RKs.keys h2]
theorem RKs.lookup {K : PySem.W.Frag} {κ : Type} [BEq κ] {H : Hp} {x : κ} : ∀ {ds : List (κ × D)} {vs : List (κ × V)}, RKs K H ds vs →
    (ds.lookup x = none ∧ vs.lookup x = none) ∨ ∃ d v, ds.lookup x = some d ∧ vs.lookup x = some v ∧ RV K H d v
  | [], _, h => by rw [show _ = [] from h]; exact .inl ⟨rfl, rfl⟩
  | (k, d) :: r, _, h => by
    obtain ⟨v, s, rfl, h1, h2⟩ := h
    rw [List.lookup_cons, List.lookup_cons]
    cases e : x == k with
    | true => exact .inr ⟨d, v, rfl, rfl, h1⟩
    | false => exact RKs.lookup h2
theorem RKs.look_some {K : PySem.W.Frag} {κ : Type} [BEq κ] {H : Hp} {x : κ} {ds : List (κ × D)} {vs : List (κ × V)} {d : D} (h : RKs K H ds vs) (e : ds.lookup x = some d) : ∃ v, vs.lookup x = some v ∧ RV K H d v := by
  rcases h.lookup (x := x) with ⟨h1, _⟩ | ⟨d', v, h1, h2, h3⟩
  · rw [e] at h1; cases h1
  · rw [e] at h1; cases h1; exact ⟨v, h2, h3⟩
theorem RKs.look_none {K : PySem.W.Frag} {κ : Type} [BEq κ] {H : Hp} {x : κ} {ds : List (κ × D)} {vs : List (κ × V)} (h : RKs K H ds vs) (e : ds.lookup x = none) : vs.lookup x = none := by
  rcases h.lookup (x := x) with ⟨_, h1⟩ | ⟨d', v, h1, h2, h3⟩
  · exact h1
  · rw [e] at h1; cases h1
def putFD (f : Str) (v : D) : List (Str × D) → List (Str × D)
  | [] => [(f, v)]
  | (g, x) :: r => if g = f then (g, v) :: r else (g, x) :: putFD f v r
theorem RKs.putF {K : PySem.W.Frag} {H : Hp} {f : Str} {d : D} {v : V} (a : RV K H d v) : ∀ {ds : List (Str × D)} {vs : List (Str × V)}, RKs K H ds vs → RKs K H (putFD f d ds) (putF f v vs)
  | [], _, h => by
    rw [show _ = [] from h]
    exact ⟨v, [], rfl, a, rfl⟩
  | (k, e) :: r, _, h => by
    obtain ⟨w, s, rfl, h1, h2⟩ := h
    unfold putFD L2.putF
    by_cases q : k = f
    · rw [if_pos q, if_pos q]; exact ⟨v, s, rfl, a, h2⟩
    · rw [if_neg q, if_neg q]; exact ⟨w, _, rfl, h1, RKs.putF a h2⟩

/-- how an object lies -/
def RO (K : PySem.W.Frag) (H : Hp) (a : Addr) : GO → Prop
  | .lst ds => ∃ xs, H a = some (.lst xs) ∧ RVs K H ds xs
  | .dk kvs => ∃ ks, H a = some (.dK ks) ∧ RKs K H kvs ks
  | .dt kvs => ∃ ks, H a = some (.dT ks) ∧ RKs K H kvs ks
  | .ins C fs => ∃ dx ks, H a = some (.ins C dx ks) ∧ RKs K H fs ks
theorem SqL.keep {K : PySem.W.Frag} {H H' : Hp} {a : Addr} {xs : List V} (h : SqL K H a xs) (e : ∀ o, H a = some o → H' a = some o) : SqL K H' a xs := by
  rcases h with (h | ⟨o, h⟩) | h
  · exact .inl (.inl (e _ h))
  · exact .inl (.inr ⟨o, e _ h⟩)
  · exact .inr h
theorem RO.keep {K : PySem.W.Frag} {H H' : Hp} {a : Addr} {o : GO} (h : RO K H a o) (t : Tk H H') (e : ∀ o, H a = some o → H' a = some o) : RO K H' a o := by
  cases o with
  | lst ds => obtain ⟨xs, h1, h2⟩ := h; exact ⟨xs, e _ h1, RVs.mono t _ _ h2⟩
  | dk ds => obtain ⟨xs, h1, h2⟩ := h; exact ⟨xs, e _ h1, h2.mono t⟩
  | dt ds => obtain ⟨xs, h1, h2⟩ := h; exact ⟨xs, e _ h1, h2.mono t⟩
  | ins C ds => obtain ⟨dx, xs, h1, h2⟩ := h; exact ⟨dx, xs, e _ h1, h2.mono t⟩

abbrev MSt := List (Option D)
/-- held values, pinned objects -/
structure Bs where
  hs : List (D × V)
  ps : List (Addr × HO)
def Bs.le (B C : Bs) : Prop := (∀ x ∈ B.hs, x ∈ C.hs) ∧ ∀ x ∈ B.ps, x ∈ C.ps
theorem Bs.le_refl (B : Bs) : B.le B := ⟨fun _ h => h, fun _ h => h⟩
theorem Bs.le_trans {A B C : Bs} (a : A.le B) (b : B.le C) : A.le C := ⟨fun x h => b.1 x (a.1 x h), fun x h => b.2 x (a.2 x h)⟩
def Bs.hold (B : Bs) (d : D) (v : V) : Bs := ⟨(d, v) :: B.hs, B.ps⟩
def Bs.pin (B : Bs) (a : Addr) (o : HO) : Bs := ⟨B.hs, (a, o) :: B.ps⟩
def Bs.more (B : Bs) (l : List (D × V)) : Bs := ⟨l ++ B.hs, B.ps⟩
theorem Bs.le_hold {B : Bs} {d : D} {v : V} : B.le (B.hold d v) := ⟨fun _ h => List.mem_cons_of_mem _ h, fun _ h => h⟩
theorem Bs.le_pin {B : Bs} {a : Addr} {o : HO} : B.le (B.pin a o) := ⟨fun _ h => h, fun _ h => List.mem_cons_of_mem _ h⟩
theorem Bs.le_more {B : Bs} {l : List (D × V)} : B.le (B.more l) := ⟨fun _ h => List.mem_append_right _ h, fun _ h => h⟩

structure RepG (K : PySem.W.Frag) (H : Hp) (m : MH) (B : Bs) : Prop where
  g : ∀ a o, m a = some o → RO K H a o
  h : ∀ p ∈ B.hs, RV K H p.1 p.2
  p : ∀ q ∈ B.ps, H q.1 = some q.2 ∧ m q.1 = none
structure RepT (K : PySem.W.Frag) (H : Hp) (σ : St) (τ : MSt) : Prop where
  t : ∀ (i : Nat) (d : D), τ[i]? = some (some d) → ∃ v, σ[i]? = some (some v) ∧ RV K H d v
  len : τ.length = σ.length
structure Rep (K : PySem.W.Frag) (H : Hp) (σ : St) (τ : MSt) (g : MH) (B : Bs) : Prop where
  G : RepG K H g B
  T : RepT K H σ τ
section
variable {K : PySem.W.Frag} {H H' : Hp} {σ : St} {τ : MSt} {g g' : MH} {B C : Bs}
theorem RepT.mono (R : RepT K H σ τ) (t : Tk H H') : RepT K H' σ τ := ⟨fun i d e => by
  obtain ⟨v, h1, h2⟩ := R.t i d e
  exact ⟨v, h1, RV.mono t _ _ h2⟩, R.len⟩
theorem RepG.sub (R : RepG K H g C) (h : B.le C) : RepG K H g B := ⟨R.g, fun p hp => R.h p (h.1 p hp), fun q hq => R.p q (h.2 q hq)⟩
theorem Rep.sub (R : Rep K H σ τ g C) (h : B.le C) : Rep K H σ τ g B := ⟨R.G.sub h, R.T⟩
theorem RepG.drop (R : RepG K H g B) (h : Le g' g) : RepG K H g' B := ⟨fun a o e => R.g a o (h a o e), R.h, fun q hq => ⟨(R.p q hq).1, h.none (R.p q hq).2⟩⟩
theorem Rep.drop (R : Rep K H σ τ g B) (h : Le g' g) : Rep K H σ τ g' B := ⟨R.G.drop h, R.T⟩
theorem RepG.hold {d : D} {v : V} (R : RepG K H g B) (r : RV K H d v) : RepG K H g (B.hold d v) := ⟨R.g, fun p hp => by
  rcases List.mem_cons.mp hp with rfl | hp
  · exact r
  · exact R.h p hp, R.p⟩
theorem Rep.hold {d : D} {v : V} (R : Rep K H σ τ g B) (r : RV K H d v) : Rep K H σ τ g (B.hold d v) := ⟨R.G.hold r, R.T⟩
theorem Rep.unhold {d : D} {v : V} (R : Rep K H σ τ g (B.hold d v)) : Rep K H σ τ g B := R.sub Bs.le_hold
theorem Rep.held {d : D} {v : V} (R : Rep K H σ τ g (B.hold d v)) : RV K H d v := R.G.h (d, v) List.mem_cons_self
/-- many values held -/
theorem more_of {ds : List D} {vs : List V} (r : RVs K H ds vs) : ∀ p ∈ ds.zip vs, RV K H p.1 p.2 := fun p hp => by
  obtain ⟨i, hi⟩ := List.mem_iff_getElem?.mp hp
  rw [List.getElem?_zip_eq_some] at hi
  obtain ⟨v, h1, h2⟩ := r.get hi.1
  rw [hi.2] at h1; cases h1; exact h2
theorem of_more : ∀ {ds : List D} {vs : List V}, vs.length = ds.length → (∀ p ∈ ds.zip vs, RV K H p.1 p.2) → RVs K H ds vs
  | [], [], _, _ => RVs.nil
  | [], _ :: _, h, _ => by simp at h
  | _ :: _, [], h, _ => by simp at h
  | d :: ds, v :: vs, h, k => .cons (k (d, v) (by simp)) (of_more (by simpa using h) fun p hp => k p (by
      rw [List.zip_cons_cons]; exact List.mem_cons_of_mem _ hp))
theorem Rep.more {ds : List D} {vs : List V} (R : Rep K H σ τ g B) (r : RVs K H ds vs) : Rep K H σ τ g (B.more (ds.zip vs)) := ⟨⟨R.G.g, fun p hp => by
  rcases List.mem_append.mp hp with hp | hp
  · exact more_of r p hp
  · exact R.G.h p hp, R.G.p⟩, R.T⟩
theorem Rep.mores {ds : List D} {vs : List V} (R : Rep K H σ τ g (B.more (ds.zip vs))) (hl : vs.length = ds.length) : RVs K H ds vs :=
  of_more hl fun p hp => R.G.h p (List.mem_append_left _ hp)
/-- the object at a goes out of sight and is pinned -/
theorem RepG.pin {a : Addr} {o : HO} (R : RepG K H g B) (h : H a = some o) : RepG K H (gdel g a) (B.pin a o) := by
  refine ⟨(R.drop Le.del).g, R.h, fun q hq => ?_⟩
  rcases List.mem_cons.mp hq with rfl | hq
  · exact ⟨h, gdel_same⟩
  · exact (R.drop Le.del).p q hq
theorem Tk.refl (H : Hp) : Tk H H := ⟨fun _ _ h => h, fun _ _ _ h => h⟩
theorem Tk.new {p : Addr} {o : HO} (h : H p = none) : Tk H (upd H p o) := ⟨fun b xs e => by rw [upd_ne (ne_of_none e h)]; exact e, fun b _ xs e => by rw [upd_ne (ne_of_none e h)]; exact e⟩
def Wr : HO → Bool
  | .tup _ => false
  | .frz _ _ => false
  | _ => true
theorem Tk.write {p : Addr} {o u : HO} (h : H p = some u) (hu : Wr u = true) : Tk H (upd H p o) := by
  refine ⟨fun b xs e => ?_, fun b _ xs e => ?_⟩
  · rw [upd_ne]
    · exact e
    · rintro rfl; rw [e] at h; cases h; exact Bool.noConfusion hu
  · rw [upd_ne]
    · exact e
    · rintro rfl; rw [e] at h; cases h; exact Bool.noConfusion hu
/-- a new thing that isn't told of -/
theorem RepG.lay {p : Addr} {o : HO} (R : RepG K H g B) (h : H p = none) : RepG K (upd H p o) g B := by
  refine ⟨fun a u e => (R.g a u e).keep (Tk.new h) fun v q => by rw [upd_ne (ne_of_none q h)]; exact q, fun q hq => RV.mono (Tk.new h) _ _ (R.h q hq), fun q hq => ⟨?_, (R.p q hq).2⟩⟩
  rw [upd_ne (ne_of_none (R.p q hq).1 h)]; exact (R.p q hq).1
theorem Rep.lay {p : Addr} {o : HO} (R : Rep K H σ τ g B) (h : H p = none) : Rep K (upd H p o) σ τ g B := ⟨R.G.lay h, R.T.mono (Tk.new h)⟩
theorem RO.there {a : Addr} {o : GO} (h : RO K H a o) : ∃ u, H a = some u := by
  cases o with
  | lst ds => obtain ⟨xs, h1, _⟩ := h; exact ⟨_, h1⟩
  | dk ds => obtain ⟨xs, h1, _⟩ := h; exact ⟨_, h1⟩
  | dt ds => obtain ⟨xs, h1, _⟩ := h; exact ⟨_, h1⟩
  | ins C ds => obtain ⟨dx, xs, h1, _⟩ := h; exact ⟨_, h1⟩
theorem RepG.fresh {p : Addr} (R : RepG K H g B) (h : H p = none) : g p = none := by
  cases q : g p with
  | none => rfl
  | some o => obtain ⟨u, e⟩ := (R.g p o q).there; rw [h] at e; cases e
theorem Rep.fresh {p : Addr} (R : Rep K H σ τ g B) (h : H p = none) : g p = none := R.G.fresh h
/-- a new object that is told of -/
theorem RepG.alloc {p : Addr} {o : HO} {u : GO} (R : RepG K H g B) (h : H p = none) (n : RO K (upd H p o) p u) : RepG K (upd H p o) (gup g p u) B := by
  have R' := R.lay (o := o) h
  refine ⟨fun a v e => ?_, R'.h, fun q hq => ⟨(R'.p q hq).1, ?_⟩⟩
  · by_cases ha : a = p
    · subst ha; rw [gup_same] at e; cases e; exact n
    · rw [gup_ne ha] at e; exact R'.g a v e
  · rw [gup_ne (ne_of_none (R.p q hq).1 h)]; exact (R.p q hq).2
theorem Rep.alloc {p : Addr} {o : HO} {u : GO} (R : Rep K H σ τ g B) (h : H p = none) (n : RO K (upd H p o) p u) : Rep K (upd H p o) σ τ (gup g p u) B := ⟨R.G.alloc h n, R.T.mono (Tk.new h)⟩
/-- an object changed -/
theorem RepG.write {p : Addr} {o u : HO} {x y : GO} (R : RepG K H g B) (hp : H p = some u) (hu : Wr u = true) (e : g p = some x) (n : RO K (upd H p o) p y) : RepG K (upd H p o) (gup g p y) B := by
  have t : Tk H (upd H p o) := Tk.write hp hu
  refine ⟨fun a v q => ?_, fun q hq => RV.mono t _ _ (R.h q hq), fun q hq => ?_⟩
  · by_cases ha : a = p
    · subst ha; rw [gup_same] at q; cases q; exact n
    · rw [gup_ne ha] at q; exact (R.g a v q).keep t fun v q => by rw [upd_ne ha]; exact q
  · have nq : q.1 ≠ p := gne' (R.p q hq).2 e
    rw [upd_ne nq, gup_ne nq]; exact R.p q hq
theorem Rep.write {p : Addr} {o u : HO} {x y : GO} (R : Rep K H σ τ g B) (hp : H p = some u) (hu : Wr u = true) (e : g p = some x) (n : RO K (upd H p o) p y) : Rep K (upd H p o) σ τ (gup g p y) B :=
  ⟨R.G.write hp hu e n, R.T.mono (Tk.write hp hu)⟩
theorem Rep.lst {a : Addr} {ds : List D} (R : Rep K H σ τ g B) (e : g a = some (.lst ds)) : ∃ xs, H a = some (.lst xs) ∧ RVs K H ds xs := R.G.g a _ e
theorem Rep.dk {a : Addr} {ds : List (Key × D)} (R : Rep K H σ τ g B) (e : g a = some (.dk ds)) : ∃ xs, H a = some (.dK xs) ∧ RKs K H ds xs := R.G.g a _ e
theorem Rep.dt {a : Addr} {ds : List (List Key × D)} (R : Rep K H σ τ g B) (e : g a = some (.dt ds)) : ∃ xs, H a = some (.dT xs) ∧ RKs K H ds xs := R.G.g a _ e
theorem Rep.ins {a C : Addr} {ds : List (Str × D)} (R : Rep K H σ τ g B) (e : g a = some (.ins C ds)) : ∃ dx xs, H a = some (.ins C dx xs) ∧ RKs K H ds xs := R.G.g a _ e
theorem Rep.setL {a : Addr} {ds es : List D} {xs ys : List V} (R : Rep K H σ τ g B) (e : g a = some (.lst ds)) (hx : H a = some (.lst xs)) (r : RVs K H es ys) : Rep K (upd H a (.lst ys)) σ τ (gup g a (.lst es)) B :=
  R.write hx rfl e ⟨ys, upd_same, RVs.mono (Tk.write hx rfl) _ _ r⟩
theorem Rep.newL {p : Addr} {es : List D} {ys : List V} (R : Rep K H σ τ g B) (h : H p = none) (r : RVs K H es ys) : Rep K (upd H p (.lst ys)) σ τ (gup g p (.lst es)) B :=
  R.alloc h ⟨ys, upd_same, RVs.mono (Tk.new h) _ _ r⟩
theorem Rep.newT {p : Addr} {es : List D} {ys : List V} (R : Rep K H σ τ g B) (h : H p = none) (r : RVs K H es ys) : Rep K (upd H p (.tup ys)) σ τ g B ∧ RV K (upd H p (.tup ys)) (.tup es) (.ref p) := by
  refine ⟨R.lay h, ?_⟩
  unfold RV
  exact ⟨p, ys, rfl, upd_same, RVs.mono (Tk.new h) _ _ r⟩
theorem RepT.set {i : Nat} {d : D} {v : V} (R : RepT K H σ τ) (r : RV K H d v) : RepT K H (σ.set i (some v)) (τ.set i (some d)) := by
  refine ⟨fun j e q => ?_, by rw [List.length_set, List.length_set, R.len]⟩
  by_cases hj : i = j
  · subst hj
    by_cases hi : i < τ.length
    · rw [List.getElem?_set_self hi] at q
      cases q
      exact ⟨v, List.getElem?_set_self (by rw [← R.len]; exact hi), r⟩
    · rw [List.getElem?_eq_none (by simpa using hi)] at q; cases q
  · rw [List.getElem?_set_ne hj] at q ⊢
    exact R.t j e q
theorem Rep.set {i : Nat} {d : D} {v : V} (R : Rep K H σ τ g B) (r : RV K H d v) : Rep K H (σ.set i (some v)) (τ.set i (some d)) g B := ⟨R.G, R.T.set r⟩
end
end M

/-! Judgements over data: expressions. -/
namespace M
open PySem L2

abbrev MVK := D → MH → Prop
abbrev TEM := MSt → MH → MVK → Prop
abbrev TTM := MSt → MH → (Bool → MH → Prop) → Prop
abbrev TAM := MSt → MH → (List D → MH → Prop) → Prop
def MonoE (m : TEM) : Prop := ∀ (τ : MSt) (g : MH) (Q Q' : MVK), (∀ d g, Q d g → Q' d g) → m τ g Q → m τ g Q'
def MonoT (m : TTM) : Prop := ∀ (τ : MSt) (g : MH) (Q Q' : Bool → MH → Prop), (∀ d g, Q d g → Q' d g) → m τ g Q → m τ g Q'
def MonoA (m : TAM) : Prop := ∀ (τ : MSt) (g : MH) (Q Q' : List D → MH → Prop), (∀ d g, Q d g → Q' d g) → m τ g Q → m τ g Q'
/-- a reading over data as a reading of the layer -/
def LE (K : PySem.W.Frag) (B : Bs) (m : TEM) : TE := fun σ H Q => ∃ τ g C, B.le C ∧ Rep K H σ τ g C ∧ m τ g fun d g' => ∀ v H', Rep K H' σ τ g' C → RV K H' d v → Q v H'
def LT (K : PySem.W.Frag) (B : Bs) (m : TTM) : TT := fun σ H Q => ∃ τ g C, B.le C ∧ Rep K H σ τ g C ∧ m τ g fun b g' => ∀ H', Rep K H' σ τ g' C → Q b H'
def LA (K : PySem.W.Frag) (B : Bs) (m : TAM) : TA := fun σ H Q => ∃ τ g C, B.le C ∧ Rep K H σ τ g C ∧ m τ g fun ds g' => ∀ vs H', Rep K H' σ τ g' C → RVs K H' ds vs → Q vs H'
structure ME (X : Cx) (B : Bs) (e : Expr) (m : TEM) : Prop where
  mono : MonoE m
  run : PE X e (LE X.K B m)
structure MT (X : Cx) (B : Bs) (e : Expr) (m : TTM) : Prop where
  mono : MonoT m
  run : PT X e (LT X.K B m)
structure MW (X : Cx) (B : Bs) (e : Expr) (m : TTM) : Prop where
  mono : MonoT m
  run : PW X e (LT X.K B m)
structure MA (X : Cx) (B : Bs) (es : List Expr) (m : TAM) : Prop where
  mono : MonoA m
  len : ∀ (τ : MSt) (g : MH) (Q : List D → MH → Prop), m τ g Q → m τ g fun ds g' => ds.length = es.length ∧ Q ds g'
  run : PA X es (LA X.K B m)
theorem peImp {X : Cx} {e : Expr} {t t' : TE} (h : PE X e t) (i : ∀ σ H Q, t' σ H Q → t σ H Q) : PE X e t' := ⟨fun pins s σ H Q I q => h.run pins s σ H Q I (i σ H Q q)⟩
theorem ptImp {X : Cx} {e : Expr} {t t' : TT} (h : PT X e t) (i : ∀ σ H Q, t' σ H Q → t σ H Q) : PT X e t' := ⟨fun pins s σ H Q I q => h.run pins s σ H Q I (i σ H Q q)⟩
theorem pwImp {X : Cx} {e : Expr} {t t' : TT} (h : PW X e t) (i : ∀ σ H Q, t' σ H Q → t σ H Q) : PW X e t' := ⟨fun wh pins s σ H Q I q => h.run wh pins s σ H Q I (i σ H Q q)⟩
theorem paImp {X : Cx} {e : List Expr} {t t' : TA} (h : PA X e t) (i : ∀ σ H Q, t' σ H Q → t σ H Q) : PA X e t' := ⟨fun pos pins s σ H Q I q => h.run pos pins s σ H Q I (i σ H Q q)⟩
theorem peOr {X : Cx} {e : Expr} {t t' : TE} (h : PE X e t) (h' : PE X e t') : PE X e fun σ H Q => t σ H Q ∨ t' σ H Q := ⟨fun pins s σ H Q I q => q.elim (h.run pins s σ H Q I) (h'.run pins s σ H Q I)⟩
section
variable {K : PySem.W.Frag} {B C : Bs} {σ : L2.St} {H : Hp} {τ : MSt} {g : MH}
theorem LE.seq {m : TEM} (hm : MonoE m) (hB : B.le C) (R : Rep K H σ τ g C) {P : MVK} (h : m τ g P) {Q : VK} (k : ∀ d g' v H', P d g' → Rep K H' σ τ g' C → RV K H' d v → Q v H') : LE K B m σ H Q :=
  ⟨τ, g, C, hB, R, hm τ g _ _ (fun d g' p v H' R' r => k d g' v H' p R' r) h⟩
theorem LT.seq {m : TTM} (hm : MonoT m) (hB : B.le C) (R : Rep K H σ τ g C) {P : Bool → MH → Prop} (h : m τ g P) {Q : Bool → Hp → Prop} (k : ∀ d g' H', P d g' → Rep K H' σ τ g' C → Q d H') : LT K B m σ H Q :=
  ⟨τ, g, C, hB, R, hm τ g _ _ (fun d g' p H' R' => k d g' H' p R') h⟩
theorem LA.seq {m : TAM} (hm : MonoA m) (hB : B.le C) (R : Rep K H σ τ g C) {P : List D → MH → Prop} (h : m τ g P) {Q : List V → Hp → Prop} (k : ∀ d g' v H', P d g' → Rep K H' σ τ g' C → RVs K H' d v → Q v H') : LA K B m σ H Q :=
  ⟨τ, g, C, hB, R, hm τ g _ _ (fun d g' p v H' R' r => k d g' v H' p R' r) h⟩
end

/-! ### names and constants -/
def mVar (i : Nat) : TEM := fun τ g Q => ∃ d, τ[i]? = some (some d) ∧ Q d g
def mC (d : D) : TEM := fun _ g Q => Q d g
theorem mono_c {d : D} : MonoE (mC d) := fun _ _ _ _ h q => h _ _ q
section
variable {X : Cx} {B : Bs} {pos : Pos}
theorem me_var (i : Nat) {x : Str} (hN : X.N[i]? = some x := by rfl) (hv : Vis X.env.scope x := by first | exact Or.inl rfl | exact Or.inr (Or.inl rfl) | exact Or.inr (Or.inr rfl)) (hd : (x == ("__debug__" : Str)) = false := by decide)
    (hcd : (x == ("__classdict__" : Str)) = false := by decide) : ME X B (.Name x pos) (mVar i) :=
  ⟨fun _ _ _ _ h ⟨d, e, q⟩ => ⟨d, e, h _ _ q⟩, peImp (pe_var hN hv hd hcd) fun σ H Q ⟨τ, g, C, _, R, d, e, q⟩ => by
    obtain ⟨v, h1, h2⟩ := R.T.t i d e
    exact ⟨v, h1, q v H R h2⟩⟩
theorem me_const {e : Expr} {v : V} {d : D} (h : PE X e (tC v)) (r : ∀ H, RV X.K H d v) : ME X B e (mC d) :=
  ⟨mono_c, peImp h fun σ H Q ⟨τ, g, C, _, R, q⟩ => q v H R (r H)⟩
theorem me_int {i j} : ME X B (.Constant (.int i) j pos) (mC (.int i)) := me_const pe_int fun H => by unfold RV; rfl
theorem me_bl {b j} : ME X B (.Constant (.bool b) j pos) (mC (.bl b)) := me_const pe_bl fun H => by unfold RV; rfl
theorem me_non {j} : ME X B (.Constant .none j pos) (mC .non) := me_const pe_non fun H => by unfold RV; rfl
theorem me_str {x j} : ME X B (.Constant (.str x) j pos) (mC (.str x)) := me_const pe_str fun H => by unfold RV; rfl
/-- a constant of the module: an int, a text, a class -/
theorem me_gint {x : Str} {i : Int} (hg : Gl X x) (hm : ∃ t, X.mg x = some (.int i t)) (hd : (x == ("__debug__" : Str)) = false := by decide) : ME X B (.Name x pos) (mC (.int i)) := by
  obtain ⟨t, hm⟩ := hm
  exact me_const (pe_glob hg hm (v := .int i) ⟨t, rfl⟩ hd) fun H => by unfold RV; rfl
theorem me_gstr {x : Str} {z : Str} (hg : Gl X x) (hm : ∃ t, X.mg x = some (.str z t)) (hd : (x == ("__debug__" : Str)) = false := by decide) : ME X B (.Name x pos) (mC (.str z)) := by
  obtain ⟨t, hm⟩ := hm
  exact me_const (pe_glob hg hm (v := .str z) ⟨t, rfl⟩ hd) fun H => by unfold RV; rfl
theorem me_gref {x : Str} {a : Addr} (hg : Gl X x) (hm : X.mg x = some (.ref a)) (hd : (x == ("__debug__" : Str)) = false := by decide) : ME X B (.Name x pos) (mC (.ref a)) :=
  me_const (pe_glob hg hm (v := .ref a) rfl hd) fun H => by unfold RV; rfl
theorem me_gty {x : Str} {n : String} (hg : Gl X x) (hm : X.mg x = none) (hv : bootBuiltins x = some (.type n)) (hn : x ≠ "__name__" := by decide) (hd : (x == ("__debug__" : Str)) = false := by decide) : ME X B (.Name x pos) (mC (.ty n)) :=
  me_const (pe_bltn hg hm hv (v := .ty n) rfl hn hd) fun H => by unfold RV; rfl
end

/-! ### operators by values -/
abbrev R2M := D → D → MH → MVK → Prop
def MonoR (r : R2M) : Prop := ∀ (x y : D) (g : MH) (Q Q' : MVK), (∀ d g, Q d g → Q' d g) → r x y g Q → r x y g Q'
structure OpS (K : PySem.W.Frag) (r : R2) (rm : R2M) : Prop where
  mono : MonoR rm
  run : ∀ {H : Hp} {σ : L2.St} {τ : MSt} {g : MH} {C : Bs} {x y : D} {v w : V} {Q : VK}, Rep K H σ τ g C → RV K H x v → RV K H y w → rm x y g (fun d g' => ∀ v H', Rep K H' σ τ g' C → RV K H' d v → Q v H') → r v w H Q
theorem OpS.or {K : PySem.W.Frag} {r r' : R2} {rm rm' : R2M} (a : OpS K r rm) (b : OpS K r' rm') : OpS K (fun x y H Q => r x y H Q ∨ r' x y H Q) (fun x y g Q => rm x y g Q ∨ rm' x y g Q) :=
  ⟨fun x y g Q Q' h q => q.imp (a.mono x y g Q Q' h) (b.mono x y g Q Q' h), fun R r1 r2 q => q.imp (a.run R r1 r2) (b.run R r1 r2)⟩
theorem OpS.imp {K : PySem.W.Frag} {r : R2} {rm rm' : R2M} (a : OpS K r rm) (m : MonoR rm') (h : ∀ x y g Q, rm' x y g Q → rm x y g Q) : OpS K r rm' :=
  ⟨m, fun R r1 r2 q => a.run R r1 r2 (h _ _ _ _ q)⟩
def mOp (r : R2M) (ma mb : TEM) : TEM := fun τ g Q => ma τ g fun x g1 => mb τ g1 fun y g2 => r x y g2 Q
theorem mono_op {r : R2M} {ma mb : TEM} (hr : MonoR r) (ha : MonoE ma) (hb : MonoE mb) : MonoE (mOp r ma mb) := fun τ g Q Q' h q =>
  ha τ g _ _ (fun x g1 q => hb τ g1 _ _ (fun y g2 q => hr x y g2 Q Q' h q) q) q
theorem le_op {K : PySem.W.Frag} {B : Bs} {r : R2} {rm : R2M} {ma mb : TEM} (hr : OpS K r rm) (ha : MonoE ma) (hb : MonoE mb) (σ : L2.St) (H : Hp) (Q : VK) (h : LE K B (mOp rm ma mb) σ H Q) : tOp r (LE K B ma) (LE K B mb) σ H Q := by
  obtain ⟨τ, g, C, hB, R, q⟩ := h
  refine LE.seq ha hB R q fun x g1 v H1 q1 R1 r1 => ?_
  refine LE.seq hb (Bs.le_trans hB Bs.le_hold) (R1.hold r1) q1 fun y g2 w H2 q2 R2 r2 => ?_
  exact hr.run R2.unhold R2.held r2 q2
section
variable {X : Cx} {B : Bs} {pos : Pos} {a b : Expr} {ma mb : TEM} {r : R2} {rm : R2M}
theorem me_op {op : Operator} (ho : OpR X (binaryOp op) r) (hr : OpS X.K r rm) (ha : ME X B a ma) (hb : ME X B b mb) : ME X B (.BinOp a op b pos) (mOp rm ma mb) :=
  ⟨mono_op hr.mono ha.mono hb.mono, peImp (pe_op ho ha.run hb.run) (le_op hr ha.mono hb.mono)⟩
theorem me_cmp {op : CmpOp} (ho : OpR X (compareOp op) r) (hr : OpS X.K r rm) (ha : ME X B a ma) (hb : ME X B b mb) (hm : behindInMarks op b = false) : ME X B (.Compare a [op] [b] pos) (mOp rm ma mb) :=
  ⟨mono_op hr.mono ha.mono hb.mono, peImp (pe_cmpR ho ha.run hb.run hm) (le_op hr ha.mono hb.mono)⟩
end
theorem RV.int_inv {K : PySem.W.Frag} {H : Hp} {i : Int} {v : V} (h : RV K H (.int i) v) : v = .int i := by unfold RV at h; exact h
theorem RV.bl_inv {K : PySem.W.Frag} {H : Hp} {i : Bool} {v : V} (h : RV K H (.bl i) v) : v = .bl i := by unfold RV at h; exact h
theorem RV.str_inv {K : PySem.W.Frag} {H : Hp} {i : Str} {v : V} (h : RV K H (.str i) v) : v = .str i := by unfold RV at h; exact h
theorem RV.ref_inv {K : PySem.W.Frag} {H : Hp} {i : Addr} {v : V} (h : RV K H (.ref i) v) : v = .ref i := by unfold RV at h; exact h
theorem RV.ty_inv {K : PySem.W.Frag} {H : Hp} {i : String} {v : V} (h : RV K H (.ty i) v) : v = .ty i := by unfold RV at h; exact h
theorem RV.non_inv {K : PySem.W.Frag} {H : Hp} {v : V} (h : RV K H .non v) : v = .non := by unfold RV at h; exact h
theorem RV.tup_inv {K : PySem.W.Frag} {H : Hp} {ds : List D} {v : V} (h : RV K H (.tup ds) v) : ∃ p xs, v = .ref p ∧ H p = some (.tup xs) ∧ RVs K H ds xs := by unfold RV at h; exact h
theorem RV.fl_inv {K : PySem.W.Frag} {H : Hp} {ds : List D} {v : V} (h : RV K H (.fl ds) v) : ∃ p xs, v = .ref p ∧ Fz K H p xs ∧ RVs K H ds xs := by unfold RV at h; exact h
theorem RV.int {K : PySem.W.Frag} {H : Hp} {i : Int} : RV K H (.int i) (.int i) := by unfold RV; rfl
theorem RV.bl {K : PySem.W.Frag} {H : Hp} {i : Bool} : RV K H (.bl i) (.bl i) := by unfold RV; rfl
theorem RV.str {K : PySem.W.Frag} {H : Hp} {i : Str} : RV K H (.str i) (.str i) := by unfold RV; rfl
theorem RV.ref {K : PySem.W.Frag} {H : Hp} {i : Addr} : RV K H (.ref i) (.ref i) := by unfold RV; rfl
theorem RV.non {K : PySem.W.Frag} {H : Hp} : RV K H .non .non := by unfold RV; rfl
theorem RV.tup {K : PySem.W.Frag} {H : Hp} {ds : List D} {p : Addr} {xs : List V} (h : H p = some (.tup xs)) (r : RVs K H ds xs) : RV K H (.tup ds) (.ref p) := by unfold RV; exact ⟨p, xs, rfl, h, r⟩
theorem RVs.ref1 {K : PySem.W.Frag} {H : Hp} {a : Addr} {vs : List V} (h : RVs K H [.ref a] vs) : vs = [.ref a] := by
  obtain ⟨v, r, rfl, h1, h2⟩ := h.cons_inv
  rw [h1.ref_inv, h2.nil_inv]
theorem RVs.nil_right {K : PySem.W.Frag} {H : Hp} : ∀ {ds : List D}, RVs K H ds [] → ds = []
  | [], _ => rfl
  | _ :: _, h => by obtain ⟨v, r, e, _⟩ := h.cons_inv; cases e
theorem szL {n : Nat} (h : n ≤ 100000) : n ≤ sizeLine := Nat.le_trans h (by decide)
theorem szl {n : Nat} (h : n < 100000) : n < sizeLine := Nat.lt_of_lt_of_le h (by decide)

/-- ints and a condition -/
def rI2 (C : Int → Int → Prop) (f : Int → Int → D) : R2M := fun x y g Q => match x, y with
  | .int i, .int j => C i j ∧ Q (f i j) g
  | _, _ => False
theorem mono_I2 {C : Int → Int → Prop} {f : Int → Int → D} : MonoR (rI2 C f) := fun x y g Q Q' h q => by
  unfold rI2 at q ⊢
  split at q
  · exact ⟨q.1, h _ _ q.2⟩
  · exact q
theorem I2_inv {C : Int → Int → Prop} {f : Int → Int → D} {x y : D} {g : MH} {Q : MVK} (h : rI2 C f x y g Q) : ∃ i j, x = .int i ∧ y = .int j ∧ C i j ∧ Q (f i j) g := by
  unfold rI2 at h
  split at h
  · exact ⟨_, _, rfl, rfl, h.1, h.2⟩
  · exact h.elim
theorem os_I {K : PySem.W.Frag} {C : Int → Int → Prop} {f : Int → Int → V} {fm : Int → Int → D} (hf : ∀ H i j, RV K H (fm i j) (f i j)) : OpS K (rI C f) (rI2 C fm) :=
  ⟨mono_I2, fun {H σ τ g C' x y v w Q} R r1 r2 q => by
    obtain ⟨i, j, rfl, rfl, hc, q⟩ := I2_inv q
    exact ⟨i, j, r1.int_inv, r2.int_inv, hc, q _ H R (hf H i j)⟩⟩
theorem os_I0 {K : PySem.W.Frag} {f : Int → Int → V} {fm : Int → Int → D} (hf : ∀ H i j, RV K H (fm i j) (f i j)) : OpS K (rI0 f) (rI2 (fun _ _ => True) fm) :=
  ⟨mono_I2, fun {H σ τ g C' x y v w Q} R r1 r2 q => by
    obtain ⟨i, j, rfl, rfl, hc, q⟩ := I2_inv q
    exact ⟨i, j, r1.int_inv, r2.int_inv, q _ H R (hf H i j)⟩⟩
/-- a + b -/
def rAddM : R2M := fun x y g Q => match x, y with
  | .int i, .int j => Q (.int (i + j)) g
  | .str i, .str j => i.length + j.length ≤ 100000 ∧ Q (.str (i ++ j)) g
  | .tup i, .tup j => i.length + j.length ≤ 100000 ∧ Q (.tup (i ++ j)) g
  | .ref a, .ref b => ∃ xs ys, g a = some (.lst xs) ∧ g b = some (.lst ys) ∧ xs.length + ys.length ≤ 100000 ∧ ∀ p, g p = none → Q (.ref p) (gup g p (.lst (xs ++ ys)))
  | _, _ => False
theorem mono_add : MonoR rAddM := fun x y g Q Q' h q => by
  unfold rAddM at q ⊢
  split at q
  · exact h _ _ q
  · exact ⟨q.1, h _ _ q.2⟩
  · exact ⟨q.1, h _ _ q.2⟩
  · obtain ⟨xs, ys, h1, h2, h3, q⟩ := q
    exact ⟨xs, ys, h1, h2, h3, fun p hp => h _ _ (q p hp)⟩
  · exact q
/-- (these are L2's own) -/
def rStrAdd : R2 := fun x y H Q => ∃ i j, x = .str i ∧ y = .str j ∧ i.length + j.length ≤ sizeLine ∧ Q (.str (i ++ j)) H
def rAddH (K : PySem.W.Frag) : R2 := fun x y H Q => rI0 (fun i j => .int (i + j)) x y H Q ∨ rStrAdd x y H Q ∨ rCatA K x y H Q ∨ rCat x y H Q
theorem op_addH {X : Cx} : OpR X (binaryOp .Add) (rAddH X.K) := op_add.or (op_add_str.or (op_catA.or op_cat))
theorem os_add {K : PySem.W.Frag} : OpS K (rAddH K) rAddM := ⟨mono_add, fun {H σ τ g C x y v w Q} R r1 r2 q => by
  unfold rAddM at q
  split at q
  · exact .inl ⟨_, _, r1.int_inv, r2.int_inv, q _ H R RV.int⟩
  · exact .inr (.inl ⟨_, _, r1.str_inv, r2.str_inv, szL q.1, q.2 _ H R RV.str⟩)
  · obtain ⟨p1, xs, rfl, h1, s1⟩ := r1.tup_inv
    obtain ⟨p2, ys, rfl, h2, s2⟩ := r2.tup_inv
    refine .inr (.inr (.inl ⟨p1, p2, xs, ys, rfl, rfl, SqT.of h1, SqT.of h2, by rw [s1.length, s2.length]; exact szL q.1, fun e => ?_, fun e e2 => ?_, fun e e2 p hp => ?_⟩))
    · subst e
      refine q.2 _ H R ?_
      rw [s1.nil_right]
      exact RV.tup h2 s2
    · subst e2
      refine q.2 _ H R ?_
      rw [s2.nil_right, List.append_nil]
      exact RV.tup h1 s1
    · obtain ⟨R', rv⟩ := R.newT hp (s1.append s2)
      exact q.2 _ _ R' rv
  · obtain ⟨ds, es, h1, h2, h3, q⟩ := q
    obtain ⟨xs, e1, s1⟩ := R.lst h1
    obtain ⟨ys, e2, s2⟩ := R.lst h2
    refine .inr (.inr (.inr ⟨_, _, xs, ys, r1.ref_inv, r2.ref_inv, e1, e2, by rw [s1.length, s2.length]; exact szL h3, fun p hp => ?_⟩))
    exact q p (R.fresh hp) _ _ (R.newL hp (s1.append s2)) RV.ref
  · exact q.elim⟩
abbrev rSubM : R2M := rI2 (fun _ _ => True) fun i j => .int (i - j)
abbrev rModM : R2M := rI2 (fun _ j => 0 < j) fun i j => .int (i % j)
abbrev rDivM : R2M := rI2 CDiv fun i j => .int (i / j)
abbrev rPowM : R2M := rI2 CPow fun i j => .int (i ^ j.toNat)
abbrev rLtM : R2M := rI2 (fun _ _ => True) fun i j => .bl (decide (i < j))
abbrev rLeM : R2M := rI2 (fun _ _ => True) fun i j => .bl (decide (i ≤ j))
abbrev rGtM : R2M := rI2 (fun _ _ => True) fun i j => .bl (decide (j < i))
abbrev rGeM : R2M := rI2 (fun _ _ => True) fun i j => .bl (decide (j ≤ i))
/-- a * b -/
def rMulM : R2M := fun x y g Q => match x, y with
  | .int i, .int j => CMul i j ∧ Q (.int (i * j)) g
  | .ref a, .int k => ∃ xs, g a = some (.lst xs) ∧ 0 ≤ k ∧ k ≤ 1000 ∧ xs.length ≤ 100 ∧ ∀ p, g p = none → Q (.ref p) (gup g p (.lst (List.replicate k.toNat xs).flatten))
  | _, _ => False
section
variable {X : Cx} {B : Bs} {pos : Pos} {a b : Expr} {ma mb : TEM}
theorem me_add (ha : ME X B a ma) (hb : ME X B b mb) : ME X B (.BinOp a .Add b pos) (mOp rAddM ma mb) := me_op op_addH os_add ha hb
theorem me_sub (ha : ME X B a ma) (hb : ME X B b mb) : ME X B (.BinOp a .Sub b pos) (mOp rSubM ma mb) := me_op op_sub (os_I0 fun _ _ _ => RV.int) ha hb
theorem me_mod (ha : ME X B a ma) (hb : ME X B b mb) : ME X B (.BinOp a .Mod b pos) (mOp rModM ma mb) := me_op op_mod (os_I fun _ _ _ => RV.int) ha hb
theorem me_div (ha : ME X B a ma) (hb : ME X B b mb) : ME X B (.BinOp a .FloorDiv b pos) (mOp rDivM ma mb) := me_op op_fdiv (os_I fun _ _ _ => RV.int) ha hb
theorem me_pow (ha : ME X B a ma) (hb : ME X B b mb) : ME X B (.BinOp a .Pow b pos) (mOp rPowM ma mb) := me_op op_pow (os_I fun _ _ _ => RV.int) ha hb
theorem me_lt (ha : ME X B a ma) (hb : ME X B b mb) : ME X B (.Compare a [.Lt] [b] pos) (mOp rLtM ma mb) := me_cmp op_lt (os_I0 fun _ _ _ => RV.bl) ha hb (nomark _)
theorem me_le (ha : ME X B a ma) (hb : ME X B b mb) : ME X B (.Compare a [.LtE] [b] pos) (mOp rLeM ma mb) := me_cmp op_le (os_I0 fun _ _ _ => RV.bl) ha hb (nomark _)
theorem me_gt (ha : ME X B a ma) (hb : ME X B b mb) : ME X B (.Compare a [.Gt] [b] pos) (mOp rGtM ma mb) := me_cmp op_gt (os_I0 fun _ _ _ => RV.bl) ha hb (nomark _)
theorem me_ge (ha : ME X B a ma) (hb : ME X B b mb) : ME X B (.Compare a [.GtE] [b] pos) (mOp rGeM ma mb) := me_cmp op_ge (os_I0 fun _ _ _ => RV.bl) ha hb (nomark _)
end
end M

namespace M
open PySem L2

/-! ### data as the library's data -/
mutual
def pdat : D → Option PyData
  | .non => some .none
  | .bl b => some (.bool b)
  | .int i => some (.int i)
  | .str x => some (.str x)
  | .ref _ => none
  | .ty _ => none
  | .tup ds => (pdats ds).map .tuple
  | .fl ds => (pdats ds).map .list
def pdats : List D → Option (List PyData)
  | [] => some []
  | d :: ds => match pdat d, pdats ds with
    | some p, some q => some (p :: q)
    | _, _ => none
end
mutual
theorem dp_of {K : PySem.W.Frag} {H : Hp} : ∀ (d : D) (v : V) (p : PyData), RV K H d v → pdat d = some p → Dp K H v p
  | .non, v, p, r, e => by rw [r.non_inv]; unfold pdat at e; cases e; exact .non
  | .bl b, v, p, r, e => by rw [r.bl_inv]; unfold pdat at e; cases e; exact .bl b
  | .int b, v, p, r, e => by rw [r.int_inv]; unfold pdat at e; cases e; exact .int b
  | .str b, v, p, r, e => by rw [r.str_inv]; unfold pdat at e; cases e; exact .str b
  | .ref a, v, p, r, e => by unfold pdat at e; cases e
  | .ty a, v, p, r, e => by unfold pdat at e; cases e
  | .tup ds, v, p, r, e => by
    obtain ⟨q, xs, rfl, h, s⟩ := r.tup_inv
    unfold pdat at e
    cases z : pdats ds with
    | none => rw [z] at e; cases e
    | some ps =>
      rw [z] at e; cases e
      exact .tup (SqT.of h) (dps_of ds xs ps s z)
  | .fl ds, v, p, r, e => by
    obtain ⟨q, xs, rfl, h, s⟩ := r.fl_inv
    unfold pdat at e
    cases z : pdats ds with
    | none => rw [z] at e; cases e
    | some ps =>
      rw [z] at e; cases e
      exact .lst h.sq (dps_of ds xs ps s z)
theorem dps_of {K : PySem.W.Frag} {H : Hp} : ∀ (ds : List D) (vs : List V) (ps : List PyData), RVs K H ds vs → pdats ds = some ps → DpAll K H vs ps
  | [], vs, ps, r, e => by rw [r.nil_inv]; unfold pdats at e; cases e; exact .nil
  | d :: ds, vs, ps, r, e => by
    obtain ⟨v, r', rfl, h1, h2⟩ := r.cons_inv
    unfold pdats at e
    cases z : pdat d with
    | none => rw [z] at e; cases e
    | some p =>
      cases z2 : pdats ds with
      | none => rw [z, z2] at e; cases e
      | some q =>
        rw [z, z2] at e; cases e
        exact .cons (dp_of d v p h1 z) (dps_of ds r' q h2 z2)
end
/-- a list of the heap, too -/
def ldat (g : MH) : D → Option PyData
  | .ref a => match g a with
    | some (.lst ds) => (pdats ds).map .list
    | _ => none
  | d => pdat d
theorem ldp_of {K : PySem.W.Frag} {H : Hp} {σ : L2.St} {τ : MSt} {g : MH} {C : Bs} (R : Rep K H σ τ g C) : ∀ {d : D} {v : V} {p : PyData}, RV K H d v → ldat g d = some p → Dp K H v p := fun {d v p} r e => by
  cases d with
  | ref a =>
    rw [r.ref_inv]
    unfold ldat at e
    simp only at e
    split at e
    · rename_i ds h
      obtain ⟨xs, h1, h2⟩ := R.lst h
      cases z : pdats ds with
      | none => rw [z] at e; cases e
      | some ps => rw [z] at e; cases e; exact .lst (SqL.of h1) (dps_of ds xs ps h2 z)
    · cases e
  | _ => exact dp_of _ v p r (by unfold ldat at e; exact e)

/-! ### == and != -/
def rEqW (neg : Bool) : R2M := fun x y g Q => match x, y with
  | .int i, .int j => Q (.bl (if neg then !decide (i = j) else decide (i = j))) g
  | .str i, .str j => Q (.bl (if neg then !decide (i = j) else decide (i = j))) g
  | .bl i, .bl j => Q (.bl (if neg then !decide (i = j) else decide (i = j))) g
  | x, y => ∃ p q, ldat g x = some p ∧ ldat g y = some q ∧ SeqAt.shaped p = true ∧ SeqAt.shaped q = true ∧ Q (.bl (if neg then !PyData.eqv p q else PyData.eqv p q)) g
theorem mono_eqW {neg : Bool} : MonoR (rEqW neg) := fun x y g Q Q' h q => by
  unfold rEqW at q ⊢
  split at q
  · exact h _ _ q
  · exact h _ _ q
  · exact h _ _ q
  · obtain ⟨p, q', h1, h2, h3, h4, q⟩ := q
    exact ⟨p, q', h1, h2, h3, h4, h _ _ q⟩
def rEqH (K : PySem.W.Frag) : R2 := fun x y H Q => rEq x y H Q ∨ rEqD K x y H Q
def rNeH (K : PySem.W.Frag) : R2 := fun x y H Q => rNe x y H Q ∨ rNeD K x y H Q
theorem op_eqH {X : Cx} (hu : X.A.units + 64 < cLine) : OpR X (compareOp .Eq) (rEqH X.K) := op_eq.or (op_eqD hu)
theorem op_neH {X : Cx} (hu : X.A.units + 64 < cLine) : OpR X (compareOp .NotEq) (rNeH X.K) := op_ne.or (op_neD hu)
theorem dec_int' {i j : Int} : decide (V.int i = V.int j) = decide (i = j) := by
  by_cases h : i = j
  · subst h; rw [decide_eq_true rfl, decide_eq_true rfl]
  · rw [decide_eq_false h, decide_eq_false]; intro e; exact h (V.int.inj e)
theorem dec_str' {i j : Str} : decide (V.str i = V.str j) = decide (i = j) := by
  by_cases h : i = j
  · subst h; rw [decide_eq_true rfl, decide_eq_true rfl]
  · rw [decide_eq_false h, decide_eq_false]; intro e; exact h (V.str.inj e)
theorem dec_bl' {i j : Bool} : decide (V.bl i = V.bl j) = decide (i = j) := by
  by_cases h : i = j
  · subst h; rw [decide_eq_true rfl, decide_eq_true rfl]
  · rw [decide_eq_false h, decide_eq_false]; intro e; exact h (V.bl.inj e)
theorem os_eq {K : PySem.W.Frag} : OpS K (rEqH K) (rEqW false) := ⟨mono_eqW, fun {H σ τ g C x y v w Q} R r1 r2 q => by
  unfold rEqW at q
  split at q
  · rw [r1.int_inv, r2.int_inv]; exact .inl ⟨rfl, by rw [dec_int']; exact q _ H R RV.bl⟩
  · rw [r1.str_inv, r2.str_inv]; exact .inl ⟨rfl, by rw [dec_str']; exact q _ H R RV.bl⟩
  · rw [r1.bl_inv, r2.bl_inv]; exact .inl ⟨rfl, by rw [dec_bl']; exact q _ H R RV.bl⟩
  · obtain ⟨p, q', h1, h2, h3, h4, q⟩ := q
    exact .inr ⟨p, q', ldp_of R r1 h1, ldp_of R r2 h2, h3, h4, q _ H R RV.bl⟩⟩
theorem os_ne {K : PySem.W.Frag} : OpS K (rNeH K) (rEqW true) := ⟨mono_eqW, fun {H σ τ g C x y v w Q} R r1 r2 q => by
  unfold rEqW at q
  split at q
  · rw [r1.int_inv, r2.int_inv]; exact .inl ⟨rfl, by rw [dec_int']; exact q _ H R RV.bl⟩
  · rw [r1.str_inv, r2.str_inv]; exact .inl ⟨rfl, by rw [dec_str']; exact q _ H R RV.bl⟩
  · rw [r1.bl_inv, r2.bl_inv]; exact .inl ⟨rfl, by rw [dec_bl']; exact q _ H R RV.bl⟩
  · obtain ⟨p, q', h1, h2, h3, h4, q⟩ := q
    exact .inr ⟨p, q', ldp_of R r1 h1, ldp_of R r2 h2, h3, h4, q _ H R RV.bl⟩⟩

/-! ### is None -/
def isNon : D → Bool
  | .non => true
  | _ => false
theorem isNon_rv {K : PySem.W.Frag} {H : Hp} {d : D} {v : V} (r : RV K H d v) : decide (v = .non) = isNon d := by
  cases d with
  | non => rw [r.non_inv]; rfl
  | bl _ => rw [r.bl_inv]; rfl
  | int _ => rw [r.int_inv]; rfl
  | str _ => rw [r.str_inv]; rfl
  | ref _ => rw [r.ref_inv]; rfl
  | ty _ => rw [r.ty_inv]; rfl
  | tup _ => obtain ⟨p, xs, rfl, _⟩ := r.tup_inv; rfl
  | fl _ => obtain ⟨p, xs, rfl, _⟩ := r.fl_inv; rfl
def rIsW (neg : Bool) : R2M := fun x y g Q => match y with
  | .non => Q (.bl (if neg then !isNon x else isNon x)) g
  | _ => False
theorem mono_isW {neg : Bool} : MonoR (rIsW neg) := fun x y g Q Q' h q => by
  unfold rIsW at q ⊢
  cases y <;> first | exact h _ _ q | exact q
theorem os_is {K : PySem.W.Frag} : OpS K (fun x y H Q => y = .non ∧ Q (.bl (decide (x = .non))) H) (rIsW false) := ⟨mono_isW, fun {H σ τ g C x y v w Q} R r1 r2 q => by
  unfold rIsW at q
  cases y <;> first | exact q.elim | skip
  exact ⟨r2.non_inv, by rw [isNon_rv r1]; exact q _ H R RV.bl⟩⟩
theorem os_isnot {K : PySem.W.Frag} : OpS K (fun x y H Q => y = .non ∧ Q (.bl (!decide (x = .non))) H) (rIsW true) := ⟨mono_isW, fun {H σ τ g C x y v w Q} R r1 r2 q => by
  unfold rIsW at q
  cases y <;> first | exact q.elim | skip
  exact ⟨r2.non_inv, by rw [isNon_rv r1]; exact q _ H R RV.bl⟩⟩

/-! ### in -/
def ldats (g : MH) : D → Option (List PyData)
  | .ref a => match g a with
    | some (.lst ds) => pdats ds
    | _ => none
  | .fl ds => pdats ds
  | .tup ds => pdats ds
  | _ => none
def keyOf : D → Option Key
  | .int i => some (.inl i)
  | .str x => some (.inr x)
  | _ => none
def keysOf : List D → Option (List Key)
  | [] => some []
  | d :: ds => match keyOf d, keysOf ds with
    | some k, some ks => some (k :: ks)
    | _, _ => none
def tkeyOf : D → Option (List Key)
  | .tup ds => keysOf ds
  | _ => none
theorem keyOf_rv {K : PySem.W.Frag} {H : Hp} {d : D} {k : Key} {v : V} (r : RV K H d v) (e : keyOf d = some k) : v = kV k := by
  cases d <;> first | (cases e; done) | (unfold keyOf at e; cases e; first | exact r.int_inv | exact r.str_inv)
theorem keysOf_rv {K : PySem.W.Frag} {H : Hp} : ∀ {ds : List D} {ks : List Key} {vs : List V}, RVs K H ds vs → keysOf ds = some ks → vs = ks.map kV
  | [], ks, vs, r, e => by cases e; exact r.nil_inv
  | d :: ds, ks, vs, r, e => by
    obtain ⟨v, r', rfl, h1, h2⟩ := r.cons_inv
    unfold keysOf at e
    cases z : keyOf d with
    | none => rw [z] at e; cases e
    | some k =>
      cases z2 : keysOf ds with
      | none => rw [z, z2] at e; cases e
      | some q =>
        rw [z, z2] at e; cases e
        rw [keyOf_rv h1 z, keysOf_rv h2 z2]; rfl
theorem tkeyOf_rv {K : PySem.W.Frag} {H : Hp} {d : D} {k : List Key} {v : V} (r : RV K H d v) (e : tkeyOf d = some k) : ∃ b, v = .ref b ∧ H b = some (.tup (k.map kV)) := by
  cases d <;> first | (cases e; done) | skip
  obtain ⟨p, xs, rfl, h1, h2⟩ := r.tup_inv
  exact ⟨p, rfl, by rw [← keysOf_rv h2 e]; exact h1⟩
def valD {κ : Type} [DecidableEq κ] (kvs : List (κ × D)) (k : κ) : Option D := (kvs.find? fun kv => decide (kv.1 = k)).map (·.2)
def putD {κ : Type} [DecidableEq κ] (kvs : List (κ × D)) (k : κ) (v : D) : List (κ × D) :=
  if (kvs.any fun kv => decide (kv.1 = k)) = true then kvs.map (fun kv => if kv.1 = k then (kv.1, v) else kv) else kvs ++ [(k, v)]
def dropD {κ : Type} [DecidableEq κ] (kvs : List (κ × D)) (k : κ) : List (κ × D) := kvs.filter fun kv => decide (kv.1 ≠ k)
theorem RKs.val {K : PySem.W.Frag} {κ : Type} [DecidableEq κ] {H : Hp} {k : κ} : ∀ {ds : List (κ × D)} {vs : List (κ × V)}, RKs K H ds vs →
    (valD ds k = none ∧ valV vs k = none) ∨ ∃ d v, valD ds k = some d ∧ valV vs k = some v ∧ RV K H d v
  | [], _, h => by rw [show _ = [] from h]; exact .inl ⟨rfl, rfl⟩
  | (x, d) :: r, _, h => by
    obtain ⟨v, s, rfl, h1, h2⟩ := h
    by_cases e : x = k
    · exact .inr ⟨d, v, by simp [valD, e], by simp [valV, e], h1⟩
    · have := RKs.val (k := k) h2
      simpa [valD, valV, List.find?_cons, e] using this
theorem RKs.any {K : PySem.W.Frag} {κ : Type} [DecidableEq κ] {H : Hp} {k : κ} : ∀ {ds : List (κ × D)} {vs : List (κ × V)}, RKs K H ds vs → (vs.any fun kv => decide (kv.1 = k)) = ds.any fun kv => decide (kv.1 = k)
  | [], _, h => by rw [show _ = [] from h]; rfl
  | (x, d) :: r, _, h => by
    obtain ⟨v, s, rfl, h1, h2⟩ := h
    rw [List.any_cons, List.any_cons, RKs.any h2]
theorem RKs.append {K : PySem.W.Frag} {κ : Type} {H : Hp} : ∀ {ds es : List (κ × D)} {vs ws : List (κ × V)}, RKs K H ds vs → RKs K H es ws → RKs K H (ds ++ es) (vs ++ ws)
  | [], _, _, _, h, k => by rw [show _ = [] from h]; exact k
  | (x, d) :: r, _, _, _, h, k => by
    obtain ⟨v, s, rfl, h1, h2⟩ := h
    exact ⟨v, _, rfl, h1, RKs.append h2 k⟩
theorem RKs.setAll {K : PySem.W.Frag} {κ : Type} [DecidableEq κ] {H : Hp} {k : κ} {e : D} {w : V} (a : RV K H e w) : ∀ {ds : List (κ × D)} {vs : List (κ × V)}, RKs K H ds vs → RKs K H (ds.map (fun kv => if kv.1 = k then (kv.1, e) else kv)) (vs.map (fun kv => if kv.1 = k then (kv.1, w) else kv))
  | [], _, h => by rw [show _ = [] from h]; rfl
  | (x, d) :: r, _, h => by
    obtain ⟨v, s, rfl, h1, h2⟩ := h
    rw [List.map_cons, List.map_cons]
    by_cases q : x = k
    · rw [if_pos q, if_pos q]; exact ⟨w, _, rfl, a, RKs.setAll a h2⟩
    · rw [if_neg q, if_neg q]; exact ⟨v, _, rfl, h1, RKs.setAll a h2⟩
theorem RKs.put {K : PySem.W.Frag} {κ : Type} [DecidableEq κ] {H : Hp} {k : κ} {e : D} {w : V} (a : RV K H e w) {ds : List (κ × D)} {vs : List (κ × V)} (h : RKs K H ds vs) : RKs K H (putD ds k e) (putK vs k w) := by
  unfold putD putK
  rw [h.any]
  split
  · exact h.setAll a
  · exact h.append ⟨w, [], rfl, a, rfl⟩
theorem RKs.drop {K : PySem.W.Frag} {κ : Type} [DecidableEq κ] {H : Hp} {k : κ} : ∀ {ds : List (κ × D)} {vs : List (κ × V)}, RKs K H ds vs → RKs K H (dropD ds k) (dropK vs k)
  | [], _, h => by rw [show _ = [] from h]; rfl
  | (x, d) :: r, _, h => by
    obtain ⟨v, s, rfl, h1, h2⟩ := h
    have := RKs.drop (k := k) h2
    unfold dropD dropK at this ⊢
    rw [List.filter_cons, List.filter_cons]
    split
    · exact ⟨v, _, rfl, h1, this⟩
    · exact this
/-- x in y: a list, a tuple, a dict, a text -/
def inW (g : MH) (x y : D) : Option Bool := match y with
  | .ref a => match g a with
    | some (.dk kvs) => (keyOf x).map fun k => (valD kvs k).isSome
    | some (.dt kvs) => (tkeyOf x).map fun k => (valD kvs k).isSome
    | _ => none
  | .str z => match x with
    | .str w => some (!(Builtin.Str.occurrences z w 0 z.length 1).isEmpty)
    | _ => none
  | _ => none
def rInW (neg : Bool) : R2M := fun x y g Q => (∃ b, inW g x y = some b ∧ Q (.bl (if neg then !b else b)) g) ∨
  ∃ p ps, pdat x = some p ∧ ldats g y = some ps ∧ SeqAt.shaped p = true ∧ SeqAt.shaped (.list ps) = true ∧ Q (.bl (if neg then !ps.any fun z => PyData.eqv z p else ps.any fun z => PyData.eqv z p)) g
theorem mono_inW {neg : Bool} : MonoR (rInW neg) := fun x y g Q Q' h q => by
  rcases q with ⟨b, e, q⟩ | ⟨p, ps, h1, h2, h3, h4, q⟩
  · exact .inl ⟨b, e, h _ _ q⟩
  · exact .inr ⟨p, ps, h1, h2, h3, h4, h _ _ q⟩
end M

namespace M
open PySem L2

/-! ### in, as the machine does it -/
def rInT (K : PySem.W.Frag) (neg : Bool) : R2 := fun x y H Q => ∃ d ds, Dp K H x d ∧ Dp K H y (.tuple ds) ∧ SeqAt.shaped d = true ∧ SeqAt.shaped (.list ds) = true ∧ Q (.bl (if neg then !ds.any fun z => PyData.eqv z d else ds.any fun z => PyData.eqv z d)) H
def rInDict (neg : Bool) : R2 := fun x y H Q => ∃ a o, y = .ref a ∧ DGet H a x o ∧ Q (.bl (if neg then !o.isSome else o.isSome)) H
section
variable {X : Cx}
theorem op_inT (hu : X.A.units + 65 < cLine) : OpR X (compareOp .In) (rInT X.K false) := by
  intro pins s σ H x y v u Q I rx ry h
  obtain ⟨d, ds, hd, he, sd, se, q⟩ := h
  obtain ⟨as, r1⟩ := Dp.reads I d x v hd rx
  obtain ⟨bs, r2⟩ := Dp.reads I (.tuple ds) y u he ry
  exact SeqAt.in_tuple_reads r2 r1 (SeqAt.canLay_of_shaped se) (SeqAt.canLay_of_shaped sd) (PyProof.Rows.room_in_shaped sd hu) ⟨.bl _, H, I, rfl, q⟩
theorem op_notInT (hu : X.A.units + 65 < cLine) : OpR X (compareOp .NotIn) (rInT X.K true) := by
  intro pins s σ H x y v u Q I rx ry h
  obtain ⟨d, ds, hd, he, sd, se, q⟩ := h
  obtain ⟨as, r1⟩ := Dp.reads I d x v hd rx
  obtain ⟨bs, r2⟩ := Dp.reads I (.tuple ds) y u he ry
  exact SeqAt.notIn_tuple_reads r2 r1 (SeqAt.canLay_of_shaped se) (SeqAt.canLay_of_shaped sd) (PyProof.Rows.room_in_shaped sd hu) ⟨.bl _, H, I, rfl, q⟩
theorem op_inDict (hu : X.A.units + 1 < cLine) : OpR X (compareOp .In) (rInDict false) := by
  intro pins s σ H x y v u Q I rx ry h
  obtain ⟨a, o, rfl, g, q⟩ := h
  cases ry
  exact d_in hu I g rx fun s' I' => ⟨.bl _, H, I', rfl, q⟩
theorem op_notInDict (hu : X.A.units + 1 < cLine) : OpR X (compareOp .NotIn) (rInDict true) := by
  intro pins s σ H x y v u Q I rx ry h
  obtain ⟨a, o, rfl, g, q⟩ := h
  cases ry
  exact d_notIn hu I g rx fun s' I' => ⟨.bl _, H, I', rfl, q⟩
end
def rInS (neg : Bool) : R2 := fun x y H Q => ∃ i j, x = .str i ∧ y = .str j ∧ Q (.bl (if neg then !(!(Builtin.Str.occurrences j i 0 j.length 1).isEmpty) else !(Builtin.Str.occurrences j i 0 j.length 1).isEmpty)) H
def rInL (K : PySem.W.Frag) (neg : Bool) : R2 := fun x y H Q => ∃ d ds, Dp K H x d ∧ Dp K H y (.list ds) ∧ SeqAt.shaped d = true ∧ SeqAt.shaped (.list ds) = true ∧ Q (.bl (if neg then !ds.any fun z => PyData.eqv z d else ds.any fun z => PyData.eqv z d)) H
def rInH (K : PySem.W.Frag) (neg : Bool) : R2 := fun x y H Q => rInL K neg x y H Q ∨ rInT K neg x y H Q ∨ rInDict neg x y H Q ∨ rInS neg x y H Q
theorem op_inH {X : Cx} (hu : X.A.units + 65 < cLine) : OpR X (compareOp .In) (rInH X.K false) :=
  OpR.or (r := rInL X.K false) (op_inD hu) (OpR.or (op_inT hu) (OpR.or (op_inDict (by omega)) op_in_str))
theorem op_notInH {X : Cx} (hu : X.A.units + 65 < cLine) : OpR X (compareOp .NotIn) (rInH X.K true) :=
  OpR.or (r := rInL X.K true) (op_notInD hu) (OpR.or (op_notInT hu) (OpR.or (op_notInDict (by omega)) op_notin_str))
section
variable {K : PySem.W.Frag} {H : Hp} {σ : L2.St} {τ : MSt} {g : MH} {C : Bs}
theorem dget_k {a : Addr} {kvs : List (Key × D)} {x : D} {k : Key} {v : V} (R : Rep K H σ τ g C) (e : g a = some (.dk kvs)) (r : RV K H x v) (hk : keyOf x = some k) :
    ∃ o, DGet H a v o ∧ ((valD kvs k = none ∧ o = none) ∨ ∃ d w, valD kvs k = some d ∧ o = some w ∧ RV K H d w) := by
  obtain ⟨ks, h1, h2⟩ := R.dk e
  rw [keyOf_rv r hk]
  refine ⟨valV ks k, DGet.k h1, ?_⟩
  rcases h2.val (k := k) with ⟨a1, a2⟩ | ⟨d, w, a1, a2, a3⟩
  · exact .inl ⟨a1, a2⟩
  · exact .inr ⟨d, w, a1, a2, a3⟩
theorem dget_t {a : Addr} {kvs : List (List Key × D)} {x : D} {k : List Key} {v : V} (R : Rep K H σ τ g C) (e : g a = some (.dt kvs)) (r : RV K H x v) (hk : tkeyOf x = some k) :
    ∃ o, DGet H a v o ∧ ((valD kvs k = none ∧ o = none) ∨ ∃ d w, valD kvs k = some d ∧ o = some w ∧ RV K H d w) := by
  obtain ⟨ks, h1, h2⟩ := R.dt e
  obtain ⟨b, rfl, hb⟩ := tkeyOf_rv r hk
  refine ⟨valV ks k, DGet.t h1 hb, ?_⟩
  rcases h2.val (k := k) with ⟨a1, a2⟩ | ⟨d, w, a1, a2, a3⟩
  · exact .inl ⟨a1, a2⟩
  · exact .inr ⟨d, w, a1, a2, a3⟩
/-- a dict's value at a key -/
def dval (g : MH) (a : Addr) (x : D) : Option (Option D) := match g a with
  | some (.dk kvs) => (keyOf x).map fun k => valD kvs k
  | some (.dt kvs) => (tkeyOf x).map fun k => valD kvs k
  | _ => none
theorem dget_any {a : Addr} {x : D} {o : Option D} {v : V} (R : Rep K H σ τ g C) (e : dval g a x = some o) (r : RV K H x v) :
    ∃ u, DGet H a v u ∧ ((o = none ∧ u = none) ∨ ∃ d w, o = some d ∧ u = some w ∧ RV K H d w) := by
  unfold dval at e
  split at e
  · rename_i kvs h
    cases z : keyOf x with
    | none => rw [z] at e; cases e
    | some k =>
      rw [z] at e; cases e
      exact dget_k R h r z
  · rename_i kvs h
    cases z : tkeyOf x with
    | none => rw [z] at e; cases e
    | some k =>
      rw [z] at e; cases e
      exact dget_t R h r z
  · cases e
theorem inW_dict {a : Addr} {x : D} {b : Bool} (e : inW g x (.ref a) = some b) : ∃ o, dval g a x = some o ∧ b = o.isSome := by
  unfold inW at e
  unfold dval
  simp only at e
  split at e
  · rename_i kvs h
    cases z : keyOf x with
    | none => rw [z] at e; cases e
    | some k => rw [z] at e; cases e; exact ⟨_, by first | rfl | (rw [h]; rfl), rfl⟩
  · rename_i kvs h
    cases z : tkeyOf x with
    | none => rw [z] at e; cases e
    | some k => rw [z] at e; cases e; exact ⟨_, by first | rfl | (rw [h]; rfl), rfl⟩
  · cases e
end
theorem os_in {K : PySem.W.Frag} {neg : Bool} : OpS K (rInH K neg) (rInW neg) := ⟨mono_inW, fun {H σ τ g C x y v w Q} R r1 r2 q => by
  rcases q with ⟨b, e, q⟩ | ⟨p, ps, h1, h2, h3, h4, q⟩
  · cases y with
    | ref a =>
      obtain ⟨o, e1, rfl⟩ := inW_dict e
      obtain ⟨u, hu, ho⟩ := dget_any R e1 r1
      rw [r2.ref_inv]
      refine .inr (.inr (.inl ⟨a, u, rfl, hu, ?_⟩))
      have : u.isSome = o.isSome := by
        rcases ho with ⟨rfl, rfl⟩ | ⟨d, w, rfl, rfl, _⟩ <;> rfl
      rw [this]
      exact q _ H R RV.bl
    | str z =>
      cases x with
      | str s =>
        unfold inW at e
        cases e
        rw [r1.str_inv, r2.str_inv]
        exact .inr (.inr (.inr ⟨s, z, rfl, rfl, q _ H R RV.bl⟩))
      | _ => cases e
    | _ => cases e
  · have d1 := dp_of _ _ _ r1 h1
    cases y with
    | ref a =>
      unfold ldats at h2
      simp only at h2
      split at h2
      · rename_i ds h
        obtain ⟨xs, e1, e2⟩ := R.lst h
        rw [r2.ref_inv]
        exact .inl ⟨p, ps, d1, .lst (SqL.of e1) (dps_of _ _ _ e2 h2), h3, h4, q _ H R RV.bl⟩
      · cases h2
    | fl ds =>
      obtain ⟨a, xs, rfl, e1, e2⟩ := r2.fl_inv
      exact .inl ⟨p, ps, d1, .lst e1.sq (dps_of _ _ _ e2 h2), h3, h4, q _ H R RV.bl⟩
    | tup ds =>
      obtain ⟨a, xs, rfl, e1, e2⟩ := r2.tup_inv
      exact .inr (.inl ⟨p, ps, d1, .tup (SqT.of e1) (dps_of _ _ _ e2 h2), h3, h4, q _ H R RV.bl⟩)
    | _ => cases h2⟩

/-! ### comparisons, tests -/
structure CmpM (X : Cx) (op : CmpOp) (b : Expr) (rm : R2M) : Prop where
  ex : ∃ r, OpR X (compareOp op) r ∧ OpS X.K r rm
  bm : behindInMarks op b = false
section
variable {X : Cx} {B : Bs} {pos : Pos} {a b c e : Expr} {ma mb mc : TEM} {rm rm' : R2M} {op op' : CmpOp}
theorem cm_lt : CmpM X .Lt b rLtM := ⟨⟨_, op_lt, os_I0 fun _ _ _ => RV.bl⟩, nomark _⟩
theorem cm_le : CmpM X .LtE b rLeM := ⟨⟨_, op_le, os_I0 fun _ _ _ => RV.bl⟩, nomark _⟩
theorem cm_gt : CmpM X .Gt b rGtM := ⟨⟨_, op_gt, os_I0 fun _ _ _ => RV.bl⟩, nomark _⟩
theorem cm_ge : CmpM X .GtE b rGeM := ⟨⟨_, op_ge, os_I0 fun _ _ _ => RV.bl⟩, nomark _⟩
theorem cm_eq (hu : X.A.units + 64 < cLine) : CmpM X .Eq b (rEqW false) := ⟨⟨_, op_eqH hu, os_eq⟩, nomark _⟩
theorem cm_ne (hu : X.A.units + 64 < cLine) : CmpM X .NotEq b (rEqW true) := ⟨⟨_, op_neH hu, os_ne⟩, nomark _⟩
theorem cm_is : CmpM X .Is b (rIsW false) := ⟨⟨_, op_isN, os_is⟩, nomark _⟩
theorem cm_isnot : CmpM X .IsNot b (rIsW true) := ⟨⟨_, op_notN, os_isnot⟩, nomark _⟩
theorem cm_in (hu : X.A.units + 65 < cLine) (hm : behindInMarks .In b = false := by rfl) : CmpM X .In b (rInW false) := ⟨⟨_, op_inH hu, os_in⟩, hm⟩
theorem cm_notin (hu : X.A.units + 65 < cLine) (hm : behindInMarks .NotIn b = false := by rfl) : CmpM X .NotIn b (rInW true) := ⟨⟨_, op_notInH hu, os_in⟩, hm⟩
theorem me_cm (h : CmpM X op b rm) (ha : ME X B a ma) (hb : ME X B b mb) : ME X B (.Compare a [op] [b] pos) (mOp rm ma mb) :=
  let ⟨_, h1, h2⟩ := h.ex; me_cmp h1 h2 ha hb h.bm
/-- a value that is a truth, as a test -/
def mTest (m : TEM) : TTM := fun τ g Q => m τ g fun d g1 => match d with
  | .bl k => Q k g1
  | _ => False
theorem mono_test {m : TEM} (h : MonoE m) : MonoT (mTest m) := fun τ g Q Q' hq q => h τ g _ _ (fun d g1 q => by cases d <;> first | exact hq _ _ q | exact q) q
theorem lt_test {K : PySem.W.Frag} {m : TEM} (h : MonoE m) {σ : L2.St} {H : Hp} {Q : Bool → Hp → Prop} (q : LT K B (mTest m) σ H Q) : LE K B m σ H fun x H' => ∃ k, x = .bl k ∧ Q k H' := by
  obtain ⟨τ, g, C, hB, R, q⟩ := q
  refine LE.seq h hB R q fun d g1 v H1 q R1 r => ?_
  cases d <;> first | exact q.elim | skip
  exact ⟨_, r.bl_inv, q H1 R1⟩
theorem mt_cm (h : CmpM X op b rm) (ha : ME X B a ma) (hb : ME X B b mb) : MT X B (.Compare a [op] [b] pos) (mTest (mOp rm ma mb)) := by
  obtain ⟨r, h1, h2⟩ := h.ex
  have mo := mono_op h2.mono ha.mono hb.mono
  refine ⟨mono_test mo, ptImp (pt_cmpR h1 ha.run hb.run h.bm) fun σ H Q q => ?_⟩
  exact le_op h2 ha.mono hb.mono σ H _ (lt_test mo q)
theorem mt_val (he : ME X B e ma) (hi : ∀ whole, isTrue e X.env whole = (do let v ← whole; standAt e.pos; holding [v] (truthy v)) := by intro _; rfl) : MT X B e (mTest ma) :=
  ⟨mono_test he.mono, ptImp (pt_val he.run hi) fun σ H Q q => lt_test he.mono q⟩
/-- a op b op' c -/
def mChain (r r' : R2M) (ma mb mc : TEM) : TEM := fun τ g Q => ma τ g fun x g1 => mb τ g1 fun y g2 => r x y g2 fun z g3 => match z with
  | .bl k => if k = true then mc τ g3 fun w g4 => r' y w g4 Q else Q (.bl false) g3
  | _ => False
theorem mono_chain {r r' : R2M} (h1 : MonoR r) (h2 : MonoR r') (ha : MonoE ma) (hb : MonoE mb) (hc : MonoE mc) : MonoE (mChain r r' ma mb mc) := fun τ g Q Q' h q =>
  ha τ g _ _ (fun x g1 q => hb τ g1 _ _ (fun y g2 q => h1 x y g2 _ _ (fun z g3 q => by
    cases z <;> first | exact q | skip
    simp only at q ⊢
    split
    · rename_i e; rw [if_pos e] at q; exact hc τ g3 _ _ (fun w g4 q => h2 y w g4 _ _ h q) q
    · rename_i e; rw [if_neg e] at q; exact h _ _ q) q) q) q
theorem le_chain {K : PySem.W.Frag} {r r' : R2} (h1 : OpS K r rm) (h2 : OpS K r' rm') (ha : MonoE ma) (hb : MonoE mb) (hc : MonoE mc) (σ : L2.St) (H : Hp) (Q : VK) (q : LE K B (mChain rm rm' ma mb mc) σ H Q) : tChain r r' (LE K B ma) (LE K B mb) (LE K B mc) σ H Q := by
  obtain ⟨τ, g, C, hB, R, q⟩ := q
  refine LE.seq ha hB R q fun x g1 v H1 q1 R1 r1 => ?_
  refine LE.seq hb (Bs.le_trans hB Bs.le_hold) (R1.hold r1) q1 fun y g2 w H2 q2 R2 r2 => ?_
  refine h1.run (R2.unhold.hold r2) R2.held r2 (h1.mono _ _ _ _ _ (fun z g3 q3 u H3 R3 r3 => ?_) q2)
  cases z <;> first | exact q3.elim | skip
  rename_i k
  refine ⟨k, r3.bl_inv, ?_⟩
  simp only at q3
  split
  · rename_i e
    rw [if_pos e] at q3
    refine LE.seq hc (Bs.le_trans hB Bs.le_hold) R3 q3 fun d g4 z H4 q4 R4 r4 => ?_
    exact h2.run R4.unhold R4.held r4 q4
  · rename_i e
    rw [if_neg e] at q3
    exact q3 _ H3 R3.unhold RV.bl
theorem me_chain (h : CmpM X op b rm) (h' : CmpM X op' c rm') (ha : ME X B a ma) (hb : ME X B b mb) (hc : ME X B c mc) (hm : lastMarks [op, op'] [b, c] = false := by with_unfolding_all rfl) : ME X B (.Compare a [op, op'] [b, c] pos) (mChain rm rm' ma mb mc) := by
  obtain ⟨r, h1, h2⟩ := h.ex
  obtain ⟨r', h3, h4⟩ := h'.ex
  exact ⟨mono_chain h2.mono h4.mono ha.mono hb.mono hc.mono, peImp (pe_chain h1 h3 ha.run hb.run hc.run hm) (le_chain h2 h4 ha.mono hb.mono hc.mono)⟩
theorem mt_chain (h : CmpM X op b rm) (h' : CmpM X op' c rm') (ha : ME X B a ma) (hb : ME X B b mb) (hc : ME X B c mc) (hm : lastMarks [op, op'] [b, c] = false := by with_unfolding_all rfl) : MT X B (.Compare a [op, op'] [b, c] pos) (mTest (mChain rm rm' ma mb mc)) := by
  obtain ⟨r, h1, h2⟩ := h.ex
  obtain ⟨r', h3, h4⟩ := h'.ex
  have mo := mono_chain h2.mono h4.mono ha.mono hb.mono hc.mono
  exact ⟨mono_test mo, ptImp (pt_chain h1 h3 ha.run hb.run hc.run hm) fun σ H Q q => le_chain h2 h4 ha.mono hb.mono hc.mono σ H _ (lt_test mo q)⟩
end

/-! ### and, or, not, a if t else b -/
def mAnd (t u : TTM) : TTM := fun τ g Q => t τ g fun c g1 => if c = true then u τ g1 Q else Q false g1
def mOr (t u : TTM) : TTM := fun τ g Q => t τ g fun c g1 => if c = true then Q true g1 else u τ g1 Q
def mNot (t : TTM) : TTM := fun τ g Q => t τ g fun c g1 => Q (!c) g1
section
variable {X : Cx} {B : Bs} {pos : Pos} {a b : Expr} {rest : List Expr} {t u : TTM} {ma mb : TEM}
theorem mw_and1 (h : MT X B a t) : MW X B (.BoolOp .And [a] pos) t := ⟨h.mono, pw_and1 h.run⟩
theorem mw_or1 (h : MT X B a t) : MW X B (.BoolOp .Or [a] pos) t := ⟨h.mono, pw_or1 h.run⟩
theorem mw_and (h : MT X B a t) (k : MW X B (.BoolOp .And (b :: rest) pos) u) : MW X B (.BoolOp .And (a :: b :: rest) pos) (mAnd t u) := by
  refine ⟨fun τ g Q Q' hq q => h.mono τ g _ _ (fun c g1 q => ?_) q, pwImp (pw_and h.run k.run) fun σ H Q q => ?_⟩
  · split
    · rename_i e; rw [if_pos e] at q; exact k.mono τ g1 _ _ hq q
    · rename_i e; rw [if_neg e] at q; exact hq _ _ q
  · obtain ⟨τ, g, C, hB, R, q⟩ := q
    refine LT.seq h.mono hB R q fun c g1 H1 q R1 => ?_
    split
    · rename_i e; rw [if_pos e] at q; exact LT.seq k.mono hB R1 q fun _ _ H2 q R2 => q H2 R2
    · rename_i e; rw [if_neg e] at q; exact q H1 R1
theorem mw_or (h : MT X B a t) (k : MW X B (.BoolOp .Or (b :: rest) pos) u) : MW X B (.BoolOp .Or (a :: b :: rest) pos) (mOr t u) := by
  refine ⟨fun τ g Q Q' hq q => h.mono τ g _ _ (fun c g1 q => ?_) q, pwImp (pw_or h.run k.run) fun σ H Q q => ?_⟩
  · split
    · rename_i e; rw [if_pos e] at q; exact hq _ _ q
    · rename_i e; rw [if_neg e] at q; exact k.mono τ g1 _ _ hq q
  · obtain ⟨τ, g, C, hB, R, q⟩ := q
    refine LT.seq h.mono hB R q fun c g1 H1 q R1 => ?_
    split
    · rename_i e; rw [if_pos e] at q; exact q H1 R1
    · rename_i e; rw [if_neg e] at q; exact LT.seq k.mono hB R1 q fun _ _ H2 q R2 => q H2 R2
theorem MW.mt {e : Expr} (h : MW X B e t) : MT X B e t := ⟨h.mono, h.run.pt⟩
theorem mt_not (h : MT X B a t) : MT X B (.UnaryOp .Not a pos) (mNot t) :=
  ⟨fun τ g Q Q' hq q => h.mono τ g _ _ (fun c g1 q => hq _ _ q) q, ptImp (pt_not h.run) fun σ H Q ⟨τ, g, C, hB, R, q⟩ => LT.seq h.mono hB R q fun c g1 H1 q R1 => q H1 R1⟩
/-- as values -/
def mAndV (ma mb : TEM) : TEM := fun τ g Q => ma τ g fun x g1 => match x with
  | .bl c => if c = true then mb τ g1 Q else Q (.bl false) g1
  | _ => False
def mOrV (ma mb : TEM) : TEM := fun τ g Q => ma τ g fun x g1 => match x with
  | .bl c => if c = true then Q (.bl true) g1 else mb τ g1 Q
  | _ => False
def mNotV (ma : TEM) : TEM := fun τ g Q => ma τ g fun x g1 => match x with
  | .bl c => Q (.bl (!c)) g1
  | _ => False
theorem me_one {op} (h : ME X B a ma) : ME X B (.BoolOp op [a] pos) ma := ⟨h.mono, pe_one h.run⟩
theorem me_and (h : ME X B a ma) (k : ME X B (.BoolOp .And (b :: rest) pos) mb) : ME X B (.BoolOp .And (a :: b :: rest) pos) (mAndV ma mb) := by
  refine ⟨fun τ g Q Q' hq q => h.mono τ g _ _ (fun c g1 q => ?_) q, peImp (pe_and h.run k.run) fun σ H Q q => ?_⟩
  · cases c <;> first | exact q | skip
    simp only at q ⊢
    split
    · rename_i e; rw [if_pos e] at q; exact k.mono τ g1 _ _ hq q
    · rename_i e; rw [if_neg e] at q; exact hq _ _ q
  · obtain ⟨τ, g, C, hB, R, q⟩ := q
    refine LE.seq h.mono hB R q fun c g1 v H1 q R1 r => ?_
    cases c <;> first | exact q.elim | skip
    refine ⟨_, r.bl_inv, ?_⟩
    simp only at q
    split
    · rename_i e; rw [if_pos e] at q; exact LE.seq k.mono hB R1 q fun _ _ v H2 q R2 r2 => q v H2 R2 r2
    · rename_i e; rw [if_neg e] at q; exact q _ H1 R1 RV.bl
theorem me_or (h : ME X B a ma) (k : ME X B (.BoolOp .Or (b :: rest) pos) mb) : ME X B (.BoolOp .Or (a :: b :: rest) pos) (mOrV ma mb) := by
  refine ⟨fun τ g Q Q' hq q => h.mono τ g _ _ (fun c g1 q => ?_) q, peImp (pe_or h.run k.run) fun σ H Q q => ?_⟩
  · cases c <;> first | exact q | skip
    simp only at q ⊢
    split
    · rename_i e; rw [if_pos e] at q; exact hq _ _ q
    · rename_i e; rw [if_neg e] at q; exact k.mono τ g1 _ _ hq q
  · obtain ⟨τ, g, C, hB, R, q⟩ := q
    refine LE.seq h.mono hB R q fun c g1 v H1 q R1 r => ?_
    cases c <;> first | exact q.elim | skip
    refine ⟨_, r.bl_inv, ?_⟩
    simp only at q
    split
    · rename_i e; rw [if_pos e] at q; exact q _ H1 R1 RV.bl
    · rename_i e; rw [if_neg e] at q; exact LE.seq k.mono hB R1 q fun _ _ v H2 q R2 r2 => q v H2 R2 r2
theorem me_not (h : ME X B a ma) : ME X B (.UnaryOp .Not a pos) (mNotV ma) := by
  refine ⟨fun τ g Q Q' hq q => h.mono τ g _ _ (fun c g1 q => ?_) q, peImp (pe_not h.run) fun σ H Q q => ?_⟩
  · cases c <;> first | exact hq _ _ q | exact q
  · obtain ⟨τ, g, C, hB, R, q⟩ := q
    refine LE.seq h.mono hB R q fun c g1 v H1 q R1 r => ?_
    cases c <;> first | exact q.elim | skip
    exact ⟨_, r.bl_inv, q _ H1 R1 RV.bl⟩
def mIf (t : TTM) (ma mb : TEM) : TEM := fun τ g Q => t τ g fun c g1 => if c = true then ma τ g1 Q else mb τ g1 Q
theorem me_if {c : Expr} (h : MT X B c t) (ha : ME X B a ma) (hb : ME X B b mb) : ME X B (.IfExp c a b pos) (mIf t ma mb) := by
  refine ⟨fun τ g Q Q' hq q => h.mono τ g _ _ (fun c g1 q => ?_) q, peImp (pe_ifExp h.run ha.run hb.run) fun σ H Q q => ?_⟩
  · split
    · rename_i e; rw [if_pos e] at q; exact ha.mono τ g1 _ _ hq q
    · rename_i e; rw [if_neg e] at q; exact hb.mono τ g1 _ _ hq q
  · obtain ⟨τ, g, C, hB, R, q⟩ := q
    refine LT.seq h.mono hB R q fun c g1 H1 q R1 => ?_
    split
    · rename_i e; rw [if_pos e] at q; exact LE.seq ha.mono hB R1 q fun _ _ v H2 q R2 r2 => q v H2 R2 r2
    · rename_i e; rw [if_neg e] at q; exact LE.seq hb.mono hB R1 q fun _ _ v H2 q R2 r2 => q v H2 R2 r2
end
end M

namespace M
open PySem L2

/-! ### arguments, tuples, lists -/
def mNil : TAM := fun _ g Q => Q [] g
def mCons (ma : TEM) (mr : TAM) : TAM := fun τ g Q => ma τ g fun x g1 => mr τ g1 fun xs g2 => Q (x :: xs) g2
def mTup (m : TAM) : TEM := fun τ g Q => m τ g fun xs g1 => Q (.tup xs) g1
def mLst (m : TAM) : TEM := fun τ g Q => m τ g fun xs g1 => ∀ p, g1 p = none → Q (.ref p) (gup g1 p (.lst xs))
section
variable {X : Cx} {B : Bs} {pos : Pos} {e : Expr} {es : List Expr} {m : TEM} {ms : TAM}
theorem mono_cons (h : MonoE m) (k : MonoA ms) : MonoA (mCons m ms) := fun τ g Q Q' hq q => h τ g _ _ (fun x g1 q => k τ g1 _ _ (fun xs g2 q => hq _ _ q) q) q
theorem ma_nil : MA X B [] mNil := ⟨fun _ _ _ _ h q => h _ _ q, fun _ _ _ q => ⟨rfl, q⟩, paImp pa_nil fun σ H Q ⟨τ, g, C, hB, R, q⟩ => q [] H R RVs.nil⟩
theorem ma_cons (h : ME X B e m) (k : MA X B es ms) (hs : starEach (e :: es) X.env = (false, eval e X.env) :: starEach es X.env := by rfl) : MA X B (e :: es) (mCons m ms) :=
  ⟨mono_cons h.mono k.mono, fun τ g Q q => h.mono τ g _ _ (fun x g1 q => k.mono τ g1 _ _ (fun xs g2 q => ⟨by rw [List.length_cons, List.length_cons, q.1], q.2⟩) (k.len τ g1 _ q)) q,
    paImp (pa_cons h.run k.run hs) fun σ H Q ⟨τ, g, C, hB, R, q⟩ =>
    LE.seq h.mono hB R q fun d g1 v H1 q1 R1 r1 => LA.seq k.mono (Bs.le_trans hB Bs.le_hold) (R1.hold r1) q1 fun ds g2 vs H2 q2 R2 r2 => q2 (v :: vs) H2 R2.unhold (.cons R2.held r2)⟩
theorem mono_tup (h : MonoA ms) : MonoE (mTup ms) := fun τ g Q Q' hq q => h τ g _ _ (fun xs g1 q => hq _ _ q) q
theorem mono_lst (h : MonoA ms) : MonoE (mLst ms) := fun τ g Q Q' hq q => h τ g _ _ (fun xs g1 q p hp => hq _ _ (q p hp)) q
theorem me_tup {x1} (h : MA X B es ms) (hl : es.length ≤ 1000 := by decide) : ME X B (.Tuple es x1 pos) (mTup ms) :=
  ⟨mono_tup h.mono, peImp (pe_tup h.run) fun σ H Q ⟨τ, g, C, hB, R, q⟩ => LA.seq h.mono hB R (h.len _ _ _ q) fun ds g1 vs H1 q1 R1 r1 =>
    ⟨by rw [r1.length, q1.1]; exact szL (by omega), fun p hp => q1.2 _ _ (R1.newT hp r1).1 (R1.newT hp r1).2⟩⟩
theorem me_lst (h : MA X B es ms) (hl : es.length ≤ 1000 := by decide) : ME X B (.List es pos) (mLst ms) :=
  ⟨mono_lst h.mono, peImp (pe_lst h.run) fun σ H Q ⟨τ, g, C, hB, R, q⟩ => LA.seq h.mono hB R (h.len _ _ _ q) fun ds g1 vs H1 q1 R1 r1 =>
    ⟨by rw [r1.length, q1.1]; exact szL (by omega), fun p hp => q1.2 p (R1.fresh hp) _ _ (R1.newL hp r1) RV.ref⟩⟩
end

/-! ### attributes -/
/-- classes with plain attributes: what the text has written -/
structure ClsOk (K : PySem.W.Frag) (C : Addr) (f : Str) : Prop where
  cl : Cls K C
  no : NoAttr K C f
/-- o.f; CF tells which classes have plain attributes f -/
def mFld (ok : Addr → Prop) (f : Str) (m : TEM) : TEM := fun τ g Q => m τ g fun d g1 => match d with
  | .ref a => match g1 a with
    | some (.ins C fs) => ok C ∧ ∃ v, fs.lookup f = some v ∧ Q v g1
    | _ => False
  | _ => False
theorem fld_inv {ok : Addr → Prop} {f : Str} {d : D} {g : MH} {P : D → Prop} (h : match d with | .ref a => (match g a with | some (.ins C fs) => ok C ∧ ∃ v, fs.lookup f = some v ∧ P v | _ => False) | _ => False) :
    ∃ a C fs v, d = .ref a ∧ g a = some (.ins C fs) ∧ ok C ∧ fs.lookup f = some v ∧ P v := by
  cases d <;> first | exact h.elim | skip
  simp only at h
  split at h
  · rename_i C fs e
    obtain ⟨h1, v, h2, h3⟩ := h
    exact ⟨_, C, fs, v, rfl, e, h1, h2, h3⟩
  · exact h.elim
section
variable {X : Cx} {B : Bs} {pos pos' : Pos} {e o value : Expr} {m mv : TEM} {f : Str} {ok : Addr → Prop}
theorem mono_fld (h : MonoE m) : MonoE (mFld ok f m) := fun τ g Q Q' hq q => h τ g _ _ (fun d g1 q => by
  obtain ⟨a, C, fs, v, rfl, e, h1, h2, h3⟩ := fld_inv (P := fun v => Q v g1) q
  simp only [e]
  exact ⟨h1, v, h2, hq _ _ h3⟩) q
theorem me_fld (hok : ∀ C, ok C → ClsOk X.K C f) (he : ME X B e m) (hb : attributeBase e f X.env (eval e X.env) = eval e X.env := by rfl) : ME X B (.Attribute e f pos) (mFld ok f m) :=
  ⟨mono_fld he.mono, peImp (pe_fld he.run hb) fun σ H Q ⟨τ, g, C, hB, R, q⟩ => LE.seq he.mono hB R q fun d g1 v H1 q R1 r => by
    obtain ⟨a, C', fs, w, rfl, e, h1, h2, h3⟩ := fld_inv (P := fun d => ∀ v H', Rep X.K H' σ τ g1 C → RV X.K H' d v → Q v H') q
    obtain ⟨dx, ks, e1, e2⟩ := R1.ins e
    obtain ⟨u, l, r'⟩ := e2.look_some h2
    exact ⟨a, C', dx, ks, u, r.ref_inv, e1, (hok C' h1).cl, (hok C' h1).no, l, h3 u H1 R1 r'⟩⟩
end

/-! ### items -/
def itemOf (ds : List D) (i : D) : Option D := match i with
  | .int k => atI ds k
  | _ => none
def rIxM : R2M := fun x y g Q => match x with
  | .tup ds => ∃ d, itemOf ds y = some d ∧ Q d g
  | .fl ds => ∃ d, itemOf ds y = some d ∧ Q d g
  | .ref a => match g a with
    | some (.lst ds) => ∃ d, itemOf ds y = some d ∧ Q d g
    | some (.dk kvs) => ∃ k d, keyOf y = some k ∧ valD kvs k = some d ∧ Q d g
    | some (.dt kvs) => ∃ k d, tkeyOf y = some k ∧ valD kvs k = some d ∧ Q d g
    | _ => False
  | _ => False
theorem mono_ix : MonoR rIxM := fun x y g Q Q' h q => by
  unfold rIxM at q ⊢
  cases x with
  | tup ds => obtain ⟨d, e, q⟩ := q; exact ⟨d, e, h _ _ q⟩
  | fl ds => obtain ⟨d, e, q⟩ := q; exact ⟨d, e, h _ _ q⟩
  | ref a =>
    simp only at q ⊢
    cases z : g a with
    | none => rw [z] at q; exact q
    | some o =>
      rw [z] at q
      cases o with
      | lst ds => obtain ⟨d, e, q⟩ := q; exact ⟨d, e, h _ _ q⟩
      | dk ds => obtain ⟨k, d, e, e2, q⟩ := q; exact ⟨k, d, e, e2, h _ _ q⟩
      | dt ds => obtain ⟨k, d, e, e2, q⟩ := q; exact ⟨k, d, e, e2, h _ _ q⟩
      | ins C fs => exact q
  | _ => exact q
theorem itemOf_rv {K : PySem.W.Frag} {H : Hp} {ds : List D} {xs : List V} {y : D} {w : V} {d : D} (r : RVs K H ds xs) (ry : RV K H y w) (e : itemOf ds y = some d) : ∃ i v, w = .int i ∧ atI xs i = some v ∧ RV K H d v := by
  cases y <;> first | (cases e; done) | skip
  rename_i i
  refine ⟨i, ?_⟩
  have e : atI ds i = some d := e
  unfold atI at e ⊢
  rw [r.length]
  cases z : ixN ds.length i with
  | none => rw [z] at e; cases e
  | some j =>
    rw [z] at e
    obtain ⟨v, h1, h2⟩ := r.get (show ds[j]? = some d from e)
    exact ⟨v, ry.int_inv, h1, h2⟩
def tIxH (K : PySem.W.Frag) (ta tb : TE) : TE := fun σ H Q => tOp (fun x y H Q => rIxL K x y H Q ∨ rIxT K x y H Q) ta tb σ H Q ∨ tDGet ta tb σ H Q
/-- one reading for both: the kind of the object shows only behind the parts -/
def rDGet : R2 := fun x y H Q => ∃ a v, x = .ref a ∧ DGet H a y (some v) ∧ Q v H
section
variable {X : Cx} {B : Bs} {pos : Pos} {a b : Expr} {ma mb : TEM}
theorem ix_dict (hu : X.A.units + 1 < cLine) : IxR X rDGet := by
  intro value slice pins s σ H x y v u Q I rx ry h hs
  obtain ⟨a, z, rfl, g, q⟩ := h
  cases rx
  refine PyProof.Rows.tail_any (dict_typeIs I g) PySem.F.slot_dict_getitem.lookup ?_ hs
  exact d_getItem hu I g ry fun w' s3 I3 rw' => ⟨z, H, I3, rw', q⟩
def rIxH (K : PySem.W.Frag) : R2 := fun x y H Q => (rIxL K x y H Q ∨ rIxT K x y H Q) ∨ rDGet x y H Q
theorem os_ix {K : PySem.W.Frag} : OpS K (rIxH K) rIxM := ⟨mono_ix, fun {H σ τ g C x y v w Q} R r1 r2 q => by
  unfold rIxM at q
  cases x with
  | tup ds =>
    obtain ⟨d, e, q⟩ := q
    obtain ⟨p, xs, rfl, h1, h2⟩ := r1.tup_inv
    obtain ⟨i, u, rfl, e2, r3⟩ := itemOf_rv h2 r2 e
    exact .inl (.inr ⟨p, xs, i, u, rfl, rfl, SqT.of h1, e2, q u H R r3⟩)
  | fl ds =>
    obtain ⟨d, e, q⟩ := q
    obtain ⟨p, xs, rfl, h1, h2⟩ := r1.fl_inv
    obtain ⟨i, u, rfl, e2, r3⟩ := itemOf_rv h2 r2 e
    exact .inl (.inl ⟨p, xs, i, u, rfl, rfl, h1.sq, e2, q u H R r3⟩)
  | ref a =>
    simp only at q
    rw [r1.ref_inv]
    cases z : g a with
    | none => rw [z] at q; exact q.elim
    | some o =>
      rw [z] at q
      cases o with
      | lst ds =>
        obtain ⟨d, e, q⟩ := q
        obtain ⟨xs, h1, h2⟩ := R.lst z
        obtain ⟨i, u, rfl, e2, r3⟩ := itemOf_rv h2 r2 e
        exact .inl (.inl ⟨a, xs, i, u, rfl, rfl, SqL.of h1, e2, q u H R r3⟩)
      | dk kvs =>
        obtain ⟨k, d, e, e2, q⟩ := q
        obtain ⟨o, h1, h2⟩ := dget_k R z r2 e
        rw [e2] at h2
        rcases h2 with ⟨h2, _⟩ | ⟨d', u, h2, rfl, h3⟩
        · cases h2
        · cases h2; exact .inr ⟨a, u, rfl, h1, q u H R h3⟩
      | dt kvs =>
        obtain ⟨k, d, e, e2, q⟩ := q
        obtain ⟨o, h1, h2⟩ := dget_t R z r2 e
        rw [e2] at h2
        rcases h2 with ⟨h2, _⟩ | ⟨d', u, h2, rfl, h3⟩
        · cases h2
        · cases h2; exact .inr ⟨a, u, rfl, h1, q u H R h3⟩
      | ins C fs => exact q.elim
  | _ => exact q.elim⟩
theorem me_ix (hu : X.A.units + 1 < cLine) (ha : ME X B a ma) (hb : ME X B b mb) (hs : PlainIx b := by exact fun _ _ => rfl) : ME X B (.Subscript a b pos) (mOp rIxM ma mb) :=
  ⟨mono_op mono_ix ha.mono hb.mono, peImp (pe_ix ((ix_list.or ix_tup).or (ix_dict hu)) ha.run hb.run hs) (le_op os_ix ha.mono hb.mono)⟩
end

/-! ### slices -/
def cutD (xs : List D) (lo hi : Option Int) : List D := (xs.drop (HT.sIx xs.length 0 lo)).take (HT.sIx xs.length xs.length hi - HT.sIx xs.length 0 lo)
theorem RVs.cut {K : PySem.W.Frag} {H : Hp} {ds : List D} {xs : List V} (r : RVs K H ds xs) (lo hi : Option Int) : RVs K H (cutD ds lo hi) (cutV xs lo hi) := by
  unfold cutD cutV
  rw [r.length]
  exact (r.drop _).take _
abbrev TOM := MSt → MH → (Option Int → MH → Prop) → Prop
def mNoPart : TOM := fun _ g Q => Q none g
def mPart (m : TEM) : TOM := fun τ g Q => m τ g fun d g1 => match d with
  | .int i => Q (some i) g1
  | _ => False
def LO (K : PySem.W.Frag) (B : Bs) (m : TOM) : TO := fun σ H Q => ∃ τ g C, B.le C ∧ Rep K H σ τ g C ∧ m τ g fun o g' => ∀ H', Rep K H' σ τ g' C → Q o H'
structure MO (X : Cx) (B : Bs) (e : Option Expr) (m : TOM) : Prop where
  mono : ∀ (τ : MSt) (g : MH) (Q Q' : Option Int → MH → Prop), (∀ d g, Q d g → Q' d g) → m τ g Q → m τ g Q'
  run : PO X e (LO X.K B m)
def mSl (me : TEM) (ml mh : TOM) : TEM := fun τ g Q => me τ g fun d g1 => ml τ g1 fun lo g2 => mh τ g2 fun hi g3 => match d with
  | .tup ds => Q (.tup (cutD ds lo hi)) g3
  | .ref a => match g3 a with
    | some (.lst ds) => ∀ p, g3 p = none → Q (.ref p) (gup g3 p (.lst (cutD ds lo hi)))
    | _ => False
  | _ => False
section
variable {X : Cx} {B : Bs} {pos p2 : Pos} {e : Expr} {lo hi : Option Expr} {m : TEM} {ml mh : TOM}
theorem poImp {e : Option Expr} {t t' : TO} (h : PO X e t) (i : ∀ σ H Q, t' σ H Q → t σ H Q) : PO X e t' := ⟨fun pins s σ H Q I q => h.run pins s σ H Q I (i σ H Q q)⟩
theorem mo_none : MO X B none mNoPart := ⟨fun _ _ _ _ h q => h _ _ q, poImp po_none fun σ H Q ⟨τ, g, C, hB, R, q⟩ => q H R⟩
theorem mo_some (h : ME X B e m) : MO X B (some e) (mPart m) := ⟨fun τ g Q Q' hq q => h.mono τ g _ _ (fun d g1 q => by cases d <;> first | exact hq _ _ q | exact q) q,
  poImp (po_some h.run) fun σ H Q ⟨τ, g, C, hB, R, q⟩ => LE.seq h.mono hB R q fun d g1 v H1 q R1 r => by
    cases d <;> first | exact q.elim | skip
    exact ⟨_, r.int_inv, q H1 R1⟩⟩
theorem me_sl (he : ME X B e m) (hl : MO X B lo ml) (hh : MO X B hi mh) : ME X B (.Subscript e (.Slice lo hi none p2) pos) (mSl m ml mh) := by
  refine ⟨fun τ g Q Q' hq q => he.mono τ g _ _ (fun d g1 q => hl.mono τ g1 _ _ (fun l g2 q => hh.mono τ g2 _ _ (fun u g3 q => ?_) q) q) q, peImp (pe_slice (sl_list.or sl_tupA) he.run hl.run hh.run) fun σ H Q q => ?_⟩
  · cases d <;> first | exact q | exact hq _ _ q | skip
    simp only at q ⊢
    split
    · rename_i ds z; rw [z] at q; exact fun p hp => hq _ _ (q p hp)
    · rename_i z
      split at q
      · rename_i z2; exact (z _ z2).elim
      · exact q
  · obtain ⟨τ, g, C, hB, R, q⟩ := q
    refine LE.seq he.mono hB R q fun d g1 v H1 q1 R1 r1 => ?_
    refine ⟨τ, g1, _, Bs.le_trans hB Bs.le_hold, R1.hold r1, hl.mono _ _ _ _ (fun l g2 q2 H2 R2 => ?_) q1⟩
    refine ⟨τ, g2, _, Bs.le_trans hB Bs.le_hold, R2, hh.mono _ _ _ _ (fun u g3 q3 H3 R3 => ?_) q2⟩
    have r3 := R3.held
    have R3' := R3.unhold
    cases d <;> first | exact q3.elim | skip
    · rename_i a
      simp only at q3
      split at q3
      · rename_i ds z
        obtain ⟨xs, h1, h2⟩ := R3'.lst z
        rw [r3.ref_inv]
        exact .inl ⟨a, xs, rfl, SqL.of h1, fun p hp => q3 p (R3'.fresh hp) _ _ (R3'.newL hp (h2.cut l u)) RV.ref⟩
      · exact q3.elim
    · rename_i ds
      obtain ⟨p, xs, rfl, h1, h2⟩ := r3.tup_inv
      refine .inr ⟨p, xs, rfl, SqT.of h1, fun e => ?_, fun e p' hp => ?_⟩
      · refine q3 _ H3 R3' ?_
        have : cutD ds l u = ds := by
          unfold cutD
          rw [h2.length] at e
          rw [e.1, e.2, List.drop_zero, Nat.sub_zero, List.take_length]
        rw [this]
        exact RV.tup h1 h2
      · exact q3 _ _ (R3'.newT hp (h2.cut l u)).1 (R3'.newT hp (h2.cut l u)).2
end
end M

namespace M
open PySem L2

/-! ### calls whose exceptions are wished for at the slots -/
def tMethW (C : Addr) (m : Str) (sp : Sp) (E : L2.St → XK) (ta : TE) (t : TA) : TE := fun σ H Q => ta σ H fun x H1 => ∃ a dx fs, x = .ref a ∧ H1 a = some (.ins C dx fs) ∧ fs.lookup m = none ∧ t σ H1 fun vs H2 => sp (x :: vs) H2 Q (E σ)
def tMakeW (C : Addr) (sp : Sp) (E : L2.St → XK) (t : TA) : TE := fun σ H Q => t σ H fun vs H1 => ∀ x dx, H1 x = none → H1 dx = none → dx ≠ x →
  sp (.ref x :: vs) (upd (upd H1 dx (.own x)) x (.ins C dx [])) (fun v H2 => v = .non ∧ Q (.ref x) H2) (E σ)
section
variable {X : Cx} {CX : CXT} {k : Nat} {f C : Addr} {fd : FuncData} {ps : List Str} {sp : Sp} {E : L2.St → XK} {x m : Str} {p pos apos : Pos} {e o : Expr} {es : List Expr} {ta : TE} {t : TA}
theorem pe_call0W (F : FnOk X.prog X.w X.K X.mg X.base CX k f fd ps sp) (hr : Room k X.A) (hg : Gl X x) (hm : X.mg x = some (.ref f)) (hk : PySem.W.keepIn X.K (.ref f) = true) (hb : Binds X.K fd ps []) (hx : ∀ σ, PassesAt CX X σ (E σ))
    (hdb : (x == ("__debug__" : Str)) = false := by decide) : PE X (.Call (.Name x p) [] [] pos) (tCallS sp E tNil) :=
  ⟨fun pins s σ H Q I h => wpAny_Call_Name_kw (ld_glob I hg hm (PySem.W.callWith_K0 I.kIn hk (run_fnS (us := []) F hr hb (hx σ) I .nil h)) hdb)⟩
theorem pe_methW {pl : Sem Bool} (he : PE X o ta) (c : Cls X.K C) (hm : Meth X.K C m f) (F : FnOk X.prog X.w X.K X.mg X.base CX k f fd ps sp) (hr : Room k X.A) (hb : Binds X.K fd ps []) (hx : ∀ σ, PassesAt CX X σ (E σ)) (ha : PA X (e :: es) t)
    (hst : starEach (e :: es) X.env = (false, eval e X.env) :: starEach es X.env := by rfl) (hpl : (backTo pos (starEach es X.env)).any (·.1) = false := by rfl)
    (ht : eval (.Call (.Attribute o m apos) (e :: es) [] pos) X.env = (do
      let ov ← eval o X.env
      standAt apos.atName
      let (f, first) ← holding [ov] (getMethod ov m pl)
      callWith pos f first (backTo pos (starEach (e :: es) X.env)) (backToKw pos (keywordEach [] X.env))) := by rfl) :
    PE X (.Call (.Attribute o m apos) (e :: es) [] pos) (tMethW C m sp E ta t) := by
  refine ⟨fun pins s σ H Q I h => PySem.W.methodCall_KW (pl := pl) (thn (he.run pins s σ H _ I h) fun u s1 ⟨x, H1, I1, rx, a, dx, fs, ex, ea, l, q⟩ => ?_) ht⟩
  cases ex
  cases (show u = Value.ref a from rx)
  refine getmeth_ok I1 ea c hm l (PySem.W.callWith_K (first := [.ref a]) (h₀ := X.base) I.ok.mod.kin hm.kp (thn (ha.run pos pins s1 σ H1 _ I1 q) fun us s2 ⟨vs, H2, I2, r, q2⟩ => ⟨I2.kIn, ?_⟩) hst hpl)
  exact run_fnS (us := .ref a :: us) (vs := .ref a :: vs) F hr hb (hx σ) I2 (.cons rfl r) q2
theorem pe_meth0W {pl : Sem Bool} (he : PE X o ta) (c : Cls X.K C) (hm : Meth X.K C m f) (F : FnOk X.prog X.w X.K X.mg X.base CX k f fd ps sp) (hr : Room k X.A) (hb : Binds X.K fd ps []) (hx : ∀ σ, PassesAt CX X σ (E σ))
    (ht : eval (.Call (.Attribute o m apos) [] [] pos) X.env = (do
      let ov ← eval o X.env
      standAt apos.atName
      let (f, first) ← holding [ov] (getMethod ov m pl)
      callWith pos f first (backTo pos (starEach [] X.env)) (backToKw pos (keywordEach [] X.env))) := by rfl) :
    PE X (.Call (.Attribute o m apos) [] [] pos) (tMethW C m sp E ta tNil) := by
  refine ⟨fun pins s σ H Q I h => PySem.W.methodCall_KW (pl := pl) (thn (he.run pins s σ H _ I h) fun u s1 ⟨x, H1, I1, rx, a, dx, fs, ex, ea, l, q⟩ => ?_) ht⟩
  cases ex
  cases (show u = Value.ref a from rx)
  exact getmeth_ok I1 ea c hm l (PySem.W.callWith_K0 (first := [.ref a]) I1.kIn hm.kp (run_fnS (us := [.ref a]) (vs := [.ref a]) F hr hb (hx σ) I1 (.cons rfl .nil) q))
theorem run_makeW {pins : List (Addr × Obj)} {σ : L2.St} {H : Hp} {s : Shared} {Q : VK} {us : List Value} {vs : List V} (mk : Mk X.K C f) (F : FnOk X.prog X.w X.K X.mg X.base CX k f fd ps sp) (hr : Room (k + 1) X.A) (hb : Binds X.K fd ps []) (hx : PassesAt CX X σ (E σ))
    (I : Inv X pins σ H s) (r : Vals vs us) (h : ∀ x dx, H x = none → H dx = none → dx ≠ x → sp (.ref x :: vs) (upd (upd H dx (.own x)) x (.ins C dx [])) (fun v H2 => v = .non ∧ Q (.ref x) H2) (E σ)) :
    wpAny (model X.prog X.w) X.A (call (.ref C) us) (EP X pins σ Q) X.xe s := by
  have h1 := h (s.heap.objs.size + 1) s.heap.objs.size (I.hok.fresh (Nat.le_succ _)) (I.hok.fresh (Nat.le_refl _)) (Nat.ne_of_lt (Nat.lt_succ_self _))
  have J := Inv.made (C := C) I
  have r2 : Vals (V.ref (s.heap.objs.size + 1) :: vs) (Value.ref (s.heap.objs.size + 1) :: us) := .cons rfl r
  have hl : (Value.ref (s.heap.objs.size + 1) :: us).length = ps.length := by rw [← r2.length]; exact F.len _ _ _ _ h1
  have b := hb _ (Value.ref (s.heap.objs.size + 1) :: us) J.kIn (by rw [List.append_nil]; exact hl)
  rw [List.append_nil] at b
  refine wpAny_call (make_map (f := f) I.kIn mk.makes mk.init (beq_iff_eq.mp mk.fn) (codeAny_mono (F.run _ X.stack _ _ ⟨_, []⟩ _ _ _ (E σ) (hr.make C us []) (J.env0.make C us []) b r2 h1) fun r s' q => ?_))
  match r, q with
  | .error e, q => exact hx pins _ _ e s' J q
  | .ok (.ret u), q =>
    obtain ⟨v, H', J3, rv, ev, q3⟩ := J.after q
    cases ev
    exact ⟨rv, ⟨V.ref (s.heap.objs.size + 1), H', J3, rfl, q3⟩⟩
theorem pe_makeW (mk : Mk X.K C f) (F : FnOk X.prog X.w X.K X.mg X.base CX k f fd ps sp) (hr : Room (k + 1) X.A) (hg : Gl X x) (hm : X.mg x = some (.ref C)) (hb : Binds X.K fd ps []) (hx : ∀ σ, PassesAt CX X σ (E σ))
    (ha : PA X (e :: es) t) (hdb : (x == ("__debug__" : Str)) = false := by decide) (he : starEach (e :: es) X.env = (false, eval e X.env) :: starEach es X.env := by rfl) (hpl : (backTo pos (starEach es X.env)).any (·.1) = false := by rfl) :
    PE X (.Call (.Name x p) (e :: es) [] pos) (tMakeW C sp E t) := by
  refine ⟨fun pins s σ H Q I h => wpAny_Call_Name_kw (ld_glob I hg hm ?_ hdb)⟩
  refine PySem.W.callWith_K (h₀ := X.base) I.ok.mod.kin mk.kp (thn (ha.run pos pins s σ H _ I h) fun us s1 ⟨vs, H1, I1, r, q⟩ => ⟨I1.kIn, ?_⟩) he hpl
  exact run_makeW mk F hr hb (hx σ) I1 r q
theorem pe_make0W (mk : Mk X.K C f) (F : FnOk X.prog X.w X.K X.mg X.base CX k f fd ps sp) (hr : Room (k + 1) X.A) (hg : Gl X x) (hm : X.mg x = some (.ref C)) (hb : Binds X.K fd ps []) (hx : ∀ σ, PassesAt CX X σ (E σ))
    (hdb : (x == ("__debug__" : Str)) = false := by decide) : PE X (.Call (.Name x p) [] [] pos) (tMakeW C sp E tNil) :=
  ⟨fun pins s σ H Q I h => wpAny_Call_Name_kw (ld_glob I hg hm (PySem.W.callWith_K0 I.kIn mk.kp (run_makeW (us := []) mk F hr hb (hx σ) I .nil h)) hdb)⟩
end

/-! ### promises over data -/
abbrev XM := Value → List (Str × D) → MH → Prop
abbrev WM := Value → List (Str × D) → MSt → MH → Prop
abbrev SpM := List D → MH → MVK → XM → Prop
def RXD (K : PySem.W.Frag) (H : Hp) (d : Option Addr) (fs : List (Str × D)) : Prop := (fs = [] ∧ d = none) ∨ ∃ a xs, d = some a ∧ H a = some (.xd xs) ∧ RKs K H fs xs
def LSp (K : PySem.W.Frag) (sp : SpM) : Sp := fun vs H Q E => ∃ ds g B, RepG K H g B ∧ RVs K H ds vs ∧ sp ds g (fun d g' => ∀ v H', RepG K H' g' B → RV K H' d v → Q v H') fun c fs g' => ∀ d H', RepG K H' g' B → RXD K H' d fs → E c d H'
def LW (K : PySem.W.Frag) (B : Bs) (W : WM) : WX := fun c d σ H => ∃ τ g fs, Rep K H σ τ g B ∧ RXD K H d fs ∧ W c fs τ g
def MonoS (sp : SpM) : Prop := ∀ (ds : List D) (g : MH) (Q Q' : MVK) (E E' : XM), (∀ d g, Q d g → Q' d g) → (∀ c fs g, E c fs g → E' c fs g) → sp ds g Q E → sp ds g Q' E'
structure FnM (P : Program) (w : World) (K : PySem.W.Frag) (mg : Str → Option Value) (base : Heap) (k : Nat) (f : Addr) (ps : List Str) (sp : SpM) : Prop where
  ok : ∃ fd, FnOk P w K mg base (L2.CX P w) k f fd ps (LSp K sp) ∧ Binds K fd ps []
  mono : MonoS sp
  kp : PySem.W.keepIn K (.ref f) = true
theorem FnM.up {P : Program} {w : World} {K : PySem.W.Frag} {mg : Str → Option Value} {base : Heap} {k j : Nat} {f : Addr} {ps : List Str} {sp : SpM} (F : FnM P w K mg base k f ps sp) (h : k ≤ j) : FnM P w K mg base j f ps sp := by
  obtain ⟨fd, F1, F2⟩ := F.ok
  exact ⟨⟨fd, F1.mono h, F2⟩, F.mono, F.kp⟩
/-- the slots' values -/
def slp : MSt → L2.St → List (D × V)
  | some d :: τ, some v :: σ => (d, v) :: slp τ σ
  | _ :: τ, _ :: σ => slp τ σ
  | _, _ => []
theorem slp_get : ∀ {τ : MSt} {σ : L2.St} {i : Nat} {d : D} {v : V}, τ[i]? = some (some d) → σ[i]? = some (some v) → (d, v) ∈ slp τ σ
  | [], _, _, _, _, h, _ => by simp at h
  | _ :: _, [], _, _, _, _, h => by simp at h
  | x :: τ, y :: σ, 0, d, v, h, k => by
    simp at h k; subst h k
    unfold slp; exact List.mem_cons_self
  | x :: τ, y :: σ, i + 1, d, v, h, k => by
    have := slp_get (τ := τ) (σ := σ) (i := i) (by simpa using h) (by simpa using k)
    cases x <;> cases y <;> first | exact List.mem_cons_of_mem _ this | exact this
theorem slp_mem : ∀ {τ : MSt} {σ : L2.St} {p : D × V}, p ∈ slp τ σ → ∃ i : Nat, τ[i]? = some (some p.1) ∧ σ[i]? = some (some p.2)
  | [], _, _, h => by unfold slp at h; simp at h
  | _ :: _, [], _, h => by unfold slp at h; simp at h
  | x :: τ, y :: σ, p, h => by
    have step : p ∈ slp τ σ → ∃ i : Nat, (x :: τ)[i]? = some (some p.1) ∧ (y :: σ)[i]? = some (some p.2) := fun h => by
      obtain ⟨i, h1, h2⟩ := slp_mem h
      exact ⟨i + 1, by simpa using h1, by simpa using h2⟩
    unfold slp at h
    cases x with
    | none => exact step (by cases y <;> simpa using h)
    | some d =>
      cases y with
      | none => exact step (by simpa using h)
      | some v =>
        rcases List.mem_cons.mp h with rfl | h
        · exact ⟨0, rfl, rfl⟩
        · exact step h
section
variable {K : PySem.W.Frag} {H H' : Hp} {σ : L2.St} {τ : MSt} {g g' : MH} {C : Bs}
theorem Rep.slots (R : Rep K H σ τ g C) : RepG K H g (C.more (slp τ σ)) := ⟨R.G.g, fun p hp => by
  rcases List.mem_append.mp hp with hp | hp
  · obtain ⟨i, h1, h2⟩ := slp_mem hp
    obtain ⟨v, h3, h4⟩ := R.T.t i _ h1
    rw [h2] at h3; cases h3; exact h4
  · exact R.G.h p hp, R.G.p⟩
theorem Rep.back (R : Rep K H σ τ g C) (R' : RepG K H' g' (C.more (slp τ σ))) : Rep K H' σ τ g' C := ⟨R'.sub Bs.le_more, fun i d e => by
  obtain ⟨v, h1, h2⟩ := R.T.t i d e
  exact ⟨v, h1, R'.h (d, v) (List.mem_append_left _ (slp_get e h1))⟩, R.T.len⟩
/-- a call over data -/
theorem lsp_of {B : Bs} {sp : SpM} (hm : MonoS sp) {W : WM} {ds : List D} {vs : List V} {Q : VK} (hB : B.le C) (R : Rep K H σ τ g C) (r : RVs K H ds vs) (h : sp ds g (fun d g' => ∀ v H', Rep K H' σ τ g' C → RV K H' d v → Q v H') fun c fs g' => W c fs τ g') : LSp K sp vs H Q (WE (LW K B W) σ) :=
  ⟨ds, g, _, R.slots, r, hm _ _ _ _ _ _ (fun d g' q v H' R' rv => q v H' (R.back R') rv) (fun c fs g' q d H' R' rd => ⟨τ, g', fs, (R.back R').sub hB, rd, q⟩) h⟩
end
def mCall (sp : SpM) (W : WM) (ms : TAM) : TEM := fun τ g Q => ms τ g fun ds g1 => sp ds g1 Q fun c fs g2 => W c fs τ g2
theorem mono_call {sp : SpM} {W : WM} {ms : TAM} (h : MonoA ms) (k : MonoS sp) : MonoE (mCall sp W ms) := fun τ g Q Q' hq q => h τ g _ _ (fun ds g1 q => k _ _ _ _ _ _ hq (fun _ _ _ q => q) q) q
/-- a method of an instance: T tells the promise by the class -/
def mMeth (T : List (Addr × SpM)) (W : WM) (m : Str) (mo : TEM) (ms : TAM) : TEM := fun τ g Q => mo τ g fun d g1 => match d with
  | .ref a => match g1 a with
    | some (.ins C fs) => fs.lookup m = none ∧ ∃ sp, (C, sp) ∈ T ∧ ms τ g1 fun ds g2 => sp (.ref a :: ds) g2 Q fun c fs g3 => W c fs τ g3
    | _ => False
  | _ => False
theorem meth_inv {d : D} {g : MH} {P : Addr → Addr → List (Str × D) → Prop} (h : match d with | .ref a => (match g a with | some (.ins C fs) => P a C fs | _ => False) | _ => False) : ∃ a C fs, d = .ref a ∧ g a = some (.ins C fs) ∧ P a C fs := by
  cases d <;> first | exact h.elim | skip
  simp only at h
  split at h
  · rename_i C fs e
    exact ⟨_, C, fs, rfl, e, h⟩
  · exact h.elim
def mMake (C : Addr) (sp : SpM) (W : WM) (ms : TAM) : TEM := fun τ g Q => ms τ g fun ds g1 => ∀ x, g1 x = none → sp (.ref x :: ds) (gup g1 x (.ins C [])) (fun d g2 => d = .non ∧ Q (.ref x) g2) fun c fs g2 => W c fs τ g2
theorem mono_make {C : Addr} {sp : SpM} {W : WM} {ms : TAM} (h : MonoA ms) (k : MonoS sp) : MonoE (mMake C sp W ms) := fun τ g Q Q' hq q => h τ g _ _ (fun ds g1 q x hx => k _ _ _ _ _ _ (fun d g q => ⟨q.1, hq _ _ q.2⟩) (fun _ _ _ q => q) (q x hx)) q
section
variable {X : Cx} {B : Bs} {W : WM} {k : Nat} {f C : Addr} {ps : List Str} {sp : SpM} {x m : Str} {p pos apos : Pos} {e o : Expr} {es : List Expr} {mo : TEM} {ms : TAM}
theorem me_call (F : FnM X.prog X.w X.K X.mg X.base k f ps sp) (hr : Room k X.A) (tk : Takes X (LW X.K B W)) (hm : X.mg x = some (.ref f)) (ha : MA X B (e :: es) ms) (hg : Gl X x := by rfl)
    (hdb : (x == ("__debug__" : Str)) = false := by decide) (he : starEach (e :: es) X.env = (false, eval e X.env) :: starEach es X.env := by rfl) (hpl : (backTo pos (starEach es X.env)).any (·.1) = false := by rfl) :
    ME X B (.Call (.Name x p) (e :: es) [] pos) (mCall sp W ms) := by
  obtain ⟨fd, F1, F2⟩ := F.ok
  refine ⟨mono_call ha.mono F.mono, peImp (pe_callS F1 hr hg hm F.kp F2 (fun σ => passAt tk σ) ha.run hdb he hpl) fun σ H Q ⟨τ, g, C, hB, R, q⟩ => ?_⟩
  exact LA.seq ha.mono hB R q fun ds g1 vs H1 q R1 r => lsp_of F.mono hB R1 r q
theorem me_call0 (F : FnM X.prog X.w X.K X.mg X.base k f ps sp) (hr : Room k X.A) (tk : Takes X (LW X.K B W)) (hm : X.mg x = some (.ref f)) (hg : Gl X x := by rfl)
    (hdb : (x == ("__debug__" : Str)) = false := by decide) : ME X B (.Call (.Name x p) [] [] pos) (mCall sp W mNil) := by
  obtain ⟨fd, F1, F2⟩ := F.ok
  refine ⟨mono_call (fun _ _ _ _ h q => h _ _ q) F.mono, peImp (pe_call0W F1 hr hg hm F.kp F2 (fun σ => passAt tk σ) hdb) fun σ H Q ⟨τ, g, C, hB, R, q⟩ => ?_⟩
  exact lsp_of F.mono hB R RVs.nil q
/-- X(..): the class's __init__ keeps sp -/
theorem me_make (mk : Mk X.K C f) (F : FnM X.prog X.w X.K X.mg X.base k f ps sp) (hr : Room (k + 1) X.A) (tk : Takes X (LW X.K B W)) (hm : X.mg x = some (.ref C)) (ha : MA X B (e :: es) ms) (hg : Gl X x := by rfl)
    (hdb : (x == ("__debug__" : Str)) = false := by decide) (he : starEach (e :: es) X.env = (false, eval e X.env) :: starEach es X.env := by rfl) (hpl : (backTo pos (starEach es X.env)).any (·.1) = false := by rfl) :
    ME X B (.Call (.Name x p) (e :: es) [] pos) (mMake C sp W ms) := by
  obtain ⟨fd, F1, F2⟩ := F.ok
  refine ⟨mono_make ha.mono F.mono, peImp (pe_makeW mk F1 hr hg hm F2 (fun σ => passAt tk σ) ha.run hdb he hpl) fun σ H Q ⟨τ, g, C', hB, R, q⟩ => ?_⟩
  refine LA.seq ha.mono hB R q fun ds g1 vs H1 q R1 r x dx hx hdx ne => ?_
  have R2 : Rep X.K (upd (upd H1 dx (.own x)) x (.ins C dx [])) σ τ (gup g1 x (.ins C [])) C' :=
    (R1.lay hdx).alloc (by rw [upd_ne (Ne.symm ne)]; exact hx) ⟨dx, [], upd_same, rfl⟩
  have r2 : RVs X.K (upd (upd H1 dx (.own x)) x (.ins C dx [])) ds vs := RVs.mono (Tk.new (by rw [upd_ne (Ne.symm ne)]; exact hx)) _ _ (RVs.mono (Tk.new hdx) _ _ r)
  refine lsp_of F.mono hB R2 (.cons RV.ref r2) (F.mono _ _ _ _ _ _ (fun d g2 q v H' R' rv => ?_) (fun _ _ _ q => q) (q x (R1.fresh hx)))
  obtain ⟨rfl, q⟩ := q
  exact ⟨rv.non_inv, q _ H' R' RV.ref⟩
theorem me_make0 (mk : Mk X.K C f) (F : FnM X.prog X.w X.K X.mg X.base k f ps sp) (hr : Room (k + 1) X.A) (tk : Takes X (LW X.K B W)) (hm : X.mg x = some (.ref C)) (hg : Gl X x := by rfl)
    (hdb : (x == ("__debug__" : Str)) = false := by decide) : ME X B (.Call (.Name x p) [] [] pos) (mMake C sp W mNil) := by
  obtain ⟨fd, F1, F2⟩ := F.ok
  refine ⟨mono_make (fun _ _ _ _ h q => h _ _ q) F.mono, peImp (pe_make0W mk F1 hr hg hm F2 (fun σ => passAt tk σ) hdb) fun σ H Q ⟨τ, g, C', hB, R, q⟩ => ?_⟩
  intro x dx hx hdx ne
  have R2 : Rep X.K (upd (upd H dx (.own x)) x (.ins C dx [])) σ τ (gup g x (.ins C [])) C' :=
    (R.lay hdx).alloc (by rw [upd_ne (Ne.symm ne)]; exact hx) ⟨dx, [], upd_same, rfl⟩
  refine lsp_of F.mono hB R2 (.cons RV.ref .nil) (F.mono _ _ _ _ _ _ (fun d g2 q v H' R' rv => ?_) (fun _ _ _ q => q) (q x (R.fresh hx)))
  obtain ⟨rfl, q⟩ := q
  exact ⟨rv.non_inv, q _ H' R' RV.ref⟩
/-- what a method's class and def must be -/
structure MethM (X : Cx) (m : Str) (C : Addr) (sp : SpM) : Prop where
  cl : Cls X.K C
  ex : ∃ f k ps, Meth X.K C m f ∧ FnM X.prog X.w X.K X.mg X.base k f ps sp ∧ Room k X.A
def MethsM (X : Cx) (m : Str) (T : List (Addr × SpM)) : Prop := ∀ p ∈ T, MethM X m p.1 p.2
theorem meths_nil : MethsM X m [] := fun _ h => nomatch h
theorem meths_cons {T : List (Addr × SpM)} (h : MethM X m C sp) (t : MethsM X m T) : MethsM X m ((C, sp) :: T) := fun p hp => by
  rcases List.mem_cons.mp hp with rfl | hp
  · exact h
  · exact t p hp
theorem mono_meth {T : List (Addr × SpM)} (hT : MethsM X m T) (ho : MonoE mo) (ha : MonoA ms) : MonoE (mMeth T W m mo ms) := fun τ g Q Q' hq q => ho τ g _ _ (fun d g1 q => by
  obtain ⟨a, C, fs, rfl, e, h1, sp, h3, h2⟩ := meth_inv (P := fun a C fs => fs.lookup m = none ∧ ∃ sp, (C, sp) ∈ T ∧ ms τ g1 fun ds g2 => sp (.ref a :: ds) g2 Q fun c fs g3 => W c fs τ g3) q
  simp only [e]
  obtain ⟨f, k, ps, _, F, _⟩ := (hT _ h3).ex
  exact ⟨h1, sp, h3, ha τ g1 _ _ (fun ds g2 q => F.mono _ _ _ _ _ _ hq (fun _ _ _ q => q) q) h2⟩) q
/-- o.m(e, ..), whatever the class of o among T's -/
theorem me_meth {T : List (Addr × SpM)} {pl : Sem Bool} (hT : MethsM X m T) (tk : Takes X (LW X.K B W)) (ho : ME X B o mo) (ha : MA X B (e :: es) ms)
    (hst : starEach (e :: es) X.env = (false, eval e X.env) :: starEach es X.env := by rfl) (hpl : (backTo pos (starEach es X.env)).any (·.1) = false := by rfl)
    (ht : eval (.Call (.Attribute o m apos) (e :: es) [] pos) X.env = (do
      let ov ← eval o X.env
      standAt apos.atName
      let (f, first) ← holding [ov] (getMethod ov m pl)
      callWith pos f first (backTo pos (starEach (e :: es) X.env)) (backToKw pos (keywordEach [] X.env))) := by rfl) :
    ME X B (.Call (.Attribute o m apos) (e :: es) [] pos) (mMeth T W m mo ms) := by
  refine ⟨mono_meth hT ho.mono ha.mono, ⟨fun pins s σ H Q I h => PySem.W.methodCall_KW (pl := pl) ?_ ht⟩⟩
  obtain ⟨τ, g, C, hB, R, q⟩ := h
  refine thn (ho.run.run pins s σ H (fun v H1 => ∃ g1 d, Rep X.K H1 σ τ g1 C ∧ RV X.K H1 d v ∧ _) I (LE.seq ho.mono hB R q fun d g1 v H1 q R1 r => ⟨g1, d, R1, r, q⟩)) fun u s1 ⟨x, H1, I1, rx, g1, d, R1, r, q⟩ => ?_
  obtain ⟨a, C', fs, rfl, e, h1, sp, h3, h2⟩ := meth_inv (P := fun a C' fs => fs.lookup m = none ∧ ∃ sp, (C', sp) ∈ T ∧ ms τ g1 fun ds g2 => sp (.ref a :: ds) g2 (fun d g' => ∀ v H', Rep X.K H' σ τ g' C → RV X.K H' d v → Q v H') fun c fs g3 => W c fs τ g3) q
  obtain ⟨f, k, ps, hm, F, hr⟩ := (hT _ h3).ex
  obtain ⟨fd, F1, F2⟩ := F.ok
  obtain ⟨dx, ks, e1, e2⟩ := R1.ins e
  have ex := r.ref_inv
  subst ex
  cases (show u = Value.ref a from rx)
  refine getmeth_ok I1 e1 (hT _ h3).cl hm (e2.look_none h1) (PySem.W.callWith_K (first := [.ref a]) (h₀ := X.base) I.ok.mod.kin hm.kp
    (thn (ha.run.run pos pins s1 σ H1 (fun vs H2 => LSp X.K sp (.ref a :: vs) H2 Q (WE (LW X.K B W) σ)) I1 (LA.seq ha.mono hB R1 h2 fun ds g2 vs H2 q R2 r2 => lsp_of F.mono hB R2 (.cons RV.ref r2) q)) fun us s2 ⟨vs, H2, I2, r3, q2⟩ => ⟨I2.kIn, ?_⟩) hst hpl)
  exact run_fnS (us := .ref a :: us) (vs := .ref a :: vs) F1 hr F2 (passAt tk σ) I2 (.cons rfl r3) q2
theorem me_meth0 {T : List (Addr × SpM)} {pl : Sem Bool} (hT : MethsM X m T) (tk : Takes X (LW X.K B W)) (ho : ME X B o mo)
    (ht : eval (.Call (.Attribute o m apos) [] [] pos) X.env = (do
      let ov ← eval o X.env
      standAt apos.atName
      let (f, first) ← holding [ov] (getMethod ov m pl)
      callWith pos f first (backTo pos (starEach [] X.env)) (backToKw pos (keywordEach [] X.env))) := by rfl) :
    ME X B (.Call (.Attribute o m apos) [] [] pos) (mMeth T W m mo mNil) := by
  refine ⟨mono_meth hT ho.mono (fun _ _ _ _ h q => h _ _ q), ⟨fun pins s σ H Q I h => PySem.W.methodCall_KW (pl := pl) ?_ ht⟩⟩
  obtain ⟨τ, g, C, hB, R, q⟩ := h
  refine thn (ho.run.run pins s σ H (fun v H1 => ∃ g1 d, Rep X.K H1 σ τ g1 C ∧ RV X.K H1 d v ∧ _) I (LE.seq ho.mono hB R q fun d g1 v H1 q R1 r => ⟨g1, d, R1, r, q⟩)) fun u s1 ⟨x, H1, I1, rx, g1, d, R1, r, q⟩ => ?_
  obtain ⟨a, C', fs, rfl, e, h1, sp, h3, h2⟩ := meth_inv (P := fun a C' fs => fs.lookup m = none ∧ ∃ sp, (C', sp) ∈ T ∧ mNil τ g1 fun ds g2 => sp (.ref a :: ds) g2 (fun d g' => ∀ v H', Rep X.K H' σ τ g' C → RV X.K H' d v → Q v H') fun c fs g3 => W c fs τ g3) q
  obtain ⟨f, k, ps, hm, F, hr⟩ := (hT _ h3).ex
  obtain ⟨fd, F1, F2⟩ := F.ok
  obtain ⟨dx, ks, e1, e2⟩ := R1.ins e
  have ex := r.ref_inv
  subst ex
  cases (show u = Value.ref a from rx)
  exact getmeth_ok I1 e1 (hT _ h3).cl hm (e2.look_none h1) (PySem.W.callWith_K0 (first := [.ref a]) I1.kIn hm.kp (run_fnS (us := [.ref a]) (vs := [.ref a]) F1 hr F2 (passAt tk σ) I1 (.cons rfl .nil) (lsp_of F.mono hB R1 (.cons RV.ref .nil) h2)))
end
end M

namespace M
open PySem L2

structure MEnds where
  nx : MSt → MH → Prop
  rt : MVK
  bk : MSt → MH → Prop := fun _ _ => False
  ct : MSt → MH → Prop := fun _ _ => False
abbrev TSM := MEnds → MSt → MH → Prop
structure MEnds.le (A B : MEnds) : Prop where
  nx : ∀ τ g, A.nx τ g → B.nx τ g
  rt : ∀ d g, A.rt d g → B.rt d g
  bk : ∀ τ g, A.bk τ g → B.bk τ g
  ct : ∀ τ g, A.ct τ g → B.ct τ g
def MonoB (m : TSM) : Prop := ∀ (A B : MEnds) (τ : MSt) (g : MH), A.le B → m A τ g → m B τ g
/-- the ends as the layer has them -/
def lends (K : PySem.W.Frag) (C : Bs) (E : Ends) : MEnds where
  nx := fun τ g => ∀ σ H, Rep K H σ τ g C → E.nx σ H
  rt := fun d g => ∀ v H, RepG K H g C → RV K H d v → E.rt v H
  bk := fun τ g => ∀ σ H, Rep K H σ τ g C → E.bk σ H
  ct := fun τ g => ∀ σ H, Rep K H σ τ g C → E.ct σ H
def LS (K : PySem.W.Frag) (B : Bs) (m : TSM) : TS := fun E σ H => ∃ τ g C, B.le C ∧ Rep K H σ τ g C ∧ m (lends K C E) τ g
structure MS (X : Cx) (B : Bs) (st : Stmt) (m : TSM) : Prop where
  mono : MonoB m
  run : PS X st (LS X.K B m)
structure MSs (X : Cx) (B : Bs) (st : List Stmt) (m : TSM) : Prop where
  mono : MonoB m
  run : PSs X st (LS X.K B m)
theorem psImp {X : Cx} {e : Stmt} {t t' : TS} (h : PS X e t) (i : ∀ σ H Q, t' σ H Q → t σ H Q) : PS X e t' := ⟨fun pins s σ H Q I q => h.run pins s σ H Q I (i Q σ H q)⟩
theorem pssImp {X : Cx} {e : List Stmt} {t t' : TS} (h : PSs X e t) (i : ∀ σ H Q, t' σ H Q → t σ H Q) : PSs X e t' := ⟨fun pins s σ H Q I q => h.run pins s σ H Q I (i Q σ H q)⟩
theorem LS.seq {K : PySem.W.Frag} {B C : Bs} {m : TSM} (hm : MonoB m) {σ : L2.St} {H : Hp} {τ : MSt} {g : MH} {E : Ends} {A : MEnds} (hB : B.le C) (R : Rep K H σ τ g C) (h : m A τ g) (k : A.le (lends K C E)) : LS K B m E σ H :=
  ⟨τ, g, C, hB, R, hm _ _ _ _ k h⟩
theorem MEnds.le_refl (A : MEnds) : A.le A := ⟨fun _ _ h => h, fun _ _ h => h, fun _ _ h => h, fun _ _ h => h⟩

/-! ### blocks -/
def mNext : TSM := fun E τ g => E.nx τ g
def mSeq (m n : TSM) : TSM := fun E τ g => m { E with nx := n E } τ g
section
variable {X : Cx} {B : Bs} {pos : Pos} {st : Stmt} {rest : List Stmt} {m n : TSM}
theorem mb_nil : MSs X B [] mNext := ⟨fun A B τ g h q => h.nx _ _ q, pssImp pss_nil fun E σ H ⟨τ, g, C, hB, R, q⟩ => q σ H R⟩
theorem mb_cons (h : MS X B st m) (k : MSs X B rest n) : MSs X B (st :: rest) (mSeq m n) :=
  ⟨fun A B τ g hl q => h.mono { A with nx := n A } _ _ _ ⟨fun τ g q => k.mono _ _ _ _ hl q, hl.rt, hl.bk, hl.ct⟩ q, pssImp (pss_cons h.run k.run) fun E σ H ⟨τ, g, C, hB, R, q⟩ =>
    LS.seq h.mono hB R q ⟨fun τ g q σ' H' R' => ⟨τ, g, C, hB, R', q⟩, fun _ _ q => q, fun _ _ q => q, fun _ _ q => q⟩⟩
theorem mb_one (h : MS X B st m) : MSs X B [st] m := ⟨h.mono, pss_one h.run⟩
theorem ms_pass : MS X B (.Pass pos) mNext := ⟨fun A B τ g h q => h.nx _ _ q, psImp ps_pass fun E σ H ⟨τ, g, C, hB, R, q⟩ => q σ H R⟩
def mNever : TSM := fun _ _ _ => False
theorem ms_never : MS X B st mNever := ⟨fun _ _ _ _ _ q => q, psImp ps_never fun E σ H ⟨τ, g, C, hB, R, q⟩ => q⟩
theorem mb_never {sts : List Stmt} : MSs X B sts mNever := ⟨fun _ _ _ _ _ q => q, pssImp pss_never fun E σ H ⟨τ, g, C, hB, R, q⟩ => q⟩
variable {e : Expr} {me : TEM}
def mDrop (me : TEM) : TSM := fun E τ g => me τ g fun _ g1 => E.nx τ g1
theorem ms_expr (h : ME X B e me) (hs : swapsWith e none pos.line X.env = pure false := by rfl) : MS X B (.Expr e pos) (mDrop me) :=
  ⟨fun A B τ g hl q => h.mono _ _ _ _ (fun d g q => hl.nx _ _ q) q, psImp (ps_expr h.run hs) fun E σ H ⟨τ, g, C, hB, R, q⟩ => LE.seq h.mono hB R q fun d g1 v H1 q R1 r => q σ H1 R1⟩
/-- at a return what is not wanted any more is forgotten -/
def mRet (me : TEM) : TSM := fun E τ g => me τ g fun d g1 => ∃ g2, Le g2 g1 ∧ E.rt d g2
theorem ms_ret (h : ME X B e me) : MS X B (.Return (some e) pos) (mRet me) :=
  ⟨fun A B τ g hl q => h.mono _ _ _ _ (fun d g ⟨g2, h1, q⟩ => ⟨g2, h1, hl.rt _ _ q⟩) q, psImp (ps_ret h.run) fun E σ H ⟨τ, g, C, hB, R, q⟩ => LE.seq h.mono hB R q fun d g1 v H1 ⟨g2, hg, q⟩ R1 r => q v H1 (R1.G.drop hg) r⟩
def mRetN : TSM := fun E τ g => ∃ g2, Le g2 g ∧ E.rt .non g2
theorem ms_retN : MS X B (.Return none pos) mRetN := ⟨fun A B τ g hl ⟨g2, h1, q⟩ => ⟨g2, h1, hl.rt _ _ q⟩, psImp ps_retN fun E σ H ⟨τ, g, C, hB, R, g2, hg, q⟩ => q _ H (R.G.drop hg) RV.non⟩
def mIfS (t : TTM) (m n : TSM) : TSM := fun E τ g => t τ g fun b g1 => if b = true then m E τ g1 else n E τ g1
theorem ms_if {c : Expr} {a b : List Stmt} {t : TTM} (hc : MT X B c t) (ha : MSs X B a m) (hb : MSs X B b n) : MS X B (.If c a b pos) (mIfS t m n) := by
  refine ⟨fun A B τ g hl q => hc.mono _ _ _ _ (fun b g q => ?_) q, psImp (ps_if hc.run ha.run hb.run) fun E σ H ⟨τ, g, C, hB, R, q⟩ => LT.seq hc.mono hB R q fun b g1 H1 q R1 => ?_⟩
  · split
    · rename_i e; rw [if_pos e] at q; exact ha.mono _ _ _ _ hl q
    · rename_i e; rw [if_neg e] at q; exact hb.mono _ _ _ _ hl q
  · split
    · rename_i e; rw [if_pos e] at q; exact ⟨τ, g1, C, hB, R1, q⟩
    · rename_i e; rw [if_neg e] at q; exact ⟨τ, g1, C, hB, R1, q⟩
end

/-! ### targets -/
abbrev TGM := D → MSt → MH → (MSt → MH → Prop) → Prop
abbrev TGsM := List D → MSt → MH → (MSt → MH → Prop) → Prop
def same (is : List Nat) (σ σ' : L2.St) : Prop := σ'.length = σ.length ∧ ∀ i : Nat, i ∉ is → σ'[i]? = σ[i]?
theorem same.refl (is : List Nat) (σ : L2.St) : same is σ σ := ⟨rfl, fun _ _ => rfl⟩
theorem same.trans {is : List Nat} {a b c : L2.St} (h : same is a b) (k : same is b c) : same is a c := ⟨k.1.trans h.1, fun i hi => (k.2 i hi).trans (h.2 i hi)⟩
theorem same.mono {is js : List Nat} {a b : L2.St} (h : same is a b) (k : ∀ i ∈ is, i ∈ js) : same js a b := ⟨h.1, fun i hi => h.2 i fun z => hi (k i z)⟩
def LG (K : PySem.W.Frag) (B : Bs) (is : List Nat) (m : TGM) : TG := fun v σ H Q => ∃ d τ g C, B.le C ∧ Rep K H σ τ g C ∧ RV K H d v ∧ m d τ g fun τ' g' => ∀ σ' H', Rep K H' σ' τ' g' C → same is σ σ' → Q σ' H'
def LGs (K : PySem.W.Frag) (B : Bs) (is : List Nat) (m : TGsM) : TGs := fun vs σ H Q => ∃ ds τ g C, B.le C ∧ Rep K H σ τ g C ∧ RVs K H ds vs ∧ m ds τ g fun τ' g' => ∀ σ' H', Rep K H' σ' τ' g' C → same is σ σ' → Q σ' H'
structure MG (X : Cx) (B : Bs) (tg : Expr) (is : List Nat) (m : TGM) : Prop where
  mono : ∀ d τ g (Q Q' : MSt → MH → Prop), (∀ τ g, Q τ g → Q' τ g) → m d τ g Q → m d τ g Q'
  run : PG X tg (LG X.K B is m)
structure MGs (X : Cx) (B : Bs) (tgs : List Expr) (is : List Nat) (m : TGsM) : Prop where
  mono : ∀ ds τ g (Q Q' : MSt → MH → Prop), (∀ τ g, Q τ g → Q' τ g) → m ds τ g Q → m ds τ g Q'
  run : PGs X tgs (LGs X.K B is m)
theorem pgImp {X : Cx} {e : Expr} {t t' : TG} (h : PG X e t) (i : ∀ v σ H Q, t' v σ H Q → t v σ H Q) : PG X e t' := ⟨fun pins s σ H v u Q I r q => h.run pins s σ H v u Q I r (i v σ H Q q)⟩
theorem pgsImp {X : Cx} {e : List Expr} {t t' : TGs} (h : PGs X e t) (i : ∀ v σ H Q, t' v σ H Q → t v σ H Q) : PGs X e t' := ⟨fun pins s σ H v u Q I r q => h.run pins s σ H v u Q I r (i v σ H Q q)⟩
def gN (i : Nat) : TGM := fun d τ g Q => Q (τ.set i (some d)) g
def gNil' : TGsM := fun ds τ g Q => match ds with
  | [] => Q τ g
  | _ :: _ => False
def gCons' (t : TGM) (u : TGsM) : TGsM := fun ds τ g Q => match ds with
  | [] => False
  | d :: r => t d τ g fun τ' g' => u r τ' g' Q
def gT (n : Nat) (t : TGsM) : TGM := fun d τ g Q => match d with
  | .tup ds => ds.length = n ∧ t ds τ g Q
  | _ => False
section
variable {X : Cx} {B : Bs} {pos : Pos}
theorem mg_name (i : Nat) {x : Str} (hN : X.N.Nodup) (hi : X.N[i]? = some x := by rfl) (hx : Loc X.env.scope x := by first | exact Or.inl rfl | exact Or.inr rfl) (hf : X.fn x = true ∨ X.env.scope.names.lookup x = some .local := by first | exact .inl rfl | exact .inr rfl) : MG X B (.Name x pos) [i] (gN i) :=
  ⟨fun _ _ _ _ _ h q => h _ _ q, pgImp (pg_name hN hi hx hf) fun v σ H Q ⟨d, τ, g, C, hB, R, r, q⟩ => q _ H (R.set r) ⟨List.length_set, fun j hj => by
    rw [List.getElem?_set_ne]
    intro e; exact hj (by simp [e])⟩⟩
theorem mgs_nil : MGs X B [] [] gNil' := by
  refine ⟨fun ds τ g Q Q' h q => ?_, pgsImp pgs_nil fun v σ H Q ⟨ds, τ, g, C, hB, R, r, q⟩ => ?_⟩
  · cases ds <;> first | exact h _ _ q | exact q
  · cases ds <;> first | exact ⟨r.nil_inv, q σ H R (same.refl _ _)⟩ | exact q.elim
theorem mgs_cons {e : Expr} {es : List Expr} {is js : List Nat} {t : TGM} {u : TGsM} (h : MG X B e is t) (k : MGs X B es js u)
    (hs : (assignEach (e :: es) X.env).map (·.2) = assign e X.env :: (assignEach es X.env).map (·.2) := by rfl) : MGs X B (e :: es) (is ++ js) (gCons' t u) := by
  refine ⟨fun ds τ g Q Q' hq q => ?_, pgsImp (pgs_cons h.run k.run hs) fun v σ H Q ⟨ds, τ, g, C, hB, R, r, q⟩ => ?_⟩
  · cases ds with
    | nil => exact q
    | cons d ds => exact h.mono _ _ _ _ _ (fun τ g q => k.mono _ _ _ _ _ hq q) q
  · cases ds with
    | nil => exact q.elim
    | cons d ds =>
      obtain ⟨x, xs, rfl, r1, r2⟩ := r.cons_inv
      refine ⟨x, xs, rfl, d, τ, g, C.more (ds.zip xs), Bs.le_trans hB Bs.le_more, R.more r2, r1, h.mono _ _ _ _ _ (fun τ1 g1 q σ1 H1 R1 s1 => ?_) q⟩
      refine ⟨ds, τ1, g1, C, hB, R1.sub Bs.le_more, R1.mores r2.length, k.mono _ _ _ _ _ (fun τ2 g2 q σ2 H2 R2 s2 => ?_) q⟩
      exact q σ2 H2 R2 ((s1.mono fun i hi => List.mem_append_left _ hi).trans (s2.mono fun i hi => List.mem_append_right _ hi))
theorem mg_tup {es : List Expr} {kk n : Nat} {is : List Nat} {u : TGsM} (hc : X.calm = true) (h : MGs X B es is u)
    (hn : (assignEach es X.env).length = n := by rfl) (hst : (assignEach es X.env).findIdx? (·.1) = none := by rfl) : MG X B (.Tuple es kk pos) is (gT n u) := by
  refine ⟨fun d τ g Q Q' hq q => ?_, pgImp (pg_tup hc h.run hn hst) fun v σ H Q ⟨d, τ, g, C, hB, R, r, q⟩ => ?_⟩
  · cases d <;> first | exact q | exact ⟨q.1, h.mono _ _ _ _ _ hq q.2⟩
  · cases d <;> first | exact q.elim | skip
    obtain ⟨p, xs, rfl, h1, h2⟩ := r.tup_inv
    exact ⟨p, xs, rfl, SqT.of h1, by rw [h2.length]; exact q.1, _, τ, g, C, hB, R, h2, q.2⟩
/-- o[i] = .., by values -/
def rSetM : D → D → D → MH → (MH → Prop) → Prop := fun o i v g Q => match o with
  | .ref a => match g a with
    | some (.lst ds) => match i with
      | .int k => ∃ j, ixN ds.length k = some j ∧ Q (gup g a (.lst (ds.set j v)))
      | _ => False
    | some (.dk kvs) => ∃ k, keyOf i = some k ∧ kvs.length < 100000 ∧ Q (gup g a (.dk (putD kvs k v)))
    | some (.dt kvs) => ∃ k, tkeyOf i = some k ∧ kvs.length < 100000 ∧ Q (gup g a (.dt (putD kvs k v)))
    | _ => False
  | _ => False
theorem mono_setM {o i v : D} {g : MH} {Q Q' : MH → Prop} (h : ∀ g, Q g → Q' g) (q : rSetM o i v g Q) : rSetM o i v g Q' := by
  unfold rSetM at q ⊢
  cases o <;> first | exact q | skip
  rename_i a
  simp only at q ⊢
  cases z : g a with
  | none => rw [z] at q; exact q
  | some o =>
    rw [z] at q
    cases o with
    | lst ds => cases i <;> first | exact q | (obtain ⟨j, e, q⟩ := q; exact ⟨j, e, h _ q⟩)
    | dk ds => obtain ⟨k, e, e2, q⟩ := q; exact ⟨k, e, e2, h _ q⟩
    | dt ds => obtain ⟨k, e, e2, q⟩ := q; exact ⟨k, e, e2, h _ q⟩
    | ins C fs => exact q
def rSetH : TSet := fun o i v H Q => rSetL o i v H Q ∨ rSetD o i v H Q
theorem set_any (hu : X.A.units + 1 < cLine) : PSet X rSetH := fun pins s σ H o i v ov iv u Q I ro ri rv h => h.elim (set_list pins s σ H o i v ov iv u Q I ro ri rv) (set_dict hu pins s σ H o i v ov iv u Q I ro ri rv)
theorem setH_of {K : PySem.W.Frag} {H : Hp} {σ : L2.St} {τ : MSt} {g : MH} {C : Bs} {o i d : D} {x y v : V} {Q : Hp → Prop} (R : Rep K H σ τ g C) (ro : RV K H o x) (ri : RV K H i y) (rd : RV K H d v)
    (q : rSetM o i d g fun g' => ∀ H', Rep K H' σ τ g' C → Q H') : rSetH x y v H Q := by
  unfold rSetM at q
  cases o <;> first | exact q.elim | skip
  rename_i a
  simp only at q
  rw [ro.ref_inv]
  cases z : g a with
  | none => rw [z] at q; exact q.elim
  | some o =>
    rw [z] at q
    cases o with
    | lst ds =>
      cases i <;> first | exact q.elim | skip
      obtain ⟨j, e, q⟩ := q
      obtain ⟨xs, h1, h2⟩ := R.lst z
      exact .inl ⟨a, xs, _, j, rfl, ri.int_inv, h1, by rw [h2.length]; exact e, q _ (R.setL z h1 (h2.set rd j))⟩
    | dk kvs =>
      obtain ⟨k, e, hl, q⟩ := q
      obtain ⟨ks, h1, h2⟩ := R.dk z
      rw [keyOf_rv ri e]
      refine .inr ⟨a, _, rfl, DPut.k h1 (by rw [h2.length]; exact szl hl), q _ (R.write h1 rfl z ⟨_, upd_same, ?_⟩)⟩
      exact (h2.put rd).mono (Tk.write h1 rfl)
    | dt kvs =>
      obtain ⟨k, e, hl, q⟩ := q
      obtain ⟨ks, h1, h2⟩ := R.dt z
      obtain ⟨b, rfl, hb⟩ := tkeyOf_rv ri e
      refine .inr ⟨a, _, rfl, .inr ⟨ks, k, b, h1, rfl, hb, by rw [h2.length]; exact szl hl, rfl⟩, q _ (R.write h1 rfl z ⟨_, upd_same, ?_⟩)⟩
      exact (h2.put rd).mono (Tk.write h1 rfl)
    | ins C fs => exact q.elim
def gS (mo mi : TEM) : TGM := fun d τ g Q => mo τ g fun o g1 => mi τ g1 fun i g2 => rSetM o i d g2 fun g3 => Q τ g3
theorem mg_sub {o i : Expr} {mo mi : TEM} (hu : X.A.units + 1 < cLine) (ho : ME X B o mo) (hi : ME X B i mi)
    (ha : ∀ v, assign (.Subscript o i pos) X.env v = (do
      let ov ← holding [v] (eval o X.env)
      let iv ← holding [v, ov] (eval i X.env)
      standAt pos
      holding [v, ov, iv] (setItem ov iv v)
      release [v, ov, iv] []) := by intro _; rfl) : MG X B (.Subscript o i pos) [] (gS mo mi) := by
  refine ⟨fun d τ g Q Q' hq q => ho.mono _ _ _ _ (fun x g1 q => hi.mono _ _ _ _ (fun y g2 q => mono_setM (fun g q => hq _ _ q) q) q) q, pgImp (pg_sub ho.run hi.run (set_any hu) ha) fun v σ H Q ⟨d, τ, g, C, hB, R, r, q⟩ => ?_⟩
  refine LE.seq ho.mono (Bs.le_trans hB Bs.le_hold) (R.hold r) q fun x g1 w H1 q R1 r1 => ?_
  refine LE.seq hi.mono (Bs.le_trans hB (Bs.le_trans Bs.le_hold Bs.le_hold)) (R1.hold r1) q fun y g2 z H2 q R2 r2 => ?_
  exact setH_of R2.unhold.unhold R2.held r2 R2.unhold.held (mono_setM (fun g3 q H3 R3 => q σ H3 R3 (same.refl _ _)) q)
end

/-! ### assignments -/
def mSet (i : Nat) (m : TEM) : TSM := fun E τ g => m τ g fun d g1 => E.nx (τ.set i (some d)) g1
def mAsg (m : TEM) (t : TGM) : TSM := fun E τ g => m τ g fun d g1 => t d τ g1 E.nx
def mPut (ok : Addr → Prop) (f : Str) (mo mv : TEM) : TSM := fun E τ g => mv τ g fun d g1 => mo τ g1 fun o g2 => match o with
  | .ref a => match g2 a with
    | some (.ins C fs) => ok C ∧ fs.length ≤ 100 ∧ E.nx τ (gup g2 a (.ins C (putFD f d fs)))
    | _ => False
  | _ => False
section
variable {X : Cx} {B : Bs} {pos pos' : Pos} {e o tg : Expr} {m mo : TEM}
theorem ms_set (i : Nat) {x : Str} (hN : X.N.Nodup) (h : ME X B e m) (hi : X.N[i]? = some x := by rfl) (hx : Loc X.env.scope x := by first | exact Or.inl rfl | exact Or.inr rfl) (hs : swapsWith e (some (.Name x pos')) pos.line X.env = pure false := by rfl)
    (hf : X.fn x = true ∨ X.env.scope.names.lookup x = some .local := by first | exact .inl rfl | exact .inr rfl) : MS X B (.Assign [.Name x pos'] e pos) (mSet i m) :=
  ⟨fun A B τ g hl q => h.mono _ _ _ _ (fun d g q => hl.nx _ _ q) q, psImp (ps_set hN hi hx h.run hs hf) fun E σ H ⟨τ, g, C, hB, R, q⟩ => LE.seq h.mono hB R q fun d g1 v H1 q R1 r => q _ H1 (R1.set r)⟩
theorem ms_asg {is : List Nat} {t : TGM} (h : ME X B e m) (k : MG X B tg is t) (hs : swapsWithSole [tg] e pos.line X.env = pure false := by rfl) (hw : swappedStores [tg] e X.env = pure none := by rfl)
    (h1 : (assignEach [tg] X.env).map (·.2) = [assign tg X.env] := by rfl) : MS X B (.Assign [tg] e pos) (mAsg m t) :=
  ⟨fun A B τ g hl q => h.mono _ _ _ _ (fun d g q => k.mono _ _ _ _ _ hl.nx q) q, psImp (ps_asg h.run k.run hs hw h1) fun E σ H ⟨τ, g, C, hB, R, q⟩ => LE.seq h.mono hB R q fun d g1 v H1 q R1 r =>
    ⟨d, τ, g1, C, hB, R1, r, k.mono _ _ _ _ _ (fun τ' g' q σ' H' R' _ => q σ' H' R') q⟩⟩
theorem ms_put {ok : Addr → Prop} {f : Str} {value : Expr} {mv : TEM} (hok : ∀ C, ok C → ClsOk X.K C f) (ho : ME X B o mo) (hv : ME X B value mv) (hs : swapsWith value (some (.Attribute o f pos')) pos.line X.env = pure false := by rfl) :
    MS X B (.Assign [.Attribute o f pos'] value pos) (mPut ok f mo mv) := by
  refine ⟨fun A B τ g hl q => hv.mono _ _ _ _ (fun d g1 q => ho.mono _ _ _ _ (fun x g2 q => ?_) q) q, psImp (ps_fld ho.run hv.run hs) fun E σ H ⟨τ, g, C, hB, R, q⟩ => ?_⟩
  · obtain ⟨a, C, fs, rfl, e, h1, h2, h3⟩ := meth_inv (P := fun a C fs => ok C ∧ fs.length ≤ 100 ∧ A.nx τ (gup g2 a (.ins C (putFD f d fs)))) q
    simp only [e]
    exact ⟨h1, h2, hl.nx _ _ h3⟩
  · refine LE.seq hv.mono hB R q fun d g1 v H1 q R1 r => ?_
    refine LE.seq ho.mono (Bs.le_trans hB Bs.le_hold) (R1.hold r) q fun x g2 w H2 q R2 r2 => ?_
    obtain ⟨a, C', fs, rfl, e, h1, h2, h3⟩ := meth_inv (P := fun a C' fs => ok C' ∧ fs.length ≤ 100 ∧ (lends X.K C E).nx τ (gup g2 a (.ins C' (putFD f d fs)))) q
    obtain ⟨dx, ks, e1, e2⟩ := R2.ins e
    refine ⟨a, C', dx, ks, r2.ref_inv, e1, (hok C' h1).cl, (hok C' h1).no, by rw [e2.length]; omega, h3 σ _ (R2.unhold.write e1 rfl e ⟨dx, _, upd_same, ?_⟩)⟩
    exact (e2.putF R2.held).mono (Tk.write e1 rfl)
/-- a, b = x, y -/
def mPar (i j : Nat) (ma : TAM) : TSM := fun E τ g => ma τ g fun ds g1 => match ds with
  | [d, e] => E.nx ((τ.set i (some d)).set j (some e)) g1
  | _ => False
theorem ms_par (i j : Nat) {x y : Str} {a b : Expr} {ma : TAM} {px py pt : Pos} {kt k2 pt2} (hc : X.calm = true) (hN : X.N.Nodup) (ha : MA X B [a, b] ma) (hij : i ≠ j := by decide) (hi : X.N[i]? = some x := by rfl) (hj : X.N[j]? = some y := by rfl)
    (hx : X.env.scope.names.lookup x = some .local := by rfl) (hy : X.env.scope.names.lookup y = some .local := by rfl)
    (hw : swappedStores [.Tuple [.Name x px, .Name y py] kt pt] (.Tuple [a, b] k2 pt2) X.env = pure (some [x, y]) := by rfl)
    (hs : swapsWithSole [.Tuple [.Name x px, .Name y py] kt pt] (.Tuple [a, b] k2 pt2) pos.line X.env = pure false := by rfl) :
    MS X B (.Assign [.Tuple [.Name x px, .Name y py] kt pt] (.Tuple [a, b] k2 pt2) pos) (mPar i j ma) := by
  refine ⟨fun A B τ g hl q => ha.mono _ _ _ _ (fun d g q => ?_) q, psImp (ps_par hc hN hi hj hij hx hy ha.run hw hs) fun E σ H ⟨τ, g, C, hB, R, q⟩ => LA.seq ha.mono hB R q fun ds g1 vs H1 q R1 r => ?_⟩
  · match d, q with
    | [d, e], q => exact hl.nx _ _ q
  · match ds, q with
    | [d, e], q =>
      obtain ⟨v, r', rfl, r1, r2⟩ := r.cons_inv
      obtain ⟨w, r'', rfl, r3, r4⟩ := r2.cons_inv
      have := r4.nil_inv
      subst this
      exact ⟨v, w, rfl, q _ H1 ((R1.set r1).set r3)⟩
end
end M

namespace M
open PySem L2

/-! ### what is walked -/
/-- J gives ds, one after another, while St holds of the heap over data -/
def WalkM (K : PySem.W.Frag) (J : It) (ds : List D) (St : MH → Prop) (C : Bs) : Prop :=
  Walk J ds.length (fun H => ∃ g, RepG K H g C ∧ St g) fun i H x H' => ∃ d, ds[i]? = some d ∧ RV K H' d x ∧ Tk H H' ∧ (∀ b o, H b = some o → H' b = some o)
abbrev TIM := MSt → MH → (List D → (MH → Prop) → MH → Prop) → Prop
def LI (K : PySem.W.Frag) (B : Bs) (m : TIM) : TI := fun σ H R => ∃ τ g C, B.le C ∧ Rep K H σ τ g C ∧ m τ g fun ds St g' => ∀ J H' C', C.le C' → Rep K H' σ τ g' C' → WalkM K J ds St C' → R J H'
structure MI (X : Cx) (B : Bs) (tg iter : Expr) (m : TIM) : Prop where
  mono : ∀ τ g (Q Q' : List D → (MH → Prop) → MH → Prop), (∀ ds St g, Q ds St g → Q' ds St g) → m τ g Q → m τ g Q'
  run : PI X tg iter (LI X.K B m)
theorem piImp {X : Cx} {tg e : Expr} {t t' : TI} (h : PI X tg e t) (i : ∀ σ H Q, t' σ H Q → t σ H Q) : PI X tg e t' := ⟨fun pins s σ H Q I q => h.run pins s σ H Q I (i σ H Q q)⟩
/-- more is kept: what lies in the heap stays -/
theorem RepG.ext {K : PySem.W.Frag} {H H' : Hp} {g : MH} {C : Bs} (R : RepG K H g C) (t : Tk H H') (e : ∀ b o, H b = some o → H' b = some o) : RepG K H' g C :=
  ⟨fun a o h => (R.g a o h).keep t (e a), fun p hp => RV.mono t _ _ (R.h p hp), fun q hq => ⟨e _ _ (R.p q hq).1, (R.p q hq).2⟩⟩
theorem Rep.ext {K : PySem.W.Frag} {H H' : Hp} {σ : L2.St} {τ : MSt} {g : MH} {C : Bs} (R : Rep K H σ τ g C) (t : Tk H H') (e : ∀ b o, H b = some o → H' b = some o) : Rep K H' σ τ g C := ⟨R.G.ext t e, R.T.mono t⟩
section
variable {K : PySem.W.Frag} {a : Addr} {ds : List D} {C : Bs}
/-- a list of the heap, as long as it stands so -/
theorem walkM_list : WalkM K (Itl K a) ds (fun g => g a = some (.lst ds)) C := by
  have key : ∀ H, (∃ g, RepG K H g C ∧ g a = some (.lst ds)) → ∃ xs, SqL K H a xs ∧ RVs K H ds xs := fun H ⟨g, R, e⟩ => by
    obtain ⟨xs, h1, h2⟩ := R.g a _ e
    exact ⟨xs, SqL.of h1, h2⟩
  refine ⟨fun i H hi h => ?_, fun H h => ?_, fun i H x H' hi h y => ?_⟩
  · obtain ⟨xs, h1, h2⟩ := key H h
    exact ⟨xs, xs[i]'(by rw [h2.length]; exact hi), h1, by simp [h2.length, hi]⟩
  · obtain ⟨xs, h1, h2⟩ := key H h
    exact ⟨xs, h1, by rw [h2.length]; exact Nat.le_refl _⟩
  · obtain ⟨xs, h1, h2⟩ := key H h
    obtain ⟨rfl, y⟩ := y
    obtain ⟨d, h3, h4⟩ := h2.getV (y xs h1)
    exact ⟨d, h3, h4, Tk.refl _, fun _ _ q => q⟩
/-- a tuple, a list that never changes: held -/
theorem walkM_tup {v : V} {p : Addr} (hv : v = .ref p) (hh : (D.tup ds, v) ∈ C.hs) : WalkM K (Itt K p) ds (fun _ => True) C := by
  have key : ∀ H, (∃ g, RepG K H g C ∧ True) → ∃ xs, SqT K H p xs ∧ RVs K H ds xs := fun H ⟨g, R, _⟩ => by
    obtain ⟨q, xs, e, h1, h2⟩ := (R.h _ hh).tup_inv
    have e : v = .ref q := e
    rw [hv] at e; cases e
    exact ⟨xs, SqT.of h1, h2⟩
  refine ⟨fun i H hi h => ?_, fun H h => ?_, fun i H x H' hi h y => ?_⟩
  · obtain ⟨xs, h1, h2⟩ := key H h
    exact ⟨xs, xs[i]'(by rw [h2.length]; exact hi), h1, by simp [h2.length, hi]⟩
  · obtain ⟨xs, h1, h2⟩ := key H h
    exact ⟨xs, h1, by rw [h2.length]; exact Nat.le_refl _⟩
  · obtain ⟨xs, h1, h2⟩ := key H h
    obtain ⟨rfl, y⟩ := y
    obtain ⟨d, h3, h4⟩ := h2.getV (y xs h1)
    exact ⟨d, h3, h4, Tk.refl _, fun _ _ q => q⟩
theorem walkM_fl {v : V} {p : Addr} (hv : v = .ref p) (hh : (D.fl ds, v) ∈ C.hs) : WalkM K (Itl K p) ds (fun _ => True) C := by
  have key : ∀ H, (∃ g, RepG K H g C ∧ True) → ∃ xs, SqL K H p xs ∧ RVs K H ds xs := fun H ⟨g, R, _⟩ => by
    obtain ⟨q, xs, e, h1, h2⟩ := (R.h _ hh).fl_inv
    have e : v = .ref q := e
    rw [hv] at e; cases e
    exact ⟨xs, h1.sq, h2⟩
  refine ⟨fun i H hi h => ?_, fun H h => ?_, fun i H x H' hi h y => ?_⟩
  · obtain ⟨xs, h1, h2⟩ := key H h
    exact ⟨xs, xs[i]'(by rw [h2.length]; exact hi), h1, by simp [h2.length, hi]⟩
  · obtain ⟨xs, h1, h2⟩ := key H h
    exact ⟨xs, h1, by rw [h2.length]; exact Nat.le_refl _⟩
  · obtain ⟨xs, h1, h2⟩ := key H h
    obtain ⟨rfl, y⟩ := y
    obtain ⟨d, h3, h4⟩ := h2.getV (y xs h1)
    exact ⟨d, h3, h4, Tk.refl _, fun _ _ q => q⟩
/-- a list that is pinned -/
theorem walkM_pin {xs : List V} (hp : (a, HO.lst xs) ∈ C.ps) (hl : xs.length = ds.length) (hh : ∀ p ∈ ds.zip xs, p ∈ C.hs) : WalkM K (Itl K a) ds (fun _ => True) C := by
  have key : ∀ H, (∃ g, RepG K H g C ∧ True) → SqL K H a xs ∧ RVs K H ds xs := fun H ⟨g, R, _⟩ => ⟨SqL.of (R.p _ hp).1, of_more hl fun p h => R.h p (hh p h)⟩
  refine ⟨fun i H hi h => ?_, fun H h => ?_, fun i H x H' hi h y => ?_⟩
  · obtain ⟨h1, h2⟩ := key H h
    exact ⟨xs, xs[i]'(by rw [h2.length]; exact hi), h1, by simp [h2.length, hi]⟩
  · obtain ⟨h1, h2⟩ := key H h
    exact ⟨xs, h1, by rw [h2.length]; exact Nat.le_refl _⟩
  · obtain ⟨h1, h2⟩ := key H h
    obtain ⟨rfl, y⟩ := y
    obtain ⟨d, h3, h4⟩ := h2.getV (y xs h1)
    exact ⟨d, h3, h4, Tk.refl _, fun _ _ q => q⟩
/-- lo, lo + 1, .. -/
def rangeD (lo : Int) (n : Nat) : List D := (List.range n).map fun (i : Nat) => D.int (lo + (i : Int))
theorem rangeD_length {lo : Int} {n : Nat} : (rangeD lo n).length = n := by unfold rangeD; rw [List.length_map, List.length_range]
theorem rangeD_get {lo : Int} {n i : Nat} (h : i < n) : (rangeD lo n)[i]? = some (.int (lo + (i : Int))) := by
  unfold rangeD; rw [List.getElem?_map, List.getElem?_range h]; rfl
theorem walkM_range {lo : Int} {n : Nat} : WalkM K (Itr lo n) (rangeD lo n) (fun _ => True) C := by
  unfold WalkM
  rw [rangeD_length]
  refine ⟨fun i H hi h => hi, fun H h => Nat.le_refl _, fun i H x H' hi h y => ?_⟩
  obtain ⟨rfl, rfl⟩ := y
  exact ⟨_, rangeD_get hi, RV.int, Tk.refl _, fun _ _ q => q⟩
/-- (0, x), (1, y), .. -/
def enumD (ds : List D) : List D := (List.range ds.length).map fun (i : Nat) => D.tup [.int (i : Int), ds.getD i .non]
theorem enumD_length : (enumD ds).length = ds.length := by unfold enumD; rw [List.length_map, List.length_range]
theorem enumD_get {i : Nat} {d : D} (h : ds[i]? = some d) : (enumD ds)[i]? = some (.tup [.int (i : Int), d]) := by
  obtain ⟨h1, h2⟩ := List.getElem?_eq_some_iff.mp h
  unfold enumD
  rw [List.getElem?_map, List.getElem?_range h1]
  simp [h]
theorem walkM_enum {St : MH → Prop} (h : WalkM K (Itl K a) ds St C) (hk : ∀ H, (∃ g, RepG K H g C ∧ St g) → ∃ xs, SqL K H a xs ∧ RVs K H ds xs) : WalkM K (Ite K a) (enumD ds) St C := by
  unfold WalkM
  rw [enumD_length]
  refine ⟨fun i H hi h => ?_, fun H h => ?_, fun i H x H' hi h y => ?_⟩
  · obtain ⟨xs, h1, h2⟩ := hk H h
    exact ⟨xs, xs[i]'(by rw [h2.length]; exact hi), h1, by simp [h2.length, hi]⟩
  · obtain ⟨xs, h1, h2⟩ := hk H h
    exact ⟨xs, h1, by rw [h2.length]; exact Nat.le_refl _⟩
  · obtain ⟨xs, h1, h2⟩ := hk H h
    obtain ⟨T, z, rfl, nT, rfl, y⟩ := y
    obtain ⟨d, h3, h4⟩ := h2.getV (y xs h1)
    refine ⟨_, enumD_get h3, RV.tup upd_same (.cons RV.int (.cons (RV.mono (Tk.new nT) _ _ h4) .nil)), Tk.new nT, fun b o q => by rw [upd_ne (ne_of_none q nT)]; exact q⟩
end
/-- for x in e: a tuple, a list that never changes, a list of the heap that stands still -/
def iAny (m : TEM) : TIM := fun τ g Q => m τ g fun d g1 => match d with
  | .tup ds => Q ds (fun _ => True) g1
  | .fl ds => Q ds (fun _ => True) g1
  | .ref a => match g1 a with
    | some (.lst ds) => Q ds (fun g => g a = some (.lst ds)) g1
    | _ => False
  | _ => False
/-- .. a list that nobody else has: it goes out of sight -/
def iTmp (m : TEM) : TIM := fun τ g Q => m τ g fun d g1 => match d with
  | .ref a => match g1 a with
    | some (.lst ds) => Q ds (fun _ => True) (gdel g1 a)
    | _ => False
  | _ => False
def iRange1 (m : TEM) : TIM := fun τ g Q => m τ g fun d g1 => match d with
  | .int n => -1000000 < n ∧ n < 1000000 ∧ Q (rangeD 0 n.toNat) (fun _ => True) g1
  | _ => False
def iEnumM (m : TEM) : TIM := fun τ g Q => m τ g fun d g1 => match d with
  | .ref a => match g1 a with
    | some (.lst ds) => Q (enumD ds) (fun g => g a = some (.lst ds)) g1
    | _ => False
  | _ => False
def iEnumTmp (m : TEM) : TIM := fun τ g Q => m τ g fun d g1 => match d with
  | .ref a => match g1 a with
    | some (.lst ds) => Q (enumD ds) (fun _ => True) (gdel g1 a)
    | _ => False
  | _ => False
theorem lst_inv {d : D} {g : MH} {P : Addr → List D → Prop} (h : match d with | .ref a => (match g a with | some (.lst ds) => P a ds | _ => False) | _ => False) : ∃ a ds, d = .ref a ∧ g a = some (.lst ds) ∧ P a ds := by
  cases d <;> first | exact h.elim | skip
  simp only at h
  split at h
  · rename_i ds e
    exact ⟨_, ds, rfl, e, h⟩
  · exact h.elim
section
variable {X : Cx} {B : Bs} {tg e : Expr} {m : TEM} {p pos : Pos}
theorem piOr {t t' : TI} (h : PI X tg e t) (h' : PI X tg e t') : PI X tg e fun σ H Q => t σ H Q ∨ t' σ H Q := ⟨fun pins s σ H Q I q => q.elim (h.run pins s σ H Q I) (h'.run pins s σ H Q I)⟩
/-- one of two by what the value is -/
theorem pi_seq {t : TE} (h : PE X e t) : PI X tg e fun σ H R => t σ H fun x H1 => (∃ a, x = .ref a ∧ (∃ xs, SqL X.K H1 a xs) ∧ R (Itl X.K a) H1) ∨ ∃ a, x = .ref a ∧ (∃ xs, SqT X.K H1 a xs) ∧ R (Itt X.K a) H1 := by
  refine ⟨fun pins s σ H R I q => ?_⟩
  refine thn (h.run pins s σ H _ I q) fun v s1 ⟨x, H1, I1, r1, q1⟩ => ?_
  have fp : ∀ b ∈ [s1.heap.objs.size], FpOk X pins H1 b := fun b hb => by
    rw [List.mem_singleton.mp hb]
    exact I1.fpOk (Nat.le_refl _) (I1.hok.fresh (Nat.le_refl _))
  rcases q1 with ⟨a, rfl, ⟨xs, hq⟩, q⟩ | ⟨a, rfl, ⟨xs, hq⟩, q⟩
  · cases r1
    obtain ⟨its, rv, p, hz⟩ := I1.list hq
    exact wpAny_pyIter_list p.isList ⟨_, _, _, _, H1, rfl, I1.kept (t' := s1.toks) fun b o e => Heap.get?_push_of_some _ e, turn_list a _, ⟨_, Heap.get?_push_size _ rfl, rfl, rfl⟩, fp, q⟩
  · cases r1
    obtain ⟨its, rv, p, hz⟩ := I1.tuple hq
    exact wpAny_pyIter_tuple (show s1.heap.IsTuple a its.toArray from p) ⟨_, _, _, _, H1, rfl, I1.kept (t' := s1.toks) fun b o e => Heap.get?_push_of_some _ e, turn_tuple a _, ⟨_, Heap.get?_push_size _ rfl, rfl, rfl⟩, fp, q⟩
theorem mi_any (h : ME X B e m) : MI X B tg e (iAny m) := by
  refine ⟨fun τ g Q Q' hq q => h.mono _ _ _ _ (fun d g1 q => ?_) q, piImp (pi_seq h.run) fun σ H Q ⟨τ, g, C, hB, R, q⟩ => LE.seq h.mono hB R q fun d g1 v H1 q R1 r => ?_⟩
  · cases d <;> first | exact q | exact hq _ _ _ q | skip
    rename_i a0
    obtain ⟨a, ds, e, h1, h2⟩ := lst_inv (d := .ref a0) (g := g1) (P := fun a ds => Q ds (fun g => g a = some (.lst ds)) g1) q
    cases e
    simp only [h1]
    exact hq _ _ _ h2
  · cases d <;> first | exact q.elim | skip
    · rename_i a0
      obtain ⟨a, ds, e, h1, h2⟩ := lst_inv (d := .ref a0) (g := g1) (P := fun a ds => ∀ J H' C', C.le C' → Rep X.K H' σ τ g1 C' → WalkM X.K J ds (fun g => g a = some (.lst ds)) C' → Q J H') q
      cases e
      obtain ⟨xs, e1, e2⟩ := R1.lst h1
      exact .inl ⟨a0, r.ref_inv, ⟨xs, SqL.of e1⟩, h2 _ H1 C (Bs.le_refl _) R1 walkM_list⟩
    · obtain ⟨p, xs, rfl, e1, e2⟩ := r.tup_inv
      exact .inr ⟨p, rfl, ⟨xs, SqT.of e1⟩, q _ H1 _ Bs.le_hold (R1.hold r) (walkM_tup rfl List.mem_cons_self)⟩
    · obtain ⟨p, xs, rfl, e1, e2⟩ := r.fl_inv
      exact .inl ⟨p, rfl, ⟨xs, e1.sq⟩, q _ H1 _ Bs.le_hold (R1.hold r) (walkM_fl rfl List.mem_cons_self)⟩
/-- pin the list at a -/
theorem Rep.pinL {K : PySem.W.Frag} {H : Hp} {σ : L2.St} {τ : MSt} {g : MH} {C : Bs} {a : Addr} {ds : List D} {xs : List V} (R : Rep K H σ τ g C) (h : H a = some (.lst xs)) (r : RVs K H ds xs) : Rep K H σ τ (gdel g a) ((C.pin a (.lst xs)).more (ds.zip xs)) :=
  Rep.more ⟨R.G.pin h, R.T⟩ r
theorem le_pinL {C : Bs} {a : Addr} {ds : List D} {xs : List V} : C.le ((C.pin a (.lst xs)).more (ds.zip xs)) := Bs.le_trans Bs.le_pin Bs.le_more
theorem walkM_pinL {K : PySem.W.Frag} {C : Bs} {a : Addr} {ds : List D} {xs : List V} (hl : xs.length = ds.length) : WalkM K (Itl K a) ds (fun _ => True) ((C.pin a (.lst xs)).more (ds.zip xs)) :=
  walkM_pin (xs := xs) List.mem_cons_self hl fun p hp => List.mem_append_left _ hp
theorem mi_tmp (h : ME X B e m) : MI X B tg e (iTmp m) := by
  refine ⟨fun τ g Q Q' hq q => h.mono _ _ _ _ (fun d g1 q => ?_) q, piImp (pi_seq h.run) fun σ H Q ⟨τ, g, C, hB, R, q⟩ => LE.seq h.mono hB R q fun d g1 v H1 q R1 r => ?_⟩
  · obtain ⟨a, ds, rfl, h1, h2⟩ := lst_inv (P := fun a ds => Q ds (fun _ => True) (gdel g1 a)) q
    simp only [h1]
    exact hq _ _ _ h2
  · obtain ⟨a, ds, rfl, h1, h2⟩ := lst_inv (P := fun a ds => ∀ J H' C', C.le C' → Rep X.K H' σ τ (gdel g1 a) C' → WalkM X.K J ds (fun _ => True) C' → Q J H') q
    obtain ⟨xs, e1, e2⟩ := R1.lst h1
    exact .inl ⟨a, r.ref_inv, ⟨xs, SqL.of e1⟩, h2 _ H1 _ le_pinL (R1.pinL e1 e2) (walkM_pinL e2.length)⟩
theorem mi_range (hm : X.mg "range" = none) (h : ME X B e m) (hg : Gl X "range" := by rfl) (hs : starEach [e] X.env = [(false, eval e X.env)] := by rfl) : MI X B tg (.Call (.Name "range" p) [e] [] pos) (iRange1 m) := by
  have ha : PA X [e] (tCons (LE X.K B m) tNil) := pa_cons h.run pa_nil hs
  refine ⟨fun τ g Q Q' hq q => h.mono _ _ _ _ (fun d g1 q => ?_) q, piImp (pi_range1 hg hm ha hs) fun σ H Q ⟨τ, g, C, hB, R, q⟩ => ?_⟩
  · cases d <;> first | exact q | exact ⟨q.1, q.2.1, hq _ _ _ q.2.2⟩
  · refine LE.seq h.mono hB R q fun d g1 v H1 q R1 r => ?_
    cases d <;> first | exact q.elim | skip
    rename_i n
    obtain ⟨h0, h1, q⟩ := q
    exact ⟨n, by rw [r.int_inv], by omega, by omega, q _ H1 C (Bs.le_refl _) R1 walkM_range⟩
theorem mi_enum {elts : List Expr} {kk : Nat} {tpos : Pos} (hm : X.mg "enumerate" = none) (h : ME X B e m) (hg : Gl X "enumerate" := by rfl) (hs : starEach [e] X.env = [(false, eval e X.env)] := by rfl) : MI X B (.Tuple elts kk tpos) (.Call (.Name "enumerate" p) [e] [] pos) (iEnumM m) := by
  have ha : PA X [e] (tCons (LE X.K B m) tNil) := pa_cons h.run pa_nil hs
  refine ⟨fun τ g Q Q' hq q => h.mono _ _ _ _ (fun d g1 q => ?_) q, piImp (pi_enum hg hm ha hs) fun σ H Q ⟨τ, g, C, hB, R, q⟩ => LE.seq h.mono hB R q fun d g1 v H1 q R1 r => ?_⟩
  · obtain ⟨a, ds, rfl, h1, h2⟩ := lst_inv (P := fun a ds => Q (enumD ds) (fun g => g a = some (.lst ds)) g1) q
    simp only [h1]
    exact hq _ _ _ h2
  · obtain ⟨a, ds, rfl, h1, h2⟩ := lst_inv (P := fun a ds => ∀ J H' C', C.le C' → Rep X.K H' σ τ g1 C' → WalkM X.K J (enumD ds) (fun g => g a = some (.lst ds)) C' → Q J H') q
    obtain ⟨xs, e1, e2⟩ := R1.lst h1
    refine ⟨a, xs, by rw [r.ref_inv], SqL.of e1, h2 _ H1 C (Bs.le_refl _) R1 (walkM_enum walkM_list fun H ⟨g, R, e⟩ => ?_)⟩
    obtain ⟨xs, h1, h2⟩ := R.g a _ e
    exact ⟨xs, SqL.of h1, h2⟩
theorem mi_enumTmp {elts : List Expr} {kk : Nat} {tpos : Pos} (hm : X.mg "enumerate" = none) (h : ME X B e m) (hg : Gl X "enumerate" := by rfl) (hs : starEach [e] X.env = [(false, eval e X.env)] := by rfl) : MI X B (.Tuple elts kk tpos) (.Call (.Name "enumerate" p) [e] [] pos) (iEnumTmp m) := by
  have ha : PA X [e] (tCons (LE X.K B m) tNil) := pa_cons h.run pa_nil hs
  refine ⟨fun τ g Q Q' hq q => h.mono _ _ _ _ (fun d g1 q => ?_) q, piImp (pi_enum hg hm ha hs) fun σ H Q ⟨τ, g, C, hB, R, q⟩ => LE.seq h.mono hB R q fun d g1 v H1 q R1 r => ?_⟩
  · obtain ⟨a, ds, rfl, h1, h2⟩ := lst_inv (P := fun a ds => Q (enumD ds) (fun _ => True) (gdel g1 a)) q
    simp only [h1]
    exact hq _ _ _ h2
  · obtain ⟨a, ds, rfl, h1, h2⟩ := lst_inv (P := fun a ds => ∀ J H' C', C.le C' → Rep X.K H' σ τ (gdel g1 a) C' → WalkM X.K J (enumD ds) (fun _ => True) C' → Q J H') q
    obtain ⟨xs, e1, e2⟩ := R1.lst h1
    refine ⟨a, xs, by rw [r.ref_inv], SqL.of e1, h2 _ H1 _ le_pinL (R1.pinL e1 e2) (walkM_enum (walkM_pinL e2.length) fun H ⟨g, R, _⟩ => ⟨xs, SqL.of (R.p _ List.mem_cons_self).1, of_more e2.length fun p hp => R.h p (List.mem_append_left _ hp)⟩)⟩
end

/-! ### for, while -/
def mFor (mi : TIM) (t : TGM) (mb : TSM) : TSM := fun E τ g => mi τ g fun ds St g1 => ∃ W : Nat → MSt → MH → Prop, (∃ g2, Le g2 g1 ∧ W 0 τ g2) ∧ (∀ i τ g, i ≤ ds.length → W i τ g → St g) ∧
  (∀ i d τ g, ds[i]? = some d → W i τ g → t d τ g fun τ2 g2 => mb { E with nx := fun τ' g' => ∃ g3, Le g3 g' ∧ W (i + 1) τ' g3, ct := fun τ' g' => ∃ g3, Le g3 g' ∧ W (i + 1) τ' g3, bk := E.nx } τ2 g2) ∧
  ∀ τ g, W ds.length τ g → E.nx τ g
def mWhile (t : TTM) (mb : TSM) : TSM := fun E τ g => ∃ W : Nat → MSt → MH → Prop, (∃ m g2, Le g2 g ∧ W m τ g2) ∧ ∀ m τ g, W m τ g → t τ g fun b g1 => if b = true then
  mb { E with nx := fun τ' g' => ∃ m' g3, m' < m ∧ Le g3 g' ∧ W m' τ' g3, ct := fun τ' g' => ∃ m' g3, m' < m ∧ Le g3 g' ∧ W m' τ' g3, bk := E.nx } τ g1 else E.nx τ g1
section
variable {X : Cx} {B : Bs} {tg iter c : Expr} {mi : TIM} {is : List Nat} {t : TGM} {mb : TSM} {body : List Stmt} {pos : Pos}
theorem ms_for (hp : PassesOwn (model X.prog X.w) X.A X.env X.xe) (hc : X.calm = true) (hi : MI X B tg iter mi) (hg : MG X B tg is t) (hb : MSs X B body mb) (hs : ∀ x, foldedSetIterable iter X.env x = pure x := by intro _; rfl) : MS X B (.For tg iter body [] pos) (mFor mi t mb) := by
  refine ⟨fun A D τ g hl q => hi.mono _ _ _ _ (fun ds St g1 ⟨W, h0, h1, h2, h3⟩ => ⟨W, h0, h1, fun i d τ g e w => hg.mono _ _ _ _ _ (fun τ g q => by refine hb.mono _ _ _ _ ?_ q; exact ⟨fun _ _ q => q, hl.rt, hl.nx, fun _ _ q => q⟩) (h2 i d τ g e w), fun τ g w => hl.nx _ _ (h3 τ g w)⟩) q, psImp (ps_for hp hc hi.run hg.run hb.run hs) fun E σ H ⟨τ, g, C, hB, R, q⟩ => ?_⟩
  refine ⟨τ, g, C, hB, R, hi.mono _ _ _ _ (fun ds St g1 ⟨W, ⟨g2, l2, w0⟩, h1, h2, h3⟩ J H1 C' hC R1 wk => ?_) q⟩
  refine for_it wk (Pv := fun i σ H => ∃ τ g, Rep X.K H σ τ g C' ∧ W i τ g) ⟨τ, g2, R1.drop l2, w0⟩ (fun i σ H hi ⟨τ, g, R, w⟩ => ⟨g, R.G, h1 i τ g hi w⟩) (fun i x σ H H' hi ⟨τ, g, R, w⟩ ⟨d, hd, r, tk, ke⟩ => ?_) fun σ H ⟨τ, g, R, w⟩ => h3 τ g w σ H (R.sub hC)
  refine ⟨d, τ, g, C', Bs.le_trans hB hC, R.ext tk ke, r, hg.mono _ _ _ _ _ (fun τ2 g2 q σ2 H2 R2 _ => ?_) (h2 i d τ g hd w)⟩
  exact LS.seq hb.mono (Bs.le_trans hB hC) R2 q ⟨fun τ' g' ⟨g3, l3, w3⟩ σ' H' R' => ⟨τ', g3, R'.drop l3, w3⟩, fun d g q v H R r => q v H (R.sub hC) r, fun τ g q σ H R => q σ H (R.sub hC), fun τ' g' ⟨g3, l3, w3⟩ σ' H' R' => ⟨τ', g3, R'.drop l3, w3⟩⟩
theorem ms_while {tt : TTM} (hp : PassesOwn (model X.prog X.w) X.A X.env X.xe) (hc : MT X B c tt) (hb : MSs X B body mb) : MS X B (.While c body [] pos) (mWhile tt mb) := by
  refine ⟨fun A D τ g hl ⟨W, h0, h1⟩ => ⟨W, h0, fun m τ g w => hc.mono _ _ _ _ (fun b g q => ?_) (h1 m τ g w)⟩, psImp (ps_while hp hc.run hb.run) fun E σ H ⟨τ, g, C, hB, R, W, ⟨m0, g2, l2, w0⟩, h1⟩ => ?_⟩
  · split
    · rename_i e; rw [if_pos e] at q; refine hb.mono _ _ _ _ ?_ q; exact ⟨fun _ _ q => q, hl.rt, hl.nx, fun _ _ q => q⟩
    · rename_i e; rw [if_neg e] at q; exact hl.nx _ _ q
  · refine ⟨fun m σ H => ∃ τ g, Rep X.K H σ τ g C ∧ W m τ g, ⟨m0, τ, g2, R.drop l2, w0⟩, fun m σ H ⟨τ, g, R, w⟩ => LT.seq hc.mono hB R (h1 m τ g w) fun b g1 H1 q R1 => ?_⟩
    split
    · rename_i e
      rw [if_pos e] at q
      refine ⟨fun σ' H' => ∃ m', m' < m ∧ ∃ τ g, Rep X.K H' σ' τ g C ∧ W m' τ g, fun σ' H' ⟨m', lt, τ', g', R', w'⟩ => ⟨m', lt, τ', g', R', w'⟩, LS.seq hb.mono hB R1 q ⟨?_, fun _ _ q => q, fun _ _ q => q, ?_⟩⟩
      · rintro τ' g' ⟨m', g3, lt, l3, w3⟩ σ' H' R'
        exact ⟨m', lt, τ', g3, R'.drop l3, w3⟩
      · rintro τ' g' ⟨m', g3, lt, l3, w3⟩ σ' H' R'
        exact ⟨m', lt, τ', g3, R'.drop l3, w3⟩
    · rename_i e
      rw [if_neg e] at q
      exact q σ H1 R1
end
end M

namespace M
open PySem L2

/-! ### list comprehensions -/
def wipeM (τ : MSt) : List Nat → MSt
  | [] => τ
  | v :: vs => (wipeM τ vs).set v none
theorem wipeM_some {τ : MSt} {i : Nat} {x : D} : ∀ {vs : List Nat}, (wipeM τ vs)[i]? = some (some x) → τ[i]? = some (some x) ∧ i ∉ vs
  | [], h => ⟨h, by simp⟩
  | v :: vs, h => by
    unfold wipeM at h
    by_cases hi : v = i
    · subst hi
      by_cases hv : v < (wipeM τ vs).length
      · rw [List.getElem?_set_self hv] at h; cases h
      · rw [List.getElem?_eq_none (by simpa using hv)] at h; cases h
    · rw [List.getElem?_set_ne hi] at h
      obtain ⟨h1, h2⟩ := wipeM_some h
      exact ⟨h1, by simp only [List.mem_cons, not_or]; exact ⟨fun e => hi e.symm, h2⟩⟩
theorem wipeM_length (τ : MSt) : ∀ vs : List Nat, (wipeM τ vs).length = τ.length
  | [] => rfl
  | v :: vs => by unfold wipeM; rw [List.length_set, wipeM_length τ vs]
theorem RepT.wipe {K : PySem.W.Frag} {H : Hp} {σ : L2.St} {τ : MSt} (R : RepT K H σ τ) (vs : List Nat) : RepT K H (wipe σ vs) (wipeM τ vs) := by
  refine ⟨fun i d e => ?_, by rw [wipeM_length, wipe_length, R.len]⟩
  obtain ⟨h1, h2⟩ := wipeM_some e
  obtain ⟨v, h3, h4⟩ := R.t i d h1
  exact ⟨v, by rw [wipe_out h2]; exact h3, h4⟩
theorem wipe_in {σ : L2.St} {i : Nat} : ∀ {vs : List Nat}, i ∈ vs → i < σ.length → (wipe σ vs)[i]? = some none
  | [], h, _ => by simp at h
  | v :: vs, h, hl => by
    unfold wipe
    by_cases e : v = i
    · subst e
      rw [List.getElem?_set_self (by rw [wipe_length]; exact hl)]
    · rw [List.getElem?_set_ne e]
      exact wipe_in (by rcases List.mem_cons.mp h with z | z; exact absurd z.symm e; exact z) hl
theorem wipe_same {σ σ' : L2.St} {vs : List Nat} (h : same vs (wipe σ vs) σ') : wipe σ' vs = wipe σ vs := by
  apply List.ext_getElem?
  intro i
  have hl : σ'.length = σ.length := by rw [h.1, wipe_length]
  by_cases hi : i ∈ vs
  · by_cases hlt : i < σ.length
    · rw [wipe_in hi hlt, wipe_in hi (by omega)]
    · rw [List.getElem?_eq_none (by rw [wipe_length]; omega), List.getElem?_eq_none (by rw [wipe_length]; omega)]
  · rw [wipe_out hi, h.2 i hi, wipe_out hi]
/-- [e for t in it if c]: W by the turn and what was made so far -/
def mLc (mi : TIM) (t : TGM) (mt : TTM) (me : TEM) (vs : List Nat) : TEM := fun τ g Q => mi τ g fun ds St g1 => ds.length ≤ 10000 ∧ ∃ W : Nat → List D → MH → Prop, (∃ g2, Le g2 g1 ∧ W 0 [] g2) ∧ (∀ i acc g, i ≤ ds.length → W i acc g → St g) ∧
  (∀ i d acc g, ds[i]? = some d → W i acc g → t d (wipeM τ vs) g fun τ2 g2 => mt τ2 g2 fun b g3 => if b = true then me τ2 g3 fun y g4 => ∃ g5, Le g5 g4 ∧ W (i + 1) (acc ++ [y]) g5 else ∃ g5, Le g5 g3 ∧ W (i + 1) acc g5) ∧
  ∀ acc g, W ds.length acc g → ∀ p, g p = none → Q (.ref p) (gup g p (.lst acc))
/-- the tests of a comprehension -/
structure MTs (X : Cx) (B : Bs) (ifs : List Expr) (m : TTM) : Prop where
  mono : MonoT m
  run : PTs X ifs (LT X.K B m)
theorem ptsImp {X : Cx} {e : List Expr} {t t' : TT} (h : PTs X e t) (i : ∀ σ H Q, t' σ H Q → t σ H Q) : PTs X e t' := ⟨fun pins s σ H Q I q => h.run pins s σ H Q I (i σ H Q q)⟩
def mYes : TTM := fun _ g Q => Q true g
section
variable {X : Cx} {B : Bs}
theorem mts_nil : MTs X B [] mYes := ⟨fun _ _ _ _ h q => h _ _ q, ptsImp pts_nil fun σ H Q ⟨τ, g, C, hB, R, q⟩ => q H R⟩
theorem mts_one {c : Expr} {m : TTM} (h : MT X B c m) : MTs X B [c] m := ⟨h.mono, pts_one h.run⟩
end
section
variable {K : PySem.W.Frag} {H H' : Hp} {σ : L2.St} {τ : MSt} {g : MH} {C : Bs} {a : Addr}
/-- the pinned object changes -/
theorem RepG.repin {o u : HO} {l : List (D × V)} (R : RepG K H g ((C.pin a o).more l)) (hw : Wr o = true) (hn : ∀ q ∈ C.ps, q.1 ≠ a) : RepG K (upd H a u) g ((C.pin a u).more l) := by
  have ha : H a = some o := (R.p (a, o) List.mem_cons_self).1
  have hg : g a = none := (R.p (a, o) List.mem_cons_self).2
  have t : Tk H (upd H a u) := Tk.write ha hw
  refine ⟨fun b x e => (R.g b x e).keep t fun v q => by rw [upd_ne (gne e hg)]; exact q, fun p hp => RV.mono t _ _ (R.h p hp), fun q hq => ?_⟩
  rcases List.mem_cons.mp hq with rfl | hq
  · exact ⟨upd_same, hg⟩
  · rw [upd_ne (hn q hq)]
    exact R.p q (List.mem_cons_of_mem _ hq)
theorem RepT.again (R : RepT K H σ τ) (h : ∀ p ∈ slp τ σ, RV K H' p.1 p.2) : RepT K H' σ τ := ⟨fun i d e => by
  obtain ⟨v, h1, h2⟩ := R.t i d e
  exact ⟨v, h1, h (d, v) (slp_get e h1)⟩, R.len⟩
end
section
variable {X : Cx} {B : Bs} {elt tg iter : Expr} {ifs : List Expr} {scope : Scope} {own : List (Str × Nat)} {pos : Pos} {mi : TIM} {is : List Nat} {t : TGM} {mt : TTM} {me : TEM}
/-- what a comprehension's block keeps to -/
theorem lc_data (hi : MI X B tg iter mi) (hg : ∀ d τ g (Q Q' : MSt → MH → Prop), (∀ τ g, Q τ g → Q' τ g) → t d τ g Q → t d τ g Q') (his : ∀ i ∈ is, i ∈ own.map (·.2)) (hmt : MonoT mt) (hme : MonoE me) {σ : L2.St} {H : Hp} {Q : VK}
    (q : LE X.K B (mLc mi t mt me (own.map (·.2))) σ H Q) : tLc (LI X.K B mi) (LG X.K B is t) (LT X.K B mt) (LE X.K B me) (own.map (·.2)) σ H Q := by
  obtain ⟨τ, g, C, hB, R, q⟩ := q
  refine ⟨τ, g, C, hB, R, hi.mono _ _ _ _ (fun ds St g1 ⟨hlen, W, ⟨g2, l2, w0⟩, h1, h2, h3⟩ J H1 C' hC R1 wk Dd hD => ?_) q⟩
  have hn : ∀ q ∈ (C'.more (slp τ σ)).ps, q.1 ≠ Dd := fun q hq => ne_of_none (R1.G.p q hq).1 hD
  have hBC : ∀ xs l, B.le (((C'.more (slp τ σ)).pin Dd (.lst xs)).more l) := fun xs l => Bs.le_trans hB (Bs.le_trans hC (Bs.le_trans Bs.le_more (Bs.le_trans Bs.le_pin Bs.le_more)))
  have hCC : ∀ xs l, C'.le (((C'.more (slp τ σ)).pin Dd (.lst xs)).more l) := fun xs l => Bs.le_trans Bs.le_more (Bs.le_trans Bs.le_pin Bs.le_more)
  have slots : ∀ {H g xs l}, RepG X.K H g (((C'.more (slp τ σ)).pin Dd (.lst xs)).more l) → RepT X.K H σ τ := fun R => R1.T.again fun p hp => R.h p (List.mem_append_right _ (List.mem_append_left _ hp))
  refine lc_it wk (Pv := fun i H => ∃ acc xs g, acc.length ≤ i ∧ xs.length = acc.length ∧ RepG X.K H g (((C'.more (slp τ σ)).pin Dd (.lst xs)).more (acc.zip xs)) ∧ W i acc g) ⟨[], [], g2, Nat.le_refl _, rfl, ?_, w0⟩ (fun i H hi ⟨acc, xs, g, _, _, R, w⟩ => ⟨g, R.sub (hCC _ _), h1 i acc g hi w⟩)
    (fun i x H H' hi ⟨acc, xs, g, hal, hl, R, w⟩ ⟨d, hd, r, tk, ke⟩ => ?_) fun H ⟨acc, xs, g, _, hl, R, w⟩ => ?_
  · have R2 := ((R1.drop l2).slots).lay (o := .lst []) hD
    refine ⟨R2.g, R2.h, fun q hq => ?_⟩
    rcases List.mem_cons.mp hq with rfl | hq
    · exact ⟨upd_same, l2.none (R1.fresh hD)⟩
    · exact R2.p q hq
  · have Re := R.ext tk ke
    refine ⟨d, wipeM τ (own.map (·.2)), g, _, hBC _ _, ⟨Re, (slots Re).wipe _⟩, r, hg _ _ _ _ _ (fun τ2 g2 q σ2 H2 R2 sm => ⟨wipe_same (sm.mono his), ?_⟩) (h2 i d acc g hd w)⟩
    refine LT.seq hmt (hBC _ _) R2 q fun b g3 H3 q R3 => ?_
    split
    · rename_i e
      rw [if_pos e] at q
      refine LE.seq hme (hBC _ _) R3 q fun y g4 v H4 ⟨g5, l5, w5⟩ R4 r4 => ⟨xs, (R4.G.p _ List.mem_cons_self).1, szl (by omega), acc ++ [y], xs ++ [v], g5, ?_, ?_, ?_, w5⟩
      · rw [List.length_append, List.length_singleton]; omega
      · rw [List.length_append, List.length_append, hl]; rfl
      · have R5 := (R4.G.drop l5).repin (u := .lst (xs ++ [v])) rfl hn
        refine ⟨R5.g, fun p hp => ?_, R5.p⟩
        rcases List.mem_append.mp hp with hp | hp
        · rw [List.zip_append hl.symm] at hp
          rcases List.mem_append.mp hp with hp | hp
          · exact R5.h p (List.mem_append_left _ hp)
          · rw [List.mem_singleton.mp hp]
            exact RV.mono (Tk.write (R4.G.p _ List.mem_cons_self).1 rfl) _ _ r4
        · exact R5.h p (List.mem_append_right _ hp)
    · rename_i e
      rw [if_neg e] at q
      obtain ⟨g5, l5, w5⟩ := q
      exact ⟨acc, xs, g5, by omega, hl, R3.G.drop l5, w5⟩
  · have hp := R.p _ List.mem_cons_self
    have rv : RVs X.K H acc xs := of_more hl fun p hp => R.h p (List.mem_append_left _ hp)
    refine h3 acc g w Dd hp.2 _ H ⟨⟨fun b o e => ?_, fun p hq => R.h p ((Bs.le_trans hC (hCC _ _)).1 p hq), fun q hq => ?_⟩, slots R⟩ RV.ref
    · by_cases hb : b = Dd
      · subst hb; rw [gup_same] at e; cases e; exact ⟨xs, hp.1, rv⟩
      · rw [gup_ne hb] at e; exact R.g b o e
    · have hq' := R.p q ((Bs.le_trans hC (hCC _ _)).2 q hq)
      rw [gup_ne (hn q (hC.2 q hq))]
      exact hq'
theorem mono_lc (hi : MI X B tg iter mi) (hg : ∀ d τ g (Q Q' : MSt → MH → Prop), (∀ τ g, Q τ g → Q' τ g) → t d τ g Q → t d τ g Q') {vs : List Nat} : MonoE (mLc mi t mt me vs) := fun τ g Q Q' hq q =>
  hi.mono _ _ _ _ (fun ds St g1 ⟨hlen, W, h0, h1, h2, h3⟩ => ⟨hlen, W, h0, h1, h2, fun acc g w p hp => hq _ _ (h3 acc g w p hp)⟩) q
/-- a comprehension as a value -/
theorem me_lc (own : List (Str × Nat)) (hc : X.calm = true) (hN : X.N.Nodup) (hi : MI X B tg iter mi) (ok : blkC X.N X.env.scope scope own = true)
    (hg : ∀ (s : Shared) (H : Hp) (C : Addr) (cl : List (Str × Addr)) (fp : List Addr), MG (X.blk s H scope (compEnvC scope cl C X.env) fp) B tg is t) (ht : ∀ (s : Shared) (H : Hp) (C : Addr) (cl : List (Str × Addr)) (fp : List Addr), MTs (X.blk s H scope (compEnvC scope cl C X.env) fp) B ifs mt)
    (he : ∀ (s : Shared) (H : Hp) (C : Addr) (cl : List (Str × Addr)) (fp : List Addr), ME (X.blk s H scope (compEnvC scope cl C X.env) fp) B elt me) (his : ∀ i ∈ is, i ∈ own.map (·.2) := by decide) (hs : ∀ x, foldedSetIterable iter X.env x = pure x := by intro _; rfl) :
    ME X B (.ListComp elt [⟨tg, iter, ifs, 0⟩] scope pos) (mLc mi t mt me (own.map (·.2))) := by
  have m1 := (hg X.s_0 X.H_0 0 [] []).mono
  have m2 := (ht X.s_0 X.H_0 0 [] []).mono
  have m3 := (he X.s_0 X.H_0 0 [] []).mono
  exact ⟨mono_lc hi m1, peImp (pe_lc hc hN hi.run (blkOk_by ok) (fun a b c d e => (hg a b c d e).run) (fun a b c d e => (ht a b c d e).run) (fun a b c d e => (he a b c d e).run) hs) fun σ H Q q => lc_data hi m1 his m2 m3 q⟩
/-- name = [..], the name a local -/
theorem ms_setLc (i : Nat) {y : Str} {py spos : Pos} (own : List (Str × Nat)) (hc : X.calm = true) (hN : X.N.Nodup) (hi : MI X B tg iter mi) (ok : blkC X.N X.env.scope scope own = true)
    (hg : ∀ (s : Shared) (H : Hp) (C : Addr) (cl : List (Str × Addr)) (fp : List Addr), MG (X.blk s H scope (compEnvC scope cl C X.env) fp) B tg is t) (ht : ∀ (s : Shared) (H : Hp) (C : Addr) (cl : List (Str × Addr)) (fp : List Addr), MTs (X.blk s H scope (compEnvC scope cl C X.env) fp) B ifs mt)
    (he : ∀ (s : Shared) (H : Hp) (C : Addr) (cl : List (Str × Addr)) (fp : List Addr), ME (X.blk s H scope (compEnvC scope cl C X.env) fp) B elt me) (his : ∀ i ∈ is, i ∈ own.map (·.2) := by decide)
    (hy : X.N[i]? = some y := by rfl) (hyl : X.env.scope.names.lookup y = some .local := by rfl) (hsw : swapsWith (.ListComp elt [⟨tg, iter, ifs, 0⟩] scope pos) (some (.Name y py)) spos.line X.env = pure true := by exact sw_true rfl rfl rfl (by decide +kernel))
    (hs : ∀ x, foldedSetIterable iter X.env x = pure x := by intro _; rfl) :
    MS X B (.Assign [.Name y py] (.ListComp elt [⟨tg, iter, ifs, 0⟩] scope pos) spos) (mSet i (mLc mi t mt me (own.map (·.2)))) := by
  have m1 := (hg X.s_0 X.H_0 0 [] []).mono
  have m2 := (ht X.s_0 X.H_0 0 [] []).mono
  have m3 := (he X.s_0 X.H_0 0 [] []).mono
  have mo : MonoE (mLc mi t mt me (own.map (·.2))) := mono_lc hi m1
  refine ⟨fun A B τ g hl q => mo _ _ _ _ (fun d g q => hl.nx _ _ q) q, psImp (ps_setLc (g := LG X.K B is t) (tt := LT X.K B mt) (te := LE X.K B me) hc hN hy hyl hsw hi.run (blkOk_by ok) (fun a b c d e => (hg a b c d e).run) (fun a b c d e => (ht a b c d e).run) (fun a b c d e => (he a b c d e).run) hs) fun E σ H ⟨τ, g, C, hB, R, q⟩ => ?_⟩
  refine lc_data hi m1 his m2 m3 (LE.seq mo hB R q fun d g1 v H1 q R1 r => ?_)
  exact q _ H1 (R1.set r)
end
end M

namespace M
open PySem L2

/-! ### built-in calls by values -/
abbrev RCM := List D → MH → MVK → Prop
structure CalS (K : PySem.W.Frag) (r : List V → Hp → VK → Prop) (rm : RCM) : Prop where
  mono : ∀ ds g (Q Q' : MVK), (∀ d g, Q d g → Q' d g) → rm ds g Q → rm ds g Q'
  run : ∀ {H : Hp} {σ : L2.St} {τ : MSt} {g : MH} {C : Bs} {ds : List D} {vs : List V} {Q : VK}, Rep K H σ τ g C → RVs K H ds vs → rm ds g (fun d g' => ∀ v H', Rep K H' σ τ g' C → RV K H' d v → Q v H') → r vs H Q
def mCB (r : RCM) (ms : TAM) : TEM := fun τ g Q => ms τ g fun ds g1 => r ds g1 Q
section
variable {X : Cx} {B : Bs} {x : Str} {p pos : Pos} {e o : Expr} {es : List Expr} {ms : TAM} {r r' : List V → Hp → VK → Prop} {rm : RCM} {id T : String}
theorem callOr {f : Value} (h : CallR X f r) (h' : CallR X f r') : CallR X f fun xs H Q => r xs H Q ∨ r' xs H Q := fun pins s σ H xs us Q I rx q => q.elim (h pins s σ H xs us Q I rx) (h' pins s σ H xs us Q I rx)
theorem mono_cb (hs : CalS X.K r rm) (h : MonoA ms) : MonoE (mCB rm ms) := fun τ g Q Q' hq q => h _ _ _ _ (fun ds g1 q => hs.mono _ _ _ _ hq q) q
theorem me_callB (hc : CallR X (.builtin id) r) (hs : CalS X.K r rm) (hm : X.mg x = none) (hv : bootBuiltins x = some (.builtin id)) (ha : MA X B (e :: es) ms) (hg : Gl X x := by rfl) (hn : x ≠ "__name__" := by decide) (hdb : (x == ("__debug__" : Str)) = false := by decide)
    (h1 : starEach (e :: es) X.env = (false, eval e X.env) :: starEach es X.env := by rfl) (h2 : (backTo pos (starEach es X.env)).any (·.1) = false := by rfl) : ME X B (.Call (.Name x p) (e :: es) [] pos) (mCB rm ms) :=
  ⟨mono_cb hs ha.mono, peImp (pe_callB hc hg hm hv ha.run hn hdb h1 h2) fun σ H Q ⟨τ, g, C, hB, R, q⟩ => LA.seq ha.mono hB R q fun ds g1 vs H1 q R1 r => hs.run R1 r q⟩
theorem me_callTy (hc : CallR X (.type T) r) (hs : CalS X.K r rm) (hm : X.mg x = none) (hv : bootBuiltins x = some (.type T)) (ha : MA X B (e :: es) ms) (hg : Gl X x := by rfl) (hn : x ≠ "__name__" := by decide) (hdb : (x == ("__debug__" : Str)) = false := by decide)
    (h1 : starEach (e :: es) X.env = (false, eval e X.env) :: starEach es X.env := by rfl) (h2 : (backTo pos (starEach es X.env)).any (·.1) = false := by rfl) : ME X B (.Call (.Name x p) (e :: es) [] pos) (mCB rm ms) :=
  ⟨mono_cb hs ha.mono, peImp (pe_callTy hc hg hm hv ha.run hn hdb h1 h2) fun σ H Q ⟨τ, g, C, hB, R, q⟩ => LA.seq ha.mono hB R q fun ds g1 vs H1 q R1 r => hs.run R1 r q⟩
end
theorem RVs.one {K : PySem.W.Frag} {H : Hp} {d : D} {vs : List V} (h : RVs K H [d] vs) : ∃ v, vs = [v] ∧ RV K H d v := by
  obtain ⟨v, r, rfl, h1, h2⟩ := h.cons_inv
  rw [h2.nil_inv]; exact ⟨v, rfl, h1⟩
theorem RVs.two {K : PySem.W.Frag} {H : Hp} {d e : D} {vs : List V} (h : RVs K H [d, e] vs) : ∃ v w, vs = [v, w] ∧ RV K H d v ∧ RV K H e w := by
  obtain ⟨v, r, rfl, h1, h2⟩ := h.cons_inv
  obtain ⟨w, rfl, h3⟩ := h2.one
  exact ⟨v, w, rfl, h1, h3⟩
/-- a call of one argument: what it gives by its value -/
def r1 (f : MH → D → Option D) : RCM := fun ds g Q => match ds with
  | [d] => ∃ y, f g d = some y ∧ Q y g
  | _ => False
theorem r1_inv {f : MH → D → Option D} {ds : List D} {g : MH} {Q : MVK} (h : r1 f ds g Q) : ∃ d y, ds = [d] ∧ f g d = some y ∧ Q y g := by
  unfold r1 at h
  split at h
  · obtain ⟨y, h1, h2⟩ := h; exact ⟨_, y, rfl, h1, h2⟩
  · exact h.elim
theorem mono_r1 {f : MH → D → Option D} (ds : List D) (g : MH) (Q Q' : MVK) (h : ∀ d g, Q d g → Q' d g) (q : r1 f ds g Q) : r1 f ds g Q' := by
  obtain ⟨d, y, rfl, e, q⟩ := r1_inv q
  exact ⟨y, e, h _ _ q⟩
/-- len -/
def lenD (g : MH) : D → Option D
  | .tup ds => some (.int ds.length)
  | .fl ds => some (.int ds.length)
  | .str z => if z.length ≤ 100000 then some (.int z.length) else none
  | .ref a => match g a with
    | some (.lst ds) => some (.int ds.length)
    | some (.dk kvs) => some (.int kvs.length)
    | _ => none
  | _ => none
def rLenH (K : PySem.W.Frag) : List V → Hp → VK → Prop := fun xs H Q => (∃ x n, xs = [x] ∧ LenV K x H n ∧ Q (.int n) H) ∨ ∃ a kvs, xs = [V.ref a] ∧ H a = some (.dK kvs) ∧ Q (.int kvs.length) H
theorem cs_len {K : PySem.W.Frag} : CalS K (rLenH K) (r1 lenD) := ⟨mono_r1, fun {H σ τ g C ds vs Q} R rs q => by
  obtain ⟨d, y, rfl, e, q⟩ := r1_inv q
  obtain ⟨v, rfl, r⟩ := rs.one
  cases d with
  | tup ds =>
    cases e
    obtain ⟨p, xs, rfl, h1, h2⟩ := (RV.tup_inv r)
    exact .inl ⟨_, ds.length, rfl, .inr ⟨xs, SqT.of h1, h2.length.symm⟩, q _ H R RV.int⟩
  | fl ds =>
    cases e
    obtain ⟨p, xs, rfl, h1, h2⟩ := (RV.fl_inv r)
    exact .inl ⟨_, ds.length, rfl, .inl ⟨xs, h1.sq, h2.length.symm⟩, q _ H R RV.int⟩
  | str z =>
    have e : (if z.length ≤ 100000 then some (D.int z.length) else none) = some y := e
    split at e
    · cases e
      rename_i hz
      rw [(RV.str_inv r)]
      exact .inl ⟨_, z.length, rfl, ⟨szL hz, rfl⟩, q _ H R RV.int⟩
    · cases e
  | ref a =>
    rw [(RV.ref_inv r)]
    unfold lenD at e
    simp only at e
    split at e
    · rename_i ds z
      cases e
      obtain ⟨xs, h1, h2⟩ := R.lst z
      exact .inl ⟨_, ds.length, rfl, .inl ⟨xs, SqL.of h1, h2.length.symm⟩, q _ H R RV.int⟩
    · rename_i ds z
      cases e
      obtain ⟨xs, h1, h2⟩ := R.dk z
      exact .inr ⟨a, xs, rfl, h1, by rw [h2.length]; exact q _ H R RV.int⟩
    · cases e
  | _ => cases e⟩
/-- abs, int, list, tuple, all -/
def absD (_ : MH) : D → Option D
  | .int i => some (.int (if i < 0 then -i else i))
  | _ => none
def intD (_ : MH) : D → Option D
  | .int i => some (.int i)
  | .bl k => some (.int (if k then 1 else 0))
  | _ => none
def tupD (g : MH) : D → Option D
  | .tup ds => some (.tup ds)
  | .ref a => match g a with
    | some (.lst ds) => some (.tup ds)
    | _ => none
  | _ => none
theorem cs_abs {K : PySem.W.Frag} : CalS K (fun xs H Q => ∃ i, xs = [.int i] ∧ Q (.int (if i < 0 then -i else i)) H) (r1 absD) := ⟨mono_r1, fun {H σ τ g C ds vs Q} R rs q => by
  obtain ⟨d, y, rfl, e, q⟩ := r1_inv q
  obtain ⟨v, rfl, r⟩ := rs.one
  cases d <;> first | (cases e; done) | skip
  cases e
  exact ⟨_, by rw [(RV.int_inv r)], q _ H R RV.int⟩⟩
theorem cs_int {K : PySem.W.Frag} : CalS K (fun xs H Q => (∃ i, xs = [.int i] ∧ Q (.int i) H) ∨ ∃ k, xs = [.bl k] ∧ Q (.int (if k then 1 else 0)) H) (r1 intD) := ⟨mono_r1, fun {H σ τ g C ds vs Q} R rs q => by
  obtain ⟨d, y, rfl, e, q⟩ := r1_inv q
  obtain ⟨v, rfl, r⟩ := rs.one
  cases d <;> first | (cases e; done) | skip
  · cases e
    exact .inr ⟨_, by rw [(RV.bl_inv r)], q _ H R RV.int⟩
  · cases e
    exact .inl ⟨_, by rw [(RV.int_inv r)], q _ H R RV.int⟩⟩
theorem cs_tuple {K : PySem.W.Frag} : CalS K (fun xs H Q => ∃ p ys, xs = [.ref p] ∧ ((SqL K H p ys ∧ ∀ l, H l = none → Q (.ref l) (upd H l (.tup ys))) ∨ (SqT K H p ys ∧ Q (.ref p) H))) (r1 tupD) := ⟨mono_r1, fun {H σ τ g C ds vs Q} R rs q => by
  obtain ⟨d, y, rfl, e, q⟩ := r1_inv q
  obtain ⟨v, rfl, r⟩ := rs.one
  cases d with
  | tup ds =>
    cases e
    obtain ⟨p, xs, rfl, h1, h2⟩ := id (RV.tup_inv r)
    exact ⟨p, xs, rfl, .inr ⟨SqT.of h1, q _ H R r⟩⟩
  | ref a =>
    unfold tupD at e
    simp only at e
    split at e
    · rename_i ds z
      cases e
      obtain ⟨xs, h1, h2⟩ := R.lst z
      exact ⟨a, xs, by rw [(RV.ref_inv r)], .inl ⟨SqL.of h1, fun l hl => q _ _ (R.newT hl h2).1 (R.newT hl h2).2⟩⟩
    · cases e
  | _ => cases e⟩
/-- list(x) -/
def seqD (g : MH) : D → Option (List D)
  | .tup ds => some ds
  | .fl ds => some ds
  | .ref a => match g a with
    | some (.lst ds) => some ds
    | _ => none
  | _ => none
def rListM : RCM := fun ds g Q => match ds with
  | [d] => ∃ xs, seqD g d = some xs ∧ ∀ p, g p = none → Q (.ref p) (gup g p (.lst xs))
  | _ => False
theorem seqD_rv {K : PySem.W.Frag} {H : Hp} {σ : L2.St} {τ : MSt} {g : MH} {C : Bs} {d : D} {v : V} {xs : List D} (R : Rep K H σ τ g C) (r : RV K H d v) (e : seqD g d = some xs) : ∃ p ys, v = .ref p ∧ (SqL K H p ys ∨ SqT K H p ys) ∧ RVs K H xs ys := by
  cases d with
  | tup ds => cases e; obtain ⟨p, ys, rfl, h1, h2⟩ := (RV.tup_inv r); exact ⟨p, ys, rfl, .inr (SqT.of h1), h2⟩
  | fl ds => cases e; obtain ⟨p, ys, rfl, h1, h2⟩ := (RV.fl_inv r); exact ⟨p, ys, rfl, .inl h1.sq, h2⟩
  | ref a =>
    unfold seqD at e
    simp only at e
    split at e
    · rename_i ds z
      cases e
      obtain ⟨ys, h1, h2⟩ := R.lst z
      exact ⟨a, ys, (RV.ref_inv r), .inl (SqL.of h1), h2⟩
    · cases e
  | _ => cases e
theorem cs_list {K : PySem.W.Frag} : CalS K (fun xs H Q => ∃ p ys, xs = [.ref p] ∧ (SqL K H p ys ∨ SqT K H p ys) ∧ ∀ l, H l = none → Q (.ref l) (upd H l (.lst ys))) rListM := by
  refine ⟨fun ds g Q Q' h q => ?_, fun {H σ τ g C ds vs Q} R rs q => ?_⟩
  · match ds, q with
    | [d], ⟨xs, e, q⟩ => exact ⟨xs, e, fun p hp => h _ _ (q p hp)⟩
  · match ds, q with
    | [d], ⟨xs, e, q⟩ =>
      obtain ⟨v, rfl, r⟩ := rs.one
      obtain ⟨p, ys, rfl, h1, h2⟩ := seqD_rv R r e
      exact ⟨p, ys, rfl, h1, fun l hl => q l (R.fresh hl) _ _ (R.newL hl h2) RV.ref⟩
def blsOf : List D → Option (List Bool)
  | [] => some []
  | .bl b :: r => (blsOf r).map (b :: ·)
  | _ :: _ => none
theorem blsOf_rv {K : PySem.W.Frag} {H : Hp} : ∀ {ds : List D} {bs : List Bool} {vs : List V}, RVs K H ds vs → blsOf ds = some bs → vs = bs.map V.bl
  | [], bs, vs, r, e => by cases e; exact r.nil_inv
  | d :: ds, bs, vs, r, e => by
    obtain ⟨v, r', rfl, h1, h2⟩ := r.cons_inv
    cases d <;> first | (cases e; done) | skip
    rename_i b
    unfold blsOf at e
    cases z : blsOf ds with
    | none => rw [z] at e; cases e
    | some q => rw [z] at e; cases e; rw [h1.bl_inv, blsOf_rv h2 z]; rfl
def allD (g : MH) : D → Option D
  | .ref a => match g a with
    | some (.lst ds) => (blsOf ds).map fun bs => .bl (bs.all id)
    | _ => none
  | _ => none
theorem cs_all {K : PySem.W.Frag} : CalS K (rAll K) (r1 allD) := ⟨mono_r1, fun {H σ τ g C ds vs Q} R rs q => by
  obtain ⟨d, y, rfl, e, q⟩ := r1_inv q
  obtain ⟨v, rfl, r⟩ := rs.one
  cases d <;> first | (cases e; done) | skip
  rename_i a
  unfold allD at e
  simp only at e
  split at e
  · rename_i ds z
    obtain ⟨xs, h1, h2⟩ := R.lst z
    cases z2 : blsOf ds with
    | none => rw [z2] at e; cases e
    | some bs =>
      rw [z2] at e; cases e
      exact ⟨a, bs, by rw [(RV.ref_inv r)], by rw [← blsOf_rv h2 z2]; exact SqL.of h1, q _ H R RV.bl⟩
  · cases e⟩
/-- max, min of two numbers -/
def r2I (f : Int → Int → Int) : RCM := fun ds g Q => match ds with
  | [.int i, .int j] => Q (.int (f i j)) g
  | _ => False
theorem cs_2I {K : PySem.W.Frag} {f : Int → Int → Int} : CalS K (fun xs H Q => ∃ i j, xs = [.int i, .int j] ∧ Q (.int (f i j)) H) (r2I f) := by
  refine ⟨fun ds g Q Q' h q => ?_, fun {H σ τ g C ds vs Q} R rs q => ?_⟩
  · match ds, q with
    | [.int i, .int j], q => exact h _ _ q
  · match ds, q with
    | [.int i, .int j], q =>
      obtain ⟨v, w, rfl, r1, r2⟩ := rs.two
      exact ⟨i, j, by rw [(RV.int_inv r1), (RV.int_inv r2)], q _ H R RV.int⟩
/-- isinstance(x, T), T a built-in class; the kind of x -/
inductive Ty where
  | non | bl | int | str | tup | lst | dct
def tyOf (g : MH) : D → Option Ty
  | .non => some .non
  | .bl _ => some .bl
  | .int _ => some .int
  | .str _ => some .str
  | .tup _ => some .tup
  | .fl _ => none
  | .ty _ => none
  | .ref a => match g a with
    | some (.lst _) => some .lst
    | some (.dk _) => some .dct
    | some (.dt _) => some .dct
    | _ => none
def Ty.name : Ty → String
  | .non => "NoneType" | .bl => "bool" | .int => "int" | .str => "str" | .tup => "tuple" | .lst => "list" | .dct => "dict"
/-- T by its name -/
def isiD (T : String) (k : Ty → Bool) (g : MH) (x : D) : Option D := (tyOf g x).map fun t => .bl (k t)
def isI : Ty → Bool | .int => true | .bl => true | _ => false
def isB : Ty → Bool | .bl => true | _ => false
def isS : Ty → Bool | .str => true | _ => false
def isT : Ty → Bool | .tup => true | _ => false
def isL : Ty → Bool | .lst => true | _ => false
theorem kit_int : ∀ t : Ty, kitB t.name "int" = some (isI t) := by intro t; cases t <;> decide +kernel
theorem kit_bool : ∀ t : Ty, kitB t.name "bool" = some (isB t) := by intro t; cases t <;> decide +kernel
theorem kit_str : ∀ t : Ty, kitB t.name "str" = some (isS t) := by intro t; cases t <;> decide +kernel
theorem kit_tuple : ∀ t : Ty, kitB t.name "tuple" = some (isT t) := by intro t; cases t <;> decide +kernel
theorem kit_list : ∀ t : Ty, kitB t.name "list" = some (isL t) := by intro t; cases t <;> decide +kernel
theorem tyOf_rv {K : PySem.W.Frag} {H : Hp} {σ : L2.St} {τ : MSt} {g : MH} {C : Bs} {d : D} {v : V} {t : Ty} (R : Rep K H σ τ g C) (r : RV K H d v) (e : tyOf g d = some t) : TyX K H v (.type t.name) := by
  cases d with
  | non => cases e; rw [(RV.non_inv r)]; exact .base .non
  | bl b => cases e; rw [(RV.bl_inv r)]; exact .base (.bl b)
  | int b => cases e; rw [(RV.int_inv r)]; exact .base (.int b)
  | str b => cases e; rw [(RV.str_inv r)]; exact .base (.str b)
  | tup ds => cases e; obtain ⟨p, xs, rfl, h1, h2⟩ := (RV.tup_inv r); exact .base (.tup h1)
  | ref a =>
    rw [(RV.ref_inv r)]
    unfold tyOf at e
    simp only at e
    split at e
    · rename_i ds z; cases e; obtain ⟨xs, h1, h2⟩ := R.lst z; exact .base (.lst h1)
    · rename_i ds z; cases e; obtain ⟨xs, h1, h2⟩ := R.dk z; exact .base (.dK h1)
    · rename_i ds z; cases e; obtain ⟨xs, h1, h2⟩ := R.dt z; exact .base (.dT h1)
    · cases e
  | fl ds => cases e
  | ty n => cases e
def rIsiM (T : String) (k : Ty → Bool) : RCM := fun ds g Q => match ds with
  | [d, .ty n] => n = T ∧ ∃ t, tyOf g d = some t ∧ Q (.bl (k t)) g
  | _ => False
theorem cs_isi {K : PySem.W.Frag} {T : String} {k : Ty → Bool} (hk : ∀ t : Ty, kitB t.name T = some (k t)) : CalS K (rIsi K) (rIsiM T k) := by
  refine ⟨fun ds g Q Q' h q => ?_, fun {H σ τ g C ds vs Q} R rs q => ?_⟩
  · match ds, q with
    | [d, .ty n], ⟨e, t, e2, q⟩ => exact ⟨e, t, e2, h _ _ q⟩
  · match ds, q with
    | [d, .ty n], ⟨e, t, e2, q2⟩ =>
      subst e
      obtain ⟨v, w, rfl, r1, r2⟩ := rs.two
      exact ⟨v, w, _, .type n, k t, rfl, by rw [(RV.ty_inv r2)]; exact .ty n, tyOf_rv R r1 e2, kit_ty (hk t), q2 _ H R RV.bl⟩
section
variable {X : Cx} {B : Bs} {p pos : Pos} {e a b : Expr} {es : List Expr} {ms : TAM} {m ma mb : TEM}
theorem me_len (hm : X.mg "len" = none) (h : ME X B e m) (hg : Gl X "len" := by rfl) (hs : starEach [e] X.env = (false, eval e X.env) :: starEach [] X.env := by rfl) (h2 : (backTo pos (starEach [] X.env)).any (·.1) = false := by rfl) : ME X B (.Call (.Name "len" p) [e] [] pos) (mCB (r1 lenD) (mCons m mNil)) :=
  me_callB (r := rLenH X.K) (callOr call_len call_lenD) cs_len hm PySem.boot_len (ma_cons h ma_nil hs) hg (by decide) (by decide) hs h2
theorem me_abs (hm : X.mg "abs" = none) (h : ME X B e m) (hg : Gl X "abs" := by rfl) (hs : starEach [e] X.env = (false, eval e X.env) :: starEach [] X.env := by rfl) (h2 : (backTo pos (starEach [] X.env)).any (·.1) = false := by rfl) : ME X B (.Call (.Name "abs" p) [e] [] pos) (mCB (r1 absD) (mCons m mNil)) :=
  me_callB call_abs cs_abs hm (by decide +kernel) (ma_cons h ma_nil hs) hg (by decide) (by decide) hs h2
theorem me_all (hc : X.calm = true) (hm : X.mg "all" = none) (h : ME X B e m) (hg : Gl X "all" := by rfl) (hs : starEach [e] X.env = (false, eval e X.env) :: starEach [] X.env := by rfl) (h2 : (backTo pos (starEach [] X.env)).any (·.1) = false := by rfl) : ME X B (.Call (.Name "all" p) [e] [] pos) (mCB (r1 allD) (mCons m mNil)) :=
  me_callB (cr_all hc) cs_all hm (by decide +kernel) (ma_cons h ma_nil hs) hg (by decide) (by decide) hs h2
theorem me_intc (hm : X.mg "int" = none) (h : ME X B e m) (hg : Gl X "int" := by rfl) (hs : starEach [e] X.env = (false, eval e X.env) :: starEach [] X.env := by rfl) (h2 : (backTo pos (starEach [] X.env)).any (·.1) = false := by rfl) : ME X B (.Call (.Name "int" p) [e] [] pos) (mCB (r1 intD) (mCons m mNil)) :=
  me_callTy call_int1 cs_int hm (by decide +kernel) (ma_cons h ma_nil hs) hg (by decide) (by decide) hs h2
theorem me_tuplec (hm : X.mg "tuple" = none) (h : ME X B e m) (hg : Gl X "tuple" := by rfl) (hs : starEach [e] X.env = (false, eval e X.env) :: starEach [] X.env := by rfl) (h2 : (backTo pos (starEach [] X.env)).any (·.1) = false := by rfl) : ME X B (.Call (.Name "tuple" p) [e] [] pos) (mCB (r1 tupD) (mCons m mNil)) :=
  me_callTy call_tuple_of cs_tuple hm (by decide +kernel) (ma_cons h ma_nil hs) hg (by decide) (by decide) hs h2
theorem me_listc (hm : X.mg "list" = none) (h : ME X B e m) (hg : Gl X "list" := by rfl) (hs : starEach [e] X.env = (false, eval e X.env) :: starEach [] X.env := by rfl) (h2 : (backTo pos (starEach [] X.env)).any (·.1) = false := by rfl) : ME X B (.Call (.Name "list" p) [e] [] pos) (mCB rListM (mCons m mNil)) :=
  me_callTy call_list_of cs_list hm (by decide +kernel) (ma_cons h ma_nil hs) hg (by decide) (by decide) hs h2
/-- isinstance(e, T): T is named by a built-in class -/
theorem me_isi {T : String} {x : Str} {px : Pos} {k : Ty → Bool} (hk : ∀ t : Ty, kitB t.name T = some (k t)) (hm : X.mg "isinstance" = none) (hT : X.mg x = none) (hv : bootBuiltins x = some (.type T)) (h : ME X B e m) (hg : Gl X "isinstance" := by rfl) (hgT : Gl X x := by rfl)
    (hn : x ≠ "__name__" := by decide) (hd : (x == ("__debug__" : Str)) = false := by decide) (hs : starEach [e, .Name x px] X.env = (false, eval e X.env) :: starEach [.Name x px] X.env := by rfl) (hs' : starEach [.Name x px] X.env = (false, eval (.Name x px) X.env) :: starEach [] X.env := by rfl) (h2 : (backTo pos (starEach [.Name x px] X.env)).any (·.1) = false := by rfl) :
    ME X B (.Call (.Name "isinstance" p) [e, .Name x px] [] pos) (mCB (rIsiM T k) (mCons m (mCons (mC (.ty T)) mNil))) :=
  me_callB call_isi (cs_isi hk) hm (by decide +kernel) (ma_cons h (ma_cons (me_gty hgT hT hv hn hd) ma_nil hs') hs) hg (by decide) (by decide) hs h2
theorem me_max (hc : X.calm = true) (hm : X.mg "max" = none) (ha : ME X B a ma) (hb : ME X B b mb) (hg : Gl X "max" := by rfl) (hs : starEach [a, b] X.env = (false, eval a X.env) :: starEach [b] X.env := by rfl) (hs' : starEach [b] X.env = (false, eval b X.env) :: starEach [] X.env := by rfl) (h2 : (backTo pos (starEach [b] X.env)).any (·.1) = false := by rfl) :
    ME X B (.Call (.Name "max" p) [a, b] [] pos) (mCB (r2I fun i j => if j > i then j else i) (mCons ma (mCons mb mNil))) :=
  me_callB (call_max2 hc) cs_2I hm (by decide +kernel) (ma_cons ha (ma_cons hb ma_nil hs') hs) hg (by decide) (by decide) hs h2
end
end M

namespace M
open PySem L2

/-! ### methods of lists -/
abbrev RMM := D → List D → MH → MVK → Prop
structure MetS (K : PySem.W.Frag) (r : V → List V → Hp → VK → Prop) (rm : RMM) : Prop where
  mono : ∀ x ds g (Q Q' : MVK), (∀ d g, Q d g → Q' d g) → rm x ds g Q → rm x ds g Q'
  run : ∀ {H : Hp} {σ : L2.St} {τ : MSt} {g : MH} {C : Bs} {x : D} {v : V} {ds : List D} {vs : List V} {Q : VK}, Rep K H σ τ g C → RV K H x v → RVs K H ds vs → rm x ds g (fun d g' => ∀ v H', Rep K H' σ τ g' C → RV K H' d v → Q v H') → r v vs H Q
def isLst (g : MH) : D → Bool
  | .ref a => match g a with
    | some (.lst _) => true
    | _ => false
  | _ => false
def mBM (r : RMM) (mo : TEM) (ms : TAM) : TEM := fun τ g Q => mo τ g fun x g1 => isLst g1 x = true ∧ ms τ g1 fun ds g2 => r x ds g2 Q
theorem isLst_inv {g : MH} {x : D} (h : isLst g x = true) : ∃ a ds, x = .ref a ∧ g a = some (.lst ds) := by
  cases x <;> first | (cases h; done) | skip
  rename_i a
  unfold isLst at h
  simp only at h
  split at h
  · rename_i ds e; exact ⟨a, ds, rfl, e⟩
  · cases h
section
variable {X : Cx} {B : Bs} {name : Str} {apos cpos : Pos} {e o : Expr} {es : List Expr} {mo : TEM} {ms : TAM} {r : V → List V → Hp → VK → Prop} {rm : RMM} {id : String}
theorem mono_bm (hs : MetS X.K r rm) (ho : MonoE mo) (ha : MonoA ms) : MonoE (mBM rm mo ms) := fun τ g Q Q' hq q => ho _ _ _ _ (fun x g1 q => ⟨q.1, ha _ _ _ _ (fun ds g2 q => hs.mono _ _ _ _ _ hq q) q.2⟩) q
theorem me_bm (slot : Slot "list" name id) (hty : typeOf (.builtin id) = pure (.type "method_descriptor")) (hm : MtR X id r) (hs : MetS X.K r rm) (ho : ME X B o mo) (ha : MA X B (e :: es) ms)
    (hbase : attributeBase o name X.env (eval o X.env) = eval o X.env := by rfl)
    (hfew : ((backTo cpos (starEach (e :: es) X.env)).all (fun x => !x.1) && (backToKw cpos (keywordEach [] X.env)).all (fun x => x.1.isSome)
      && decide ((e :: es).length + ([] : List Keyword).length + (if ([] : List Keyword).isEmpty then 0 else 1) < 30)) = true := by rfl)
    (hline : (apos.endLine == cpos.line) = true := by rfl) (h1 : starEach (e :: es) X.env = (false, eval e X.env) :: starEach es X.env := by rfl) (h2 : (backTo cpos (starEach es X.env)).any (·.1) = false := by rfl) :
    ME X B (.Call (.Attribute o name apos) (e :: es) [] cpos) (mBM rm mo ms) :=
  ⟨mono_bm hs ho.mono ha.mono, peImp (pe_bm PySem.F.plainAttrs_list slot hty hm ho.run ha.run hbase hfew hline h1 h2) fun σ H Q ⟨τ, g, C, hB, R, q⟩ => LE.seq ho.mono hB R q fun x g1 v H1 q R1 r1 => by
    obtain ⟨a, ds, rfl, z⟩ := isLst_inv q.1
    obtain ⟨xs, e1, e2⟩ := R1.lst z
    have ev := RV.ref_inv r1
    subst ev
    refine ⟨.inl ⟨rfl, xs, SqL.of e1⟩, LA.seq ha.mono hB R1 q.2 fun ds g2 vs H2 q R2 r2 => hs.run R2 RV.ref r2 q⟩⟩
theorem me_bm0 (slot : Slot "list" name id) (hty : typeOf (.builtin id) = pure (.type "method_descriptor")) (hm : MtR X id r) (hs : MetS X.K r rm) (ho : ME X B o mo)
    (hbase : attributeBase o name X.env (eval o X.env) = eval o X.env := by rfl) (hline : (apos.endLine == cpos.line) = true := by rfl) :
    ME X B (.Call (.Attribute o name apos) [] [] cpos) (mBM rm mo mNil) :=
  ⟨mono_bm hs ho.mono (fun _ _ _ _ h q => h _ _ q), peImp (pe_bm0 PySem.F.plainAttrs_list slot hty hm ho.run hbase hline) fun σ H Q ⟨τ, g, C, hB, R, q⟩ => LE.seq ho.mono hB R q fun x g1 v H1 q R1 r1 => by
    obtain ⟨a, ds, rfl, z⟩ := isLst_inv q.1
    obtain ⟨xs, e1, e2⟩ := R1.lst z
    have ev := RV.ref_inv r1
    subst ev
    exact ⟨.inl ⟨rfl, xs, SqL.of e1⟩, hs.run R1 RV.ref RVs.nil q.2⟩⟩
end
/-- a method by what the list is -/
def onL (f : Addr → List D → List D → MH → MVK → Prop) : RMM := fun x ds g Q => match x with
  | .ref a => match g a with
    | some (.lst xs) => f a xs ds g Q
    | _ => False
  | _ => False
theorem onL_inv {f : Addr → List D → List D → MH → MVK → Prop} {x : D} {ds : List D} {g : MH} {Q : MVK} (h : onL f x ds g Q) : ∃ a xs, x = .ref a ∧ g a = some (.lst xs) ∧ f a xs ds g Q := by
  unfold onL at h
  exact lst_inv (P := fun a xs => f a xs ds g Q) h
theorem mono_onL {f : Addr → List D → List D → MH → MVK → Prop} (hf : ∀ a xs ds g (Q Q' : MVK), (∀ d g, Q d g → Q' d g) → f a xs ds g Q → f a xs ds g Q') (x : D) (ds : List D) (g : MH) (Q Q' : MVK) (h : ∀ d g, Q d g → Q' d g) (q : onL f x ds g Q) : onL f x ds g Q' := by
  obtain ⟨a, xs, rfl, e, q⟩ := onL_inv q
  unfold onL
  simp only [e]
  exact hf _ _ _ _ _ _ h q
def fApp : Addr → List D → List D → MH → MVK → Prop := fun a xs ds g Q => match ds with
  | [y] => xs.length < 100000 ∧ Q .non (gup g a (.lst (xs ++ [y])))
  | _ => False
def fPopAt : Addr → List D → List D → MH → MVK → Prop := fun a xs ds g Q => match ds with
  | [.int i] => ∃ k y, ixN xs.length i = some k ∧ xs[k]? = some y ∧ Q y (gup g a (.lst (xs.eraseIdx k)))
  | _ => False
def fPop : Addr → List D → List D → MH → MVK → Prop := fun a xs ds g Q => match ds with
  | [] => ∃ y, xs[xs.length - 1]? = some y ∧ Q y (gup g a (.lst xs.dropLast))
  | _ => False
def fRev : Addr → List D → List D → MH → MVK → Prop := fun a xs ds g Q => match ds with
  | [] => Q .non (gup g a (.lst xs.reverse))
  | _ => False
/-- index: the first place of an equal one -/
def fIndex : Addr → List D → List D → MH → MVK → Prop := fun a xs ds g Q => match ds with
  | [y] => ∃ d ps j z, pdat y = some d ∧ pdats xs = some ps ∧ SeqAt.shaped (.list ps) = true ∧ SeqAt.shaped d = true ∧ ps[j]? = some z ∧ PyData.eqv z d = true ∧ (∀ (m : Nat) (z' : PyData), m < j → ps[m]? = some z' → PyData.eqv z' d = false) ∧ Q (.int (j : Nat)) g
  | _ => False
theorem len63 {n : Nat} (h : n ≤ sizeLine) : (n : Int) < 2 ^ 63 := by have := line63; omega
section
variable {K : PySem.W.Frag}
theorem ms_app : MetS K rAppend (onL fApp) := ⟨mono_onL fun a xs ds g Q Q' h q => by
    match ds, q with
    | [y], q2 => exact ⟨q2.1, h _ _ q2.2⟩, fun {H σ τ g C x v ds vs Q} R r1 rs q => by
  obtain ⟨a, xs, rfl, e, q⟩ := onL_inv q
  match ds, q with
  | [y], q2 =>
    obtain ⟨w, rfl, r2⟩ := rs.one
    obtain ⟨ys, h1, h2⟩ := R.lst e
    exact ⟨a, ys, w, RV.ref_inv r1, rfl, h1, by rw [h2.length]; exact szl q2.1, q2.2 _ _ (R.setL e h1 (h2.append (.cons r2 .nil))) RV.non⟩⟩
theorem ms_popAt (hz : ∀ {H : Hp} {σ : L2.St} {τ : MSt} {g : MH} {C : Bs} {a : Addr} {xs : List V}, Rep K H σ τ g C → H a = some (.lst xs) → True) : MetS K rPopAt (onL fun a xs ds g Q => xs.length ≤ 100000 ∧ fPopAt a xs ds g Q) := ⟨mono_onL fun a xs ds g Q Q' h q => by
    obtain ⟨ql, q⟩ := q
    refine ⟨ql, ?_⟩
    match ds, q with
    | [.int i], ⟨k, y, e1, e2, q2⟩ => exact ⟨k, y, e1, e2, h _ _ q2⟩, fun {H σ τ g C x v ds vs Q} R r1 rs q => by
  obtain ⟨a, xs, rfl, e, ql, q⟩ := onL_inv q
  match ds, q with
  | [.int i], ⟨k, y, e1, e2, q2⟩ =>
    obtain ⟨w, rfl, r2⟩ := rs.one
    obtain ⟨ys, h1, h2⟩ := R.lst e
    obtain ⟨u, h3, h4⟩ := h2.get e2
    obtain ⟨s1, s2, s3, s4⟩ := ixN_seq e1
    have : (xs.length : Int) ≤ 100000 := by omega
    refine ⟨a, ys, i, k, u, RV.ref_inv r1, by rw [RV.int_inv r2], h1, by omega, by omega, by rw [h2.length]; exact s1, h3, q2 _ _ (R.setL e h1 (h2.eraseIdx k)) (RV.mono (Tk.write h1 rfl) _ _ h4)⟩⟩
theorem ms_pop : MetS K rPop (onL fPop) := ⟨mono_onL fun a xs ds g Q Q' h q => by
    match ds, q with
    | [], ⟨y, e, q2⟩ => exact ⟨y, e, h _ _ q2⟩, fun {H σ τ g C x v ds vs Q} R r1 rs q => by
  obtain ⟨a, xs, rfl, e, q⟩ := onL_inv q
  match ds, q with
  | [], ⟨y, e2, q2⟩ =>
    obtain ⟨ys, h1, h2⟩ := R.lst e
    obtain ⟨u, h3, h4⟩ := h2.get e2
    exact ⟨a, ys, u, RV.ref_inv r1, rs.nil_inv, h1, by rw [h2.length]; exact h3, q2 _ _ (R.setL e h1 h2.dropLast) (RV.mono (Tk.write h1 rfl) _ _ h4)⟩⟩
theorem ms_rev : MetS K rReverse (onL fRev) := ⟨mono_onL fun a xs ds g Q Q' h q => by
    match ds, q with
    | [], q2 => exact h _ _ q2, fun {H σ τ g C x v ds vs Q} R r1 rs q => by
  obtain ⟨a, xs, rfl, e, q⟩ := onL_inv q
  match ds, q with
  | [], q2 =>
    obtain ⟨ys, h1, h2⟩ := R.lst e
    exact ⟨a, ys, RV.ref_inv r1, rs.nil_inv, h1, q2 _ _ (R.setL e h1 h2.reverse) RV.non⟩⟩
theorem ms_index : MetS K (rIndexD K) (onL fIndex) := ⟨mono_onL fun a xs ds g Q Q' h q => by
    match ds, q with
    | [y], ⟨d, ps, j, z, e1, e2, e3, e4, e5, e6, e7, q2⟩ => exact ⟨d, ps, j, z, e1, e2, e3, e4, e5, e6, e7, h _ _ q2⟩, fun {H σ τ g C x v ds vs Q} R r1 rs q => by
  obtain ⟨a, xs, rfl, e, q⟩ := onL_inv q
  match ds, q with
  | [y], ⟨d, ps, j, z, e1, e2, e3, e4, e5, e6, e7, q2⟩ =>
    obtain ⟨w, rfl, r2⟩ := rs.one
    obtain ⟨ys, h1, h2⟩ := R.lst e
    exact ⟨a, w, d, ps, j, z, RV.ref_inv r1, rfl, .lst (SqL.of h1) (dps_of _ _ _ h2 e2), dp_of _ _ _ r2 e1, e3, e4, e5, e6, e7, q2 _ H R RV.int⟩⟩
end
abbrev rAppM : RMM := onL fApp
abbrev rPopAtM : RMM := onL fun a xs ds g Q => xs.length ≤ 100000 ∧ fPopAt a xs ds g Q
section
variable {X : Cx} {B : Bs} {apos cpos : Pos} {e o : Expr} {mo m : TEM}
theorem me_append (ho : ME X B o mo) (h : ME X B e m) (hbase : attributeBase o "append" X.env (eval o X.env) = eval o X.env := by rfl)
    (hfew : ((backTo cpos (starEach [e] X.env)).all (fun x => !x.1) && (backToKw cpos (keywordEach [] X.env)).all (fun x => x.1.isSome) && decide (([e] : List Expr).length + ([] : List Keyword).length + (if ([] : List Keyword).isEmpty then 0 else 1) < 30)) = true := by rfl)
    (hline : (apos.endLine == cpos.line) = true := by rfl) (h1 : starEach [e] X.env = (false, eval e X.env) :: starEach [] X.env := by rfl) (h2 : (backTo cpos (starEach [] X.env)).any (·.1) = false := by rfl) :
    ME X B (.Call (.Attribute o "append" apos) [e] [] cpos) (mBM rAppM mo (mCons m mNil)) := me_bm PySem.F.slot_list_append PySem.F.type_list_append mt_append ms_app ho (ma_cons h ma_nil h1) hbase hfew hline h1 h2
theorem me_popAt (ho : ME X B o mo) (h : ME X B e m) (hbase : attributeBase o "pop" X.env (eval o X.env) = eval o X.env := by rfl)
    (hfew : ((backTo cpos (starEach [e] X.env)).all (fun x => !x.1) && (backToKw cpos (keywordEach [] X.env)).all (fun x => x.1.isSome) && decide (([e] : List Expr).length + ([] : List Keyword).length + (if ([] : List Keyword).isEmpty then 0 else 1) < 30)) = true := by rfl)
    (hline : (apos.endLine == cpos.line) = true := by rfl) (h1 : starEach [e] X.env = (false, eval e X.env) :: starEach [] X.env := by rfl) (h2 : (backTo cpos (starEach [] X.env)).any (·.1) = false := by rfl) :
    ME X B (.Call (.Attribute o "pop" apos) [e] [] cpos) (mBM rPopAtM mo (mCons m mNil)) := me_bm PySem.F.slot_list_pop PySem.F.type_list_pop mt_popAt (ms_popAt fun _ _ => trivial) ho (ma_cons h ma_nil h1) hbase hfew hline h1 h2
theorem me_index (hu : X.A.units + 65 < cLine) (ho : ME X B o mo) (h : ME X B e m) (hbase : attributeBase o "index" X.env (eval o X.env) = eval o X.env := by rfl)
    (hfew : ((backTo cpos (starEach [e] X.env)).all (fun x => !x.1) && (backToKw cpos (keywordEach [] X.env)).all (fun x => x.1.isSome) && decide (([e] : List Expr).length + ([] : List Keyword).length + (if ([] : List Keyword).isEmpty then 0 else 1) < 30)) = true := by rfl)
    (hline : (apos.endLine == cpos.line) = true := by rfl) (h1 : starEach [e] X.env = (false, eval e X.env) :: starEach [] X.env := by rfl) (h2 : (backTo cpos (starEach [] X.env)).any (·.1) = false := by rfl) :
    ME X B (.Call (.Attribute o "index" apos) [e] [] cpos) (mBM (onL fIndex) mo (mCons m mNil)) := me_bm PySem.F.slot_list_index PySem.F.type_list_index (mt_indexD hu) ms_index ho (ma_cons h ma_nil h1) hbase hfew hline h1 h2
theorem me_pop (ho : ME X B o mo) (hbase : attributeBase o "pop" X.env (eval o X.env) = eval o X.env := by rfl) (hline : (apos.endLine == cpos.line) = true := by rfl) :
    ME X B (.Call (.Attribute o "pop" apos) [] [] cpos) (mBM (onL fPop) mo mNil) := me_bm0 PySem.F.slot_list_pop PySem.F.type_list_pop mt_pop ms_pop ho hbase hline
theorem me_reverse (ho : ME X B o mo) (hbase : attributeBase o "reverse" X.env (eval o X.env) = eval o X.env := by rfl) (hline : (apos.endLine == cpos.line) = true := by rfl) :
    ME X B (.Call (.Attribute o "reverse" apos) [] [] cpos) (mBM (onL fRev) mo mNil) := me_bm0 PySem.F.slot_list_reverse PySem.F.type_list_reverse mt_reverse ms_rev ho hbase hline
end

/-! ### a def keeps its promise -/
def startM (N : List Str) (ds : List D) : MSt := ds.map some ++ List.replicate (N.length - ds.length) none
theorem startM_rep {K : PySem.W.Frag} {H : Hp} {N : List Str} {ds : List D} {vs : List V} (r : RVs K H ds vs) : RepT K H (start N vs) (startM N ds) := by
  unfold L2.start startM
  refine ⟨fun i d e => ?_, ?_⟩
  · by_cases hi : i < ds.length
    · rw [List.getElem?_append_left (by rw [List.length_map]; exact hi), List.getElem?_map] at e
      cases z : ds[i]? with
      | none => rw [z] at e; cases e
      | some d' =>
        rw [z] at e
        simp at e
        subst e
        obtain ⟨v, h1, h2⟩ := r.get z
        refine ⟨v, ?_, h2⟩
        rw [List.getElem?_append_left (by rw [List.length_map, r.length]; exact hi), List.getElem?_map, h1]
        rfl
    · rw [List.getElem?_append_right (by rw [List.length_map]; omega), List.getElem?_replicate] at e
      split at e
      · cases e
      · cases e
  · rw [List.length_append, List.length_append, List.length_map, List.length_map, List.length_replicate, List.length_replicate, r.length]
theorem takesF {X : Cx} {B : Bs} : Takes X (LW X.K B fun _ _ _ _ => False) := takes0.imp fun c d σ H ⟨_, _, _, _, _, h⟩ => h
section
variable {P : Program} {w : World} {K : PySem.W.Frag} {mg : Str → Option Value} {base : Heap}
theorem fm_ok {x qual : Str} {st : Stmt} {f : Addr} {N ps : List Str} {k : Nat} {sp : SpM} {m : WM → TSM} (F : ∃ fd, Fun K x qual st f fd ∧ Binds K fd ps []) (S : FnScope N ps (defScope st)) (len : ∀ ds g Q E, sp ds g Q E → ds.length = ps.length) (mono : MonoS sp)
    (hb : ∀ (cdv : Value) (A : Around) (outer : List Env) (s : Shared) (H : Hp) (E : XK) (B : Bs) (W : WM), Room k (A.deeper (PyProof.Rows.envOfC qual (defScope st) s.heap.objs.size f cdv)) →
      Takes (cxOf (L2.CX P w) P w K mg base N qual (defScope st) f cdv A outer s H E) (LW K B W) → MSs (cxOf (L2.CX P w) P w K mg base N qual (defScope st) f cdv A outer s H E) B (defBody st) (m W))
    (hm : ∀ ds g Q E, sp ds g Q E → m (fun c fs _ g => E c fs g) { nx := fun _ g' => ∃ g2, Le g2 g' ∧ Q .non g2, rt := Q } (startM N ds) g) : FnM P w K mg base (k + 1) f ps sp := by
  obtain ⟨fd, F1, F2⟩ := F
  refine ⟨⟨fd, F1.okX S (fun vs H Q E ⟨ds, g, B, R, r, h⟩ => by rw [r.length]; exact len _ _ _ _ h) (fun cdv A outer s H vs Q E hr ⟨ds, g, B, R, r, h⟩ => ?_), F2⟩, mono, F1.kp⟩
  have tk : Takes (cxOf (L2.CX P w) P w K mg base N qual (defScope st) f cdv A outer s H E) (fun cls d _ H => E cls d H) := takes_of rfl rfl rfl rfl
  have b := hb cdv A outer s H E B (fun c fs _ g' => ∀ d H', RepG K H' g' B → RXD K H' d fs → E c d H') hr (tk.imp fun c d σ H' ⟨τ, g', fs, R', rd, h⟩ => h d H' R'.G rd)
  refine ⟨_, b.run, ?_⟩
  refine LS.seq b.mono (Bs.le_refl _) ⟨R, startM_rep r⟩ (hm ds g _ _ h) ⟨fun τ g' ⟨g2, l, q⟩ σ' H' R' => q _ H' (R'.G.drop l) RV.non, fun d g' q v H' R' rv => q v H' R' rv, fun _ _ q => q.elim, fun _ _ q => q.elim⟩
end
end M

namespace M
open PySem L2
abbrev WF : WM := fun _ _ _ _ => False
theorem u1 {k : Nat} {A : Around} (hr : Room k A) : A.units + 1 < cLine := by have := hr.un; omega
theorem u64 {k : Nat} {A : Around} (hr : Room k A) : A.units + 64 < cLine := by have := hr.un; omega
theorem u65 {k : Nat} {A : Around} (hr : Room k A) : A.units + 65 < cLine := by have := hr.un; omega
/-- a * b -/
theorem mono_mul : MonoR rMulM := fun x y g Q Q' h q => by
  unfold rMulM at q ⊢
  split at q
  · exact ⟨q.1, h _ _ q.2⟩
  · obtain ⟨xs, h1, h2, h3, h4, q⟩ := q
    exact ⟨xs, h1, h2, h3, h4, fun p hp => h _ _ (q p hp)⟩
  · exact q
theorem RVs.rep {K : PySem.W.Frag} {H : Hp} {ds : List D} {vs : List V} (r : RVs K H ds vs) : ∀ n : Nat, RVs K H (List.replicate n ds).flatten (List.replicate n vs).flatten
  | 0 => RVs.nil
  | n + 1 => by
    rw [List.replicate_succ, List.replicate_succ, List.flatten_cons, List.flatten_cons]
    exact r.append (RVs.rep r n)
def rMulH : R2 := fun x y H Q => rI CMul (fun i j => .int (i * j)) x y H Q ∨ rRep x y H Q
theorem os_mul {K : PySem.W.Frag} : OpS K rMulH rMulM := ⟨mono_mul, fun {H σ τ g C x y v w Q} R s1 s2 q => by
  unfold rMulM at q
  split at q
  · exact .inl ⟨_, _, RV.int_inv s1, RV.int_inv s2, q.1, q.2 _ H R RV.int⟩
  · obtain ⟨xs, h1, h2, h3, h4, q⟩ := q
    obtain ⟨ys, e1, e2⟩ := R.lst h1
    refine .inr ⟨_, _, ys, RV.ref_inv s1, RV.int_inv s2, e1, by omega, by omega, ?_, fun p hp => q p (R.fresh hp) _ _ (R.newL hp (e2.rep _)) RV.ref⟩
    rw [e2.length]
    exact szL (Nat.le_trans (Nat.mul_le_mul h4 (show _ ≤ 1000 by omega)) (by decide))
  · exact q.elim⟩
/-- - a -/
def mNeg (m : TEM) : TEM := fun τ g Q => m τ g fun d g1 => match d with
  | .int i => Q (.int (-i)) g1
  | _ => False
section
variable {X : Cx} {B : Bs} {pos : Pos} {a b : Expr} {ma mb : TEM}
theorem me_mul (ha : ME X B a ma) (hb : ME X B b mb) : ME X B (.BinOp a .Mult b pos) (mOp rMulM ma mb) := me_op (op_mul.or op_rep) os_mul ha hb
theorem me_neg (ha : ME X B a ma) : ME X B (.UnaryOp .USub a pos) (mNeg ma) := by
  refine ⟨fun τ g Q Q' hq q => ha.mono _ _ _ _ (fun d g q => ?_) q, peImp (pe_un un_neg ha.run) fun σ H Q ⟨τ, g, C, hB, R, q⟩ => LE.seq ha.mono hB R q fun d g1 v H1 q R1 r => ?_⟩
  · cases d <;> first | exact hq _ _ q | exact q
  · cases d <;> first | exact q.elim | skip
    exact ⟨_, RV.int_inv r, q _ H1 R1 RV.int⟩
end
/-! ### empty dicts -/
def mDk : TEM := fun _ g Q => ∀ p, g p = none → Q (.ref p) (gup g p (.dk []))
def mDt : TEM := fun _ g Q => ∀ p, g p = none → Q (.ref p) (gup g p (.dt []))
section
variable {X : Cx} {B : Bs} {pos : Pos}
theorem me_dk : ME X B (.Dict [] [] pos) mDk := ⟨fun _ _ _ _ h q p hp => h _ _ (q p hp), peImp pe_dnewK fun σ H Q ⟨τ, g, C, hB, R, q⟩ p hp => q p (R.fresh hp) _ _ (R.alloc hp ⟨[], upd_same, rfl⟩) RV.ref⟩
theorem me_dt : ME X B (.Dict [] [] pos) mDt := ⟨fun _ _ _ _ h q p hp => h _ _ (q p hp), peImp pe_dnewT fun σ H Q ⟨τ, g, C, hB, R, q⟩ p hp => q p (R.fresh hp) _ _ (R.alloc hp ⟨[], upd_same, rfl⟩) RV.ref⟩
end
theorem boot_int : bootBuiltins "int" = some (.type "int") := by decide +kernel
theorem boot_bool : bootBuiltins "bool" = some (.type "bool") := by decide +kernel
theorem boot_str : bootBuiltins "str" = some (.type "str") := by decide +kernel
theorem boot_tuple : bootBuiltins "tuple" = some (.type "tuple") := by decide +kernel
theorem boot_list : bootBuiltins "list" = some (.type "list") := by decide +kernel
theorem ints_rv {K : PySem.W.Frag} {H : Hp} : ∀ ns : List Int, RVs K H (ns.map D.int) (ns.map V.int)
  | [] => RVs.nil
  | n :: r => .cons RV.int (ints_rv r)
/-- what the law's own head wants -/
theorem law_start {K : PySem.W.Frag} {H : Hp} {a : Addr} {ns : List Int} (hO : Only H) (h : SqL K H a (ns.map V.int)) : RVs K H [.fl (ns.map D.int)] [.ref a] := by
  refine .cons ?_ .nil
  unfold RV
  refine ⟨a, ns.map V.int, rfl, ?_, ?_⟩
  · rcases h with (h | ⟨o, h⟩) | h
    · rcases hO a with z | ⟨o, xs, z⟩
      · rw [h] at z; cases z
      · rw [h] at z; cases z
    · exact .inl ⟨o, h⟩
    · exact .inr h
  · exact ints_rv ns
end M

/-! Steps: a reading is gone through from its head. -/
namespace M
open PySem L2
section
variable {τ : MSt} {g : MH} {E : MEnds} {Q : MVK} {QB : Bool → MH → Prop} {QA : List D → MH → Prop} {QO : Option Int → MH → Prop} {QI : List D → (MH → Prop) → MH → Prop} {QS : MSt → MH → Prop} {m n : TSM} {me ma mb mc mo : TEM} {ms : TAM} {t u : TTM} {mi : TIM} {gt : TGM} {gts : TGsM} {r r' : R2M} {W : WM} {sp : SpM}
theorem st_seq (h : m { E with nx := n E } τ g) : mSeq m n E τ g := h
theorem st_next (h : E.nx τ g) : mNext E τ g := h
theorem st_drop (h : me τ g fun _ g1 => E.nx τ g1) : mDrop me E τ g := h
theorem st_ret (h : me τ g fun d g1 => ∃ g2, Le g2 g1 ∧ E.rt d g2) : mRet me E τ g := h
theorem st_if (h : t τ g fun b g1 => if b = true then m E τ g1 else n E τ g1) : mIfS t m n E τ g := h
theorem st_set {i : Nat} (h : me τ g fun d g1 => E.nx (τ.set i (some d)) g1) : mSet i me E τ g := h
theorem st_asg (h : me τ g fun d g1 => gt d τ g1 E.nx) : mAsg me gt E τ g := h
def onPar (i j : Nat) (E : MEnds) (τ : MSt) : List D → MH → Prop := fun ds g1 => match ds with
  | [d, e] => E.nx ((τ.set i (some d)).set j (some e)) g1
  | _ => False
theorem st_par {i j : Nat} (h : ms τ g (onPar i j E τ)) : mPar i j ms E τ g := h
theorem st_onPar {i j : Nat} {d e : D} (h : E.nx ((τ.set i (some d)).set j (some e)) g) : onPar i j E τ [d, e] g := h
def onPut (ok : Addr → Prop) (f : Str) (d : D) (E : MEnds) (τ : MSt) : MVK := fun o g2 => match o with
  | .ref a => match g2 a with
    | some (.ins C fs) => ok C ∧ fs.length ≤ 100 ∧ E.nx τ (gup g2 a (.ins C (putFD f d fs)))
    | _ => False
  | _ => False
theorem st_put {ok : Addr → Prop} {f : Str} (h : mb τ g fun d g1 => mo τ g1 (onPut ok f d E τ)) : mPut ok f mo mb E τ g := h
theorem st_onPut {ok : Addr → Prop} {f : Str} {d : D} {a C : Addr} {fs : List (Str × D)} (e : g a = some (.ins C fs)) (h1 : ok C) (h2 : fs.length ≤ 100) (h : E.nx τ (gup g a (.ins C (putFD f d fs)))) : onPut ok f d E τ (.ref a) g := by
  unfold onPut; simp only [e]; exact ⟨h1, h2, h⟩
def onB (Q : Bool → MH → Prop) : MVK := fun d g => match d with
  | .bl k => Q k g
  | _ => False
theorem st_test (h : me τ g (onB QB)) : mTest me τ g QB := h
theorem st_onB {k : Bool} (h : QB k g) : onB QB (.bl k) g := h
theorem st_and (h : t τ g fun c g1 => if c = true then u τ g1 QB else QB false g1) : mAnd t u τ g QB := h
theorem st_or (h : t τ g fun c g1 => if c = true then QB true g1 else u τ g1 QB) : mOr t u τ g QB := h
theorem st_not (h : t τ g fun c g1 => QB (!c) g1) : mNot t τ g QB := h
theorem st_andV (h : ma τ g (onB fun c g1 => if c = true then mb τ g1 Q else Q (.bl false) g1)) : mAndV ma mb τ g Q := h
theorem st_orV (h : ma τ g (onB fun c g1 => if c = true then Q (.bl true) g1 else mb τ g1 Q)) : mOrV ma mb τ g Q := h
theorem st_notV (h : ma τ g (onB fun c g1 => Q (.bl (!c)) g1)) : mNotV ma τ g Q := h
theorem st_ifE (h : t τ g fun c g1 => if c = true then ma τ g1 Q else mb τ g1 Q) : mIf t ma mb τ g Q := h
theorem st_op (h : ma τ g fun x g1 => mb τ g1 fun y g2 => r x y g2 Q) : mOp r ma mb τ g Q := h
theorem st_chain (h : ma τ g fun x g1 => mb τ g1 fun y g2 => r x y g2 (onB fun k g3 => if k = true then mc τ g3 fun w g4 => r' y w g4 Q else Q (.bl false) g3)) : mChain r r' ma mb mc τ g Q := h
theorem st_var {i : Nat} {d : D} (e : τ[i]? = some (some d)) (h : Q d g) : mVar i τ g Q := ⟨d, e, h⟩
theorem st_c {d : D} (h : Q d g) : mC d τ g Q := h
theorem st_nil (h : QA [] g) : mNil τ g QA := h
theorem st_cons (h : ma τ g fun x g1 => ms τ g1 fun xs g2 => QA (x :: xs) g2) : mCons ma ms τ g QA := h
theorem st_tup (h : ms τ g fun xs g1 => Q (.tup xs) g1) : mTup ms τ g Q := h
theorem st_lst (h : ms τ g fun xs g1 => ∀ p, g1 p = none → Q (.ref p) (gup g1 p (.lst xs))) : mLst ms τ g Q := h
theorem st_cb {rm : RCM} (h : ms τ g fun ds g1 => rm ds g1 Q) : mCB rm ms τ g Q := h
theorem st_call (h : ms τ g fun ds g1 => sp ds g1 Q fun c fs g2 => W c fs τ g2) : mCall sp W ms τ g Q := h
theorem st_make {C : Addr} (h : ms τ g fun ds g1 => ∀ x, g1 x = none → sp (.ref x :: ds) (gup g1 x (.ins C [])) (fun d g2 => d = .non ∧ Q (.ref x) g2) fun c fs g2 => W c fs τ g2) : mMake C sp W ms τ g Q := h
def onFld (ok : Addr → Prop) (f : Str) (Q : MVK) : MVK := fun d g1 => match d with
  | .ref a => match g1 a with
    | some (.ins C fs) => ok C ∧ ∃ v, fs.lookup f = some v ∧ Q v g1
    | _ => False
  | _ => False
theorem st_fld {ok : Addr → Prop} {f : Str} (h : me τ g (onFld ok f Q)) : mFld ok f me τ g Q := h
theorem st_onFld {ok : Addr → Prop} {f : Str} {a C : Addr} {fs : List (Str × D)} {v : D} (e : g a = some (.ins C fs)) (h1 : ok C) (h2 : fs.lookup f = some v) (h : Q v g) : onFld ok f Q (.ref a) g := by
  unfold onFld; simp only [e]; exact ⟨h1, v, h2, h⟩
def onMeth (T : List (Addr × SpM)) (W : WM) (m : Str) (ms : TAM) (τ : MSt) (Q : MVK) : MVK := fun d g1 => match d with
  | .ref a => match g1 a with
    | some (.ins C fs) => fs.lookup m = none ∧ ∃ sp, (C, sp) ∈ T ∧ ms τ g1 fun ds g2 => sp (.ref a :: ds) g2 Q fun c fs g3 => W c fs τ g3
    | _ => False
  | _ => False
theorem st_meth {T : List (Addr × SpM)} {f : Str} (h : mo τ g (onMeth T W f ms τ Q)) : mMeth T W f mo ms τ g Q := h
theorem st_onMeth {T : List (Addr × SpM)} {f : Str} {a C : Addr} {fs : List (Str × D)} (sp : SpM) (e : g a = some (.ins C fs)) (h1 : fs.lookup f = none) (h2 : (C, sp) ∈ T) (h : ms τ g fun ds g2 => sp (.ref a :: ds) g2 Q fun c fs g3 => W c fs τ g3) : onMeth T W f ms τ Q (.ref a) g := by
  unfold onMeth; simp only [e]; exact ⟨h1, sp, h2, h⟩
theorem st_bm {rm : RMM} (h : mo τ g fun x g1 => isLst g1 x = true ∧ ms τ g1 fun ds g2 => rm x ds g2 Q) : mBM rm mo ms τ g Q := h
theorem st_isL {a : Addr} {ds : List D} {P : Prop} (e : g a = some (.lst ds)) (h : P) : isLst g (.ref a) = true ∧ P := ⟨by unfold isLst; simp only [e], h⟩
theorem st_onL {f : Addr → List D → List D → MH → MVK → Prop} {a : Addr} {xs ds : List D} (e : g a = some (.lst xs)) (h : f a xs ds g Q) : onL f (.ref a) ds g Q := by unfold onL; simp only [e]; exact h
theorem st_app {a : Addr} {xs : List D} {y : D} (e : g a = some (.lst xs)) (hl : xs.length < 100000) (h : Q .non (gup g a (.lst (xs ++ [y])))) : rAppM (.ref a) [y] g Q := st_onL e ⟨hl, h⟩
theorem st_popAt {a : Addr} {xs : List D} {i : Int} {k : Nat} {y : D} (e : g a = some (.lst xs)) (hl : xs.length ≤ 100000) (h1 : ixN xs.length i = some k) (h2 : xs[k]? = some y) (h : Q y (gup g a (.lst (xs.eraseIdx k)))) : rPopAtM (.ref a) [.int i] g Q := st_onL e ⟨hl, k, y, h1, h2, h⟩
/-! values -/
theorem st_I2 {C : Int → Int → Prop} {f : Int → Int → D} {i j : Int} (hc : C i j) (h : Q (f i j) g) : rI2 C f (.int i) (.int j) g Q := ⟨hc, h⟩
theorem st_addI {i j : Int} (h : Q (.int (i + j)) g) : rAddM (.int i) (.int j) g Q := h
theorem st_addT {i j : List D} (hl : i.length + j.length ≤ 100000) (h : Q (.tup (i ++ j)) g) : rAddM (.tup i) (.tup j) g Q := ⟨hl, h⟩
theorem st_addL {a b : Addr} {xs ys : List D} (h1 : g a = some (.lst xs)) (h2 : g b = some (.lst ys)) (hl : xs.length + ys.length ≤ 100000) (h : ∀ p, g p = none → Q (.ref p) (gup g p (.lst (xs ++ ys)))) : rAddM (.ref a) (.ref b) g Q := ⟨xs, ys, h1, h2, hl, h⟩
theorem st_mulI {i j : Int} (hc : CMul i j) (h : Q (.int (i * j)) g) : rMulM (.int i) (.int j) g Q := ⟨hc, h⟩
theorem st_eqI {i j : Int} (h : Q (.bl (decide (i = j))) g) : rEqW false (.int i) (.int j) g Q := h
theorem st_neI {i j : Int} (h : Q (.bl (!decide (i = j))) g) : rEqW true (.int i) (.int j) g Q := h
theorem st_eqS {i j : Str} (h : Q (.bl (decide (i = j))) g) : rEqW false (.str i) (.str j) g Q := h
theorem st_neS {i j : Str} (h : Q (.bl (!decide (i = j))) g) : rEqW true (.str i) (.str j) g Q := h
theorem st_eqB {i j : Bool} (h : Q (.bl (decide (i = j))) g) : rEqW false (.bl i) (.bl j) g Q := h
theorem st_neB {i j : Bool} (h : Q (.bl (!decide (i = j))) g) : rEqW true (.bl i) (.bl j) g Q := h
theorem st_is {x : D} (h : Q (.bl (isNon x)) g) : rIsW false x .non g Q := h
theorem st_isnot {x : D} (h : Q (.bl (!isNon x)) g) : rIsW true x .non g Q := h
theorem st_ixT {ds : List D} {i : Int} {d : D} (e : atI ds i = some d) (h : Q d g) : rIxM (.tup ds) (.int i) g Q := ⟨d, e, h⟩
theorem st_ixL {a : Addr} {ds : List D} {i : Int} {d : D} (e1 : g a = some (.lst ds)) (e : atI ds i = some d) (h : Q d g) : rIxM (.ref a) (.int i) g Q := by unfold rIxM; simp only [e1]; exact ⟨d, e, h⟩
theorem st_1 {f : MH → D → Option D} {x y : D} (e : f g x = some y) (h : Q y g) : r1 f [x] g Q := ⟨y, e, h⟩
theorem st_isi {T : String} {k : Ty → Bool} {x : D} {ty : Ty} (e : tyOf g x = some ty) (h : Q (.bl (k ty)) g) : rIsiM T k [x, .ty T] g Q := ⟨rfl, ty, e, h⟩
theorem st_listc {x : D} {xs : List D} (e : seqD g x = some xs) (h : ∀ p, g p = none → Q (.ref p) (gup g p (.lst xs))) : rListM [x] g Q := ⟨xs, e, h⟩
/-! targets -/
theorem st_gN {i : Nat} {d : D} (h : QS (τ.set i (some d)) g) : gN i d τ g QS := h
theorem st_gT {k : Nat} {ds : List D} (hl : ds.length = k) (h : gts ds τ g QS) : gT k gts (.tup ds) τ g QS := ⟨hl, h⟩
theorem st_gNil (h : QS τ g) : gNil' [] τ g QS := h
theorem st_gCons {d : D} {ds : List D} (h : gt d τ g fun τ' g' => gts ds τ' g' QS) : gCons' gt gts (d :: ds) τ g QS := h
theorem st_gS {d : D} (h : ma τ g fun o g1 => mb τ g1 fun i g2 => rSetM o i d g2 fun g3 => QS τ g3) : gS ma mb d τ g QS := h
theorem st_setL {a : Addr} {ds : List D} {i : Int} {j : Nat} {v : D} {P : MH → Prop} (e : g a = some (.lst ds)) (hj : ixN ds.length i = some j) (h : P (gup g a (.lst (ds.set j v)))) : rSetM (.ref a) (.int i) v g P := by unfold rSetM; simp only [e]; exact ⟨j, hj, h⟩
/-! slices -/
def onSl (lo hi : Option Int) (d : D) (g3 : MH) (Q : MVK) : Prop := match d with
  | .tup ds => Q (.tup (cutD ds lo hi)) g3
  | .ref a => match g3 a with
    | some (.lst ds) => ∀ p, g3 p = none → Q (.ref p) (gup g3 p (.lst (cutD ds lo hi)))
    | _ => False
  | _ => False
theorem st_sl {ml mh : TOM} (h : me τ g fun d g1 => ml τ g1 fun lo g2 => mh τ g2 fun hi g3 => onSl lo hi d g3 Q) : mSl me ml mh τ g Q := h
theorem st_slL {lo hi : Option Int} {a : Addr} {ds : List D} (e : g a = some (.lst ds)) (h : ∀ p, g p = none → Q (.ref p) (gup g p (.lst (cutD ds lo hi)))) : onSl lo hi (.ref a) g Q := by unfold onSl; simp only [e]; exact h
theorem st_slT {lo hi : Option Int} {ds : List D} (h : Q (.tup (cutD ds lo hi)) g) : onSl lo hi (.tup ds) g Q := h
theorem st_noPart (h : QO none g) : mNoPart τ g QO := h
def onI (Q : Option Int → MH → Prop) : MVK := fun d g => match d with
  | .int i => Q (some i) g
  | _ => False
theorem st_part (h : me τ g (onI QO)) : mPart me τ g QO := h
theorem st_onI {i : Int} (h : QO (some i) g) : onI QO (.int i) g := h
/-! what is walked -/
def onAny (Q : List D → (MH → Prop) → MH → Prop) : MVK := fun d g1 => match d with
  | .tup ds => Q ds (fun _ => True) g1
  | .fl ds => Q ds (fun _ => True) g1
  | .ref a => match g1 a with
    | some (.lst ds) => Q ds (fun g => g a = some (.lst ds)) g1
    | _ => False
  | _ => False
theorem st_iAny (h : me τ g (onAny QI)) : iAny me τ g QI := h
theorem st_anyT {ds : List D} (h : QI ds (fun _ => True) g) : onAny QI (.tup ds) g := h
theorem st_anyF {ds : List D} (h : QI ds (fun _ => True) g) : onAny QI (.fl ds) g := h
theorem st_anyL {a : Addr} {ds : List D} (e : g a = some (.lst ds)) (h : QI ds (fun g => g a = some (.lst ds)) g) : onAny QI (.ref a) g := by unfold onAny; simp only [e]; exact h
def onRange (Q : List D → (MH → Prop) → MH → Prop) : MVK := fun d g1 => match d with
  | .int n => -1000000 < n ∧ n < 1000000 ∧ Q (rangeD 0 n.toNat) (fun _ => True) g1
  | _ => False
theorem st_iRange (h : me τ g (onRange QI)) : iRange1 me τ g QI := h
theorem st_onRange {n : Int} (h0 : -1000000 < n) (h1 : n < 1000000) (h : QI (rangeD 0 n.toNat) (fun _ => True) g) : onRange QI (.int n) g := ⟨h0, h1, h⟩
def onEnum (Q : List D → (MH → Prop) → MH → Prop) : MVK := fun d g1 => match d with
  | .ref a => match g1 a with
    | some (.lst ds) => Q (enumD ds) (fun g => g a = some (.lst ds)) g1
    | _ => False
  | _ => False
theorem st_iEnum (h : me τ g (onEnum QI)) : iEnumM me τ g QI := h
theorem st_onEnum {a : Addr} {ds : List D} (e : g a = some (.lst ds)) (h : QI (enumD ds) (fun g => g a = some (.lst ds)) g) : onEnum QI (.ref a) g := by unfold onEnum; simp only [e]; exact h
def onTmp (Q : List D → (MH → Prop) → MH → Prop) : MVK := fun d g1 => match d with
  | .ref a => match g1 a with
    | some (.lst ds) => Q ds (fun _ => True) (gdel g1 a)
    | _ => False
  | _ => False
theorem st_iTmp (h : me τ g (onTmp QI)) : iTmp me τ g QI := h
theorem st_onTmp {a : Addr} {ds : List D} (e : g a = some (.lst ds)) (h : QI ds (fun _ => True) (gdel g a)) : onTmp QI (.ref a) g := by unfold onTmp; simp only [e]; exact h
/-! ends -/
theorem st_nx {f : MSt → MH → Prop} {rt : MVK} {bk ct : MSt → MH → Prop} (h : f τ g) : (MEnds.mk f rt bk ct).nx τ g := h
theorem st_rt {f : MSt → MH → Prop} {rt : MVK} {bk ct : MSt → MH → Prop} {d : D} (h : rt d g) : (MEnds.mk f rt bk ct).rt d g := h
theorem st_T {P R : Prop} (h : P) : if true = true then P else R := by rw [if_pos rfl]; exact h
theorem st_F {P R : Prop} (h : R) : if false = true then P else R := by rw [if_neg Bool.false_ne_true]; exact h
theorem st_by {b : Bool} {P R : Prop} (h1 : b = true → P) (h2 : b = false → R) : if b = true then P else R := by
  cases b
  · rw [if_neg Bool.false_ne_true]; exact h2 rfl
  · rw [if_pos rfl]; exact h1 rfl
theorem st_here {P : MH → Prop} (h : P g) : ∃ g2, Le g2 g ∧ P g2 := ⟨g, Le.refl g, h⟩
theorem st_less {g' : MH} {P : MH → Prop} (l : Le g' g) (h : P g') : ∃ g2, Le g2 g ∧ P g2 := ⟨g', l, h⟩
end
end M

/-! Blocks: what is owned of a heap, and how it changes. -/
namespace M
open PySem L2
abbrev Blk := List (Addr × GO)
def Blk.ad (L : Blk) : List Addr := L.map (·.1)
theorem Blk.ad_cons {p : Addr × GO} {L : Blk} : Blk.ad (p :: L) = p.1 :: Blk.ad L := rfl
theorem Blk.ad_append {L R : Blk} : Blk.ad (L ++ R) = Blk.ad L ++ Blk.ad R := List.map_append
structure Own (g : MH) (L : Blk) : Prop where
  nd : L.ad.Nodup
  at_ : ∀ p ∈ L, g p.1 = some p.2
structure Chg (g g' : MH) (L L' : Blk) : Prop where
  own : Own g' L'
  frame : ∀ b o, g b = some o → b ∉ L.ad → g' b = some o
  fresh : ∀ b ∈ L'.ad, b ∈ L.ad ∨ g b = none
section
variable {g g' g'' : MH} {L L' L'' R R' : Blk} {a p : Addr} {o o' : GO}
theorem Own.get (h : Own g L) (m : (a, o) ∈ L) : g a = some o := h.at_ _ m
theorem Own.perm (h : Own g L) (p : L.Perm R) : Own g R := ⟨(p.map _).nodup_iff.mp h.nd, fun q hq => h.at_ q (p.mem_iff.mpr hq)⟩
theorem Own.nil : Own g [] := ⟨List.nodup_nil, fun _ h => nomatch h⟩
theorem Own.le (h : Own g L) (l : Le g g') : Own g' L := ⟨h.nd, fun p hp => l _ _ (h.at_ p hp)⟩
theorem Own.left (h : Own g (L ++ R)) : Own g L := ⟨(List.nodup_append.mp (by have := h.nd; rwa [Blk.ad_append] at this)).1, fun p hp => h.at_ p (List.mem_append_left _ hp)⟩
theorem Own.right (h : Own g (L ++ R)) : Own g R := ⟨(List.nodup_append.mp (by have := h.nd; rwa [Blk.ad_append] at this)).2.1, fun p hp => h.at_ p (List.mem_append_right _ hp)⟩
theorem Own.tail {q : Addr × GO} (h : Own g (q :: L)) : Own g L := h.right (L := [q])
theorem Own.head {q : Addr × GO} (h : Own g (q :: L)) : g q.1 = some q.2 := h.at_ _ List.mem_cons_self
theorem Own.apart (h : Own g (L ++ R)) : ∀ b ∈ L.ad, b ∉ R.ad := fun b hb hr => by
  have := h.nd
  rw [Blk.ad_append] at this
  exact (List.nodup_append.mp this).2.2 b hb b hr rfl
theorem Own.some (h : Own g L) (m : a ∈ L.ad) : ∃ o, g a = some o := by
  obtain ⟨p, hp, rfl⟩ := List.mem_map.mp m
  exact ⟨_, h.at_ p hp⟩
theorem Own.new (h : Own g L) (hp : g p = none) : p ∉ L.ad := fun m => by
  obtain ⟨o, e⟩ := h.some m
  rw [hp] at e; cases e
theorem Own.add (h : Own g L) (hp : g p = none) : Own (gup g p o) ((p, o) :: L) := by
  refine ⟨by rw [Blk.ad_cons]; exact List.nodup_cons.mpr ⟨h.new hp, h.nd⟩, fun q hq => ?_⟩
  rcases List.mem_cons.mp hq with rfl | hq
  · exact gup_same
  · rw [gup_ne (gne (h.at_ q hq) hp)]; exact h.at_ q hq
theorem Chg.refl (h : Own g L) : Chg g g L L := ⟨h, fun _ _ e _ => e, fun _ h => .inl h⟩
theorem Chg.trans (x : Chg g g' L L') (y : Chg g' g'' L' L'') : Chg g g'' L L'' := by
  refine ⟨y.own, fun b o e n => y.frame b o (x.frame b o e n) fun m => ?_, fun b hb => ?_⟩
  · rcases x.fresh b m with q | q
    · exact n q
    · rw [e] at q; cases q
  · rcases y.fresh b hb with q | q
    · exact x.fresh b q
    · by_cases m : b ∈ L.ad
      · exact .inl m
      · refine .inr ?_
        cases z : g b with
        | none => rfl
        | some o => rw [x.frame b o z m] at q; cases q
theorem Chg.perm (x : Chg g g' L L') (p : L.Perm R) (p' : L'.Perm R') : Chg g g' R R' :=
  ⟨x.own.perm p', fun b o e n => x.frame b o e fun m => n ((p.map _).mem_iff.mp m), fun b hb => (x.fresh b ((p'.map _).mem_iff.mpr hb)).imp (fun m => (p.map _).mem_iff.mp m) id⟩
/-- the rest stays -/
theorem Chg.ctx (x : Chg g g' L L') (h : Own g (L ++ R)) : Chg g g' (L ++ R) (L' ++ R) := by
  have apart := h.apart
  refine ⟨⟨?_, fun q hq => ?_⟩, fun b o e n => x.frame b o e fun m => n (by rw [Blk.ad_append]; exact List.mem_append_left _ m), fun b hb => ?_⟩
  · rw [Blk.ad_append]
    refine List.nodup_append.mpr ⟨x.own.nd, h.right.nd, fun b hb c hc e => ?_⟩
    subst e
    rcases x.fresh b hb with q | q
    · exact apart b q hc
    · exact h.right.new q hc
  · rcases List.mem_append.mp hq with hq | hq
    · exact x.own.at_ q hq
    · exact x.frame _ _ (h.right.at_ q hq) fun m => apart _ m (List.mem_map_of_mem hq)
  · rw [Blk.ad_append] at hb ⊢
    rcases List.mem_append.mp hb with hb | hb
    · exact (x.fresh b hb).imp (fun m => List.mem_append_left _ m) id
    · exact .inl (List.mem_append_right _ hb)
/-- an object changed -/
theorem Chg.set (h : Own g ((a, o) :: L)) : Chg g (gup g a o') ((a, o) :: L) ((a, o') :: L) := by
  have nd := h.nd
  rw [Blk.ad_cons] at nd
  have na := (List.nodup_cons.mp nd).1
  refine ⟨⟨nd, fun q hq => ?_⟩, fun b u e n => ?_, fun b hb => .inl hb⟩
  · rcases List.mem_cons.mp hq with rfl | hq
    · exact gup_same
    · rw [gup_ne (fun e => na (by show a ∈ _; rw [← e]; exact List.mem_map_of_mem hq))]
      exact h.tail.at_ q hq
  · rw [gup_ne (fun e => n (by rw [e]; exact List.mem_cons_self))]; exact e
theorem Chg.new (h : Own g L) (hp : g p = none) : Chg g (gup g p o) L ((p, o) :: L) := by
  refine ⟨h.add hp, fun b u e n => by rw [gup_ne (gne e hp)]; exact e, fun b hb => ?_⟩
  rw [Blk.ad_cons] at hb
  rcases List.mem_cons.mp hb with rfl | hb
  · exact .inr hp
  · exact .inl hb
/-- garbage is forgotten: any part of what is owned at the end -/
theorem Chg.less (x : Chg g g' L L') (s : L''.Sublist L') : Chg g g' L L'' :=
  ⟨⟨x.own.nd.sublist (s.map _), fun p hp => x.own.at_ p (s.subset hp)⟩, x.frame, fun b hb => x.fresh b ((s.map _).subset hb)⟩
theorem Chg.lessP (x : Chg g g' L L') (s : L'.Perm (R ++ L'')) : Chg g g' L L'' :=
  (x.perm (List.Perm.refl _) s).less (List.sublist_append_right _ _)
/-- what is behind, when more lies there -/
theorem Chg.le (x : Chg g g' L L') (l : Le g' g'') : Chg g g'' L L' := ⟨x.own.le l, fun b o e n => l _ _ (x.frame b o e n), x.fresh⟩
theorem Chg.keep (x : Chg g g' L L') (h : Own g (L ++ R)) : Own g' (L' ++ R) := (x.ctx h).own
end
theorem st_yes {τ : MSt} {g : MH} {QB : Bool → MH → Prop} (h : QB true g) : mYes τ g QB := h
theorem st_nF {P R : Prop} (h : R) : if (!true) = true then P else R := by rw [if_neg (by decide)]; exact h
theorem st_nT {P R : Prop} (h : P) : if (!false) = true then P else R := by rw [if_pos (by decide)]; exact h
def onFor (gt : TGM) (mb : TSM) (E : MEnds) (τ : MSt) : List D → (MH → Prop) → MH → Prop := fun ds St g1 => ∃ W : Nat → MSt → MH → Prop, (∃ g2, Le g2 g1 ∧ W 0 τ g2) ∧ (∀ i τ g, i ≤ ds.length → W i τ g → St g) ∧
  (∀ i d τ g, ds[i]? = some d → W i τ g → gt d τ g fun τ2 g2 => mb { E with nx := fun τ' g' => ∃ g3, Le g3 g' ∧ W (i + 1) τ' g3, ct := fun τ' g' => ∃ g3, Le g3 g' ∧ W (i + 1) τ' g3, bk := E.nx } τ2 g2) ∧
  ∀ τ g, W ds.length τ g → E.nx τ g
theorem st_for {τ : MSt} {g : MH} {E : MEnds} {mi : TIM} {gt : TGM} {mb : TSM} (h : mi τ g (onFor gt mb E τ)) : mFor mi gt mb E τ g := h
def onLc (t : TGM) (mt : TTM) (me : TEM) (vs : List Nat) (τ : MSt) (Q : MVK) : List D → (MH → Prop) → MH → Prop := fun ds St g1 => ds.length ≤ 10000 ∧ ∃ W : Nat → List D → MH → Prop, (∃ g2, Le g2 g1 ∧ W 0 [] g2) ∧ (∀ i acc g, i ≤ ds.length → W i acc g → St g) ∧
  (∀ i d acc g, ds[i]? = some d → W i acc g → t d (wipeM τ vs) g fun τ2 g2 => mt τ2 g2 fun b g3 => if b = true then me τ2 g3 fun y g4 => ∃ g5, Le g5 g4 ∧ W (i + 1) (acc ++ [y]) g5 else ∃ g5, Le g5 g3 ∧ W (i + 1) acc g5) ∧
  ∀ acc g, W ds.length acc g → ∀ p, g p = none → Q (.ref p) (gup g p (.lst acc))
theorem st_lc {τ : MSt} {g : MH} {Q : MVK} {mi : TIM} {gt : TGM} {mt : TTM} {me : TEM} {vs : List Nat} (h : mi τ g (onLc gt mt me vs τ Q)) : mLc mi gt mt me vs τ g Q := h
theorem st_Tb {b : Bool} {P R : Prop} (e : b = true) (h : P) : if b = true then P else R := by rw [if_pos e]; exact h
theorem st_Fb {b : Bool} {P R : Prop} (e : b = false) (h : R) : if b = true then P else R := by rw [e, if_neg (by decide)]; exact h
/-- the n-th of many -/
theorem perm_at {α : Type} : ∀ {l : List α} {i : Nat} {x : α}, l[i]? = some x → ∀ y : α, ∃ r, l.Perm (x :: r) ∧ (l.set i y).Perm (y :: r)
  | [], i, x, h, _ => by simp at h
  | z :: l, 0, x, h, y => by
    simp at h; subst h
    exact ⟨l, .refl _, .refl _⟩
  | z :: l, i + 1, x, h, y => by
    obtain ⟨r, h1, h2⟩ := perm_at (l := l) (i := i) (by simpa using h) y
    exact ⟨z :: r, (h1.cons z).trans (.swap ..), by rw [List.set_cons_succ]; exact (h2.cons z).trans (.swap ..)⟩
theorem Chg.setAt {g : MH} {L : Blk} {i : Nat} {a : Addr} {o o' : GO} (h : Own g L) (e : L[i]? = some (a, o)) : Chg g (gup g a o') L (L.set i (a, o')) := by
  obtain ⟨r, h1, h2⟩ := perm_at e (a, o')
  exact (Chg.set (h.perm h1)).perm h1.symm h2.symm
abbrev LK := Int × Int × Int
def keyD (k : LK) : D := .tup [.int k.1, .int k.2.1, .int k.2.2]
def letD (l : LK × Int) : D := .tup [keyD l.1, .int l.2]
section
variable {τ : MSt} {g : MH} {Q : MVK} {QS : MSt → MH → Prop} {gts : TGsM} {x : LK × Int} {k : LK}
theorem st_let0 (h : Q (keyD x.1) g) : rIxM (letD x) (.int 0) g Q := st_ixT (ds := [keyD x.1, .int x.2]) rfl h
theorem st_let1 (h : Q (.int x.2) g) : rIxM (letD x) (.int 1) g Q := st_ixT (ds := [keyD x.1, .int x.2]) rfl h
theorem st_key0 (h : Q (.int k.1) g) : rIxM (keyD k) (.int 0) g Q := st_ixT (ds := [.int k.1, .int k.2.1, .int k.2.2]) rfl h
theorem st_key1 (h : Q (.int k.2.1) g) : rIxM (keyD k) (.int 1) g Q := st_ixT (ds := [.int k.1, .int k.2.1, .int k.2.2]) rfl h
theorem st_key2 (h : Q (.int k.2.2) g) : rIxM (keyD k) (.int 2) g Q := st_ixT (ds := [.int k.1, .int k.2.1, .int k.2.2]) rfl h
theorem st_letT (h : gts [keyD x.1, .int x.2] τ g QS) : gT 2 gts (letD x) τ g QS := ⟨rfl, h⟩
end
section
variable {P : Program} {w : World} {K : PySem.W.Frag} {mg : Str → Option Value} {base : Heap}
theorem fm_false {x qual : Str} {st : Stmt} {f : Addr} {ps : List Str} (F : ∃ fd, Fun K x qual st f fd ∧ Binds K fd ps []) : FnM P w K mg base 0 f ps (fun _ _ _ _ => False) := by
  obtain ⟨fd, F1, F2⟩ := F
  exact ⟨⟨fd, ⟨fun vs H Q E ⟨_, _, _, _, _, h⟩ => h.elim, fun A outer s H args us vs Q E _ _ _ _ ⟨_, _, _, _, _, h⟩ => h.elim⟩, F2⟩, fun _ _ _ _ _ _ _ _ h => h, F1.kp⟩
/-- the law's own def: its function object is given -/
theorem fm_law {x qual : Str} {st : Stmt} {f : Addr} {N ps : List Str} {k : Nat} {sp : SpM} {m : WM → TSM} {fd : FuncData} (F1 : Fun K x qual st f fd) (S : FnScope N ps (defScope st)) (len : ∀ ds g Q E, sp ds g Q E → ds.length = ps.length)
    (hb : ∀ (cdv : Value) (A : Around) (outer : List Env) (s : Shared) (H : Hp) (E : XK) (B : Bs) (W : WM), Room k (A.deeper (PyProof.Rows.envOfC qual (defScope st) s.heap.objs.size f cdv)) →
      Takes (cxOf (L2.CX P w) P w K mg base N qual (defScope st) f cdv A outer s H E) (LW K B W) → MSs (cxOf (L2.CX P w) P w K mg base N qual (defScope st) f cdv A outer s H E) B (defBody st) (m W))
    (hm : ∀ ds g Q E, sp ds g Q E → m (fun c fs _ g => E c fs g) { nx := fun _ g' => ∃ g2, Le g2 g' ∧ Q .non g2, rt := Q } (startM N ds) g) : FnOk P w K mg base (L2.CX P w) (k + 1) f fd ps (LSp K sp) := by
  refine F1.okX S (fun vs H Q E ⟨ds, g, B, R, r, h⟩ => by rw [r.length]; exact len _ _ _ _ h) (fun cdv A outer s H vs Q E hr ⟨ds, g, B, R, r, h⟩ => ?_)
  have tk : Takes (cxOf (L2.CX P w) P w K mg base N qual (defScope st) f cdv A outer s H E) (fun cls d _ H => E cls d H) := takes_of rfl rfl rfl rfl
  have b := hb cdv A outer s H E B (fun c fs _ g' => ∀ d H', RepG K H' g' B → RXD K H' d fs → E c d H') hr (tk.imp fun c d σ H' ⟨τ, g', fs, R', rd, h⟩ => h d H' R'.G rd)
  refine ⟨_, b.run, ?_⟩
  refine LS.seq b.mono (Bs.le_refl _) ⟨R, startM_rep r⟩ (hm ds g _ _ h) ⟨fun τ g' ⟨g2, l, q⟩ σ' H' R' => q _ H' (R'.G.drop l) RV.non, fun d g' q v H' R' rv => q v H' R' rv, fun _ _ q => q.elim, fun _ _ q => q.elim⟩
end
/-- what a law promises -/
def spLaw : SpM := fun ds g Q _ => ∃ ns : List Int, ds = [.fl (ns.map D.int)] ∧ ns.length ≤ 63 ∧ ∀ g', Q (.bl true) g'
theorem walkM {l : PySem.W.OpenLaw} {q : Program} {loose : List Str} {XP : (Str → Option Value) → Heap → Prop} {YP : World → Heap → Prop} {d : DefRec} {K : Params → PySem.W.Frag} {k : Nat} {x : Str} (hn : l.most = some 63) (hdf : d.params.defaults = []) (hr : Room k callerA)
    (hY : ∀ (w : World) (h : Heap), YP w h → (K w.params).In h)
    (F : ∀ (w : World) (mg : Str → Option Value) (fa : Addr) (h : Heap), (K w.params).In h → h.Ns mainGlobals mg → mg d.name = some (.ref fa) →
      ∃ fd : FuncData, (∀ (s : Shared) (u : Value), BindsTo s fd ⟨[u], []⟩ [(x, u)]) ∧ ∀ base : Heap, (K w.params).In base → base.Ns mainGlobals mg → FnOk l.prog w (K w.params) mg base (L2.CX l.prog w) k fa fd [x] (LSp (K w.params) spLaw)) :
    PySem.W.WalkO q loose XP YP l.row.toRowW d [] (fun f vs => PySem.call f vs) :=
  L2.walk_of (n := 63) (k := k) (x := x) (CX := fun w => L2.CX l.prog w) (sp := fun w => LSp (K w.params) spLaw) hn (by decide) hdf hr hY F
    (fun w H a ns hl hO hS => ⟨[.fl (ns.map D.int)], fun _ => none, ⟨[], []⟩, ⟨fun _ _ h => (nomatch h), fun _ h => (nomatch h), fun _ h => (nomatch h)⟩, law_start hO hS, ns, rfl, hl, fun g' v H' _ r => RV.bl_inv r⟩)
    fun w H s e s' ⟨_, _, _, _, _, _, _, _, _, _, _, _, h⟩ => h
/-- a block cut in two: what is known between -/
theorem seq_cut {m n : TSM} {E : MEnds} {τ : MSt} {g : MH} (P : MSt → MH → Prop) (h1 : ∀ N : MSt → MH → Prop, (∀ τ g, P τ g → N τ g) → m { E with nx := N } τ g) (h2 : ∀ τ g, P τ g → n E τ g) : mSeq m n E τ g := h1 (n E) h2
theorem flat_at {α β : Type} {f : α → List β} : ∀ {l : List α} {i : Nat} {x : α}, l[i]? = some x → ∃ R, ∀ y, ((l.set i y).map f).flatten.Perm (f y ++ R)
  | [], i, x, h => by simp at h
  | z :: l, 0, x, h => ⟨(l.map f).flatten, fun y => by rw [List.set_cons_zero, List.map_cons, List.flatten_cons]⟩
  | z :: l, i + 1, x, h => by
    obtain ⟨R, hR⟩ := flat_at (f := f) (l := l) (i := i) (by simpa using h)
    refine ⟨f z ++ R, fun y => ?_⟩
    rw [List.set_cons_succ, List.map_cons, List.flatten_cons]
    refine ((hR y).append_left (f z)).trans ?_
    rw [← List.append_assoc, ← List.append_assoc]
    exact List.perm_append_comm.append_right _
theorem set_self {α : Type} {l : List α} {i : Nat} {x : α} (h : l[i]? = some x) : l.set i x = l := by
  apply List.ext_getElem?
  intro j
  by_cases e : i = j
  · subst e; rw [List.getElem?_set_self (List.getElem?_eq_some_iff.mp h).1, h]
  · rw [List.getElem?_set_ne e]
theorem st_lenL {g : MH} {Q : MVK} {a : Addr} {ds : List D} (e : g a = some (.lst ds)) (h : Q (.int (ds.length : Nat)) g) : r1 lenD [.ref a] g Q := ⟨_, by unfold lenD; simp only [e], h⟩
end M

local macro_rules
  | `(tactic| nofun) => `(tactic| first
    | assumption
    | exact M.gup_same
    | exact M.Own.get (by assumption) (by simp only [List.mem_cons, true_or, or_true])
    | (rw [M.gup_ne (by first | assumption | exact Ne.symm (by assumption))]; nofun))
local macro_rules
  | `(tactic| ac_rfl) => `(tactic| first
    | with_reducible apply M.st_seq
    | ((with_reducible apply M.st_var); (focus rfl))
    | with_reducible apply M.st_c
    | with_reducible apply M.st_cons
    | with_reducible apply M.st_nil
    | with_reducible apply M.st_op
    | with_reducible apply M.st_set
    | with_reducible apply M.st_cb
    | with_reducible apply M.st_call
    | with_reducible apply M.st_if
    | with_reducible apply M.st_test
    | with_reducible apply M.st_onB
    | with_reducible apply M.st_ret
    | with_reducible apply M.st_next
    | with_reducible apply M.st_drop
    | with_reducible apply M.st_not
    | with_reducible apply M.st_and
    | with_reducible apply M.st_or
    | with_reducible apply M.st_asg
    | with_reducible apply M.st_par
    | with_reducible apply M.st_onPar
    | with_reducible apply M.st_put
    | with_reducible apply M.st_andV
    | with_reducible apply M.st_orV
    | with_reducible apply M.st_notV
    | with_reducible apply M.st_ifE
    | with_reducible apply M.st_chain
    | with_reducible apply M.st_tup
    | with_reducible apply M.st_lst
    | with_reducible apply M.st_make
    | with_reducible apply M.st_fld
    | with_reducible apply M.st_meth
    | with_reducible apply M.st_bm
    | with_reducible apply M.st_gN
    | ((with_reducible apply M.st_gT); (focus rfl))
    | with_reducible apply M.st_gNil
    | with_reducible apply M.st_gCons
    | with_reducible apply M.st_gS
    | with_reducible apply M.st_sl
    | with_reducible apply M.st_noPart
    | with_reducible apply M.st_part
    | with_reducible apply M.st_onI
    | with_reducible apply M.st_for
    | with_reducible apply M.st_lc
    | with_reducible apply M.st_iAny
    | with_reducible apply M.st_anyT
    | with_reducible apply M.st_anyF
    | ((with_reducible apply M.st_anyL); (focus nofun))
    | with_reducible apply M.st_iRange
    | ((with_reducible apply M.st_onRange); (focus omega); (focus omega))
    | with_reducible apply M.st_iEnum
    | ((with_reducible apply M.st_onEnum); (focus nofun))
    | with_reducible apply M.st_iTmp
    | ((with_reducible apply M.st_onTmp); (focus nofun))
    | ((with_reducible apply M.st_onFld); (focus nofun); (focus (first | exact List.mem_cons_self | simp)); (focus rfl))
    | ((with_reducible apply M.st_onPut); (focus nofun); (focus (first | exact List.mem_cons_self | simp)); (focus exact Nat.le_of_ble_eq_true rfl))
    | ((with_reducible apply M.st_isL); (focus nofun))
    | ((with_reducible apply M.st_onMeth); (focus nofun); (focus rfl); (focus (first | exact List.mem_cons_self | exact List.mem_cons_of_mem _ List.mem_cons_self)))
    | with_reducible apply M.st_addI
    | with_reducible apply M.st_eqI
    | with_reducible apply M.st_neI
    | with_reducible apply M.st_eqS
    | with_reducible apply M.st_neS
    | with_reducible apply M.st_eqB
    | with_reducible apply M.st_neB
    | with_reducible apply M.st_is
    | with_reducible apply M.st_isnot
    | with_reducible apply M.st_let0
    | with_reducible apply M.st_let1
    | with_reducible apply M.st_key0
    | with_reducible apply M.st_key1
    | with_reducible apply M.st_key2
    | with_reducible apply M.st_letT
    | ((with_reducible apply M.st_ixT); (focus rfl))
    | ((with_reducible apply M.st_I2); (focus trivial))
    | with_reducible apply M.st_yes
    | with_reducible apply M.st_T
    | with_reducible apply M.st_nF
    | with_reducible apply M.st_nT
    | with_reducible apply M.st_F
    | ((with_reducible apply M.st_isi); (focus (first | rfl | assumption)))
    | ((with_reducible apply M.st_lenL); (focus nofun))
    | ((with_reducible apply M.st_1); (focus (first | rfl)))
    | ((with_reducible apply M.st_Tb); (focus rfl))
    | ((with_reducible apply M.st_Fb); (focus rfl)))

namespace M
open PySem L2
abbrev intsD (ms : List Int) : List D := ms.map D.int
def DiceOk (ms : List Int) : Prop := ∃ f c r, ms = f :: c :: r ∧ 0 ≤ f ∧ f < 2147483647 ∧ 0 ≤ c ∧ r.length ≤ 63 ∧ ∀ x ∈ r, 0 ≤ x
/-- is_between's answer -/
def isBet (x : D) (l h : Int) : Bool := match x with
  | .int p => decide (l ≤ p ∧ p ≤ h)
  | _ => false
def isKeyD (x : D) : Bool := match x with
  | .tup [a, b, c] => isBet a 0 9 && isBet b 0 9 && isBet c 0 999
  | _ => false
def keyP (k : LK) : PyData := .tuple [.int k.1, .int k.2.1, .int k.2.2]
structure KeyOk (k : LK) : Prop where
  a0 : 0 ≤ k.1
  a1 : k.1 ≤ 9
  b0 : 0 ≤ k.2.1
  b1 : k.2.1 ≤ 9
  c0 : 0 ≤ k.2.2
  c1 : k.2.2 ≤ 999
theorem isKeyD_key {k : LK} (h : KeyOk k) : isKeyD (keyD k) = true := by
  have := h.a0; have := h.a1; have := h.b0; have := h.b1; have := h.c0; have := h.c1
  simp [isKeyD, keyD, isBet, *]
theorem isBet_int {p l h : Int} (a : l ≤ p) (b : p ≤ h) : isBet (.int p) l h = true := by simp [isBet, a, b]
/-- all kinds of things are known, to the depth that is looked at -/
def Tyd (g : MH) (x : D) : Prop := ∃ t, tyOf g x = some t
def Tyt (g : MH) (x : D) : Prop := Tyd g x ∧ ∀ ds, x = .tup ds → ∀ d ∈ ds, Tyd g d
theorem tyd_int {g : MH} {i : Int} : Tyd g (.int i) := ⟨_, rfl⟩
theorem tyt_key {g : MH} {k : LK} : Tyt g (keyD k) := ⟨⟨_, rfl⟩, fun ds e d hd => by
  unfold keyD at e
  cases e
  simp only [List.mem_cons, List.not_mem_nil, or_false] at hd
  rcases hd with rfl | rfl | rfl <;> exact ⟨_, rfl⟩⟩
/-- a comprehension that makes n new objects -/
theorem lc_news {τ : MSt} {g : MH} {Q : MVK} {i : Nat} {n : Int} {me : TEM} {o : GO} (h0 : 0 ≤ n) (h1 : n < 10000) (hme : ∀ τ g (Q : MVK), (∀ p, g p = none → Q (.ref p) (gup g p o)) → me τ g Q)
    (k : ∀ (ls : List Addr) p g', ls.length = n.toNat → Chg g g' [] ((p, .lst (ls.map .ref)) :: ls.map (·, o)) → Q (.ref p) g') : onLc (gN i) mYes me [i] τ Q (rangeD 0 n.toNat) (fun _ => True) g := by
  refine ⟨by rw [rangeD_length]; omega, fun j acc g' => ∃ ls : List Addr, ls.length = j ∧ acc = ls.map .ref ∧ Chg g g' [] (ls.map (·, o)), ⟨g, Le.refl _, [], rfl, rfl, Chg.refl Own.nil⟩, fun _ _ _ _ _ => trivial, ?_, ?_⟩
  · rintro j d acc g' _ ⟨ls, hl, rfl, x⟩
    repeat ac_rfl
    refine hme _ _ _ fun p hp => ⟨_, Le.refl _, ls ++ [p], by rw [List.length_append, hl]; rfl, by rw [List.map_append]; rfl, ?_⟩
    rw [List.map_append]
    exact (x.trans (Chg.new x.own hp)).perm (.refl _) (List.perm_append_singleton ..).symm
  · rintro acc g' ⟨ls, hl, rfl, x⟩ p hp
    rw [rangeD_length] at hl
    exact k ls p _ hl (x.trans (Chg.new x.own hp))
/-! ### alike -/
def Alk (g : MH) : Nat → D → D → Prop
  | n, x, y => match x, y with
    | .non, .non => True
    | .bl a, .bl b => a = b
    | .int a, .int b => a = b
    | .str a, .str b => a = b
    | .tup xs, .tup ys => match n with
      | 0 => False
      | n + 1 => xs.length ≤ 10000 ∧ xs.length = ys.length ∧ ∀ (i : Nat) x y, xs[i]? = some x → ys[i]? = some y → Alk g n x y
    | .ref a, .ref b => match n with
      | 0 => False
      | n + 1 => ∃ xs ys, g a = some (.lst xs) ∧ g b = some (.lst ys) ∧ xs.length ≤ 10000 ∧ xs.length = ys.length ∧ ∀ (i : Nat) x y, xs[i]? = some x → ys[i]? = some y → Alk g n x y
    | _, _ => False
/-- plain data of a depth -/
def Pln : Nat → D → Prop
  | n, x => match x with
    | .non => True
    | .bl _ => True
    | .int _ => True
    | .str _ => True
    | .tup xs => match n with
      | 0 => False
      | n + 1 => xs.length ≤ 10000 ∧ ∀ x ∈ xs, Pln n x
    | _ => False
theorem alk_refl {g : MH} : ∀ {n : Nat} {x : D}, Pln n x → Alk g n x x
  | 0, .non, _ => by unfold Alk; trivial
  | 0, .bl _, _ => by unfold Alk; trivial
  | 0, .int _, _ => by unfold Alk; trivial
  | 0, .str _, _ => by unfold Alk; trivial
  | 0, .tup _, h => by unfold Pln at h; exact h.elim
  | 0, .ref _, h => by unfold Pln at h; exact h.elim
  | 0, .ty _, h => by unfold Pln at h; exact h.elim
  | 0, .fl _, h => by unfold Pln at h; exact h.elim
  | n + 1, .non, _ => by unfold Alk; trivial
  | n + 1, .bl _, _ => by unfold Alk; trivial
  | n + 1, .int _, _ => by unfold Alk; trivial
  | n + 1, .str _, _ => by unfold Alk; trivial
  | n + 1, .tup xs, h => by
    unfold Pln at h
    unfold Alk
    refine ⟨h.1, rfl, fun i x y e e2 => ?_⟩
    rw [e] at e2; cases e2
    exact alk_refl (h.2 x (List.mem_of_getElem? e))
  | n + 1, .ref _, h => by unfold Pln at h; exact h.elim
  | n + 1, .ty _, h => by unfold Pln at h; exact h.elim
  | n + 1, .fl _, h => by unfold Pln at h; exact h.elim
theorem alk_list {g : MH} {n : Nat} {a b : Addr} {ds : List D} (ha : g a = some (.lst ds)) (hb : g b = some (.lst ds)) (hl : ds.length ≤ 10000) (hp : ∀ d ∈ ds, Pln n d) : Alk g (n + 1) (.ref a) (.ref b) := by
  unfold Alk
  refine ⟨ds, ds, ha, hb, hl, rfl, fun i x y e e2 => ?_⟩
  rw [e] at e2; cases e2
  exact alk_refl (hp x (List.mem_of_getElem? e))
theorem pln_key {n : Nat} {k : LK} : Pln (n + 1) (keyD k) := by
  unfold keyD Pln
  refine ⟨by simp, fun x hx => ?_⟩
  simp only [List.mem_cons, List.not_mem_nil, or_false] at hx
  rcases hx with rfl | rfl | rfl <;> (unfold Pln; trivial)
theorem pln_int {n : Nat} {k : Int} : Pln n (.int k) := by unfold Pln; trivial
theorem pln_bl {n : Nat} {k : Bool} : Pln n (.bl k) := by unfold Pln; trivial
theorem pln_str {n : Nat} {k : Str} : Pln n (.str k) := by unfold Pln; trivial
theorem pln_non {n : Nat} : Pln n .non := by unfold Pln; trivial
theorem pln_let {n : Nat} {l : LK × Int} : Pln (n + 2) (letD l) := by
  unfold letD Pln
  refine ⟨by simp, fun x hx => ?_⟩
  simp only [List.mem_cons, List.not_mem_nil, or_false] at hx
  rcases hx with rfl | rfl
  · exact pln_key
  · exact pln_int
end M
namespace M
open PySem L2
theorem ixN_at {n k : Nat} (h : k < n) : ixN n (k : Int) = some k := by
  unfold ixN
  rw [if_pos (by omega), if_pos (by omega)]
  simp
theorem atI_at {α : Type} {l : List α} {k : Nat} {x : α} (h : l[k]? = some x) : atI l (k : Int) = some x := by
  have hk : k < l.length := (List.getElem?_eq_some_iff.mp h).1
  unfold atI
  rw [ixN_at hk]
  exact h
theorem atI_0 {α : Type} {x : α} {l : List α} : atI (x :: l) 0 = some x := atI_at (k := 0) rfl
theorem atI_1 {α : Type} {x y : α} {l : List α} : atI (x :: y :: l) 1 = some y := atI_at (k := 1) rfl
theorem atI_2 {α : Type} {x y z : α} {l : List α} : atI (x :: y :: z :: l) 2 = some z := atI_at (k := 2) rfl
theorem ixN_0 {n : Nat} : ixN (n + 1) 0 = some 0 := ixN_at (k := 0) (by omega)
theorem ixN_1 {n : Nat} : ixN (n + 2) 1 = some 1 := ixN_at (k := 1) (by omega)
theorem ixN_2 {n : Nat} : ixN (n + 3) 2 = some 2 := ixN_at (k := 2) (by omega)
/-- the dice, and what else is owned -/
def DOwn (g : MH) (d : Addr) (R : Blk) : Prop := ∃ ms, DiceOk ms ∧ Own g ((d, .lst (intsD ms)) :: R)
section
variable {g g' : MH} {d a p : Addr} {R R' L L' : Blk} {o : GO}
theorem DOwn.get (h : DOwn g d R) (m : (a, o) ∈ R) : g a = some o := by obtain ⟨ms, ok, h⟩ := h; exact h.get (List.mem_cons_of_mem _ m)
theorem DOwn.own (h : DOwn g d R) : Own g R := by obtain ⟨ms, ok, h⟩ := h; exact h.tail
theorem DOwn.new (h : DOwn g d R) (hp : g p = none) : DOwn (gup g p o) d ((p, o) :: R) := by
  obtain ⟨ms, ok, h⟩ := h
  exact ⟨ms, ok, (h.add hp).perm (.swap ..)⟩
theorem DOwn.perm (h : DOwn g d R) (p : R.Perm R') : DOwn g d R' := by obtain ⟨ms, ok, h⟩ := h; exact ⟨ms, ok, h.perm (p.cons _)⟩
theorem DOwn.chg (h : DOwn g d (L ++ R)) (c : Chg g g' L L') : DOwn g' d (L' ++ R) := by
  obtain ⟨ms, ok, h⟩ := h
  have h2 : Own g (L ++ ((d, .lst (intsD ms)) :: R)) := h.perm List.perm_middle.symm
  exact ⟨ms, ok, (c.keep h2).perm List.perm_middle⟩
theorem DOwn.sub (h : DOwn g d R) (s : R'.Sublist R) : DOwn g d R' := by
  obtain ⟨ms, ok, h⟩ := h
  refine ⟨ms, ok, ⟨h.nd.sublist ((s.cons_cons _).map _), fun p hp => h.at_ p ((s.cons_cons _).subset hp)⟩⟩
theorem DOwn.right (h : DOwn g d (L ++ R)) : DOwn g d R := h.sub (List.sublist_append_right ..)
theorem DOwn.left (h : DOwn g d (L ++ R)) : DOwn g d L := h.sub (List.sublist_append_left ..)
theorem DOwn.tail {q : Addr × GO} (h : DOwn g d (q :: R)) : DOwn g d R := h.sub (List.sublist_cons_self ..)
theorem DOwn.le (h : DOwn g d R) (l : Le g g') : DOwn g' d R := by obtain ⟨ms, ok, h⟩ := h; exact ⟨ms, ok, h.le l⟩
theorem DOwn.set {o' : GO} (h : DOwn g d ((a, o) :: R)) : DOwn (gup g a o') d ((a, o') :: R) := h.chg (L := [(a, o)]) (L' := [(a, o')]) ((Chg.set (h.left (L := [(a, o)])).own))
end
/-- a comprehension that changes nothing -/
theorem lc_pure {τ : MSt} {g : MH} {Q : MVK} {t : TGM} {mt : TTM} {me : TEM} {vs : List Nat} {ds : List D} {St : MH → Prop} (f : D → Option D) (hl : ds.length ≤ 10000) (hst : St g)
    (hs : ∀ d ∈ ds, ∀ (Y : D → MH → Prop) (N : MH → Prop), (∀ y, f d = some y → Y y g) → (f d = none → N g) → t d (wipeM τ vs) g fun τ2 g2 => mt τ2 g2 fun b g3 => if b = true then me τ2 g3 Y else N g3)
    (k : ∀ p, g p = none → Q (.ref p) (gup g p (.lst (ds.filterMap f)))) : onLc t mt me vs τ Q ds St g := by
  refine ⟨hl, fun j acc g' => g' = g ∧ acc = (ds.take j).filterMap f, ⟨g, Le.refl _, rfl, rfl⟩, fun _ _ g' _ h => by rw [h.1]; exact hst, ?_, ?_⟩
  · rintro j d acc g' hd ⟨rfl, rfl⟩
    have et : ds.take (j + 1) = ds.take j ++ [d] := by rw [List.take_add_one, hd]; rfl
    refine hs d (List.mem_of_getElem? hd) _ _ (fun y hy => ?_) (fun hn => ?_)
    · refine ⟨g', Le.refl _, rfl, ?_⟩
      rw [et, List.filterMap_append]; simp [hy]
    · refine ⟨g', Le.refl _, rfl, ?_⟩
      rw [et, List.filterMap_append]; simp [hn]
  · rintro acc g' ⟨rfl, rfl⟩ p hp
    rw [List.take_length]
    exact k p hp
end M

namespace M
open PySem L2
/-! ### rows -/
structure RowsS where
  nm : Int
  kn : Bool
  sh : List (List (LK × Int))
def shB (ls : List Addr) (sh : List (List (LK × Int))) : Blk := List.zipWith (fun l x => (l, GO.lst (x.map letD))) ls sh
def rowsB (C a s : Addr) (ls : List Addr) (w : RowsS) : Blk := (a, .ins C [("world", .int w.nm), ("knows", .bl w.kn), ("shelves", .ref s)]) :: (s, .lst (ls.map .ref)) :: shB ls w.sh
theorem shB_get {ls : List Addr} {sh : List (List (LK × Int))} {i : Nat} {l : Addr} {x : List (LK × Int)} (h1 : ls[i]? = some l) (h2 : sh[i]? = some x) : (shB ls sh)[i]? = some (l, GO.lst (x.map letD)) := by
  unfold shB; rw [List.getElem?_zipWith, h1, h2]
theorem shB_set {ls : List Addr} {sh : List (List (LK × Int))} {i : Nat} {l : Addr} {y : List (LK × Int)} (h1 : ls[i]? = some l) : (shB ls sh).set i (l, GO.lst (y.map letD)) = shB ls (sh.set i y) := by
  unfold shB
  apply List.ext_getElem?
  intro j
  rw [List.getElem?_zipWith, List.getElem?_set, List.getElem?_set]
  by_cases e : i = j
  · subst e
    rw [h1]
    simp only [if_true, List.length_zipWith]
    have hl : i < ls.length := (List.getElem?_eq_some_iff.mp h1).1
    by_cases h : i < sh.length
    · rw [if_pos (by omega), if_pos h]
    · rw [if_neg (by omega), if_neg h]
  · rw [if_neg e, if_neg e, List.getElem?_zipWith]
theorem shB_ad {ls : List Addr} {sh : List (List (LK × Int))} (h : ls.length = sh.length) : (shB ls sh).ad = ls := by
  unfold shB Blk.ad
  rw [List.map_zipWith]
  induction ls generalizing sh with
  | nil => rfl
  | cons a ls ih =>
    match sh, h with
    | x :: sh, h => simp only [List.zipWith_cons_cons]; rw [ih (by simpa using h)]
/-- what write does to a row -/
def keyIx (l : List (LK × Int)) (k : LK) : Option Nat := l.findIdx? fun x => decide (x.1 = k)
def writeR (kn : Bool) (l : List (LK × Int)) (k : LK) (b : Int) : Nat × List (LK × Int) :=
  match (if kn then keyIx l k else none) with
  | some i => (i, l)
  | none => (l.length, l ++ [(k, b)])
def RowsS.row (w : RowsS) (r : Nat) : List (LK × Int) := w.sh.getD r []
def RowsS.setRow (w : RowsS) (r : Nat) (l : List (LK × Int)) : RowsS := { w with sh := w.sh.set r l }
theorem RowsS.row_get {w : RowsS} {r : Nat} (h : r < w.sh.length) : w.sh[r]? = some (w.row r) := by
  unfold RowsS.row; rw [List.getD_eq_getElem?_getD, List.getElem?_eq_getElem h]; rfl
structure RowsS.Ok (w : RowsS) : Prop where
  len : w.sh.length = 6
  few : ∀ l ∈ w.sh, l.length ≤ 5000
theorem RowsS.setRow_self {w : RowsS} {r : Nat} (h : r < w.sh.length) : w.setRow r (w.row r) = w := by
  have e : w.sh.set r (w.row r) = w.sh := by
    apply List.ext_getElem?
    intro j
    by_cases z : r = j
    · subst z; rw [List.getElem?_set_self h, w.row_get h]
    · rw [List.getElem?_set_ne z]
  unfold RowsS.setRow
  rw [e]
theorem RowsS.Ok.row {w : RowsS} (h : w.Ok) (r : Nat) : (w.row r).length ≤ 5000 := by
  by_cases hr : r < w.sh.length
  · exact h.few _ (List.mem_of_getElem? (w.row_get hr))
  · unfold RowsS.row; rw [List.getD_eq_getElem?_getD, List.getElem?_eq_none (by omega)]; simp
theorem rowsB_get {C a s : Addr} {ls : List Addr} {w : RowsS} {r : Nat} {l : Addr} (h1 : ls[r]? = some l) (h : r < w.sh.length) : (rowsB C a s ls w)[r + 2]? = some (l, GO.lst ((w.row r).map letD)) := by
  unfold rowsB; exact shB_get h1 (w.row_get h)
theorem rowsB_set {C a s : Addr} {ls : List Addr} {w : RowsS} {r : Nat} {l : Addr} {y : List (LK × Int)} (h1 : ls[r]? = some l) : (rowsB C a s ls w).set (r + 2) (l, GO.lst (y.map letD)) = rowsB C a s ls (w.setRow r y) := by
  unfold rowsB
  rw [List.set_cons_succ, List.set_cons_succ, shB_set h1]; rfl
theorem writeR_at {l : List (LK × Int)} {k : LK} {b : Int} {i : Nat} {x : LK × Int} (h : l[i]? = some x) (e : x.1 = k) (n : ∀ (j : Nat) y, j < i → l[j]? = some y → y.1 ≠ k) : writeR true l k b = (i, l) := by
  have : keyIx l k = some i := by
    unfold keyIx
    rw [List.findIdx?_eq_some_iff_getElem]
    obtain ⟨h1, h2⟩ := List.getElem?_eq_some_iff.mp h
    refine ⟨h1, by rw [h2]; simpa using e, fun j hj => ?_⟩
    have := n j l[j] hj (List.getElem?_eq_getElem (by omega))
    simpa using this
  unfold writeR
  rw [if_pos rfl, this]
theorem writeR_new {kn : Bool} {l : List (LK × Int)} {k : LK} {b : Int} (n : kn = true → ∀ x ∈ l, x.1 ≠ k) : writeR kn l k b = (l.length, l ++ [(k, b)]) := by
  unfold writeR
  cases kn with
  | false => rw [if_neg (by decide)]
  | true =>
    have : keyIx l k = none := by
      unfold keyIx
      rw [List.findIdx?_eq_none_iff]
      intro x hx
      simpa using n rfl x hx
    rw [if_pos rfl, this]
theorem eqv_key {a b : LK} : PyData.eqv (keyP a) (keyP b) = decide (a = b) := by
  obtain ⟨a1, a2, a3⟩ := a
  obtain ⟨b1, b2, b3⟩ := b
  unfold keyP
  simp [PyData.eqv, PyData.eqvAll]
  rfl
theorem pdat_key {k : LK} : pdat (keyD k) = some (keyP k) := by
  unfold keyD keyP; simp [pdat, pdats]
theorem cutD_nat {xs : List D} {p m : Nat} : cutD xs (some (p : Int)) (some ((p : Int) + (m : Int))) = (xs.drop p).take m := by
  unfold cutD
  rw [show ((p : Int) + (m : Int)) = ((p + m : Nat) : Int) by omega, HT.sIx_nat, HT.sIx_nat]
  by_cases h : p ≤ xs.length
  · rw [Nat.min_eq_left h]
    apply List.ext_getElem?
    intro i
    rw [List.getElem?_take, List.getElem?_take, List.getElem?_drop]
    by_cases h1 : i < m
    · rw [if_pos h1]
      by_cases h2 : i < min (p + m) xs.length - p
      · rw [if_pos h2]
      · rw [if_neg h2, List.getElem?_eq_none (by omega)]
    · rw [if_neg h1, if_neg (by omega)]
  · rw [List.drop_eq_nil_of_le (by omega), List.drop_eq_nil_of_le (by omega)]; simp
structure Shp (n : Nat) (d : PyData) : Prop where
  lay : d.canLay0 = true
  dep : d.depth ≤ n
theorem shp_all {n : Nat} : ∀ {xs : List PyData}, (∀ x ∈ xs, Shp n x) → PyData.canLayAll0 xs = true ∧ PyData.depthAll xs ≤ n
  | [], _ => ⟨by simp [PyData.canLayAll0], by simp [PyData.depthAll]⟩
  | x :: xs, h => by
    have h1 := h x List.mem_cons_self
    have h2 := shp_all fun y hy => h y (List.mem_cons_of_mem _ hy)
    exact ⟨by simp [PyData.canLayAll0, h1.lay, h2.1], by simp only [PyData.depthAll]; have := h1.dep; have := h2.2; omega⟩
theorem shp_list {n : Nat} {xs : List PyData} (h : ∀ x ∈ xs, Shp n x) : Shp (n + 1) (.list xs) := ⟨by simp only [PyData.canLay0]; exact (shp_all h).1, by simp only [PyData.depth]; have := (shp_all h).2; omega⟩
theorem shp_tup {n : Nat} {xs : List PyData} (h : ∀ x ∈ xs, Shp n x) : Shp (n + 1) (.tuple xs) := ⟨by simp only [PyData.canLay0]; exact (shp_all h).1, by simp only [PyData.depth]; have := (shp_all h).2; omega⟩
theorem Shp.shaped {n : Nat} {d : PyData} (h : Shp n d) (hn : n ≤ 64 := by decide) : SeqAt.shaped d = true := by
  unfold SeqAt.shaped
  rw [h.lay, decide_eq_true (Nat.le_trans h.dep hn)]; rfl
theorem shp_int {n : Nat} {i : Int} : Shp n (.int i) := ⟨rfl, Nat.zero_le _⟩
theorem shp_bl {n : Nat} {i : Bool} : Shp n (.bool i) := ⟨rfl, Nat.zero_le _⟩
theorem shp_key {n : Nat} {k : LK} : Shp (n + 1) (keyP k) := by
  unfold keyP
  refine shp_tup fun x hx => ?_
  simp only [List.mem_cons, List.not_mem_nil, or_false] at hx
  rcases hx with rfl | rfl | rfl <;> exact shp_int
theorem pdats_map {α : Type} {f : α → D} {h : α → PyData} (e : ∀ x, pdat (f x) = some (h x)) : ∀ l : List α, pdats (l.map f) = some (l.map h)
  | [] => by simp [pdats]
  | x :: l => by simp [pdats, e, pdats_map e l]
theorem pdats_keys (l : List LK) : pdats (l.map keyD) = some (l.map keyP) := pdats_map (fun _ => pdat_key) l
theorem shp_keys {n : Nat} {l : List LK} : Shp (n + 2) (.list (l.map keyP)) := shp_list fun x hx => by
  obtain ⟨k, _, rfl⟩ := List.mem_map.mp hx
  exact shp_key
theorem any_keys {l : List LK} {k : LK} : ((l.map keyP).any fun z => PyData.eqv z (keyP k)) = decide (k ∈ l) := by
  induction l with
  | nil => simp
  | cons a l ih =>
    simp only [List.map_cons, List.any_cons, ih, eqv_key, List.mem_cons]
    by_cases e : a = k
    · simp [e]
    · have : ¬ k = a := fun z => e z.symm
      simp [e, this]
/-- keys compared -/
theorem st_eqK {g : MH} {Q : MVK} {a b : LK} (h : Q (.bl (decide (a = b))) g) : rEqW false (keyD a) (keyD b) g Q := by
  refine ⟨keyP a, keyP b, pdat_key, pdat_key, (shp_key (n := 0)).shaped, (shp_key (n := 0)).shaped, ?_⟩
  rw [if_neg (by decide), eqv_key]; exact h
theorem st_neK {g : MH} {Q : MVK} {a b : LK} (h : Q (.bl (!decide (a = b))) g) : rEqW true (keyD a) (keyD b) g Q := by
  refine ⟨keyP a, keyP b, pdat_key, pdat_key, (shp_key (n := 0)).shaped, (shp_key (n := 0)).shaped, ?_⟩
  rw [if_pos rfl, eqv_key]; exact h
theorem st_inK {g : MH} {Q : MVK} {a : Addr} {k : LK} {l : List LK} (e : g a = some (.lst (l.map keyD))) (h : Q (.bl (decide (k ∈ l))) g) : rInW false (keyD k) (.ref a) g Q := by
  refine .inr ⟨keyP k, l.map keyP, pdat_key, ?_, (shp_key (n := 0)).shaped, (shp_keys (n := 0)).shaped, ?_⟩
  · unfold ldats; simp only [e]; exact pdats_keys l
  · rw [if_neg (by decide), any_keys]; exact h
theorem st_notinK {g : MH} {Q : MVK} {a : Addr} {k : LK} {l : List LK} (e : g a = some (.lst (l.map keyD))) (h : Q (.bl (!decide (k ∈ l))) g) : rInW true (keyD k) (.ref a) g Q := by
  refine .inr ⟨keyP k, l.map keyP, pdat_key, ?_, (shp_key (n := 0)).shaped, (shp_keys (n := 0)).shaped, ?_⟩
  · unfold ldats; simp only [e]; exact pdats_keys l
  · rw [if_pos rfl, any_keys]; exact h
theorem not_idxOf {l : List LK} {k y : LK} : ∀ {j : Nat}, j < l.idxOf k → l[j]? = some y → y ≠ k := by
  induction l with
  | nil => intro j h e; simp at e
  | cons a l ih =>
    intro j h e
    by_cases q : a = k
    · subst q; simp at h
    · rw [List.idxOf_cons] at h
      have : (a == k) = false := by simpa using q
      rw [this] at h
      cases j with
      | zero => simp at e; subst e; exact q
      | succ j => exact ih (by simpa using h) (by simpa using e)
theorem st_indexK {g : MH} {Q : MVK} {a : Addr} {k : LK} {l : List LK} (e : g a = some (.lst (l.map keyD))) (hk : k ∈ l) (h : Q (.int (l.idxOf k : Nat)) g) : onL fIndex (.ref a) [keyD k] g Q := by
  refine st_onL e ?_
  have hi : l.idxOf k < l.length := List.idxOf_lt_length_of_mem hk
  refine ⟨keyP k, l.map keyP, l.idxOf k, keyP k, pdat_key, pdats_keys l, (shp_keys (n := 0)).shaped, (shp_key (n := 0)).shaped, ?_, by rw [eqv_key]; simp, fun m z hm hz => ?_, h⟩
  · rw [List.getElem?_map, List.getElem?_eq_getElem hi, List.getElem_idxOf hi]; rfl
  · rw [List.getElem?_map, List.getElem?_eq_getElem (by omega)] at hz
    cases hz
    rw [eqv_key]
    exact decide_eq_false (not_idxOf hm (List.getElem?_eq_getElem (by omega)))
theorem writeR_known {l : List (LK × Int)} {k : LK} {b : Int} (h : k ∈ l.map (·.1)) : writeR true l k b = ((l.map (·.1)).idxOf k, l) := by
  have hi : (l.map (·.1)).idxOf k < (l.map (·.1)).length := List.idxOf_lt_length_of_mem h
  have hi' : (l.map (·.1)).idxOf k < l.length := by rw [List.length_map] at hi; exact hi
  have e := List.getElem_idxOf hi
  rw [List.getElem_map] at e
  refine writeR_at (List.getElem?_eq_getElem hi') e fun j y hj hy => ?_
  exact not_idxOf hj (by rw [List.getElem?_map, hy]; rfl)
end M

namespace My
open PySem L2 M
/-! ### the text by places -/
def topS (i : Nat) : Stmt := PySem.Challenge.pw_worldbridge_k02_worlds_of_rows.main.body.getD i (.Pass ⟨0, 0, 0, 0⟩)
abbrev s_is_between : Stmt := topS 10
abbrev s_is_key : Stmt := topS 11
abbrev s_need_world : Stmt := topS 12
abbrev s_need_shelf : Stmt := topS 13
abbrev s_need_letter : Stmt := topS 14
abbrev s_need_place : Stmt := topS 15
abbrev s_Rows_init : Stmt := inClass (topS 18) 0
abbrev s_Rows_kind : Stmt := inClass (topS 18) 1
abbrev s_Rows_name : Stmt := inClass (topS 18) 2
abbrev s_Rows_write : Stmt := inClass (topS 18) 3
abbrev s_Rows_read : Stmt := inClass (topS 18) 4
abbrev s_Rows_long : Stmt := inClass (topS 18) 5
abbrev s_law_dice : Stmt := topS 20
abbrev s_law_off : Stmt := topS 21
abbrev s_law_alike : Stmt := topS 22
abbrev s_law_key : Stmt := topS 23
abbrev s_law : Stmt := topS 24
theorem sc_is_between : FnScope ["part", "low", "high"] ["part", "low", "high"] (defScope s_is_between) := ⟨rfl, rfl, rfl, by decide +kernel, rfl, by decide +kernel, by decide +kernel⟩
theorem sc_is_key : FnScope ["key"] ["key"] (defScope s_is_key) := ⟨rfl, rfl, rfl, by decide +kernel, rfl, by decide +kernel, by decide +kernel⟩
theorem sc_need_world : FnScope ["name"] ["name"] (defScope s_need_world) := ⟨rfl, rfl, rfl, by decide +kernel, rfl, by decide +kernel, by decide +kernel⟩
theorem sc_need_shelf : FnScope ["shelf"] ["shelf"] (defScope s_need_shelf) := ⟨rfl, rfl, rfl, by decide +kernel, rfl, by decide +kernel, by decide +kernel⟩
theorem sc_need_letter : FnScope ["shelf", "key", "body"] ["shelf", "key", "body"] (defScope s_need_letter) := ⟨rfl, rfl, rfl, by decide +kernel, rfl, by decide +kernel, by decide +kernel⟩
theorem sc_need_place : FnScope ["place", "many"] ["place", "many"] (defScope s_need_place) := ⟨rfl, rfl, rfl, by decide +kernel, rfl, by decide +kernel, by decide +kernel⟩
theorem sc_Rows_init : FnScope ["self", "name", "knows", "shelf"] ["self", "name", "knows"] (defScope s_Rows_init) := ⟨rfl, rfl, rfl, by decide +kernel, rfl, by decide +kernel, by decide +kernel⟩
theorem sc_Rows_kind : FnScope ["self"] ["self"] (defScope s_Rows_kind) := ⟨rfl, rfl, rfl, by decide +kernel, rfl, by decide +kernel, by decide +kernel⟩
theorem sc_Rows_name : FnScope ["self"] ["self"] (defScope s_Rows_name) := ⟨rfl, rfl, rfl, by decide +kernel, rfl, by decide +kernel, by decide +kernel⟩
theorem sc_Rows_write : FnScope ["self", "row", "key", "body", "letters", "place", "letter"] ["self", "row", "key", "body"] (defScope s_Rows_write) := ⟨rfl, rfl, rfl, by decide +kernel, rfl, by decide +kernel, by decide +kernel⟩
theorem sc_Rows_read : FnScope ["self", "row", "place", "many"] ["self", "row", "place", "many"] (defScope s_Rows_read) := ⟨rfl, rfl, rfl, by decide +kernel, rfl, by decide +kernel, by decide +kernel⟩
theorem sc_Rows_long : FnScope ["self", "row"] ["self", "row"] (defScope s_Rows_long) := ⟨rfl, rfl, rfl, by decide +kernel, rfl, by decide +kernel, by decide +kernel⟩
theorem sc_law_dice : FnScope ["_law_script", "_law_k", "_law_found", "_law_cell"] ["_law_script", "_law_k"] (defScope s_law_dice) := ⟨rfl, rfl, rfl, by decide +kernel, rfl, by decide +kernel, by decide +kernel⟩
theorem sc_law_off : FnScope ["_law_d", "_law_most", "_law_found"] ["_law_d", "_law_most"] (defScope s_law_off) := ⟨rfl, rfl, rfl, by decide +kernel, rfl, by decide +kernel, by decide +kernel⟩
theorem sc_law_alike : FnScope ["_law_found", "_law_due", "_law_k"] ["_law_found", "_law_due"] (defScope s_law_alike) := ⟨rfl, rfl, rfl, by decide +kernel, rfl, by decide +kernel, by decide +kernel⟩
theorem sc_law_key : FnScope ["_law_d"] ["_law_d"] (defScope s_law_key) := ⟨rfl, rfl, rfl, by decide +kernel, rfl, by decide +kernel, by decide +kernel⟩
theorem sc_law : FnScope ["_law_script", "_law_d", "_law_sides", "_law_k", "_law_knows", "_law_turn", "_law_world", "_law_own", "_law_row", "_law_key_here", "_law_body", "_law_names", "_law_due", "_law_far", "_law_place", "_law_many", "_law_again", "_law_found", "_law_letter"] ["_law_script"] (defScope s_law) := ⟨rfl, rfl, rfl, by decide +kernel, rfl, by decide +kernel, by decide +kernel⟩
structure Ad where
  (f_is_between : Addr) (f_is_key : Addr) (f_need_world : Addr) (f_need_shelf : Addr) (f_need_letter : Addr) (f_need_place : Addr) (f_Rows_init : Addr) (f_Rows_kind : Addr) (f_Rows_name : Addr) (f_Rows_write : Addr) (f_Rows_read : Addr) (f_Rows_long : Addr) (f_law_dice : Addr) (f_law_off : Addr) (f_law_alike : Addr) (f_law_key : Addr) (f_law : Addr) (C_Rows : Addr)
/-! ### what the top has left -/
structure Tx (K : PySem.W.Frag) (mg : Str → Option Value) (A : Ad) : Prop where
  F_is_between : ∃ fd, Fun K "is_between" "is_between" s_is_between A.f_is_between fd ∧ Binds K fd ["part", "low", "high"] []
  F_is_key : ∃ fd, Fun K "is_key" "is_key" s_is_key A.f_is_key fd ∧ Binds K fd ["key"] []
  F_need_world : ∃ fd, Fun K "need_world" "need_world" s_need_world A.f_need_world fd ∧ Binds K fd ["name"] []
  F_need_shelf : ∃ fd, Fun K "need_shelf" "need_shelf" s_need_shelf A.f_need_shelf fd ∧ Binds K fd ["shelf"] []
  F_need_letter : ∃ fd, Fun K "need_letter" "need_letter" s_need_letter A.f_need_letter fd ∧ Binds K fd ["shelf", "key", "body"] []
  F_need_place : ∃ fd, Fun K "need_place" "need_place" s_need_place A.f_need_place fd ∧ Binds K fd ["place", "many"] []
  F_Rows_init : ∃ fd, Fun K "__init__" "Rows.__init__" s_Rows_init A.f_Rows_init fd ∧ Binds K fd ["self", "name", "knows"] []
  F_Rows_kind : ∃ fd, Fun K "kind" "Rows.kind" s_Rows_kind A.f_Rows_kind fd ∧ Binds K fd ["self"] []
  F_Rows_name : ∃ fd, Fun K "name" "Rows.name" s_Rows_name A.f_Rows_name fd ∧ Binds K fd ["self"] []
  F_Rows_write : ∃ fd, Fun K "write" "Rows.write" s_Rows_write A.f_Rows_write fd ∧ Binds K fd ["self", "row", "key", "body"] []
  F_Rows_read : ∃ fd, Fun K "read" "Rows.read" s_Rows_read A.f_Rows_read fd ∧ Binds K fd ["self", "row", "place", "many"] []
  F_Rows_long : ∃ fd, Fun K "long" "Rows.long" s_Rows_long A.f_Rows_long fd ∧ Binds K fd ["self", "row"] []
  F_law_dice : ∃ fd, Fun K "_law_dice" "_law_dice" s_law_dice A.f_law_dice fd ∧ Binds K fd ["_law_script", "_law_k"] []
  F_law_off : ∃ fd, Fun K "_law_off" "_law_off" s_law_off A.f_law_off fd ∧ Binds K fd ["_law_d", "_law_most"] []
  F_law_alike : ∃ fd, Fun K "_law_alike" "_law_alike" s_law_alike A.f_law_alike fd ∧ Binds K fd ["_law_found", "_law_due"] []
  F_law_key : ∃ fd, Fun K "_law_key" "_law_key" s_law_key A.f_law_key fd ∧ Binds K fd ["_law_d"] []
  F_law : ∃ fd, Fun K "law" "law" s_law A.f_law fd ∧ Binds K fd ["_law_script"] []
  g_is_between : mg "is_between" = some (.ref A.f_is_between)
  g_is_key : mg "is_key" = some (.ref A.f_is_key)
  g_need_world : mg "need_world" = some (.ref A.f_need_world)
  g_need_shelf : mg "need_shelf" = some (.ref A.f_need_shelf)
  g_need_letter : mg "need_letter" = some (.ref A.f_need_letter)
  g_need_place : mg "need_place" = some (.ref A.f_need_place)
  g_law_dice : mg "_law_dice" = some (.ref A.f_law_dice)
  g_law_off : mg "_law_off" = some (.ref A.f_law_off)
  g_law_alike : mg "_law_alike" = some (.ref A.f_law_alike)
  g_law_key : mg "_law_key" = some (.ref A.f_law_key)
  g_law : mg "law" = some (.ref A.f_law)
  g_Rows : mg "Rows" = some (.ref A.C_Rows)
  cl_Rows : Cls K A.C_Rows
  mk_Rows : Mk K A.C_Rows A.f_Rows_init
  m_Rows_kind : Meth K A.C_Rows "kind" A.f_Rows_kind
  m_Rows_name : Meth K A.C_Rows "name" A.f_Rows_name
  m_Rows_write : Meth K A.C_Rows "write" A.f_Rows_write
  m_Rows_read : Meth K A.C_Rows "read" A.f_Rows_read
  m_Rows_long : Meth K A.C_Rows "long" A.f_Rows_long
  fld_world : ∀ C, C ∈ [A.C_Rows] → ClsOk K C "world"
  fld_knows : ∀ C, C ∈ [A.C_Rows] → ClsOk K C "knows"
  fld_shelves : ∀ C, C ∈ [A.C_Rows] → ClsOk K C "shelves"
  c_WORLDS : ∃ t, mg "WORLDS" = some (.int 10 t)
  c_SHELVES : ∃ t, mg "SHELVES" = some (.int 6 t)
  c_MOST : ∃ t, mg "MOST" = some (.int 999 t)
  c_MOST_READ : ∃ t, mg "MOST_READ" = some (.int 20 t)
  c_ROWS : ∃ t, mg "ROWS" = some (.str "rows" t)
  z_abs : mg "abs" = none
  z_all : mg "all" = none
  z_bool : mg "bool" = none
  z_enumerate : mg "enumerate" = none
  z_int : mg "int" = none
  z_isinstance : mg "isinstance" = none
  z_len : mg "len" = none
  z_list : mg "list" = none
  z_range : mg "range" = none
  z_str : mg "str" = none
  z_tuple : mg "tuple" = none
def FunAt (K : PySem.W.Frag) (A : Ad) (fd : FuncData) : Prop := Fun K "law" "law" s_law A.f_law fd ∧ ∀ (s : Shared) (u : Value), BindsTo s fd ⟨[u], []⟩ [("_law_script", u)]
def sp_is_between (A : Ad) : SpM := fun ds g Q _ => ∃ x l h, ds = [x, .int l, .int h] ∧ Tyd g x ∧ Q (.bl (isBet x l h)) g
def sp_is_key (A : Ad) : SpM := fun ds g Q _ => ∃ x, ds = [x] ∧ Tyt g x ∧ Q (.bl (isKeyD x)) g
def sp_need_world (A : Ad) : SpM := fun ds g Q _ => ∃ x, ds = [x] ∧ Tyd g x ∧ isBet x 0 9 = true ∧ Q .non g
def sp_need_shelf (A : Ad) : SpM := fun ds g Q _ => ∃ x, ds = [x] ∧ Tyd g x ∧ isBet x 0 5 = true ∧ Q .non g
def sp_need_letter (A : Ad) : SpM := fun ds g Q _ => ∃ x k b, ds = [x, k, b] ∧ Tyd g x ∧ Tyt g k ∧ Tyd g b ∧ isBet x 0 5 = true ∧ isKeyD k = true ∧ isBet b 0 999 = true ∧ Q .non g
def sp_need_place (A : Ad) : SpM := fun ds g Q _ => ∃ p m, ds = [p, m] ∧ Tyd g p ∧ Tyd g m ∧ isBet p 0 1000000 = true ∧ isBet m 1 20 = true ∧ Q .non g

def sp_Rows_init (A : Ad) : SpM := fun ds g Q _ => ∃ x n k, ds = [.ref x, .int n, .bl k] ∧ g x = some (.ins A.C_Rows []) ∧ 0 ≤ n ∧ n ≤ 9 ∧ ∀ g' s ls, ls.length = 6 → Chg g g' [(x, .ins A.C_Rows [])] (rowsB A.C_Rows x s ls ⟨n, k, List.replicate 6 []⟩) → Q .non g'
def sp_Rows_kind (A : Ad) : SpM := fun ds g Q _ => ∃ a n k s, ds = [.ref a] ∧ g a = some (.ins A.C_Rows [("world", .int n), ("knows", .bl k), ("shelves", .ref s)]) ∧ Q (.tup [.str "rows", .bl k]) g
def sp_Rows_name (A : Ad) : SpM := fun ds g Q _ => ∃ a n k s, ds = [.ref a] ∧ g a = some (.ins A.C_Rows [("world", .int n), ("knows", .bl k), ("shelves", .ref s)]) ∧ Q (.int n) g
def sp_Rows_write (A : Ad) : SpM := fun ds g Q _ => ∃ a s ls w r k b, ds = [.ref a, .int (r : Nat), keyD k, .int b] ∧ Own g (rowsB A.C_Rows a s ls w) ∧ ls.length = 6 ∧ w.Ok ∧ r < 6 ∧ KeyOk k ∧ 0 ≤ b ∧ b ≤ 999 ∧
  ∀ g', Chg g g' (rowsB A.C_Rows a s ls w) (rowsB A.C_Rows a s ls (w.setRow r (writeR w.kn (w.row r) k b).2)) → Q (.int ((writeR w.kn (w.row r) k b).1 : Nat)) g'
def sp_Rows_read (A : Ad) : SpM := fun ds g Q _ => ∃ a s ls w r p m, ds = [.ref a, .int (r : Nat), .int (p : Nat), .int (m : Nat)] ∧ Own g (rowsB A.C_Rows a s ls w) ∧ ls.length = 6 ∧ w.Ok ∧ r < 6 ∧ p ≤ 1000000 ∧ 1 ≤ m ∧ m ≤ 20 ∧
  ∀ q, g q = none → Q (.ref q) (gup g q (.lst ((((w.row r).drop p).take m).map letD)))
def sp_Rows_long (A : Ad) : SpM := fun ds g Q _ => ∃ a s ls w r, ds = [.ref a, .int (r : Nat)] ∧ Own g (rowsB A.C_Rows a s ls w) ∧ ls.length = 6 ∧ w.Ok ∧ r < 6 ∧ Q (.int ((w.row r).length : Nat)) g

def sp_law_dice (A : Ad) : SpM := fun ds g Q _ => ∃ ns, ds = [.fl (intsD ns), .int 0] ∧ ns.length ≤ 63 ∧ ∀ p ms, g p = none → DiceOk ms → Q (.ref p) (gup g p (.lst (intsD ms)))
def sp_law_off (A : Ad) : SpM := fun ds g Q _ => ∃ a m ms, ds = [.ref a, .int m] ∧ 0 < m ∧ m < 1073741824 ∧ g a = some (.lst (intsD ms)) ∧ DiceOk ms ∧ ∀ r ms', 0 ≤ r → r < m → DiceOk ms' → Q (.int r) (gup g a (.lst (intsD ms')))

def spn_law_alike (A : Ad) (n : Nat) : SpM := fun ds g Q _ => ∃ x y, ds = [x, y] ∧ Alk g n x y ∧ Q (.bl true) g
def spp_law_alike (A : Ad) : Nat → SpM
  | 0 => fun _ _ _ _ => False
  | n + 1 => spn_law_alike A n
def sp_law_alike (A : Ad) : SpM := spn_law_alike A 5

def sp_law_key (A : Ad) : SpM := fun ds g Q _ => ∃ a ms, ds = [.ref a] ∧ g a = some (.lst (intsD ms)) ∧ DiceOk ms ∧ ∀ k ms', KeyOk k → DiceOk ms' → Q (keyD k) (gup g a (.lst (intsD ms')))

def r_is_between (A : Ad) (W : WM) : TSM := mRet (mAndV (mCB (rIsiM "int" isI) (mCons (mVar 0) (mCons (mC (.ty "int")) mNil))) (mAndV (mNotV (mCB (rIsiM "bool" isB) (mCons (mVar 0) (mCons (mC (.ty "bool")) mNil)))) (mChain (rLeM) (rLeM) (mVar 1) (mVar 0) (mVar 2))))
def r_is_key (A : Ad) (W : WM) : TSM := mSeq (mIfS (mOr (mNot (mTest (mCB (rIsiM "tuple" isT) (mCons (mVar 0) (mCons (mC (.ty "tuple")) mNil))))) (mTest (mOp (rEqW true) (mCB (r1 lenD) (mCons (mVar 0) mNil)) (mC (.int 3))))) (mRet (mC (.bl false))) (mNext)) (mRet (mAndV (mCall (sp_is_between A) W (mCons (mOp rIxM (mVar 0) (mC (.int 0))) (mCons (mC (.int 0)) (mCons (mOp rSubM (mC (.int 10)) (mC (.int 1))) (mNil))))) (mAndV (mCall (sp_is_between A) W (mCons (mOp rIxM (mVar 0) (mC (.int 1))) (mCons (mC (.int 0)) (mCons (mC (.int 9)) (mNil))))) (mCall (sp_is_between A) W (mCons (mOp rIxM (mVar 0) (mC (.int 2))) (mCons (mC (.int 0)) (mCons (mC (.int 999)) (mNil))))))))
def r_need_world (A : Ad) (W : WM) : TSM := mIfS (mNot (mTest (mCall (sp_is_between A) W (mCons (mVar 0) (mCons (mC (.int 0)) (mCons (mOp rSubM (mC (.int 10)) (mC (.int 1))) (mNil))))))) (mNever) (mNext)
def r_need_shelf (A : Ad) (W : WM) : TSM := mIfS (mNot (mTest (mCall (sp_is_between A) W (mCons (mVar 0) (mCons (mC (.int 0)) (mCons (mOp rSubM (mC (.int 6)) (mC (.int 1))) (mNil))))))) (mNever) (mNext)
def r_need_letter (A : Ad) (W : WM) : TSM := mSeq (mDrop (mCall (sp_need_shelf A) W (mCons (mVar 0) (mNil)))) (mIfS (mOr (mNot (mTest (mCall (sp_is_key A) W (mCons (mVar 1) (mNil))))) (mNot (mTest (mCall (sp_is_between A) W (mCons (mVar 2) (mCons (mC (.int 0)) (mCons (mC (.int 999)) (mNil)))))))) (mNever) (mNext))
def r_need_place (A : Ad) (W : WM) : TSM := mIfS (mOr (mNot (mTest (mCall (sp_is_between A) W (mCons (mVar 0) (mCons (mC (.int 0)) (mCons (mOp rPowM (mC (.int 10)) (mC (.int 6))) (mNil))))))) (mNot (mTest (mCall (sp_is_between A) W (mCons (mVar 1) (mCons (mC (.int 1)) (mCons (mC (.int 20)) (mNil)))))))) (mNever) (mNext)
def r_Rows_init (A : Ad) (W : WM) : TSM := mSeq (mDrop (mCall (sp_need_world A) W (mCons (mVar 1) (mNil)))) (mSeq (mPut (fun C => C ∈ [A.C_Rows]) "world" (mVar 0) (mVar 1)) (mSeq (mPut (fun C => C ∈ [A.C_Rows]) "knows" (mVar 0) (mVar 2)) (mPut (fun C => C ∈ [A.C_Rows]) "shelves" (mVar 0) (mLc (iRange1 (mC (.int 6))) (gN 3) (mYes) (mLst (mNil)) [3]))))
def r_Rows_kind (A : Ad) (W : WM) : TSM := mRet (mTup (mCons (mC (.str "rows")) (mCons (mFld (fun C => C ∈ [A.C_Rows]) "knows" (mVar 0)) (mNil))))
def r_Rows_name (A : Ad) (W : WM) : TSM := mRet (mFld (fun C => C ∈ [A.C_Rows]) "world" (mVar 0))
def r_Rows_write_b1 (A : Ad) (W : WM) : TSM := mIfS (mTest (mOp (rEqW false) (mOp rIxM (mVar 6) (mC (.int 0))) (mVar 2))) (mRet (mVar 5)) (mNext)
def r_Rows_write (A : Ad) (W : WM) : TSM := mSeq (mDrop (mCall (sp_need_letter A) W (mCons (mVar 1) (mCons (mVar 2) (mCons (mVar 3) (mNil)))))) (mSeq (mSet 4 (mOp rIxM (mFld (fun C => C ∈ [A.C_Rows]) "shelves" (mVar 0)) (mVar 1))) (mSeq (mIfS (mTest (mFld (fun C => C ∈ [A.C_Rows]) "knows" (mVar 0))) (mFor (iEnumM (mVar 4)) (gT 2 (gCons' (gN 5) (gCons' (gN 6) (gNil')))) (r_Rows_write_b1 A W)) (mNext)) (mSeq (mDrop (mBM rAppM (mVar 4) (mCons (mTup (mCons (mVar 2) (mCons (mVar 3) (mNil)))) mNil))) (mRet (mOp rSubM (mCB (r1 lenD) (mCons (mVar 4) mNil)) (mC (.int 1)))))))
def r_Rows_read (A : Ad) (W : WM) : TSM := mSeq (mDrop (mCall (sp_need_shelf A) W (mCons (mVar 1) (mNil)))) (mSeq (mDrop (mCall (sp_need_place A) W (mCons (mVar 2) (mCons (mVar 3) (mNil))))) (mRet (mSl (mOp rIxM (mFld (fun C => C ∈ [A.C_Rows]) "shelves" (mVar 0)) (mVar 1)) (mPart (mVar 2)) (mPart (mOp rAddM (mVar 2) (mVar 3))))))
def r_Rows_long (A : Ad) (W : WM) : TSM := mSeq (mDrop (mCall (sp_need_shelf A) W (mCons (mVar 1) (mNil)))) (mRet (mCB (r1 lenD) (mCons (mOp rIxM (mFld (fun C => C ∈ [A.C_Rows]) "shelves" (mVar 0)) (mVar 1)) mNil)))
def r_law_dice_b1 (A : Ad) (W : WM) : TSM := mSet 2 (mOp rModM (mOp rAddM (mOp rMulM (mVar 2) (mC (.int 31))) (mCB (r1 absD) (mCons (mVar 3) mNil))) (mC (.int 2147483647)))
def r_law_dice (A : Ad) (W : WM) : TSM := mSeq (mSet 2 (mVar 1)) (mSeq (mFor (iAny (mVar 0)) (gN 3) (r_law_dice_b1 A W)) (mRet (mOp rAddM (mLst (mCons (mVar 2) (mCons (mC (.int 0)) (mNil)))) (mLc (iAny (mVar 0)) (gN 3) (mTest (mOp (rGeM) (mVar 3) (mOp rPowM (mC (.int 10)) (mC (.int 18))))) (mVar 3) [3]))))
def r_law_off (A : Ad) (W : WM) : TSM := mSeq (mIfS (mAnd (mTest (mOp (rEqW false) (mOp rIxM (mVar 0) (mC (.int 1))) (mC (.int 0)))) (mTest (mOp (rGtM) (mCB (r1 lenD) (mCons (mVar 0) mNil)) (mC (.int 2))))) (mAsg (mBM rPopAtM (mVar 0) (mCons (mC (.int 2)) mNil)) (gS (mVar 0) (mC (.int 1)))) (mNext)) (mSeq (mIfS (mTest (mOp (rGtM) (mOp rIxM (mVar 0) (mC (.int 1))) (mC (.int 0)))) (mSeq (mSet 2 (mOp rModM (mOp rIxM (mVar 0) (mC (.int 1))) (mVar 1))) (mSeq (mAsg (mOp rDivM (mOp rIxM (mVar 0) (mC (.int 1))) (mVar 1)) (gS (mVar 0) (mC (.int 1)))) (mRet (mVar 2)))) (mNext)) (mSeq (mAsg (mOp rModM (mOp rAddM (mOp rMulM (mOp rIxM (mVar 0) (mC (.int 0))) (mC (.int 48271))) (mC (.int 11))) (mC (.int 2147483647))) (gS (mVar 0) (mC (.int 0)))) (mRet (mOp rModM (mOp rDivM (mOp rIxM (mVar 0) (mC (.int 0))) (mC (.int 64))) (mVar 1)))))
def r_law_alike (A : Ad) (S : SpM) (W : WM) : TSM := mSeq (mIfS (mTest (mOp (rIsW false) (mVar 1) (mC .non))) (mRet (mOp (rIsW false) (mVar 0) (mC .non))) (mNext)) (mSeq (mIfS (mTest (mCB (rIsiM "bool" isB) (mCons (mVar 1) (mCons (mC (.ty "bool")) mNil)))) (mRet (mAndV (mCB (rIsiM "bool" isB) (mCons (mVar 0) (mCons (mC (.ty "bool")) mNil))) (mOp (rEqW false) (mVar 0) (mVar 1)))) (mNext)) (mSeq (mIfS (mTest (mCB (rIsiM "int" isI) (mCons (mVar 1) (mCons (mC (.ty "int")) mNil)))) (mRet (mAndV (mCB (rIsiM "int" isI) (mCons (mVar 0) (mCons (mC (.ty "int")) mNil))) (mAndV (mNotV (mCB (rIsiM "bool" isB) (mCons (mVar 0) (mCons (mC (.ty "bool")) mNil)))) (mOp (rEqW false) (mVar 0) (mVar 1))))) (mNext)) (mSeq (mIfS (mTest (mCB (rIsiM "str" isS) (mCons (mVar 1) (mCons (mC (.ty "str")) mNil)))) (mRet (mAndV (mCB (rIsiM "str" isS) (mCons (mVar 0) (mCons (mC (.ty "str")) mNil))) (mOp (rEqW false) (mVar 0) (mVar 1)))) (mNext)) (mSeq (mIfS (mOr (mTest (mOp (rEqW true) (mCB (rIsiM "tuple" isT) (mCons (mVar 1) (mCons (mC (.ty "tuple")) mNil))) (mCB (rIsiM "tuple" isT) (mCons (mVar 0) (mCons (mC (.ty "tuple")) mNil))))) (mTest (mOp (rEqW true) (mCB (rIsiM "list" isL) (mCons (mVar 1) (mCons (mC (.ty "list")) mNil))) (mCB (rIsiM "list" isL) (mCons (mVar 0) (mCons (mC (.ty "list")) mNil)))))) (mRet (mC (.bl false))) (mNext)) (mSeq (mIfS (mTest (mOp (rEqW true) (mCB (r1 lenD) (mCons (mVar 0) mNil)) (mCB (r1 lenD) (mCons (mVar 1) mNil)))) (mRet (mC (.bl false))) (mNext)) (mRet (mCB (r1 allD) (mCons (mLc (iRange1 (mCB (r1 lenD) (mCons (mVar 1) mNil))) (gN 2) (mYes) (mCall (S) WF (mCons (mOp rIxM (mVar 0) (mVar 2)) (mCons (mOp rIxM (mVar 1) (mVar 2)) (mNil)))) [2]) mNil))))))))
def r_law_key (A : Ad) (W : WM) : TSM := mRet (mTup (mCons (mCall (sp_law_off A) W (mCons (mVar 0) (mCons (mC (.int 3)) (mNil)))) (mCons (mCall (sp_law_off A) W (mCons (mVar 0) (mCons (mC (.int 2)) (mNil)))) (mCons (mCall (sp_law_off A) W (mCons (mVar 0) (mCons (mC (.int 4)) (mNil)))) (mNil)))))
def r_law_b1 (A : Ad) (W : WM) : TSM := mSeq (mSet 4 (mOp (rEqW false) (mCall (sp_law_off A) W (mCons (mVar 1) (mCons (mC (.int 2)) (mNil)))) (mC (.int 0)))) (mDrop (mBM rAppM (mVar 2) (mCons (mTup (mCons (mMake A.C_Rows (sp_Rows_init A) W (mCons (mCall (sp_law_off A) W (mCons (mVar 1) (mCons (mC (.int 10)) (mNil)))) (mCons (mVar 4) (mNil)))) (mCons (mVar 4) (mCons (mLc (iRange1 (mC (.int 6))) (gN 8) (mYes) (mLst (mNil)) [8]) (mNil))))) mNil)))
def r_law_b2 (A : Ad) (W : WM) : TSM := mSeq (mSet 9 (mOp rIxM (mLst (mCons (mCall (sp_law_key A) W (mCons (mVar 1) (mNil))) (mCons (mTup (mCons (mCall (sp_law_off A) W (mCons (mVar 1) (mCons (mC (.int 10)) (mNil)))) (mCons (mCall (sp_law_off A) W (mCons (mVar 1) (mCons (mC (.int 10)) (mNil)))) (mCons (mCall (sp_law_off A) W (mCons (mVar 1) (mCons (mC (.int 1000)) (mNil)))) (mNil))))) (mNil)))) (mCB (r1 intD) (mCons (mOp (rEqW false) (mCall (sp_law_off A) W (mCons (mVar 1) (mCons (mC (.int 4)) (mNil)))) (mC (.int 0))) mNil)))) (mSeq (mSet 10 (mCall (sp_law_off A) W (mCons (mVar 1) (mCons (mC (.int 1000)) (mNil))))) (mSeq (mSet 11 (mLc (iAny (mOp rIxM (mVar 7) (mVar 8))) (gN 18) (mYes) (mOp rIxM (mVar 18) (mC (.int 0))) [18])) (mSeq (mSet 12 (mIf (mAnd (mTest (mVar 4)) (mTest (mOp (rInW false) (mVar 9) (mVar 11)))) (mBM (onL fIndex) (mVar 11) (mCons (mVar 9) mNil)) (mCB (r1 lenD) (mCons (mVar 11) mNil)))) (mSeq (mIfS (mTest (mOp (rEqW false) (mVar 12) (mCB (r1 lenD) (mCons (mVar 11) mNil)))) (mDrop (mBM rAppM (mOp rIxM (mVar 7) (mVar 8)) (mCons (mTup (mCons (mVar 9) (mCons (mVar 10) (mNil)))) mNil))) (mNext)) (mIfS (mNot (mTest (mCall (sp_law_alike A) W (mCons (mMeth [(A.C_Rows, sp_Rows_write A)] W "write" (mVar 6) (mCons (mVar 8) (mCons (mVar 9) (mCons (mVar 10) (mNil))))) (mCons (mVar 12) (mNil)))))) (mRet (mC (.bl false))) (mNext))))))
def r_law_b3 (A : Ad) (W : WM) : TSM := mSeq (mSet 17 (mMeth [(A.C_Rows, sp_Rows_read A)] W "read" (mVar 6) (mCons (mVar 8) (mCons (mVar 14) (mCons (mVar 15) (mNil)))))) (mSeq (mIfS (mOr (mNot (mTest (mCall (sp_law_alike A) W (mCons (mVar 17) (mCons (mSl (mOp rIxM (mVar 7) (mVar 8)) (mPart (mVar 14)) (mPart (mOp rAddM (mVar 14) (mVar 15)))) (mNil)))))) (mNot (mTest (mCall (sp_law_alike A) W (mCons (mMeth [(A.C_Rows, sp_Rows_long A)] W "long" (mVar 6) (mCons (mVar 8) (mNil))) (mCons (mCB (r1 lenD) (mCons (mOp rIxM (mVar 7) (mVar 8)) mNil)) (mNil))))))) (mRet (mC (.bl false))) (mNext)) (mDrop (mBM rAppM (mVar 17) (mCons (mTup (mNil)) mNil))))
def r_law_b4 (A : Ad) (W : WM) : TSM := mSeq (mAsg (mOp rIxM (mVar 2) (mCall (sp_law_off A) W (mCons (mVar 1) (mCons (mC (.int 2)) (mNil))))) (gT 3 (gCons' (gN 6) (gCons' (gN 4) (gCons' (gN 7) (gNil')))))) (mSeq (mSet 8 (mCall (sp_law_off A) W (mCons (mVar 1) (mCons (mC (.int 6)) (mNil))))) (mSeq (mIfS (mTest (mOp (rGtM) (mCall (sp_law_off A) W (mCons (mVar 1) (mCons (mC (.int 3)) (mNil)))) (mC (.int 0)))) (r_law_b2 A W) (mNext)) (mSeq (mSet 13 (mLst (mCons (mCall (sp_law_off A) W (mCons (mVar 1) (mCons (mC (.int 12)) (mNil)))) (mCons (mCall (sp_law_off A) W (mCons (mVar 1) (mCons (mC (.int 12)) (mNil)))) (mCons (mOp rPowM (mC (.int 10)) (mC (.int 6))) (mCons (mCall (sp_law_off A) W (mCons (mVar 1) (mCons (mOp rAddM (mOp rPowM (mC (.int 10)) (mC (.int 6))) (mC (.int 1))) (mNil)))) (mNil))))))) (mSeq (mPar 14 15 (mCons (mOp rIxM (mVar 13) (mCall (sp_law_off A) W (mCons (mVar 1) (mCons (mC (.int 4)) (mNil))))) (mCons (mOp rAddM (mC (.int 1)) (mCall (sp_law_off A) W (mCons (mVar 1) (mCons (mC (.int 20)) (mNil))))) (mNil)))) (mSeq (mFor (iRange1 (mC (.int 2))) (gN 16) (r_law_b3 A W)) (mIfS (mNot (mTest (mCall (sp_law_alike A) W (mCons (mMeth [(A.C_Rows, sp_Rows_kind A)] W "kind" (mVar 6) mNil) (mCons (mTup (mCons (mC (.str "rows")) (mCons (mVar 4) (mNil)))) (mNil)))))) (mRet (mC (.bl false))) (mNext)))))))
def r_law (A : Ad) (W : WM) : TSM := mSeq (mSet 1 (mCall (sp_law_dice A) W (mCons (mVar 0) (mCons (mC (.int 0)) (mNil))))) (mSeq (mSet 2 (mLst (mNil))) (mSeq (mFor (iRange1 (mC (.int 2))) (gN 3) (r_law_b1 A W)) (mSeq (mFor (iRange1 (mCall (sp_law_off A) W (mCons (mVar 1) (mCons (mC (.int 51)) (mNil))))) (gN 5) (r_law_b4 A W)) (mRet (mC (.bl true))))))
theorem b_is_between {P : Program} {w : World} {K : PySem.W.Frag} {mg : Str → Option Value} {base : Heap} {A : Ad} (T : Tx K mg A) (cdv : Value) (Ar : Around) (outer : List Env) (s : Shared) (H : Hp) (E : XK) (B : Bs) (W : WM)
    (hr : Room 0 (Ar.deeper (PyProof.Rows.envOfC "is_between" (defScope s_is_between) s.heap.objs.size A.f_is_between cdv))) (tk : Takes (cxOf (L2.CX P w) P w K mg base ["part", "low", "high"] "is_between" (defScope s_is_between) A.f_is_between cdv Ar outer s H E) (LW K B W)) :
    MSs (cxOf (L2.CX P w) P w K mg base ["part", "low", "high"] "is_between" (defScope s_is_between) A.f_is_between cdv Ar outer s H E) B (defBody s_is_between) (r_is_between A W) := by
  have nd := sc_is_between.nd
  exact mb_one (ms_ret (me_and (me_isi kit_int T.z_isinstance T.z_int boot_int (me_var 0)) (me_and (me_not (me_isi kit_bool T.z_isinstance T.z_bool boot_bool (me_var 0))) (me_one (me_chain cm_le cm_le (me_var 1) (me_var 0) (me_var 2))))))
theorem b_is_key {P : Program} {w : World} {K : PySem.W.Frag} {mg : Str → Option Value} {base : Heap} {A : Ad} (T : Tx K mg A) (F_is_between : FnM P w K mg base 1 A.f_is_between ["part", "low", "high"] (sp_is_between A)) (cdv : Value) (Ar : Around) (outer : List Env) (s : Shared) (H : Hp) (E : XK) (B : Bs) (W : WM)
    (hr : Room 1 (Ar.deeper (PyProof.Rows.envOfC "is_key" (defScope s_is_key) s.heap.objs.size A.f_is_key cdv))) (tk : Takes (cxOf (L2.CX P w) P w K mg base ["key"] "is_key" (defScope s_is_key) A.f_is_key cdv Ar outer s H E) (LW K B W)) :
    MSs (cxOf (L2.CX P w) P w K mg base ["key"] "is_key" (defScope s_is_key) A.f_is_key cdv Ar outer s H E) B (defBody s_is_key) (r_is_key A W) := by
  have nd := sc_is_key.nd
  exact mb_cons (ms_if (MW.mt (mw_or (mt_not (mt_val (me_isi kit_tuple T.z_isinstance T.z_tuple boot_tuple (me_var 0)))) (mw_or1 (mt_cm (cm_ne (u64 hr)) (me_len T.z_len (me_var 0)) (me_int))))) (mb_one (ms_ret (me_bl))) (mb_nil)) (mb_one (ms_ret (me_and (me_call F_is_between (hr.mono (by decide)) tk T.g_is_between (ma_cons (me_ix (u1 hr) (me_var 0) (me_int)) (ma_cons (me_int) (ma_cons (me_sub (me_gint rfl T.c_WORLDS) (me_int)) (ma_nil))))) (me_and (me_call F_is_between (hr.mono (by decide)) tk T.g_is_between (ma_cons (me_ix (u1 hr) (me_var 0) (me_int)) (ma_cons (me_int) (ma_cons (me_int) (ma_nil))))) (me_one (me_call F_is_between (hr.mono (by decide)) tk T.g_is_between (ma_cons (me_ix (u1 hr) (me_var 0) (me_int)) (ma_cons (me_int) (ma_cons (me_gint rfl T.c_MOST) (ma_nil))))))))))
theorem b_need_world {P : Program} {w : World} {K : PySem.W.Frag} {mg : Str → Option Value} {base : Heap} {A : Ad} (T : Tx K mg A) (F_is_between : FnM P w K mg base 1 A.f_is_between ["part", "low", "high"] (sp_is_between A)) (cdv : Value) (Ar : Around) (outer : List Env) (s : Shared) (H : Hp) (E : XK) (B : Bs) (W : WM)
    (hr : Room 1 (Ar.deeper (PyProof.Rows.envOfC "need_world" (defScope s_need_world) s.heap.objs.size A.f_need_world cdv))) (tk : Takes (cxOf (L2.CX P w) P w K mg base ["name"] "need_world" (defScope s_need_world) A.f_need_world cdv Ar outer s H E) (LW K B W)) :
    MSs (cxOf (L2.CX P w) P w K mg base ["name"] "need_world" (defScope s_need_world) A.f_need_world cdv Ar outer s H E) B (defBody s_need_world) (r_need_world A W) := by
  have nd := sc_need_world.nd
  exact mb_one (ms_if (mt_not (mt_val (me_call F_is_between (hr.mono (by decide)) tk T.g_is_between (ma_cons (me_var 0) (ma_cons (me_int) (ma_cons (me_sub (me_gint rfl T.c_WORLDS) (me_int)) (ma_nil))))))) (mb_one (ms_never)) (mb_nil))
theorem b_need_shelf {P : Program} {w : World} {K : PySem.W.Frag} {mg : Str → Option Value} {base : Heap} {A : Ad} (T : Tx K mg A) (F_is_between : FnM P w K mg base 1 A.f_is_between ["part", "low", "high"] (sp_is_between A)) (cdv : Value) (Ar : Around) (outer : List Env) (s : Shared) (H : Hp) (E : XK) (B : Bs) (W : WM)
    (hr : Room 1 (Ar.deeper (PyProof.Rows.envOfC "need_shelf" (defScope s_need_shelf) s.heap.objs.size A.f_need_shelf cdv))) (tk : Takes (cxOf (L2.CX P w) P w K mg base ["shelf"] "need_shelf" (defScope s_need_shelf) A.f_need_shelf cdv Ar outer s H E) (LW K B W)) :
    MSs (cxOf (L2.CX P w) P w K mg base ["shelf"] "need_shelf" (defScope s_need_shelf) A.f_need_shelf cdv Ar outer s H E) B (defBody s_need_shelf) (r_need_shelf A W) := by
  have nd := sc_need_shelf.nd
  exact mb_one (ms_if (mt_not (mt_val (me_call F_is_between (hr.mono (by decide)) tk T.g_is_between (ma_cons (me_var 0) (ma_cons (me_int) (ma_cons (me_sub (me_gint rfl T.c_SHELVES) (me_int)) (ma_nil))))))) (mb_one (ms_never)) (mb_nil))
theorem b_need_letter {P : Program} {w : World} {K : PySem.W.Frag} {mg : Str → Option Value} {base : Heap} {A : Ad} (T : Tx K mg A) (F_need_shelf : FnM P w K mg base 2 A.f_need_shelf ["shelf"] (sp_need_shelf A)) (F_is_key : FnM P w K mg base 2 A.f_is_key ["key"] (sp_is_key A)) (F_is_between : FnM P w K mg base 1 A.f_is_between ["part", "low", "high"] (sp_is_between A)) (cdv : Value) (Ar : Around) (outer : List Env) (s : Shared) (H : Hp) (E : XK) (B : Bs) (W : WM)
    (hr : Room 2 (Ar.deeper (PyProof.Rows.envOfC "need_letter" (defScope s_need_letter) s.heap.objs.size A.f_need_letter cdv))) (tk : Takes (cxOf (L2.CX P w) P w K mg base ["shelf", "key", "body"] "need_letter" (defScope s_need_letter) A.f_need_letter cdv Ar outer s H E) (LW K B W)) :
    MSs (cxOf (L2.CX P w) P w K mg base ["shelf", "key", "body"] "need_letter" (defScope s_need_letter) A.f_need_letter cdv Ar outer s H E) B (defBody s_need_letter) (r_need_letter A W) := by
  have nd := sc_need_letter.nd
  exact mb_cons (ms_expr (me_call F_need_shelf (hr.mono (by decide)) tk T.g_need_shelf (ma_cons (me_var 0) (ma_nil)))) (mb_one (ms_if (MW.mt (mw_or (mt_not (mt_val (me_call F_is_key (hr.mono (by decide)) tk T.g_is_key (ma_cons (me_var 1) (ma_nil))))) (mw_or1 (mt_not (mt_val (me_call F_is_between (hr.mono (by decide)) tk T.g_is_between (ma_cons (me_var 2) (ma_cons (me_int) (ma_cons (me_gint rfl T.c_MOST) (ma_nil)))))))))) (mb_one (ms_never)) (mb_nil)))
theorem b_need_place {P : Program} {w : World} {K : PySem.W.Frag} {mg : Str → Option Value} {base : Heap} {A : Ad} (T : Tx K mg A) (F_is_between : FnM P w K mg base 1 A.f_is_between ["part", "low", "high"] (sp_is_between A)) (cdv : Value) (Ar : Around) (outer : List Env) (s : Shared) (H : Hp) (E : XK) (B : Bs) (W : WM)
    (hr : Room 1 (Ar.deeper (PyProof.Rows.envOfC "need_place" (defScope s_need_place) s.heap.objs.size A.f_need_place cdv))) (tk : Takes (cxOf (L2.CX P w) P w K mg base ["place", "many"] "need_place" (defScope s_need_place) A.f_need_place cdv Ar outer s H E) (LW K B W)) :
    MSs (cxOf (L2.CX P w) P w K mg base ["place", "many"] "need_place" (defScope s_need_place) A.f_need_place cdv Ar outer s H E) B (defBody s_need_place) (r_need_place A W) := by
  have nd := sc_need_place.nd
  exact mb_one (ms_if (MW.mt (mw_or (mt_not (mt_val (me_call F_is_between (hr.mono (by decide)) tk T.g_is_between (ma_cons (me_var 0) (ma_cons (me_int) (ma_cons (me_pow (me_int) (me_int)) (ma_nil))))))) (mw_or1 (mt_not (mt_val (me_call F_is_between (hr.mono (by decide)) tk T.g_is_between (ma_cons (me_var 1) (ma_cons (me_int) (ma_cons (me_gint rfl T.c_MOST_READ) (ma_nil)))))))))) (mb_one (ms_never)) (mb_nil))
theorem b_Rows_init {P : Program} {w : World} {K : PySem.W.Frag} {mg : Str → Option Value} {base : Heap} {A : Ad} (T : Tx K mg A) (F_need_world : FnM P w K mg base 2 A.f_need_world ["name"] (sp_need_world A)) (cdv : Value) (Ar : Around) (outer : List Env) (s : Shared) (H : Hp) (E : XK) (B : Bs) (W : WM)
    (hr : Room 2 (Ar.deeper (PyProof.Rows.envOfC "Rows.__init__" (defScope s_Rows_init) s.heap.objs.size A.f_Rows_init cdv))) (tk : Takes (cxOf (L2.CX P w) P w K mg base ["self", "name", "knows", "shelf"] "Rows.__init__" (defScope s_Rows_init) A.f_Rows_init cdv Ar outer s H E) (LW K B W)) :
    MSs (cxOf (L2.CX P w) P w K mg base ["self", "name", "knows", "shelf"] "Rows.__init__" (defScope s_Rows_init) A.f_Rows_init cdv Ar outer s H E) B (defBody s_Rows_init) (r_Rows_init A W) := by
  have nd := sc_Rows_init.nd
  exact mb_cons (ms_expr (me_call F_need_world (hr.mono (by decide)) tk T.g_need_world (ma_cons (me_var 1) (ma_nil)))) (mb_cons (ms_put T.fld_world (me_var 0) (me_var 1)) (mb_cons (ms_put T.fld_knows (me_var 0) (me_var 2)) (mb_one (ms_put T.fld_shelves (me_var 0) (me_lc (own := [("shelf", 3)]) rfl nd (mi_range T.z_range (me_gint rfl T.c_SHELVES)) (by kernel_rfl) (fun _ _ _ _ _ => mg_name 3 nd) (fun _ _ _ _ _ => mts_nil) (fun _ _ _ _ _ => me_lst (ma_nil)))))))
theorem b_Rows_kind {P : Program} {w : World} {K : PySem.W.Frag} {mg : Str → Option Value} {base : Heap} {A : Ad} (T : Tx K mg A) (cdv : Value) (Ar : Around) (outer : List Env) (s : Shared) (H : Hp) (E : XK) (B : Bs) (W : WM)
    (hr : Room 0 (Ar.deeper (PyProof.Rows.envOfC "Rows.kind" (defScope s_Rows_kind) s.heap.objs.size A.f_Rows_kind cdv))) (tk : Takes (cxOf (L2.CX P w) P w K mg base ["self"] "Rows.kind" (defScope s_Rows_kind) A.f_Rows_kind cdv Ar outer s H E) (LW K B W)) :
    MSs (cxOf (L2.CX P w) P w K mg base ["self"] "Rows.kind" (defScope s_Rows_kind) A.f_Rows_kind cdv Ar outer s H E) B (defBody s_Rows_kind) (r_Rows_kind A W) := by
  have nd := sc_Rows_kind.nd
  exact mb_one (ms_ret (me_tup (ma_cons (me_gstr rfl T.c_ROWS) (ma_cons (me_fld T.fld_knows (me_var 0)) (ma_nil)))))
theorem b_Rows_name {P : Program} {w : World} {K : PySem.W.Frag} {mg : Str → Option Value} {base : Heap} {A : Ad} (T : Tx K mg A) (cdv : Value) (Ar : Around) (outer : List Env) (s : Shared) (H : Hp) (E : XK) (B : Bs) (W : WM)
    (hr : Room 0 (Ar.deeper (PyProof.Rows.envOfC "Rows.name" (defScope s_Rows_name) s.heap.objs.size A.f_Rows_name cdv))) (tk : Takes (cxOf (L2.CX P w) P w K mg base ["self"] "Rows.name" (defScope s_Rows_name) A.f_Rows_name cdv Ar outer s H E) (LW K B W)) :
    MSs (cxOf (L2.CX P w) P w K mg base ["self"] "Rows.name" (defScope s_Rows_name) A.f_Rows_name cdv Ar outer s H E) B (defBody s_Rows_name) (r_Rows_name A W) := by
  have nd := sc_Rows_name.nd
  exact mb_one (ms_ret (me_fld T.fld_world (me_var 0)))
theorem b_Rows_write {P : Program} {w : World} {K : PySem.W.Frag} {mg : Str → Option Value} {base : Heap} {A : Ad} (T : Tx K mg A) (F_need_letter : FnM P w K mg base 3 A.f_need_letter ["shelf", "key", "body"] (sp_need_letter A)) (cdv : Value) (Ar : Around) (outer : List Env) (s : Shared) (H : Hp) (E : XK) (B : Bs) (W : WM)
    (hr : Room 3 (Ar.deeper (PyProof.Rows.envOfC "Rows.write" (defScope s_Rows_write) s.heap.objs.size A.f_Rows_write cdv))) (tk : Takes (cxOf (L2.CX P w) P w K mg base ["self", "row", "key", "body", "letters", "place", "letter"] "Rows.write" (defScope s_Rows_write) A.f_Rows_write cdv Ar outer s H E) (LW K B W)) :
    MSs (cxOf (L2.CX P w) P w K mg base ["self", "row", "key", "body", "letters", "place", "letter"] "Rows.write" (defScope s_Rows_write) A.f_Rows_write cdv Ar outer s H E) B (defBody s_Rows_write) (r_Rows_write A W) := by
  have nd := sc_Rows_write.nd
  exact mb_cons (ms_expr (me_call F_need_letter (hr.mono (by decide)) tk T.g_need_letter (ma_cons (me_var 1) (ma_cons (me_var 2) (ma_cons (me_var 3) (ma_nil)))))) (mb_cons (ms_set 4 nd (me_ix (u1 hr) (me_fld T.fld_shelves (me_var 0)) (me_var 1))) (mb_cons (ms_if (mt_val (me_fld T.fld_knows (me_var 0))) (mb_one (ms_for (passes_of rfl) rfl (mi_enum T.z_enumerate (me_var 4)) (mg_tup rfl (mgs_cons (mg_name 5 nd) (mgs_cons (mg_name 6 nd) (mgs_nil)))) (mb_one (ms_if (mt_cm (cm_eq (u64 hr)) (me_ix (u1 hr) (me_var 6) (me_int)) (me_var 2)) (mb_one (ms_ret (me_var 5))) (mb_nil))))) (mb_nil)) (mb_cons (ms_expr (me_append (me_var 4) (me_tup (ma_cons (me_var 2) (ma_cons (me_var 3) (ma_nil)))))) (mb_one (ms_ret (me_sub (me_len T.z_len (me_var 4)) (me_int)))))))
theorem b_Rows_read {P : Program} {w : World} {K : PySem.W.Frag} {mg : Str → Option Value} {base : Heap} {A : Ad} (T : Tx K mg A) (F_need_shelf : FnM P w K mg base 2 A.f_need_shelf ["shelf"] (sp_need_shelf A)) (F_need_place : FnM P w K mg base 2 A.f_need_place ["place", "many"] (sp_need_place A)) (cdv : Value) (Ar : Around) (outer : List Env) (s : Shared) (H : Hp) (E : XK) (B : Bs) (W : WM)
    (hr : Room 2 (Ar.deeper (PyProof.Rows.envOfC "Rows.read" (defScope s_Rows_read) s.heap.objs.size A.f_Rows_read cdv))) (tk : Takes (cxOf (L2.CX P w) P w K mg base ["self", "row", "place", "many"] "Rows.read" (defScope s_Rows_read) A.f_Rows_read cdv Ar outer s H E) (LW K B W)) :
    MSs (cxOf (L2.CX P w) P w K mg base ["self", "row", "place", "many"] "Rows.read" (defScope s_Rows_read) A.f_Rows_read cdv Ar outer s H E) B (defBody s_Rows_read) (r_Rows_read A W) := by
  have nd := sc_Rows_read.nd
  exact mb_cons (ms_expr (me_call F_need_shelf (hr.mono (by decide)) tk T.g_need_shelf (ma_cons (me_var 1) (ma_nil)))) (mb_cons (ms_expr (me_call F_need_place (hr.mono (by decide)) tk T.g_need_place (ma_cons (me_var 2) (ma_cons (me_var 3) (ma_nil))))) (mb_one (ms_ret (me_sl (me_ix (u1 hr) (me_fld T.fld_shelves (me_var 0)) (me_var 1)) (mo_some (me_var 2)) (mo_some (me_add (me_var 2) (me_var 3)))))))
theorem b_Rows_long {P : Program} {w : World} {K : PySem.W.Frag} {mg : Str → Option Value} {base : Heap} {A : Ad} (T : Tx K mg A) (F_need_shelf : FnM P w K mg base 2 A.f_need_shelf ["shelf"] (sp_need_shelf A)) (cdv : Value) (Ar : Around) (outer : List Env) (s : Shared) (H : Hp) (E : XK) (B : Bs) (W : WM)
    (hr : Room 2 (Ar.deeper (PyProof.Rows.envOfC "Rows.long" (defScope s_Rows_long) s.heap.objs.size A.f_Rows_long cdv))) (tk : Takes (cxOf (L2.CX P w) P w K mg base ["self", "row"] "Rows.long" (defScope s_Rows_long) A.f_Rows_long cdv Ar outer s H E) (LW K B W)) :
    MSs (cxOf (L2.CX P w) P w K mg base ["self", "row"] "Rows.long" (defScope s_Rows_long) A.f_Rows_long cdv Ar outer s H E) B (defBody s_Rows_long) (r_Rows_long A W) := by
  have nd := sc_Rows_long.nd
  exact mb_cons (ms_expr (me_call F_need_shelf (hr.mono (by decide)) tk T.g_need_shelf (ma_cons (me_var 1) (ma_nil)))) (mb_one (ms_ret (me_len T.z_len (me_ix (u1 hr) (me_fld T.fld_shelves (me_var 0)) (me_var 1)))))
theorem b_law_dice {P : Program} {w : World} {K : PySem.W.Frag} {mg : Str → Option Value} {base : Heap} {A : Ad} (T : Tx K mg A) (cdv : Value) (Ar : Around) (outer : List Env) (s : Shared) (H : Hp) (E : XK) (B : Bs) (W : WM)
    (hr : Room 0 (Ar.deeper (PyProof.Rows.envOfC "_law_dice" (defScope s_law_dice) s.heap.objs.size A.f_law_dice cdv))) (tk : Takes (cxOf (L2.CX P w) P w K mg base ["_law_script", "_law_k", "_law_found", "_law_cell"] "_law_dice" (defScope s_law_dice) A.f_law_dice cdv Ar outer s H E) (LW K B W)) :
    MSs (cxOf (L2.CX P w) P w K mg base ["_law_script", "_law_k", "_law_found", "_law_cell"] "_law_dice" (defScope s_law_dice) A.f_law_dice cdv Ar outer s H E) B (defBody s_law_dice) (r_law_dice A W) := by
  have nd := sc_law_dice.nd
  exact mb_cons (ms_set 2 nd (me_var 1)) (mb_cons (ms_for (passes_of rfl) rfl (mi_any (me_var 0)) (mg_name 3 nd) (mb_one (ms_set 2 nd (me_mod (me_add (me_mul (me_var 2) (me_int)) (me_abs T.z_abs (me_var 3))) (me_int))))) (mb_one (ms_ret (me_add (me_lst (ma_cons (me_var 2) (ma_cons (me_int) (ma_nil)))) (me_lc (own := [("_law_cell", 3)]) rfl nd (mi_any (me_var 0)) (by kernel_rfl) (fun _ _ _ _ _ => mg_name 3 nd) (fun _ _ _ _ _ => mts_one (mt_cm cm_ge (me_var 3) (me_pow (me_int) (me_int)))) (fun _ _ _ _ _ => me_var 3))))))
theorem b_law_off {P : Program} {w : World} {K : PySem.W.Frag} {mg : Str → Option Value} {base : Heap} {A : Ad} (T : Tx K mg A) (cdv : Value) (Ar : Around) (outer : List Env) (s : Shared) (H : Hp) (E : XK) (B : Bs) (W : WM)
    (hr : Room 0 (Ar.deeper (PyProof.Rows.envOfC "_law_off" (defScope s_law_off) s.heap.objs.size A.f_law_off cdv))) (tk : Takes (cxOf (L2.CX P w) P w K mg base ["_law_d", "_law_most", "_law_found"] "_law_off" (defScope s_law_off) A.f_law_off cdv Ar outer s H E) (LW K B W)) :
    MSs (cxOf (L2.CX P w) P w K mg base ["_law_d", "_law_most", "_law_found"] "_law_off" (defScope s_law_off) A.f_law_off cdv Ar outer s H E) B (defBody s_law_off) (r_law_off A W) := by
  have nd := sc_law_off.nd
  exact mb_cons (ms_if (MW.mt (mw_and (mt_cm (cm_eq (u64 hr)) (me_ix (u1 hr) (me_var 0) (me_int)) (me_int)) (mw_and1 (mt_cm cm_gt (me_len T.z_len (me_var 0)) (me_int))))) (mb_one (ms_asg (me_popAt (me_var 0) (me_int)) (mg_sub (u1 hr) (me_var 0) (me_int)))) (mb_nil)) (mb_cons (ms_if (mt_cm cm_gt (me_ix (u1 hr) (me_var 0) (me_int)) (me_int)) (mb_cons (ms_set 2 nd (me_mod (me_ix (u1 hr) (me_var 0) (me_int)) (me_var 1))) (mb_cons (ms_asg (me_div (me_ix (u1 hr) (me_var 0) (me_int)) (me_var 1)) (mg_sub (u1 hr) (me_var 0) (me_int))) (mb_one (ms_ret (me_var 2))))) (mb_nil)) (mb_cons (ms_asg (me_mod (me_add (me_mul (me_ix (u1 hr) (me_var 0) (me_int)) (me_int)) (me_int)) (me_int)) (mg_sub (u1 hr) (me_var 0) (me_int))) (mb_one (ms_ret (me_mod (me_div (me_ix (u1 hr) (me_var 0) (me_int)) (me_int)) (me_var 1))))))
theorem b_law_alike {P : Program} {w : World} {K : PySem.W.Frag} {mg : Str → Option Value} {base : Heap} {A : Ad} {k : Nat} {S : SpM} (T : Tx K mg A) (hk : 0 ≤ k) (F_law_alike : FnM P w K mg base k A.f_law_alike ["_law_found", "_law_due"] (S)) (cdv : Value) (Ar : Around) (outer : List Env) (s : Shared) (H : Hp) (E : XK) (B : Bs) (W : WM)
    (hr : Room k (Ar.deeper (PyProof.Rows.envOfC "_law_alike" (defScope s_law_alike) s.heap.objs.size A.f_law_alike cdv))) (tk : Takes (cxOf (L2.CX P w) P w K mg base ["_law_found", "_law_due", "_law_k"] "_law_alike" (defScope s_law_alike) A.f_law_alike cdv Ar outer s H E) (LW K B W)) :
    MSs (cxOf (L2.CX P w) P w K mg base ["_law_found", "_law_due", "_law_k"] "_law_alike" (defScope s_law_alike) A.f_law_alike cdv Ar outer s H E) B (defBody s_law_alike) (r_law_alike A S W) := by
  have nd := sc_law_alike.nd
  exact mb_cons (ms_if (mt_cm cm_is (me_var 1) (me_non)) (mb_one (ms_ret (me_cm cm_is (me_var 0) (me_non)))) (mb_nil)) (mb_cons (ms_if (mt_val (me_isi kit_bool T.z_isinstance T.z_bool boot_bool (me_var 1))) (mb_one (ms_ret (me_and (me_isi kit_bool T.z_isinstance T.z_bool boot_bool (me_var 0)) (me_one (me_cm (cm_eq (u64 hr)) (me_var 0) (me_var 1)))))) (mb_nil)) (mb_cons (ms_if (mt_val (me_isi kit_int T.z_isinstance T.z_int boot_int (me_var 1))) (mb_one (ms_ret (me_and (me_isi kit_int T.z_isinstance T.z_int boot_int (me_var 0)) (me_and (me_not (me_isi kit_bool T.z_isinstance T.z_bool boot_bool (me_var 0))) (me_one (me_cm (cm_eq (u64 hr)) (me_var 0) (me_var 1))))))) (mb_nil)) (mb_cons (ms_if (mt_val (me_isi kit_str T.z_isinstance T.z_str boot_str (me_var 1))) (mb_one (ms_ret (me_and (me_isi kit_str T.z_isinstance T.z_str boot_str (me_var 0)) (me_one (me_cm (cm_eq (u64 hr)) (me_var 0) (me_var 1)))))) (mb_nil)) (mb_cons (ms_if (MW.mt (mw_or (mt_cm (cm_ne (u64 hr)) (me_isi kit_tuple T.z_isinstance T.z_tuple boot_tuple (me_var 1)) (me_isi kit_tuple T.z_isinstance T.z_tuple boot_tuple (me_var 0))) (mw_or1 (mt_cm (cm_ne (u64 hr)) (me_isi kit_list T.z_isinstance T.z_list boot_list (me_var 1)) (me_isi kit_list T.z_isinstance T.z_list boot_list (me_var 0)))))) (mb_one (ms_ret (me_bl))) (mb_nil)) (mb_cons (ms_if (mt_cm (cm_ne (u64 hr)) (me_len T.z_len (me_var 0)) (me_len T.z_len (me_var 1))) (mb_one (ms_ret (me_bl))) (mb_nil)) (mb_one (ms_ret (me_all rfl T.z_all (me_lc (own := [("_law_k", 2)]) rfl nd (mi_range T.z_range (me_len T.z_len (me_var 1))) (by kernel_rfl) (fun _ _ _ _ _ => mg_name 2 nd) (fun _ _ _ _ _ => mts_nil) (fun _ _ _ _ _ => me_call F_law_alike (hr.mono (by omega)) takesF T.g_law_alike (ma_cons (me_ix (u1 hr) (me_var 0) (me_var 2)) (ma_cons (me_ix (u1 hr) (me_var 1) (me_var 2)) (ma_nil)))))))))))))
theorem b_law_key {P : Program} {w : World} {K : PySem.W.Frag} {mg : Str → Option Value} {base : Heap} {A : Ad} (T : Tx K mg A) (F_law_off : FnM P w K mg base 1 A.f_law_off ["_law_d", "_law_most"] (sp_law_off A)) (cdv : Value) (Ar : Around) (outer : List Env) (s : Shared) (H : Hp) (E : XK) (B : Bs) (W : WM)
    (hr : Room 1 (Ar.deeper (PyProof.Rows.envOfC "_law_key" (defScope s_law_key) s.heap.objs.size A.f_law_key cdv))) (tk : Takes (cxOf (L2.CX P w) P w K mg base ["_law_d"] "_law_key" (defScope s_law_key) A.f_law_key cdv Ar outer s H E) (LW K B W)) :
    MSs (cxOf (L2.CX P w) P w K mg base ["_law_d"] "_law_key" (defScope s_law_key) A.f_law_key cdv Ar outer s H E) B (defBody s_law_key) (r_law_key A W) := by
  have nd := sc_law_key.nd
  exact mb_one (ms_ret (me_tup (ma_cons (me_call F_law_off (hr.mono (by decide)) tk T.g_law_off (ma_cons (me_var 0) (ma_cons (me_int) (ma_nil)))) (ma_cons (me_call F_law_off (hr.mono (by decide)) tk T.g_law_off (ma_cons (me_var 0) (ma_cons (me_int) (ma_nil)))) (ma_cons (me_call F_law_off (hr.mono (by decide)) tk T.g_law_off (ma_cons (me_var 0) (ma_cons (me_int) (ma_nil)))) (ma_nil))))))
theorem b_law {P : Program} {w : World} {K : PySem.W.Frag} {mg : Str → Option Value} {base : Heap} {A : Ad} (T : Tx K mg A) (F_law_dice : FnM P w K mg base 1 A.f_law_dice ["_law_script", "_law_k"] (sp_law_dice A)) (F_law_off : FnM P w K mg base 1 A.f_law_off ["_law_d", "_law_most"] (sp_law_off A)) (F_Rows_init : FnM P w K mg base 3 A.f_Rows_init ["self", "name", "knows"] (sp_Rows_init A)) (F_law_key : FnM P w K mg base 2 A.f_law_key ["_law_d"] (sp_law_key A)) (F_Rows_write : FnM P w K mg base 4 A.f_Rows_write ["self", "row", "key", "body"] (sp_Rows_write A)) (F_law_alike : FnM P w K mg base 6 A.f_law_alike ["_law_found", "_law_due"] (sp_law_alike A)) (F_Rows_read : FnM P w K mg base 3 A.f_Rows_read ["self", "row", "place", "many"] (sp_Rows_read A)) (F_Rows_long : FnM P w K mg base 3 A.f_Rows_long ["self", "row"] (sp_Rows_long A)) (F_Rows_kind : FnM P w K mg base 1 A.f_Rows_kind ["self"] (sp_Rows_kind A)) (cdv : Value) (Ar : Around) (outer : List Env) (s : Shared) (H : Hp) (E : XK) (B : Bs) (W : WM)
    (hr : Room 6 (Ar.deeper (PyProof.Rows.envOfC "law" (defScope s_law) s.heap.objs.size A.f_law cdv))) (tk : Takes (cxOf (L2.CX P w) P w K mg base ["_law_script", "_law_d", "_law_sides", "_law_k", "_law_knows", "_law_turn", "_law_world", "_law_own", "_law_row", "_law_key_here", "_law_body", "_law_names", "_law_due", "_law_far", "_law_place", "_law_many", "_law_again", "_law_found", "_law_letter"] "law" (defScope s_law) A.f_law cdv Ar outer s H E) (LW K B W)) :
    MSs (cxOf (L2.CX P w) P w K mg base ["_law_script", "_law_d", "_law_sides", "_law_k", "_law_knows", "_law_turn", "_law_world", "_law_own", "_law_row", "_law_key_here", "_law_body", "_law_names", "_law_due", "_law_far", "_law_place", "_law_many", "_law_again", "_law_found", "_law_letter"] "law" (defScope s_law) A.f_law cdv Ar outer s H E) B (defBody s_law) (r_law A W) := by
  have nd := sc_law.nd
  exact mb_cons (ms_set 1 nd (me_call F_law_dice (hr.mono (by decide)) tk T.g_law_dice (ma_cons (me_var 0) (ma_cons (me_int) (ma_nil))))) (mb_cons (ms_set 2 nd (me_lst (ma_nil))) (mb_cons (ms_for (passes_of rfl) rfl (mi_range T.z_range (me_int)) (mg_name 3 nd) (mb_cons (ms_set 4 nd (me_cm (cm_eq (u64 hr)) (me_call F_law_off (hr.mono (by decide)) tk T.g_law_off (ma_cons (me_var 1) (ma_cons (me_int) (ma_nil)))) (me_int))) (mb_one (ms_expr (me_append (me_var 2) (me_tup (ma_cons (me_make T.mk_Rows F_Rows_init (hr.mono (by decide)) tk T.g_Rows (ma_cons (me_call F_law_off (hr.mono (by decide)) tk T.g_law_off (ma_cons (me_var 1) (ma_cons (me_int) (ma_nil)))) (ma_cons (me_var 4) (ma_nil)))) (ma_cons (me_var 4) (ma_cons (me_lc (own := [("_law_row", 8)]) rfl nd (mi_range T.z_range (me_int)) (by kernel_rfl) (fun _ _ _ _ _ => mg_name 8 nd) (fun _ _ _ _ _ => mts_nil) (fun _ _ _ _ _ => me_lst (ma_nil))) (ma_nil)))))))))) (mb_cons (ms_for (passes_of rfl) rfl (mi_range T.z_range (me_call F_law_off (hr.mono (by decide)) tk T.g_law_off (ma_cons (me_var 1) (ma_cons (me_int) (ma_nil))))) (mg_name 5 nd) (mb_cons (ms_asg (me_ix (u1 hr) (me_var 2) (me_call F_law_off (hr.mono (by decide)) tk T.g_law_off (ma_cons (me_var 1) (ma_cons (me_int) (ma_nil))))) (mg_tup rfl (mgs_cons (mg_name 6 nd) (mgs_cons (mg_name 4 nd) (mgs_cons (mg_name 7 nd) (mgs_nil)))))) (mb_cons (ms_set 8 nd (me_call F_law_off (hr.mono (by decide)) tk T.g_law_off (ma_cons (me_var 1) (ma_cons (me_int) (ma_nil))))) (mb_cons (ms_if (mt_cm cm_gt (me_call F_law_off (hr.mono (by decide)) tk T.g_law_off (ma_cons (me_var 1) (ma_cons (me_int) (ma_nil)))) (me_int)) (mb_cons (ms_set 9 nd (me_ix (u1 hr) (me_lst (ma_cons (me_call F_law_key (hr.mono (by decide)) tk T.g_law_key (ma_cons (me_var 1) (ma_nil))) (ma_cons (me_tup (ma_cons (me_call F_law_off (hr.mono (by decide)) tk T.g_law_off (ma_cons (me_var 1) (ma_cons (me_int) (ma_nil)))) (ma_cons (me_call F_law_off (hr.mono (by decide)) tk T.g_law_off (ma_cons (me_var 1) (ma_cons (me_int) (ma_nil)))) (ma_cons (me_call F_law_off (hr.mono (by decide)) tk T.g_law_off (ma_cons (me_var 1) (ma_cons (me_int) (ma_nil)))) (ma_nil))))) (ma_nil)))) (me_intc T.z_int (me_cm (cm_eq (u64 hr)) (me_call F_law_off (hr.mono (by decide)) tk T.g_law_off (ma_cons (me_var 1) (ma_cons (me_int) (ma_nil)))) (me_int))))) (mb_cons (ms_set 10 nd (me_call F_law_off (hr.mono (by decide)) tk T.g_law_off (ma_cons (me_var 1) (ma_cons (me_int) (ma_nil))))) (mb_cons (ms_setLc 11 (own := [("_law_letter", 18)]) rfl nd (mi_any (me_ix (u1 hr) (me_var 7) (me_var 8))) (by kernel_rfl) (fun _ _ _ _ _ => mg_name 18 nd) (fun _ _ _ _ _ => mts_nil) (fun _ _ _ _ _ => me_ix (u1 hr) (me_var 18) (me_int))) (mb_cons (ms_set 12 nd (me_if (MW.mt (mw_and (mt_val (me_var 4)) (mw_and1 (mt_cm (cm_in (u65 hr)) (me_var 9) (me_var 11))))) (me_index (u65 hr) (me_var 11) (me_var 9)) (me_len T.z_len (me_var 11)))) (mb_cons (ms_if (mt_cm (cm_eq (u64 hr)) (me_var 12) (me_len T.z_len (me_var 11))) (mb_one (ms_expr (me_append (me_ix (u1 hr) (me_var 7) (me_var 8)) (me_tup (ma_cons (me_var 9) (ma_cons (me_var 10) (ma_nil))))))) (mb_nil)) (mb_one (ms_if (mt_not (mt_val (me_call F_law_alike (hr.mono (by decide)) tk T.g_law_alike (ma_cons (me_meth (meths_cons ⟨T.cl_Rows, _, _, _, T.m_Rows_write, F_Rows_write, hr.mono (by decide)⟩ (meths_nil)) tk (me_var 6) (ma_cons (me_var 8) (ma_cons (me_var 9) (ma_cons (me_var 10) (ma_nil))))) (ma_cons (me_var 12) (ma_nil)))))) (mb_one (ms_ret (me_bl))) (mb_nil)))))))) (mb_nil)) (mb_cons (ms_set 13 nd (me_lst (ma_cons (me_call F_law_off (hr.mono (by decide)) tk T.g_law_off (ma_cons (me_var 1) (ma_cons (me_int) (ma_nil)))) (ma_cons (me_call F_law_off (hr.mono (by decide)) tk T.g_law_off (ma_cons (me_var 1) (ma_cons (me_int) (ma_nil)))) (ma_cons (me_pow (me_int) (me_int)) (ma_cons (me_call F_law_off (hr.mono (by decide)) tk T.g_law_off (ma_cons (me_var 1) (ma_cons (me_add (me_pow (me_int) (me_int)) (me_int)) (ma_nil)))) (ma_nil))))))) (mb_cons (ms_par 14 15 rfl nd (ma_cons (me_ix (u1 hr) (me_var 13) (me_call F_law_off (hr.mono (by decide)) tk T.g_law_off (ma_cons (me_var 1) (ma_cons (me_int) (ma_nil))))) (ma_cons (me_add (me_int) (me_call F_law_off (hr.mono (by decide)) tk T.g_law_off (ma_cons (me_var 1) (ma_cons (me_int) (ma_nil))))) (ma_nil)))) (mb_cons (ms_for (passes_of rfl) rfl (mi_range T.z_range (me_int)) (mg_name 16 nd) (mb_cons (ms_set 17 nd (me_meth (meths_cons ⟨T.cl_Rows, _, _, _, T.m_Rows_read, F_Rows_read, hr.mono (by decide)⟩ (meths_nil)) tk (me_var 6) (ma_cons (me_var 8) (ma_cons (me_var 14) (ma_cons (me_var 15) (ma_nil)))))) (mb_cons (ms_if (MW.mt (mw_or (mt_not (mt_val (me_call F_law_alike (hr.mono (by decide)) tk T.g_law_alike (ma_cons (me_var 17) (ma_cons (me_sl (me_ix (u1 hr) (me_var 7) (me_var 8)) (mo_some (me_var 14)) (mo_some (me_add (me_var 14) (me_var 15)))) (ma_nil)))))) (mw_or1 (mt_not (mt_val (me_call F_law_alike (hr.mono (by decide)) tk T.g_law_alike (ma_cons (me_meth (meths_cons ⟨T.cl_Rows, _, _, _, T.m_Rows_long, F_Rows_long, hr.mono (by decide)⟩ (meths_nil)) tk (me_var 6) (ma_cons (me_var 8) (ma_nil))) (ma_cons (me_len T.z_len (me_ix (u1 hr) (me_var 7) (me_var 8))) (ma_nil))))))))) (mb_one (ms_ret (me_bl))) (mb_nil)) (mb_one (ms_expr (me_append (me_var 17) (me_tup (ma_nil)))))))) (mb_one (ms_if (mt_not (mt_val (me_call F_law_alike (hr.mono (by decide)) tk T.g_law_alike (ma_cons (me_meth0 (meths_cons ⟨T.cl_Rows, _, _, _, T.m_Rows_kind, F_Rows_kind, hr.mono (by decide)⟩ (meths_nil)) tk (me_var 6)) (ma_cons (me_tup (ma_cons (me_str) (ma_cons (me_var 4) (ma_nil)))) (ma_nil)))))) (mb_one (ms_ret (me_bl))) (mb_nil)))))))))) (mb_one (ms_ret (me_bl))))))
abbrev Efn (Q : MVK) : MEnds := { nx := fun _ g' => ∃ g2, Le g2 g' ∧ Q .non g2, rt := Q }
abbrev Wfn (E : XM) : WM := fun c fs _ g => E c fs g
theorem hm_is_between (A : Ad) (ds : List D) (g : MH) (Q : MVK) (E : XM) (h : sp_is_between A ds g Q E) : r_is_between A (Wfn E) (Efn Q) (startM ["part", "low", "high"] ds) g := by
  obtain ⟨x, l, h, rfl, ⟨t, ht⟩, q⟩ := h
  unfold r_is_between
  repeat ac_rfl
  refine st_by (fun h1 => ?_) (fun h1 => ?_)
  · repeat ac_rfl
    refine st_by (fun h2 => ?_) (fun h2 => ?_)
    · obtain ⟨i, rfl⟩ : ∃ i, x = .int i := by
        cases x <;> first | exact ⟨_, rfl⟩ | skip
        · cases ht; simp [isI] at h1
        · cases ht; simp [isB] at h2
        · cases ht; simp [isI] at h1
        · unfold tyOf at ht; simp only at ht; split at ht <;> (cases ht; try simp [isI] at h1)
        · cases ht
        · cases ht; simp [isI] at h1
        · cases ht
      repeat ac_rfl
      refine st_by (fun h3 => ?_) (fun h3 => ?_)
      · repeat ac_rfl
        refine st_here ?_
        have e3 : l ≤ i := by simpa using h3
        have : isBet (.int i) l h = decide (i ≤ h) := by simp [isBet, e3]
        rw [this] at q; exact q
      · refine st_here ?_
        have e3 : ¬ l ≤ i := by simpa using h3
        have : isBet (.int i) l h = false := by simp [isBet, e3]
        rw [this] at q; exact q
    · refine st_here ?_
      have : isBet x l h = false := by
        cases x <;> first | rfl | skip
        cases ht; simp [isB] at h2
      rw [this] at q; exact q
  · refine st_here ?_
    have : isBet x l h = false := by
      cases x <;> first | rfl | skip
      cases ht; simp [isI] at h1
    rw [this] at q; exact q
theorem hm_is_key (A : Ad) (ds : List D) (g : MH) (Q : MVK) (E : XM) (h : sp_is_key A ds g Q E) : r_is_key A (Wfn E) (Efn Q) (startM ["key"] ds) g := by
  obtain ⟨x, rfl, ⟨⟨t, ht⟩, h2⟩, q⟩ := h
  unfold r_is_key
  repeat ac_rfl
  refine st_by (fun h1 => ?_) (fun h1 => ?_)
  · repeat ac_rfl
    refine st_here ?_
    have : isKeyD x = false := by
      cases x <;> first | rfl | skip
      cases ht; simp [isT] at h1
    rw [this] at q; exact q
  · obtain ⟨ds, rfl⟩ : ∃ ds, x = .tup ds := by
      cases x <;> first | exact ⟨_, rfl⟩ | skip
      · cases ht; simp [isT] at h1
      · cases ht; simp [isT] at h1
      · cases ht; simp [isT] at h1
      · cases ht; simp [isT] at h1
      · unfold tyOf at ht; simp only at ht; split at ht <;> (cases ht; try simp [isT] at h1)
      · cases ht
      · cases ht
    repeat ac_rfl
    refine st_by (fun h3 => ?_) (fun h3 => ?_)
    · repeat ac_rfl
      refine st_here ?_
      have : isKeyD (.tup ds) = false := by
        match ds, h3 with
        | [], _ => rfl
        | [_], _ => rfl
        | [_, _], _ => rfl
        | [_, _, _], h3 => simp at h3
        | _ :: _ :: _ :: _ :: _, _ => rfl
      rw [this] at q; exact q
    · obtain ⟨a, b, c, rfl⟩ : ∃ a b c, ds = [a, b, c] := by
        have : ds.length = 3 := by have : (ds.length : Int) = 3 := by simpa using h3
                                   omega
        match ds, this with
        | [a, b, c], _ => exact ⟨a, b, c, rfl⟩
      have ha := h2 _ rfl a (by simp)
      have hb := h2 _ rfl b (by simp)
      have hc := h2 _ rfl c (by simp)
      have e : isKeyD (.tup [a, b, c]) = (isBet a 0 9 && isBet b 0 9 && isBet c 0 999) := rfl
      repeat ac_rfl
      refine ⟨a, 0, 9, rfl, ha, ?_⟩
      repeat ac_rfl
      refine st_by (fun h4 => ?_) (fun h4 => ?_)
      · repeat ac_rfl
        refine ⟨b, 0, 9, rfl, hb, ?_⟩
        repeat ac_rfl
        refine st_by (fun h5 => ?_) (fun h5 => ?_)
        · repeat ac_rfl
          refine ⟨c, 0, 999, rfl, hc, ?_⟩
          refine st_here ?_
          rw [e, h4, h5] at q
          exact q
        · refine st_here ?_
          rw [e, h4, h5] at q
          exact q
      · refine st_here ?_
        rw [e, h4] at q
        exact q
theorem hm_need_world (A : Ad) (ds : List D) (g : MH) (Q : MVK) (E : XM) (h : sp_need_world A ds g Q E) : r_need_world A (Wfn E) (Efn Q) (startM ["name"] ds) g := by
  obtain ⟨x, rfl, ht, hb, q⟩ := h
  unfold r_need_world
  repeat ac_rfl
  refine ⟨x, 0, 9, rfl, ht, ?_⟩
  rw [hb]
  repeat ac_rfl
  exact st_here q
theorem hm_need_shelf (A : Ad) (ds : List D) (g : MH) (Q : MVK) (E : XM) (h : sp_need_shelf A ds g Q E) : r_need_shelf A (Wfn E) (Efn Q) (startM ["shelf"] ds) g := by
  obtain ⟨x, rfl, ht, hb, q⟩ := h
  unfold r_need_shelf
  repeat ac_rfl
  refine ⟨x, 0, 5, rfl, ht, ?_⟩
  rw [hb]
  repeat ac_rfl
  exact st_here q
theorem hm_need_letter (A : Ad) (ds : List D) (g : MH) (Q : MVK) (E : XM) (h : sp_need_letter A ds g Q E) : r_need_letter A (Wfn E) (Efn Q) (startM ["shelf", "key", "body"] ds) g := by
  obtain ⟨x, k, b, rfl, hx, hk, hb, b1, b2, b3, q⟩ := h
  unfold r_need_letter
  repeat ac_rfl
  refine ⟨x, rfl, hx, b1, ?_⟩
  repeat ac_rfl
  refine ⟨k, rfl, hk, ?_⟩
  rw [b2]
  repeat ac_rfl
  refine ⟨b, 0, 999, rfl, hb, ?_⟩
  rw [b3]
  repeat ac_rfl
  exact st_here q
theorem hm_need_place (A : Ad) (ds : List D) (g : MH) (Q : MVK) (E : XM) (h : sp_need_place A ds g Q E) : r_need_place A (Wfn E) (Efn Q) (startM ["place", "many"] ds) g := by
  obtain ⟨p, m, rfl, hp, hm, b1, b2, q⟩ := h
  unfold r_need_place
  repeat ac_rfl
  refine ⟨p, 0, 1000000, rfl, hp, ?_⟩
  rw [b1]
  repeat ac_rfl
  refine ⟨m, 1, 20, rfl, hm, ?_⟩
  rw [b2]
  repeat ac_rfl
  exact st_here q

theorem hm_law_off (A : Ad) (ds : List D) (g : MH) (Q : MVK) (E : XM) (h : sp_law_off A ds g Q E) : r_law_off A (Wfn E) (Efn Q) (startM ["_law_d", "_law_most", "_law_found"] ds) g := by
  obtain ⟨a, m, ms, rfl, m0, m1, ha, ⟨f, c, r, rfl, f0, f1, c0, hr, hx⟩, q⟩ := h
  have key : ∀ (c : Int) (r : List Int) (g' : MH), g' a = some (.lst (intsD (f :: c :: r))) → gup g' a = gup g a → 0 ≤ c → r.length ≤ 63 → (∀ x ∈ r, 0 ≤ x) → (mSeq (mIfS (mTest (mOp (rGtM) (mOp rIxM (mVar 0) (mC (.int 1))) (mC (.int 0)))) (mSeq (mSet 2 (mOp rModM (mOp rIxM (mVar 0) (mC (.int 1))) (mVar 1))) (mSeq (mAsg (mOp rDivM (mOp rIxM (mVar 0) (mC (.int 1))) (mVar 1)) (gS (mVar 0) (mC (.int 1)))) (mRet (mVar 2)))) (mNext)) (mSeq (mAsg (mOp rModM (mOp rAddM (mOp rMulM (mOp rIxM (mVar 0) (mC (.int 0))) (mC (.int 48271))) (mC (.int 11))) (mC (.int 2147483647))) (gS (mVar 0) (mC (.int 0)))) (mRet (mOp rModM (mOp rDivM (mOp rIxM (mVar 0) (mC (.int 0))) (mC (.int 64))) (mVar 1))))) (Efn Q) (startM ["_law_d", "_law_most", "_law_found"] [.ref a, .int m]) g' := by
    intro c r g' ha eg c0 hr hx
    repeat ac_rfl
    refine st_ixL ha atI_1 ?_
    repeat ac_rfl
    refine st_by (fun h1 => ?_) (fun h1 => ?_)
    · have c1 : 0 < c := by simpa using h1
      repeat ac_rfl
      refine st_ixL ha atI_1 ?_
      repeat ac_rfl
      refine st_ixL ha atI_1 ?_
      repeat ac_rfl
      refine st_setL ha ixN_1 ?_
      repeat ac_rfl
      refine st_here ?_
      rw [eg]
      exact q (c % m) (f :: c / m :: r) (Int.emod_nonneg _ (by omega)) (Int.emod_lt_of_pos _ m0) ⟨f, c / m, r, rfl, f0, f1, Int.ediv_nonneg c0 (by omega), hr, hx⟩
    · repeat ac_rfl
      refine st_ixL ha atI_0 ?_
      repeat ac_rfl
      refine st_mulI ?_ ?_
      · unfold CMul; omega
      repeat ac_rfl
      refine st_setL ha ixN_0 ?_
      repeat ac_rfl
      refine st_ixL gup_same atI_0 ?_
      repeat ac_rfl
      refine st_here ?_
      rw [eg]
      exact q ((f * 48271 + 11) % 2147483647 / 64 % m) ((f * 48271 + 11) % 2147483647 :: c :: r) (Int.emod_nonneg _ (by omega)) (Int.emod_lt_of_pos _ m0) ⟨_, c, r, rfl, Int.emod_nonneg _ (by omega), Int.emod_lt_of_pos _ (by omega), c0, hr, hx⟩
  unfold r_law_off
  repeat ac_rfl
  refine st_ixL ha atI_1 ?_
  repeat ac_rfl
  refine st_by (fun h1 => ?_) (fun h1 => ?_)
  · repeat ac_rfl
    refine st_by (fun h2 => ?_) (fun h2 => ?_)
    · match r, hr, hx, ha, h2 with
      | y :: r, hr, hx, ha, _ =>
        repeat ac_rfl
        refine st_popAt ha (by simp at hr ⊢; omega) (k := 2) ixN_2 rfl ?_
        repeat ac_rfl
        refine st_setL gup_same ixN_1 ?_
        refine key y r _ ?_ ?_ (hx y (by simp)) (by simp at hr; omega) (fun x hx' => hx x (by simp [hx']))
        · rw [gup_same]; rfl
        · funext o; rw [gup_gup, gup_gup]
    · exact key c r g ha rfl c0 hr hx
  · exact key c r g ha rfl c0 hr hx
theorem hm_law_dice (A : Ad) (ds : List D) (g : MH) (Q : MVK) (E : XM) (h : sp_law_dice A ds g Q E) : r_law_dice A (Wfn E) (Efn Q) (startM ["_law_script", "_law_k", "_law_found", "_law_cell"] ds) g := by
  obtain ⟨ns, rfl, hl, q⟩ := h
  unfold r_law_dice
  repeat ac_rfl
  refine ⟨fun i τ g' => g' = g ∧ ∃ f c, τ = [some (.fl (intsD ns)), some (.int 0), some (.int f), c] ∧ 0 ≤ f ∧ f < 2147483647, st_here ⟨rfl, 0, none, rfl, by omega, by omega⟩, fun _ _ _ _ _ => trivial, ?_, ?_⟩
  · rintro i d τ g' hd ⟨rfl, f, c, rfl, f0, f1⟩
    obtain ⟨x, rfl⟩ : ∃ x, d = .int x := by
      obtain ⟨x, _, rfl⟩ := List.mem_map.mp (List.mem_of_getElem? hd)
      exact ⟨x, rfl⟩
    repeat ac_rfl
    unfold r_law_dice_b1
    repeat ac_rfl
    refine st_mulI (.inr (by omega)) ?_
    repeat ac_rfl
    exact st_here ⟨rfl, _, some (.int x), rfl, Int.emod_nonneg _ (by omega), Int.emod_lt_of_pos _ (by omega)⟩
  · rintro τ g' ⟨rfl, f, c, rfl, f0, f1⟩
    repeat ac_rfl
    intro p hp
    repeat ac_rfl
    refine ⟨by simp [hl]; omega, fun i acc g'' => g'' = gup g' p (.lst [.int f, .int 0]) ∧ ∃ r : List Int, acc = intsD r ∧ r.length ≤ i ∧ ∀ x ∈ r, 0 ≤ x, st_here ⟨rfl, [], rfl, by simp, by simp⟩, fun _ _ _ _ _ => trivial, ?_, ?_⟩
    · rintro i d acc g'' hd ⟨rfl, r, rfl, hr, hx⟩
      obtain ⟨x, rfl⟩ : ∃ x, d = .int x := by
        obtain ⟨x, _, rfl⟩ := List.mem_map.mp (List.mem_of_getElem? hd)
        exact ⟨x, rfl⟩
      repeat ac_rfl
      refine st_by (fun h1 => ?_) (fun h1 => ?_)
      · repeat ac_rfl
        have : (10 : Int) ^ (18 : Int).toNat ≤ x := by simpa using h1
        refine st_here ⟨rfl, r ++ [x], by simp [intsD], by simp; omega, fun y hy => ?_⟩
        rcases List.mem_append.mp hy with hy | hy
        · exact hx y hy
        · rw [List.mem_singleton.mp hy]
          have : (0 : Int) < 10 ^ (18 : Int).toNat := by decide
          omega
      · exact st_here ⟨rfl, r, rfl, by omega, hx⟩
    · rintro acc g'' ⟨rfl, r, rfl, hr, hx⟩ p2 hp2
      have ne : p ≠ p2 := fun e => by rw [← e, gup_same] at hp2; cases hp2
      have hr' : r.length ≤ 63 := by rw [List.length_map] at hr; omega
      refine st_addL (xs := [.int f, .int 0]) (ys := intsD r) (by rw [gup_ne ne]; exact gup_same) gup_same (by simp; omega) ?_
      intro p3 hp3
      have n2 : g' p2 = none := by rw [gup_ne ne.symm] at hp2; exact hp2
      have n3 : g' p3 = none := Le.none ((Le.new hp).trans (Le.new hp2)) hp3
      refine st_less (g' := gup g' p3 (.lst (intsD (f :: 0 :: r)))) (Le.up ((Le.new hp).trans (Le.new hp2))) ?_
      exact q p3 (f :: 0 :: r) n3 ⟨f, 0, r, rfl, f0, f1, by omega, hr', hx⟩

theorem hm_Rows_init (A : Ad) (ds : List D) (g : MH) (Q : MVK) (E : XM) (h : sp_Rows_init A ds g Q E) : r_Rows_init A (Wfn E) (Efn Q) (startM ["self", "name", "knows", "shelf"] ds) g := by
  obtain ⟨x, n, k, rfl, hx, n0, n1, q⟩ := h
  unfold r_Rows_init
  repeat ac_rfl
  refine ⟨.int n, rfl, tyd_int, isBet_int n0 n1, ?_⟩
  repeat ac_rfl
  refine lc_news (n := 6) (by decide) (by decide) (o := .lst []) (fun τ g Q h p hp => h p hp) fun ls p g' hl c => ?_
  have hx' : g' x = some (.ins A.C_Rows [("world", .int n), ("knows", .bl k)]) := c.frame _ _ (by rw [gup_same]; rfl) (by simp [Blk.ad])
  repeat ac_rfl
  refine st_here (q _ p ls hl ?_)
  have o0 : Own g [(x, .ins A.C_Rows [])] := ⟨by simp [Blk.ad], by simp [hx]⟩
  have c1 := Chg.set (o' := .ins A.C_Rows (putFD "world" (.int n) [])) o0
  have c2 := c1.trans (Chg.set (o' := .ins A.C_Rows (putFD "knows" (.bl k) [("world", .int n)])) c1.own)
  have c3 := c2.trans (c.ctx (R := [(x, .ins A.C_Rows [("world", .int n), ("knows", .bl k)])]) c2.own)
  have e : (((p, GO.lst (ls.map D.ref)) :: ls.map (·, GO.lst [])) ++ [(x, GO.ins A.C_Rows [("world", .int n), ("knows", .bl k)])]).Perm ((x, GO.ins A.C_Rows [("world", .int n), ("knows", .bl k)]) :: (p, GO.lst (ls.map D.ref)) :: ls.map (·, GO.lst [])) := List.perm_append_singleton ..
  have c4 := (c3.perm (.refl _) e)
  have c5 := c4.trans (Chg.set (o' := .ins A.C_Rows (putFD "shelves" (.ref p) [("world", .int n), ("knows", .bl k)])) c4.own)
  have e2 : rowsB A.C_Rows x p ls ⟨n, k, List.replicate 6 []⟩ = (x, .ins A.C_Rows (putFD "shelves" (.ref p) [("world", .int n), ("knows", .bl k)])) :: (p, GO.lst (ls.map D.ref)) :: ls.map (·, GO.lst []) := by
    unfold rowsB
    congr 2
    match ls, hl with
    | [_, _, _, _, _, _], _ => rfl
  rw [e2]
  exact c5
theorem hm_Rows_kind (A : Ad) (ds : List D) (g : MH) (Q : MVK) (E : XM) (h : sp_Rows_kind A ds g Q E) : r_Rows_kind A (Wfn E) (Efn Q) (startM ["self"] ds) g := by
  obtain ⟨a, n, k, s, rfl, ha, q⟩ := h
  unfold r_Rows_kind
  repeat ac_rfl
  exact st_here q
theorem hm_Rows_name (A : Ad) (ds : List D) (g : MH) (Q : MVK) (E : XM) (h : sp_Rows_name A ds g Q E) : r_Rows_name A (Wfn E) (Efn Q) (startM ["self"] ds) g := by
  obtain ⟨a, n, k, s, rfl, ha, q⟩ := h
  unfold r_Rows_name
  repeat ac_rfl
  exact st_here q
theorem row_at {g : MH} {C a s : Addr} {ls : List Addr} {w : RowsS} {r : Nat} (o : Own g (rowsB C a s ls w)) (hl : ls.length = 6) (ok : w.Ok) (hr : r < 6) :
    g a = some (.ins C [("world", .int w.nm), ("knows", .bl w.kn), ("shelves", .ref s)]) ∧ g s = some (.lst (ls.map .ref)) ∧ ∃ l, ls[r]? = some l ∧ atI (ls.map D.ref) (r : Nat) = some (.ref l) ∧ g l = some (.lst ((w.row r).map letD)) := by
  have h1 : ls[r]? = some ls[r] := List.getElem?_eq_getElem (by omega)
  refine ⟨o.get List.mem_cons_self, o.get (List.mem_cons_of_mem _ List.mem_cons_self), ls[r], h1, atI_at (by rw [List.getElem?_map, h1]; rfl), o.get (List.mem_of_getElem? (rowsB_get h1 (by rw [ok.len]; exact hr)))⟩
theorem hm_Rows_write (A : Ad) (ds : List D) (g : MH) (Q : MVK) (E : XM) (h : sp_Rows_write A ds g Q E) : r_Rows_write A (Wfn E) (Efn Q) (startM ["self", "row", "key", "body", "letters", "place", "letter"] ds) g := by
  obtain ⟨a, s, ls, w, r, k, b, rfl, o, hl, ok, hr, hk, b0, b1, q⟩ := h
  obtain ⟨ha, hs, l, hl1, hl2, hl3⟩ := row_at o hl ok hr
  have hr6 : r < w.sh.length := by rw [ok.len]; exact hr
  unfold r_Rows_write
  repeat ac_rfl
  refine ⟨.int r, keyD k, .int b, rfl, tyd_int, tyt_key, tyd_int, isBet_int (by omega) (by omega), isKeyD_key hk, isBet_int b0 b1, ?_⟩
  repeat ac_rfl
  refine st_ixL hs hl2 ?_
  have app : ∀ p z, (w.kn = true → ∀ x ∈ w.row r, x.1 ≠ k) → (mSeq (mDrop (mBM rAppM (mVar 4) (mCons (mTup (mCons (mVar 2) (mCons (mVar 3) (mNil)))) mNil))) (mRet (mOp rSubM (mCB (r1 lenD) (mCons (mVar 4) mNil)) (mC (.int 1))))) (Efn Q) [some (.ref a), some (.int r), some (keyD k), some (.int b), some (.ref l), p, z] g := by
    intro p z hn
    have e := writeR_new (b := b) hn
    rw [e] at q
    repeat ac_rfl
    refine st_app hl3 (by rw [List.length_map]; have := ok.row r; omega) ?_
    repeat ac_rfl
    refine st_here ?_
    have c := Chg.setAt (o' := GO.lst (((w.row r) ++ [(k, b)]).map letD)) o (rowsB_get hl1 hr6)
    rw [rowsB_set hl1, List.map_append] at c
    have q1 := q _ c
    have e2 : ∀ z : D, (((((w.row r).map letD) ++ [z]).length : Nat) : Int) - 1 = ((w.row r).length : Nat) := by intro z; simp
    rw [e2]
    exact q1
  repeat ac_rfl
  refine st_by (fun hkn => ?_) (fun hkn => ?_)
  · repeat ac_rfl
    refine ⟨fun i τ g' => g' = g ∧ ∃ p z, τ = [some (.ref a), some (.int r), some (keyD k), some (.int b), some (.ref l), p, z] ∧ ∀ (j : Nat) y, j < i → (w.row r)[j]? = some y → y.1 ≠ k, st_here ⟨rfl, none, none, rfl, fun j y hj => by omega⟩, fun i τ g' _ ⟨e, _⟩ => by rw [e]; exact hl3, ?_, ?_⟩
    · rintro i d τ g' hd ⟨rfl, p, z, rfl, hn⟩
      obtain ⟨x, hx, rfl⟩ : ∃ x, (w.row r)[i]? = some x ∧ d = .tup [.int (i : Int), letD x] := by
        have hi : i < (enumD ((w.row r).map letD)).length := (List.getElem?_eq_some_iff.mp hd).1
        rw [enumD_length, List.length_map] at hi
        refine ⟨(w.row r)[i], List.getElem?_eq_getElem hi, ?_⟩
        rw [enumD_get (d := letD (w.row r)[i]) (by rw [List.getElem?_map, List.getElem?_eq_getElem hi]; rfl)] at hd
        exact (Option.some.inj hd).symm
      repeat ac_rfl
      unfold r_Rows_write_b1
      repeat ac_rfl
      refine st_eqK ?_
      ac_rfl
      refine st_by (fun h1 => ?_) (fun h1 => ?_)
      · repeat ac_rfl
        refine st_here ?_
        have e := writeR_at (b := b) hx (by simpa using h1) hn
        rw [hkn, e] at q
        rw [RowsS.setRow_self hr6] at q
        exact q _ (Chg.refl o)
      · repeat ac_rfl
        refine st_here ⟨rfl, _, _, rfl, fun j y hj hy => ?_⟩
        by_cases e : j = i
        · subst e; rw [hx] at hy; cases hy; simpa using h1
        · exact hn j y (by omega) hy
    · rintro τ g' ⟨rfl, p, z, rfl, hn⟩
      refine app p z fun _ x hx => ?_
      obtain ⟨j, hj⟩ := List.mem_iff_getElem?.mp hx
      refine hn j x ?_ hj
      rw [enumD_length, List.length_map]
      exact (List.getElem?_eq_some_iff.mp hj).1
  · exact app none none fun h => by rw [h] at hkn; cases hkn
theorem hm_Rows_read (A : Ad) (ds : List D) (g : MH) (Q : MVK) (E : XM) (h : sp_Rows_read A ds g Q E) : r_Rows_read A (Wfn E) (Efn Q) (startM ["self", "row", "place", "many"] ds) g := by
  obtain ⟨a, s, ls, w, r, p, m, rfl, o, hl, ok, hr, p0, m0, m1, q⟩ := h
  obtain ⟨ha, hs, l, hl1, hl2, hl3⟩ := row_at o hl ok hr
  unfold r_Rows_read
  repeat ac_rfl
  refine ⟨.int r, rfl, tyd_int, isBet_int (by omega) (by omega), ?_⟩
  repeat ac_rfl
  refine ⟨.int p, .int m, rfl, tyd_int, tyd_int, isBet_int (by omega) (by omega), isBet_int (by omega) (by omega), ?_⟩
  repeat ac_rfl
  refine st_ixL hs hl2 ?_
  repeat ac_rfl
  refine st_slL hl3 fun z hz => ?_
  refine st_here ?_
  rw [cutD_nat, ← List.map_drop, ← List.map_take]
  exact q z hz
theorem hm_Rows_long (A : Ad) (ds : List D) (g : MH) (Q : MVK) (E : XM) (h : sp_Rows_long A ds g Q E) : r_Rows_long A (Wfn E) (Efn Q) (startM ["self", "row"] ds) g := by
  obtain ⟨a, s, ls, w, r, rfl, o, hl, ok, hr, q⟩ := h
  obtain ⟨ha, hs, l, hl1, hl2, hl3⟩ := row_at o hl ok hr
  unfold r_Rows_long
  repeat ac_rfl
  refine ⟨.int r, rfl, tyd_int, isBet_int (by omega) (by omega), ?_⟩
  repeat ac_rfl
  refine st_ixL hs hl2 ?_
  repeat ac_rfl
  rw [List.length_map]
  exact st_here q

def alikeTail (S : SpM) : TSM := (mSeq (mIfS (mTest (mOp (rEqW true) (mCB (r1 lenD) (mCons (mVar 0) mNil)) (mCB (r1 lenD) (mCons (mVar 1) mNil)))) (mRet (mC (.bl false))) (mNext)) (mRet (mCB (r1 allD) (mCons (mLc (iRange1 (mCB (r1 lenD) (mCons (mVar 1) mNil))) (gN 2) (mYes) (mCall S WF (mCons (mOp rIxM (mVar 0) (mVar 2)) (mCons (mOp rIxM (mVar 1) (mVar 2)) (mNil)))) [2]) mNil))))
theorem alike_end (A : Ad) (n : Nat) (g : MH) (Q : MVK) (x y : D) (xs ys : List D) (q : Q (.bl true) g) (hx : lenD g x = some (.int xs.length)) (hy : lenD g y = some (.int ys.length)) (hl : xs.length ≤ 10000) (hxy : xs.length = ys.length)
    (ix : ∀ (i : Nat) d (g' : MH) (Q : MVK), Le g g' → xs[i]? = some d → Q d g' → rIxM x (.int (i : Nat)) g' Q) (iy : ∀ (i : Nat) d (g' : MH) (Q : MVK), Le g g' → ys[i]? = some d → Q d g' → rIxM y (.int (i : Nat)) g' Q)
    (ha : ∀ (i : Nat) a b, xs[i]? = some a → ys[i]? = some b → Alk g n a b) :
    alikeTail (spn_law_alike A n) (Efn Q) (startM ["_law_found", "_law_due", "_law_k"] [x, y]) g := by
  unfold alikeTail
  repeat ac_rfl
  refine st_1 hx ?_
  repeat ac_rfl
  refine st_1 hy ?_
  repeat ac_rfl
  rw [show (!decide ((xs.length : Int) = (ys.length : Int))) = false by rw [hxy]; simp]
  repeat ac_rfl
  refine st_1 hy ?_
  repeat ac_rfl
  refine ⟨by rw [rangeD_length]; omega, fun i acc g' => g' = g ∧ acc = List.replicate i (.bl true), st_here ⟨rfl, rfl⟩, fun _ _ _ _ _ => trivial, ?_, ?_⟩
  · rintro i d acc g' hd ⟨rfl, rfl⟩
    have hi : i < ys.length := by
      have := (List.getElem?_eq_some_iff.mp hd).1
      rw [rangeD_length] at this; omega
    rw [rangeD_get (by omega)] at hd
    cases hd
    have e : (0 : Int) + (i : Int) = (i : Nat) := by omega
    rw [e]
    have h1 : xs[i]? = some xs[i] := List.getElem?_eq_getElem (by omega)
    have h2 : ys[i]? = some ys[i] := List.getElem?_eq_getElem hi
    repeat ac_rfl
    refine ix i _ _ _ (Le.refl _) h1 ?_
    repeat ac_rfl
    refine iy i _ _ _ (Le.refl _) h2 ?_
    repeat ac_rfl
    refine ⟨_, _, rfl, ha i _ _ h1 h2, ?_⟩
    refine st_here ⟨rfl, ?_⟩
    rw [List.replicate_succ']
  · rintro acc g' ⟨rfl, rfl⟩ p hp
    have bs : ∀ k : Nat, blsOf (List.replicate k (.bl true)) = some (List.replicate k true) := by
      intro k
      induction k with
      | zero => rfl
      | succ k ih => rw [List.replicate_succ, List.replicate_succ]; unfold blsOf; rw [ih]; rfl
    repeat ac_rfl
    refine st_1 (y := .bl true) ?_ ?_
    · unfold allD
      simp only [gup_same, bs, Option.map_some]
      congr 2
      simp
    · exact st_less (Le.new hp) q
theorem hm_law_alike (A : Ad) (n : Nat) (ds : List D) (g : MH) (Q : MVK) (E : XM) (h : spn_law_alike A n ds g Q E) : r_law_alike A (spp_law_alike A n) (Wfn E) (Efn Q) (startM ["_law_found", "_law_due", "_law_k"] ds) g := by
  obtain ⟨x, y, rfl, h, q⟩ := h
  unfold r_law_alike
  show (mSeq _ (mSeq _ (mSeq _ (mSeq _ (mSeq _ (alikeTail _)))))) _ _ _
  cases x <;> cases y <;> first | (unfold Alk at h; exact h.elim) | skip
  · repeat ac_rfl
    exact st_here q
  · unfold Alk at h; subst h
    repeat ac_rfl
    rw [decide_eq_true rfl]
    exact st_here q
  · unfold Alk at h; subst h
    repeat ac_rfl
    rw [decide_eq_true rfl]
    exact st_here q
  · unfold Alk at h; subst h
    repeat ac_rfl
    rw [decide_eq_true rfl]
    exact st_here q
  · rename_i a b
    cases n with
    | zero => unfold Alk at h; exact h.elim
    | succ n =>
      unfold Alk at h
      obtain ⟨xs, ys, ha, hb, hl, hxy, h⟩ := h
      have ta : tyOf g (.ref a) = some .lst := by unfold tyOf; simp only [ha]
      have tb : tyOf g (.ref b) = some .lst := by unfold tyOf; simp only [hb]
      repeat ac_rfl
      exact alike_end A n g Q _ _ xs ys q (by unfold lenD; simp only [ha]) (by unfold lenD; simp only [hb]) hl hxy (fun i d g' Q l e h => st_ixL (l _ _ ha) (atI_at e) h) (fun i d g' Q l e h => st_ixL (l _ _ hb) (atI_at e) h) h
  · rename_i xs ys
    cases n with
    | zero => unfold Alk at h; exact h.elim
    | succ n =>
      unfold Alk at h
      obtain ⟨hl, hxy, h⟩ := h
      repeat ac_rfl
      exact alike_end A n g Q _ _ xs ys q rfl rfl hl hxy (fun i d g' Q l e h => st_ixT (atI_at e) h) (fun i d g' Q l e h => st_ixT (atI_at e) h) h

theorem hm_law_key (A : Ad) (ds : List D) (g : MH) (Q : MVK) (E : XM) (h : sp_law_key A ds g Q E) : r_law_key A (Wfn E) (Efn Q) (startM ["_law_d"] ds) g := by
  obtain ⟨a, ms, rfl, ha, ok, q⟩ := h
  unfold r_law_key
  repeat ac_rfl
  refine ⟨a, 3, ms, rfl, by omega, by omega, ha, ok, fun r1 ms1 a1 b1 ok1 => ?_⟩
  repeat ac_rfl
  refine ⟨a, 2, ms1, rfl, by omega, by omega, gup_same, ok1, fun r2 ms2 a2 b2 ok2 => ?_⟩
  repeat ac_rfl
  refine ⟨a, 4, ms2, rfl, by omega, by omega, gup_same, ok2, fun r3 ms3 a3 b3 ok3 => ?_⟩
  repeat ac_rfl
  refine st_here ?_
  rw [gup_gup, gup_gup]
  exact q (r1, r2, r3) ms3 ⟨a1, by show r1 ≤ 9; omega, a2, by show r2 ≤ 9; omega, a3, by show r3 ≤ 999; omega⟩ ok3

theorem st_off {A : Ad} {g : MH} {d : Addr} {R : Blk} {m : Int} {Q : MVK} {E : XM} (h : DOwn g d R) (k : ∀ (r : Nat) g', (r : Int) < m → DOwn g' d R → Q (.int r) g') (m0 : 0 < m := by decide) (m1 : m < 1073741824 := by decide) : sp_law_off A [.ref d, .int m] g Q E := by
  obtain ⟨ms, ok, o⟩ := h
  exact ⟨d, m, ms, rfl, m0, m1, o.head, ok, fun r ms' r0 r1 ok' => by
    obtain ⟨n, rfl⟩ := Int.eq_ofNat_of_zero_le r0
    exact k n _ r1 ⟨ms', ok', (Chg.set o).own⟩⟩
theorem st_lawkey {A : Ad} {g : MH} {d : Addr} {R : Blk} {Q : MVK} {E : XM} (h : DOwn g d R) (k : ∀ k g', KeyOk k → DOwn g' d R → Q (keyD k) g') : sp_law_key A [.ref d] g Q E := by
  obtain ⟨ms, ok, o⟩ := h
  exact ⟨d, ms, rfl, o.head, ok, fun r ms' r0 ok' => k r _ r0 ⟨ms', ok', (Chg.set o).own⟩⟩
theorem st_lawdice {A : Ad} {g : MH} {ns : List Int} {Q : MVK} {E : XM} (hl : ns.length ≤ 63) (k : ∀ d g', DOwn g' d [] → Q (.ref d) g') : sp_law_dice A [.fl (intsD ns), .int 0] g Q E :=
  ⟨ns, rfl, hl, fun p ms hp ok => k p _ ⟨ms, ok, (Own.nil (g := g)).add hp⟩⟩

structure Side where
  (a s : Addr) (ls : List Addr) (o : Addr) (os : List Addr) (w : RowsS)
abbrev Side.tup (x : Side) : D := .tup [.ref x.a, .bl x.w.kn, .ref x.o]
def Side.blk (C : Addr) (x : Side) : Blk := rowsB C x.a x.s x.ls x.w ++ ((x.o, .lst (x.os.map .ref)) :: shB x.os x.w.sh)
structure Side.Ok (x : Side) (n : Nat) : Prop where
  ls : x.ls.length = 6
  os : x.os.length = 6
  sh : x.w.sh.length = 6
  few : ∀ l ∈ x.w.sh, l.length ≤ n
theorem Side.Ok.w {x : Side} {n : Nat} (h : x.Ok n) (hn : n ≤ 5000) : x.w.Ok := ⟨h.sh, fun l hl => Nat.le_trans (h.few l hl) hn⟩
def TS (ns : List Int) (d S : Addr) (τ : MSt) : Prop := ∃ x3 x4 x5 x6 x7 x8 x9 x10 x11 x12 x13 x14 x15 x16 x17 x18, τ = [some (.fl (intsD ns)), some (.ref d), some (.ref S), x3, x4, x5, x6, x7, x8, x9, x10, x11, x12, x13, x14, x15, x16, x17, x18]
theorem own_at {g : MH} {C : Addr} {x : Side} {R : Blk} {d : Addr} {n r : Nat} (h : DOwn g d (x.blk C ++ R)) (ok : x.Ok n) (hr : r < 6) :
    g x.o = some (.lst (x.os.map .ref)) ∧ ∃ l, x.os[r]? = some l ∧ atI (x.os.map D.ref) (r : Nat) = some (.ref l) ∧ g l = some (.lst ((x.w.row r).map letD)) := by
  have hO := h.left.own
  unfold Side.blk at hO
  have h1 : x.os[r]? = some (x.os[r]'(by rw [ok.os]; exact hr)) := List.getElem?_eq_getElem _
  refine ⟨hO.get (List.mem_append_right _ List.mem_cons_self), _, h1, atI_at (by rw [List.getElem?_map, h1]; rfl), hO.get (List.mem_append_right _ (List.mem_cons_of_mem _ (List.mem_of_getElem? (shB_get h1 (x.w.row_get (by rw [ok.sh]; exact hr))))))⟩

def firstD : D → Option D
  | .tup (k :: _) => some k
  | _ => none
theorem firsts (l : List (LK × Int)) : (l.map letD).filterMap firstD = (l.map (·.1)).map keyD := by
  rw [List.filterMap_map]
  induction l with
  | nil => rfl
  | cons x l ih => rw [List.filterMap_cons]; simp only [Function.comp, letD, firstD, List.map_cons]; rw [← ih]; try rfl
theorem deed_chg {x : Side} {n r : Nat} {y : List (LK × Int)} (ok : x.Ok n) (hr : r < 6) (hy : y.length ≤ n + 1) :
    ({ x with w := x.w.setRow r y } : Side).Ok (n + 1) := by
  refine ⟨ok.ls, ok.os, by show (x.w.sh.set r y).length = 6; rw [List.length_set]; exact ok.sh, fun l hl => ?_⟩
  rcases List.mem_or_eq_of_mem_set hl with h | h
  · have := ok.few l h; omega
  · rw [h]; exact hy
theorem own_set {x : Side} {r : Nat} {l : Addr} {y : List (LK × Int)} (h : x.os[r]? = some l) : (x.o, GO.lst (x.os.map D.ref)) :: (shB x.os x.w.sh).set r (l, .lst (y.map letD)) = (x.o, GO.lst (x.os.map D.ref)) :: shB x.os (x.w.setRow r y).sh := by rw [shB_set h]; rfl

theorem k02_deed (A : Ad) (W : WM) (E : MEnds) (ns : List Int) (d S : Addr) (x : Side) (R : Blk) (n r : Nat) (g : MH) (x3 x5 x9 x10 x11 x12 x13 x14 x15 x16 x17 x18 : Option D) (h : DOwn g d (x.blk A.C_Rows ++ R)) (ok : x.Ok n) (hn : n < 5000) (hr : r < 6)
    (k : ∀ g' w' y9 y10 y11 y12 y18, DOwn g' d (({ x with w := w' } : Side).blk A.C_Rows ++ R) → ({ x with w := w' } : Side).Ok (n + 1) → w'.kn = x.w.kn → E.nx [some (.fl (intsD ns)), some (.ref d), some (.ref S), x3, some (.bl x.w.kn), x5, some (.ref x.a), some (.ref x.o), some (.int (r : Nat)), y9, y10, y11, y12, x13, x14, x15, x16, x17, y18] g') : r_law_b2 A W E [some (.fl (intsD ns)), some (.ref d), some (.ref S), x3, some (.bl x.w.kn), x5, some (.ref x.a), some (.ref x.o), some (.int (r : Nat)), x9, x10, x11, x12, x13, x14, x15, x16, x17, x18] g := by
  unfold r_law_b2
  repeat ac_rfl
  refine st_lawkey h fun k1 g1 hk1 h1 => ?_
  repeat ac_rfl
  refine st_off h1 fun r1 g2 b1 h2 => ?_
  repeat ac_rfl
  refine st_off h2 fun r2 g3 b2 h3 => ?_
  repeat ac_rfl
  refine st_off h3 fun r3 g4 b3 h4 => ?_
  repeat ac_rfl
  intro p hp
  have h5 := h4.new (o := .lst [keyD k1, .tup [.int r1, .int r2, .int r3]]) hp
  repeat ac_rfl
  refine st_off h5 fun r4 g5 b4 h6 => ?_
  obtain ⟨ky, hk, hky⟩ : ∃ ky, KeyOk ky ∧ atI [keyD k1, .tup [.int r1, .int r2, .int r3]] (if decide ((r4 : Int) = 0) = true then 1 else 0) = some (keyD ky) := by
    by_cases e : (r4 : Int) = 0
    · rw [decide_eq_true e, if_pos rfl]
      exact ⟨((r1 : Int), (r2 : Int), (r3 : Int)), ⟨by show (0 : Int) ≤ r1; omega, by show (r1 : Int) ≤ 9; omega, by show (0 : Int) ≤ r2; omega, by show (r2 : Int) ≤ 9; omega, by show (0 : Int) ≤ r3; omega, by show (r3 : Int) ≤ 999; omega⟩, atI_1⟩
    · rw [decide_eq_false e, if_neg (by decide)]
      exact ⟨k1, hk1, atI_0⟩
  repeat ac_rfl
  refine st_ixL (h6.get List.mem_cons_self) hky ?_
  replace h6 := h6.tail
  repeat ac_rfl
  refine st_off h6 fun b g6 hb h7 => ?_
  obtain ⟨ho, l, hl1, hl2, hl3⟩ := own_at h7 ok hr
  repeat ac_rfl
  refine st_ixL ho hl2 ?_
  repeat ac_rfl
  have hrl : (x.w.row r).length ≤ n := by
    have := x.w.row_get (r := r) (by rw [ok.sh]; exact hr)
    exact ok.few _ (List.mem_of_getElem? this)
  refine lc_pure firstD (by rw [List.length_map]; omega) hl3 (fun d hd Y N hY hN => ?_) fun p2 hp2 => ?_
  · obtain ⟨y, hy, rfl⟩ := List.mem_map.mp hd
    repeat ac_rfl
    exact hY _ rfl
  rw [firsts]
  have hN : gup g6 p2 (.lst (((x.w.row r).map (·.1)).map keyD)) p2 = some (.lst (((x.w.row r).map (·.1)).map keyD)) := gup_same
  have h8 := h7.new (o := .lst (((x.w.row r).map (·.1)).map keyD)) hp2
  generalize gup g6 p2 (.lst (((x.w.row r).map (·.1)).map keyD)) = g7 at hN h8
  obtain ⟨ho', l', hl1', hl2', hl3'⟩ := own_at (R := R) h8.tail ok hr
  rw [hl1] at hl1'; cases hl1'
  have hO := h8.tail
  have hr6 : r < x.w.sh.length := by rw [ok.sh]; exact hr
  generalize hw : writeR x.w.kn (x.w.row r) ky b = wr
  with_reducible refine seq_cut (fun τ' g' => g' = g7 ∧ τ' = [some (.fl (intsD ns)), some (.ref d), some (.ref S), x3, some (.bl x.w.kn), x5, some (.ref x.a), some (.ref x.o), some (.int (r : Nat)), some (keyD ky), some (.int b), some (.ref p2), some (.int (wr.1 : Nat)), x13, x14, x15, x16, x17, x18]) ?_ ?_
  · intro N hN'
    have new : (x.w.kn = true → ky ∉ (x.w.row r).map (·.1)) → N [some (.fl (intsD ns)), some (.ref d), some (.ref S), x3, some (.bl x.w.kn), x5, some (.ref x.a), some (.ref x.o), some (.int (r : Nat)), some (keyD ky), some (.int b), some (.ref p2), some (.int (wr.1 : Nat)), x13, x14, x15, x16, x17, x18] g7 → N [some (.fl (intsD ns)), some (.ref d), some (.ref S), x3, some (.bl x.w.kn), x5, some (.ref x.a), some (.ref x.o), some (.int (r : Nat)), some (keyD ky), some (.int b), some (.ref p2), some (.int (wr.1 : Nat)), x13, x14, x15, x16, x17, x18] g7 := fun _ h => h
    repeat ac_rfl
    refine st_by (fun h9 => ?_) (fun h9 => ?_)
    · repeat ac_rfl
      refine st_inK hN ?_
      repeat ac_rfl
      refine st_by (fun h10 => ?_) (fun h10 => ?_)
      · repeat ac_rfl
        refine st_indexK hN (by simpa using h10) ?_
        have e := writeR_known (b := b) (show ky ∈ (x.w.row r).map (·.1) by simpa using h10)
        rw [h9, e] at hw
        exact hN' _ _ ⟨rfl, by rw [← hw]; rfl⟩
      · repeat ac_rfl
        have e := writeR_new (kn := x.w.kn) (l := x.w.row r) (k := ky) (b := b) (fun _ z hz e => by
          have : ky ∉ (x.w.row r).map (·.1) := by simpa using h10
          exact this (by rw [← e]; exact List.mem_map_of_mem hz))
        rw [e] at hw
        exact hN' _ _ ⟨rfl, by rw [← hw]; simp⟩
    · repeat ac_rfl
      have e := writeR_new (kn := x.w.kn) (l := x.w.row r) (k := ky) (b := b) (fun z => by rw [h9] at z; cases z)
      rw [e] at hw
      exact hN' _ _ ⟨rfl, by rw [← hw]; simp⟩
  rintro τ' g' ⟨rfl, rfl⟩
  have wlen : wr.2.length ≤ n + 1 := by
    rw [← hw]; unfold writeR; split <;> simp <;> omega
  with_reducible refine seq_cut (fun τ' g' => τ' = [some (.fl (intsD ns)), some (.ref d), some (.ref S), x3, some (.bl x.w.kn), x5, some (.ref x.a), some (.ref x.o), some (.int (r : Nat)), some (keyD ky), some (.int b), some (.ref p2), some (.int (wr.1 : Nat)), x13, x14, x15, x16, x17, x18] ∧ DOwn g' d (rowsB A.C_Rows x.a x.s x.ls x.w ++ (((x.o, .lst (x.os.map .ref)) :: shB x.os (x.w.setRow r wr.2).sh) ++ R))) ?_ ?_
  · intro N hN'
    have hO' := hO
    unfold Side.blk at hO
    rw [List.append_assoc] at hO
    have hOp := hO.perm (List.perm_append_comm_assoc ..)
    repeat ac_rfl
    refine st_by (fun h9 => ?_) (fun h9 => ?_)
    · have ew : wr = ((x.w.row r).length, x.w.row r ++ [(ky, (b : Int))]) := by
        rw [← hw]
        have : wr.1 = (x.w.row r).length := by
          have q : (wr.1 : Int) = ((x.w.row r).length : Nat) := by simpa using h9
          omega
        rw [← hw] at this
        unfold writeR at this ⊢
        split
        · rename_i i hi
          rw [hi] at this
          simp only at this
          exfalso
          split at hi
          · unfold keyIx at hi
            obtain ⟨q, _⟩ := List.findIdx?_eq_some_iff_getElem.mp hi
            omega
          · cases hi
        · rfl
      repeat ac_rfl
      refine st_ixL ho' hl2' ?_
      repeat ac_rfl
      refine st_app hl3' (by rw [List.length_map]; omega) ?_
      repeat ac_rfl
      refine hN' _ _ ⟨rfl, ?_⟩
      have c := Chg.setAt (i := r + 1) (o' := GO.lst ((x.w.row r ++ [(ky, (b : Int))]).map letD)) hOp.left.own (by rw [List.getElem?_cons_succ]; exact shB_get hl1 (x.w.row_get hr6))
      have q := hOp.chg c
      rw [List.set_cons_succ, own_set hl1, List.map_append] at q
      rw [ew]
      exact q.perm (List.perm_append_comm_assoc ..)
    · repeat ac_rfl
      refine hN' _ _ ⟨rfl, ?_⟩
      have ew : wr.2 = x.w.row r := by
        rw [← hw]
        have : ¬ wr.1 = (x.w.row r).length := by
          have q : ¬ (wr.1 : Int) = ((x.w.row r).length : Nat) := by simpa using h9
          omega
        rw [← hw] at this
        unfold writeR at this ⊢
        split
        · rfl
        · rename_i hi
          rw [hi] at this
          exact absurd rfl this
      rw [ew, RowsS.setRow_self hr6]
      exact hO
  · rintro τ' g' ⟨rfl, h9⟩
    have hwo := h9.left.own
    have ha : g' x.a = some (.ins A.C_Rows [("world", .int x.w.nm), ("knows", .bl x.w.kn), ("shelves", .ref x.s)]) := hwo.get List.mem_cons_self
    repeat ac_rfl
    refine ⟨x.a, x.s, x.ls, x.w, r, ky, b, rfl, hwo, ok.ls, ok.w (by omega), hr, hk, by omega, by omega, fun g9 c => ?_⟩
    rw [hw] at c ⊢
    repeat ac_rfl
    refine ⟨_, _, rfl, alk_refl pln_int, ?_⟩
    repeat ac_rfl
    have h10 := h9.chg c
    rw [← List.append_assoc] at h10
    exact k g9 (x.w.setRow r wr.2) _ _ _ _ _ h10 (deed_chg ok hr wlen) rfl

theorem k02_look (A : Ad) (W : WM) (E : MEnds) (ns : List Int) (d S : Addr) (x : Side) (R : Blk) (n r p m : Nat) (g : MH) (x3 x5 x9 x10 x11 x12 x13 x16 x17 x18 : Option D) (h : DOwn g d (x.blk A.C_Rows ++ R)) (ok : x.Ok n) (hn : n < 5000) (hr : r < 6) (hp : p ≤ 1000000) (m0 : 1 ≤ m) (m1 : m ≤ 20)
    (k : ∀ g' y17, DOwn g' d (x.blk A.C_Rows ++ R) → E.nx [some (.fl (intsD ns)), some (.ref d), some (.ref S), x3, some (.bl x.w.kn), x5, some (.ref x.a), some (.ref x.o), some (.int (r : Nat)), x9, x10, x11, x12, x13, some (.int (p : Nat)), some (.int (m : Nat)), x16, y17, x18] g') : r_law_b3 A W E [some (.fl (intsD ns)), some (.ref d), some (.ref S), x3, some (.bl x.w.kn), x5, some (.ref x.a), some (.ref x.o), some (.int (r : Nat)), x9, x10, x11, x12, x13, some (.int (p : Nat)), some (.int (m : Nat)), x16, x17, x18] g := by
  unfold r_law_b3
  have hw : Own g (rowsB A.C_Rows x.a x.s x.ls x.w) := h.own.left.left
  have ha : g x.a = some (.ins A.C_Rows [("world", .int x.w.nm), ("knows", .bl x.w.kn), ("shelves", .ref x.s)]) := hw.get List.mem_cons_self
  have hwok := ok.w (by omega)
  have hrl := hwok.row r
  repeat ac_rfl
  refine ⟨x.a, x.s, x.ls, x.w, r, p, m, rfl, hw, ok.ls, hwok, hr, hp, m0, m1, fun q hq => ?_⟩
  have h1 := h.new (o := .lst ((((x.w.row r).drop p).take m).map letD)) hq
  have hq1 : gup g q (.lst ((((x.w.row r).drop p).take m).map letD)) q = some (.lst ((((x.w.row r).drop p).take m).map letD)) := gup_same
  generalize gup g q (.lst ((((x.w.row r).drop p).take m).map letD)) = g1 at h1 hq1
  obtain ⟨ho, l, hl1, hl2, hl3⟩ := own_at (R := R) h1.tail ok hr
  repeat ac_rfl
  refine st_ixL ho hl2 ?_
  repeat ac_rfl
  refine st_slL hl3 fun z hz => ?_
  rw [cutD_nat, ← List.map_drop, ← List.map_take]
  repeat ac_rfl
  have h2 := h1.new (o := .lst ((((x.w.row r).drop p).take m).map letD)) hz
  refine ⟨_, _, rfl, alk_list (n := 4) (h2.get (List.mem_cons_of_mem _ List.mem_cons_self)) gup_same (by rw [List.length_map, List.length_take]; omega) (fun d hd => ?_), ?_⟩
  · obtain ⟨y, _, rfl⟩ := List.mem_map.mp hd
    exact pln_let (n := 2)
  have hw2 : Own (gup g1 z (.lst ((((x.w.row r).drop p).take m).map letD))) (rowsB A.C_Rows x.a x.s x.ls x.w) := h2.tail.tail.own.left.left
  have hq2 := h2.get (List.mem_cons_of_mem _ List.mem_cons_self)
  generalize gup g1 z (.lst ((((x.w.row r).drop p).take m).map letD)) = g2 at h2 hw2 hq2
  have ha2 : g2 x.a = some (.ins A.C_Rows [("world", .int x.w.nm), ("knows", .bl x.w.kn), ("shelves", .ref x.s)]) := hw2.get List.mem_cons_self
  obtain ⟨ho2, l2, hl12, hl22, hl32⟩ := own_at (R := R) h2.tail.tail ok hr
  repeat ac_rfl
  refine ⟨x.a, x.s, x.ls, x.w, r, rfl, hw2, ok.ls, hwok, hr, ?_⟩
  repeat ac_rfl
  refine st_ixL ho2 hl22 ?_
  repeat ac_rfl
  refine ⟨_, _, rfl, by rw [List.length_map]; exact alk_refl pln_int, ?_⟩
  repeat ac_rfl
  refine st_app hq2 (by rw [List.length_map, List.length_take]; omega) ?_
  exact k _ _ ((h2.tail.set).tail)

def SidesAt (C : Addr) (g : MH) (d S : Addr) (l : List Side) (n : Nat) : Prop := (∀ x ∈ l, x.Ok n) ∧ DOwn g d ((S, .lst (l.map Side.tup)) :: (l.map (Side.blk C)).flatten)
theorem k02_turn (A : Ad) (W : WM) (E : MEnds) (ns : List Int) (d S : Addr) (l : List Side) (n : Nat) (g : MH) (τ : MSt) (d5 : D) (hτ : TS ns d S τ) (hl : l.length = 2) (hn : n < 4000) (h : SidesAt A.C_Rows g d S l n)
    (k : ∀ τ' g' l', TS ns d S τ' → l'.length = 2 → SidesAt A.C_Rows g' d S l' (n + 1) → E.nx τ' g') : r_law_b4 A W E (τ.set 5 (some d5)) g := by
  obtain ⟨x3, x4, x5, x6, x7, x8, x9, x10, x11, x12, x13, x14, x15, x16, x17, x18, rfl⟩ := hτ
  obtain ⟨ok, h⟩ := h
  unfold r_law_b4
  repeat ac_rfl
  refine st_off h fun i g1 hi h1 => ?_
  obtain ⟨x, hx⟩ : ∃ x, l[i]? = some x := ⟨l[i]'(by omega), List.getElem?_eq_getElem _⟩
  have okx := ok x (List.mem_of_getElem? hx)
  refine st_ixL (h1.get List.mem_cons_self) (d := x.tup) (atI_at (by rw [List.getElem?_map, hx]; rfl)) ?_
  obtain ⟨R, hR⟩ := flat_at (f := Side.blk A.C_Rows) hx
  have hperm : ∀ y : Side, ((S, GO.lst (l.map Side.tup)) :: ((l.set i y).map (Side.blk A.C_Rows)).flatten).Perm (y.blk A.C_Rows ++ ((S, GO.lst (l.map Side.tup)) :: R)) := fun y => ((hR y).cons _).trans List.perm_middle.symm
  have h2 : DOwn g1 d (x.blk A.C_Rows ++ ((S, GO.lst (l.map Side.tup)) :: R)) := h1.perm (by have := hperm x; rw [set_self hx] at this; exact this)
  repeat ac_rfl
  refine st_off h2 fun r g2 hr h3 => ?_
  have hr6 : r < 6 := by omega
  with_reducible refine seq_cut (fun τ' g' => ∃ w' y9 y10 y11 y12 y18, τ' = [some (.fl (intsD ns)), some (.ref d), some (.ref S), x3, some (.bl x.w.kn), some d5, some (.ref x.a), some (.ref x.o), some (.int (r : Nat)), y9, y10, y11, y12, x13, x14, x15, x16, x17, y18] ∧ DOwn g' d (({ x with w := w' } : Side).blk A.C_Rows ++ ((S, GO.lst (l.map Side.tup)) :: R)) ∧ ({ x with w := w' } : Side).Ok (n + 1) ∧ w'.kn = x.w.kn) ?_ ?_
  · intro N hN
    repeat ac_rfl
    refine st_off h3 fun r2 g3 hr2 h4 => ?_
    repeat ac_rfl
    refine st_by (fun h5 => ?_) (fun h5 => ?_)
    · exact k02_deed A W _ ns d S x _ n r g3 _ _ _ _ _ _ _ _ _ _ _ _ h4 okx (by omega) hr6 fun g' w' y9 y10 y11 y12 y18 a b c => hN _ _ ⟨w', y9, y10, y11, y12, y18, rfl, a, b, c⟩
    · ac_rfl
      exact hN _ _ ⟨x.w, _, _, _, _, _, rfl, h4, ⟨okx.ls, okx.os, okx.sh, fun l hl => Nat.le_succ_of_le (okx.few l hl)⟩, rfl⟩
  rintro τ' g' ⟨w', y9, y10, y11, y12, y18, rfl, h4, ok', ekn⟩
  repeat ac_rfl
  refine st_off h4 fun f1 g3 b1 h5 => ?_
  repeat ac_rfl
  refine st_off h5 fun f2 g4 b2 h6 => ?_
  repeat ac_rfl
  refine st_off h6 fun f3 g5 b3 h7 => ?_
  repeat ac_rfl
  intro pf hpf
  have h8 := h7.new (o := .lst [.int f1, .int f2, .int (10 ^ (6 : Int).toNat), .int f3]) hpf
  repeat ac_rfl
  refine st_off h8 fun r4 g6 b4 h9 => ?_
  obtain ⟨p, hp, hpa⟩ : ∃ p : Nat, p ≤ 1000000 ∧ atI [D.int f1, D.int f2, D.int (10 ^ (6 : Int).toNat), D.int f3] (r4 : Nat) = some (.int (p : Nat)) := by
    match r4, b4 with
    | 0, _ => exact ⟨f1, by omega, atI_at rfl⟩
    | 1, _ => exact ⟨f2, by omega, atI_at rfl⟩
    | 2, _ => exact ⟨1000000, by omega, atI_at rfl⟩
    | 3, _ => exact ⟨f3, by have : (f3 : Int) < 10 ^ (6 : Int).toNat + 1 := b3; have e : (10 : Int) ^ (6 : Int).toNat = 1000000 := by decide
                            omega, atI_at rfl⟩
  refine st_ixL (h9.get List.mem_cons_self) hpa ?_
  replace h9 := h9.tail
  repeat ac_rfl
  refine st_off h9 fun m' g7 bm h10 => ?_
  repeat ac_rfl
  obtain ⟨m, em, hm0, hm1⟩ : ∃ m : Nat, (1 : Int) + (m' : Int) = (m : Nat) ∧ 1 ≤ m ∧ m ≤ 20 := ⟨1 + m', by omega, by omega, by omega⟩
  rw [em]
  repeat ac_rfl
  refine ⟨fun j τ' g' => ∃ y16 y17, τ' = [some (.fl (intsD ns)), some (.ref d), some (.ref S), x3, some (.bl x.w.kn), some d5, some (.ref x.a), some (.ref x.o), some (.int (r : Nat)), y9, y10, y11, y12, some (.ref pf), some (.int (p : Nat)), some (.int (m : Nat)), y16, y17, y18] ∧ DOwn g' d (({ x with w := w' } : Side).blk A.C_Rows ++ ((S, GO.lst (l.map Side.tup)) :: R)), st_here ⟨_, _, rfl, h10⟩, fun _ _ _ _ _ => trivial, ?_, ?_⟩
  · rintro j d16 τ' g' _ ⟨y16, y17, rfl, h11⟩
    ac_rfl
    rw [← ekn]
    refine k02_look A W _ ns d S ({ x with w := w' } : Side) _ (n + 1) r p m g' x3 (some d5) y9 y10 y11 y12 (some (.ref pf)) (some d16) y17 y18 h11 ok' (by omega) hr6 hp hm0 hm1 fun g'' y hq => ?_
    exact st_here ⟨_, _, rfl, hq⟩
  · rintro τ' g' ⟨y16, y17, rfl, h11⟩
    have ha : g' x.a = some (.ins A.C_Rows [("world", .int w'.nm), ("knows", .bl w'.kn), ("shelves", .ref x.s)]) := h11.get (List.mem_append_left _ (List.mem_append_left _ List.mem_cons_self))
    repeat ac_rfl
    refine ⟨x.a, w'.nm, w'.kn, x.s, rfl, ha, ?_⟩
    repeat ac_rfl
    rw [ekn]
    refine ⟨_, _, rfl, alk_refl (n := 5) ?_, ?_⟩
    · unfold Pln
      refine ⟨by simp, fun z hz => ?_⟩
      simp only [List.mem_cons, List.not_mem_nil, or_false] at hz
      rcases hz with rfl | rfl
      · exact pln_str
      · exact pln_bl
    repeat ac_rfl
    refine k _ g' (l.set i { x with w := w' }) ⟨_, _, _, _, _, _, _, _, _, _, _, _, _, _, _, _, rfl⟩ (by rw [List.length_set]; exact hl) ⟨fun z hz => ?_, ?_⟩
    · rcases List.mem_or_eq_of_mem_set hz with q | q
      · have := ok z q
        exact ⟨this.ls, this.os, this.sh, fun y hy => Nat.le_succ_of_le (this.few y hy)⟩
      · rw [q]; exact ok'
    · have e : (l.set i { x with w := w' }).map Side.tup = l.map Side.tup := by
        rw [List.map_set]
        exact set_self (by rw [List.getElem?_map, hx]; show some (Side.tup x) = some (Side.tup { x with w := w' }); unfold Side.tup; rw [ekn])
      rw [e]
      exact h11.perm (hperm _).symm

theorem k02_make (A : Ad) (W : WM) (E : MEnds) (ns : List Int) (d S : Addr) (l : List Side) (g : MH) (τ : MSt) (d3 : D) (hτ : TS ns d S τ) (hl : l.length < 100) (h : SidesAt A.C_Rows g d S l 0)
    (k : ∀ τ' g' x, TS ns d S τ' → SidesAt A.C_Rows g' d S (l ++ [x]) 0 → E.nx τ' g') : r_law_b1 A W E (τ.set 3 (some d3)) g := by
  obtain ⟨x3, x4, x5, x6, x7, x8, x9, x10, x11, x12, x13, x14, x15, x16, x17, x18, rfl⟩ := hτ
  obtain ⟨ok, h⟩ := h
  unfold r_law_b1
  repeat ac_rfl
  refine st_off h fun i g1 hi h1 => ?_
  have hS := h1.get List.mem_cons_self
  repeat ac_rfl
  refine st_off h1 fun nm g2 hnm h2 => ?_
  repeat ac_rfl
  intro a ha
  have h3 := h2.new (o := .ins A.C_Rows []) ha
  refine ⟨a, nm, decide ((i : Int) = 0), rfl, gup_same, by omega, by omega, fun g3 s ls hls c => ⟨rfl, ?_⟩⟩
  have h4 := h3.chg (L := [(a, .ins A.C_Rows [])]) c
  repeat ac_rfl
  refine lc_news (n := 6) (by decide) (by decide) (o := .lst []) (fun τ g Q h p hp => h p hp) fun os o g4 hos c2 => ?_
  have h5 := h4.chg (L := []) c2
  repeat ac_rfl
  have hS5 : g4 S = some (.lst (l.map Side.tup)) := h5.get (List.mem_append_right _ (List.mem_append_right (rowsB A.C_Rows a s ls _) List.mem_cons_self))
  refine st_app hS5 (by rw [List.length_map]; omega) ?_
  have e6 : shB os (List.replicate 6 []) = os.map (·, GO.lst []) := by
    match os, hos with
    | [_, _, _, _, _, _], _ => rfl
  refine k _ _ ⟨a, s, ls, o, os, ⟨nm, decide ((i : Int) = 0), List.replicate 6 []⟩⟩ ⟨_, _, _, _, _, _, _, _, _, _, _, _, _, _, _, _, rfl⟩ ⟨fun x hx => ?_, ?_⟩
  · rcases List.mem_append.mp hx with q | q
    · exact ok x q
    · rw [List.mem_singleton.mp q]
      exact ⟨hls, hos, by simp, fun y hy => by have := (List.mem_replicate.mp hy).2; subst this; simp⟩
  · have p1 : (((o, GO.lst (os.map D.ref)) :: os.map (·, GO.lst [])) ++ (rowsB A.C_Rows a s ls ⟨nm, decide ((i : Int) = 0), List.replicate 6 []⟩ ++ ((S, GO.lst (l.map Side.tup)) :: (l.map (Side.blk A.C_Rows)).flatten))).Perm
        ((S, GO.lst (l.map Side.tup)) :: ((l ++ [(⟨a, s, ls, o, os, ⟨nm, decide ((i : Int) = 0), List.replicate 6 []⟩⟩ : Side)]).map (Side.blk A.C_Rows)).flatten) := by
      rw [List.map_append, List.flatten_append]
      refine List.perm_append_comm.trans ?_
      rw [List.append_assoc]
      refine (List.perm_append_comm_assoc ..).trans ?_
      rw [List.cons_append]
      refine .cons _ ?_
      simp only [List.map_cons, List.map_nil, List.flatten_cons, List.flatten_nil, List.append_nil]
      unfold Side.blk
      rw [e6]
    have := (h5.perm p1).set (o' := .lst (l.map Side.tup ++ [Side.tup ⟨a, s, ls, o, os, ⟨nm, decide ((i : Int) = 0), List.replicate 6 []⟩⟩]))
    rw [List.map_append]
    exact this

theorem hm_law (A : Ad) (ds : List D) (g : MH) (Q : MVK) (E : XM) (h : spLaw ds g Q E) : r_law A (Wfn E) (Efn Q) (startM ["_law_script", "_law_d", "_law_sides", "_law_k", "_law_knows", "_law_turn", "_law_world", "_law_own", "_law_row", "_law_key_here", "_law_body", "_law_names", "_law_due", "_law_far", "_law_place", "_law_many", "_law_again", "_law_found", "_law_letter"] ds) g := by
  obtain ⟨ns, rfl, hl, q⟩ := h
  unfold r_law
  repeat ac_rfl
  refine st_lawdice hl fun d g1 h1 => ?_
  repeat ac_rfl
  intro S hS
  have h2 := h1.new (o := .lst []) hS
  repeat ac_rfl
  refine ⟨fun i τ g' => TS ns d S τ ∧ ∃ l, l.length = i ∧ SidesAt A.C_Rows g' d S l 0, st_here ⟨⟨_, _, _, _, _, _, _, _, _, _, _, _, _, _, _, _, rfl⟩, [], rfl, fun _ h => (nomatch h), h2⟩, fun _ _ _ _ _ => trivial, ?_, ?_⟩
  · rintro i e τ g' hi ⟨hτ, l, hl, hs⟩
    ac_rfl
    have hi2 : i < 2 := by have := (List.getElem?_eq_some_iff.mp hi).1; rw [rangeD_length] at this; exact this
    exact k02_make A _ _ ns d S l g' τ e hτ (by omega) hs fun τ' g'' x h3 h4 => st_here ⟨h3, l ++ [x], by rw [List.length_append, hl]; rfl, h4⟩
  · rintro τ g' ⟨hτ, l, hl, hs⟩
    rw [rangeD_length] at hl
    obtain ⟨x3, x4, x5, x6, x7, x8, x9, x10, x11, x12, x13, x14, x15, x16, x17, x18, rfl⟩ := hτ
    obtain ⟨ok, hd⟩ := hs
    repeat ac_rfl
    refine st_off hd fun n g2 hn h3 => ?_
    repeat ac_rfl
    refine ⟨fun i τ g' => TS ns d S τ ∧ ∃ l, l.length = 2 ∧ SidesAt A.C_Rows g' d S l i, st_here ⟨⟨_, _, _, _, _, _, _, _, _, _, _, _, _, _, _, _, rfl⟩, l, hl, ok, h3⟩, fun _ _ _ _ _ => trivial, ?_, ?_⟩
    · rintro i e τ g' hi ⟨hτ, l, hl, hs⟩
      ac_rfl
      have hi2 : i < 51 := by have := (List.getElem?_eq_some_iff.mp hi).1; rw [rangeD_length] at this; omega
      exact k02_turn A _ _ ns d S l i g' τ e hτ hl (by omega) hs fun τ' g'' l' a b c => st_here ⟨a, l', b, c⟩
    · rintro τ g' _
      repeat ac_rfl
      exact st_here (q _)


theorem fm_is_between {P : Program} {w : World} {K : PySem.W.Frag} {mg : Str → Option Value} {base : Heap} {A : Ad} (T : Tx K mg A) : FnM P w K mg base 1 A.f_is_between ["part", "low", "high"] (sp_is_between A) :=
  fm_ok T.F_is_between sc_is_between (by intro ds g Q E h; unfold sp_is_between at h; repeat (first | (obtain ⟨rfl, _⟩ := h; exact rfl) | obtain ⟨_, h⟩ := h)) (by intro ds g Q Q' E E' hQ hE; unfold sp_is_between; repeat' (first | exact id | exact hQ _ _ | exact hE _ _ _ | refine Exists.imp fun _ => ?_ | refine And.imp ?_ ?_ | refine forall_imp fun _ => ?_ | refine Or.imp ?_ ?_)) (b_is_between T ) (hm_is_between A)
theorem fm_Rows_kind {P : Program} {w : World} {K : PySem.W.Frag} {mg : Str → Option Value} {base : Heap} {A : Ad} (T : Tx K mg A) : FnM P w K mg base 1 A.f_Rows_kind ["self"] (sp_Rows_kind A) :=
  fm_ok T.F_Rows_kind sc_Rows_kind (by intro ds g Q E h; unfold sp_Rows_kind at h; repeat (first | (obtain ⟨rfl, _⟩ := h; exact rfl) | obtain ⟨_, h⟩ := h)) (by intro ds g Q Q' E E' hQ hE; unfold sp_Rows_kind; repeat' (first | exact id | exact hQ _ _ | exact hE _ _ _ | refine Exists.imp fun _ => ?_ | refine And.imp ?_ ?_ | refine forall_imp fun _ => ?_ | refine Or.imp ?_ ?_)) (b_Rows_kind T ) (hm_Rows_kind A)
theorem fm_Rows_name {P : Program} {w : World} {K : PySem.W.Frag} {mg : Str → Option Value} {base : Heap} {A : Ad} (T : Tx K mg A) : FnM P w K mg base 1 A.f_Rows_name ["self"] (sp_Rows_name A) :=
  fm_ok T.F_Rows_name sc_Rows_name (by intro ds g Q E h; unfold sp_Rows_name at h; repeat (first | (obtain ⟨rfl, _⟩ := h; exact rfl) | obtain ⟨_, h⟩ := h)) (by intro ds g Q Q' E E' hQ hE; unfold sp_Rows_name; repeat' (first | exact id | exact hQ _ _ | exact hE _ _ _ | refine Exists.imp fun _ => ?_ | refine And.imp ?_ ?_ | refine forall_imp fun _ => ?_ | refine Or.imp ?_ ?_)) (b_Rows_name T ) (hm_Rows_name A)
theorem fm_law_dice {P : Program} {w : World} {K : PySem.W.Frag} {mg : Str → Option Value} {base : Heap} {A : Ad} (T : Tx K mg A) : FnM P w K mg base 1 A.f_law_dice ["_law_script", "_law_k"] (sp_law_dice A) :=
  fm_ok T.F_law_dice sc_law_dice (by intro ds g Q E h; unfold sp_law_dice at h; repeat (first | (obtain ⟨rfl, _⟩ := h; exact rfl) | obtain ⟨_, h⟩ := h)) (by intro ds g Q Q' E E' hQ hE; unfold sp_law_dice; repeat' (first | exact id | exact hQ _ _ | exact hE _ _ _ | refine Exists.imp fun _ => ?_ | refine And.imp ?_ ?_ | refine forall_imp fun _ => ?_ | refine Or.imp ?_ ?_)) (b_law_dice T ) (hm_law_dice A)
theorem fm_law_off {P : Program} {w : World} {K : PySem.W.Frag} {mg : Str → Option Value} {base : Heap} {A : Ad} (T : Tx K mg A) : FnM P w K mg base 1 A.f_law_off ["_law_d", "_law_most"] (sp_law_off A) :=
  fm_ok T.F_law_off sc_law_off (by intro ds g Q E h; unfold sp_law_off at h; repeat (first | (obtain ⟨rfl, _⟩ := h; exact rfl) | obtain ⟨_, h⟩ := h)) (by intro ds g Q Q' E E' hQ hE; unfold sp_law_off; repeat' (first | exact id | exact hQ _ _ | exact hE _ _ _ | refine Exists.imp fun _ => ?_ | refine And.imp ?_ ?_ | refine forall_imp fun _ => ?_ | refine Or.imp ?_ ?_)) (b_law_off T ) (hm_law_off A)
theorem fm_is_key {P : Program} {w : World} {K : PySem.W.Frag} {mg : Str → Option Value} {base : Heap} {A : Ad} (T : Tx K mg A) : FnM P w K mg base 2 A.f_is_key ["key"] (sp_is_key A) :=
  fm_ok T.F_is_key sc_is_key (by intro ds g Q E h; unfold sp_is_key at h; repeat (first | (obtain ⟨rfl, _⟩ := h; exact rfl) | obtain ⟨_, h⟩ := h)) (by intro ds g Q Q' E E' hQ hE; unfold sp_is_key; repeat' (first | exact id | exact hQ _ _ | exact hE _ _ _ | refine Exists.imp fun _ => ?_ | refine And.imp ?_ ?_ | refine forall_imp fun _ => ?_ | refine Or.imp ?_ ?_)) (b_is_key T (fm_is_between T)) (hm_is_key A)
theorem fm_need_world {P : Program} {w : World} {K : PySem.W.Frag} {mg : Str → Option Value} {base : Heap} {A : Ad} (T : Tx K mg A) : FnM P w K mg base 2 A.f_need_world ["name"] (sp_need_world A) :=
  fm_ok T.F_need_world sc_need_world (by intro ds g Q E h; unfold sp_need_world at h; repeat (first | (obtain ⟨rfl, _⟩ := h; exact rfl) | obtain ⟨_, h⟩ := h)) (by intro ds g Q Q' E E' hQ hE; unfold sp_need_world; repeat' (first | exact id | exact hQ _ _ | exact hE _ _ _ | refine Exists.imp fun _ => ?_ | refine And.imp ?_ ?_ | refine forall_imp fun _ => ?_ | refine Or.imp ?_ ?_)) (b_need_world T (fm_is_between T)) (hm_need_world A)
theorem fm_need_shelf {P : Program} {w : World} {K : PySem.W.Frag} {mg : Str → Option Value} {base : Heap} {A : Ad} (T : Tx K mg A) : FnM P w K mg base 2 A.f_need_shelf ["shelf"] (sp_need_shelf A) :=
  fm_ok T.F_need_shelf sc_need_shelf (by intro ds g Q E h; unfold sp_need_shelf at h; repeat (first | (obtain ⟨rfl, _⟩ := h; exact rfl) | obtain ⟨_, h⟩ := h)) (by intro ds g Q Q' E E' hQ hE; unfold sp_need_shelf; repeat' (first | exact id | exact hQ _ _ | exact hE _ _ _ | refine Exists.imp fun _ => ?_ | refine And.imp ?_ ?_ | refine forall_imp fun _ => ?_ | refine Or.imp ?_ ?_)) (b_need_shelf T (fm_is_between T)) (hm_need_shelf A)
theorem fm_need_place {P : Program} {w : World} {K : PySem.W.Frag} {mg : Str → Option Value} {base : Heap} {A : Ad} (T : Tx K mg A) : FnM P w K mg base 2 A.f_need_place ["place", "many"] (sp_need_place A) :=
  fm_ok T.F_need_place sc_need_place (by intro ds g Q E h; unfold sp_need_place at h; repeat (first | (obtain ⟨rfl, _⟩ := h; exact rfl) | obtain ⟨_, h⟩ := h)) (by intro ds g Q Q' E E' hQ hE; unfold sp_need_place; repeat' (first | exact id | exact hQ _ _ | exact hE _ _ _ | refine Exists.imp fun _ => ?_ | refine And.imp ?_ ?_ | refine forall_imp fun _ => ?_ | refine Or.imp ?_ ?_)) (b_need_place T (fm_is_between T)) (hm_need_place A)
theorem fm_law_key {P : Program} {w : World} {K : PySem.W.Frag} {mg : Str → Option Value} {base : Heap} {A : Ad} (T : Tx K mg A) : FnM P w K mg base 2 A.f_law_key ["_law_d"] (sp_law_key A) :=
  fm_ok T.F_law_key sc_law_key (by intro ds g Q E h; unfold sp_law_key at h; repeat (first | (obtain ⟨rfl, _⟩ := h; exact rfl) | obtain ⟨_, h⟩ := h)) (by intro ds g Q Q' E E' hQ hE; unfold sp_law_key; repeat' (first | exact id | exact hQ _ _ | exact hE _ _ _ | refine Exists.imp fun _ => ?_ | refine And.imp ?_ ?_ | refine forall_imp fun _ => ?_ | refine Or.imp ?_ ?_)) (b_law_key T (fm_law_off T)) (hm_law_key A)
theorem fm_need_letter {P : Program} {w : World} {K : PySem.W.Frag} {mg : Str → Option Value} {base : Heap} {A : Ad} (T : Tx K mg A) : FnM P w K mg base 3 A.f_need_letter ["shelf", "key", "body"] (sp_need_letter A) :=
  fm_ok T.F_need_letter sc_need_letter (by intro ds g Q E h; unfold sp_need_letter at h; repeat (first | (obtain ⟨rfl, _⟩ := h; exact rfl) | obtain ⟨_, h⟩ := h)) (by intro ds g Q Q' E E' hQ hE; unfold sp_need_letter; repeat' (first | exact id | exact hQ _ _ | exact hE _ _ _ | refine Exists.imp fun _ => ?_ | refine And.imp ?_ ?_ | refine forall_imp fun _ => ?_ | refine Or.imp ?_ ?_)) (b_need_letter T (fm_need_shelf T) (fm_is_key T) (fm_is_between T)) (hm_need_letter A)
theorem fm_Rows_init {P : Program} {w : World} {K : PySem.W.Frag} {mg : Str → Option Value} {base : Heap} {A : Ad} (T : Tx K mg A) : FnM P w K mg base 3 A.f_Rows_init ["self", "name", "knows"] (sp_Rows_init A) :=
  fm_ok T.F_Rows_init sc_Rows_init (by intro ds g Q E h; unfold sp_Rows_init at h; repeat (first | (obtain ⟨rfl, _⟩ := h; exact rfl) | obtain ⟨_, h⟩ := h)) (by intro ds g Q Q' E E' hQ hE; unfold sp_Rows_init; repeat' (first | exact id | exact hQ _ _ | exact hE _ _ _ | refine Exists.imp fun _ => ?_ | refine And.imp ?_ ?_ | refine forall_imp fun _ => ?_ | refine Or.imp ?_ ?_)) (b_Rows_init T (fm_need_world T)) (hm_Rows_init A)
theorem fm_Rows_read {P : Program} {w : World} {K : PySem.W.Frag} {mg : Str → Option Value} {base : Heap} {A : Ad} (T : Tx K mg A) : FnM P w K mg base 3 A.f_Rows_read ["self", "row", "place", "many"] (sp_Rows_read A) :=
  fm_ok T.F_Rows_read sc_Rows_read (by intro ds g Q E h; unfold sp_Rows_read at h; repeat (first | (obtain ⟨rfl, _⟩ := h; exact rfl) | obtain ⟨_, h⟩ := h)) (by intro ds g Q Q' E E' hQ hE; unfold sp_Rows_read; repeat' (first | exact id | exact hQ _ _ | exact hE _ _ _ | refine Exists.imp fun _ => ?_ | refine And.imp ?_ ?_ | refine forall_imp fun _ => ?_ | refine Or.imp ?_ ?_)) (b_Rows_read T (fm_need_shelf T) (fm_need_place T)) (hm_Rows_read A)
theorem fm_Rows_long {P : Program} {w : World} {K : PySem.W.Frag} {mg : Str → Option Value} {base : Heap} {A : Ad} (T : Tx K mg A) : FnM P w K mg base 3 A.f_Rows_long ["self", "row"] (sp_Rows_long A) :=
  fm_ok T.F_Rows_long sc_Rows_long (by intro ds g Q E h; unfold sp_Rows_long at h; repeat (first | (obtain ⟨rfl, _⟩ := h; exact rfl) | obtain ⟨_, h⟩ := h)) (by intro ds g Q Q' E E' hQ hE; unfold sp_Rows_long; repeat' (first | exact id | exact hQ _ _ | exact hE _ _ _ | refine Exists.imp fun _ => ?_ | refine And.imp ?_ ?_ | refine forall_imp fun _ => ?_ | refine Or.imp ?_ ?_)) (b_Rows_long T (fm_need_shelf T)) (hm_Rows_long A)
theorem fm_Rows_write {P : Program} {w : World} {K : PySem.W.Frag} {mg : Str → Option Value} {base : Heap} {A : Ad} (T : Tx K mg A) : FnM P w K mg base 4 A.f_Rows_write ["self", "row", "key", "body"] (sp_Rows_write A) :=
  fm_ok T.F_Rows_write sc_Rows_write (by intro ds g Q E h; unfold sp_Rows_write at h; repeat (first | (obtain ⟨rfl, _⟩ := h; exact rfl) | obtain ⟨_, h⟩ := h)) (by intro ds g Q Q' E E' hQ hE; unfold sp_Rows_write; repeat' (first | exact id | exact hQ _ _ | exact hE _ _ _ | refine Exists.imp fun _ => ?_ | refine And.imp ?_ ?_ | refine forall_imp fun _ => ?_ | refine Or.imp ?_ ?_)) (b_Rows_write T (fm_need_letter T)) (hm_Rows_write A)
theorem fmn_law_alike {P : Program} {w : World} {K : PySem.W.Frag} {mg : Str → Option Value} {base : Heap} {A : Ad} (T : Tx K mg A) : ∀ n : Nat, FnM P w K mg base (n + 1) A.f_law_alike ["_law_found", "_law_due"] (spn_law_alike A n)
  | 0 => fm_ok T.F_law_alike sc_law_alike (by rintro ds g Q E ⟨_, _, rfl, _⟩; rfl) (by rintro ds g Q Q' E E' hQ hE ⟨x, y, e, h, q⟩; exact ⟨x, y, e, h, hQ _ _ q⟩) (b_law_alike (S := spp_law_alike A 0) T (by decide) (fm_false T.F_law_alike)) (hm_law_alike A 0)
  | n + 1 => fm_ok T.F_law_alike sc_law_alike (by rintro ds g Q E ⟨_, _, rfl, _⟩; rfl) (by rintro ds g Q Q' E E' hQ hE ⟨x, y, e, h, q⟩; exact ⟨x, y, e, h, hQ _ _ q⟩) (b_law_alike (S := spp_law_alike A (n + 1)) T (by omega) (fmn_law_alike T n)) (hm_law_alike A (n + 1))
theorem fm_law_alike {P : Program} {w : World} {K : PySem.W.Frag} {mg : Str → Option Value} {base : Heap} {A : Ad} (T : Tx K mg A) : FnM P w K mg base 6 A.f_law_alike ["_law_found", "_law_due"] (sp_law_alike A) := fmn_law_alike T 5
theorem fm_law_own {P : Program} {w : World} {K : PySem.W.Frag} {mg : Str → Option Value} {base : Heap} {A : Ad} (T : Tx K mg A) {fd : FuncData} (F : Fun K "law" "law" s_law A.f_law fd) : FnOk P w K mg base (L2.CX P w) 7 A.f_law fd ["_law_script"] (LSp K spLaw) :=
  fm_law F sc_law (by rintro ds g Q E ⟨_, rfl, _⟩; rfl) (b_law T (fm_law_dice T) (fm_law_off T) (fm_Rows_init T) (fm_law_key T) (fm_Rows_write T) (fm_law_alike T) (fm_Rows_read T) (fm_Rows_long T) (fm_Rows_kind T)) (hm_law A)
theorem tx_mk {P : Program} {w : World} {K : PySem.W.Frag} {h : Heap} {mg : Str → Option Value} {fa : Addr} (X : K.In h) (G : h.Ns mainGlobals mg) (hfa : mg "law" = some (.ref fa))
    {od0 an0 : Option Addr} {sl0 : Array (Option Value)} {oc0 kV0 dc0 pm0 cd0 ct0 : Value} {f0 : Addr}
    {od1 an1 : Option Addr} {sl1 : Array (Option Value)} {oc1 kV1 dc1 pm1 cd1 ct1 : Value} {f1 : Addr}
    {od2 an2 : Option Addr} {sl2 : Array (Option Value)} {oc2 kV2 dc2 pm2 cd2 ct2 : Value} {f2 : Addr}
    {od3 an3 : Option Addr} {sl3 : Array (Option Value)} {oc3 kV3 dc3 pm3 cd3 ct3 : Value} {f3 : Addr}
    {od4 an4 : Option Addr} {sl4 : Array (Option Value)} {oc4 kV4 dc4 pm4 cd4 ct4 : Value} {f4 : Addr}
    {od5 an5 : Option Addr} {sl5 : Array (Option Value)} {oc5 kV5 dc5 pm5 cd5 ct5 : Value} {f5 : Addr}
    {od6 an6 : Option Addr} {sl6 : Array (Option Value)} {oc6 kV6 dc6 pm6 cd6 ct6 : Value} {f6 : Addr}
    {od7 an7 : Option Addr} {sl7 : Array (Option Value)} {oc7 kV7 dc7 pm7 cd7 ct7 : Value} {f7 : Addr}
    {od8 an8 : Option Addr} {sl8 : Array (Option Value)} {oc8 kV8 dc8 pm8 cd8 ct8 : Value} {f8 : Addr}
    {od9 an9 : Option Addr} {sl9 : Array (Option Value)} {oc9 kV9 dc9 pm9 cd9 ct9 : Value} {f9 : Addr}
    {od10 an10 : Option Addr} {sl10 : Array (Option Value)} {oc10 kV10 dc10 pm10 cd10 ct10 : Value} {f10 : Addr}
    {od11 an11 : Option Addr} {sl11 : Array (Option Value)} {oc11 kV11 dc11 pm11 cd11 ct11 : Value} {f11 : Addr}
    {od12 an12 : Option Addr} {sl12 : Array (Option Value)} {oc12 kV12 dc12 pm12 cd12 ct12 : Value} {f12 : Addr}
    {od13 an13 : Option Addr} {sl13 : Array (Option Value)} {oc13 kV13 dc13 pm13 cd13 ct13 : Value} {f13 : Addr}
    {od14 an14 : Option Addr} {sl14 : Array (Option Value)} {oc14 kV14 dc14 pm14 cd14 ct14 : Value} {f14 : Addr}
    {od15 an15 : Option Addr} {sl15 : Array (Option Value)} {oc15 kV15 dc15 pm15 cd15 ct15 : Value} {f15 : Addr}
    {od16 an16 : Option Addr} {sl16 : Array (Option Value)} {oc16 kV16 dc16 pm16 cd16 ct16 : Value} {f16 : Addr}
    {CRows : Addr}
    {tWORLDS : Tok}
    {tSHELVES : Tok}
    {tMOST : Tok}
    {tMOST_READ : Tok}
    {tROWS : Tok}
    (aRows : PySem.W.nsIn K mainGlobals "Rows" = some (some (.ref CRows)))
    (a0 : PySem.W.nsIn K mainGlobals "is_between" = some (some (.ref f0)))
    (l0 : K.lookup f0 = some ⟨oc0, od0, .func (PySem.W.fnOf "is_between" "is_between" (defArgs s_is_between) (defBody s_is_between) (defScope s_is_between) .none kV0 dc0 pm0 an0 cd0 ct0), sl0⟩)
    (c0 : PySem.W.codeIn K cd0 "is_between" = true)
    (k0 : PySem.W.keepIn K (.ref f0) = true)
    (a1 : PySem.W.nsIn K mainGlobals "is_key" = some (some (.ref f1)))
    (l1 : K.lookup f1 = some ⟨oc1, od1, .func (PySem.W.fnOf "is_key" "is_key" (defArgs s_is_key) (defBody s_is_key) (defScope s_is_key) .none kV1 dc1 pm1 an1 cd1 ct1), sl1⟩)
    (c1 : PySem.W.codeIn K cd1 "is_key" = true)
    (k1 : PySem.W.keepIn K (.ref f1) = true)
    (a2 : PySem.W.nsIn K mainGlobals "need_world" = some (some (.ref f2)))
    (l2 : K.lookup f2 = some ⟨oc2, od2, .func (PySem.W.fnOf "need_world" "need_world" (defArgs s_need_world) (defBody s_need_world) (defScope s_need_world) .none kV2 dc2 pm2 an2 cd2 ct2), sl2⟩)
    (c2 : PySem.W.codeIn K cd2 "need_world" = true)
    (k2 : PySem.W.keepIn K (.ref f2) = true)
    (a3 : PySem.W.nsIn K mainGlobals "need_shelf" = some (some (.ref f3)))
    (l3 : K.lookup f3 = some ⟨oc3, od3, .func (PySem.W.fnOf "need_shelf" "need_shelf" (defArgs s_need_shelf) (defBody s_need_shelf) (defScope s_need_shelf) .none kV3 dc3 pm3 an3 cd3 ct3), sl3⟩)
    (c3 : PySem.W.codeIn K cd3 "need_shelf" = true)
    (k3 : PySem.W.keepIn K (.ref f3) = true)
    (a4 : PySem.W.nsIn K mainGlobals "need_letter" = some (some (.ref f4)))
    (l4 : K.lookup f4 = some ⟨oc4, od4, .func (PySem.W.fnOf "need_letter" "need_letter" (defArgs s_need_letter) (defBody s_need_letter) (defScope s_need_letter) .none kV4 dc4 pm4 an4 cd4 ct4), sl4⟩)
    (c4 : PySem.W.codeIn K cd4 "need_letter" = true)
    (k4 : PySem.W.keepIn K (.ref f4) = true)
    (a5 : PySem.W.nsIn K mainGlobals "need_place" = some (some (.ref f5)))
    (l5 : K.lookup f5 = some ⟨oc5, od5, .func (PySem.W.fnOf "need_place" "need_place" (defArgs s_need_place) (defBody s_need_place) (defScope s_need_place) .none kV5 dc5 pm5 an5 cd5 ct5), sl5⟩)
    (c5 : PySem.W.codeIn K cd5 "need_place" = true)
    (k5 : PySem.W.keepIn K (.ref f5) = true)
    (a6 : PySem.W.findIn K (.ref CRows) "__init__" = some (some (.ref f6)))
    (i6 : PySem.W.isFn K (.ref f6) = true)
    (l6 : K.lookup f6 = some ⟨oc6, od6, .func (PySem.W.fnOf "__init__" "Rows.__init__" (defArgs s_Rows_init) (defBody s_Rows_init) (defScope s_Rows_init) .none kV6 dc6 pm6 an6 cd6 ct6), sl6⟩)
    (c6 : PySem.W.codeIn K cd6 "Rows.__init__" = true)
    (k6 : PySem.W.keepIn K (.ref f6) = true)
    (a7 : PySem.W.findIn K (.ref CRows) "kind" = some (some (.ref f7)))
    (i7 : PySem.W.isFn K (.ref f7) = true)
    (l7 : K.lookup f7 = some ⟨oc7, od7, .func (PySem.W.fnOf "kind" "Rows.kind" (defArgs s_Rows_kind) (defBody s_Rows_kind) (defScope s_Rows_kind) .none kV7 dc7 pm7 an7 cd7 ct7), sl7⟩)
    (c7 : PySem.W.codeIn K cd7 "Rows.kind" = true)
    (k7 : PySem.W.keepIn K (.ref f7) = true)
    (a8 : PySem.W.findIn K (.ref CRows) "name" = some (some (.ref f8)))
    (i8 : PySem.W.isFn K (.ref f8) = true)
    (l8 : K.lookup f8 = some ⟨oc8, od8, .func (PySem.W.fnOf "name" "Rows.name" (defArgs s_Rows_name) (defBody s_Rows_name) (defScope s_Rows_name) .none kV8 dc8 pm8 an8 cd8 ct8), sl8⟩)
    (c8 : PySem.W.codeIn K cd8 "Rows.name" = true)
    (k8 : PySem.W.keepIn K (.ref f8) = true)
    (a9 : PySem.W.findIn K (.ref CRows) "write" = some (some (.ref f9)))
    (i9 : PySem.W.isFn K (.ref f9) = true)
    (l9 : K.lookup f9 = some ⟨oc9, od9, .func (PySem.W.fnOf "write" "Rows.write" (defArgs s_Rows_write) (defBody s_Rows_write) (defScope s_Rows_write) .none kV9 dc9 pm9 an9 cd9 ct9), sl9⟩)
    (c9 : PySem.W.codeIn K cd9 "Rows.write" = true)
    (k9 : PySem.W.keepIn K (.ref f9) = true)
    (a10 : PySem.W.findIn K (.ref CRows) "read" = some (some (.ref f10)))
    (i10 : PySem.W.isFn K (.ref f10) = true)
    (l10 : K.lookup f10 = some ⟨oc10, od10, .func (PySem.W.fnOf "read" "Rows.read" (defArgs s_Rows_read) (defBody s_Rows_read) (defScope s_Rows_read) .none kV10 dc10 pm10 an10 cd10 ct10), sl10⟩)
    (c10 : PySem.W.codeIn K cd10 "Rows.read" = true)
    (k10 : PySem.W.keepIn K (.ref f10) = true)
    (a11 : PySem.W.findIn K (.ref CRows) "long" = some (some (.ref f11)))
    (i11 : PySem.W.isFn K (.ref f11) = true)
    (l11 : K.lookup f11 = some ⟨oc11, od11, .func (PySem.W.fnOf "long" "Rows.long" (defArgs s_Rows_long) (defBody s_Rows_long) (defScope s_Rows_long) .none kV11 dc11 pm11 an11 cd11 ct11), sl11⟩)
    (c11 : PySem.W.codeIn K cd11 "Rows.long" = true)
    (k11 : PySem.W.keepIn K (.ref f11) = true)
    (a12 : PySem.W.nsIn K mainGlobals "_law_dice" = some (some (.ref f12)))
    (l12 : K.lookup f12 = some ⟨oc12, od12, .func (PySem.W.fnOf "_law_dice" "_law_dice" (defArgs s_law_dice) (defBody s_law_dice) (defScope s_law_dice) .none kV12 dc12 pm12 an12 cd12 ct12), sl12⟩)
    (c12 : PySem.W.codeIn K cd12 "_law_dice" = true)
    (k12 : PySem.W.keepIn K (.ref f12) = true)
    (a13 : PySem.W.nsIn K mainGlobals "_law_off" = some (some (.ref f13)))
    (l13 : K.lookup f13 = some ⟨oc13, od13, .func (PySem.W.fnOf "_law_off" "_law_off" (defArgs s_law_off) (defBody s_law_off) (defScope s_law_off) .none kV13 dc13 pm13 an13 cd13 ct13), sl13⟩)
    (c13 : PySem.W.codeIn K cd13 "_law_off" = true)
    (k13 : PySem.W.keepIn K (.ref f13) = true)
    (a14 : PySem.W.nsIn K mainGlobals "_law_alike" = some (some (.ref f14)))
    (l14 : K.lookup f14 = some ⟨oc14, od14, .func (PySem.W.fnOf "_law_alike" "_law_alike" (defArgs s_law_alike) (defBody s_law_alike) (defScope s_law_alike) .none kV14 dc14 pm14 an14 cd14 ct14), sl14⟩)
    (c14 : PySem.W.codeIn K cd14 "_law_alike" = true)
    (k14 : PySem.W.keepIn K (.ref f14) = true)
    (a15 : PySem.W.nsIn K mainGlobals "_law_key" = some (some (.ref f15)))
    (l15 : K.lookup f15 = some ⟨oc15, od15, .func (PySem.W.fnOf "_law_key" "_law_key" (defArgs s_law_key) (defBody s_law_key) (defScope s_law_key) .none kV15 dc15 pm15 an15 cd15 ct15), sl15⟩)
    (c15 : PySem.W.codeIn K cd15 "_law_key" = true)
    (k15 : PySem.W.keepIn K (.ref f15) = true)
    (a16 : PySem.W.nsIn K mainGlobals "law" = some (some (.ref f16)))
    (l16 : K.lookup f16 = some ⟨oc16, od16, .func (PySem.W.fnOf "law" "law" (defArgs s_law) (defBody s_law) (defScope s_law) .none kV16 dc16 pm16 an16 cd16 ct16), sl16⟩)
    (c16 : PySem.W.codeIn K cd16 "law" = true)
    (k16 : PySem.W.keepIn K (.ref f16) = true)
    (pgRows : PySem.W.plainGet K CRows Str.empty = true)
    (hdRows : PySem.W.hasDictIn K CRows = true)
    (poRows : PySem.W.plainOver K CRows = true)
    (saRows : PySem.W.findIn K (.ref CRows) "__setattr__" = some (some (.builtin "object.__setattr__")))
    (mkRows : PySem.W.makesIn K CRows = true)
    (kcRows : PySem.W.keepIn K (.ref CRows) = true)
    (nRowsworld : PySem.W.findIn K (.ref CRows) "world" = some none)
    (nRowsknows : PySem.W.findIn K (.ref CRows) "knows" = some none)
    (nRowsshelves : PySem.W.findIn K (.ref CRows) "shelves" = some none)
    (cWORLDS : PySem.W.nsIn K mainGlobals "WORLDS" = some (some (.int 10 tWORLDS)))
    (cSHELVES : PySem.W.nsIn K mainGlobals "SHELVES" = some (some (.int 6 tSHELVES)))
    (cMOST : PySem.W.nsIn K mainGlobals "MOST" = some (some (.int 999 tMOST)))
    (cMOST_READ : PySem.W.nsIn K mainGlobals "MOST_READ" = some (some (.int 20 tMOST_READ)))
    (cROWS : PySem.W.nsIn K mainGlobals "ROWS" = some (some (.str "rows" tROWS)))
    (zabs : PySem.W.nsIn K mainGlobals "abs" = some none)
    (zall : PySem.W.nsIn K mainGlobals "all" = some none)
    (zbool : PySem.W.nsIn K mainGlobals "bool" = some none)
    (zenumerate : PySem.W.nsIn K mainGlobals "enumerate" = some none)
    (zint : PySem.W.nsIn K mainGlobals "int" = some none)
    (zisinstance : PySem.W.nsIn K mainGlobals "isinstance" = some none)
    (zlen : PySem.W.nsIn K mainGlobals "len" = some none)
    (zlist : PySem.W.nsIn K mainGlobals "list" = some none)
    (zrange : PySem.W.nsIn K mainGlobals "range" = some none)
    (zstr : PySem.W.nsIn K mainGlobals "str" = some none)
    (ztuple : PySem.W.nsIn K mainGlobals "tuple" = some none) :
    ∃ fd : FuncData, (∀ (s : Shared) (u : Value), BindsTo s fd ⟨[u], []⟩ [("_law_script", u)]) ∧ ∀ base : Heap, K.In base → base.Ns mainGlobals mg → FnOk P w K mg base (L2.CX P w) 7 fa fd ["_law_script"] (LSp K spLaw) := by
  have e := hfa.symm.trans (PySem.W.mg_of X G a16)
  cases e
  have F0 := fun_mk (st := s_is_between) l0 c0 k0
  have b0 := F0.binds (ps := ["part", "low", "high"]) fun _ _ _ _ _ _ us hl => match us, hl with | [_, _, _], _ => rfl
  have F1 := fun_mk (st := s_is_key) l1 c1 k1
  have b1 := F1.binds (ps := ["key"]) fun _ _ _ _ _ _ us hl => match us, hl with | [_], _ => rfl
  have F2 := fun_mk (st := s_need_world) l2 c2 k2
  have b2 := F2.binds (ps := ["name"]) fun _ _ _ _ _ _ us hl => match us, hl with | [_], _ => rfl
  have F3 := fun_mk (st := s_need_shelf) l3 c3 k3
  have b3 := F3.binds (ps := ["shelf"]) fun _ _ _ _ _ _ us hl => match us, hl with | [_], _ => rfl
  have F4 := fun_mk (st := s_need_letter) l4 c4 k4
  have b4 := F4.binds (ps := ["shelf", "key", "body"]) fun _ _ _ _ _ _ us hl => match us, hl with | [_, _, _], _ => rfl
  have F5 := fun_mk (st := s_need_place) l5 c5 k5
  have b5 := F5.binds (ps := ["place", "many"]) fun _ _ _ _ _ _ us hl => match us, hl with | [_, _], _ => rfl
  have F6 := fun_mk (st := s_Rows_init) l6 c6 k6
  have b6 := F6.binds (ps := ["self", "name", "knows"]) fun _ _ _ _ _ _ us hl => match us, hl with | [_, _, _], _ => rfl
  have F7 := fun_mk (st := s_Rows_kind) l7 c7 k7
  have b7 := F7.binds (ps := ["self"]) fun _ _ _ _ _ _ us hl => match us, hl with | [_], _ => rfl
  have F8 := fun_mk (st := s_Rows_name) l8 c8 k8
  have b8 := F8.binds (ps := ["self"]) fun _ _ _ _ _ _ us hl => match us, hl with | [_], _ => rfl
  have F9 := fun_mk (st := s_Rows_write) l9 c9 k9
  have b9 := F9.binds (ps := ["self", "row", "key", "body"]) fun _ _ _ _ _ _ us hl => match us, hl with | [_, _, _, _], _ => rfl
  have F10 := fun_mk (st := s_Rows_read) l10 c10 k10
  have b10 := F10.binds (ps := ["self", "row", "place", "many"]) fun _ _ _ _ _ _ us hl => match us, hl with | [_, _, _, _], _ => rfl
  have F11 := fun_mk (st := s_Rows_long) l11 c11 k11
  have b11 := F11.binds (ps := ["self", "row"]) fun _ _ _ _ _ _ us hl => match us, hl with | [_, _], _ => rfl
  have F12 := fun_mk (st := s_law_dice) l12 c12 k12
  have b12 := F12.binds (ps := ["_law_script", "_law_k"]) fun _ _ _ _ _ _ us hl => match us, hl with | [_, _], _ => rfl
  have F13 := fun_mk (st := s_law_off) l13 c13 k13
  have b13 := F13.binds (ps := ["_law_d", "_law_most"]) fun _ _ _ _ _ _ us hl => match us, hl with | [_, _], _ => rfl
  have F14 := fun_mk (st := s_law_alike) l14 c14 k14
  have b14 := F14.binds (ps := ["_law_found", "_law_due"]) fun _ _ _ _ _ _ us hl => match us, hl with | [_, _], _ => rfl
  have F15 := fun_mk (st := s_law_key) l15 c15 k15
  have b15 := F15.binds (ps := ["_law_d"]) fun _ _ _ _ _ _ us hl => match us, hl with | [_], _ => rfl
  have F16 := fun_mk (st := s_law) l16 c16 k16
  have b16 := F16.binds (ps := ["_law_script"]) fun _ _ _ _ _ _ us hl => match us, hl with | [_], _ => rfl
  have T : Tx K mg ⟨f0, f1, f2, f3, f4, f5, f6, f7, f8, f9, f10, f11, f12, f13, f14, f15, fa, CRows⟩ := by
    refine ⟨?_, ?_, ?_, ?_, ?_, ?_, ?_, ?_, ?_, ?_, ?_, ?_, ?_, ?_, ?_, ?_, ?_, ?_, ?_, ?_, ?_, ?_, ?_, ?_, ?_, ?_, ?_, ?_, ?_, ?_, ?_, ?_, ?_, ?_, ?_, ?_, ?_, ?_, ?_, ?_, ?_, ?_, ?_, ?_, ?_, ?_, ?_, ?_, ?_, ?_, ?_, ?_, ?_, ?_, ?_⟩
    · exact ⟨_, F0, b0⟩
    · exact ⟨_, F1, b1⟩
    · exact ⟨_, F2, b2⟩
    · exact ⟨_, F3, b3⟩
    · exact ⟨_, F4, b4⟩
    · exact ⟨_, F5, b5⟩
    · exact ⟨_, F6, b6⟩
    · exact ⟨_, F7, b7⟩
    · exact ⟨_, F8, b8⟩
    · exact ⟨_, F9, b9⟩
    · exact ⟨_, F10, b10⟩
    · exact ⟨_, F11, b11⟩
    · exact ⟨_, F12, b12⟩
    · exact ⟨_, F13, b13⟩
    · exact ⟨_, F14, b14⟩
    · exact ⟨_, F15, b15⟩
    · exact ⟨_, F16, b16⟩
    · exact PySem.W.mg_of X G a0
    · exact PySem.W.mg_of X G a1
    · exact PySem.W.mg_of X G a2
    · exact PySem.W.mg_of X G a3
    · exact PySem.W.mg_of X G a4
    · exact PySem.W.mg_of X G a5
    · exact PySem.W.mg_of X G a12
    · exact PySem.W.mg_of X G a13
    · exact PySem.W.mg_of X G a14
    · exact PySem.W.mg_of X G a15
    · exact PySem.W.mg_of X G a16
    · exact PySem.W.mg_of X G aRows
    · exact ⟨pgRows, hdRows, poRows, saRows⟩
    · exact ⟨mkRows, a6, i6, kcRows⟩
    · exact ⟨a7, i7, k7⟩
    · exact ⟨a8, i8, k8⟩
    · exact ⟨a9, i9, k9⟩
    · exact ⟨a10, i10, k10⟩
    · exact ⟨a11, i11, k11⟩
    · exact fun C hC => by
        simp only [List.mem_cons, List.not_mem_nil, or_false] at hC
        rcases hC with rfl
        · exact ⟨⟨pgRows, hdRows, poRows, saRows⟩, nRowsworld⟩
    · exact fun C hC => by
        simp only [List.mem_cons, List.not_mem_nil, or_false] at hC
        rcases hC with rfl
        · exact ⟨⟨pgRows, hdRows, poRows, saRows⟩, nRowsknows⟩
    · exact fun C hC => by
        simp only [List.mem_cons, List.not_mem_nil, or_false] at hC
        rcases hC with rfl
        · exact ⟨⟨pgRows, hdRows, poRows, saRows⟩, nRowsshelves⟩
    · exact ⟨_, PySem.W.mg_of X G cWORLDS⟩
    · exact ⟨_, PySem.W.mg_of X G cSHELVES⟩
    · exact ⟨_, PySem.W.mg_of X G cMOST⟩
    · exact ⟨_, PySem.W.mg_of X G cMOST_READ⟩
    · exact ⟨_, PySem.W.mg_of X G cROWS⟩
    · exact PySem.W.mg_none_of X G zabs
    · exact PySem.W.mg_none_of X G zall
    · exact PySem.W.mg_none_of X G zbool
    · exact PySem.W.mg_none_of X G zenumerate
    · exact PySem.W.mg_none_of X G zint
    · exact PySem.W.mg_none_of X G zisinstance
    · exact PySem.W.mg_none_of X G zlen
    · exact PySem.W.mg_none_of X G zlist
    · exact PySem.W.mg_none_of X G zrange
    · exact PySem.W.mg_none_of X G zstr
    · exact PySem.W.mg_none_of X G ztuple
  exact ⟨_, fun s v => .of_eq rfl, fun base _ _ => fm_law_own T F16⟩

end My
open PySem PySem.W PyProof.Rows in
set_option maxRecDepth 100000 in
set_option maxHeartbeats 0 in
theorem PySem.Challenge.cw_worldbridge_k02_worlds_of_rows_holds : PySem.Challenge.rw_worldbridge_k02_worlds_of_rows.Holds := by
  w_on; o_law; k_head; (case hw => w_witness2)
  k_fill
  refine M.walkM (l := PySem.Challenge.rw_worldbridge_k02_worlds_of_rows) (k := 7) (x := "_law_script") rfl rfl ⟨rfl, by decide, by decide⟩ (fun w h Y => PySem.W.kIn_of Y) ?F
  case F =>
    intro w mg fa h KX G hmg
    refine' My.tx_mk KX G hmg ?aRows ?a0 ?l0 ?c0 ?k0 ?a1 ?l1 ?c1 ?k1 ?a2 ?l2 ?c2 ?k2 ?a3 ?l3 ?c3 ?k3 ?a4 ?l4 ?c4 ?k4 ?a5 ?l5 ?c5 ?k5 ?a6 ?i6 ?l6 ?c6 ?k6 ?a7 ?i7 ?l7 ?c7 ?k7 ?a8 ?i8 ?l8 ?c8 ?k8 ?a9 ?i9 ?l9 ?c9 ?k9 ?a10 ?i10 ?l10 ?c10 ?k10 ?a11 ?i11 ?l11 ?c11 ?k11 ?a12 ?l12 ?c12 ?k12 ?a13 ?l13 ?c13 ?k13 ?a14 ?l14 ?c14 ?k14 ?a15 ?l15 ?c15 ?k15 ?a16 ?l16 ?c16 ?k16 ?pgRows ?hdRows ?poRows ?saRows ?mkRows ?kcRows ?nRowsworld ?nRowsknows ?nRowsshelves ?cWORLDS ?cSHELVES ?cMOST ?cMOST_READ ?cROWS ?zabs ?zall ?zbool ?zenumerate ?zint ?zisinstance ?zlen ?zlist ?zrange ?zstr ?ztuple
    (case aRows => k_is)
    (case a0 => k_is)
    (case l0 => k_is)
    (case c0 => k_is)
    (case k0 => k_is)
    (case a1 => k_is)
    (case l1 => k_is)
    (case c1 => k_is)
    (case k1 => k_is)
    (case a2 => k_is)
    (case l2 => k_is)
    (case c2 => k_is)
    (case k2 => k_is)
    (case a3 => k_is)
    (case l3 => k_is)
    (case c3 => k_is)
    (case k3 => k_is)
    (case a4 => k_is)
    (case l4 => k_is)
    (case c4 => k_is)
    (case k4 => k_is)
    (case a5 => k_is)
    (case l5 => k_is)
    (case c5 => k_is)
    (case k5 => k_is)
    (case a6 => k_is)
    (case i6 => k_is)
    (case l6 => k_is)
    (case c6 => k_is)
    (case k6 => k_is)
    (case a7 => k_is)
    (case i7 => k_is)
    (case l7 => k_is)
    (case c7 => k_is)
    (case k7 => k_is)
    (case a8 => k_is)
    (case i8 => k_is)
    (case l8 => k_is)
    (case c8 => k_is)
    (case k8 => k_is)
    (case a9 => k_is)
    (case i9 => k_is)
    (case l9 => k_is)
    (case c9 => k_is)
    (case k9 => k_is)
    (case a10 => k_is)
    (case i10 => k_is)
    (case l10 => k_is)
    (case c10 => k_is)
    (case k10 => k_is)
    (case a11 => k_is)
    (case i11 => k_is)
    (case l11 => k_is)
    (case c11 => k_is)
    (case k11 => k_is)
    (case a12 => k_is)
    (case l12 => k_is)
    (case c12 => k_is)
    (case k12 => k_is)
    (case a13 => k_is)
    (case l13 => k_is)
    (case c13 => k_is)
    (case k13 => k_is)
    (case a14 => k_is)
    (case l14 => k_is)
    (case c14 => k_is)
    (case k14 => k_is)
    (case a15 => k_is)
    (case l15 => k_is)
    (case c15 => k_is)
    (case k15 => k_is)
    (case a16 => k_is)
    (case l16 => k_is)
    (case c16 => k_is)
    (case k16 => k_is)
    (case pgRows => k_is)
    (case hdRows => k_is)
    (case poRows => k_is)
    (case saRows => k_is)
    (case mkRows => k_is)
    (case kcRows => k_is)
    (case nRowsworld => k_is)
    (case nRowsknows => k_is)
    (case nRowsshelves => k_is)
    (case cWORLDS => k_is)
    (case cSHELVES => k_is)
    (case cMOST => k_is)
    (case cMOST_READ => k_is)
    (case cROWS => k_is)
    (case zabs => k_is)
    (case zall => k_is)
    (case zbool => k_is)
    (case zenumerate => k_is)
    (case zint => k_is)
    (case zisinstance => k_is)
    (case zlen => k_is)
    (case zlist => k_is)
    (case zrange => k_is)
    (case zstr => k_is)
    (case ztuple => k_is)
