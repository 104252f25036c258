import PyProof.Rows.All
import Wide.All
import OpenK.AllK
import Wide.FinOn
import HandS.ForMost
import HandS.Zip
import HandS.Conv
import HandS.IsInst
import HandS.Wide
import HandS.SortInts
import HandS.Style
import HandS.Flow
import HandS.NoneIn
import HandS.EndBits
import HandS.TupAny
import HandS.Rev
import KE.KDictList
import KE.GoesMore
import KE.GoesEnum
import KE.GoesZip
import PyProof.ReprLen
import PyProof.FitsInt
import HandS.TupMul
import HandS.More
import KE.KDictZip
import HandS.Strs
import PyProof.Rows.SetFrom
import HandS.Set
import HandS.Text
import HandS.FStr
import PyProof.CallFns
import PyProof.StrLawsRepr
import PyProof.P3Eq
import PySem.Challenge.RW_marksought_k04_whole_greater_marks
set_option Elab.async false
set_option linter.all false
set_option maxRecDepth 100000
set_option maxHeartbeats 4000000
/-! Values as trees over the hand layer. -/
namespace Pd
open PySem PySem.Spec PyProof.Rows L2
abbrev Fg := PySem.W.Frag
abbrev Sg := L2.St
/-- a value as a tree; dct: keys and values apart; any: a value as it stands -/
inductive D where
  | non
  | bl (b : Bool)
  | int (i : Int)
  | str (x : Str)
  | tup (l : List D)
  | lst (l : List D)
  | dct (ks : List Key) (vs : List D)
  | any (v : V)
/-- what a name owns: a list, a dict (keys ints and texts), a dict with tuple keys -/
inductive Mo where
  | lst (l : List D)
  | dk (ks : List Key) (vs : List D)
  | dt (ks : List (List Key)) (vs : List D)
/-- a slot: nothing, a value, an owned thing -/
inductive Sl where
  | e
  | v (d : D)
  | o (m : Mo)
inductive Ret where
  | d (d : D)
  | o (m : Mo)
abbrev Ad := Addr → Prop
mutual
inductive Rs (B : Ad) (H : Hp) : D → V → Prop
  | non : Rs B H .non .non
  | bl (b : Bool) : Rs B H (.bl b) (.bl b)
  | int (i : Int) : Rs B H (.int i) (.int i)
  | str (x : Str) : Rs B H (.str x) (.str x)
  | any (v : V) : Rs B H (.any v) v
  | tup {a : Addr} {xs : List V} {l : List D} : H a = some (.tup xs) → ¬ B a → RsL B H l xs → Rs B H (.tup l) (.ref a)
  | lst {a : Addr} {xs : List V} {l : List D} : H a = some (.lst xs) → ¬ B a → RsL B H l xs → Rs B H (.lst l) (.ref a)
  | dct {a : Addr} {kvs : List (Key × V)} {ks : List Key} {vs : List D} : H a = some (.dK kvs) → ¬ B a → kvs.map (·.1) = ks → RsL B H vs (kvs.map (·.2)) → Rs B H (.dct ks vs) (.ref a)
inductive RsL (B : Ad) (H : Hp) : List D → List V → Prop
  | nil : RsL B H [] []
  | cons {d : D} {v : V} {l : List D} {xs : List V} : Rs B H d v → RsL B H l xs → RsL B H (d :: l) (v :: xs)
end
def Agr (B : Ad) (H H' : Hp) : Prop := ∀ a o, H a = some o → ¬ B a → H' a = some o
section
variable {B B' : Ad} {H H' : Hp}
mutual
theorem Rs.go (hB : ∀ a, B' a → B a ∨ H a = none) (hA : Agr B H H') : ∀ {d : D} {v : V}, Rs B H d v → Rs B' H' d v
  | _, _, .non => .non
  | _, _, .bl b => .bl b
  | _, _, .int i => .int i
  | _, _, .str x => .str x
  | _, _, .any v => .any v
  | _, _, .tup h n r => .tup (hA _ _ h n) (fun b => (hB _ b).elim n fun z => by rw [h] at z; cases z) (RsL.go hB hA r)
  | _, _, .lst h n r => .lst (hA _ _ h n) (fun b => (hB _ b).elim n fun z => by rw [h] at z; cases z) (RsL.go hB hA r)
  | _, _, .dct h n k r => .dct (hA _ _ h n) (fun b => (hB _ b).elim n fun z => by rw [h] at z; cases z) k (RsL.go hB hA r)
theorem RsL.go (hB : ∀ a, B' a → B a ∨ H a = none) (hA : Agr B H H') : ∀ {l : List D} {xs : List V}, RsL B H l xs → RsL B' H' l xs
  | _, _, .nil => .nil
  | _, _, .cons h r => .cons (Rs.go hB hA h) (RsL.go hB hA r)
end
theorem Agr.refl : Agr B H H := fun _ _ h _ => h
theorem Rs.weak {d : D} {v : V} (h : Rs B H d v) (hB : ∀ a, B' a → B a) : Rs B' H d v := h.go (fun a b => .inl (hB a b)) Agr.refl
theorem RsL.weak {l : List D} {xs : List V} (h : RsL B H l xs) (hB : ∀ a, B' a → B a) : RsL B' H l xs := h.go (fun a b => .inl (hB a b)) Agr.refl
theorem RsL.length : ∀ {l : List D} {xs : List V}, RsL B H l xs → xs.length = l.length
  | _, _, .nil => rfl
  | _, _, .cons _ r => by rw [List.length_cons, List.length_cons, r.length]
theorem RsL.get : ∀ {l : List D} {xs : List V} {i : Nat} {d : D}, RsL B H l xs → l[i]? = some d → ∃ v, xs[i]? = some v ∧ Rs B H d v
  | _, _, _, _, .nil, e => by simp at e
  | _, _, 0, _, .cons h _, e => by simp at e; subst e; exact ⟨_, rfl, h⟩
  | _, _, i + 1, _, .cons _ r, e => by
    obtain ⟨v, h1, h2⟩ := RsL.get (i := i) r (by simpa using e)
    exact ⟨v, by simpa using h1, h2⟩
theorem RsL.get' : ∀ {l : List D} {xs : List V} {i : Nat} {v : V}, RsL B H l xs → xs[i]? = some v → ∃ d, l[i]? = some d ∧ Rs B H d v
  | _, _, _, _, .nil, e => by simp at e
  | _, _, 0, _, .cons h _, e => by simp at e; subst e; exact ⟨_, rfl, h⟩
  | _, _, i + 1, _, .cons _ r, e => by
    obtain ⟨v, h1, h2⟩ := RsL.get' (i := i) r (by simpa using e)
    exact ⟨v, by simpa using h1, h2⟩
theorem RsL.append : ∀ {l m : List D} {xs ys : List V}, RsL B H l xs → RsL B H m ys → RsL B H (l ++ m) (xs ++ ys)
  | _, _, _, _, .nil, s => s
  | _, _, _, _, .cons h r, s => .cons h (RsL.append r s)
theorem RsL.one {d : D} {v : V} (h : Rs B H d v) : RsL B H [d] [v] := .cons h .nil
theorem RsL.set : ∀ {l : List D} {xs : List V} {d : D} {v : V} (i : Nat), RsL B H l xs → Rs B H d v → RsL B H (l.set i d) (xs.set i v)
  | _, _, _, _, _, .nil, _ => .nil
  | _, _, _, _, 0, .cons _ r, h => .cons h r
  | _, _, _, _, i + 1, .cons g r, h => .cons g (RsL.set i r h)
theorem RsL.take : ∀ {l : List D} {xs : List V} (n : Nat), RsL B H l xs → RsL B H (l.take n) (xs.take n)
  | _, _, 0, _ => .nil
  | _, _, _ + 1, .nil => .nil
  | _, _, n + 1, .cons h r => .cons h (RsL.take n r)
theorem RsL.drop : ∀ {l : List D} {xs : List V} (n : Nat), RsL B H l xs → RsL B H (l.drop n) (xs.drop n)
  | _, _, 0, r => r
  | _, _, _ + 1, .nil => .nil
  | _, _, n + 1, .cons _ r => RsL.drop n r
theorem RsL.ints : ∀ {ns : List Int} {xs : List V}, RsL B H (ns.map D.int) xs → xs = ns.map V.int
  | [], _, .nil => rfl
  | n :: ns, _, .cons h r => by
    cases h
    rw [List.map_cons, ← RsL.ints r]
theorem RsL.bls : ∀ {bs : List Bool} {xs : List V}, RsL B H (bs.map D.bl) xs → xs = bs.map V.bl
  | [], _, .nil => rfl
  | n :: ns, _, .cons h r => by
    cases h
    rw [List.map_cons, ← RsL.bls r]
theorem RsL.strs : ∀ {bs : List Str} {xs : List V}, RsL B H (bs.map D.str) xs → xs = bs.map V.str
  | [], _, .nil => rfl
  | n :: ns, _, .cons h r => by
    cases h
    rw [List.map_cons, ← RsL.strs r]
theorem RsL.ofInts : ∀ ns : List Int, RsL B H (ns.map D.int) (ns.map V.int)
  | [] => .nil
  | n :: ns => .cons (.int n) (RsL.ofInts ns)
end
/-! ### what stands around: mutable things that a code may change -/
structure Amb where
  S : Type
  B : S → Ad
  I : S → Hp → Prop
  dom : ∀ {s : S} {H : Hp} {a : Addr}, I s H → B s a → H a ≠ none
  loc : ∀ {s : S} {H H' : Hp}, I s H → (∀ a, B s a → H' a = H a) → I s H'
/-- from one moment to a later one -/
structure Stp (A : Amb) (s s' : A.S) (H H' : Hp) : Prop where
  agr : Agr (A.B s) H H'
  new : ∀ a, A.B s' a → A.B s a ∨ H a = none
  dom : ∀ a, H a ≠ none → H' a ≠ none
theorem Stp.refl {A : Amb} {s : A.S} {H : Hp} : Stp A s s H H := ⟨Agr.refl, fun _ h => .inl h, fun _ h => h⟩
theorem Stp.trans {A : Amb} {s s1 s2 : A.S} {H H1 H2 : Hp} (a : Stp A s s1 H H1) (b : Stp A s1 s2 H1 H2) : Stp A s s2 H H2 where
  agr := fun p o h n => b.agr p o (a.agr p o h n) fun z => (a.new p z).elim n fun e => by rw [h] at e; cases e
  new := fun p h => by
    rcases b.new p h with z | z
    · exact a.new p z
    · refine .inr ?_
      cases e : H p with
      | none => rfl
      | some o => exact (a.dom p (by rw [e]; simp) z).elim
  dom := fun p h => b.dom p (a.dom p h)
theorem Stp.fresh {A : Amb} {s : A.S} {H : Hp} {p : Addr} {o : HO} (h : H p = none) : Stp A s s H (upd H p o) where
  agr := fun a u e _ => by rw [upd_ne (ne_of_none e h)]; exact e
  new := fun _ h => .inl h
  dom := fun a e => by
    by_cases z : a = p
    · subst z; exact (e h).elim
    · rw [upd_ne z]; exact e
/-! ### the frame's slots and their trees -/
/-- others' things that may change; values that are kept in mind -/
structure Ot where
  w : Ad
  g : List (D × V)
def Ot.add (W : Ot) (p : Addr) : Ot := ⟨fun a => W.w a ∨ a = p, W.g⟩
def Ot.keep (W : Ot) (l : List (D × V)) : Ot := ⟨W.w, W.g ++ l⟩
def ownS (σ : Sg) (ρ : List Sl) : Ad := fun a => ∃ (i : Nat) (m : Mo), ρ[i]? = some (.o m) ∧ σ[i]? = some (some (.ref a))
/-- what may change under a value: others' things, what stands around, and (m) the frame's own things -/
def om (m : Bool) (A : Amb) (W : Ot) (s : A.S) (σ : Sg) (ρ : List Sl) : Ad := fun a => W.w a ∨ A.B s a ∨ (m = true ∧ ownS σ ρ a)
def MoAt (B : Ad) (H : Hp) (a : Addr) : Mo → Prop
  | .lst l => ∃ xs, H a = some (.lst xs) ∧ RsL B H l xs
  | .dk ks vs => ∃ kvs, H a = some (.dK kvs) ∧ kvs.map (·.1) = ks ∧ RsL B H vs (kvs.map (·.2))
  | .dt ks vs => ∃ kvs, H a = some (.dT kvs) ∧ kvs.map (·.1) = ks ∧ RsL B H vs (kvs.map (·.2))
theorem MoAt.some {B : Ad} {H : Hp} {a : Addr} {m : Mo} (h : MoAt B H a m) : H a ≠ none := by
  cases m <;> (obtain ⟨_, e, _⟩ := h; rw [e]; simp)
theorem MoAt.go {B B' : Ad} {H H' : Hp} {a : Addr} {m : Mo} (hB : ∀ a, B' a → B a ∨ H a = none) (hA : Agr B H H') (he : H' a = H a) (h : MoAt B H a m) : MoAt B' H' a m := by
  cases m with
  | lst l => obtain ⟨xs, e, r⟩ := h; exact ⟨xs, he.trans e, r.go hB hA⟩
  | dk ks vs => obtain ⟨kvs, e, k, r⟩ := h; exact ⟨kvs, he.trans e, k, r.go hB hA⟩
  | dt ks vs => obtain ⟨kvs, e, k, r⟩ := h; exact ⟨kvs, he.trans e, k, r.go hB hA⟩
structure ER (A : Amb) (W : Ot) (s0 : A.S) (H0 : Hp) (s : A.S) (σ : Sg) (H : Hp) (ρ : List Sl) : Prop where
  amb : A.I s H
  stp : Stp A s0 s H0 H
  wd : ∀ a, W.w a → H a ≠ none
  len : σ.length = ρ.length
  vals : ∀ (i : Nat) (d : D), ρ[i]? = some (.v d) → ∃ v, σ[i]? = some (some v) ∧ Rs (om true A W s σ ρ) H d v
  own : ∀ (i : Nat) (m : Mo), ρ[i]? = some (.o m) → ∃ a, σ[i]? = some (some (.ref a)) ∧ MoAt (om true A W s σ ρ) H a m ∧ H0 a = none ∧ ¬ W.w a ∧ ¬ A.B s a
  gh : ∀ p ∈ W.g, Rs (om true A W s σ ρ) H p.1 p.2
  uniq : ∀ (i j : Nat) (m m' : Mo), ρ[i]? = some (.o m) → ρ[j]? = some (.o m') → σ[i]? = σ[j]? → i = j
section
variable {A : Amb} {W : Ot} {s0 s s' : A.S} {H0 H H' : Hp} {σ : Sg} {ρ : List Sl} {m sh : Bool}
theorem om_go (m : Bool) (h : Stp A s s' H H') : ∀ a, om m A W s' σ ρ a → om m A W s σ ρ a ∨ H a = none := fun a z => by
  rcases z with z | z | z
  · exact .inl (.inl z)
  · exact (h.new a z).imp (fun y => .inr (.inl y)) id
  · exact .inl (.inr (.inr z))
theorem om_agr (m : Bool) (h : Stp A s s' H H') : Agr (om m A W s σ ρ) H H' := fun a o e n => h.agr a o e fun z => n (.inr (.inl z))
theorem Rs.stp {d : D} {v : V} (h : Stp A s s' H H') (r : Rs (om m A W s σ ρ) H d v) : Rs (om m A W s' σ ρ) H' d v := r.go (om_go m h) (om_agr m h)
theorem RsL.stp {l : List D} {xs : List V} (h : Stp A s s' H H') (r : RsL (om m A W s σ ρ) H l xs) : RsL (om m A W s' σ ρ) H' l xs := r.go (om_go m h) (om_agr m h)
theorem keep_at {a : Addr} (h : Stp A s s' H H') (e : H a ≠ none) (n : ¬ A.B s a) : H' a = H a ∧ ¬ A.B s' a := by
  cases q : H a with
  | none => exact (e q).elim
  | some o => exact ⟨h.agr a o q n, fun z => (h.new a z).elim n e⟩
theorem ER.go (R : ER A W s0 H0 s σ H ρ) (h : Stp A s s' H H') (i : A.I s' H') : ER A W s0 H0 s' σ H' ρ where
  amb := i
  stp := R.stp.trans h
  wd := fun a w => h.dom a (R.wd a w)
  len := R.len
  vals := fun i d e => let ⟨v, h1, h2⟩ := R.vals i d e; ⟨v, h1, h2.stp h⟩
  own := fun i m e => by
    obtain ⟨a, h1, h2, h3, h4, h5⟩ := R.own i m e
    obtain ⟨k1, k2⟩ := keep_at h h2.some h5
    exact ⟨a, h1, h2.go (om_go true h) (om_agr true h) k1, h3, h4, k2⟩
  gh := fun p hp => (R.gh p hp).stp h
  uniq := R.uniq
theorem ER.fresh (R : ER A W s0 H0 s σ H ρ) {p : Addr} (hp : H p = none) : ¬ om m A W s σ ρ p := fun z => by
  rcases z with z | z | ⟨_, i, mo, e1, e2⟩
  · exact R.wd p z hp
  · exact A.dom R.amb z hp
  · obtain ⟨a, h1, h2, _⟩ := R.own i mo e1
    rw [h1] at e2
    cases e2
    exact h2.some hp
theorem ER.fresh0 (R : ER A W s0 H0 s σ H ρ) {p : Addr} (hp : H p = none) : H0 p = none := by
  cases q : H0 p with
  | none => rfl
  | some o => exact (R.stp.dom p (by rw [q]; simp) hp).elim
/-- a new object that is not written any more -/
theorem ER.alloc (R : ER A W s0 H0 s σ H ρ) {p : Addr} (hp : H p = none) (o : HO) : ER A W s0 H0 s σ (upd H p o) ρ :=
  R.go (Stp.fresh hp) (A.loc R.amb fun a b => upd_ne fun e => by subst e; exact A.dom R.amb b hp)
/-- what a value's tree says of it. sh: a list of the frame's own may be it, its items for sure -/
def RV (A : Amb) (W : Ot) (s : A.S) (σ : Sg) (ρ : List Sl) (H : Hp) (m sh : Bool) (d : D) (v : V) : Prop :=
  Rs (om m A W s σ ρ) H d v ∨ (sh = true ∧ ∃ l a xs, d = .lst l ∧ v = .ref a ∧ H a = some (.lst xs) ∧ RsL (om m A W s σ ρ) H l xs ∧ ¬ W.w a ∧ ¬ A.B s a)
theorem RV.stp {d : D} {v : V} (h : Stp A s s' H H') (r : RV A W s σ ρ H m sh d v) : RV A W s' σ ρ H' m sh d v := by
  rcases r with r | ⟨e, l, a, xs, rfl, rfl, h1, h2, h3, h4⟩
  · exact .inl (r.stp h)
  · obtain ⟨k1, k2⟩ := keep_at h (by rw [h1]; simp) h4
    exact .inr ⟨e, l, a, xs, rfl, rfl, k1.trans h1, h2.stp h, h3, k2⟩
theorem RV.rs {d : D} {v : V} (r : RV A W s σ ρ H m false d v) : Rs (om m A W s σ ρ) H d v := by
  rcases r with r | ⟨e, _⟩
  · exact r
  · cases e
theorem RV.lst {l : List D} {v : V} (r : RV A W s σ ρ H m sh (.lst l) v) : ∃ a xs, v = .ref a ∧ H a = some (.lst xs) ∧ RsL (om m A W s σ ρ) H l xs ∧ ¬ W.w a ∧ ¬ A.B s a := by
  rcases r with r | ⟨e, l, a, xs, q, rfl, h1, h2, h3, h4⟩
  · cases r with
    | lst h n r => exact ⟨_, _, rfl, h, r, fun z => n (.inl z), fun z => n (.inr (.inl z))⟩
  · cases q
    exact ⟨a, xs, rfl, h1, h2, h3, h4⟩
theorem RV.tup {l : List D} {v : V} (r : RV A W s σ ρ H m sh (.tup l) v) : ∃ a xs, v = .ref a ∧ H a = some (.tup xs) ∧ RsL (om m A W s σ ρ) H l xs := by
  rcases r with r | ⟨e, l, a, xs, q, rfl, h1, h2, h3, h4⟩
  · cases r with
    | tup h n r => exact ⟨_, _, rfl, h, r⟩
  · cases q
theorem RV.int {i : Int} {v : V} (r : RV A W s σ ρ H m sh (.int i) v) : v = .int i := by
  rcases r with r | ⟨e, l, a, xs, q, _⟩
  · cases r; rfl
  · cases q
theorem RV.bl {i : Bool} {v : V} (r : RV A W s σ ρ H m sh (.bl i) v) : v = .bl i := by
  rcases r with r | ⟨e, l, a, xs, q, _⟩
  · cases r; rfl
  · cases q
theorem RV.str {i : Str} {v : V} (r : RV A W s σ ρ H m sh (.str i) v) : v = .str i := by
  rcases r with r | ⟨e, l, a, xs, q, _⟩
  · cases r; rfl
  · cases q
theorem RV.non {v : V} (r : RV A W s σ ρ H m sh .non v) : v = .non := by
  rcases r with r | ⟨e, l, a, xs, q, _⟩
  · cases r; rfl
  · cases q
theorem RV.any {u v : V} (r : RV A W s σ ρ H m sh (.any u) v) : v = u := by
  rcases r with r | ⟨e, l, a, xs, q, _⟩
  · cases r; rfl
  · cases q
end
/-! ### readings and their trees -/
abbrev FE (A : Amb) := List Sl → A.S → (D → A.S → Prop) → Prop
abbrev FO (A : Amb) := List Sl → A.S → (Mo → A.S → Prop) → Prop
abbrev FT (A : Amb) := List Sl → A.S → (Bool → A.S → Prop) → Prop
abbrev FA (A : Amb) := List Sl → A.S → (List D → A.S → Prop) → Prop
structure PEnds (A : Amb) where
  nx : List Sl → A.S → Prop
  rt : Ret → A.S → Prop
  bk : List Sl → A.S → Prop := fun _ _ => False
  ct : List Sl → A.S → Prop := fun _ _ => False
abbrev FS (A : Amb) := PEnds A → List Sl → A.S → Prop
def SdE (A : Amb) (m sh : Bool) (t : TE) (f : FE A) : Prop := ∀ W s0 H0 s σ H ρ Φ Q, ER A W s0 H0 s σ H ρ → f ρ s Φ →
  (∀ d s' v H', Φ d s' → ER A W s0 H0 s' σ H' ρ → Stp A s s' H H' → RV A W s' σ ρ H' m sh d v → Q v H') → t σ H Q
def SdT (A : Amb) (t : TT) (f : FT A) : Prop := ∀ W s0 H0 s σ H ρ Φ Q, ER A W s0 H0 s σ H ρ → f ρ s Φ →
  (∀ b s' H', Φ b s' → ER A W s0 H0 s' σ H' ρ → Stp A s s' H H' → Q b H') → t σ H Q
def SdA (A : Amb) (m : Bool) (t : TA) (f : FA A) : Prop := ∀ W s0 H0 s σ H ρ Φ Q, ER A W s0 H0 s σ H ρ → f ρ s Φ →
  (∀ ds s' vs H', Φ ds s' → ER A W s0 H0 s' σ H' ρ → Stp A s s' H H' → RsL (om m A W s' σ ρ) H' ds vs → Q vs H') → t σ H Q
/-- a new thing that nobody else has -/
def SdO (A : Amb) (t : TE) (f : FO A) : Prop := ∀ W s0 H0 s σ H ρ Φ Q, ER A W s0 H0 s σ H ρ → f ρ s Φ →
  (∀ mo s' p H', Φ mo s' → ER A (W.add p) s0 H0 s' σ H' ρ → Stp A s s' H H' → H p = none → MoAt (om true A (W.add p) s' σ ρ) H' p mo → ¬ W.w p → ¬ A.B s' p → Q (.ref p) H') → t σ H Q
/-- how a body ends by return -/
def RetOk (A : Amb) (W : Ot) (s0 : A.S) (H0 : Hp) (s' : A.S) (H' : Hp) (v : V) : Ret → Prop
  | .d d => Rs (fun a => W.w a ∨ A.B s' a) H' d v
  | .o m => ∃ p, v = .ref p ∧ H0 p = none ∧ ¬ W.w p ∧ ¬ A.B s' p ∧ MoAt (fun a => (W.w a ∨ a = p) ∨ A.B s' a) H' p m
def SdS (A : Amb) (t : TS) (f : FS A) : Prop := ∀ W s0 H0 s σ H ρ P D, ER A W s0 H0 s σ H ρ → f P ρ s →
  (∀ ρ' s' σ' H', P.nx ρ' s' → ER A W s0 H0 s' σ' H' ρ' → D.nx σ' H') →
  (∀ ρ' s' σ' H', P.bk ρ' s' → ER A W s0 H0 s' σ' H' ρ' → D.bk σ' H') →
  (∀ ρ' s' σ' H', P.ct ρ' s' → ER A W s0 H0 s' σ' H' ρ' → D.ct σ' H') →
  (∀ r s' v H', P.rt r s' → A.I s' H' → Stp A s0 s' H0 H' → (∀ a, W.w a → H' a ≠ none) → RetOk A W s0 H0 s' H' v r → D.rt v H') → t D σ H
structure QE (X : Cx) (A : Amb) (m sh : Bool) (e : Expr) (t : TE) (f : FE A) : Prop where
  pe : PE X e t
  sd : SdE A m sh t f
structure QO (X : Cx) (A : Amb) (e : Expr) (t : TE) (f : FO A) : Prop where
  pe : PE X e t
  sd : SdO A t f
structure QT (X : Cx) (A : Amb) (e : Expr) (t : TT) (f : FT A) : Prop where
  pt : PT X e t
  sd : SdT A t f
structure QA (X : Cx) (A : Amb) (m : Bool) (es : List Expr) (t : TA) (f : FA A) : Prop where
  pa : PA X es t
  sd : SdA A m t f
structure QS (X : Cx) (A : Amb) (st : Stmt) (t : TS) (f : FS A) : Prop where
  ps : PS X st t
  sd : SdS A t f
structure QSs (X : Cx) (A : Amb) (st : List Stmt) (t : TS) (f : FS A) : Prop where
  ps : PSs X st t
  sd : SdS A t f
end Pd

set_option maxHeartbeats 4000000
namespace Pd
open PySem PySem.Spec PyProof.Rows L2
/-! ### deep data -/
def D.scal : D → Prop
  | .non => True
  | .bl _ => True
  | .int _ => True
  | .str _ => True
  | _ => False
mutual
def D.py : D → PyData
  | .non => .none
  | .bl b => .bool b
  | .int i => .int i
  | .str x => .str x
  | .tup l => .tuple (pyL l)
  | .lst l => .list (pyL l)
  | .dct _ _ => .none
  | .any _ => .none
def pyL : List D → List PyData
  | [] => []
  | d :: l => d.py :: pyL l
end
mutual
def D.plain : D → Bool
  | .non => true
  | .bl _ => true
  | .int _ => true
  | .str _ => true
  | .tup l => plainL l
  | .lst l => plainL l
  | .dct _ _ => false
  | .any _ => false
def plainL : List D → Bool
  | [] => true
  | d :: l => d.plain && plainL l
end
section
variable {B : Ad} {H : Hp} {K : Fg}
mutual
theorem Rs.dp : ∀ {d : D} {v : V}, Rs B H d v → d.plain = true → Dp K H v d.py
  | _, _, .non, _ => by simp only [D.py]; exact .non
  | _, _, .bl b, _ => by simp only [D.py]; exact .bl b
  | _, _, .int i, _ => by simp only [D.py]; exact .int i
  | _, _, .str x, _ => by simp only [D.py]; exact .str x
  | _, _, .any v, h => by simp [D.plain] at h
  | _, _, .dct _ _ _ _, h => by simp [D.plain] at h
  | _, _, .tup h n r, p => by simp only [D.py]; simp only [D.plain] at p; exact .tup (.of h) (RsL.dp r p)
  | _, _, .lst h n r, p => by simp only [D.py]; simp only [D.plain] at p; exact .lst (.of h) (RsL.dp r p)
theorem RsL.dp : ∀ {l : List D} {xs : List V}, RsL B H l xs → plainL l = true → DpAll K H xs (pyL l)
  | _, _, .nil, _ => by simp only [pyL]; exact .nil
  | _, _, .cons h r, p => by
    simp only [pyL]
    simp only [plainL, Bool.and_eq_true] at p
    exact .cons (Rs.dp h p.1) (RsL.dp r p.2)
end
end
section
variable {A : Amb} {W : Ot} {s0 s s' : A.S} {H0 H H' : Hp} {σ : Sg} {ρ : List Sl} {m sh : Bool}
theorem RV.up {d : D} {v : V} (r : RV A W s σ ρ H m false d v) : RV A W s σ ρ H m sh d v := .inl r.rs
theorem RV.rsT {l : List D} {v : V} (r : RV A W s σ ρ H m sh (.tup l) v) : Rs (om m A W s σ ρ) H (.tup l) v := by
  rcases r with r | ⟨e, l, a, xs, q, _⟩
  · exact r
  · cases q
/-- the frame's own list read as a whole: below (W and B) it is a tree -/
theorem RV.low {d : D} {v : V} (r : RV A W s σ ρ H m sh d v) : Rs (om false A W s σ ρ) H d v := by
  have w : ∀ a, om false A W s σ ρ a → om m A W s σ ρ a := fun a z => by
    rcases z with z | z | ⟨z, _⟩
    · exact .inl z
    · exact .inr (.inl z)
    · cases z
  rcases r with r | ⟨e, l, a, xs, rfl, rfl, h1, h2, h3, h4⟩
  · exact r.weak w
  · exact .lst h1 (fun z => by
      rcases z with z | z | ⟨z, _⟩
      · exact h3 z
      · exact h4 z
      · cases z) (h2.weak w)
theorem RV.ofScal {d : D} {v : V} (r : RV A W s σ ρ H m sh d v) (h : d.scal) {B : Ad} : Rs B H d v := by
  rcases r with r | ⟨e, l, a, xs, q, _⟩
  · cases r with
    | non => exact .non
    | bl b => exact .bl b
    | int b => exact .int b
    | str b => exact .str b
    | any => exact h.elim
    | tup => exact h.elim
    | lst => exact h.elim
    | dct => exact h.elim
  · subst q; exact h.elim
theorem RV.newL (R : ER A W s0 H0 s σ H ρ) {l : List D} {xs : List V} {p : Addr} (hp : H p = none) (r : RsL (om m A W s σ ρ) H l xs) : RV A W s σ ρ (upd H p (.lst xs)) m sh (.lst l) (.ref p) :=
  .inl (.lst upd_same (R.fresh hp) (r.stp (Stp.fresh hp)))
theorem RV.newT (R : ER A W s0 H0 s σ H ρ) {l : List D} {xs : List V} {p : Addr} (hp : H p = none) (r : RsL (om m A W s σ ρ) H l xs) : RV A W s σ ρ (upd H p (.tup xs)) m sh (.tup l) (.ref p) :=
  .inl (.tup upd_same (R.fresh hp) (r.stp (Stp.fresh hp)))
end
/-! ### names, constants -/
structure Br (b : Bool) (p q : Prop) : Prop where
  t : b = true → p
  f : b = false → q
theorem Br.ite {b : Bool} {p q : Prop} (h : Br b p q) : if b = true then p else q := by
  cases b with
  | true => rw [if_pos rfl]; exact h.t rfl
  | false => rw [if_neg (by decide)]; exact h.f rfl
theorem br_t {b : Bool} {p q : Prop} (h : b = true) (x : p) : Br b p q := ⟨fun _ => x, fun z => Bool.noConfusion (h.symm.trans z)⟩
theorem br_f {b : Bool} {p q : Prop} (h : b = false) (x : q) : Br b p q := ⟨fun z => Bool.noConfusion (h.symm.trans z), fun _ => x⟩
theorem br_b {c : Prop} [Decidable c] {p q : Prop} (h1 : c → p) (h2 : ¬ c → q) : Br (decide c) p q := ⟨fun z => h1 (of_decide_eq_true z), fun z => h2 (of_decide_eq_false z)⟩
theorem br_n {c : Prop} [Decidable c] {p q : Prop} (h1 : c → q) (h2 : ¬ c → p) : Br (!decide c) p q := ⟨fun z => h2 (by simpa using z), fun z => h1 (by simpa using z)⟩
/-- an item by an index -/
structure Ix {α : Type} (l : List α) (i : Int) (Φ : α → Prop) : Prop where
  ex : ∃ d, L2.atI l i = some d ∧ Φ d
def fV {A : Amb} (i : Nat) : FE A := fun ρ s Φ => match ρ[i]? with
  | some (.v d) => Φ d s
  | _ => False
/-- .. or a list of the frame's own -/
def fW {A : Amb} (i : Nat) : FE A := fun ρ s Φ => match ρ[i]? with
  | some (.v d) => Φ d s
  | some (.o (.lst l)) => Φ (.lst l) s
  | _ => False
/-- .. or a dict of the frame's own -/
def fU {A : Amb} (i : Nat) : FE A := fun ρ s Φ => match ρ[i]? with
  | some (.v d) => Φ d s
  | some (.o (.lst l)) => Φ (.lst l) s
  | some (.o (.dk ks vs)) => Φ (.dct ks vs) s
  | _ => False
def fC {A : Amb} (d : D) : FE A := fun _ s Φ => Φ d s
section
variable {A : Amb} {m sh : Bool}
theorem sd_v (i : Nat) : SdE A m sh (tVar i) (fV i) := by
  intro W s0 H0 s σ H ρ Φ Q R h q
  unfold fV at h
  split at h
  · rename_i d e
    obtain ⟨v, h1, h2⟩ := R.vals i d e
    refine ⟨v, h1, q d s v H h R Stp.refl (.inl (h2.weak fun a z => ?_))⟩
    rcases z with z | z | ⟨_, z⟩
    · exact .inl z
    · exact .inr (.inl z)
    · exact .inr (.inr ⟨rfl, z⟩)
  · exact h.elim
theorem ER.weakT {W : Ot} {s : A.S} {σ : Sg} {ρ : List Sl} : ∀ a, om m A W s σ ρ a → om true A W s σ ρ a := fun a z => by
  rcases z with z | z | ⟨_, z⟩
  · exact .inl z
  · exact .inr (.inl z)
  · exact .inr (.inr ⟨rfl, z⟩)
theorem ER.lowOwn {W : Ot} {s0 s : A.S} {H0 H : Hp} {σ : Sg} {ρ : List Sl} {a : Addr} (h1 : ¬ W.w a) (h2 : ¬ A.B s a) : ¬ om false A W s σ ρ a := fun z => by
  rcases z with z | z | ⟨z, _⟩
  · exact h1 z
  · exact h2 z
  · cases z
theorem sd_w (i : Nat) (hm : sh = true ∨ m = false) : SdE A m sh (tVar i) (fW i) := by
  intro W s0 H0 s σ H ρ Φ Q R h q
  unfold fW at h
  split at h
  · rename_i d e
    obtain ⟨v, h1, h2⟩ := R.vals i d e
    exact ⟨v, h1, q d s v H h R Stp.refl (.inl (h2.weak ER.weakT))⟩
  · rename_i l e
    obtain ⟨a, h1, ⟨xs, h2, h3⟩, h4, h5, h6⟩ := R.own i _ e
    refine ⟨.ref a, h1, q _ s _ H h R Stp.refl ?_⟩
    rcases hm with e | e
    · subst e
      exact .inr ⟨rfl, l, a, xs, rfl, rfl, h2, h3.weak ER.weakT, h5, h6⟩
    · subst e
      exact .inl (.lst h2 (ER.lowOwn (s0 := s0) (H0 := H0) (H := H) h5 h6) (h3.weak ER.weakT))
  · exact h.elim
theorem sd_u (i : Nat) : SdE A false sh (tVar i) (fU i) := by
  intro W s0 H0 s σ H ρ Φ Q R h q
  unfold fU at h
  split at h
  · rename_i d e
    obtain ⟨v, h1, h2⟩ := R.vals i d e
    exact ⟨v, h1, q d s v H h R Stp.refl (.inl (h2.weak ER.weakT))⟩
  · rename_i l e
    obtain ⟨a, h1, ⟨xs, h2, h3⟩, h4, h5, h6⟩ := R.own i _ e
    exact ⟨.ref a, h1, q _ s _ H h R Stp.refl (.inl (.lst h2 (ER.lowOwn (s0 := s0) (H0 := H0) (H := H) h5 h6) (h3.weak ER.weakT)))⟩
  · rename_i ks vs e
    obtain ⟨a, h1, ⟨kvs, h2, hk, h3⟩, h4, h5, h6⟩ := R.own i _ e
    exact ⟨.ref a, h1, q _ s _ H h R Stp.refl (.inl (.dct h2 (ER.lowOwn (s0 := s0) (H0 := H0) (H := H) h5 h6) hk (h3.weak ER.weakT)))⟩
  · exact h.elim
theorem sd_c {d : D} {v : V} (h : ∀ B H, Rs B H d v) : SdE A m sh (tC v) (fC d) := fun W s0 H0 s σ H ρ Φ Q R hp q => q d s v H hp R Stp.refl (.inl (h _ _))
/-- a value that is no object stands whatever changes -/
def fScal {A : Amb} (f : FE A) : FE A := fun ρ s Φ => f ρ s fun d s' => d.scal ∧ Φ d s'
theorem sd_scal {m1 sh1 : Bool} {t : TE} {f : FE A} (h : SdE A m1 sh1 t f) : SdE A m sh t (fScal f) := fun W s0 H0 s σ H ρ Φ Q R hp q =>
  h W s0 H0 s σ H ρ _ Q R hp fun d s' v H' hd R' st r => q d s' v H' hd.2 R' st (.inl (r.ofScal hd.1))
end
/-! ### two-place operations -/
def SdR (A : Amb) (m m1 sh1 m2 sh2 : Bool) (r : R2) (op : D → D → (D → Prop) → Prop) : Prop :=
  ∀ W s0 H0 s σ H ρ x y v w Φ Q, ER A W s0 H0 s σ H ρ → RV A W s σ ρ H m1 sh1 x v → RV A W s σ ρ H m2 sh2 y w → op x y Φ →
    (∀ d u H', Φ d → ER A W s0 H0 s σ H' ρ → Stp A s s H H' → RV A W s σ ρ H' m false d u → Q u H') → r v w H Q
def fBin {A : Amb} (op : D → D → (D → Prop) → Prop) (fa fb : FE A) : FE A := fun ρ s Φ => fa ρ s fun x s1 => fb ρ s1 fun y s2 => op x y fun d => Φ d s2
section
variable {A : Amb} {m sh m1 sh1 m2 sh2 : Bool} {r : R2} {op : D → D → (D → Prop) → Prop} {ta tb tc : TE} {fa fb fc : FE A}
theorem sd_bin (hr : SdR A m m1 sh1 m2 sh2 r op) (ha : SdE A m1 sh1 ta fa) (hb : SdE A m2 sh2 tb fb) : SdE A m sh (tOp r ta tb) (fBin op fa fb) :=
  fun W s0 H0 s σ H ρ Φ Q R h q => ha W s0 H0 s σ H ρ _ _ R h fun x s1 v H1 h1 R1 st1 r1 => hb W s0 H0 s1 σ H1 ρ _ _ R1 h1 fun y s2 w H2 h2 R2 st2 r2 =>
    hr W s0 H0 s2 σ H2 ρ x y v w _ Q R2 (r1.stp st2) r2 h2 fun d u H3 hd R3 st3 r3 => q d s2 u H3 hd R3 ((st1.trans st2).trans st3) r3.up
theorem sdr_same {g : D → D → (D → Prop) → Prop} (h : ∀ x y v w H Φ Q W s σ ρ, RV A W s σ ρ H m1 sh1 x v → RV A W s σ ρ H m2 sh2 y w → g x y Φ → (∀ d u, Φ d → (∀ B, Rs B H d u) → Q u H) → r v w H Q) : SdR A m m1 sh1 m2 sh2 r g :=
  fun W s0 H0 s σ H ρ x y v w Φ Q R rx ry hg q => h x y v w H Φ Q W s σ ρ rx ry hg fun d u hd hu => q d u H hd R Stp.refl (.inl (hu _))
end
/-- ints -/
def dI (C : Int → Int → Prop) (g : Int → Int → D) (x y : D) (Φ : D → Prop) : Prop := match x, y with
  | .int i, .int j => C i j ∧ Φ (g i j)
  | _, _ => False
def dI0 (g : Int → Int → D) (x y : D) (Φ : D → Prop) : Prop := match x, y with
  | .int i, .int j => Φ (g i j)
  | _, _ => False
section
variable {A : Amb} {m m1 sh1 m2 sh2 : Bool}
theorem sdr_I0i {g : Int → Int → Int} : SdR A m m1 sh1 m2 sh2 (rI0 fun i j => .int (g i j)) (dI0 fun i j => .int (g i j)) := sdr_same fun x y v w H Φ Q W s σ ρ rx ry h q => by
  unfold dI0 at h
  split at h
  · rename_i i j
    obtain rfl := rx.int
    obtain rfl := ry.int
    exact ⟨i, j, rfl, rfl, q _ _ h fun B => .int _⟩
  · exact h.elim
theorem sdr_I0b {g : Int → Int → Bool} : SdR A m m1 sh1 m2 sh2 (rI0 fun i j => .bl (g i j)) (dI0 fun i j => .bl (g i j)) := sdr_same fun x y v w H Φ Q W s σ ρ rx ry h q => by
  unfold dI0 at h
  split at h
  · rename_i i j
    obtain rfl := rx.int
    obtain rfl := ry.int
    exact ⟨i, j, rfl, rfl, q _ _ h fun B => .bl _⟩
  · exact h.elim
theorem sdr_Ii {C : Int → Int → Prop} {g : Int → Int → Int} : SdR A m m1 sh1 m2 sh2 (rI C fun i j => .int (g i j)) (dI C fun i j => .int (g i j)) := sdr_same fun x y v w H Φ Q W s σ ρ rx ry h q => by
  unfold dI at h
  split at h
  · rename_i i j
    obtain rfl := rx.int
    obtain rfl := ry.int
    exact ⟨i, j, rfl, rfl, h.1, q _ _ h.2 fun B => .int _⟩
  · exact h.elim
end
/-! + : ints, texts, lists, tuples -/
def rAddA (K : Fg) : R2 := fun x y H Q => rI0 (fun i j => .int (i + j)) x y H Q ∨ (fun x y H Q => ∃ i j, x = .str i ∧ y = .str j ∧ i.length + j.length ≤ sizeLine ∧ Q (.str (i ++ j)) H : R2) x y H Q ∨ rCat x y H Q ∨ rCatA K x y H Q
theorem op_addA {X : Cx} : OpR X (binaryOp .Add) (rAddA X.K) := OpR.or op_add (OpR.or op_add_str (OpR.or op_cat op_catA))
def dAdd (x y : D) (Φ : D → Prop) : Prop := match x, y with
  | .int i, .int j => Φ (.int (i + j))
  | .str i, .str j => i.length + j.length ≤ 16777216 ∧ Φ (.str (i ++ j))
  | .lst a, .lst b => a.length + b.length ≤ 16777216 ∧ Φ (.lst (a ++ b))
  | .tup a, .tup b => a.length + b.length ≤ 16777216 ∧ Φ (.tup (a ++ b))
  | _, _ => False
theorem line_eq : sizeLine = 16777216 := by decide
section
variable {A : Amb} {m m1 m2 sh1 sh2 : Bool} {K : Fg}
theorem sdr_add : SdR A m m sh1 m sh2 (rAddA K) dAdd := by
  intro W s0 H0 s σ H ρ x y v w Φ Q R rx ry h q
  unfold dAdd at h
  split at h
  · rename_i i j
    obtain rfl := rx.int
    obtain rfl := ry.int
    exact .inl ⟨i, j, rfl, rfl, q _ _ H h R Stp.refl (.inl (.int _))⟩
  · rename_i i j
    obtain rfl := rx.str
    obtain rfl := ry.str
    exact .inr (.inl ⟨i, j, rfl, rfl, by rw [line_eq]; exact h.1, q _ _ H h.2 R Stp.refl (.inl (.str _))⟩)
  · rename_i a b
    obtain ⟨p, xs, rfl, h1, h2, _⟩ := rx.lst
    obtain ⟨p', xs', rfl, h1', h2', _⟩ := ry.lst
    refine .inr (.inr (.inl ⟨p, p', xs, xs', rfl, rfl, h1, h1', by rw [line_eq, h2.length, h2'.length]; exact h.1, fun n hn => ?_⟩))
    exact q _ _ _ h.2 (R.alloc hn _) (Stp.fresh hn) (RV.newL R hn (h2.append h2'))
  · rename_i a b
    obtain ⟨p, xs, rfl, h1, h2⟩ := rx.tup
    obtain ⟨p', xs', rfl, h1', h2'⟩ := ry.tup
    refine .inr (.inr (.inr ⟨p, p', xs, xs', rfl, rfl, .of h1, .of h1', by rw [line_eq, h2.length, h2'.length]; exact h.1, fun e => ?_, fun _ e => ?_, fun _ _ n hn => ?_⟩))
    · subst e
      have z' : a = [] := List.eq_nil_of_length_eq_zero h2.length.symm
      subst z'
      exact q _ _ H h.2 R Stp.refl (.inl ry.rsT)
    · subst e
      have z' : b = [] := List.eq_nil_of_length_eq_zero h2'.length.symm
      subst z'
      have h3 := h.2
      rw [List.append_nil] at h3
      exact q _ _ H h3 R Stp.refl (.inl rx.rsT)
    · exact q _ _ _ h.2 (R.alloc hn _) (Stp.fresh hn) (RV.newT R hn (h2.append h2'))
  · exact h.elim
end
/-! * : ints, a list times an int -/
theorem RsL.rep {B : Ad} {H : Hp} {l : List D} {xs : List V} (h : RsL B H l xs) : ∀ k : Nat, RsL B H (List.replicate k l).flatten (List.replicate k xs).flatten
  | 0 => .nil
  | k + 1 => by
    rw [List.replicate_succ, List.replicate_succ, List.flatten_cons, List.flatten_cons]
    exact h.append (RsL.rep h k)
def rMulA : R2 := fun x y H Q => rI CMulW (fun i j => .int (i * j)) x y H Q ∨ rRep x y H Q
theorem op_mulA {X : Cx} : OpR X (binaryOp .Mult) rMulA := OpR.or op_mulW op_rep
/-- bits of both together below a million -/
def dMul (x y : D) (Φ : D → Prop) : Prop := match x, y with
  | .int i, .int j => CMulW i j ∧ Φ (.int (i * j))
  | .lst a, .int k => (-(2 ^ 63) ≤ k ∧ k < 2 ^ 63 ∧ a.length * k.toNat ≤ 16777216) ∧ Φ (.lst (List.replicate k.toNat a).flatten)
  | _, _ => False
section
variable {A : Amb} {m m1 m2 sh1 sh2 : Bool} {K : Fg}
theorem sdr_mul : SdR A m m sh1 m2 sh2 rMulA dMul := by
  intro W s0 H0 s σ H ρ x y v w Φ Q R rx ry h q
  unfold dMul at h
  split at h
  · rename_i i j
    obtain rfl := rx.int
    obtain rfl := ry.int
    exact .inl ⟨i, j, rfl, rfl, h.1, q _ _ H h.2 R Stp.refl (.inl (.int _))⟩
  · rename_i a k
    obtain ⟨p, xs, rfl, h1, h2, _⟩ := rx.lst
    obtain rfl := ry.int
    refine .inr ⟨p, k, xs, rfl, rfl, h1, h.1.1, h.1.2.1, by rw [line_eq, h2.length]; exact h.1.2.2, fun n hn => ?_⟩
    exact q _ _ _ h.2 (R.alloc hn _) (Stp.fresh hn) (RV.newL R hn (h2.rep _))
  · exact h.elim
end
/-! == and != -/
def rEqA (K : Fg) : R2 := fun x y H Q => rEq x y H Q ∨ rEqD K x y H Q
def rNeA (K : Fg) : R2 := fun x y H Q => rNe x y H Q ∨ rNeD K x y H Q
theorem op_eqA {X : Cx} (hu : X.A.units + 64 < cLine) : OpR X (compareOp .Eq) (rEqA X.K) := OpR.or op_eq (op_eqD hu)
theorem op_neA {X : Cx} (hu : X.A.units + 64 < cLine) : OpR X (compareOp .NotEq) (rNeA X.K) := OpR.or op_ne (op_neD hu)
/-- data that == looks through -/
structure DOk (x : D) : Prop where
  plain : x.plain = true
  shaped : SeqAt.shaped x.py = true
/-- == as a bool: of texts, ints, bools, None as they are; else by their data -/
def dEqB (x y : D) (Φ : Bool → Prop) : Prop := match x, y with
  | .int i, .int j => Φ (decide (i = j))
  | .str i, .str j => Φ (decide (i = j))
  | .bl i, .bl j => Φ (decide (i = j))
  | .non, .non => Φ true
  | .int _, .str _ => Φ false
  | .str _, .int _ => Φ false
  | .int _, .non => Φ false
  | .non, .int _ => Φ false
  | .str _, .non => Φ false
  | .non, .str _ => Φ false
  | .bl _, .non => Φ false
  | .non, .bl _ => Φ false
  | .bl _, .str _ => Φ false
  | .str _, .bl _ => Φ false
  | x, y => DOk x ∧ DOk y ∧ Φ (PyData.eqv x.py y.py)
theorem dEqB_run {K : Fg} {A : Amb} {m1 sh1 m2 sh2 : Bool} {x y : D} {v w : V} {H : Hp} {Φ : Bool → Prop} {W : Ot} {s : A.S} {σ : Sg} {ρ : List Sl} (rx : RV A W s σ ρ H m1 sh1 x v) (ry : RV A W s σ ρ H m2 sh2 y w) (h : dEqB x y Φ) :
    (scal v w = true ∧ Φ (decide (v = w))) ∨ ∃ d e, Dp K H v d ∧ Dp K H w e ∧ SeqAt.shaped d = true ∧ SeqAt.shaped e = true ∧ Φ (PyData.eqv d e) := by
  unfold dEqB at h
  split at h
  · obtain rfl := rx.int
    obtain rfl := ry.int
    exact .inl ⟨rfl, by simpa using h⟩
  · obtain rfl := rx.str
    obtain rfl := ry.str
    exact .inl ⟨rfl, by simpa using h⟩
  · obtain rfl := rx.bl
    obtain rfl := ry.bl
    exact .inl ⟨rfl, by simpa using h⟩
  · obtain rfl := rx.non
    obtain rfl := ry.non
    exact .inl ⟨rfl, by simpa using h⟩
  · obtain rfl := rx.int
    obtain rfl := ry.str
    exact .inl ⟨rfl, by simpa using h⟩
  · obtain rfl := rx.str
    obtain rfl := ry.int
    exact .inl ⟨rfl, by simpa using h⟩
  · obtain rfl := rx.int
    obtain rfl := ry.non
    exact .inl ⟨rfl, by simpa using h⟩
  · obtain rfl := rx.non
    obtain rfl := ry.int
    exact .inl ⟨rfl, by simpa using h⟩
  · obtain rfl := rx.str
    obtain rfl := ry.non
    exact .inl ⟨rfl, by simpa using h⟩
  · obtain rfl := rx.non
    obtain rfl := ry.str
    exact .inl ⟨rfl, by simpa using h⟩
  · obtain rfl := rx.bl
    obtain rfl := ry.non
    exact .inl ⟨rfl, by simpa using h⟩
  · obtain rfl := rx.non
    obtain rfl := ry.bl
    exact .inl ⟨rfl, by simpa using h⟩
  · obtain rfl := rx.bl
    obtain rfl := ry.str
    exact .inl ⟨rfl, by simpa using h⟩
  · obtain rfl := rx.str
    obtain rfl := ry.bl
    exact .inl ⟨rfl, by simpa using h⟩
  · exact .inr ⟨_, _, Rs.dp rx.low h.1.plain, Rs.dp ry.low h.2.1.plain, h.1.shaped, h.2.1.shaped, h.2.2⟩
def dEq (x y : D) (Φ : D → Prop) : Prop := dEqB x y fun b => Φ (.bl b)
def dNe (x y : D) (Φ : D → Prop) : Prop := dEqB x y fun b => Φ (.bl (!b))
section
variable {A : Amb} {m m1 m2 sh1 sh2 : Bool} {K : Fg}
theorem sdr_eq : SdR A m m1 sh1 m2 sh2 (rEqA K) dEq := sdr_same fun x y v w H Φ Q W s σ ρ rx ry h q => by
  rcases dEqB_run (K := K) rx ry h with ⟨h1, h2⟩ | ⟨d, e, h1, h2, h3, h4, h5⟩
  · exact .inl ⟨h1, q _ _ h2 fun B => .bl _⟩
  · exact .inr ⟨d, e, h1, h2, h3, h4, q _ _ h5 fun B => .bl _⟩
theorem sdr_ne : SdR A m m1 sh1 m2 sh2 (rNeA K) dNe := sdr_same fun x y v w H Φ Q W s σ ρ rx ry h q => by
  rcases dEqB_run (K := K) rx ry h with ⟨h1, h2⟩ | ⟨d, e, h1, h2, h3, h4, h5⟩
  · exact .inl ⟨h1, q _ _ h2 fun B => .bl _⟩
  · exact .inr ⟨d, e, h1, h2, h3, h4, q _ _ h5 fun B => .bl _⟩
end
/-! is None, is not None; is of bools -/
def D.isNon : D → Bool
  | .non => true
  | _ => false
/-- the answer of «x is None»: no opaque value -/
def dIsN (x y : D) (Φ : D → Prop) : Prop := match y with
  | .non => (match x with | .any _ => False | _ => Φ (.bl x.isNon))
  | _ => False
def dNotN (x y : D) (Φ : D → Prop) : Prop := match y with
  | .non => (match x with | .any _ => False | _ => Φ (.bl (!x.isNon)))
  | _ => False
theorem Rs.isNon {B : Ad} {H : Hp} {x : D} {v : V} (r : Rs B H x v) (h : ∀ u, x ≠ .any u) : decide (v = .non) = x.isNon := by
  cases r with
  | any => exact (h _ rfl).elim
  | non => rfl
  | _ => rfl
section
variable {A : Amb} {m m1 m2 sh1 sh2 : Bool} {K : Fg}
theorem sdr_isN : SdR A m m1 sh1 m2 sh2 (fun x y H Q => y = .non ∧ Q (.bl (decide (x = .non))) H) dIsN := sdr_same fun x y v w H Φ Q W s σ ρ rx ry h q => by
  unfold dIsN at h
  split at h
  · obtain rfl := ry.non
    split at h
    · exact h.elim
    · rename_i hn
      refine ⟨rfl, ?_⟩
      rw [rx.low.isNon hn]
      exact q _ _ h fun B => .bl _
  · exact h.elim
theorem sdr_notN : SdR A m m1 sh1 m2 sh2 (fun x y H Q => y = .non ∧ Q (.bl (!decide (x = .non))) H) dNotN := sdr_same fun x y v w H Φ Q W s σ ρ rx ry h q => by
  unfold dNotN at h
  split at h
  · obtain rfl := ry.non
    split at h
    · exact h.elim
    · rename_i hn
      refine ⟨rfl, ?_⟩
      rw [rx.low.isNon hn]
      exact q _ _ h fun B => .bl _
  · exact h.elim
end
/-! ### subscripts -/
def dIx (x y : D) (Φ : D → Prop) : Prop := match x, y with
  | .lst l, .int i => Ix l i Φ
  | .tup l, .int i => Ix l i Φ
  | .str z, .int i => z.length ≤ 16777216 ∧ Ix z.cps.toList i fun c => Φ (.str ⟨#[c]⟩)
  | _, _ => False
theorem RsL.atI {B : Ad} {H : Hp} {l : List D} {xs : List V} {i : Int} {d : D} (r : RsL B H l xs) (h : L2.atI l i = some d) : ∃ v, L2.atI xs i = some v ∧ Rs B H d v := by
  unfold L2.atI at h ⊢
  rw [r.length]
  cases e : ixN l.length i with
  | none => rw [e] at h; cases h
  | some j =>
    rw [e] at h
    exact r.get h
section
variable {A : Amb} {m m1 m2 sh1 sh2 : Bool} {K : Fg}
theorem sdr_ix {m2 sh2 : Bool} : SdR A m m sh1 m2 sh2 (rIx K) dIx := by
  intro W s0 H0 s σ H ρ x y v w Φ Q R rx ry h q
  unfold dIx at h
  split at h
  · rename_i l i
    obtain ⟨p, xs, rfl, h1, h2, _⟩ := rx.lst
    obtain rfl := ry.int
    obtain ⟨⟨d, e, h⟩⟩ := h
    obtain ⟨u, h3, h4⟩ := h2.atI e
    exact .inl ⟨p, xs, i, u, rfl, rfl, .of h1, h3, q _ _ H h R Stp.refl (.inl h4)⟩
  · rename_i l i
    obtain ⟨p, xs, rfl, h1, h2⟩ := rx.tup
    obtain rfl := ry.int
    obtain ⟨⟨d, e, h⟩⟩ := h
    obtain ⟨u, h3, h4⟩ := h2.atI e
    exact .inr (.inl ⟨p, xs, i, u, rfl, rfl, .of h1, h3, q _ _ H h R Stp.refl (.inl h4)⟩)
  · rename_i z i
    obtain rfl := rx.str
    obtain rfl := ry.int
    obtain ⟨h0, ⟨c, e, h⟩⟩ := h
    exact .inr (.inr ⟨z, i, c, rfl, rfl, by rw [line_eq]; exact h0, e, q _ _ H h R Stp.refl (.inl (.str _))⟩)
  · exact h.elim
/-- xs[k], k written -/
def dIxN (k : Nat) (x _ : D) (Φ : D → Prop) : Prop := match x with
  | .lst l => (match l[k]? with | some d => Φ d | none => False)
  | .tup l => (match l[k]? with | some d => Φ d | none => False)
  | _ => False
theorem dIxN_ix {k : Nat} {x : D} {Φ : D → Prop} (h : dIxN k x (.int k) Φ) : dIx x (.int k) Φ := by
  unfold dIxN at h
  split at h
  · split at h
    · rename_i l d e
      exact ⟨d, L2.atI_nat e, h⟩
    · exact h.elim
  · split at h
    · rename_i l d e
      exact ⟨d, L2.atI_nat e, h⟩
    · exact h.elim
  · exact h.elim
theorem sdr_ixn {m2 sh2 : Bool} {W : Ot} {s0 s : A.S} {H0 H : Hp} {σ : Sg} {ρ : List Sl} {k : Nat} {x y : D} {v w : V} {Φ : D → Prop} {Q : VK} (R : ER A W s0 H0 s σ H ρ) (rx : RV A W s σ ρ H m sh1 x v) (rw : w = .int k) (h : dIxN k x y Φ)
    (q : ∀ d u H', Φ d → ER A W s0 H0 s σ H' ρ → Stp A s s H H' → RV A W s σ ρ H' m false d u → Q u H') : rIx K v w H Q := by
  subst rw
  exact sdr_ix (sh2 := sh2) (m2 := m2) W s0 H0 s σ H ρ x (.int k) v (.int k) Φ Q R rx (.inl (.int _)) (dIxN_ix h) q
theorem at_nat {α : Type} {xs : List α} {i : Int} (h0 : 0 ≤ i) (h1 : i < xs.length) : L2.atI xs i = some (xs[i.toNat]'(by omega)) := by
  have e : i = ((i.toNat : Nat) : Int) := by omega
  have g : xs[i.toNat]? = some (xs[i.toNat]'(by omega)) := List.getElem?_eq_getElem _
  exact (congrArg (L2.atI xs) e).trans (L2.atI_nat g)
theorem ix_go {α : Type} {l : List α} {i : Int} {Φ : α → Prop} (h0 : 0 ≤ i) (h1 : i < l.length) (q : ∀ d, l[i.toNat]? = some d → Φ d) : Ix l i Φ := ⟨_, at_nat h0 h1, q _ (List.getElem?_eq_getElem _)⟩
theorem ix_nat {α : Type} {l : List α} {k : Nat} {d : α} {Φ : α → Prop} (h : l[k]? = some d) (q : Φ d) : Ix l (k : Int) Φ := ⟨d, L2.atI_nat h, q⟩
end
/-! x in (flat things), x not in; a text in a text -/
def D.flat : D → Bool
  | .non => true
  | .bl _ => true
  | .int _ => true
  | .str _ => true
  | _ => false
def eqD : D → D → Bool
  | .non, .non => true
  | .bl a, .bl b => a == b
  | .bl a, .int b => (if a then 1 else 0) == b
  | .int a, .bl b => a == (if b then 1 else 0)
  | .int a, .int b => a == b
  | .str a, .str b => a == b
  | _, _ => false
def inD (x : D) (l : List D) : Bool := l.any fun y => eqD y x
theorem Rs.eqV {B B' : Ad} {H H' : Hp} {x y : D} {v w : V} (r : Rs B H x v) (q : Rs B' H' y w) (hx : x.flat = true) (hy : y.flat = true) : L2.eqV v w = eqD x y ∧ flatV v = true := by
  cases r <;> cases q <;> first | exact ⟨rfl, rfl⟩ | simp [D.flat] at hx hy
theorem RsL.inV {B B' : Ad} {H H' : Hp} {x : D} {v : V} (r : Rs B' H' x v) (hx : x.flat = true) : ∀ {l : List D} {xs : List V}, RsL B H l xs → l.all D.flat = true → L2.inV v xs = inD x l ∧ xs.all flatV = true
  | _, _, .nil, _ => ⟨rfl, rfl⟩
  | _, _, .cons h t, ha => by
    rw [List.all_cons, Bool.and_eq_true] at ha
    obtain ⟨h1, h2⟩ := RsL.inV r hx t ha.2
    obtain ⟨h3, h4⟩ := h.eqV r ha.1 hx
    unfold L2.inV inD at h1 ⊢
    rw [List.any_cons, List.any_cons, h1, h3, List.all_cons, h4, h2]
    exact ⟨rfl, rfl⟩
def rInA (K : Fg) : R2 := fun x y H Q => rIn K false x y H Q ∨ (fun x y H Q => ∃ i j, x = .str i ∧ y = .str j ∧ Q (.bl (!(Builtin.Str.occurrences j i 0 j.length 1).isEmpty)) H : R2) x y H Q
theorem op_inA {X : Cx} : OpR X (compareOp .In) (rInA X.K) := OpR.or op_in_seq op_in_str
def dIn (x y : D) (Φ : D → Prop) : Prop := match y with
  | .lst l => x.flat = true ∧ l.all D.flat = true ∧ Φ (.bl (inD x l))
  | .tup l => x.flat = true ∧ l.all D.flat = true ∧ Φ (.bl (inD x l))
  | .str j => (match x with | .str i => Φ (.bl (!(Builtin.Str.occurrences j i 0 j.length 1).isEmpty)) | _ => False)
  | _ => False
def dNotIn (x y : D) (Φ : D → Prop) : Prop := match y with
  | .lst l => x.flat = true ∧ l.all D.flat = true ∧ Φ (.bl (!inD x l))
  | .tup l => x.flat = true ∧ l.all D.flat = true ∧ Φ (.bl (!inD x l))
  | _ => False
section
variable {A : Amb} {m m1 m2 sh1 sh2 : Bool} {K : Fg}
theorem sdr_in : SdR A m m1 sh1 m2 sh2 (rInA K) dIn := sdr_same fun x y v w H Φ Q W s σ ρ rx ry h q => by
  unfold dIn at h
  split at h
  · obtain ⟨p, xs, rfl, h1, h2, _⟩ := ry.lst
    obtain ⟨h3, h4⟩ := RsL.inV rx.low h.1 h2 h.2.1
    have fx := (rx.low.eqV rx.low h.1 h.1).2
    exact .inl ⟨p, xs, rfl, .inl (.of h1), fx, h4, by rw [if_neg (by decide), h3]; exact q _ _ h.2.2 fun B => .bl _⟩
  · obtain ⟨p, xs, rfl, h1, h2⟩ := ry.tup
    obtain ⟨h3, h4⟩ := RsL.inV rx.low h.1 h2 h.2.1
    have fx := (rx.low.eqV rx.low h.1 h.1).2
    exact .inl ⟨p, xs, rfl, .inr (.of h1), fx, h4, by rw [if_neg (by decide), h3]; exact q _ _ h.2.2 fun B => .bl _⟩
  · split at h
    · obtain rfl := rx.str
      obtain rfl := ry.str
      exact .inr ⟨_, _, rfl, rfl, q _ _ h fun B => .bl _⟩
    · exact h.elim
  · exact h.elim
theorem sdr_notIn : SdR A m m1 sh1 m2 sh2 (rIn K true) dNotIn := sdr_same fun x y v w H Φ Q W s σ ρ rx ry h q => by
  unfold dNotIn at h
  split at h
  · obtain ⟨p, xs, rfl, h1, h2, _⟩ := ry.lst
    obtain ⟨h3, h4⟩ := RsL.inV rx.low h.1 h2 h.2.1
    have fx := (rx.low.eqV rx.low h.1 h.1).2
    exact ⟨p, xs, rfl, .inl (.of h1), fx, h4, by rw [if_pos rfl, h3]; exact q _ _ h.2.2 fun B => .bl _⟩
  · obtain ⟨p, xs, rfl, h1, h2⟩ := ry.tup
    obtain ⟨h3, h4⟩ := RsL.inV rx.low h.1 h2 h.2.1
    have fx := (rx.low.eqV rx.low h.1 h.1).2
    exact ⟨p, xs, rfl, .inr (.of h1), fx, h4, by rw [if_pos rfl, h3]; exact q _ _ h.2.2 fun B => .bl _⟩
  · exact h.elim
end
end Pd

set_option maxHeartbeats 4000000
namespace Pd
open PySem PySem.Spec PyProof.Rows L2
/-! ### tests -/
def fTest {A : Amb} (f : FE A) : FT A := fun ρ s Φ => f ρ s fun d s' => match d with
  | .bl b => Φ b s'
  | _ => False
def dTru (d : D) (Φ : Bool → Prop) : Prop := match d with
  | .non => Φ false
  | .bl b => Φ b
  | .int i => Φ (i != 0)
  | .str x => x.length ≤ 16777216 ∧ Φ ((x.length : Int) != 0)
  | .lst l => Φ (!l.isEmpty)
  | .tup l => Φ (!l.isEmpty)
  | .dct ks _ => Φ (!ks.isEmpty)
  | .any _ => False
def fTru {A : Amb} (f : FE A) : FT A := fun ρ s Φ => f ρ s fun d s' => dTru d fun b => Φ b s'
def fNotT {A : Amb} (f : FT A) : FT A := fun ρ s Φ => f ρ s fun b s' => Φ (!b) s'
def fAndT {A : Amb} (f g : FT A) : FT A := fun ρ s Φ => f ρ s fun b s' => Br b (g ρ s' Φ) (Φ false s')
def fOrT {A : Amb} (f g : FT A) : FT A := fun ρ s Φ => f ρ s fun b s' => Br b (Φ true s') (g ρ s' Φ)
def fAndV {A : Amb} (f g : FE A) : FE A := fun ρ s Φ => f ρ s fun d s' => match d with
  | .bl b => Br b (g ρ s' Φ) (Φ (.bl false) s')
  | _ => False
def fOrV {A : Amb} (f g : FE A) : FE A := fun ρ s Φ => f ρ s fun d s' => match d with
  | .bl b => Br b (Φ (.bl true) s') (g ρ s' Φ)
  | _ => False
def fNotV {A : Amb} (f : FE A) : FE A := fun ρ s Φ => f ρ s fun d s' => match d with
  | .bl b => Φ (.bl (!b)) s'
  | _ => False
def fIf {A : Amb} (c : FT A) (f g : FE A) : FE A := fun ρ s Φ => c ρ s fun b s' => Br b (f ρ s' Φ) (g ρ s' Φ)
section
variable {A : Amb} {m sh m1 sh1 m2 sh2 m3 sh3 : Bool} {t ta tb tc : TE} {f fa fb fc : FE A} {u w : TT} {g k : FT A} {K : Fg}
theorem sd_test (h : SdE A m1 sh1 t f) : SdT A (tTest t) (fTest f) := fun W s0 H0 s σ H ρ Φ Q R hp q =>
  h W s0 H0 s σ H ρ _ _ R hp fun d s' v H' hd R' st r => by
    cases d with
    | bl b => obtain rfl := r.bl; exact ⟨b, rfl, q b s' H' hd R' st⟩
    | _ => exact hd.elim
theorem sd_testB (h : SdE A m1 sh1 t f) : SdT A (tB t) (fTest f) := sd_test h
theorem sd_tru (h : SdE A m1 sh1 t f) : SdT A (fun σ H Q => t σ H fun x H' => ∃ k, TruV K x H' k ∧ Q k H') (fTru f) := fun W s0 H0 s σ H ρ Φ Q R hp q =>
  h W s0 H0 s σ H ρ _ _ R hp fun d s' v H' hd R' st r => by
    cases d with
    | bl b => obtain rfl := r.bl; exact ⟨_, rfl, q _ s' H' hd R' st⟩
    | non => obtain rfl := r.non; exact ⟨_, rfl, q _ s' H' hd R' st⟩
    | int i => obtain rfl := r.int; exact ⟨_, rfl, q _ s' H' hd R' st⟩
    | str x => obtain rfl := r.str; exact ⟨_, ⟨by rw [line_eq]; exact hd.1, rfl⟩, q _ s' H' hd.2 R' st⟩
    | lst l =>
      obtain ⟨a, xs, rfl, h1, h2, _⟩ := r.lst
      refine ⟨!xs.isEmpty, .inl ⟨xs, .of h1, rfl⟩, ?_⟩
      have e : xs.isEmpty = l.isEmpty := by
        have := h2.length
        cases xs <;> cases l <;> first | rfl | (simp at this)
      rw [e]
      exact q _ s' H' hd R' st
    | tup l =>
      obtain ⟨a, xs, rfl, h1, h2⟩ := r.tup
      refine ⟨!xs.isEmpty, .inr (.inl ⟨xs, .of h1, rfl⟩), ?_⟩
      have e : xs.isEmpty = l.isEmpty := by
        have := h2.length
        cases xs <;> cases l <;> first | rfl | (simp at this)
      rw [e]
      exact q _ s' H' hd R' st
    | dct ks vs =>
      have r2 := r.low
      cases r2 with
      | dct h1 n k r3 =>
        rename_i a kvs
        refine ⟨!kvs.isEmpty, .inr (.inr ⟨kvs, h1, rfl⟩), ?_⟩
        have e : kvs.isEmpty = ks.isEmpty := by
          rw [← k]
          cases kvs <;> rfl
        rw [e]
        exact q _ s' H' hd R' st
    | any => exact hd.elim
theorem sd_notT (h : SdT A u g) : SdT A (tNot u) (fNotT g) := fun W s0 H0 s σ H ρ Φ Q R hp q => h W s0 H0 s σ H ρ _ _ R hp fun b s' H' hd R' st => q (!b) s' H' hd R' st
theorem sd_andT (h : SdT A u g) (h2 : SdT A w k) : SdT A (tAnd u w) (fAndT g k) := fun W s0 H0 s σ H ρ Φ Q R hp q => h W s0 H0 s σ H ρ _ _ R hp fun b s' H' hd R' st => by
  have hd := Br.ite hd
  cases b with
  | true =>
    rw [if_pos rfl] at hd ⊢
    exact h2 W s0 H0 s' σ H' ρ Φ Q R' hd fun b s2 H2 h3 R2 st2 => q b s2 H2 h3 R2 (st.trans st2)
  | false =>
    rw [if_neg (by decide)] at hd ⊢
    exact q false s' H' hd R' st
theorem sd_orT (h : SdT A u g) (h2 : SdT A w k) : SdT A (tOr u w) (fOrT g k) := fun W s0 H0 s σ H ρ Φ Q R hp q => h W s0 H0 s σ H ρ _ _ R hp fun b s' H' hd R' st => by
  have hd := Br.ite hd
  cases b with
  | true =>
    rw [if_pos rfl] at hd ⊢
    exact q true s' H' hd R' st
  | false =>
    rw [if_neg (by decide)] at hd ⊢
    exact h2 W s0 H0 s' σ H' ρ Φ Q R' hd fun b s2 H2 h3 R2 st2 => q b s2 H2 h3 R2 (st.trans st2)
theorem sd_andV (h : SdE A m1 sh1 ta fa) (h2 : SdE A m sh tb fb) : SdE A m sh (tAndV ta tb) (fAndV fa fb) := fun W s0 H0 s σ H ρ Φ Q R hp q => h W s0 H0 s σ H ρ _ _ R hp fun d s' v H' hd R' st r => by
  cases d with
  | bl b =>
    obtain rfl := r.bl
    refine ⟨b, rfl, ?_⟩
    have hd := Br.ite hd
    cases b with
    | true =>
      have hd' : fb ρ s' Φ := by simpa using hd
      rw [if_pos rfl]
      exact h2 W s0 H0 s' σ H' ρ Φ Q R' hd' fun d s2 v2 H2 h3 R2 st2 r2 => q d s2 v2 H2 h3 R2 (st.trans st2) r2
    | false =>
      have hd' : Φ (.bl false) s' := by simpa using hd
      rw [if_neg (by decide)]
      exact q _ s' _ H' hd' R' st (.inl (.bl _))
  | _ => exact hd.elim
theorem sd_orV (h : SdE A m1 sh1 ta fa) (h2 : SdE A m sh tb fb) : SdE A m sh (tOrV ta tb) (fOrV fa fb) := fun W s0 H0 s σ H ρ Φ Q R hp q => h W s0 H0 s σ H ρ _ _ R hp fun d s' v H' hd R' st r => by
  cases d with
  | bl b =>
    obtain rfl := r.bl
    refine ⟨b, rfl, ?_⟩
    have hd := Br.ite hd
    cases b with
    | false =>
      have hd' : fb ρ s' Φ := by simpa using hd
      rw [if_neg (by decide)]
      exact h2 W s0 H0 s' σ H' ρ Φ Q R' hd' fun d s2 v2 H2 h3 R2 st2 r2 => q d s2 v2 H2 h3 R2 (st.trans st2) r2
    | true =>
      have hd' : Φ (.bl true) s' := by simpa using hd
      rw [if_pos rfl]
      exact q _ s' _ H' hd' R' st (.inl (.bl _))
  | _ => exact hd.elim
theorem sd_notV (h : SdE A m1 sh1 ta fa) : SdE A m sh (tNotV ta) (fNotV fa) := fun W s0 H0 s σ H ρ Φ Q R hp q => h W s0 H0 s σ H ρ _ _ R hp fun d s' v H' hd R' st r => by
  cases d with
  | bl b =>
    obtain rfl := r.bl
    exact ⟨b, rfl, q _ s' _ H' hd R' st (.inl (.bl _))⟩
  | _ => exact hd.elim
theorem sd_if (h : SdT A u g) (ha : SdE A m sh ta fa) (hb : SdE A m sh tb fb) : SdE A m sh (tIf u ta tb) (fIf g fa fb) := fun W s0 H0 s σ H ρ Φ Q R hp q => h W s0 H0 s σ H ρ _ _ R hp fun b s' H' hd R' st => by
  have hd := Br.ite hd
  cases b with
  | true =>
    rw [if_pos rfl] at hd ⊢
    exact ha W s0 H0 s' σ H' ρ Φ Q R' hd fun d s2 v2 H2 h3 R2 st2 r2 => q d s2 v2 H2 h3 R2 (st.trans st2) r2
  | false =>
    rw [if_neg (by decide)] at hd ⊢
    exact hb W s0 H0 s' σ H' ρ Φ Q R' hd fun d s2 v2 H2 h3 R2 st2 r2 => q d s2 v2 H2 h3 R2 (st.trans st2) r2
end
/-! a op b op c -/
def fChain {A : Amb} (op op' : D → D → (D → Prop) → Prop) (fa fb fc : FE A) : FE A := fun ρ s Φ => fa ρ s fun x s1 => fb ρ s1 fun y s2 => op x y fun z => match z with
  | .bl k => Br k (fc ρ s2 fun w s3 => op' y w fun d => Φ d s3) (Φ (.bl false) s2)
  | _ => False
section
variable {A : Amb} {m sh m1 sh1 m2 sh2 m3 sh3 : Bool} {ta tb tc : TE} {fa fb fc : FE A} {r r' : R2} {op op' : D → D → (D → Prop) → Prop}
theorem sd_chain (hr : SdR A m m1 sh1 m2 sh2 r op) (hr' : SdR A m m2 sh2 m3 sh3 r' op') (ha : SdE A m1 sh1 ta fa) (hb : SdE A m2 sh2 tb fb) (hc : SdE A m3 sh3 tc fc) : SdE A m sh (tChain r r' ta tb tc) (fChain op op' fa fb fc) :=
  fun W s0 H0 s σ H ρ Φ Q R h q => ha W s0 H0 s σ H ρ _ _ R h fun x s1 v H1 h1 R1 st1 r1 => hb W s0 H0 s1 σ H1 ρ _ _ R1 h1 fun y s2 w H2 h2 R2 st2 r2 =>
    hr W s0 H0 s2 σ H2 ρ x y v w _ _ R2 (r1.stp st2) r2 h2 fun d u H3 hd R3 st3 r3 => by
      cases d with
      | bl k =>
        obtain rfl := r3.bl
        refine ⟨k, rfl, ?_⟩
        have hd := Br.ite hd
        cases k with
        | true =>
          rw [if_pos rfl]
          have hd' : fc ρ s2 fun w s3 => op' y w fun d => Φ d s3 := by simpa using hd
          exact hc W s0 H0 s2 σ H3 ρ _ _ R3 hd' fun z s4 w4 H4 h4 R4 st4 r4 =>
            hr' W s0 H0 s4 σ H4 ρ y z w w4 _ Q R4 ((r2.stp st3).stp st4) r4 h4 fun d5 u5 H5 hd5 R5 st5 r5 => q d5 s4 u5 H5 hd5 R5 ((((st1.trans st2).trans st3).trans st4).trans st5) r5.up
        | false =>
          rw [if_neg (by decide)]
          have hd' : Φ (.bl false) s2 := by simpa using hd
          exact q _ s2 _ H3 hd' R3 ((st1.trans st2).trans st3) (.inl (.bl _))
      | _ => exact hd.elim
end
/-! ### one-place operations -/
def fUn {A : Amb} (op : D → (D → Prop) → Prop) (fa : FE A) : FE A := fun ρ s Φ => fa ρ s fun x s1 => op x fun d => Φ d s1
def dNeg (x : D) (Φ : D → Prop) : Prop := match x with
  | .int i => Φ (.int (-i))
  | _ => False
section
variable {A : Amb} {m sh m1 sh1 : Bool} {ta : TE} {fa : FE A}
theorem sd_neg (ha : SdE A m1 sh1 ta fa) : SdE A m sh (tUn (rU fun i => .int (-i)) ta) (fUn dNeg fa) := fun W s0 H0 s σ H ρ Φ Q R h q => ha W s0 H0 s σ H ρ _ _ R h fun x s1 v H1 h1 R1 st1 r1 => by
  cases x with
  | int i => obtain rfl := r1.int; exact ⟨i, rfl, q _ s1 _ H1 h1 R1 st1 (.inl (.int _))⟩
  | _ => exact h1.elim
end
/-! ### argument lists, displays -/
inductive RVs (A : Amb) (W : Ot) (s : A.S) (σ : Sg) (ρ : List Sl) (H : Hp) (m sh : Bool) : List D → List V → Prop
  | nil : RVs A W s σ ρ H m sh [] []
  | cons {d : D} {v : V} {l : List D} {xs : List V} : RV A W s σ ρ H m sh d v → RVs A W s σ ρ H m sh l xs → RVs A W s σ ρ H m sh (d :: l) (v :: xs)
section
variable {A : Amb} {W : Ot} {s0 s s' : A.S} {H0 H H' : Hp} {σ : Sg} {ρ : List Sl} {m sh : Bool}
theorem RVs.stp (h : Stp A s s' H H') : ∀ {l : List D} {xs : List V}, RVs A W s σ ρ H m sh l xs → RVs A W s' σ ρ H' m sh l xs
  | _, _, .nil => .nil
  | _, _, .cons a b => .cons (a.stp h) (RVs.stp h b)
theorem RVs.rs : ∀ {l : List D} {xs : List V}, RVs A W s σ ρ H m false l xs → RsL (om m A W s σ ρ) H l xs
  | _, _, .nil => .nil
  | _, _, .cons a b => .cons a.rs (RVs.rs b)
theorem RVs.length : ∀ {l : List D} {xs : List V}, RVs A W s σ ρ H m sh l xs → xs.length = l.length
  | _, _, .nil => rfl
  | _, _, .cons a b => by rw [List.length_cons, List.length_cons, RVs.length b]
end
def SdL (A : Amb) (m sh : Bool) (n : Nat) (t : TA) (f : FA A) : Prop := ∀ W s0 H0 s σ H ρ Φ Q, ER A W s0 H0 s σ H ρ → f ρ s Φ →
  (∀ ds s' vs H', Φ ds s' → ER A W s0 H0 s' σ H' ρ → Stp A s s' H H' → RVs A W s' σ ρ H' m sh ds vs → ds.length = n → Q vs H') → t σ H Q
def fNil {A : Amb} : FA A := fun _ s Φ => Φ [] s
def fCons {A : Amb} (fa : FE A) (fr : FA A) : FA A := fun ρ s Φ => fa ρ s fun d s1 => fr ρ s1 fun ds s2 => Φ (d :: ds) s2
def fTup {A : Amb} (f : FA A) : FE A := fun ρ s Φ => f ρ s fun ds s1 => Φ (.tup ds) s1
def fLst {A : Amb} (f : FA A) : FE A := fun ρ s Φ => f ρ s fun ds s1 => Φ (.lst ds) s1
def fLstO {A : Amb} (f : FA A) : FO A := fun ρ s Φ => f ρ s fun ds s1 => Φ (.lst ds) s1
section
variable {A : Amb} {m sh : Bool} {n : Nat} {ta : TE} {fa : FE A} {tr : TA} {fr : FA A}
theorem sd_nil : SdL A m sh 0 tNil fNil := fun W s0 H0 s σ H ρ Φ Q R h q => q [] s [] H h R Stp.refl .nil rfl
theorem sd_cons (ha : SdE A m sh ta fa) (hr : SdL A m sh n tr fr) : SdL A m sh (n + 1) (tCons ta tr) (fCons fa fr) := fun W s0 H0 s σ H ρ Φ Q R h q =>
  ha W s0 H0 s σ H ρ _ _ R h fun x s1 v H1 h1 R1 st1 r1 => hr W s0 H0 s1 σ H1 ρ _ _ R1 h1 fun ds s2 vs H2 h2 R2 st2 r2 hn =>
    q _ s2 _ H2 h2 R2 (st1.trans st2) (.cons (r1.stp st2) r2) (by rw [List.length_cons, hn])
theorem sd_tup (h : SdL A m false n tr fr) (hn : n ≤ 1000) : SdE A m sh (tTup tr) (fTup fr) := fun W s0 H0 s σ H ρ Φ Q R hp q =>
  h W s0 H0 s σ H ρ _ _ R hp fun ds s1 vs H1 h1 R1 st1 r1 e => ⟨by rw [r1.length, e, line_eq]; omega, fun p hp => q _ s1 _ _ h1 (R1.alloc hp _) (st1.trans (Stp.fresh hp)) (RV.newT R1 hp r1.rs)⟩
theorem sd_lst (h : SdL A m false n tr fr) (hn : n ≤ 1000) : SdE A m sh (tLst tr) (fLst fr) := fun W s0 H0 s σ H ρ Φ Q R hp q =>
  h W s0 H0 s σ H ρ _ _ R hp fun ds s1 vs H1 h1 R1 st1 r1 e => ⟨by rw [r1.length, e, line_eq]; omega, fun p hp => q _ s1 _ _ h1 (R1.alloc hp _) (st1.trans (Stp.fresh hp)) (RV.newL R1 hp r1.rs)⟩
/-! things of one's own -/
theorem om_wide {W : Ot} {s : A.S} {σ : Sg} {ρ : List Sl} {p : Addr} : ∀ a, om m A (W.add p) s σ ρ a → om m A W s σ ρ a ∨ a = p := fun a z => by
  rcases z with (z | z) | z | z
  · exact .inl (.inl z)
  · exact .inr z
  · exact .inl (.inr (.inl z))
  · exact .inl (.inr (.inr z))
theorem om_wide' {W : Ot} {s : A.S} {σ : Sg} {ρ : List Sl} {p : Addr} : ∀ a, om m A W s σ ρ a → om m A (W.add p) s σ ρ a := fun a z => by
  rcases z with z | z | z
  · exact .inl (.inl z)
  · exact .inr (.inl z)
  · exact .inr (.inr z)
theorem RsL.wide {W : Ot} {s : A.S} {σ : Sg} {ρ : List Sl} {H : Hp} {p : Addr} (hp : H p = none) (o : HO) {l : List D} {xs : List V} (r : RsL (om m A W s σ ρ) H l xs) : RsL (om m A (W.add p) s σ ρ) (upd H p o) l xs :=
  r.go (fun a z => (om_wide a z).imp id fun e => by subst e; exact hp) fun a u e _ => by rw [upd_ne (ne_of_none e hp)]; exact e
theorem ER.wide {W : Ot} {s0 s : A.S} {H0 H : Hp} {σ : Sg} {ρ : List Sl} (R : ER A W s0 H0 s σ H ρ) {p : Addr} (hp : H p = none) (o : HO) : ER A (W.add p) s0 H0 s σ (upd H p o) ρ where
  amb := (R.alloc hp o).amb
  stp := (R.alloc hp o).stp
  wd := fun a w => by
    rcases w with w | rfl
    · exact (R.alloc hp o).wd a w
    · rw [upd_same]; simp
  len := R.len
  vals := fun i d e => by
    obtain ⟨v, h1, h2⟩ := R.vals i d e
    exact ⟨v, h1, h2.go (fun a z => (om_wide a z).imp id fun e => by subst e; exact hp) fun a u e _ => by rw [upd_ne (ne_of_none e hp)]; exact e⟩
  own := fun i m e => by
    obtain ⟨a, h1, h2, h3, h4, h5⟩ := R.own i m e
    have ne : a ≠ p := fun z => by subst z; exact h2.some hp
    exact ⟨a, h1, h2.go (fun a z => (om_wide a z).imp id fun e => by subst e; exact hp) (fun a u e _ => by rw [upd_ne (ne_of_none e hp)]; exact e) (upd_ne ne), h3, fun z => z.elim h4 ne, h5⟩
  gh := fun p hp' => (R.gh p hp').go (fun a z => (om_wide a z).imp id fun e => by subst e; exact hp) fun a u e _ => by rw [upd_ne (ne_of_none e hp)]; exact e
  uniq := R.uniq
/-- p is no thing of others any more -/
theorem ER.narrow {W : Ot} {s0 s : A.S} {H0 H : Hp} {σ : Sg} {ρ : List Sl} {p : Addr} (R : ER A (W.add p) s0 H0 s σ H ρ) : ER A W s0 H0 s σ H ρ where
  amb := R.amb
  stp := R.stp
  wd := fun a w => R.wd a (.inl w)
  len := R.len
  vals := fun i d e => let ⟨v, h1, h2⟩ := R.vals i d e; ⟨v, h1, h2.weak om_wide'⟩
  own := fun i m e => let ⟨a, h1, h2, h3, h4, h5⟩ := R.own i m e; ⟨a, h1, h2.go (fun a z => .inl (om_wide' a z)) Agr.refl rfl, h3, fun z => h4 (.inl z), h5⟩
  gh := fun p hp => (R.gh p hp).weak om_wide'
  uniq := R.uniq
theorem sd_lstO (h : SdL A true false n tr fr) (hn : n ≤ 1000) : SdO A (tLst tr) (fLstO fr) := fun W s0 H0 s σ H ρ Φ Q R hp q =>
  h W s0 H0 s σ H ρ _ _ R hp fun ds s1 vs H1 h1 R1 st1 r1 e => ⟨by rw [r1.length, e, line_eq]; omega, fun p hp => by
    refine q _ s1 p _ h1 (R1.wide hp _) (st1.trans (Stp.fresh hp)) ?_ ⟨vs, upd_same, RsL.wide hp _ r1.rs⟩ (fun z => R1.wd p z hp) (fun z => A.dom R1.amb z hp)
    cases e : H p with
    | none => rfl
    | some o => exact (st1.dom p (by rw [e]; simp) hp).elim⟩
/-- a new thing as a value -/
def fOV {A : Amb} (f : FO A) : FE A := fun ρ s Φ => f ρ s fun mo s1 => match mo with
  | .lst l => Φ (.lst l) s1
  | .dk ks vs => Φ (.dct ks vs) s1
  | .dt _ _ => False
theorem sd_ov {t : TE} {f : FO A} (h : SdO A t f) : SdE A m sh t (fOV f) := fun W s0 H0 s σ H ρ Φ Q R hp q => h W s0 H0 s σ H ρ _ _ R hp fun mo s1 p H1 h1 R1 st1 hn hm hw hb => by
  have np : ¬ om m A W s1 σ ρ p := fun z => by
    rcases z with z | z | ⟨_, i, mo, e1, e2⟩
    · exact hw z
    · exact hb z
    · obtain ⟨a, k1, k2, k3, k4, k5⟩ := R1.own i mo e1
      rw [k1] at e2
      cases e2
      exact k4 (.inr rfl)
  have wk : ∀ a, om m A W s1 σ ρ a → om true A (W.add p) s1 σ ρ a := fun a z => om_wide' a (ER.weakT a z)
  cases mo with
  | lst l =>
    obtain ⟨xs, k1, k2⟩ := hm
    exact q _ s1 _ H1 h1 R1.narrow st1 (.inl (.lst k1 np (k2.weak wk)))
  | dk ks vs =>
    obtain ⟨kvs, k1, k2, k3⟩ := hm
    exact q _ s1 _ H1 h1 R1.narrow st1 (.inl (.dct k1 np k2 (k3.weak wk)))
  | dt ks vs => exact h1.elim
def fNewK {A : Amb} : FO A := fun _ s Φ => Φ (.dk [] []) s
def fNewT {A : Amb} : FO A := fun _ s Φ => Φ (.dt [] []) s
theorem sd_newK : SdO A tDNewK fNewK := fun W s0 H0 s σ H ρ Φ Q R hp q p hn => q _ s p _ hp (R.wide hn _) (Stp.fresh hn) hn ⟨[], upd_same, rfl, .nil⟩ (fun z => R.wd p z hn) (fun z => A.dom R.amb z hn)
theorem sd_newT : SdO A tDNewT fNewT := fun W s0 H0 s σ H ρ Φ Q R hp q p hn => q _ s p _ hp (R.wide hn _) (Stp.fresh hn) hn ⟨[], upd_same, rfl, .nil⟩ (fun z => R.wd p z hn) (fun z => A.dom R.amb z hn)
end
/-! ### slices -/
abbrev FP (A : Amb) := List Sl → A.S → (Option Int → A.S → Prop) → Prop
def SdP (A : Amb) (t : TO) (f : FP A) : Prop := ∀ W s0 H0 s σ H ρ Φ Q, ER A W s0 H0 s σ H ρ → f ρ s Φ →
  (∀ o s' H', Φ o s' → ER A W s0 H0 s' σ H' ρ → Stp A s s' H H' → Q o H') → t σ H Q
def fPn {A : Amb} : FP A := fun _ s Φ => Φ none s
def fPs {A : Amb} (f : FE A) : FP A := fun ρ s Φ => f ρ s fun d s1 => match d with
  | .int i => Φ (some i) s1
  | _ => False
def cutL {α : Type} (xs : List α) (lo hi : Option Int) : List α := (xs.drop (HT.sIx xs.length 0 lo)).take (HT.sIx xs.length xs.length hi - HT.sIx xs.length 0 lo)
def rSlX (K : Fg) : V → Option Int → Option Int → Hp → VK → Prop := fun x lo hi H Q => rSlL K x lo hi H Q ∨ rSlA K x lo hi H Q
theorem sl_x {X : Cx} : SlR X (rSlX X.K) := SlR.or sl_list sl_tupA
def dSl (x : D) (lo hi : Option Int) (Φ : D → Prop) : Prop := match x with
  | .lst l => Φ (.lst (cutL l lo hi))
  | .tup l => Φ (.tup (cutL l lo hi))
  | _ => False
def fSl {A : Amb} (f : FE A) (lo hi : FP A) : FE A := fun ρ s Φ => f ρ s fun x s1 => lo ρ s1 fun l s2 => hi ρ s2 fun u s3 => dSl x l u fun d => Φ d s3
theorem RsL.cut {B : Ad} {H : Hp} {l : List D} {xs : List V} {lo hi : Option Int} (r : RsL B H l xs) : RsL B H (cutL l lo hi) (cutV xs lo hi) := by
  unfold cutL cutV
  rw [r.length]
  exact (r.drop _).take _
theorem cut_whole {α : Type} {l : List α} {lo hi : Option Int} (h : HT.sIx l.length 0 lo = 0 ∧ HT.sIx l.length l.length hi = l.length) : cutL l lo hi = l := by
  unfold cutL
  rw [h.1, h.2, List.drop_zero, Nat.sub_zero, List.take_length]
section
variable {A : Amb} {m sh m1 sh1 : Bool} {te : TE} {fe : FE A} {tl th : TO} {fl fh : FP A} {K : Fg}
theorem sd_pn : SdP A tNoPart fPn := fun W s0 H0 s σ H ρ Φ Q R hp q => q none s H hp R Stp.refl
theorem sd_ps (h : SdE A m1 sh1 te fe) : SdP A (tPart te) (fPs fe) := fun W s0 H0 s σ H ρ Φ Q R hp q => h W s0 H0 s σ H ρ _ _ R hp fun d s1 v H1 h1 R1 st1 r1 => by
  cases d with
  | int i => obtain rfl := r1.int; exact ⟨i, rfl, q _ s1 H1 h1 R1 st1⟩
  | _ => exact h1.elim
theorem sd_sl (h : SdE A m sh1 te fe) (hl : SdP A tl fl) (hh : SdP A th fh) : SdE A m sh (tSl (rSlX K) te tl th) (fSl fe fl fh) := fun W s0 H0 s σ H ρ Φ Q R hp q =>
  h W s0 H0 s σ H ρ _ _ R hp fun d s1 v H1 h1 R1 st1 r1 => hl W s0 H0 s1 σ H1 ρ _ _ R1 h1 fun l s2 H2 h2 R2 st2 => hh W s0 H0 s2 σ H2 ρ _ _ R2 h2 fun u s3 H3 h3 R3 st3 => by
    have r3 := (r1.stp st2).stp st3
    have st := (st1.trans st2).trans st3
    cases d with
    | lst xs =>
      obtain ⟨a, vs, rfl, k1, k2, _⟩ := r3.lst
      exact .inl ⟨a, vs, rfl, .of k1, fun p hp => q _ s3 _ _ h3 (R3.alloc hp _) (st.trans (Stp.fresh hp)) (RV.newL R3 hp k2.cut)⟩
    | tup xs =>
      obtain ⟨a, vs, rfl, k1, k2⟩ := r3.tup
      refine .inr ⟨a, vs, rfl, .of k1, fun e => ?_, fun _ p hp => q _ s3 _ _ h3 (R3.alloc hp _) (st.trans (Stp.fresh hp)) (RV.newT R3 hp k2.cut)⟩
      rw [k2.length] at e
      have h4 : Φ (.tup (cutL xs l u)) s3 := h3
      rw [cut_whole e] at h4
      exact q _ s3 _ H3 h4 R3 st (.inl r3.rsT)
    | _ => exact h3.elim
end
end Pd

set_option maxHeartbeats 4000000
namespace Pd
open PySem PySem.Spec PyProof.Rows L2
/-! ### slots stored -/
section
variable {A : Amb} {W : Ot} {s0 s : A.S} {H0 H : Hp} {σ : Sg} {ρ : List Sl}
theorem set_at {α : Type} {l : List α} {i j : Nat} {x y : α} (h : (l.set i x)[j]? = some y) : (j = i ∧ y = x) ∨ (j ≠ i ∧ l[j]? = some y) := by
  by_cases e : i = j
  · subst e
    by_cases hl : i < l.length
    · rw [List.getElem?_set_self hl] at h
      exact .inl ⟨rfl, (Option.some.inj h).symm⟩
    · rw [List.getElem?_eq_none (by simpa using hl)] at h
      cases h
  · rw [List.getElem?_set_ne e] at h
    exact .inr ⟨fun z => e z.symm, h⟩
theorem set_lt {α : Type} {l : List α} {i : Nat} {x y : α} (h : (l.set i x)[i]? = some y) : i < l.length := by
  by_cases hl : i < l.length
  · exact hl
  · rw [List.getElem?_eq_none (by simpa using hl)] at h
    cases h
/-- a slot that holds no thing of its own any more -/
theorem om_setN {i : Nat} {x : Option V} {sl : Sl} (hs : ∀ m, sl ≠ .o m) : ∀ a, om true A W s (σ.set i x) (ρ.set i sl) a → om true A W s σ ρ a := fun a z => by
  rcases z with z | z | ⟨_, j, m, e1, e2⟩
  · exact .inl z
  · exact .inr (.inl z)
  · rcases set_at e1 with ⟨rfl, e⟩ | ⟨ne, e⟩
    · exact (hs m e.symm).elim
    · rw [List.getElem?_set_ne (fun z => ne z.symm)] at e2
      exact .inr (.inr ⟨rfl, j, m, e, e2⟩)
theorem ER.setN (R : ER A W s0 H0 s σ H ρ) (i : Nat) {x : Option V} {sl : Sl} (hs : ∀ m, sl ≠ .o m) (hv : ∀ d, sl = .v d → ∃ v, x = some v ∧ Rs (om true A W s σ ρ) H d v) : ER A W s0 H0 s (σ.set i x) H (ρ.set i sl) where
  amb := R.amb
  stp := R.stp
  wd := R.wd
  len := by rw [List.length_set, List.length_set, R.len]
  vals := fun j d e => by
    have hj := set_at e
    rcases hj with ⟨rfl, q⟩ | ⟨ne, q⟩
    · obtain ⟨v, hx, hr⟩ := hv d q.symm
      refine ⟨v, ?_, hr.weak (om_setN hs)⟩
      rw [List.getElem?_set_self (by rw [R.len]; exact set_lt e), hx]
    · obtain ⟨v, h1, h2⟩ := R.vals j d q
      exact ⟨v, by rw [List.getElem?_set_ne (fun z => ne z.symm)]; exact h1, h2.weak (om_setN hs)⟩
  own := fun j m e => by
    rcases set_at e with ⟨rfl, q⟩ | ⟨ne, q⟩
    · exact (hs m q.symm).elim
    · obtain ⟨a, h1, h2, h3⟩ := R.own j m q
      exact ⟨a, by rw [List.getElem?_set_ne (fun z => ne z.symm)]; exact h1, h2.go (fun a z => .inl (om_setN hs a z)) Agr.refl rfl, h3⟩
  gh := fun p hp => (R.gh p hp).weak (om_setN hs)
  uniq := fun j k m m' e1 e2 e3 => by
    rcases set_at e1 with ⟨rfl, q⟩ | ⟨ne, q⟩
    · exact (hs m q.symm).elim
    · rcases set_at e2 with ⟨rfl, q'⟩ | ⟨ne', q'⟩
      · exact (hs m' q'.symm).elim
      · rw [List.getElem?_set_ne (fun z => ne z.symm), List.getElem?_set_ne (fun z => ne' z.symm)] at e3
        exact R.uniq j k m m' q q' e3
theorem ER.setV (R : ER A W s0 H0 s σ H ρ) (i : Nat) {d : D} {v : V} (r : Rs (om true A W s σ ρ) H d v) : ER A W s0 H0 s (σ.set i (some v)) H (ρ.set i (.v d)) :=
  R.setN i (fun m z => nomatch z) fun d' e => by cases e; exact ⟨v, rfl, r⟩
/-- what a slot holds is forgotten; the frame's own object too -/
theorem ER.drop (R : ER A W s0 H0 s σ H ρ) (i : Nat) : ER A W s0 H0 s σ H (ρ.set i .e) := by
  by_cases hi : i < σ.length
  · have R2 := R.setN i (x := σ[i]) (sl := .e) (fun m z => nomatch z) (fun d z => nomatch z)
    rw [List.set_getElem_self] at R2
    exact R2
  · rw [List.set_eq_of_length_le (by rw [← R.len]; omega)]
    exact R
theorem om_setO {i : Nat} {p : Addr} {m : Mo} : ∀ a, om true A W s (σ.set i (some (.ref p))) (ρ.set i (.o m)) a → om true A (W.add p) s σ ρ a := fun a z => by
  rcases z with z | z | ⟨_, j, m, e1, e2⟩
  · exact .inl (.inl z)
  · exact .inr (.inl z)
  · rcases set_at e1 with ⟨rfl, e⟩ | ⟨ne, e⟩
    · rcases set_at e2 with ⟨_, e⟩ | ⟨ne, _⟩
      · cases e
        exact .inl (.inr rfl)
      · exact (ne rfl).elim
    · rw [List.getElem?_set_ne (fun z => ne z.symm)] at e2
      exact .inr (.inr ⟨rfl, j, m, e, e2⟩)
theorem ER.setO {p : Addr} {m : Mo} (R : ER A (W.add p) s0 H0 s σ H ρ) (i : Nat) (h0 : H0 p = none) (hm : MoAt (om true A (W.add p) s σ ρ) H p m) (hw : ¬ W.w p) (hb : ¬ A.B s p) : ER A W s0 H0 s (σ.set i (some (.ref p))) H (ρ.set i (.o m)) where
  amb := R.amb
  stp := R.stp
  wd := fun a w => R.wd a (.inl w)
  len := by rw [List.length_set, List.length_set, R.len]
  vals := fun j d e => by
    rcases set_at e with ⟨rfl, q⟩ | ⟨ne, q⟩
    · cases q
    · obtain ⟨v, h1, h2⟩ := R.vals j d q
      exact ⟨v, by rw [List.getElem?_set_ne (fun z => ne z.symm)]; exact h1, h2.weak om_setO⟩
  own := fun j m' e => by
    have hj := set_at e
    rcases hj with ⟨rfl, q⟩ | ⟨ne, q⟩
    · cases q
      exact ⟨p, by rw [List.getElem?_set_self (by rw [R.len]; exact set_lt e)], hm.go (fun a z => .inl (om_setO a z)) Agr.refl rfl, h0, hw, hb⟩
    · obtain ⟨a, h1, h2, h3, h4, h5⟩ := R.own j m' q
      exact ⟨a, by rw [List.getElem?_set_ne (fun z => ne z.symm)]; exact h1, h2.go (fun a z => .inl (om_setO a z)) Agr.refl rfl, h3, fun z => h4 (.inl z), h5⟩
  gh := fun q hq => (R.gh q hq).weak om_setO
  uniq := fun j k m m' e1 e2 e3 => by
    have hj := set_at e1
    have hk := set_at e2
    have own_ne : ∀ {l : Nat} {m'' : Mo}, ρ[l]? = some (.o m'') → σ[l]? ≠ some (some (.ref p)) := fun {l m''} q z => by
      obtain ⟨a, h1, _, _, h4, _⟩ := R.own l m'' q
      rw [h1] at z
      cases z
      exact h4 (.inr rfl)
    rcases hj with ⟨rfl, q⟩ | ⟨ne, q⟩
    · rcases hk with ⟨rfl, q'⟩ | ⟨ne', q'⟩
      · rfl
      · rw [List.getElem?_set_self (by rw [R.len]; exact set_lt e1), List.getElem?_set_ne (fun z => ne' z.symm)] at e3
        exact (own_ne q' e3.symm).elim
    · rcases hk with ⟨rfl, q'⟩ | ⟨ne', q'⟩
      · rw [List.getElem?_set_self (by rw [R.len]; exact set_lt e2), List.getElem?_set_ne (fun z => ne z.symm)] at e3
        exact (own_ne q e3).elim
      · rw [List.getElem?_set_ne (fun z => ne z.symm), List.getElem?_set_ne (fun z => ne' z.symm)] at e3
        exact R.uniq j k m m' q q' e3
/-- the frame's own thing is written -/
theorem om_mut {i : Nat} {m m' : Mo} (h : ρ[i]? = some (.o m)) : ∀ a, om true A W s σ (ρ.set i (.o m')) a → om true A W s σ ρ a := fun a z => by
  rcases z with z | z | ⟨_, j, m2, e1, e2⟩
  · exact .inl z
  · exact .inr (.inl z)
  · rcases set_at e1 with ⟨rfl, e⟩ | ⟨ne, e⟩
    · exact .inr (.inr ⟨rfl, j, m, h, e2⟩)
    · exact .inr (.inr ⟨rfl, j, m2, e, e2⟩)
theorem ER.mut (R : ER A W s0 H0 s σ H ρ) {i : Nat} {a : Addr} {m m' : Mo} {o : HO} (hi : ρ[i]? = some (.o m)) (ha : σ[i]? = some (some (.ref a))) (hm : MoAt (om true A W s σ ρ) (upd H a o) a m') : ER A W s0 H0 s σ (upd H a o) (ρ.set i (.o m')) := by
  obtain ⟨a', h1, h2, h3, h4, h5⟩ := R.own i m hi
  rw [ha] at h1
  cases h1
  have ag : Agr (om true A W s σ ρ) H (upd H a o) := fun b u e n => by
    rw [upd_ne fun z => ?_]
    · exact e
    · subst z
      exact n (.inr (.inr ⟨rfl, i, m, hi, ha⟩))
  have hB : ∀ b, om true A W s σ (ρ.set i (.o m')) b → om true A W s σ ρ b ∨ H b = none := fun b z => .inl (om_mut hi b z)
  have hl : i < ρ.length := (List.getElem?_eq_some_iff.mp hi).1
  refine ⟨A.loc R.amb fun b z => upd_ne fun e => by subst e; exact h5 z, ⟨fun b u e n => ?_, fun b z => R.stp.new b z, fun b z => ?_⟩, fun b w => ?_, by rw [List.length_set, R.len], fun j d e => ?_, fun j mj e => ?_, fun p hp => (R.gh p hp).go hB ag, fun j k mj mk e1 e2 e3 => ?_⟩
  · rw [upd_ne (ne_of_none e h3)]
    exact R.stp.agr b u e n
  · by_cases q : b = a
    · subst q; rw [upd_same]; simp
    · rw [upd_ne q]; exact R.stp.dom b z
  · by_cases q : b = a
    · subst q; rw [upd_same]; simp
    · rw [upd_ne q]; exact R.wd b w
  · rcases set_at e with ⟨rfl, q⟩ | ⟨ne, q⟩
    · cases q
    · obtain ⟨v, k1, k2⟩ := R.vals j d q
      exact ⟨v, k1, k2.go hB ag⟩
  · rcases set_at e with ⟨rfl, q⟩ | ⟨ne, q⟩
    · cases q
      exact ⟨a, ha, hm.go (fun b z => .inl (om_mut hi b z)) Agr.refl rfl, h3, h4, h5⟩
    · obtain ⟨b, k1, k2, k3, k4, k5⟩ := R.own j mj q
      have nb : b ≠ a := fun z => by
        subst z
        exact ne (R.uniq j i mj m q hi (k1.trans ha.symm))
      exact ⟨b, k1, k2.go hB ag (upd_ne nb), k3, k4, k5⟩
  · have q1 : ∃ m1, ρ[j]? = some (.o m1) := by
      rcases set_at e1 with ⟨rfl, q⟩ | ⟨ne, q⟩
      · exact ⟨m, hi⟩
      · exact ⟨mj, q⟩
    have q2 : ∃ m1, ρ[k]? = some (.o m1) := by
      rcases set_at e2 with ⟨rfl, q⟩ | ⟨ne, q⟩
      · exact ⟨m, hi⟩
      · exact ⟨mk, q⟩
    obtain ⟨m1, q1⟩ := q1
    obtain ⟨m2, q2⟩ := q2
    exact R.uniq j k m1 m2 q1 q2 e3
/-- the frame's own list, dict: from now on a value -/
def frz (ρ : List Sl) (i : Nat) : List Sl := match ρ[i]? with
  | some (.o (.lst l)) => ρ.set i (.v (.lst l))
  | some (.o (.dk ks vs)) => ρ.set i (.v (.dct ks vs))
  | _ => ρ
theorem ER.frz (R : ER A W s0 H0 s σ H ρ) (i : Nat) : ER A W s0 H0 s σ H (Pd.frz ρ i) := by
  have key : ∀ {m : Mo} {d : D} (hi : ρ[i]? = some (.o m)) (hd : ∀ a, σ[i]? = some (some (.ref a)) → MoAt (om true A W s σ ρ) H a m → (¬ om true A W s σ (ρ.set i (.v d)) a) → Rs (om true A W s σ (ρ.set i (.v d))) H d (.ref a)), ER A W s0 H0 s σ H (ρ.set i (.v d)) := fun {m d} hi hd => by
    obtain ⟨a, h1, h2, h3, h4, h5⟩ := R.own i m hi
    have np : ¬ om true A W s σ (ρ.set i (.v d)) a := fun z => by
      rcases z with z | z | ⟨_, j, m2, e1, e2⟩
      · exact h4 z
      · exact h5 z
      · rcases set_at e1 with ⟨rfl, e⟩ | ⟨ne, e⟩
        · cases e
        · exact ne (R.uniq j i m2 m e hi (e2.trans h1.symm))
    have R1 := R.drop i
    have hl : i < ρ.length := (List.getElem?_eq_some_iff.mp hi).1
    have eq0 : (ρ.set i Sl.e).set i (.v d) = ρ.set i (.v d) := List.set_set _
    have om1 : ∀ b, om true A W s σ (ρ.set i Sl.e) b → om true A W s σ (ρ.set i (.v d)) b := fun b z => by
      rcases z with z | z | ⟨_, j, m2, e1, e2⟩
      · exact .inl z
      · exact .inr (.inl z)
      · rcases set_at e1 with ⟨rfl, q1⟩ | ⟨ne, q1⟩
        · cases q1
        · exact .inr (.inr ⟨rfl, j, m2, by rw [List.getElem?_set_ne (fun z => ne z.symm)]; exact q1, e2⟩)
    have R2 := R1.setV i (d := d) (v := .ref a) ((hd a h1 h2 np).weak om1)
    rw [eq0] at R2
    have es : σ.set i (some (.ref a)) = σ := by
      have hl2 : i < σ.length := by rw [R.len]; exact hl
      have := List.set_getElem_self hl2
      rw [List.getElem?_eq_getElem hl2] at h1
      rw [← Option.some.inj h1]
      exact this
    rw [es] at R2
    exact R2
  have om2 : ∀ {m : Mo} {d : D} (hi : ρ[i]? = some (.o m)), ∀ b, om true A W s σ (ρ.set i (.v d)) b → om true A W s σ ρ b := fun {m d} hi b z => by
    rcases z with z | z | ⟨_, j, m2, e1, e2⟩
    · exact .inl z
    · exact .inr (.inl z)
    · rcases set_at e1 with ⟨rfl, e⟩ | ⟨ne, e⟩
      · cases e
      · exact .inr (.inr ⟨rfl, j, m2, e, e2⟩)
  unfold Pd.frz
  split
  · rename_i l hi
    exact key hi fun a _ hm np => by
      obtain ⟨xs, h1, h2⟩ := hm
      exact .lst h1 np (h2.weak (om2 hi))
  · rename_i ks vs hi
    exact key hi fun a _ hm np => by
      obtain ⟨kvs, h1, hk, h2⟩ := hm
      exact .dct h1 np hk (h2.weak (om2 hi))
  · exact R
end
/-! ### statements -/
def fSet {A : Amb} (i : Nat) (f : FE A) : FS A := fun P ρ s => f ρ s fun d s1 => P.nx (ρ.set i (.v d)) s1
def fSetO {A : Amb} (i : Nat) (f : FO A) : FS A := fun P ρ s => f ρ s fun m s1 => P.nx (ρ.set i (.o m)) s1
def fDo {A : Amb} (f : FE A) : FS A := fun P ρ s => f ρ s fun _ s1 => P.nx ρ s1
def fRet {A : Amb} (f : FE A) : FS A := fun P ρ s => f ρ s fun d s1 => P.rt (.d d) s1
def fRetN {A : Amb} : FS A := fun P _ s => P.rt (.d .non) s
/-- return of the frame's own list; of a new one -/
def fRetO {A : Amb} (i : Nat) : FS A := fun P ρ s => match ρ[i]? with
  | some (.o m) => P.rt (.o m) s
  | _ => False
def fRetW {A : Amb} (f : FO A) : FS A := fun P ρ s => f ρ s fun m s1 => P.rt (.o m) s1
def fSeq {A : Amb} (f g : FS A) : FS A := fun P ρ s => f { P with nx := g P } ρ s
def fNext {A : Amb} : FS A := fun P ρ s => P.nx ρ s
def fBreak {A : Amb} : FS A := fun P ρ s => P.bk ρ s
def fCont {A : Amb} : FS A := fun P ρ s => P.ct ρ s
def fIfS {A : Amb} (c : FT A) (f g : FS A) : FS A := fun P ρ s => c ρ s fun b s1 => Br b (f P ρ s1) (g P ρ s1)
def fFrz {A : Amb} (i : Nat) (f : FS A) : FS A := fun P ρ s => f P (frz ρ i) s
def fDrop {A : Amb} (i : Nat) (f : FS A) : FS A := fun P ρ s => f P (ρ.set i .e) s
def fNever {A : Amb} : FS A := fun _ _ _ => False
section
variable {A : Amb} {m sh : Bool} {te : TE} {f : FE A} {fo : FO A} {t u : TS} {g h : FS A} {tc : TT} {fc : FT A}
theorem ss_set (i : Nat) (h : SdE A true false te f) : SdS A (tAsg te (gName i)) (fSet i f) := fun W s0 H0 s σ H ρ P D R hp nx _ _ _ =>
  h W s0 H0 s σ H ρ _ _ R hp fun d s1 v H1 h1 R1 _ r1 => nx _ s1 _ H1 h1 (R1.setV i r1.rs)
theorem ss_setO (i : Nat) (h : SdO A te fo) : SdS A (tAsg te (gName i)) (fSetO i fo) := fun W s0 H0 s σ H ρ P D R hp nx _ _ _ =>
  h W s0 H0 s σ H ρ _ _ R hp fun mo s1 p H1 h1 R1 _ hn hm hw hb => nx _ s1 _ H1 h1 (R1.setO i (R.fresh0 hn) hm hw hb)
theorem ss_do (h : SdE A m sh te f) : SdS A (tDrop te) (fDo f) := fun W s0 H0 s σ H ρ P D R hp nx _ _ _ =>
  h W s0 H0 s σ H ρ _ _ R hp fun d s1 v H1 h1 R1 _ r1 => nx _ s1 _ H1 h1 R1
theorem om_low {W : Ot} {s : A.S} {σ : Sg} {ρ : List Sl} : ∀ a, (W.w a ∨ A.B s a) → om m A W s σ ρ a := fun a z => by
  rcases z with z | z
  · exact .inl z
  · exact .inr (.inl z)
theorem ss_ret (h : SdE A m sh te f) : SdS A (tRet te) (fRet f) := fun W s0 H0 s σ H ρ P D R hp _ _ _ rt =>
  h W s0 H0 s σ H ρ _ _ R hp fun d s1 v H1 h1 R1 _ r1 => rt _ s1 v H1 h1 R1.amb R1.stp R1.wd (r1.low.weak om_low)
theorem ss_retN : SdS A tRetN fRetN := fun W s0 H0 s σ H ρ P D R hp _ _ _ rt => rt _ s .non H hp R.amb R.stp R.wd .non
theorem ss_retO (i : Nat) : SdS A (tRet (tVar i)) (fRetO i) := fun W s0 H0 s σ H ρ P D R hp _ _ _ rt => by
  unfold fRetO at hp
  split at hp
  · rename_i mo e
    obtain ⟨a, h1, h2, h3, h4, h5⟩ := R.own i mo e
    refine ⟨.ref a, h1, rt _ s _ H hp R.amb R.stp R.wd ⟨a, rfl, h3, h4, h5, h2.go (fun b z => .inl ?_) Agr.refl rfl⟩⟩
    rcases z with (z | z) | z
    · exact .inl z
    · subst z; exact .inr (.inr ⟨rfl, i, mo, e, h1⟩)
    · exact .inr (.inl z)
  · exact hp.elim
theorem ss_retW (h : SdO A te fo) : SdS A (tRet te) (fRetW fo) := fun W s0 H0 s σ H ρ P D R hp _ _ _ rt =>
  h W s0 H0 s σ H ρ _ _ R hp fun mo s1 p H1 h1 R1 _ hn hm hw hb => rt _ s1 _ H1 h1 R1.amb R1.stp (fun a z => R1.wd a (.inl z)) ⟨p, rfl, R.fresh0 hn, hw, hb, hm.go (fun b z => .inl (by
    rcases z with z | z
    · exact .inl z
    · exact .inr (.inl z))) Agr.refl rfl⟩
theorem ss_seq (h1 : SdS A t g) (h2 : SdS A u h) : SdS A (tSeq t u) (fSeq g h) := fun W s0 H0 s σ H ρ P D R hp nx bk ct rt =>
  h1 W s0 H0 s σ H ρ _ _ R hp (fun ρ' s' σ' H' q R' => h2 W s0 H0 s' σ' H' ρ' P D R' q nx bk ct rt) bk ct rt
theorem ss_next : SdS A tNext fNext := fun W s0 H0 s σ H ρ P D R hp nx _ _ _ => nx ρ s σ H hp R
theorem ss_break : SdS A tBreak fBreak := fun W s0 H0 s σ H ρ P D R hp _ bk _ _ => bk ρ s σ H hp R
theorem ss_cont : SdS A tCont fCont := fun W s0 H0 s σ H ρ P D R hp _ _ ct _ => ct ρ s σ H hp R
theorem ss_never : SdS A t fNever := fun W s0 H0 s σ H ρ P D R hp _ _ _ _ => hp.elim
theorem ss_if (hc : SdT A tc fc) (h1 : SdS A t g) (h2 : SdS A u h) : SdS A (tIfS tc t u) (fIfS fc g h) := fun W s0 H0 s σ H ρ P D R hp nx bk ct rt =>
  hc W s0 H0 s σ H ρ _ _ R hp fun b s1 H1 hb R1 st1 => by
    have hb := Br.ite hb
    cases b with
    | true =>
      rw [if_pos rfl] at hb ⊢
      exact h1 W s0 H0 s1 σ H1 ρ P D R1 hb nx bk ct rt
    | false =>
      rw [if_neg (by decide)] at hb ⊢
      exact h2 W s0 H0 s1 σ H1 ρ P D R1 hb nx bk ct rt
theorem ss_frz (i : Nat) (h1 : SdS A t g) : SdS A t (fFrz i g) := fun W s0 H0 s σ H ρ P D R hp nx bk ct rt => h1 W s0 H0 s σ H _ P D (R.frz i) hp nx bk ct rt
theorem ss_drop (i : Nat) (h1 : SdS A t g) : SdS A t (fDrop i g) := fun W s0 H0 s σ H ρ P D R hp nx bk ct rt => h1 W s0 H0 s σ H _ P D (R.drop i) hp nx bk ct rt
end
/-! x.append(e), x.extend(e), x[i] = e, x.pop() of a list of one's own -/
def fApp {A : Amb} (i : Nat) (f : FE A) : FS A := fun P ρ s => match ρ[i]? with
  | some (.o (.lst l)) => f ρ s fun d s1 => l.length < 16777216 ∧ P.nx (ρ.set i (.o (.lst (l ++ [d])))) s1
  | _ => False
def fExt {A : Amb} (i : Nat) (f : FE A) : FS A := fun P ρ s => match ρ[i]? with
  | some (.o (.lst l)) => f ρ s fun d s1 => (match d with
    | .lst k => l.length + k.length ≤ 16777216 ∧ P.nx (ρ.set i (.o (.lst (l ++ k)))) s1
    | _ => False)
  | _ => False
structure SetP (n : Nat) (j : Int) (Φ : Nat → Prop) : Prop where
  ex : ∃ k, ixN n j = some k ∧ Φ k
theorem set_go {n : Nat} {j : Int} {Φ : Nat → Prop} (h0 : 0 ≤ j) (h1 : j < n) (q : Φ j.toNat) : SetP n j Φ := ⟨j.toNat, by unfold ixN; rw [if_pos h0, if_pos h1], q⟩
def fStore {A : Amb} (i : Nat) (fi f : FE A) : FS A := fun P ρ s => match ρ[i]? with
  | some (.o (.lst l)) => f ρ s fun d s1 => fi ρ s1 fun k s2 => (match k with
    | .int j => SetP l.length j fun n => P.nx (ρ.set i (.o (.lst (l.set n d)))) s2
    | _ => False)
  | _ => False
section
variable {A : Amb} {m sh : Bool} {te ti : TE} {f fi : FE A} {K : Fg}
theorem ss_app (i : Nat) (h : SdE A true false te f) : SdS A (tDrop (tBM K "list" rAppend (tVar i) (tCons te tNil))) (fApp i f) := fun W s0 H0 s σ H ρ P D R hp nx _ _ _ => by
  unfold fApp at hp
  split at hp
  · rename_i l e
    obtain ⟨a, h1, ⟨xs, h2, h3⟩, h4, h5, h6⟩ := R.own i _ e
    refine ⟨.ref a, h1, .inl ⟨rfl, xs, .of h2⟩, h W s0 H0 s σ H ρ _ _ R hp fun d s1 v H1 hd R1 st1 r1 => ?_⟩
    obtain ⟨k1, k2⟩ := keep_at st1 (by rw [h2]; simp) h6
    refine ⟨a, xs, v, rfl, rfl, k1.trans h2, by rw [line_eq, h3.length]; exact hd.1, nx _ s1 _ _ hd.2 (R1.mut e h1 ⟨xs ++ [v], upd_same, ?_⟩)⟩
    refine ((h3.stp st1).append (.one r1.rs)).go (fun b z => .inl z) fun b o eb nb => ?_
    rw [upd_ne fun z => ?_]
    · exact eb
    · subst z; exact nb (.inr (.inr ⟨rfl, i, _, e, h1⟩))
  · exact hp.elim
theorem ss_ext (i : Nat) (h : SdE A true true te f) : SdS A (tDrop (tBM K "list" rExtend (tVar i) (tCons te tNil))) (fExt i f) := fun W s0 H0 s σ H ρ P D R hp nx _ _ _ => by
  unfold fExt at hp
  split at hp
  · rename_i l e
    obtain ⟨a, h1, ⟨xs, h2, h3⟩, h4, h5, h6⟩ := R.own i _ e
    refine ⟨.ref a, h1, .inl ⟨rfl, xs, .of h2⟩, h W s0 H0 s σ H ρ _ _ R hp fun d s1 v H1 hd R1 st1 r1 => ?_⟩
    obtain ⟨k1, k2⟩ := keep_at st1 (by rw [h2]; simp) h6
    cases d with
    | lst k =>
      obtain ⟨b, ys, rfl, g1, g2, _⟩ := r1.lst
      refine ⟨a, b, xs, ys, rfl, rfl, k1.trans h2, g1, by rw [line_eq, h3.length, g2.length]; exact hd.1, nx _ s1 _ _ hd.2 (R1.mut e h1 ⟨xs ++ ys, upd_same, ?_⟩)⟩
      refine ((h3.stp st1).append g2).go (fun b z => .inl z) fun b o eb nb => ?_
      rw [upd_ne fun z => ?_]
      · exact eb
      · subst z; exact nb (.inr (.inr ⟨rfl, i, _, e, h1⟩))
    | _ => exact hd.elim
  · exact hp.elim
theorem ss_store (i : Nat) (h : SdE A true false te f) (hi : SdE A m sh ti fi) : SdS A (tAsg te (gSub (tVar i) ti rSetL)) (fStore i fi f) := fun W s0 H0 s σ H ρ P D R hp nx _ _ _ => by
  unfold fStore at hp
  split at hp
  · rename_i l e
    obtain ⟨a, h1, ⟨xs, h2, h3⟩, h4, h5, h6⟩ := R.own i _ e
    refine h W s0 H0 s σ H ρ _ _ R hp fun d s1 v H1 hd R1 st1 r1 => ⟨.ref a, h1, hi W s0 H0 s1 σ H1 ρ _ _ R1 hd fun k s2 w H2 hk R2 st2 r2 => ?_⟩
    have st := st1.trans st2
    obtain ⟨k1, k2⟩ := keep_at st (by rw [h2]; simp) h6
    cases k with
    | int j =>
      obtain rfl := r2.int
      dsimp only at hk
      obtain ⟨⟨n, en, hk⟩⟩ := hk
      refine ⟨a, xs, j, n, rfl, rfl, k1.trans h2, by rw [h3.length]; exact en, nx _ s2 _ _ hk (R2.mut e h1 ⟨xs.set n v, upd_same, ?_⟩)⟩
      refine (RsL.set n (h3.stp st) (r1.stp st2).rs).go (fun b z => .inl z) fun b o eb nb => ?_
      rw [upd_ne fun z => ?_]
      · exact eb
      · subst z; exact nb (.inr (.inr ⟨rfl, i, _, e, h1⟩))
    | _ => exact hk.elim
  · exact hp.elim
end
end Pd

set_option maxHeartbeats 4000000
namespace Pd
open PySem PySem.Spec PyProof.Rows L2
/-! ### several values at once, things of one's own among them -/
def Ot.adds (W : Ot) : List Addr → Ot
  | [] => W
  | p :: ps => (W.adds ps).add p
theorem adds_w (W : Ot) : ∀ (ps : List Addr) (a : Addr), (W.adds ps).w a ↔ (W.w a ∨ a ∈ ps)
  | [], a => by simp [Ot.adds]
  | p :: ps, a => by
    show ((W.adds ps).w a ∨ a = p) ↔ _
    rw [adds_w W ps a, List.mem_cons]
    constructor
    · rintro ((h | h) | h)
      · exact .inl h
      · exact .inr (.inr h)
      · exact .inr (.inl h)
    · rintro (h | h | h)
      · exact .inl (.inl h)
      · exact .inr h
      · exact .inl (.inr h)
theorem adds_g (W : Ot) : ∀ ps : List Addr, (W.adds ps).g = W.g
  | [] => rfl
  | p :: ps => adds_g W ps
theorem adds_add (W : Ot) (p : Addr) (ps : List Addr) : (W.add p).adds ps = (W.adds ps).add p := by
  have h1 : ((W.add p).adds ps).w = ((W.adds ps).add p).w := by
    funext a
    apply propext
    rw [adds_w]
    show ((W.w a ∨ a = p) ∨ a ∈ ps) ↔ ((W.adds ps).w a ∨ a = p)
    rw [adds_w]
    constructor
    · rintro ((h | h) | h)
      · exact .inl (.inl h)
      · exact .inr h
      · exact .inl (.inr h)
    · rintro ((h | h) | h)
      · exact .inl (.inl h)
      · exact .inr h
      · exact .inl (.inr h)
  have h2 : ((W.add p).adds ps).g = ((W.adds ps).add p).g := by rw [adds_g]; exact (adds_g W ps).symm
  cases e1 : (W.add p).adds ps with
  | mk w1 g1 =>
    cases e2 : (W.adds ps).add p with
    | mk w2 g2 =>
      rw [e1, e2] at h1 h2
      cases h1
      cases h2
      rfl
inductive RXs (B : Ad) (H : Hp) : List Addr → List Sl → List V → Prop
  | nil : RXs B H [] [] []
  | v {ps : List Addr} {d : D} {v : V} {l : List Sl} {xs : List V} : Rs B H d v → RXs B H ps l xs → RXs B H ps (.v d :: l) (v :: xs)
  | o {ps : List Addr} {m : Mo} {p : Addr} {l : List Sl} {xs : List V} : MoAt B H p m → RXs B H ps l xs → RXs B H (p :: ps) (.o m :: l) (.ref p :: xs)
abbrev FX (A : Amb) := List Sl → A.S → (List Sl → A.S → Prop) → Prop
def SdX (A : Amb) (n : Nat) (t : TA) (f : FX A) : Prop := ∀ W s0 H0 s σ H ρ Φ Q, ER A W s0 H0 s σ H ρ → f ρ s Φ →
  (∀ l s' vs H' ps, Φ l s' → ER A (W.adds ps) s0 H0 s' σ H' ρ → Stp A s s' H H' → RXs (om true A (W.adds ps) s' σ ρ) H' ps l vs → ps.Nodup → (∀ p ∈ ps, H p = none ∧ ¬ W.w p ∧ ¬ A.B s' p) → l.length = n → Q vs H') → t σ H Q
def fXn {A : Amb} : FX A := fun _ s Φ => Φ [] s
def fXv {A : Amb} (f : FE A) (r : FX A) : FX A := fun ρ s Φ => f ρ s fun d s1 => r ρ s1 fun l s2 => Φ (.v d :: l) s2
def fXo {A : Amb} (f : FO A) (r : FX A) : FX A := fun ρ s Φ => f ρ s fun m s1 => r ρ s1 fun l s2 => Φ (.o m :: l) s2
theorem RXs.go {B B' : Ad} {H H' : Hp} (hB : ∀ a, B' a → B a ∨ H a = none) (hA : Agr B H H') : ∀ {ps : List Addr} {l : List Sl} {xs : List V}, (∀ p ∈ ps, H' p = H p) → RXs B H ps l xs → RXs B' H' ps l xs
  | _, _, _, _, .nil => .nil
  | _, _, _, hp, .v a b => .v (a.go hB hA) (RXs.go hB hA hp b)
  | _, _, _, hp, .o a b => .o (a.go hB hA (hp _ List.mem_cons_self)) (RXs.go hB hA (fun p h => hp p (List.mem_cons_of_mem _ h)) b)
section
variable {A : Amb} {n : Nat} {te : TE} {f : FE A} {fo : FO A} {tr : TA} {r : FX A}
theorem om_adds {W : Ot} {s s' : A.S} {σ : Sg} {ρ : List Sl} {H H' : Hp} {ps : List Addr} (h : Stp A s s' H H') (hp : ∀ p ∈ ps, H p = none) : ∀ a, om true A (W.adds ps) s' σ ρ a → om true A W s σ ρ a ∨ H a = none := fun a z => by
  rcases z with z | z | z
  · rcases (adds_w W ps a).mp z with z | z
    · exact .inl (.inl z)
    · exact .inr (hp a z)
  · exact (h.new a z).imp (fun y => .inr (.inl y)) id
  · exact .inl (.inr (.inr z))
theorem sx_nil : SdX A 0 tNil fXn := fun W s0 H0 s σ H ρ Φ Q R hp q => q [] s [] H [] hp R Stp.refl .nil List.nodup_nil (fun p h => nomatch h) rfl
theorem sx_v (h : SdE A true false te f) (hr : SdX A n tr r) : SdX A (n + 1) (tCons te tr) (fXv f r) := fun W s0 H0 s σ H ρ Φ Q R hp q =>
  h W s0 H0 s σ H ρ _ _ R hp fun d s1 v H1 h1 R1 st1 r1 => hr W s0 H0 s1 σ H1 ρ _ _ R1 h1 fun l s2 vs H2 ps h2 R2 st2 r2 nd hf hl =>
    q _ s2 _ H2 ps h2 R2 (st1.trans st2) (.v (r1.rs.go (om_adds st2 fun p hp => (hf p hp).1) (om_agr true st2)) r2) nd (fun p hp => ⟨by
      cases e : H p with
      | none => rfl
      | some o => exact (st1.dom p (by rw [e]; simp) (hf p hp).1).elim, (hf p hp).2⟩) (by rw [List.length_cons, hl])
theorem sx_o (h : SdO A te fo) (hr : SdX A n tr r) : SdX A (n + 1) (tCons te tr) (fXo fo r) := fun W s0 H0 s σ H ρ Φ Q R hp q =>
  h W s0 H0 s σ H ρ _ _ R hp fun mo s1 p H1 h1 R1 st1 hn hm hw hb => hr (W.add p) s0 H0 s1 σ H1 ρ _ _ R1 h1 fun l s2 vs H2 ps h2 R2 st2 r2 nd hf hl => by
    obtain ⟨k1, k2⟩ := keep_at st2 hm.some hb
    have np : p ∉ ps := fun z => (hf p z).2.1 (.inr rfl)
    rw [adds_add] at R2 r2
    refine q _ s2 _ H2 (p :: ps) h2 R2 (st1.trans st2) (.o (hm.go (fun a z => ?_) (om_agr true st2) k1) r2) (List.nodup_cons.mpr ⟨np, nd⟩) (fun x hx => ?_) (by rw [List.length_cons, hl])
    · have z' : om true A ((W.add p).adds ps) s2 σ ρ a := by rw [adds_add]; exact z
      exact om_adds st2 (fun p hp => (hf p hp).1) a z'
    · rcases List.mem_cons.mp hx with rfl | hx
      · exact ⟨hn, hw, k2⟩
      · refine ⟨?_, fun z => (hf x hx).2.1 (.inl z), (hf x hx).2.2⟩
        cases e : H x with
        | none => rfl
        | some o => exact (st1.dom x (by rw [e]; simp) (hf x hx).1).elim
end
def setS {α : Type} (l : List α) : List Nat → List α → List α
  | i :: is, x :: xs => setS (l.set i x) is xs
  | _, _ => l
theorem ER.setX {A : Amb} {W : Ot} {s0 s : A.S} {H0 H : Hp} {is : List Nat} {σ : Sg} {ρ : List Sl} {ps : List Addr} {l : List Sl} {xs : List V} (hl : is.length = l.length) (R : ER A (W.adds ps) s0 H0 s σ H ρ) (r : RXs (om true A (W.adds ps) s σ ρ) H ps l xs) (nd : ps.Nodup) (hp : ∀ p ∈ ps, H0 p = none ∧ ¬ W.w p ∧ ¬ A.B s p) :
    ER A W s0 H0 s (setS σ is (xs.map some)) H (setS ρ is l) := by
  induction is generalizing σ ρ ps l xs with
  | nil =>
    cases r with
    | nil => exact R
    | v => simp at hl
    | o => simp at hl
  | cons i is ih =>
    cases r with
    | nil => simp at hl
    | v a b => exact ih (by simpa using hl) (R.setV i a) (b.go (fun x z => .inl (om_setN (sl := .v _) (fun m z => by cases z) x z)) Agr.refl fun _ _ => rfl) nd hp
    | o a b =>
      rename_i ps m p l xs
      have nd' := List.nodup_cons.mp nd
      have h0 := hp p List.mem_cons_self
      have hw : ¬ (W.adds ps).w p := fun z => by
        rcases (adds_w W ps p).mp z with z | z
        · exact h0.2.1 z
        · exact nd'.1 z
      exact ih (by simpa using hl) (ER.setO R i h0.1 a hw h0.2.2) (b.go (fun x z => .inl (om_setO x z)) Agr.refl fun _ _ => rfl) nd'.2 fun q hq => hp q (List.mem_cons_of_mem _ hq)
def fPar {A : Amb} (is : List Nat) (f : FX A) : FS A := fun P ρ s => f ρ s fun l s1 => P.nx (setS ρ is l) s1
section
variable {A : Amb} {n : Nat} {ta : TA} {f : FX A} {K : Fg}
theorem RXs.len {B : Ad} {H : Hp} : ∀ {ps : List Addr} {l : List Sl} {xs : List V}, RXs B H ps l xs → xs.length = l.length
  | _, _, _, .nil => rfl
  | _, _, _, .v a b => by rw [List.length_cons, List.length_cons, RXs.len b]
  | _, _, _, .o a b => by rw [List.length_cons, List.length_cons, RXs.len b]
theorem ss_par (i j : Nat) (h : SdX A 2 ta f) : SdS A (tPar i j ta) (fPar [i, j] f) := fun W s0 H0 s σ H ρ P D R hp nx _ _ _ =>
  h W s0 H0 s σ H ρ _ _ R hp fun l s1 vs H1 ps h1 R1 st1 r1 nd hf hl => by
    have e := r1.len
    rw [hl] at e
    match vs, e with
    | [v, w], _ =>
      refine ⟨v, w, rfl, ?_⟩
      exact nx _ s1 _ H1 h1 (ER.setX (is := [i, j]) (by rw [hl]; rfl) R1 r1 nd fun p hp => ⟨R.fresh0 (hf p hp).1, (hf p hp).2⟩)
theorem ss_par3 (i j k : Nat) (h : SdX A 3 ta f) : SdS A (tPar3 i j k ta) (fPar [i, j, k] f) := fun W s0 H0 s σ H ρ P D R hp nx _ _ _ =>
  h W s0 H0 s σ H ρ _ _ R hp fun l s1 vs H1 ps h1 R1 st1 r1 nd hf hl => by
    have e := r1.len
    rw [hl] at e
    match vs, e with
    | [u, v, w], _ =>
      refine ⟨u, v, w, rfl, ?_⟩
      exact nx _ s1 _ H1 h1 (ER.setX (is := [i, j, k]) (by rw [hl]; rfl) R1 r1 nd fun p hp => ⟨R.fresh0 (hf p hp).1, (hf p hp).2⟩)
/-- names only, in a row -/
def gNames : List Nat → TGs
  | [] => gNil
  | i :: is => gCons (gName i) (gNames is)
theorem gNames_run {Q : Sg → Hp → Prop} {H : Hp} : ∀ (is : List Nat) (xs : List V) (σ : Sg), is.length = xs.length → Q (setS σ is (xs.map some)) H → gNames is xs σ H Q
  | [], [], σ, _, q => ⟨rfl, q⟩
  | [], _ :: _, _, h, _ => by simp at h
  | _ :: _, [], _, h, _ => by simp at h
  | i :: is, x :: xs, σ, h, q => ⟨x, xs, rfl, gNames_run is xs _ (by simpa using h) q⟩
/-- a, b, .. = e, .. by a tuple that is made and taken apart -/
theorem ss_parT (is : List Nat) (hn : is.length = n) (hk : n ≤ 1000) (h : SdX A n ta f) : SdS A (tAsg (tTup ta) (gTup K n (gNames is))) (fPar is f) := fun W s0 H0 s σ H ρ P D R hp nx _ _ _ =>
  h W s0 H0 s σ H ρ _ _ R hp fun l s1 vs H1 ps h1 R1 st1 r1 nd hf hl => by
    have e := r1.len
    rw [hl] at e
    refine ⟨by rw [e, line_eq]; omega, fun q hq => ?_⟩
    have R2 := R1.alloc hq (.tup vs)
    refine ⟨q, vs, rfl, .of upd_same, e, gNames_run is vs σ (by rw [hn, e]) ?_⟩
    refine nx _ s1 _ _ h1 (ER.setX (by rw [hn, hl]) R2 (r1.go (fun a z => .inl z) (fun a o ea _ => by rw [upd_ne (ne_of_none ea hq)]; exact ea) fun p hp => upd_ne fun z => ?_) nd fun p hp => ⟨R.fresh0 (hf p hp).1, (hf p hp).2⟩)
    subst z
    exact R1.wd p ((adds_w W ps p).mpr (.inr hp)) hq
end
/-! ### targets of a value -/
abbrev FG := D → List Sl → (List Sl → Prop) → Prop
abbrev FGs := List D → List Sl → (List Sl → Prop) → Prop
def Out {α : Type} (vs : List Nat) (σ σ' : List α) : Prop := σ'.length = σ.length ∧ ∀ i, i ∉ vs → σ'[i]? = σ[i]?
def SdG (A : Amb) (vs : List Nat) (tg : TG) (g : FG) : Prop := ∀ W s0 H0 s σ H ρ d v Φ Q, ER A W s0 H0 s σ H ρ → Rs (om true A W s σ ρ) H d v → g d ρ Φ →
  (∀ ρ' σ', Φ ρ' → ER A W s0 H0 s σ' H ρ' → Out vs σ σ' → Out vs ρ ρ' → (∀ a, om true A W s σ' ρ' a → om true A W s σ ρ a) → Q σ' H) → tg v σ H Q
def SdGs (A : Amb) (vs : List Nat) (tg : TGs) (g : FGs) : Prop := ∀ W s0 H0 s σ H ρ ds xs Φ Q, ER A W s0 H0 s σ H ρ → RsL (om true A W s σ ρ) H ds xs → g ds ρ Φ →
  (∀ ρ' σ', Φ ρ' → ER A W s0 H0 s σ' H ρ' → Out vs σ σ' → Out vs ρ ρ' → (∀ a, om true A W s σ' ρ' a → om true A W s σ ρ a) → Q σ' H) → tg xs σ H Q
def hName (i : Nat) : FG := fun d ρ Φ => Φ (ρ.set i (.v d))
def hNil : FGs := fun ds ρ Φ => match ds with
  | [] => Φ ρ
  | _ => False
def hCons (g : FG) (r : FGs) : FGs := fun ds ρ Φ => match ds with
  | d :: ds => g d ρ fun ρ' => r ds ρ' Φ
  | _ => False
/-- a tuple or a list of n -/
def hTup (n : Nat) (r : FGs) : FG := fun d ρ Φ => match d with
  | .tup ds => ds.length = n ∧ r ds ρ Φ
  | .lst ds => ds.length = n ∧ r ds ρ Φ
  | _ => False
def gSeq (K : Fg) (n : Nat) (t : TGs) : TG := fun v σ H Q => gTup K n t v σ H Q ∨ gUnl K n t v σ H Q
theorem pg_seq {X : Cx} {pos : Pos} {es : List Expr} {k : Nat} {t : TGs} {n : Nat} (hc : X.calm = true) (h : PGs X es t)
    (hn : (assignEach es X.env).length = n := by rfl) (hst : (assignEach es X.env).findIdx? (·.1) = none := by rfl) : PG X (.Tuple es k pos) (gSeq X.K n t) :=
  ⟨fun pins s σ H v u Q I r q => q.elim (fun q => (pg_tup hc h hn hst).run pins s σ H v u Q I r q) fun q => (pg_unl hc h hn hst).run pins s σ H v u Q I r q⟩
theorem Out.refl {α : Type} {vs : List Nat} {σ : List α} : Out vs σ σ := ⟨rfl, fun _ _ => rfl⟩
theorem Out.trans {α : Type} {vs : List Nat} {σ σ1 σ2 : List α} (a : Out vs σ σ1) (b : Out vs σ1 σ2) : Out vs σ σ2 := ⟨b.1.trans a.1, fun i h => (b.2 i h).trans (a.2 i h)⟩
theorem Out.mono {α : Type} {vs ws : List Nat} {σ σ1 : List α} (a : Out vs σ σ1) (h : ∀ i ∈ vs, i ∈ ws) : Out ws σ σ1 := ⟨a.1, fun i hi => a.2 i fun z => hi (h i z)⟩
section
variable {A : Amb} {vs ws : List Nat} {tg : TG} {g : FG} {tgs : TGs} {gs : FGs} {K : Fg} {n : Nat}
theorem sg_name (i : Nat) : SdG A [i] (gName i) (hName i) := fun W s0 H0 s σ H ρ d v Φ Q R r hp q =>
  q _ _ hp (R.setV i r) ⟨List.length_set, fun j hj => List.getElem?_set_ne fun z => hj (by rw [z]; exact List.mem_singleton.mpr rfl)⟩ ⟨List.length_set, fun j hj => List.getElem?_set_ne fun z => hj (by rw [z]; exact List.mem_singleton.mpr rfl)⟩ (om_setN fun m z => nomatch z)
theorem sg_nil : SdGs A [] gNil hNil := fun W s0 H0 s σ H ρ ds xs Φ Q R r hp q => by
  unfold hNil at hp
  split at hp
  · cases r
    exact ⟨rfl, q _ _ hp R Out.refl Out.refl fun _ z => z⟩
  · exact hp.elim
theorem sg_cons (h : SdG A vs tg g) (hr : SdGs A ws tgs gs) : SdGs A (vs ++ ws) (gCons tg tgs) (hCons g gs) := fun W s0 H0 s σ H ρ ds xs Φ Q R r hp q => by
  unfold hCons at hp
  split at hp
  · cases r with
    | cons a b =>
      exact ⟨_, _, rfl, h W s0 H0 s σ H ρ _ _ _ _ R a hp fun ρ' σ' h1 R1 o1 p1 w1 => hr W s0 H0 s σ' H ρ' _ _ _ _ R1 (b.weak w1) h1 fun ρ2 σ2 h2 R2 o2 p2 w2 =>
        q ρ2 σ2 h2 R2 ((o1.mono fun i z => List.mem_append_left _ z).trans (o2.mono fun i z => List.mem_append_right _ z)) ((p1.mono fun i z => List.mem_append_left _ z).trans (p2.mono fun i z => List.mem_append_right _ z)) fun a z => w1 a (w2 a z)⟩
  · exact hp.elim
theorem sg_tup (h : SdGs A vs tgs gs) : SdG A vs (gSeq K n tgs) (hTup n gs) := fun W s0 H0 s σ H ρ d v Φ Q R r hp q => by
  unfold hTup at hp
  split at hp
  · cases r with
    | tup h1 hn h2 => exact .inl ⟨_, _, rfl, .of h1, by rw [h2.length]; exact hp.1, h W s0 H0 s σ H ρ _ _ _ _ R h2 hp.2 q⟩
  · cases r with
    | lst h1 hn h2 => exact .inr ⟨_, _, rfl, .of h1, by rw [h2.length]; exact hp.1, h W s0 H0 s σ H ρ _ _ _ _ R h2 hp.2 q⟩
  · exact hp.elim
def fAsg {A : Amb} (f : FE A) (g : FG) : FS A := fun P ρ s => f ρ s fun d s1 => g d ρ fun ρ' => P.nx ρ' s1
theorem ss_asg {te : TE} {f : FE A} (h : SdE A true false te f) (hg : SdG A vs tg g) : SdS A (tAsg te tg) (fAsg f g) := fun W s0 H0 s σ H ρ P D R hp nx _ _ _ =>
  h W s0 H0 s σ H ρ _ _ R hp fun d s1 v H1 h1 R1 _ r1 => hg W s0 H0 s1 σ H1 ρ d v _ _ R1 r1.rs h1 fun ρ' σ' h2 R2 _ _ _ => nx ρ' s1 σ' H1 h2 R2
end
/-! ### what is walked -/
/-- at turn i it yields the i-th of l -/
structure ItOk (B : Ad) (H1 : Hp) (J : It) (l : List D) : Prop where
  ok : ∃ γ : List (D × V), (∀ p ∈ γ, Rs B H1 p.1 p.2) ∧ ∀ (B' : Ad) (H2 : Hp) (i : Nat), (∀ p ∈ γ, Rs B' H2 p.1 p.2) → (l[i]? = none → J.stop i H2) ∧ ∀ d, l[i]? = some d → J.go i H2 ∧ ∀ x H3, J.yld i H2 x H3 →
    (H3 = H2 ∧ Rs B' H2 d x) ∨ ∃ T xs ds, x = .ref T ∧ H2 T = none ∧ H3 = upd H2 T (.tup xs) ∧ d = .tup ds ∧ RsL B' H2 ds xs
abbrev FI (A : Amb) := List Sl → A.S → (List D → A.S → Prop) → Prop
def SdI (A : Amb) (wi : TI) (f : FI A) : Prop := ∀ W s0 H0 s σ H ρ Φ (R : It → Hp → Prop), ER A W s0 H0 s σ H ρ → f ρ s Φ →
  (∀ l s1 J H1, Φ l s1 → ER A W s0 H0 s1 σ H1 ρ → Stp A s s1 H H1 → ItOk (om true A W s1 σ ρ) H1 J l → R J H1) → wi σ H R
/-- a list or a tuple -/
def iSeq (K : Fg) (tl : TE) : TI := fun σ H R => tl σ H fun x H1 => (∃ a, x = .ref a ∧ (∃ xs, SqL K H1 a xs) ∧ R (Itl K a) H1) ∨ ∃ a, x = .ref a ∧ (∃ xs, SqT K H1 a xs) ∧ R (Itt K a) H1
theorem pi_seq {X : Cx} {tg l : Expr} {tl : TE} (hl : PE X l tl) : PI X tg l (iSeq X.K tl) := by
  refine ⟨fun pins s σ H R I h => ?_⟩
  refine thn (hl.run pins s σ H _ I h) fun v s1 ⟨x, H1, I1, r1, q1⟩ => ?_
  have fr : ∀ b ∈ [s1.heap.objs.size], FpOk X pins H1 b := fun b hb => by
    obtain rfl : b = s1.heap.objs.size := by simpa using hb
    exact I1.fpOk (Nat.le_refl _) (I1.hok.fresh (Nat.le_refl _))
  rcases q1 with ⟨a, rfl, ⟨xs, hq⟩, q⟩ | ⟨a, rfl, ⟨xs, hq⟩, q⟩
  · cases r1
    obtain ⟨its, rv, p, hz⟩ := I1.list hq
    exact wpAny_pyIter_list p.isList ⟨s1.heap.objs.size, [s1.heap.objs.size], _, _, H1, rfl, I1.kept (t' := s1.toks) fun b o e => Heap.get?_push_of_some _ e, turn_list a _, ⟨_, Heap.get?_push_size _ rfl, rfl, rfl⟩, fr, q⟩
  · cases r1
    obtain ⟨its, rv, p, hz⟩ := I1.tuple hq
    exact iter_tuple p ⟨s1.heap.objs.size, [s1.heap.objs.size], _, _, H1, rfl, I1.kept (t' := s1.toks) fun b o e => Heap.get?_push_of_some _ e, turn_tuple a _, ⟨_, Heap.get?_push_size _ rfl, rfl, rfl⟩, fr, q⟩
def fIt {A : Amb} (f : FE A) : FI A := fun ρ s Φ => f ρ s fun d s1 => match d with
  | .lst l => Φ l s1
  | .tup l => Φ l s1
  | _ => False
def rangeD (lo : Int) (n : Nat) : List D := (List.range n).map fun k => D.int (lo + (k : Nat))
def fRg1 {A : Amb} (f : FA A) : FI A := fun ρ s Φ => f ρ s fun ds s1 => match ds with
  | [.int j] => -(2 ^ 62) ≤ j ∧ j < 2 ^ 62 ∧ Φ (rangeD 0 j.toNat) s1
  | _ => False
def fRg2 {A : Amb} (f : FA A) : FI A := fun ρ s Φ => f ρ s fun ds s1 => match ds with
  | [.int i, .int j] => (-(2 ^ 62) ≤ i ∧ i < 2 ^ 62 ∧ -(2 ^ 62) ≤ j ∧ j < 2 ^ 62) ∧ Φ (rangeD i (j - i).toNat) s1
  | _ => False
theorem rangeD_get {lo : Int} {n i : Nat} : (rangeD lo n)[i]? = if i < n then some (D.int (lo + (i : Nat))) else none := by
  unfold rangeD
  rw [List.getElem?_map]
  by_cases h : i < n
  · rw [List.getElem?_range h, if_pos h]; rfl
  · rw [List.getElem?_eq_none (by simpa using h), if_neg h]; rfl
theorem itOk_range {B : Ad} {H1 : Hp} {lo : Int} {n : Nat} : ItOk B H1 (Itr lo n) (rangeD lo n) := by
  refine ⟨⟨[], fun p h => (by cases h), fun B' H2 i _ => ?_⟩⟩
  rw [rangeD_get]
  by_cases h : i < n
  · rw [if_pos h]
    refine ⟨fun z => (nomatch z), fun d e => ⟨h, fun x H3 y => .inl ⟨y.1, ?_⟩⟩⟩
    cases e
    rw [y.2]
    exact .int _
  · rw [if_neg h]
    exact ⟨fun _ => Nat.le_of_not_lt h, fun d e => (nomatch e)⟩
section
variable {A : Amb} {m sh m1 sh1 : Bool} {te : TE} {f : FE A} {ta : TA} {fa : FA A} {K : Fg} {n : Nat}
theorem si_it (h : SdE A true false te f) : SdI A (iSeq K te) (fIt f) := fun W s0 H0 s σ H ρ Φ Rr R hp q =>
  h W s0 H0 s σ H ρ _ _ R hp fun d s1 v H1 h1 R1 st1 r1 => by
    have r := r1.rs
    cases d with
    | lst l =>
      have r0 := r
      cases r with
      | lst g1 g2 g3 =>
        rename_i a xs
        refine .inl ⟨a, rfl, ⟨xs, .of g1⟩, q l s1 _ H1 h1 R1 st1 ⟨[(.lst l, .ref a)], fun p hp => ?_, fun B' H2 i hp => ?_⟩⟩
        · obtain rfl : p = (.lst l, .ref a) := by simpa using hp
          exact r0
        · have r2 := hp _ (List.mem_singleton.mpr rfl)
          cases r2 with
          | lst k1 k2 k3 =>
            rename_i ys
            refine ⟨fun e => ⟨ys, .of k1, ?_⟩, fun d e => ?_⟩
            · rw [k3.length]; exact List.getElem?_eq_none_iff.mp e
            · obtain ⟨x, e1, e2⟩ := k3.get e
              refine ⟨⟨ys, x, .of k1, e1⟩, fun x' H3 y => .inl ⟨y.1, ?_⟩⟩
              have e3 := y.2 ys (.of k1)
              rw [e1] at e3
              cases e3
              exact e2
    | tup l =>
      have r0 := r
      cases r with
      | tup g1 g2 g3 =>
        rename_i a xs
        refine .inr ⟨a, rfl, ⟨xs, .of g1⟩, q l s1 _ H1 h1 R1 st1 ⟨[(.tup l, .ref a)], fun p hp => ?_, fun B' H2 i hp => ?_⟩⟩
        · obtain rfl : p = (.tup l, .ref a) := by simpa using hp
          exact r0
        · have r2 := hp _ (List.mem_singleton.mpr rfl)
          cases r2 with
          | tup k1 k2 k3 =>
            rename_i ys
            refine ⟨fun e => ⟨ys, .of k1, ?_⟩, fun d e => ?_⟩
            · rw [k3.length]; exact List.getElem?_eq_none_iff.mp e
            · obtain ⟨x, e1, e2⟩ := k3.get e
              refine ⟨⟨ys, x, .of k1, e1⟩, fun x' H3 y => .inl ⟨y.1, ?_⟩⟩
              have e3 := y.2 ys (.of k1)
              rw [e1] at e3
              cases e3
              exact e2
    | _ => exact h1.elim
theorem si_rg1 (h : SdL A m sh n ta fa) : SdI A (iRng1 ta) (fRg1 fa) := fun W s0 H0 s σ H ρ Φ Rr R hp q =>
  h W s0 H0 s σ H ρ _ _ R hp fun ds s1 vs H1 h1 R1 st1 r1 _ => by
    split at h1
    · cases r1 with
      | cons a b =>
        cases b
        obtain rfl := a.int
        exact ⟨_, rfl, h1.1, h1.2.1, q _ s1 _ H1 h1.2.2 R1 st1 itOk_range⟩
    · exact h1.elim
theorem si_rg2 (h : SdL A m sh n ta fa) : SdI A (iRng2 ta) (fRg2 fa) := fun W s0 H0 s σ H ρ Φ Rr R hp q =>
  h W s0 H0 s σ H ρ _ _ R hp fun ds s1 vs H1 h1 R1 st1 r1 _ => by
    split at h1
    · cases r1 with
      | cons a b =>
        cases b with
        | cons a' b' =>
          cases b'
          obtain rfl := a.int
          obtain rfl := a'.int
          exact ⟨_, _, rfl, h1.1, q _ s1 _ H1 h1.2 R1 st1 itOk_range⟩
    · exact h1.elim
end
/-! ### for, while -/
structure ForP {A : Amb} (l : List D) (g : FG) (b : FS A) (P : PEnds A) (ρ : List Sl) (s : A.S) : Prop where
  ex : ∃ Iv : Nat → List Sl → A.S → Prop, Iv 0 ρ s ∧ ∀ i ρ s, Iv i ρ s → match l[i]? with
    | none => P.nx ρ s
    | some d => g d ρ fun ρ' => b { P with nx := Iv (i + 1), ct := Iv (i + 1), bk := P.nx } ρ' s
def fFor {A : Amb} (fi : FI A) (g : FG) (b : FS A) : FS A := fun P ρ s => fi ρ s fun l s1 => ForP l g b P ρ s1
/-- a loop, its slots told by a state of one's own -/
theorem for_go {A : Amb} {l : List D} {g : FG} {b : FS A} {P : PEnds A} {ρ : List Sl} {s : A.S} {T : Type} (enc : T → List Sl) (Inv : Nat → T → Prop) (t0 : T) (h0 : enc t0 = ρ) (i0 : Inv 0 t0)
    (step : ∀ i d t, l[i]? = some d → Inv i t → g d (enc t) fun ρ' => b { P with nx := fun ρ s' => s' = s ∧ ∃ t', enc t' = ρ ∧ Inv (i + 1) t', ct := fun ρ s' => s' = s ∧ ∃ t', enc t' = ρ ∧ Inv (i + 1) t', bk := P.nx } ρ' s)
    (fin : ∀ t, Inv l.length t → P.nx (enc t) s) : ForP l g b P ρ s := by
  refine ⟨fun i ρ s' => i ≤ l.length ∧ s' = s ∧ ∃ t, enc t = ρ ∧ Inv i t, ⟨Nat.zero_le _, rfl, t0, h0, i0⟩, ?_⟩
  intro i ρ' s' h
  obtain ⟨hi, es, t, er, hI⟩ := h
  rw [es, ← er]
  cases e : l[i]? with
  | none =>
    have h1 : l.length ≤ i := List.getElem?_eq_none_iff.mp e
    obtain rfl : i = l.length := by omega
    exact fin t hI
  | some d =>
    have h1 : i < l.length := (List.getElem?_eq_some_iff.mp e).1
    have h2 := step i d t e hI
    have e3 : (fun (ρ : List Sl) (s2 : A.S) => i + 1 ≤ l.length ∧ s2 = s ∧ ∃ t, enc t = ρ ∧ Inv (i + 1) t) = fun ρ s2 => s2 = s ∧ ∃ t, enc t = ρ ∧ Inv (i + 1) t := by
      funext ρ s2
      exact propext ⟨fun h => h.2, fun h => ⟨h1, h⟩⟩
    have e4 : g d (enc t) fun ρ' => b { P with nx := (fun (ρ : List Sl) (s2 : A.S) => i + 1 ≤ l.length ∧ s2 = s ∧ ∃ t, enc t = ρ ∧ Inv (i + 1) t), ct := (fun (ρ : List Sl) (s2 : A.S) => i + 1 ≤ l.length ∧ s2 = s ∧ ∃ t, enc t = ρ ∧ Inv (i + 1) t), bk := P.nx } ρ' s := by
      rw [e3]
      exact h2
    exact e4
structure WhP {A : Amb} (c : FT A) (b : FS A) (P : PEnds A) (ρ : List Sl) (s : A.S) : Prop where
  ex : ∃ Iv : Nat → List Sl → A.S → Prop, (∃ m, Iv m ρ s) ∧ ∀ m ρ s, Iv m ρ s → c ρ s fun k s1 => Br k (b { P with nx := fun ρ s => ∃ m', m' < m ∧ Iv m' ρ s, ct := fun ρ s => ∃ m', m' < m ∧ Iv m' ρ s, bk := P.nx } ρ s1) (P.nx ρ s1)
def fWhile {A : Amb} (c : FT A) (b : FS A) : FS A := fun P ρ s => WhP c b P ρ s
theorem while_go {A : Amb} {c : FT A} {b : FS A} {P : PEnds A} {ρ : List Sl} {s : A.S} {T : Type} (enc : T → List Sl) (Inv : Nat → T → Prop) (t0 : T) (m0 : Nat) (h0 : enc t0 = ρ) (i0 : Inv m0 t0)
    (step : ∀ m t, Inv m t → c (enc t) s fun k s1 => Br k (b { P with nx := fun ρ s' => ∃ m', m' < m ∧ s' = s ∧ ∃ t', enc t' = ρ ∧ Inv m' t', ct := fun ρ s' => ∃ m', m' < m ∧ s' = s ∧ ∃ t', enc t' = ρ ∧ Inv m' t', bk := P.nx } (enc t) s1) (P.nx (enc t) s1)) : WhP c b P ρ s := by
  refine ⟨fun m ρ s' => s' = s ∧ ∃ t, enc t = ρ ∧ Inv m t, ⟨m0, rfl, t0, h0, i0⟩, ?_⟩
  intro m ρ' s' h
  obtain ⟨es, t, er, hI⟩ := h
  rw [es, ← er]
  exact step m t hI
theorem ER.keep {A : Amb} {W : Ot} {s0 s : A.S} {H0 H : Hp} {σ : Sg} {ρ : List Sl} {γ : List (D × V)} (R : ER A W s0 H0 s σ H ρ) (h : ∀ p ∈ γ, Rs (om true A W s σ ρ) H p.1 p.2) : ER A (W.keep γ) s0 H0 s σ H ρ :=
  ⟨R.amb, R.stp, R.wd, R.len, R.vals, R.own, fun p hp => (List.mem_append.mp hp).elim (R.gh p) (h p), R.uniq⟩
theorem ER.lose {A : Amb} {W : Ot} {s0 s : A.S} {H0 H : Hp} {σ : Sg} {ρ : List Sl} {γ : List (D × V)} (R : ER A (W.keep γ) s0 H0 s σ H ρ) : ER A W s0 H0 s σ H ρ :=
  ⟨R.amb, R.stp, R.wd, R.len, R.vals, R.own, fun p hp => R.gh p (List.mem_append_left _ hp), R.uniq⟩
section
variable {A : Amb} {wi : TI} {fi : FI A} {vs : List Nat} {tg : TG} {g : FG} {tb : TS} {b : FS A} {tc : TT} {fc : FT A}
theorem ss_for (hi : SdI A wi fi) (hg : SdG A vs tg g) (hb : SdS A tb b) : SdS A (tFor wi tg tb) (fFor fi g b) := fun W s0 H0 s σ H ρ P D R hp nx bk ct rt =>
  hi W s0 H0 s σ H ρ _ _ R hp fun l s1 J H1 ⟨⟨Iv, i0, step⟩⟩ R1 st1 ⟨γ, hγ, ok⟩ => by
    refine ⟨fun i m σ H => i + m = l.length + 1 ∧ ∃ ρ s, Iv i ρ s ∧ ER A (W.keep γ) s0 H0 s σ H ρ, ⟨l.length + 1, by omega, ρ, s1, i0, R1.keep hγ⟩, fun i m σ2 H2 ⟨hm, ρ2, s2, hI, R2⟩ => ?_⟩
    have gh : ∀ p ∈ γ, Rs (om true A (W.keep γ) s2 σ2 ρ2) H2 p.1 p.2 := fun p hp => R2.gh p (List.mem_append_right _ hp)
    obtain ⟨o1, o2⟩ := ok _ H2 i gh
    have st := step i ρ2 s2 hI
    cases e : l[i]? with
    | none =>
      rw [e] at st
      exact .inl ⟨o1 e, nx ρ2 s2 σ2 H2 st R2.lose⟩
    | some d =>
      rw [e] at st
      obtain ⟨go, yl⟩ := o2 d e
      have hl : i < l.length := (List.getElem?_eq_some_iff.mp e).1
      refine .inr ⟨go, fun σ' H' => ∃ ρ' s', Iv (i + 1) ρ' s' ∧ ER A (W.keep γ) s0 H0 s' σ' H' ρ', fun σ' H' h => ⟨m - 1, by omega, by omega, h⟩, fun x H3 y => ?_⟩
      have key : ∃ (R3 : ER A (W.keep γ) s0 H0 s2 σ2 H3 ρ2), Rs (om true A (W.keep γ) s2 σ2 ρ2) H3 d x := by
        rcases yl x H3 y with ⟨rfl, r⟩ | ⟨T, xs, ds, rfl, hT, rfl, rfl, r⟩
        · exact ⟨R2, r⟩
        · exact ⟨R2.alloc hT _, .tup upd_same (R2.fresh hT) (r.stp (Stp.fresh hT))⟩
      obtain ⟨R3, r3⟩ := key
      refine hg (W.keep γ) s0 H0 s2 σ2 H3 ρ2 d x _ _ R3 r3 st fun ρ' σ' hb' R4 _ _ _ => ?_
      refine hb (W.keep γ) s0 H0 s2 σ' H3 ρ' _ _ R4 hb' (fun ρ5 s5 σ5 H5 q R5 => ⟨ρ5, s5, q, R5⟩) (fun ρ5 s5 σ5 H5 q R5 => nx ρ5 s5 σ5 H5 q R5.lose) (fun ρ5 s5 σ5 H5 q R5 => ⟨ρ5, s5, q, R5⟩) fun r s5 v H5 q a1 a2 a3 a4 => rt r s5 v H5 q a1 a2 a3 ?_
      cases r <;> exact a4
theorem ss_while (hc : SdT A tc fc) (hb : SdS A tb b) : SdS A (tWhile tc tb) (fWhile fc b) := fun W s0 H0 s σ H ρ P D R hp nx bk ct rt => by
  obtain ⟨Iv, ⟨m0, h0⟩, step⟩ := hp.ex
  refine ⟨fun m σ H => ∃ ρ s, Iv m ρ s ∧ ER A W s0 H0 s σ H ρ, ⟨m0, ρ, s, h0, R⟩, fun m σ2 H2 ⟨ρ2, s2, hI, R2⟩ => ?_⟩
  refine hc W s0 H0 s2 σ2 H2 ρ2 _ _ R2 (step m ρ2 s2 hI) fun k s3 H3 hk R3 st3 => ?_
  have hk := Br.ite hk
  cases k with
  | false =>
    rw [if_neg (by decide)] at hk ⊢
    exact nx ρ2 s3 σ2 H3 hk R3
  | true =>
    rw [if_pos rfl] at hk ⊢
    refine ⟨fun σ' H' => ∃ m', m' < m ∧ ∃ ρ s, Iv m' ρ s ∧ ER A W s0 H0 s σ' H' ρ, fun σ' H' h => h, ?_⟩
    exact hb W s0 H0 s3 σ2 H3 ρ2 _ _ R3 hk (fun ρ5 s5 σ5 H5 ⟨m', hm, q⟩ R5 => ⟨m', hm, ρ5, s5, q, R5⟩) (fun ρ5 s5 σ5 H5 q R5 => nx ρ5 s5 σ5 H5 q R5) (fun ρ5 s5 σ5 H5 ⟨m', hm, q⟩ R5 => ⟨m', hm, ρ5, s5, q, R5⟩) rt
end
end Pd

set_option maxHeartbeats 4000000
namespace Pd
open PySem PySem.Spec PyProof.Rows L2
/-! ### list comprehensions -/
def notOwn (ρ : List Sl) (i : Nat) : Bool := match ρ[i]? with
  | some (.o _) => false
  | _ => true
def wipeR (ρ : List Sl) : List Nat → List Sl
  | [] => ρ
  | v :: vs => (wipeR ρ vs).set v .e
structure LcP {A : Amb} (l : List D) (g : FG) (tt : FT A) (fe : FE A) (ρ : List Sl) (s : A.S) (Φ : Mo → A.S → Prop) : Prop where
  len : l.length ≤ 16777216
  ex : ∃ Iv : Nat → List D → A.S → Prop, Iv 0 [] s ∧ ∀ i acc s, Iv i acc s → match l[i]? with
    | none => Φ (.lst acc) s
    | some d => g d ρ fun ρ' => tt ρ' s fun b s2 => Br b (fe ρ' s2 fun y s3 => Iv (i + 1) (acc ++ [y]) s3) (Iv (i + 1) acc s2)
def fLc {A : Amb} (fi : FI A) (vs : List Nat) (g : FG) (tt : FT A) (fe : FE A) : FO A := fun ρ s Φ => vs.all (notOwn ρ) = true ∧ fi ρ s fun l s1 => LcP l g tt fe (wipeR ρ vs) s1 Φ
theorem lc_go {A : Amb} {l : List D} {g : FG} {tt : FT A} {fe : FE A} {ρ : List Sl} {s : A.S} {Φ : Mo → A.S → Prop} (Inv : Nat → List D → Prop) (hl : l.length ≤ 16777216) (i0 : Inv 0 [])
    (step : ∀ i d acc, l[i]? = some d → Inv i acc → g d ρ fun ρ' => tt ρ' s fun b s2 => Br b (fe ρ' s2 fun y s3 => s3 = s ∧ Inv (i + 1) (acc ++ [y])) (s2 = s ∧ Inv (i + 1) acc))
    (fin : ∀ acc, Inv l.length acc → Φ (.lst acc) s) : LcP l g tt fe ρ s Φ := by
  refine ⟨hl, fun i acc s' => i ≤ l.length ∧ s' = s ∧ Inv i acc, ⟨Nat.zero_le _, rfl, i0⟩, ?_⟩
  intro i acc s' h
  obtain ⟨hi, es, hI⟩ := h
  rw [es]
  cases e : l[i]? with
  | none =>
    have h1 : l.length ≤ i := List.getElem?_eq_none_iff.mp e
    obtain rfl : i = l.length := by omega
    exact fin acc hI
  | some d =>
    have h1 : i < l.length := (List.getElem?_eq_some_iff.mp e).1
    have h2 := step i d acc e hI
    have e3 : ∀ (acc' : List D) (s3 : A.S), (i + 1 ≤ l.length ∧ s3 = s ∧ Inv (i + 1) acc') = (s3 = s ∧ Inv (i + 1) acc') := fun acc' s3 => propext ⟨fun h => h.2, fun h => ⟨h1, h⟩⟩
    show g d ρ fun ρ' => tt ρ' s fun b s2 => Br b (fe ρ' s2 fun y s3 => _ ∧ _) (_ ∧ _)
    simp only [e3]
    exact h2
/-- every item of the answer is as P says -/
theorem lc_all {A : Amb} {l : List D} {g : FG} {tt : FT A} {fe : FE A} {ρ : List Sl} {s : A.S} {Φ : Mo → A.S → Prop} (p : D → Prop) (hl : l.length ≤ 16777216)
    (step : ∀ d (C : D → A.S → Prop) (N : A.S → Prop), d ∈ l → (∀ y, p y → C y s) → (N s) → g d ρ fun ρ' => tt ρ' s fun b s2 => Br b (fe ρ' s2 C) (N s2))
    (fin : ∀ acc, (∀ d ∈ acc, p d) → acc.length ≤ l.length → Φ (.lst acc) s) : LcP l g tt fe ρ s Φ :=
  lc_go (fun i acc => (∀ d ∈ acc, p d) ∧ acc.length ≤ i) hl ⟨fun _ h => (nomatch h), Nat.le_refl _⟩
    (fun i d acc e hI => step d _ _ (List.mem_of_getElem? e) (fun y hy => ⟨rfl, fun d h => (List.mem_append.mp h).elim (hI.1 d) fun h => by rw [List.mem_singleton.mp h]; exact hy, by rw [List.length_append, List.length_singleton]; have := hI.2; omega⟩) ⟨rfl, hI.1, Nat.le_succ_of_le hI.2⟩)
    fun acc h => fin acc h.1 h.2
theorem ER.wipe {A : Amb} {W : Ot} {s0 s : A.S} {H0 H : Hp} {σ : Sg} {ρ : List Sl} (R : ER A W s0 H0 s σ H ρ) : ∀ vs : List Nat, ER A W s0 H0 s (L2.wipe σ vs) H (wipeR ρ vs)
  | [] => R
  | v :: vs => (ER.wipe R vs).setN v (x := none) (sl := .e) (fun m z => nomatch z) (fun d z => nomatch z)
theorem wipeR_out {ρ : List Sl} {i : Nat} : ∀ {vs : List Nat}, i ∉ vs → (wipeR ρ vs)[i]? = ρ[i]?
  | [], _ => rfl
  | v :: vs, h => by
    have h1 : v ≠ i := fun e => h (by rw [e]; exact List.mem_cons_self)
    show ((wipeR ρ vs).set v Sl.e)[i]? = ρ[i]?
    rw [List.getElem?_set_ne h1]
    exact wipeR_out fun m => h (List.mem_cons_of_mem _ m)
theorem wipe_in {σ : Sg} {i : Nat} : ∀ {vs : List Nat}, i ∈ vs → (L2.wipe σ vs)[i]? = if i < σ.length then some none else none
  | [], h => nomatch h
  | v :: vs, h => by
    show ((L2.wipe σ vs).set v none)[i]? = _
    by_cases e : v = i
    · subst e
      rw [List.getElem?_set]
      rw [if_pos rfl, wipe_length]
    · rw [List.getElem?_set_ne e]
      exact wipe_in ((List.mem_cons.mp h).resolve_left fun z => e z.symm)
theorem wipe_back {σ σ2 : Sg} {vs : List Nat} (o : Out vs (L2.wipe σ vs) σ2) : L2.wipe σ2 vs = L2.wipe σ vs := by
  apply List.ext_getElem?
  intro i
  by_cases h : i ∈ vs
  · rw [wipe_in h, wipe_in h, o.1, wipe_length]
  · rw [wipe_out h, o.2 i h]
theorem ER.oth {A : Amb} {W : Ot} {s0 s : A.S} {H0 H : Hp} {σ : Sg} {ρ : List Sl} {p : Addr} (R : ER A (W.add p) s0 H0 s σ H ρ) (h0 : H0 p = none) (hb : ¬ A.B s p) (o : HO) : ER A (W.add p) s0 H0 s σ (upd H p o) ρ := by
  have ag : Agr (om true A (W.add p) s σ ρ) H (upd H p o) := fun a u e n => by
    rw [upd_ne fun z => n (.inl (.inr z))]
    exact e
  refine ⟨A.loc R.amb fun a z => upd_ne fun e => by subst e; exact hb z, ⟨fun a u e n => ?_, R.stp.new, fun a z => ?_⟩, fun a w => ?_, R.len, fun i d e => ?_, fun i m e => ?_, fun q hq => (R.gh q hq).go (fun a z => .inl z) ag, R.uniq⟩
  · rw [upd_ne (ne_of_none e h0)]
    exact R.stp.agr a u e n
  · by_cases q : a = p
    · subst q; rw [upd_same]; simp
    · rw [upd_ne q]; exact R.stp.dom a z
  · by_cases q : a = p
    · subst q; rw [upd_same]; simp
    · rw [upd_ne q]; exact R.wd a w
  · obtain ⟨v, h1, h2⟩ := R.vals i d e
    exact ⟨v, h1, h2.go (fun a z => .inl z) ag⟩
  · obtain ⟨a, h1, h2, h3, h4, h5⟩ := R.own i m e
    have ne : a ≠ p := fun z => h4 (.inr z)
    exact ⟨a, h1, h2.go (fun a z => .inl z) ag (upd_ne ne), h3, h4, h5⟩
theorem om_blk {A : Amb} {W : Ot} {s : A.S} {σ σ2 : Sg} {ρ ρ2 : List Sl} {vs : List Nat} (ho : vs.all (notOwn ρ) = true) (o1 : Out vs (L2.wipe σ vs) σ2) (o2 : Out vs (wipeR ρ vs) ρ2) : ∀ a, om true A W s σ ρ a → om true A W s σ2 ρ2 a := fun a z => by
  rcases z with z | z | ⟨_, i, m, e1, e2⟩
  · exact .inl z
  · exact .inr (.inl z)
  · have ni : i ∉ vs := fun h => by
      have := List.all_eq_true.mp ho i h
      unfold notOwn at this
      rw [e1] at this
      cases this
    exact .inr (.inr ⟨rfl, i, m, by rw [o2.2 i ni, wipeR_out ni]; exact e1, by rw [o1.2 i ni, wipe_out ni]; exact e2⟩)
section
variable {A : Amb} {wi : TI} {fi : FI A} {vs ws : List Nat} {tg : TG} {g : FG} {tt : TT} {ft : FT A} {te : TE} {fe : FE A}
theorem st_yes : SdT A tYes (fun _ s Φ => Φ true s) := fun W s0 H0 s σ H ρ Φ Q R hp q => q true s H hp R Stp.refl
theorem so_lc (hi : SdI A wi fi) (hg : SdG A ws tg g) (hw : ∀ i ∈ ws, i ∈ vs) (ht : SdT A tt ft) (he : SdE A true false te fe) : SdO A (tLc wi tg tt te vs) (fLc fi vs g ft fe) := fun W s0 H0 s σ H ρ Φ Q R hp q => by
  obtain ⟨ho, hp⟩ := hp
  refine hi W s0 H0 s σ H ρ _ _ R hp fun l s1 J H1 ⟨hlen, ⟨Iv, i0, step⟩⟩ R1 st1 ⟨γ, hγ, ok⟩ => ?_
  intro D hD
  have hD0 : H D = none := by
    cases e : H D with
    | none => rfl
    | some o => exact (st1.dom D (by rw [e]; simp) hD).elim
  have hD00 := R.fresh0 hD0
  have bD1 : ¬ A.B s1 D := fun z => A.dom R1.amb z hD
  have wD1 : ¬ W.w D := fun z => R1.wd D z hD
  refine ⟨fun i m H2 => i + m = l.length + 1 ∧ ∃ acc accV s2, Iv i acc s2 ∧ acc.length ≤ i ∧ ER A ((W.keep γ).add D) s0 H0 s2 σ H2 ρ ∧ Stp A s s2 H H2 ∧ H2 D = some (.lst accV) ∧ RsL (om true A ((W.keep γ).add D) s2 σ ρ) H2 acc accV ∧ ¬ A.B s2 D,
    ⟨l.length + 1, by omega, [], [], s1, i0, Nat.zero_le _, (R1.keep hγ).wide hD _, st1.trans (Stp.fresh hD), upd_same, .nil, bD1⟩, fun i m H2 h => ?_⟩
  obtain ⟨hm, acc, accV, s2, hI, ha, R2, st2, eD, rA, bD⟩ := h
  have gh : ∀ p ∈ γ, Rs (om true A ((W.keep γ).add D) s2 σ ρ) H2 p.1 p.2 := fun p hp => R2.gh p (List.mem_append_right _ hp)
  obtain ⟨o1, o2⟩ := ok _ H2 i gh
  have st := step i acc s2 hI
  cases e : l[i]? with
  | none =>
    rw [e] at st
    exact .inl ⟨o1 e, q _ s2 D H2 st (ER.lose (W := W.add D) (γ := γ) R2) st2 hD0 ⟨accV, eD, rA⟩ wD1 bD⟩
  | some d =>
    rw [e] at st
    obtain ⟨go, yl⟩ := o2 d e
    have hl : i < l.length := (List.getElem?_eq_some_iff.mp e).1
    refine .inr ⟨go, fun H3 => ∃ acc accV s2, Iv (i + 1) acc s2 ∧ acc.length ≤ i + 1 ∧ ER A ((W.keep γ).add D) s0 H0 s2 σ H3 ρ ∧ Stp A s s2 H H3 ∧ H3 D = some (.lst accV) ∧ RsL (om true A ((W.keep γ).add D) s2 σ ρ) H3 acc accV ∧ ¬ A.B s2 D, fun H' h => ⟨m - 1, by omega, by omega, h⟩, fun x H3 y => ?_⟩
    have key : ∃ (R3 : ER A ((W.keep γ).add D) s0 H0 s2 σ H3 ρ) (st : Stp A s2 s2 H2 H3), Rs (om true A ((W.keep γ).add D) s2 σ ρ) H3 d x := by
      rcases yl x H3 y with ⟨rfl, r⟩ | ⟨T, xs, ds, rfl, hT, rfl, rfl, r⟩
      · exact ⟨R2, Stp.refl, r⟩
      · exact ⟨R2.alloc hT _, Stp.fresh hT, .tup upd_same (R2.fresh hT) (r.stp (Stp.fresh hT))⟩
    obtain ⟨R3, st3, r3⟩ := key
    have wk : ∀ a, om true A ((W.keep γ).add D) s2 (L2.wipe σ vs) (wipeR ρ vs) a → om true A ((W.keep γ).add D) s2 σ ρ a := fun a z => by
      rcases z with z | z | ⟨_, j, mj, e1, e2⟩
      · exact .inl z
      · exact .inr (.inl z)
      · have nj : j ∉ vs := fun h => by
          rw [wipe_in h] at e2
          split at e2 <;> cases e2
        rw [wipeR_out nj] at e1
        rw [wipe_out nj] at e2
        exact .inr (.inr ⟨rfl, j, mj, e1, e2⟩)
    refine hg _ s0 H0 s2 _ H3 _ d x _ _ (R3.wipe vs) (r3.weak wk) st fun ρ' σ' hb R4 p1 p2 _ => ?_
    have p1' := p1.mono hw
    have p2' := p2.mono hw
    refine ⟨wipe_back p1', ht _ s0 H0 s2 σ' H3 ρ' _ _ R4 hb fun b s4 H4 hb4 R5 st5 => ?_⟩
    have R3' := R3.go st5 R5.amb
    have eD4 : H4 D = some (.lst accV) ∧ ¬ A.B s4 D := by
      obtain ⟨k1, k2⟩ := keep_at (st3.trans st5) (by rw [eD]; simp) bD
      exact ⟨k1.trans eD, k2⟩
    have rA4 := rA.stp (st3.trans st5)
    have hb4 := Br.ite hb4
    cases b with
    | false =>
      rw [if_neg (by decide)] at hb4 ⊢
      exact ⟨acc, accV, s4, hb4, Nat.le_succ_of_le ha, R3', (st2.trans st3).trans st5, eD4.1, rA4, eD4.2⟩
    | true =>
      rw [if_pos rfl] at hb4 ⊢
      refine he _ s0 H0 s4 σ' H4 ρ' _ _ R5 hb4 fun y s6 v H6 h6 R6 st6 r6 => ?_
      obtain ⟨k1, k2⟩ := keep_at st6 (by rw [eD4.1]; simp) eD4.2
      have rA6 := (rA4.stp st6).append (.one (r6.rs.weak (om_blk ho p1' p2')))
      refine ⟨accV, k1.trans eD4.1, by rw [line_eq, rA.length]; omega, acc ++ [y], accV ++ [v], s6, h6, by simp; omega, (R3'.go st6 R6.amb).oth hD00 k2 _, ?_, upd_same, rA6.go (fun a z => .inl z) (fun a u ea na => ?_), k2⟩
      · have s7 := ((st2.trans st3).trans st5).trans st6
        exact ⟨fun a u ea na => by rw [upd_ne (ne_of_none ea hD0)]; exact s7.agr a u ea na, s7.new, fun a z => by
          by_cases qa : a = D
          · subst qa; rw [upd_same]; simp
          · rw [upd_ne qa]; exact s7.dom a z⟩
      · rw [upd_ne fun z => na (.inl (.inr z))]
        exact ea
end
/-! ### calls of built-ins -/
def SdC (A : Amb) (m m1 sh1 : Bool) (r : List V → Hp → VK → Prop) (op : List D → (D → Prop) → Prop) : Prop :=
  ∀ W s0 H0 s σ H ρ ds vs Φ Q, ER A W s0 H0 s σ H ρ → RVs A W s σ ρ H m1 sh1 ds vs → op ds Φ →
    (∀ d u H', Φ d → ER A W s0 H0 s σ H' ρ → Stp A s s H H' → RV A W s σ ρ H' m false d u → Q u H') → r vs H Q
def fCB {A : Amb} (op : List D → (D → Prop) → Prop) (fa : FA A) : FE A := fun ρ s Φ => fa ρ s fun ds s1 => op ds fun d => Φ d s1
section
variable {A : Amb} {m sh m1 sh1 : Bool} {n : Nat} {ta : TA} {fa : FA A} {r r' : List V → Hp → VK → Prop} {op : List D → (D → Prop) → Prop}
theorem sd_cb (hr : SdC A m m1 sh1 r op) (h : SdL A m1 sh1 n ta fa) : SdE A m sh (tCB r ta) (fCB op fa) := fun W s0 H0 s σ H ρ Φ Q R hp q =>
  h W s0 H0 s σ H ρ _ _ R hp fun ds s1 vs H1 h1 R1 st1 r1 _ => hr W s0 H0 s1 σ H1 ρ ds vs _ Q R1 r1 h1 fun d u H2 hd R2 st2 r2 => q d s1 u H2 hd R2 (st1.trans st2) r2.up
theorem sdc_same (h : ∀ ds vs H Φ Q W s σ ρ, RVs A W s σ ρ H m1 sh1 ds vs → op ds Φ → (∀ d u, Φ d → (∀ B, Rs B H d u) → Q u H) → r vs H Q) : SdC A m m1 sh1 r op :=
  fun W s0 H0 s σ H ρ ds vs Φ Q R rv ho q => h ds vs H Φ Q W s σ ρ rv ho fun d u hd hu => q d u H hd R Stp.refl (.inl (hu _))
end
theorem RVs.one {A : Amb} {W : Ot} {s : A.S} {σ : Sg} {ρ : List Sl} {H : Hp} {m sh : Bool} {d : D} {vs : List V} (r : RVs A W s σ ρ H m sh [d] vs) : ∃ v, vs = [v] ∧ RV A W s σ ρ H m sh d v := by
  cases r with
  | cons a b => cases b; exact ⟨_, rfl, a⟩
theorem RVs.two {A : Amb} {W : Ot} {s : A.S} {σ : Sg} {ρ : List Sl} {H : Hp} {m sh : Bool} {d e : D} {vs : List V} (r : RVs A W s σ ρ H m sh [d, e] vs) : ∃ v w, vs = [v, w] ∧ RV A W s σ ρ H m sh d v ∧ RV A W s σ ρ H m sh e w := by
  cases r with
  | cons a b =>
    obtain ⟨w, rfl, h⟩ := b.one
    exact ⟨_, _, rfl, a, h⟩
/-! len -/
def dLen (ds : List D) (Φ : D → Prop) : Prop := match ds with
  | [.lst l] => Φ (.int l.length)
  | [.tup l] => Φ (.int l.length)
  | [.str x] => x.length ≤ 16777216 ∧ Φ (.int x.length)
  | [.dct ks _] => Φ (.int ks.length)
  | _ => False
def rLenA (K : Fg) : List V → Hp → VK → Prop := fun xs H Q => (∃ x n, xs = [x] ∧ LenV K x H n ∧ Q (.int n) H) ∨ ∃ a kvs, xs = [V.ref a] ∧ H a = some (.dK kvs) ∧ Q (.int kvs.length) H
theorem call_lenA {X : Cx} : CallR X (.builtin "len") (rLenA X.K) := CallR.or call_len call_lenD
def dAbs (ds : List D) (Φ : D → Prop) : Prop := match ds with
  | [.int i] => Φ (.int i.natAbs)
  | _ => False
def dMax2 (ds : List D) (Φ : D → Prop) : Prop := match ds with
  | [.int i, .int j] => Φ (.int (max i j))
  | _ => False
def dMin2 (ds : List D) (Φ : D → Prop) : Prop := match ds with
  | [.int i, .int j] => Φ (.int (min i j))
  | _ => False
def dInt (ds : List D) (Φ : D → Prop) : Prop := match ds with
  | [.int i] => Φ (.int i)
  | [.bl k] => Φ (.int (if k then 1 else 0))
  | _ => False
def dStr (ds : List D) (Φ : D → Prop) : Prop := match ds with
  | [.int i] => i.natAbs.log2 < 1920 ∧ Φ (.str (toString i))
  | _ => False
def dAll (ds : List D) (Φ : D → Prop) : Prop := ∃ bs : List Bool, ds = [.lst (bs.map D.bl)] ∧ Φ (.bl (bs.all id))
def dAny (ds : List D) (Φ : D → Prop) : Prop := ∃ bs : List Bool, ds = [.lst (bs.map D.bl)] ∧ Φ (.bl (bs.any id))
def dSum (ds : List D) (Φ : D → Prop) : Prop := ∃ ns : List Int, ds = [.lst (ns.map D.int)] ∧ Φ (.int ns.sum)
def dMaxL (ds : List D) (Φ : D → Prop) : Prop := ∃ ns : List Int, ds = [.lst (ns.map D.int)] ∧ 0 < ns.length ∧ ∀ m, m ∈ ns → (∀ y, y ∈ ns → y ≤ m) → Φ (.int m)
def dMinL (ds : List D) (Φ : D → Prop) : Prop := ∃ ns : List Int, ds = [.lst (ns.map D.int)] ∧ 0 < ns.length ∧ ∀ m, m ∈ ns → (∀ y, y ∈ ns → m ≤ y) → Φ (.int m)
def dSorted (ds : List D) (Φ : D → Prop) : Prop := ∃ ns : List Int, ds = [.lst (ns.map D.int)] ∧ ∀ ns' : List Int, ns'.Perm ns → ns'.Pairwise (· ≤ ·) → Φ (.lst (ns'.map D.int))
def dList (ds : List D) (Φ : D → Prop) : Prop := match ds with
  | [.lst l] => Φ (.lst l)
  | [.tup l] => Φ (.lst l)
  | _ => False
def dTuple (ds : List D) (Φ : D → Prop) : Prop := match ds with
  | [.lst l] => Φ (.tup l)
  | [.tup l] => Φ (.tup l)
  | _ => False
section
variable {A : Amb} {m m1 sh1 : Bool} {K : Fg}
theorem sc_len : SdC A m m1 sh1 (rLenA K) dLen := sdc_same fun ds vs H Φ Q W s σ ρ rv h q => by
  unfold dLen at h
  split at h
  · obtain ⟨v, rfl, r⟩ := rv.one
    obtain ⟨a, xs, rfl, h1, h2, _⟩ := r.lst
    exact .inl ⟨_, _, rfl, .inl ⟨xs, .of h1, rfl⟩, by rw [h2.length]; exact q _ _ h fun B => .int _⟩
  · obtain ⟨v, rfl, r⟩ := rv.one
    obtain ⟨a, xs, rfl, h1, h2⟩ := r.tup
    exact .inl ⟨_, _, rfl, .inr ⟨xs, .of h1, rfl⟩, by rw [h2.length]; exact q _ _ h fun B => .int _⟩
  · obtain ⟨v, rfl, r⟩ := rv.one
    obtain rfl := r.str
    exact .inl ⟨_, _, rfl, ⟨by rw [line_eq]; exact h.1, rfl⟩, q _ _ h.2 fun B => .int _⟩
  · obtain ⟨v, rfl, r⟩ := rv.one
    have r2 := r.low
    cases r2 with
    | dct h1 n k r3 => exact .inr ⟨_, _, rfl, h1, q _ _ (by rw [← k, List.length_map] at h; exact h) fun B => .int _⟩
  · exact h.elim
theorem sc_abs : SdC A m m1 sh1 (fun xs H Q => ∃ i, xs = [.int i] ∧ Q (.int (if i < 0 then -i else i)) H) dAbs := sdc_same fun ds vs H Φ Q W s σ ρ rv h q => by
  unfold dAbs at h
  split at h
  · rename_i i
    obtain ⟨v, rfl, r⟩ := rv.one
    obtain rfl := r.int
    refine ⟨i, rfl, ?_⟩
    have e : (if i < 0 then -i else i) = ((i.natAbs : Nat) : Int) := by split <;> omega
    rw [e]
    exact q _ _ h fun B => .int _
  · exact h.elim
theorem sc_max2 : SdC A m m1 sh1 (fun xs H Q => ∃ i j, xs = [.int i, .int j] ∧ Q (.int (if j > i then j else i)) H) dMax2 := sdc_same fun ds vs H Φ Q W s σ ρ rv h q => by
  unfold dMax2 at h
  split at h
  · rename_i i j
    obtain ⟨v, w, rfl, r, r'⟩ := rv.two
    obtain rfl := r.int
    obtain rfl := r'.int
    refine ⟨i, j, rfl, ?_⟩
    have e : (if j > i then j else i) = max i j := by split <;> omega
    rw [e]
    exact q _ _ h fun B => .int _
  · exact h.elim
theorem sc_min2 : SdC A m m1 sh1 (fun xs H Q => ∃ i j, xs = [.int i, .int j] ∧ Q (.int (if j < i then j else i)) H) dMin2 := sdc_same fun ds vs H Φ Q W s σ ρ rv h q => by
  unfold dMin2 at h
  split at h
  · rename_i i j
    obtain ⟨v, w, rfl, r, r'⟩ := rv.two
    obtain rfl := r.int
    obtain rfl := r'.int
    refine ⟨i, j, rfl, ?_⟩
    have e : (if j < i then j else i) = min i j := by split <;> omega
    rw [e]
    exact q _ _ h fun B => .int _
  · exact h.elim
theorem sc_int : SdC A m m1 sh1 (fun xs H Q => (∃ i, xs = [.int i] ∧ Q (.int i) H) ∨ ∃ k, xs = [.bl k] ∧ Q (.int (if k then 1 else 0)) H) dInt := sdc_same fun ds vs H Φ Q W s σ ρ rv h q => by
  unfold dInt at h
  split at h
  · obtain ⟨v, rfl, r⟩ := rv.one
    obtain rfl := r.int
    exact .inl ⟨_, rfl, q _ _ h fun B => .int _⟩
  · obtain ⟨v, rfl, r⟩ := rv.one
    obtain rfl := r.bl
    exact .inr ⟨_, rfl, q _ _ h fun B => .int _⟩
  · exact h.elim
theorem sc_str : SdC A m m1 sh1 (fun xs H Q => ∃ i, xs = [.int i] ∧ i.natAbs.log2 < 1920 ∧ Q (.str (toString i)) H) dStr := sdc_same fun ds vs H Φ Q W s σ ρ rv h q => by
  unfold dStr at h
  split at h
  · obtain ⟨v, rfl, r⟩ := rv.one
    obtain rfl := r.int
    exact ⟨_, rfl, h.1, q _ _ h.2 fun B => .str _⟩
  · exact h.elim
theorem sc_all : SdC A m m1 sh1 (rAll K) dAll := sdc_same fun ds vs H Φ Q W s σ ρ rv h q => by
  obtain ⟨bs, rfl, h⟩ := h
  obtain ⟨v, rfl, r⟩ := rv.one
  obtain ⟨a, xs, rfl, h1, h2, _⟩ := r.lst
  obtain rfl := h2.bls
  exact ⟨a, bs, rfl, .of h1, q _ _ h fun B => .bl _⟩
theorem sc_any : SdC A m m1 sh1 (rAny K) dAny := sdc_same fun ds vs H Φ Q W s σ ρ rv h q => by
  obtain ⟨bs, rfl, h⟩ := h
  obtain ⟨v, rfl, r⟩ := rv.one
  obtain ⟨a, xs, rfl, h1, h2, _⟩ := r.lst
  obtain rfl := h2.bls
  exact ⟨a, bs, rfl, .of h1, q _ _ h fun B => .bl _⟩
theorem sc_sum : SdC A m m1 sh1 (rSum K) dSum := sdc_same fun ds vs H Φ Q W s σ ρ rv h q => by
  obtain ⟨bs, rfl, h⟩ := h
  obtain ⟨v, rfl, r⟩ := rv.one
  obtain ⟨a, xs, rfl, h1, h2, _⟩ := r.lst
  obtain rfl := h2.ints
  exact ⟨a, bs, rfl, .of h1, q _ _ h fun B => .int _⟩
theorem sc_maxL : SdC A m m1 sh1 (rMax K) dMaxL := sdc_same fun ds vs H Φ Q W s σ ρ rv h q => by
  obtain ⟨bs, rfl, hl, h⟩ := h
  obtain ⟨v, rfl, r⟩ := rv.one
  obtain ⟨a, xs, rfl, h1, h2, _⟩ := r.lst
  obtain rfl := h2.ints
  exact ⟨a, bs, rfl, .of h1, hl, fun m hm hy => q _ _ (h m hm hy) fun B => .int _⟩
theorem sc_minL : SdC A m m1 sh1 (rMin K) dMinL := sdc_same fun ds vs H Φ Q W s σ ρ rv h q => by
  obtain ⟨bs, rfl, hl, h⟩ := h
  obtain ⟨v, rfl, r⟩ := rv.one
  obtain ⟨a, xs, rfl, h1, h2, _⟩ := r.lst
  obtain rfl := h2.ints
  exact ⟨a, bs, rfl, .of h1, hl, fun m hm hy => q _ _ (h m hm hy) fun B => .int _⟩
theorem sc_sorted : SdC A m m1 sh1 (rSortedI K) dSorted := fun W s0 H0 s σ H ρ ds vs Φ Q R rv h q => by
  obtain ⟨ns, rfl, h⟩ := h
  obtain ⟨v, rfl, r⟩ := rv.one
  obtain ⟨a, xs, rfl, h1, h2, _⟩ := r.lst
  obtain rfl := h2.ints
  exact ⟨a, ns, rfl, .of h1, fun ns' p hp hs hn => q _ _ _ (h ns' hp hs) (R.alloc hn _) (Stp.fresh hn) (RV.newL R hn (RsL.ofInts _))⟩
theorem sc_list : SdC A m m sh1 (fun xs H Q => ∃ p ys, xs = [.ref p] ∧ (SqL K H p ys ∨ SqT K H p ys) ∧ ∀ l, H l = none → Q (.ref l) (upd H l (.lst ys))) dList := fun W s0 H0 s σ H ρ ds vs Φ Q R rv h q => by
  unfold dList at h
  split at h
  · obtain ⟨v, rfl, r⟩ := rv.one
    obtain ⟨a, xs, rfl, h1, h2, _⟩ := r.lst
    exact ⟨a, xs, rfl, .inl (.of h1), fun p hn => q _ _ _ h (R.alloc hn _) (Stp.fresh hn) (RV.newL R hn h2)⟩
  · obtain ⟨v, rfl, r⟩ := rv.one
    obtain ⟨a, xs, rfl, h1, h2⟩ := r.tup
    exact ⟨a, xs, rfl, .inr (.of h1), fun p hn => q _ _ _ h (R.alloc hn _) (Stp.fresh hn) (RV.newL R hn h2)⟩
  · exact h.elim
theorem sc_tuple : SdC A m m sh1 (fun xs H Q => ∃ p ys, xs = [.ref p] ∧ ((SqL K H p ys ∧ ∀ l, H l = none → Q (.ref l) (upd H l (.tup ys))) ∨ (SqT K H p ys ∧ Q (.ref p) H))) dTuple := fun W s0 H0 s σ H ρ ds vs Φ Q R rv h q => by
  unfold dTuple at h
  split at h
  · obtain ⟨v, rfl, r⟩ := rv.one
    obtain ⟨a, xs, rfl, h1, h2, _⟩ := r.lst
    exact ⟨a, xs, rfl, .inl ⟨.of h1, fun p hn => q _ _ _ h (R.alloc hn _) (Stp.fresh hn) (RV.newT R hn h2)⟩⟩
  · obtain ⟨v, rfl, r⟩ := rv.one
    have r0 := r.rsT
    obtain ⟨a, xs, rfl, h1, h2⟩ := r.tup
    exact ⟨a, xs, rfl, .inr ⟨.of h1, q _ _ H h R Stp.refl (.inl r0)⟩⟩
  · exact h.elim
end
end Pd

set_option maxHeartbeats 4000000
namespace Pd
open PySem PySem.Spec PyProof.Rows L2
/-! ### a def's promise, nothing under way that is shown -/
structure FnG (P : Program) (w : World) (K : Fg) (mg : Str → Option Value) (base : Heap) (CX : CXT) (k : Nat) (f : Addr) (fd : FuncData) (ps : List Str) (sp : Sp) : Prop where
  len : ∀ vs H Q E, sp vs H Q E → vs.length = ps.length
  run : ∀ (Ar : Around) (out : List Env) (s : Shared) (H : Hp) (ag : Args) (us : List Value) (vs : List V) (Q : VK) (E : XK), Ar.guards = some [] → Room k Ar → Env0 P w K mg base Ar out s H →
    BindsTo s fd ag (ps.zip us) → Vals vs us → sp vs H Q E → codeAny (model P w) Ar (.call (.ref f) ag) (CR CX out P w H s Q E) s
section
variable {P : Program} {w : World} {K : Fg} {mg : Str → Option Value} {base : Heap} {CX : CXT} {k : Nat}
theorem gn_of {x qual : Str} {st : Stmt} {f : Addr} {fd : FuncData} {N ps : List Str} {sp : Sp} (F : Fun K x qual st f fd) (S : FnScope N ps (defScope st)) (len : ∀ vs H Q E, sp vs H Q E → vs.length = ps.length)
    (hb : ∀ (cdv : Value) (Ar : Around) (out : List Env) (s : Shared) (H : Hp) (vs : List V) (Q : VK) (E : XK), (Ar.deeper (envOfC qual (defScope st) s.heap.objs.size f cdv)).guards = some [] → Room k (Ar.deeper (envOfC qual (defScope st) s.heap.objs.size f cdv)) → sp vs H Q E →
      ∃ t, PSs (cxOf CX P w K mg base N qual (defScope st) f cdv Ar out s H E) (defBody st) t ∧ t { nx := fun _ H' => Q .non H', rt := Q } (start N vs) H) : FnG P w K mg base CX (k + 1) f fd ps sp := by
  obtain ⟨oc, od, kV, doc, pm, an, cdv, ct, osl, rfl, lk, hcd⟩ := F.ex
  constructor
  · exact len
  · intro Ar out s H ag us vs Q E hgd hr e0 hbt rv hsp
    have hvl := len _ _ _ _ hsp
    have KX : K.In s.heap := e0.mod.kin.keeps fun b o e => (e0.bs b o e).1
    have nol : s.heap.NoLimit := e0.mod.nolimit.keeps fun b o e => (e0.bs b o e).1
    refine codeAny_call_function hr.depth (KX _ _ lk) rfl S.co S.gen rfl (PySem.W.codeRec_of KX hcd) (hbt _ _ _ _ ?_)
    refine wpAny_newFunctionEnv_cells S.kind (fun y hy => ?_) fun env he s1 inC => ?_
    · rcases S.par y.1 (List.of_mem_zip (show (y.1, y.2) ∈ ps.zip us from hy)).1 with q | q
      · exact Or.inl q
      · exact Or.inr ⟨q, PySem.W.cellsFrom_some _ _ _ (.inl q)⟩
    · subst he
      refine ⟨nol.keeps inC.toInCall.keep, codeAny_func ?_⟩
      obtain ⟨t, ht, hq⟩ := hb cdv Ar out s H vs Q E hgd (hr.deeper _) hsp
      have J := inv_start (CX := CX) (E := E) S hr.hd e0 hvl rv inC
      refine wpAny_mono (ht.run [] s1 (start N vs) H _ J hq) (fun fl s' hs => ?_) fun _ _ z => z
      cases fl with
      | ret u =>
        obtain ⟨v, σ', H', J2, r2, q2⟩ := hs
        exact ⟨v, H', J2.os, J2.bare, J2.base, J2.hok, r2, q2⟩
      | next =>
        obtain ⟨σ', H', J2, q2⟩ := hs
        exact ⟨.non, H', J2.os, J2.bare, J2.base, J2.hok, rfl, q2⟩
      | brk =>
        obtain ⟨_, _, _, q2⟩ := hs
        exact q2.elim
      | cont =>
        obtain ⟨_, _, _, q2⟩ := hs
        exact q2.elim
end
section
variable {X : Cx} {CX : CXT} {k : Nat} {f : Addr} {fd : FuncData} {ps : List Str} {sp : Sp} {dvs : List V} {ds : List Value} {E : XK} {x : Str} {p pos : Pos} {e : Expr} {es : List Expr} {t : TA}
theorem run_gn {pins : List (Addr × Obj)} {σ : Sg} {H : Hp} {s : Shared} {Q : VK} {us : List Value} {vs : List V} (F : FnG X.prog X.w X.K X.mg X.base CX k f fd ps sp) (hgd : X.A.guards = some []) (hr : Room k X.A) (hb : Binds X.K fd ps ds) (hd : Vals dvs ds) (hx : Passes CX X E)
    (J : Inv X pins σ H s) (rv : Vals vs us) (h : sp (vs ++ dvs) H Q E) : wpAny (model X.prog X.w) X.A (call (.ref f) us) (EP X pins σ Q) X.xe s := by
  have rv2 : Vals (vs ++ dvs) (us ++ ds) := rv.append hd
  have hsz : (us ++ ds).length = ps.length := by rw [← rv2.length]; exact F.len _ _ _ _ h
  refine wpAny_call (codeAny_mono (F.run X.A X.stack s H ⟨us, []⟩ (us ++ ds) (vs ++ dvs) Q E hgd hr J.env0 (hb s us J.kIn hsz) rv2 h) fun res s' hq => ?_)
  match res, hq with
  | .error er, hq => exact hx pins σ H s er s' J hq
  | .ok (.ret u), hq => exact J.after hq
  | .ok .next, hq => exact hq.elim
  | .ok .brk, hq => exact hq.elim
  | .ok .cont, hq => exact hq.elim
theorem pe_gn (F : FnG X.prog X.w X.K X.mg X.base CX k f fd ps sp) (hgd : X.A.guards = some []) (hr : Room k X.A) (hg : Gl X x) (hm : X.mg x = some (.ref f)) (hk : PySem.W.keepIn X.K (.ref f) = true) (hb : Binds X.K fd ps ds) (hd : Vals dvs ds) (hx : Passes CX X E)
    (ha : PA X (e :: es) t) (hdb : (x == ("__debug__" : Str)) = false := by decide) (he : starEach (e :: es) X.env = (false, eval e X.env) :: starEach es X.env := by rfl) (hpl : (backTo pos (starEach es X.env)).any (·.1) = false := by rfl) :
    PE X (.Call (.Name x p) (e :: es) [] pos) (tCall sp dvs E t) := by
  constructor
  intro pins s σ H Q J h
  apply wpAny_Call_Name_kw
  apply ld_glob J hg hm _ hdb
  exact PySem.W.callWith_K (h₀ := X.base) J.ok.mod.kin hk (thn (ha.run pos pins s σ H _ J h) fun us s1 ⟨vs, H1, J1, rv, q⟩ => ⟨J1.kIn, run_gn F hgd hr hb hd hx J1 rv q⟩) he hpl
end
/-! ### a def over trees -/
abbrev Pg (A : Amb) := List D → A.S → (Ret → A.S → Prop) → Prop
def spOf (A : Amb) (np : Nat) (g : Pg A) : Sp := fun vs H Q _ => ∃ (W : Ad) (s : A.S) (ds : List D) (Ψ : Ret → A.S → Prop), (∀ a, W a → H a ≠ none) ∧ A.I s H ∧ RsL (fun a => W a ∨ A.B s a) H ds vs ∧ ds.length = np ∧ g ds s Ψ ∧
  ∀ r s' v H', Ψ r s' → A.I s' H' → Stp A s s' H H' → (∀ a, W a → H' a ≠ none) → RetOk A ⟨W, []⟩ s H s' H' v r → Q v H'
def startR (N : List Str) (ds : List D) : List Sl := ds.map Sl.v ++ List.replicate (N.length - ds.length) Sl.e
theorem start_er {A : Amb} {N : List Str} {W : Ad} {s : A.S} {H : Hp} {ds : List D} {vs : List V} (hN : vs.length ≤ N.length) (w : ∀ a, W a → H a ≠ none) (i : A.I s H) (r : RsL (fun a => W a ∨ A.B s a) H ds vs) : ER A ⟨W, []⟩ s H s (start N vs) H (startR N ds) := by
  have hl := r.length
  have noOwn : ∀ (j : Nat) (m : Mo), (startR N ds)[j]? ≠ some (.o m) := fun j m z => by
    unfold startR at z
    rw [List.getElem?_append] at z
    split at z
    · rw [List.getElem?_map] at z
      cases q : ds[j]? with
      | none => rw [q] at z; cases z
      | some d => rw [q] at z; cases z
    · rw [List.getElem?_replicate] at z
      split at z <;> cases z
  have om_eq : ∀ a, om true A ⟨W, []⟩ s (start N vs) (startR N ds) a → W a ∨ A.B s a := fun a z => by
    rcases z with z | z | ⟨_, j, m, e, _⟩
    · exact .inl z
    · exact .inr z
    · exact (noOwn j m e).elim
  refine ⟨i, Stp.refl, w, ?_, fun j d e => ?_, fun j m e => (noOwn j m e).elim, fun p hp => (by cases hp), fun j k m m' e => (noOwn j m e).elim⟩
  · unfold L2.start startR
    simp only [List.length_append, List.length_map, List.length_replicate, hl]
  · have e' : ds[j]? = some d := by
      unfold startR at e
      rw [List.getElem?_append] at e
      split at e
      · rw [List.getElem?_map] at e
        cases q : ds[j]? with
        | none => rw [q] at e; cases e
        | some d => rw [q] at e; cases e; rfl
      · rw [List.getElem?_replicate] at e
        split at e <;> cases e
    obtain ⟨v, h1, h2⟩ := r.get e'
    refine ⟨v, ?_, h2.weak om_eq⟩
    unfold L2.start
    rw [List.getElem?_append, if_pos (by rw [List.length_map]; exact (List.getElem?_eq_some_iff.mp h1).1), List.getElem?_map, h1]
    rfl
/-- a def that can be called: its name, its promise -/
structure Cal (P : Program) (w : World) (K : Fg) (mg : Str → Option Value) (base : Heap) (A : Amb) (k : Nat) (x : Str) (np : Nat) (g : Pg A) : Prop where
  ex : ∃ (f : Addr) (fd : FuncData) (ps : List Str), FnG P w K mg base CX0 k f fd ps (spOf A np g) ∧ mg x = some (.ref f) ∧ PySem.W.keepIn K (.ref f) = true ∧ Binds K fd ps []
/-- what the top says of a def -/
structure Dfn (K : Fg) (mg : Str → Option Value) (x : Str) (st : Stmt) (ps : List Str) : Prop where
  ex : ∃ (f : Addr) (fd : FuncData), Fun K x x st f fd ∧ mg x = some (.ref f) ∧ Binds K fd ps []
section
variable {P : Program} {w : World} {K : Fg} {mg : Str → Option Value} {base : Heap} {k : Nat} {A : Amb}
theorem cal_of {x : Str} {st : Stmt} {N ps : List Str} {np : Nat} {g : Pg A} {ff : FS A} (F : Dfn K mg x st ps) (S : FnScope N ps (defScope st)) (hnp : ps.length = np) (hN : np ≤ N.length)
    (hb : ∀ (f : Addr) (cdv : Value) (Ar : Around) (out : List Env) (s : Shared) (H : Hp) (E : XK), (Ar.deeper (envOfC x (defScope st) s.heap.objs.size f cdv)).guards = some [] → Room k (Ar.deeper (envOfC x (defScope st) s.heap.objs.size f cdv)) →
      ∃ t, QSs (cxOf CX0 P w K mg base N x (defScope st) f cdv Ar out s H E).nox A (defBody st) t ff)
    (hp : ∀ (ds : List D) (s : A.S) (Ψ : Ret → A.S → Prop), ds.length = np → g ds s Ψ → ff { nx := fun _ s => Ψ (.d .non) s, rt := Ψ } (startR N ds) s) : Cal P w K mg base A (k + 1) x np g := by
  obtain ⟨f, fd, F, hm, bi⟩ := F.ex
  refine ⟨f, fd, ps, gn_of F S (fun vs H Q E h => ?_) (fun cdv Ar out s H vs Q E hgd hr h => ?_), hm, F.kp, bi⟩
  · obtain ⟨W, s, ds, Ψ, _, _, r, e, _⟩ := h
    rw [r.length, e, hnp]
  · obtain ⟨W, sa, ds, Ψ, hw, hi, r, e, hg, q⟩ := h
    obtain ⟨t, hq⟩ := hb f cdv Ar out s H E hgd hr
    refine ⟨t, hq.ps.nox, hq.sd ⟨W, []⟩ sa H sa _ H _ _ _ (start_er (by rw [r.length, e]; exact hN) hw hi r) (hp ds sa Ψ e hg) (fun ρ' s' σ' H' h R => ?_) (fun _ _ _ _ h => h.elim) (fun _ _ _ _ h => h.elim) fun rr s' v H' h1 h2 h3 h4 h5 => q rr s' v H' h1 h2 h3 h4 h5⟩
    exact q _ s' .non H' h R.amb R.stp R.wd .non
end
/-! ### calls of defs over trees -/
structure Sp {A : Amb} (g : Pg A) (ds : List D) (s : A.S) (Ψ : Ret → A.S → Prop) : Prop where
  go : g ds s Ψ
def fCall {A : Amb} (g : Pg A) (fa : FA A) : FE A := fun ρ s Φ => fa ρ s fun ds s1 => Sp g ds s1 fun r s2 => match r with
  | .d d => Φ d s2
  | .o (.lst l) => Φ (.lst l) s2
  | .o (.dk ks vs) => Φ (.dct ks vs) s2
  | .o (.dt _ _) => False
def fCallO {A : Amb} (g : Pg A) (fa : FA A) : FO A := fun ρ s Φ => fa ρ s fun ds s1 => Sp g ds s1 fun r s2 => match r with
  | .o m => Φ m s2
  | .d _ => False
theorem ER.goAdd {A : Amb} {W : Ot} {s0 s s' : A.S} {H0 H H' : Hp} {σ : Sg} {ρ : List Sl} {p : Addr} (R : ER A W s0 H0 s σ H ρ) (h : Stp A s s' H H') (i : A.I s' H') (hp : H p = none) (hp' : H' p ≠ none) : ER A (W.add p) s0 H0 s' σ H' ρ := by
  have hB : ∀ a, om true A (W.add p) s' σ ρ a → om true A W s σ ρ a ∨ H a = none := fun a z => by
    rcases z with (z | z) | z | z
    · exact .inl (.inl z)
    · subst z; exact .inr hp
    · exact (h.new a z).imp (fun y => .inr (.inl y)) id
    · exact .inl (.inr (.inr z))
  have hA : Agr (om true A W s σ ρ) H H' := om_agr true h
  refine ⟨i, R.stp.trans h, fun a w => ?_, R.len, fun j d e => ?_, fun j m e => ?_, fun q hq => (R.gh q hq).go hB hA, R.uniq⟩
  · rcases w with w | rfl
    · exact h.dom a (R.wd a w)
    · exact hp'
  · obtain ⟨v, h1, h2⟩ := R.vals j d e
    exact ⟨v, h1, h2.go hB hA⟩
  · obtain ⟨a, h1, h2, h3, h4, h5⟩ := R.own j m e
    obtain ⟨k1, k2⟩ := keep_at h h2.some h5
    exact ⟨a, h1, h2.go hB hA k1, h3, fun z => z.elim h4 fun e => by subst e; exact h2.some hp, k2⟩
section
variable {A : Amb} {m sh : Bool} {np : Nat} {g : Pg A} {ta : TA} {fa : FA A}
theorem sd_call (h : SdL A m false np ta fa) : SdE A m sh (tCall (spOf A np g) [] E0 ta) (fCall g fa) := fun W s0 H0 s σ H ρ Φ Q R hp q =>
  h W s0 H0 s σ H ρ _ _ R hp fun ds s1 vs H1 hg R1 st1 r1 hl => by
    have wc : ∀ a, (W.w a ∨ (m = true ∧ ownS σ ρ a)) → H1 a ≠ none := fun a z => by
      rcases z with z | ⟨_, i, mo, e1, e2⟩
      · exact R1.wd a z
      · obtain ⟨b, k1, k2, _⟩ := R1.own i mo e1
        rw [k1] at e2
        cases e2
        exact k2.some
    have r1' : RsL (fun a => (W.w a ∨ (m = true ∧ ownS σ ρ a)) ∨ A.B s1 a) H1 ds (vs ++ []) := by
      rw [List.append_nil]
      refine r1.rs.weak fun a z => ?_
      rcases z with (z | z) | z
      · exact .inl z
      · exact .inr (.inr z)
      · exact .inr (.inl z)
    refine ⟨fun a => W.w a ∨ (m = true ∧ ownS σ ρ a), s1, ds, _, wc, R1.amb, r1', hl, hg.go, fun r s2 v H2 hr i2 st2 _ rk => ?_⟩
    · have R2 := R1.go st2 i2
      have ow : ∀ a, om m A W s2 σ ρ a → (W.w a ∨ (m = true ∧ ownS σ ρ a)) ∨ A.B s2 a := fun a z => by
        rcases z with z | z | z
        · exact .inl (.inl z)
        · exact .inr z
        · exact .inl (.inr z)
      cases r with
      | d d => exact q d s2 v H2 hr R2 (st1.trans st2) (.inl (Rs.weak rk ow))
      | o mo =>
        obtain ⟨p, rfl, k1, k2, k3, k4⟩ := rk
        have np : ¬ om m A W s2 σ ρ p := fun z => (ow p z).elim k2 k3
        have ow2 : ∀ a, om m A W s2 σ ρ a → ((W.w a ∨ (m = true ∧ ownS σ ρ a)) ∨ a = p) ∨ A.B s2 a := fun a z => (ow a z).imp .inl id
        cases mo with
        | lst l => obtain ⟨xs, g1, g2⟩ := k4; exact q _ s2 _ H2 hr R2 (st1.trans st2) (.inl (.lst g1 np (g2.weak ow2)))
        | dk ks vs => obtain ⟨kvs, g1, g3, g2⟩ := k4; exact q _ s2 _ H2 hr R2 (st1.trans st2) (.inl (.dct g1 np g3 (g2.weak ow2)))
        | dt ks vs => exact hr.elim
theorem so_call (h : SdL A true false np ta fa) : SdO A (tCall (spOf A np g) [] E0 ta) (fCallO g fa) := fun W s0 H0 s σ H ρ Φ Q R hp q =>
  h W s0 H0 s σ H ρ _ _ R hp fun ds s1 vs H1 hg R1 st1 r1 hl => by
    have wc : ∀ a, (W.w a ∨ ownS σ ρ a) → H1 a ≠ none := fun a z => by
      rcases z with z | ⟨i, mo, e1, e2⟩
      · exact R1.wd a z
      · obtain ⟨b, k1, k2, _⟩ := R1.own i mo e1
        rw [k1] at e2
        cases e2
        exact k2.some
    have r1' : RsL (fun a => (W.w a ∨ ownS σ ρ a) ∨ A.B s1 a) H1 ds (vs ++ []) := by
      rw [List.append_nil]
      refine r1.rs.weak fun a z => ?_
      rcases z with (z | z) | z
      · exact .inl z
      · exact .inr (.inr ⟨rfl, z⟩)
      · exact .inr (.inl z)
    refine ⟨fun a => W.w a ∨ ownS σ ρ a, s1, ds, _, wc, R1.amb, r1', hl, hg.go, fun r s2 v H2 hr i2 st2 _ rk => ?_⟩
    · cases r with
      | d d => exact hr.elim
      | o mo =>
        obtain ⟨p, rfl, k1, k2, k3, k4⟩ := rk
        refine q mo s2 p H2 hr (R1.goAdd st2 i2 k1 k4.some) (st1.trans st2) ?_ (k4.go (fun a z => .inl ?_) Agr.refl rfl) (fun z => k2 (.inl z)) k3
        · cases e : H p with
          | none => rfl
          | some o => exact (st1.dom p (by rw [e]; simp) k1).elim
        · rcases z with (z | z) | z | ⟨_, z⟩
          · exact .inl (.inl (.inl z))
          · exact .inl (.inr z)
          · exact .inr z
          · exact .inl (.inl (.inr z))
end
/-! ### isinstance, built-in classes -/
inductive BT where
  | int | bool | str | tuple | list | dict
def BT.nm : BT → String
  | .int => "int"
  | .bool => "bool"
  | .str => "str"
  | .tuple => "tuple"
  | .list => "list"
  | .dict => "dict"
def isB : BT → D → Bool
  | .int, .int _ => true
  | .int, .bl _ => true
  | .bool, .bl _ => true
  | .str, .str _ => true
  | .tuple, .tup _ => true
  | .list, .lst _ => true
  | .dict, .dct _ _ => true
  | _, _ => false
def tyN : D → String
  | .non => "NoneType"
  | .bl _ => "bool"
  | .int _ => "int"
  | .str _ => "str"
  | .tup _ => "tuple"
  | .lst _ => "list"
  | .dct _ _ => "dict"
  | .any _ => ""
def D.known : D → Prop
  | .any _ => False
  | _ => True
theorem isB_kit {K : Fg} {b : BT} {d : D} (h : d.known) : PySem.W.kitOne K (.type (tyN d)) (.type b.nm) = some (isB b d) := by
  cases d with
  | any => exact h.elim
  | _ => cases b <;> exact kit_ty (by simp only [tyN, BT.nm, isB]; decide +kernel)
theorem Rs.tyOf {K : Fg} {B : Ad} {H : Hp} {d : D} {v : V} (r : Rs B H d v) (h : d.known) : TyX K H v (.type (tyN d)) := by
  cases r with
  | non => exact .base .non
  | bl b => exact .base (.bl b)
  | int b => exact .base (.int b)
  | str b => exact .base (.str b)
  | any => exact h.elim
  | tup e _ _ => exact .base (.tup e)
  | lst e _ _ => exact .base (.lst e)
  | dct e _ _ _ => exact .base (.dK e)
def fIsi {A : Amb} (b : BT) (f : FE A) : FE A := fun ρ s Φ => f ρ s fun d s1 => d.known ∧ Φ (.bl (isB b d)) s1
theorem sd_isi {A : Amb} {m sh : Bool} {K : Fg} {b : BT} {ta : TE} {fa : FE A} (h : SdE A false true ta fa) : SdE A m sh (tCB (rIsi K) (tCons ta (tCons (tC (.ty b.nm)) tNil))) (fIsi b fa) := fun W s0 H0 s σ H ρ Φ Q R hp q =>
  h W s0 H0 s σ H ρ _ _ R hp fun d s1 v H1 hd R1 st1 r1 => ⟨v, .ty b.nm, .type (tyN d), .type b.nm, isB b d, rfl, .ty _, r1.low.tyOf hd.1, isB_kit hd.1, q _ s1 _ H1 hd.2 R1 st1 (.inl (.bl _))⟩
/-! ### list(range(..)) -/
abbrev FR (A : Amb) := List Sl → A.S → (Int → Int → A.S → Prop) → Prop
abbrev TR := Sg → Hp → (Int → Int → Hp → Prop) → Prop
def SdRg (A : Amb) (t : TR) (f : FR A) : Prop := ∀ W s0 H0 s σ H ρ Φ Q, ER A W s0 H0 s σ H ρ → f ρ s Φ → (∀ a b s' H', Φ a b s' → ER A W s0 H0 s' σ H' ρ → Stp A s s' H H' → Q a b H') → t σ H Q
def fR1 {A : Amb} (f : FE A) : FR A := fun ρ s Φ => f ρ s fun d s1 => match d with
  | .int n => Φ 0 n s1
  | _ => False
def fR2 {A : Amb} (f g : FE A) : FR A := fun ρ s Φ => f ρ s fun d s1 => g ρ s1 fun e s2 => match d, e with
  | .int i, .int j => Φ i j s2
  | _, _ => False
def fLstRg {A : Amb} (f : FR A) : FE A := fun ρ s Φ => f ρ s fun a b s1 => RgOk a b ∧ Φ (.lst (rangeD a (b - a).toNat)) s1
def fTupRg {A : Amb} (f : FR A) : FE A := fun ρ s Φ => f ρ s fun a b s1 => RgOk a b ∧ Φ (.tup (rangeD a (b - a).toNat)) s1
theorem rgV_rs {B : Ad} {H : Hp} {a b : Int} : RsL B H (rangeD a (b - a).toNat) (rgV a b) := by
  unfold rangeD rgV
  generalize List.range (b - a).toNat = l
  induction l with
  | nil => exact .nil
  | cons x l ih => exact .cons (.int _) ih
section
variable {A : Amb} {m sh m1 sh1 m2 sh2 : Bool} {ta tb : TE} {fa fb : FE A} {t : TR} {f : FR A}
theorem sr_1 (h : SdE A m1 sh1 ta fa) : SdRg A (tRg1 ta) (fR1 fa) := fun W s0 H0 s σ H ρ Φ Q R hp q => h W s0 H0 s σ H ρ _ _ R hp fun d s1 v H1 hd R1 st1 r1 => by
  cases d with
  | int n => obtain rfl := r1.int; exact ⟨n, rfl, q 0 n s1 H1 hd R1 st1⟩
  | _ => exact hd.elim
theorem sr_2 (h : SdE A m1 sh1 ta fa) (h2 : SdE A m2 sh2 tb fb) : SdRg A (tRg2 ta tb) (fR2 fa fb) := fun W s0 H0 s σ H ρ Φ Q R hp q => h W s0 H0 s σ H ρ _ _ R hp fun d s1 v H1 hd R1 st1 r1 => h2 W s0 H0 s1 σ H1 ρ _ _ R1 hd fun e s2 w H2 he R2 st2 r2 => by
  cases d with
  | int i =>
    cases e with
    | int j =>
      obtain rfl := r1.int
      obtain rfl := r2.int
      exact ⟨i, j, rfl, rfl, q i j s2 H2 he R2 (st1.trans st2)⟩
    | _ => exact he.elim
  | _ => exact he.elim
theorem sd_lstRg (h : SdRg A t f) : SdE A m sh (tLstRg t) (fLstRg f) := fun W s0 H0 s σ H ρ Φ Q R hp q => h W s0 H0 s σ H ρ _ _ R hp fun a b s1 H1 hd R1 st1 =>
  ⟨hd.1, fun p hn => q _ s1 _ _ hd.2 (R1.alloc hn _) (st1.trans (Stp.fresh hn)) (RV.newL R1 hn rgV_rs)⟩
theorem sd_tupRg (h : SdRg A t f) : SdE A m sh (tTupRg t) (fTupRg f) := fun W s0 H0 s σ H ρ Φ Q R hp q => h W s0 H0 s σ H ρ _ _ R hp fun a b s1 H1 hd R1 st1 =>
  ⟨hd.1, fun p hn => q _ s1 _ _ hd.2 (R1.alloc hn _) (st1.trans (Stp.fresh hn)) (RV.newT R1 hn rgV_rs)⟩
end
end Pd

set_option maxHeartbeats 4000000
namespace Pd
open PySem PySem.Spec PyProof.Rows L2
theorem bt_len : bootBuiltins "len" = some (.builtin "len") := by decide +kernel
theorem bt_abs : bootBuiltins "abs" = some (.builtin "abs") := by decide +kernel
theorem bt_min : bootBuiltins "min" = some (.builtin "min") := by decide +kernel
theorem bt_max : bootBuiltins "max" = some (.builtin "max") := by decide +kernel
theorem bt_sum : bootBuiltins "sum" = some (.builtin "sum") := by decide +kernel
theorem bt_all : bootBuiltins "all" = some (.builtin "all") := by decide +kernel
theorem bt_any : bootBuiltins "any" = some (.builtin "any") := by decide +kernel
theorem bt_sorted : bootBuiltins "sorted" = some (.builtin "sorted") := by decide +kernel
theorem bt_isinstance : bootBuiltins "isinstance" = some (.builtin "isinstance") := by decide +kernel
theorem bt_int : bootBuiltins "int" = some (.type "int") := by decide +kernel
theorem bt_str : bootBuiltins "str" = some (.type "str") := by decide +kernel
theorem bt_list : bootBuiltins "list" = some (.type "list") := by decide +kernel
theorem bt_tuple : bootBuiltins "tuple" = some (.type "tuple") := by decide +kernel
theorem bt_bool : bootBuiltins "bool" = some (.type "bool") := by decide +kernel
theorem bt_dict : bootBuiltins "dict" = some (.type "dict") := by decide +kernel
structure QL (X : Cx) (A : Amb) (m sh : Bool) (n : Nat) (es : List Expr) (t : TA) (f : FA A) : Prop where
  pa : PA X es t
  sd : SdL A m sh n t f
structure QX (X : Cx) (A : Amb) (n : Nat) (es : List Expr) (t : TA) (f : FX A) : Prop where
  pa : PA X es t
  sd : SdX A n t f
structure QP (X : Cx) (A : Amb) (e : Option Expr) (t : TO) (f : FP A) : Prop where
  po : PO X e t
  sd : SdP A t f
structure QG (X : Cx) (A : Amb) (vs : List Nat) (e : Expr) (t : TG) (g : FG) : Prop where
  pg : PG X e t
  sd : SdG A vs t g
structure QGs (X : Cx) (A : Amb) (vs : List Nat) (es : List Expr) (t : TGs) (g : FGs) : Prop where
  pg : PGs X es t
  sd : SdGs A vs t g
structure QI (X : Cx) (A : Amb) (tg it : Expr) (w : TI) (f : FI A) : Prop where
  pi : PI X tg it w
  sd : SdI A w f
structure QTs (X : Cx) (A : Amb) (es : List Expr) (t : TT) (f : FT A) : Prop where
  pt : PTs X es t
  sd : SdT A t f
structure QW (X : Cx) (A : Amb) (e : Expr) (t : TT) (f : FT A) : Prop where
  pw : PW X e t
  sd : SdT A t f
/-- a comparison -/
structure CO (X : Cx) (A : Amb) (op : CmpOp) (r : R2) (d : D → D → (D → Prop) → Prop) : Prop where
  ho : OpR X (compareOp op) r
  hs : ∀ m, SdR A m false true false true r d
/-- an operator -/
structure BO (X : Cx) (A : Amb) (m : Bool) (op : Operator) (r : R2) (d : D → D → (D → Prop) → Prop) : Prop where
  ho : OpR X (binaryOp op) r
  hs : SdR A m m true m true r d
section
variable {X : Cx} {A : Amb} {m sh : Bool} {a b c e : Expr} {ta tb tc te : TE} {fa fb fc fe : FE A} {pos p p2 : Pos} {x : Str} {i j n : Nat}
/-! names, constants -/
theorem q_v (i : Nat) (hN : X.N[i]? = some x := by rfl) (hv : Vis X.env.scope x := by first | exact Or.inl rfl | exact Or.inr (Or.inl rfl) | exact Or.inr (Or.inr rfl)) (hd : (x == ("__debug__" : Str)) = false := by decide) (hcd : (x == ("__classdict__" : Str)) = false := by decide) :
    QE X A m sh (.Name x pos) (tVar i) (fV i) := ⟨pe_var hN hv hd hcd, sd_v i⟩
theorem q_w (i : Nat) (hN : X.N[i]? = some x := by rfl) (hv : Vis X.env.scope x := by first | exact Or.inl rfl | exact Or.inr (Or.inl rfl) | exact Or.inr (Or.inr rfl)) (hd : (x == ("__debug__" : Str)) = false := by decide) (hcd : (x == ("__classdict__" : Str)) = false := by decide) :
    QE X A m true (.Name x pos) (tVar i) (fW i) := ⟨pe_var hN hv hd hcd, sd_w i (.inl rfl)⟩
theorem q_u (i : Nat) (hN : X.N[i]? = some x := by rfl) (hv : Vis X.env.scope x := by first | exact Or.inl rfl | exact Or.inr (Or.inl rfl) | exact Or.inr (Or.inr rfl)) (hd : (x == ("__debug__" : Str)) = false := by decide) (hcd : (x == ("__classdict__" : Str)) = false := by decide) :
    QE X A false sh (.Name x pos) (tVar i) (fU i) := ⟨pe_var hN hv hd hcd, sd_u i⟩
theorem q_int {k : Int} {jj : Nat} : QE X A m sh (.Constant (.int k) jj pos) (tC (.int k)) (fC (.int k)) := ⟨pe_int, sd_c fun _ _ => .int k⟩
theorem q_bl {k : Bool} {jj : Nat} : QE X A m sh (.Constant (.bool k) jj pos) (tC (.bl k)) (fC (.bl k)) := ⟨pe_bl, sd_c fun _ _ => .bl k⟩
theorem q_non {jj : Nat} : QE X A m sh (.Constant .none jj pos) (tC .non) (fC .non) := ⟨pe_non, sd_c fun _ _ => .non⟩
theorem q_str {k : Str} {jj : Nat} : QE X A m sh (.Constant (.str k) jj pos) (tC (.str k)) (fC (.str k)) := ⟨pe_str, sd_c fun _ _ => .str k⟩
theorem q_gint {k : Int} (hm : ∃ t, X.mg x = some (.int k t)) (hg : Gl X x := by rfl) (hd : (x == ("__debug__" : Str)) = false := by decide) : QE X A m sh (.Name x pos) (tC (.int k)) (fC (.int k)) :=
  let ⟨t, h⟩ := hm; ⟨pe_glob hg h ⟨t, rfl⟩ hd, sd_c fun _ _ => .int k⟩
theorem q_gstr {k : Str} (hm : ∃ t, X.mg x = some (.str k t)) (hg : Gl X x := by rfl) (hd : (x == ("__debug__" : Str)) = false := by decide) : QE X A m sh (.Name x pos) (tC (.str k)) (fC (.str k)) :=
  let ⟨t, h⟩ := hm; ⟨pe_glob hg h ⟨t, rfl⟩ hd, sd_c fun _ _ => .str k⟩
theorem q_scal {m1 sh1 : Bool} (h : QE X A m1 sh1 a ta fa) : QE X A m sh a ta (fScal fa) := ⟨h.pe, sd_scal h.sd⟩
theorem q_ov {f : FO A} (h : QO X A a ta f) : QE X A m sh a ta (fOV f) := ⟨h.pe, sd_ov h.sd⟩
/-! operators -/
theorem bo_add : BO X A m .Add (rAddA X.K) dAdd := ⟨op_addA, sdr_add⟩
theorem bo_sub : BO X A m .Sub (rI0 fun i j => .int (i - j)) (dI0 fun i j => .int (i - j)) := ⟨op_sub, sdr_I0i⟩
theorem bo_mul : BO X A m .Mult rMulA dMul := ⟨op_mulA, sdr_mul⟩
theorem bo_div : BO X A m .FloorDiv (rI CDivW fun i j => .int (i / j)) (dI CDivW fun i j => .int (i / j)) := ⟨op_fdivW, sdr_Ii⟩
theorem bo_mod : BO X A m .Mod (rI (fun _ j => 0 < j) fun i j => .int (i % j)) (dI (fun _ j => 0 < j) fun i j => .int (i % j)) := ⟨op_mod, sdr_Ii⟩
theorem bo_pow : BO X A m .Pow (rI CPow fun i j => .int (i ^ j.toNat)) (dI CPow fun i j => .int (i ^ j.toNat)) := ⟨op_pow, sdr_Ii⟩
theorem q_bin {op : Operator} {r : R2} {d : D → D → (D → Prop) → Prop} (B : BO X A m op r d) (ha : QE X A m true a ta fa) (hb : QE X A m true b tb fb) : QE X A m sh (.BinOp a op b pos) (tOp r ta tb) (fBin d fa fb) := ⟨pe_op B.ho ha.pe hb.pe, sd_bin B.hs ha.sd hb.sd⟩
theorem q_neg (ha : QE X A false true a ta fa) : QE X A m sh (.UnaryOp .USub a pos) (tUn (rU fun i => .int (-i)) ta) (fUn dNeg fa) := ⟨pe_un un_neg ha.pe, sd_neg ha.sd⟩
/-! comparisons -/
theorem co_lt : CO X A .Lt (rI0 fun i j => .bl (decide (i < j))) (dI0 fun i j => .bl (decide (i < j))) := ⟨op_lt, fun _ => sdr_I0b⟩
theorem co_le : CO X A .LtE (rI0 fun i j => .bl (decide (i ≤ j))) (dI0 fun i j => .bl (decide (i ≤ j))) := ⟨op_le, fun _ => sdr_I0b⟩
theorem co_gt : CO X A .Gt (rI0 fun i j => .bl (decide (j < i))) (dI0 fun i j => .bl (decide (j < i))) := ⟨op_gt, fun _ => sdr_I0b⟩
theorem co_ge : CO X A .GtE (rI0 fun i j => .bl (decide (j ≤ i))) (dI0 fun i j => .bl (decide (j ≤ i))) := ⟨op_ge, fun _ => sdr_I0b⟩
theorem co_eq (hu : X.A.units + 64 < cLine) : CO X A .Eq (rEqA X.K) dEq := ⟨op_eqA hu, fun _ => sdr_eq⟩
theorem co_ne (hu : X.A.units + 64 < cLine) : CO X A .NotEq (rNeA X.K) dNe := ⟨op_neA hu, fun _ => sdr_ne⟩
theorem co_is : CO X A .Is (fun x y H Q => y = .non ∧ Q (.bl (decide (x = .non))) H) dIsN := ⟨op_isN, fun _ => sdr_isN⟩
theorem co_isn : CO X A .IsNot (fun x y H Q => y = .non ∧ Q (.bl (!decide (x = .non))) H) dNotN := ⟨op_notN, fun _ => sdr_notN⟩
theorem co_in : CO X A .In (rInA X.K) dIn := ⟨op_inA, fun _ => sdr_in⟩
theorem co_nin : CO X A .NotIn (rIn X.K true) dNotIn := ⟨op_notIn_seq, fun _ => sdr_notIn⟩
theorem q_cmp {op : CmpOp} {r : R2} {d : D → D → (D → Prop) → Prop} (B : CO X A op r d) (ha : QE X A false true a ta fa) (hb : QE X A false true b tb fb) (hm : behindInMarks op b = false := by first | exact nomark _ | rfl) : QE X A m sh (.Compare a [op] [b] pos) (tOp r ta tb) (fBin d fa fb) := ⟨pe_cmpR B.ho ha.pe hb.pe hm, sd_bin (B.hs m) ha.sd hb.sd⟩
theorem qt_cmp {op : CmpOp} {r : R2} {d : D → D → (D → Prop) → Prop} (B : CO X A op r d) (ha : QE X A false true a ta fa) (hb : QE X A false true b tb fb) (hm : behindInMarks op b = false := by first | exact nomark _ | rfl) : QT X A (.Compare a [op] [b] pos) (tTest (tOp r ta tb)) (fTest (fBin d fa fb)) := ⟨pt_cmpR B.ho ha.pe hb.pe hm, sd_test (m1 := false) (sh1 := false) (sd_bin (B.hs false) ha.sd hb.sd)⟩
theorem q_chain {op op' : CmpOp} {r r' : R2} {d d' : D → D → (D → Prop) → Prop} (B : CO X A op r d) (B' : CO X A op' r' d') (ha : QE X A false true a ta fa) (hb : QE X A false true b tb fb) (hc : QE X A false true c tc fc) (hm : lastMarks [op, op'] [b, c] = false := by with_unfolding_all rfl) :
    QE X A m sh (.Compare a [op, op'] [b, c] pos) (tChain r r' ta tb tc) (fChain d d' fa fb fc) := ⟨pe_chain B.ho B'.ho ha.pe hb.pe hc.pe hm, sd_chain (B.hs m) (B'.hs m) ha.sd hb.sd hc.sd⟩
theorem qt_chain {op op' : CmpOp} {r r' : R2} {d d' : D → D → (D → Prop) → Prop} (B : CO X A op r d) (B' : CO X A op' r' d') (ha : QE X A false true a ta fa) (hb : QE X A false true b tb fb) (hc : QE X A false true c tc fc) (hm : lastMarks [op, op'] [b, c] = false := by with_unfolding_all rfl) :
    QT X A (.Compare a [op, op'] [b, c] pos) (tTest (tChain r r' ta tb tc)) (fTest (fChain d d' fa fb fc)) := ⟨pt_chain B.ho B'.ho ha.pe hb.pe hc.pe hm, sd_test (m1 := false) (sh1 := false) (sd_chain (B.hs false) (B'.hs false) ha.sd hb.sd hc.sd)⟩
/-! and, or, not, if .. else -/
variable {rest : List Expr} {u w : TT} {g h : FT A}
theorem q_one {op : BoolOp} (ha : QE X A m sh a ta fa) : QE X A m sh (.BoolOp op [a] pos) ta fa := ⟨pe_one ha.pe, ha.sd⟩
theorem q_and (ha : QE X A false true a ta fa) (hb : QE X A m sh (.BoolOp .And (b :: rest) pos) tb fb) : QE X A m sh (.BoolOp .And (a :: b :: rest) pos) (tAndV ta tb) (fAndV fa fb) := ⟨pe_and ha.pe hb.pe, sd_andV ha.sd hb.sd⟩
theorem q_or (ha : QE X A false true a ta fa) (hb : QE X A m sh (.BoolOp .Or (b :: rest) pos) tb fb) : QE X A m sh (.BoolOp .Or (a :: b :: rest) pos) (tOrV ta tb) (fOrV fa fb) := ⟨pe_or ha.pe hb.pe, sd_orV ha.sd hb.sd⟩
theorem q_not (ha : QE X A false true a ta fa) : QE X A m sh (.UnaryOp .Not a pos) (tNotV ta) (fNotV fa) := ⟨pe_not ha.pe, sd_notV ha.sd⟩
theorem qt_val (ha : QE X A false true a ta fa) (he : ∀ whole, isTrue a X.env whole = (do let v ← whole; standAt a.pos; holding [v] (truthy v)) := by intro _; rfl) : QT X A a (tB ta) (fTest fa) := ⟨pt_val ha.pe he, sd_testB ha.sd⟩
theorem qt_tru (ha : QE X A false true a ta fa) (he : ∀ whole, isTrue a X.env whole = (do let v ← whole; standAt a.pos; holding [v] (truthy v)) := by intro _; rfl) : QT X A a (fun σ H Q => ta σ H fun x H' => ∃ k, TruV X.K x H' k ∧ Q k H') (fTru fa) := ⟨pt_truth ha.pe he, sd_tru ha.sd⟩
theorem qt_not (ha : QT X A a u g) : QT X A (.UnaryOp .Not a pos) (tNot u) (fNotT g) := ⟨pt_not ha.pt, sd_notT ha.sd⟩
theorem qw_and1 (ha : QT X A a u g) : QW X A (.BoolOp .And [a] pos) u g := ⟨pw_and1 ha.pt, ha.sd⟩
theorem qw_or1 (ha : QT X A a u g) : QW X A (.BoolOp .Or [a] pos) u g := ⟨pw_or1 ha.pt, ha.sd⟩
theorem qw_and (ha : QT X A a u g) (hb : QW X A (.BoolOp .And (b :: rest) pos) w h) : QW X A (.BoolOp .And (a :: b :: rest) pos) (tAnd u w) (fAndT g h) := ⟨pw_and ha.pt hb.pw, sd_andT ha.sd hb.sd⟩
theorem qw_or (ha : QT X A a u g) (hb : QW X A (.BoolOp .Or (b :: rest) pos) w h) : QW X A (.BoolOp .Or (a :: b :: rest) pos) (tOr u w) (fOrT g h) := ⟨pw_or ha.pt hb.pw, sd_orT ha.sd hb.sd⟩
theorem qt_w (ha : QW X A a u g) : QT X A a u g := ⟨ha.pw.pt, ha.sd⟩
theorem q_if (hc : QT X A c u g) (ha : QE X A m sh a ta fa) (hb : QE X A m sh b tb fb) : QE X A m sh (.IfExp c a b pos) (tIf u ta tb) (fIf g fa fb) := ⟨pe_ifExp hc.pt ha.pe hb.pe, sd_if hc.sd ha.sd hb.sd⟩
/-! lists of expressions, displays, subscripts, slices -/
variable {es : List Expr} {t : TA} {f : FA A} {fx : FX A} {fo : FO A}
theorem ql_nil : QL X A m sh 0 [] tNil fNil := ⟨pa_nil, sd_nil⟩
theorem ql_cons (ha : QE X A m sh a ta fa) (hr : QL X A m sh n es t f) (hs : starEach (a :: es) X.env = (false, eval a X.env) :: starEach es X.env := by rfl) : QL X A m sh (n + 1) (a :: es) (tCons ta t) (fCons fa f) := ⟨pa_cons ha.pe hr.pa hs, sd_cons ha.sd hr.sd⟩
theorem qx_nil : QX X A 0 [] tNil fXn := ⟨pa_nil, sx_nil⟩
theorem qx_v (ha : QE X A true false a ta fa) (hr : QX X A n es t fx) (hs : starEach (a :: es) X.env = (false, eval a X.env) :: starEach es X.env := by rfl) : QX X A (n + 1) (a :: es) (tCons ta t) (fXv fa fx) := ⟨pa_cons ha.pe hr.pa hs, sx_v ha.sd hr.sd⟩
theorem qx_o (ha : QO X A a ta fo) (hr : QX X A n es t fx) (hs : starEach (a :: es) X.env = (false, eval a X.env) :: starEach es X.env := by rfl) : QX X A (n + 1) (a :: es) (tCons ta t) (fXo fo fx) := ⟨pa_cons ha.pe hr.pa hs, sx_o ha.sd hr.sd⟩
theorem q_tup {k : Nat} (h : QL X A m false n es t f) (hn : n ≤ 1000 := by decide) : QE X A m sh (.Tuple es k pos) (tTup t) (fTup f) := ⟨pe_tup h.pa, sd_tup h.sd hn⟩
theorem q_lst (h : QL X A m false n es t f) (hn : n ≤ 1000 := by decide) : QE X A m sh (.List es pos) (tLst t) (fLst f) := ⟨pe_lst h.pa, sd_lst h.sd hn⟩
theorem qo_lst (h : QL X A true false n es t f) (hn : n ≤ 1000 := by decide) : QO X A (.List es pos) (tLst t) (fLstO f) := ⟨pe_lst h.pa, sd_lstO h.sd hn⟩
theorem qo_dk : QO X A (.Dict [] [] pos) tDNewK fNewK := ⟨pe_dnewK, sd_newK⟩
theorem qo_dt : QO X A (.Dict [] [] pos) tDNewT fNewT := ⟨pe_dnewT, sd_newT⟩
theorem q_ix (ha : QE X A m true a ta fa) (hb : QE X A false true b tb fb) (hs : PlainIx b := by exact fun _ _ => rfl) : QE X A m sh (.Subscript a b pos) (tOp (rIx X.K) ta tb) (fBin dIx fa fb) := ⟨pe_ix ix_seq ha.pe hb.pe hs, sd_bin sdr_ix ha.sd hb.sd⟩
theorem q_ixn {k jj : Nat} {p9 : Pos} (ha : QE X A m true a ta fa) (hs : PlainIx (.Constant (.int (k : Int)) jj p9) := by exact fun _ _ => rfl) : QE X A m sh (.Subscript a (.Constant (.int (k : Int)) jj p9) pos) (tOp (rIx X.K) ta (tC (.int (k : Int)))) (fBin (dIxN k) fa (fC (.int (k : Int)))) := ⟨pe_ix ix_seq ha.pe pe_int hs, fun W s0 H0 s σ H ρ Φ Q R hp q => ha.sd W s0 H0 s σ H ρ _ _ R hp fun d s1 v H1 h1 R1 st1 r1 => sdr_ixn (m2 := false) (sh2 := false) (y := .int k) R1 r1 rfl h1 fun d u H2 h2 R2 st2 r2 => q d s1 u H2 h2 R2 (st1.trans st2) r2.up⟩
variable {lo hi : Option Expr} {tl th : TO} {fl fh : FP A}
theorem qp_n : QP X A none tNoPart fPn := ⟨po_none, sd_pn⟩
theorem qp_s (h : QE X A false true a ta fa) : QP X A (some a) (tPart ta) (fPs fa) := ⟨po_some h.pe, sd_ps h.sd⟩
theorem q_sl (h : QE X A m true a ta fa) (hl : QP X A lo tl fl) (hh : QP X A hi th fh) : QE X A m sh (.Subscript a (.Slice lo hi none p2) pos) (tSl (rSlX X.K) ta tl th) (fSl fa fl fh) := ⟨pe_slice sl_x h.pe hl.po hh.po, sd_sl h.sd hl.sd hh.sd⟩
/-! calls -/
variable {id T : String} {r : List V → Hp → VK → Prop} {op : List D → (D → Prop) → Prop} {m1 sh1 : Bool}
theorem q_isi (b : BT) {q : Pos} {y : Str} (hm : X.mg "isinstance" = none) (hy : X.mg y = none) (hv : bootBuiltins y = some (.type b.nm)) (ha : QE X A false true a ta fa) (hg : Gl X "isinstance" := by rfl) (hgy : Gl X y := by rfl) (hny : y ≠ "__name__" := by decide) (hdy : (y == ("__debug__" : Str)) = false := by decide)
    (he : starEach [a, .Name y q] X.env = (false, eval a X.env) :: starEach [.Name y q] X.env := by rfl) (he2 : starEach [.Name y q] X.env = (false, eval (.Name y q) X.env) :: starEach [] X.env := by rfl) (hpl : (backTo pos (starEach [.Name y q] X.env)).any (·.1) = false := by rfl) :
    QE X A m sh (.Call (.Name "isinstance" p) [a, .Name y q] [] pos) (tCB (rIsi X.K) (tCons ta (tCons (tC (.ty b.nm)) tNil))) (fIsi b fa) :=
  ⟨pe_callB call_isi hg hm bt_isinstance (pa_cons ha.pe (pa_cons (pe_bltn hgy hy hv rfl hny hdy) pa_nil he2) he) (by decide) (by decide) he hpl, sd_isi ha.sd⟩
theorem pe_calG {P : Program} {k np : Nat} {g : Pg A} (C : Cal X.prog X.w X.K X.mg X.base A k x np g) (hgd : X.A.guards = some []) (hr : Room k X.A) (ha : PA X (e :: es) t) (hg : Gl X x := by rfl) (hdb : (x == ("__debug__" : Str)) = false := by decide)
    (he : starEach (e :: es) X.env = (false, eval e X.env) :: starEach es X.env := by rfl) (hpl : (backTo pos (starEach es X.env)).any (·.1) = false := by rfl) : PE X (.Call (.Name x p) (e :: es) [] pos) (tCall (spOf A np g) [] E0 t) := by
  obtain ⟨f, fd, ps, F, hm, hk, bi⟩ := C.ex
  exact pe_gn F hgd hr hg hm hk bi .nil pass0 ha hdb he hpl
theorem q_call {k np : Nat} {g : Pg A} (C : Cal X.prog X.w X.K X.mg X.base A k x np g) (hgd : X.A.guards = some []) (hr : Room k X.A) (ha : QL X A m false np (e :: es) t f) (hg : Gl X x := by rfl) (hdb : (x == ("__debug__" : Str)) = false := by decide)
    (he : starEach (e :: es) X.env = (false, eval e X.env) :: starEach es X.env := by rfl) (hpl : (backTo pos (starEach es X.env)).any (·.1) = false := by rfl) : QE X A m sh (.Call (.Name x p) (e :: es) [] pos) (tCall (spOf A np g) [] E0 t) (fCall g f) :=
  ⟨pe_calG (P := X.prog) C hgd hr ha.pa hg hdb he hpl, sd_call ha.sd⟩
theorem qo_call {k np : Nat} {g : Pg A} (C : Cal X.prog X.w X.K X.mg X.base A k x np g) (hgd : X.A.guards = some []) (hr : Room k X.A) (ha : QL X A true false np (e :: es) t f) (hg : Gl X x := by rfl) (hdb : (x == ("__debug__" : Str)) = false := by decide)
    (he : starEach (e :: es) X.env = (false, eval e X.env) :: starEach es X.env := by rfl) (hpl : (backTo pos (starEach es X.env)).any (·.1) = false := by rfl) : QO X A (.Call (.Name x p) (e :: es) [] pos) (tCall (spOf A np g) [] E0 t) (fCallO g f) :=
  ⟨pe_calG (P := X.prog) C hgd hr ha.pa hg hdb he hpl, so_call ha.sd⟩
end
section
variable {X : Cx} {A : Amb} {m sh : Bool} {n : Nat} {a b e : Expr} {es : List Expr} {t : TA} {f : FA A} {ta tb : TE} {fa fb : FE A} {p q pos : Pos}
abbrev rAbsA : List V → Hp → VK → Prop := fun xs H Q => ∃ i, xs = [.int i] ∧ Q (.int (if i < 0 then -i else i)) H
abbrev rMax2A : List V → Hp → VK → Prop := fun xs H Q => ∃ i j, xs = [.int i, .int j] ∧ Q (.int (if j > i then j else i)) H
abbrev rMin2A : List V → Hp → VK → Prop := fun xs H Q => ∃ i j, xs = [.int i, .int j] ∧ Q (.int (if j < i then j else i)) H
abbrev rIntA : List V → Hp → VK → Prop := fun xs H Q => (∃ i, xs = [.int i] ∧ Q (.int i) H) ∨ ∃ k, xs = [.bl k] ∧ Q (.int (if k then 1 else 0)) H
abbrev rStrA : List V → Hp → VK → Prop := fun xs H Q => ∃ i, xs = [.int i] ∧ i.natAbs.log2 < 1920 ∧ Q (.str (toString i)) H
abbrev rListA (K : Fg) : List V → Hp → VK → Prop := fun xs H Q => ∃ p ys, xs = [.ref p] ∧ (SqL K H p ys ∨ SqT K H p ys) ∧ ∀ l, H l = none → Q (.ref l) (upd H l (.lst ys))
abbrev rTupA (K : Fg) : List V → Hp → VK → Prop := fun xs H Q => ∃ p ys, xs = [.ref p] ∧ ((SqL K H p ys ∧ ∀ l, H l = none → Q (.ref l) (upd H l (.tup ys))) ∨ (SqT K H p ys ∧ Q (.ref p) H))
structure NB (X : Cx) (A : Amb) (m m1 sh1 : Bool) (x : Str) (u : Value) (r : List V → Hp → VK → Prop) (op : List D → (D → Prop) → Prop) : Prop where
  hc : CallR X u r
  hs : SdC A m m1 sh1 r op
  hv : bootBuiltins x = some u
  hn : x ≠ "__name__"
  hd : (x == ("__debug__" : Str)) = false
theorem nb_abs : NB X A m false true "abs" (.builtin "abs") rAbsA dAbs := ⟨call_abs, sc_abs, bt_abs, by decide, by decide⟩
theorem nb_max2 (hc : X.calm = true) : NB X A m false true "max" (.builtin "max") rMax2A dMax2 := ⟨call_max2 hc, sc_max2, bt_max, by decide, by decide⟩
theorem nb_min2 (hc : X.calm = true) : NB X A m false true "min" (.builtin "min") rMin2A dMin2 := ⟨call_min2 hc, sc_min2, bt_min, by decide, by decide⟩
theorem nb_maxL (hc : X.calm = true) : NB X A m false true "max" (.builtin "max") (rMax X.K) dMaxL := ⟨cr_max hc, sc_maxL, bt_max, by decide, by decide⟩
theorem nb_minL (hc : X.calm = true) : NB X A m false true "min" (.builtin "min") (rMin X.K) dMinL := ⟨cr_min hc, sc_minL, bt_min, by decide, by decide⟩
theorem nb_sum (hc : X.calm = true) : NB X A m false true "sum" (.builtin "sum") (rSum X.K) dSum := ⟨cr_sum hc, sc_sum, bt_sum, by decide, by decide⟩
theorem nb_all (hc : X.calm = true) : NB X A m false true "all" (.builtin "all") (rAll X.K) dAll := ⟨cr_all hc, sc_all, bt_all, by decide, by decide⟩
theorem nb_any (hc : X.calm = true) : NB X A m false true "any" (.builtin "any") (rAny X.K) dAny := ⟨cr_any hc, sc_any, bt_any, by decide, by decide⟩
theorem nb_len : NB X A m false true "len" (.builtin "len") (rLenA X.K) dLen := ⟨call_lenA, sc_len, bt_len, by decide, by decide⟩
theorem nb_sorted : NB X A m false true "sorted" (.builtin "sorted") (rSortedI X.K) dSorted := ⟨cr_sortedI, sc_sorted, bt_sorted, by decide, by decide⟩
theorem nb_int : NB X A m false true "int" (.type "int") rIntA dInt := ⟨call_int1, sc_int, bt_int, by decide, by decide⟩
theorem nb_str : NB X A m false true "str" (.type "str") rStrA dStr := ⟨call_str_int, sc_str, bt_str, by decide, by decide⟩
theorem nb_list : NB X A m m true "list" (.type "list") (rListA X.K) dList := ⟨call_list_of, sc_list, bt_list, by decide, by decide⟩
theorem nb_tuple : NB X A m m true "tuple" (.type "tuple") (rTupA X.K) dTuple := ⟨call_tuple_of, sc_tuple, bt_tuple, by decide, by decide⟩
theorem q_nb {x : Str} {id : String} {r : List V → Hp → VK → Prop} {op : List D → (D → Prop) → Prop} {m1 sh1 : Bool} (B : NB X A m m1 sh1 x (.builtin id) r op) (hm : X.mg x = none) (ha : QL X A m1 sh1 n (e :: es) t f) (hg : Gl X x := by rfl) (he : starEach (e :: es) X.env = (false, eval e X.env) :: starEach es X.env := by rfl) (hpl : (backTo pos (starEach es X.env)).any (·.1) = false := by rfl) :
    QE X A m sh (.Call (.Name x p) (e :: es) [] pos) (tCB r t) (fCB op f) := ⟨pe_callB B.hc hg hm B.hv ha.pa B.hn B.hd he hpl, sd_cb B.hs ha.sd⟩
theorem q_nt {x : Str} {id : String} {r : List V → Hp → VK → Prop} {op : List D → (D → Prop) → Prop} {m1 sh1 : Bool} (B : NB X A m m1 sh1 x (.type id) r op) (hm : X.mg x = none) (ha : QL X A m1 sh1 n (e :: es) t f) (hg : Gl X x := by rfl) (he : starEach (e :: es) X.env = (false, eval e X.env) :: starEach es X.env := by rfl) (hpl : (backTo pos (starEach es X.env)).any (·.1) = false := by rfl) :
    QE X A m sh (.Call (.Name x p) (e :: es) [] pos) (tCB r t) (fCB op f) := ⟨pe_callTy B.hc hg hm B.hv ha.pa B.hn B.hd he hpl, sd_cb B.hs ha.sd⟩
/-! list(range(..)), tuple(range(..)) -/
theorem q_lrg1 (hc : X.calm = true) (hm : X.mg "list" = none) (hr : X.mg "range" = none) (ha : QE X A false true a ta fa) (hg : Gl X "list" := by rfl) (hgr : Gl X "range" := by rfl) (na : starEach [a] X.env = (false, eval a X.env) :: starEach [] X.env := by rfl) {p2 q2 : Pos} (ne : starEach [.Call (.Name "range" p2) [a] [] q2] X.env = (false, eval (.Call (.Name "range" p2) [a] [] q2) X.env) :: starEach [] X.env := by rfl) :
    QE X A m sh (.Call (.Name "list" p) [.Call (.Name "range" p2) [a] [] q2] [] pos) (tLstRg (tRg1 ta)) (fLstRg (fR1 fa)) := ⟨pe_listRg hc hg hm (prg_1 hgr hr ha.pe na) ne, sd_lstRg (sr_1 ha.sd)⟩
theorem q_lrg2 (hc : X.calm = true) (hm : X.mg "list" = none) (hr : X.mg "range" = none) (ha : QE X A false true a ta fa) (hb : QE X A false true b tb fb) (hg : Gl X "list" := by rfl) (hgr : Gl X "range" := by rfl) (na : starEach [a, b] X.env = (false, eval a X.env) :: starEach [b] X.env := by rfl) (nb : starEach [b] X.env = (false, eval b X.env) :: starEach [] X.env := by rfl) {p2 q2 : Pos} (ne : starEach [.Call (.Name "range" p2) [a, b] [] q2] X.env = (false, eval (.Call (.Name "range" p2) [a, b] [] q2) X.env) :: starEach [] X.env := by rfl) (hp : (backTo q2 (starEach [b] X.env)).any (·.1) = false := by rfl) :
    QE X A m sh (.Call (.Name "list" p) [.Call (.Name "range" p2) [a, b] [] q2] [] pos) (tLstRg (tRg2 ta tb)) (fLstRg (fR2 fa fb)) := ⟨pe_listRg hc hg hm (prg_2 hgr hr ha.pe hb.pe na nb hp) ne, sd_lstRg (sr_2 ha.sd hb.sd)⟩
end
/-! ### statements -/
section
variable {X : Cx} {A : Amb} {m sh : Bool} {n i j k : Nat} {a b c e : Expr} {es : List Expr} {t : TA} {f : FA A} {ta tb te : TE} {fa fb fe : FE A} {fo : FO A} {fx : FX A} {p q pos px py pz pt : Pos} {x y z : Str} {st : Stmt} {sts : List Stmt} {s1 s2 : TS} {g1 g2 : FS A} {tt : TT} {ft : FT A}
theorem z_set (i : Nat) (hN : X.N.Nodup) (he : QE X A true false e te fe) (hi : X.N[i]? = some x := by rfl) (hx : Loc X.env.scope x := by first | exact Or.inl rfl | exact Or.inr rfl) (hs : swapsWith e (some (.Name x p)) pos.line X.env = pure false := by rfl) (hf : X.fn x = true ∨ X.env.scope.names.lookup x = some .local := by first | exact .inl rfl | exact .inr rfl) :
    QS X A (.Assign [.Name x p] e pos) (tAsg te (gName i)) (fSet i fe) := ⟨ps_set hN hi hx he.pe hs hf, ss_set i he.sd⟩
theorem z_setO (i : Nat) (hN : X.N.Nodup) (he : QO X A e te fo) (hi : X.N[i]? = some x := by rfl) (hx : Loc X.env.scope x := by first | exact Or.inl rfl | exact Or.inr rfl) (hs : swapsWith e (some (.Name x p)) pos.line X.env = pure false := by rfl) (hf : X.fn x = true ∨ X.env.scope.names.lookup x = some .local := by first | exact .inl rfl | exact .inr rfl) :
    QS X A (.Assign [.Name x p] e pos) (tAsg te (gName i)) (fSetO i fo) := ⟨ps_set hN hi hx he.pe hs hf, ss_setO i he.sd⟩
theorem z_par (i j : Nat) (hN : X.N.Nodup) (hc : X.calm = true) (ha : QX X A 2 [a, b] t fx) {kt k2 : Nat} {pt2 : Pos} (hij : i ≠ j := by decide) (hi : X.N[i]? = some x := by rfl) (hj : X.N[j]? = some y := by rfl) (hx : X.env.scope.names.lookup x = some .local := by rfl) (hy : X.env.scope.names.lookup y = some .local := by rfl)
    (hw : swappedStores [.Tuple [.Name x px, .Name y py] kt pt] (.Tuple [a, b] k2 pt2) X.env = pure (some [x, y]) := by rfl) (hs : swapsWithSole [.Tuple [.Name x px, .Name y py] kt pt] (.Tuple [a, b] k2 pt2) pos.line X.env = pure false := by rfl) :
    QS X A (.Assign [.Tuple [.Name x px, .Name y py] kt pt] (.Tuple [a, b] k2 pt2) pos) (tPar i j t) (fPar [i, j] fx) := ⟨ps_par hc hN hi hj hij hx hy ha.pa hw hs, ss_par i j ha.sd⟩
theorem z_par3 (i j k : Nat) (hN : X.N.Nodup) (hc : X.calm = true) (ha : QX X A 3 [a, b, c] t fx) {kt k2 : Nat} {pt2 : Pos} (hij : i ≠ j := by decide) (hik : i ≠ k := by decide) (hjk : j ≠ k := by decide) (hi : X.N[i]? = some x := by rfl) (hj : X.N[j]? = some y := by rfl) (hk : X.N[k]? = some z := by rfl) (hx : X.env.scope.names.lookup x = some .local := by rfl) (hy : X.env.scope.names.lookup y = some .local := by rfl) (hz : X.env.scope.names.lookup z = some .local := by rfl)
    (hw : swappedStores [.Tuple [.Name x px, .Name y py, .Name z pz] kt pt] (.Tuple [a, b, c] k2 pt2) X.env = pure (some [x, y, z]) := by rfl) (hs : swapsWithSole [.Tuple [.Name x px, .Name y py, .Name z pz] kt pt] (.Tuple [a, b, c] k2 pt2) pos.line X.env = pure false := by rfl) :
    QS X A (.Assign [.Tuple [.Name x px, .Name y py, .Name z pz] kt pt] (.Tuple [a, b, c] k2 pt2) pos) (tPar3 i j k t) (fPar [i, j, k] fx) := ⟨ps_par3 hc hN hi hj hk hij hik hjk hx hy hz ha.pa hw hs, ss_par3 i j k ha.sd⟩
/-- names, by a tuple made and taken apart -/
structure QNs (X : Cx) (es : List Expr) (is : List Nat) : Prop where
  pg : PGs X es (gNames is)
theorem qn_nil : QNs X [] [] := ⟨pgs_nil⟩
theorem qn_cons {is : List Nat} (i : Nat) (hN : X.N.Nodup) (h : QNs X es is) (hi : X.N[i]? = some x := by rfl) (hx : Loc X.env.scope x := by first | exact Or.inl rfl | exact Or.inr rfl) (hf : X.fn x = true ∨ X.env.scope.names.lookup x = some .local := by first | exact .inl rfl | exact .inr rfl)
    (hs : (assignEach (.Name x p :: es) X.env).map (·.2) = assign (.Name x p) X.env :: (assignEach es X.env).map (·.2) := by rfl) : QNs X (.Name x p :: es) (i :: is) := ⟨pgs_cons (pg_name hN hi hx hf) h.pg hs⟩
theorem z_parT {is : List Nat} {ns : List Expr} {kt k2 : Nat} {pt2 : Pos} (hc : X.calm = true) (hg : QNs X ns is) (ha : QX X A n es t fx) (hn : is.length = n := by rfl) (hk : n ≤ 1000 := by decide) (hl : (assignEach ns X.env).length = n := by rfl) (hst : (assignEach ns X.env).findIdx? (·.1) = none := by rfl)
    (hs : swapsWithSole [.Tuple ns kt pt] (.Tuple es k2 pt2) pos.line X.env = pure false := by rfl) (hw : swappedStores [.Tuple ns kt pt] (.Tuple es k2 pt2) X.env = pure none := by rfl) (h1 : (assignEach [.Tuple ns kt pt] X.env).map (·.2) = [assign (.Tuple ns kt pt) X.env] := by rfl) :
    QS X A (.Assign [.Tuple ns kt pt] (.Tuple es k2 pt2) pos) (tAsg (tTup t) (gTup X.K n (gNames is))) (fPar is fx) := ⟨ps_asg (pe_tup ha.pa) (pg_tup hc hg.pg hl hst) hs hw h1, ss_parT is hn hk ha.sd⟩
variable {vs ws : List Nat} {tg : Expr} {gg : TG} {ggs : TGs} {hh : FG} {hhs : FGs}
theorem qg_name (i : Nat) (hN : X.N.Nodup) (hi : X.N[i]? = some x := by rfl) (hx : Loc X.env.scope x := by first | exact Or.inl rfl | exact Or.inr rfl) (hf : X.fn x = true ∨ X.env.scope.names.lookup x = some .local := by first | exact .inl rfl | exact .inr rfl) : QG X A [i] (.Name x p) (gName i) (hName i) := ⟨pg_name hN hi hx hf, sg_name i⟩
theorem qgs_nil : QGs X A [] [] gNil hNil := ⟨pgs_nil, sg_nil⟩
theorem qgs_cons (h1 : QG X A vs e gg hh) (h2 : QGs X A ws es ggs hhs) (hs : (assignEach (e :: es) X.env).map (·.2) = assign e X.env :: (assignEach es X.env).map (·.2) := by rfl) : QGs X A (vs ++ ws) (e :: es) (gCons gg ggs) (hCons hh hhs) := ⟨pgs_cons h1.pg h2.pg hs, sg_cons h1.sd h2.sd⟩
theorem qg_tup {kt : Nat} (hc : X.calm = true) (h : QGs X A vs es ggs hhs) (hn : (assignEach es X.env).length = n := by rfl) (hst : (assignEach es X.env).findIdx? (·.1) = none := by rfl) : QG X A vs (.Tuple es kt pos) (gSeq X.K n ggs) (hTup n hhs) := ⟨pg_seq hc h.pg hn hst, sg_tup h.sd⟩
theorem z_asg (he : QE X A true false e te fe) (hg : QG X A vs tg gg hh) (hs : swapsWithSole [tg] e pos.line X.env = pure false := by rfl) (hw : swappedStores [tg] e X.env = pure none := by rfl) (h1 : (assignEach [tg] X.env).map (·.2) = [assign tg X.env] := by rfl) :
    QS X A (.Assign [tg] e pos) (tAsg te gg) (fAsg fe hh) := ⟨ps_asg he.pe hg.pg hs hw h1, ss_asg he.sd hg.sd⟩
theorem z_do (he : QE X A false true e te fe) (hs : swapsWith e none pos.line X.env = pure false := by rfl) : QS X A (.Expr e pos) (tDrop te) (fDo fe) := ⟨ps_expr he.pe hs, ss_do he.sd⟩
theorem z_ret (he : QE X A false true e te fe) : QS X A (.Return (some e) pos) (tRet te) (fRet fe) := ⟨ps_ret he.pe, ss_ret he.sd⟩
theorem z_retW (he : QO X A e te fo) : QS X A (.Return (some e) pos) (tRet te) (fRetW fo) := ⟨ps_ret he.pe, ss_retW he.sd⟩
theorem z_retO (i : Nat) (hN : X.N[i]? = some x := by rfl) (hv : Vis X.env.scope x := by first | exact Or.inl rfl | exact Or.inr (Or.inl rfl) | exact Or.inr (Or.inr rfl)) (hd : (x == ("__debug__" : Str)) = false := by decide) (hcd : (x == ("__classdict__" : Str)) = false := by decide) : QS X A (.Return (some (.Name x p)) pos) (tRet (tVar i)) (fRetO i) := ⟨ps_ret (pe_var hN hv hd hcd), ss_retO i⟩
theorem z_retN : QS X A (.Return none pos) tRetN fRetN := ⟨ps_retN, ss_retN⟩
theorem z_pass : QS X A (.Pass pos) tNext fNext := ⟨ps_pass, ss_next⟩
theorem z_break : QS X A (.Break pos) tBreak fBreak := ⟨ps_break, ss_break⟩
theorem z_cont : QS X A (.Continue pos) tCont fCont := ⟨ps_continue, ss_cont⟩
theorem z_never : QS X A st tNever fNever := ⟨ps_never, ss_never⟩
theorem zs_nil : QSs X A [] tNext fNext := ⟨pss_nil, ss_next⟩
theorem zs_one (h : QS X A st s1 g1) : QSs X A [st] s1 g1 := ⟨pss_one h.ps, h.sd⟩
theorem zs_cons (h : QS X A st s1 g1) (hr : QSs X A sts s2 g2) : QSs X A (st :: sts) (tSeq s1 s2) (fSeq g1 g2) := ⟨pss_cons h.ps hr.ps, ss_seq h.sd hr.sd⟩
theorem zs_frz (i : Nat) (h : QSs X A sts s1 g1) : QSs X A sts s1 (fFrz i g1) := ⟨h.ps, ss_frz i h.sd⟩
theorem zs_drop (i : Nat) (h : QSs X A sts s1 g1) : QSs X A sts s1 (fDrop i g1) := ⟨h.ps, ss_drop i h.sd⟩
theorem z_if {aa bb : List Stmt} (hc : QT X A c tt ft) (ha : QSs X A aa s1 g1) (hb : QSs X A bb s2 g2) : QS X A (.If c aa bb pos) (tIfS tt s1 s2) (fIfS ft g1 g2) := ⟨ps_if hc.pt ha.ps hb.ps, ss_if hc.sd ha.sd hb.sd⟩
theorem z_app (i : Nat) {p2 p3 : Pos} (he : QE X A true false e te fe) (hN : X.N[i]? = some x := by rfl) (hv : Vis X.env.scope x := by first | exact Or.inl rfl | exact Or.inr (Or.inl rfl) | exact Or.inr (Or.inr rfl)) (hd : (x == ("__debug__" : Str)) = false := by decide) (hcd : (x == ("__classdict__" : Str)) = false := by decide)
    (hs : swapsWith (.Call (.Attribute (.Name x p) "append" p2) [e] [] p3) none pos.line X.env = pure false := by rfl)
    (hbase : attributeBase (.Name x p) "append" X.env (eval (.Name x p) X.env) = eval (.Name x p) X.env := by rfl)
    (hfew : ((backTo p3 (starEach [e] X.env)).all (fun x => !x.1) && (backToKw p3 (keywordEach [] X.env)).all (fun x => x.1.isSome) && decide ([e].length + ([] : List Keyword).length + (if ([] : List Keyword).isEmpty then 0 else 1) < 30)) = true := by rfl)
    (hline : (p2.endLine == p3.line) = true := by rfl) (hs1 : starEach [e] X.env = (false, eval e X.env) :: starEach [] X.env := by rfl) :
    QS X A (.Expr (.Call (.Attribute (.Name x p) "append" p2) [e] [] p3) pos) (tDrop (tBM X.K "list" rAppend (tVar i) (tCons te tNil))) (fApp i fe) :=
  ⟨ps_expr (pe_bm PySem.F.plainAttrs_list PySem.F.slot_list_append PySem.F.type_list_append mt_append (pe_var hN hv hd hcd) (pa_cons he.pe pa_nil hs1) hbase hfew hline hs1 (by rfl)) hs, ss_app i he.sd⟩
theorem z_ext (i : Nat) {p2 p3 : Pos} (he : QE X A true true e te fe) (hN : X.N[i]? = some x := by rfl) (hv : Vis X.env.scope x := by first | exact Or.inl rfl | exact Or.inr (Or.inl rfl) | exact Or.inr (Or.inr rfl)) (hd : (x == ("__debug__" : Str)) = false := by decide) (hcd : (x == ("__classdict__" : Str)) = false := by decide)
    (hs : swapsWith (.Call (.Attribute (.Name x p) "extend" p2) [e] [] p3) none pos.line X.env = pure false := by rfl)
    (hbase : attributeBase (.Name x p) "extend" X.env (eval (.Name x p) X.env) = eval (.Name x p) X.env := by rfl)
    (hfew : ((backTo p3 (starEach [e] X.env)).all (fun x => !x.1) && (backToKw p3 (keywordEach [] X.env)).all (fun x => x.1.isSome) && decide ([e].length + ([] : List Keyword).length + (if ([] : List Keyword).isEmpty then 0 else 1) < 30)) = true := by rfl)
    (hline : (p2.endLine == p3.line) = true := by rfl) (hs1 : starEach [e] X.env = (false, eval e X.env) :: starEach [] X.env := by rfl) :
    QS X A (.Expr (.Call (.Attribute (.Name x p) "extend" p2) [e] [] p3) pos) (tDrop (tBM X.K "list" rExtend (tVar i) (tCons te tNil))) (fExt i fe) :=
  ⟨ps_expr (pe_bm PySem.F.plainAttrs_list PySem.F.slot_list_extend PySem.F.type_list_extend mt_extend (pe_var hN hv hd hcd) (pa_cons he.pe pa_nil hs1) hbase hfew hline hs1 (by rfl)) hs, ss_ext i he.sd⟩
theorem z_store (i : Nat) (he : QE X A true false e te fe) (ha : QE X A false true a ta fa) (hN : X.N[i]? = some x := by rfl) (hv : Vis X.env.scope x := by first | exact Or.inl rfl | exact Or.inr (Or.inl rfl) | exact Or.inr (Or.inr rfl)) (hd : (x == ("__debug__" : Str)) = false := by decide) (hcd : (x == ("__classdict__" : Str)) = false := by decide) {p2 : Pos}
    (hb : ∀ v, assign (.Subscript (.Name x p) a p2) X.env v = (do
      let ov ← holding [v] (eval (.Name x p) X.env)
      let iv ← holding [v, ov] (eval a X.env)
      standAt p2
      holding [v, ov, iv] (setItem ov iv v)
      release [v, ov, iv] []) := by intro _; rfl)
    (hs : swapsWithSole [.Subscript (.Name x p) a p2] e pos.line X.env = pure false := by rfl) (hw : swappedStores [.Subscript (.Name x p) a p2] e X.env = pure none := by rfl) (h1 : (assignEach [.Subscript (.Name x p) a p2] X.env).map (·.2) = [assign (.Subscript (.Name x p) a p2) X.env] := by rfl) :
    QS X A (.Assign [.Subscript (.Name x p) a p2] e pos) (tAsg te (gSub (tVar i) ta rSetL)) (fStore i fa fe) := ⟨ps_asg he.pe (pg_sub (pe_var hN hv hd hcd) ha.pe set_list hb) hs hw h1, ss_store i he.sd ha.sd⟩
variable {it : Expr} {wi : TI} {fi : FI A} {body : List Stmt}
theorem qi_seq (h : QE X A true false it te fe) : QI X A tg it (iSeq X.K te) (fIt fe) := ⟨pi_seq h.pe, si_it h.sd⟩
theorem qi_rg1 (hm : X.mg "range" = none) (ha : QE X A false true a te fe) (hg : Gl X "range" := by rfl) (hs : starEach [a] X.env = [(false, eval a X.env)] := by rfl) : QI X A tg (.Call (.Name "range" p) [a] [] pos) (iRng1 (tCons te tNil)) (fRg1 (fCons fe fNil)) := ⟨pi_range1 hg hm (pa_cons ha.pe pa_nil hs) hs, si_rg1 (sd_cons ha.sd sd_nil)⟩
theorem qi_rg2 (hm : X.mg "range" = none) (ha : QE X A false true a ta fa) (hb : QE X A false true b tb fb) (hg : Gl X "range" := by rfl) (hs : starEach [a, b] X.env = [(false, eval a X.env), (false, eval b X.env)] := by rfl) (hs2 : starEach [b] X.env = [(false, eval b X.env)] := by rfl) : QI X A tg (.Call (.Name "range" p) [a, b] [] pos) (iRng2 (tCons ta (tCons tb tNil))) (fRg2 (fCons fa (fCons fb fNil))) :=
  ⟨pi_range2 hg hm (pa_cons ha.pe (pa_cons hb.pe pa_nil hs2) (by rw [hs, hs2])) hs hs2, si_rg2 (sd_cons ha.sd (sd_cons hb.sd sd_nil))⟩
theorem z_for (hp : PassesOwn (model X.prog X.w) X.A X.env X.xe) (hc : X.calm = true) (hi : QI X A tg it wi fi) (hg : QG X A vs tg gg hh) (hb : QSs X A body s1 g1) (hs : ∀ x, foldedSetIterable it X.env x = pure x := by intro _; rfl) : QS X A (.For tg it body [] pos) (tFor wi gg s1) (fFor fi hh g1) := ⟨ps_for hp hc hi.pi hg.pg hb.ps hs, ss_for hi.sd hg.sd hb.sd⟩
theorem z_while (hp : PassesOwn (model X.prog X.w) X.A X.env X.xe) (hc : QT X A c tt ft) (hb : QSs X A body s1 g1) : QS X A (.While c body [] pos) (tWhile tt s1) (fWhile ft g1) := ⟨ps_while hp hc.pt hb.ps, ss_while hc.sd hb.sd⟩
/-! comprehensions -/
variable {elt : Expr} {ifs : List Expr} {scope : Scope} {own : List (Str × Nat)}
theorem qts_nil : QTs X A [] tYes (fun _ s Φ => Φ true s) := ⟨pts_nil, st_yes⟩
theorem qts_one (h : QT X A c tt ft) : QTs X A [c] tt ft := ⟨pts_one h.pt, h.sd⟩
abbrev Blk5 (α : Type) := Shared → Hp → Addr → List (Str × Addr) → List Addr → α
abbrev at5 {α : Type} (f : Blk5 α) : α := f {} (fun _ => none) 0 [] []
theorem qo_lc {gg : Blk5 TG} {tt : Blk5 TT} {te : Blk5 TE} (own : List (Str × Nat)) (hc : X.calm = true) (hN : X.N.Nodup) (hi : QI X A tg it wi fi) (ok : BlkOk X.N X.env.scope scope own)
    (hg : ∀ (s : Shared) (H : Hp) (C : Addr) (cl : List (Str × Addr)) (fp : List Addr), QG (X.blk s H scope (compEnvC scope cl C X.env) fp) A ws tg (gg s H C cl fp) hh) (ht : ∀ (s : Shared) (H : Hp) (C : Addr) (cl : List (Str × Addr)) (fp : List Addr), QTs (X.blk s H scope (compEnvC scope cl C X.env) fp) A ifs (tt s H C cl fp) ft)
    (he : ∀ (s : Shared) (H : Hp) (C : Addr) (cl : List (Str × Addr)) (fp : List Addr), QE (X.blk s H scope (compEnvC scope cl C X.env) fp) A true false elt (te s H C cl fp) fe) (hw : ∀ i ∈ ws, i ∈ own.map (·.2) := by decide) (hs : ∀ x, foldedSetIterable it X.env x = pure x := by intro _; rfl)
    (eg : ∀ s H C cl fp, gg s H C cl fp = at5 gg := by intros; rfl) (et : ∀ s H C cl fp, tt s H C cl fp = at5 tt := by intros; rfl) (ee : ∀ s H C cl fp, te s H C cl fp = at5 te := by intros; rfl) :
    QO X A (.ListComp elt [⟨tg, it, ifs, 0⟩] scope pos) (tLc wi (at5 gg) (at5 tt) (at5 te) (own.map (·.2))) (fLc fi (own.map (·.2)) hh ft fe) := by
  have hg' : ∀ s H C cl fp, QG (X.blk s H scope (compEnvC scope cl C X.env) fp) A ws tg (at5 gg) hh := fun s H C cl fp => eg s H C cl fp ▸ hg s H C cl fp
  have ht' : ∀ s H C cl fp, QTs (X.blk s H scope (compEnvC scope cl C X.env) fp) A ifs (at5 tt) ft := fun s H C cl fp => et s H C cl fp ▸ ht s H C cl fp
  have he' : ∀ s H C cl fp, QE (X.blk s H scope (compEnvC scope cl C X.env) fp) A true false elt (at5 te) fe := fun s H C cl fp => ee s H C cl fp ▸ he s H C cl fp
  refine ⟨pe_lc hc hN hi.pi ok (fun s H C cl fp => (hg' s H C cl fp).pg) (fun s H C cl fp => (ht' s H C cl fp).pt) (fun s H C cl fp => (he' s H C cl fp).pe) hs, ?_⟩
  exact so_lc hi.sd (hg' {} (fun _ => none) 0 [] []).sd hw (ht' {} (fun _ => none) 0 [] []).sd (he' {} (fun _ => none) 0 [] []).sd
end
end Pd

set_option maxHeartbeats 4000000
/-! list(reversed(a list)) -/
namespace Pd
open PySem PySem.Spec PyProof.Rows L2
section
variable {prog : Program} {w : World} {A : Around} {E : Value → Shared → Prop} {s : Shared}
abbrev RevP (xs : Array Value) : Nat → Value → Prop := fun i v => xs[xs.size - 1 - i]? = some v
theorem rev_into {R : Result → Shared → Prop} (hh : A.handled = none) {it l S : Addr} {xs : Array Value}
    (hit : s.heap.IsRevIter it l ((xs.size : Int) - 1)) (hl : s.heap.IsList l xs) (hne : l ≠ it) (hn : xs.size ≤ sizeLine) (hSi : S ≠ it) (hSl : S ≠ l) (res : Value) (c0 : Nat)
    (hS : s.heap.get? S = some { cls := .type "list", data := .seq #[] c0 })
    (hR : ∀ h' tk acc c', (∀ b o, b ≠ S → b ≠ it → s.heap.get? b = some o → h'.get? b = some o) → h'.get? S = some { cls := .type "list", dict := none, data := .seq acc c', slots := #[] } →
      ItemsOf (RevP xs) acc xs.size → R (.ok (.ret res)) { s with heap := h', toks := tk }) :
    wpAny (model prog w) A.in1 (Builtin.List.listExtendWith (.ref S) (.ref it) res)
      (fun fin s' => match fin with
        | .done f => R (.ok f) s'
        | .again c' => c'.quiet = true ∧ codeAny (model prog w) A c' R s')
      (fun e s' => R (.error e) s') s := by
  have Wk := (Walks.listRev (prog := prog) (w := w) (A := A.in1) hh it l hne xs).toS
  have notin : S ∉ [it, l] := by
    intro z
    rcases List.mem_cons.mp z with z | z
    · exact hSi z
    · exact hSl (List.mem_singleton.mp z)
  have ty : s.TypeIs (.ref it) "list_reverseiterator" := hit.typeIs
  have nosame : Builtin.List.listSameRef (.ref S) (.ref it) = false := by simp [Builtin.List.listSameRef, hSi]
  have z0 : ((xs.size : Nat) : Int) - 1 - ((0 : Nat) : Int) = (xs.size : Int) - 1 := by omega
  unfold Builtin.List.listExtendWith
  apply wpAny_bind
  apply wpAny_typeOf ty
  rw [if_neg (by rw [nosame]; decide)]
  apply wpAny_bind
  apply wpAny_pyIter_revIter hit
  apply wpAny_bind
  apply wpAny_holding
  unfold Builtin.List.listLengthHint
  apply wpAny_bind
  apply wpAny_specialOf ty RT.nolen_lri
  show wpAny _ A.in1 (specialOf (Value.ref it) (Str.ofString "__length_hint__") >>= _) _ _ _
  apply wpAny_bind
  apply wpAny_specialOf ty RT.hint_lri
  generalize hid : ("list_reverseiterator.__length_hint__" : String) = nm
  wp_delta
  rw [show splitId nm = some ("list_reverseiterator", "__length_hint__") from by subst hid; decide +kernel]
  subst hid
  apply wpAny_bind
  apply wpAny_isInstance (b := true) ty (by rw [isSubtype_type]; kernel_rfl)
  apply wpAny_pure
  rw [if_neg (by decide)]
  apply wpAny_pure
  refine ⟨plainId_quiet F.plain_extend_loop _, ?_⟩
  refine codeAny_extend_loopS Wk hn _ notin _ xs.size 0 _ _ _ rfl (Nat.zero_le _) ⟨Nat.zero_le _, by rw [z0]; exact hit, hl⟩ hS (ItemsOf.nil _) ?_
  intro s2 acc c' hm hS2 hacc
  rw [Moved.eq_with hm]
  refine hR s2.heap s2.toks acc c' (fun b o hb hb2 e => hm.heap b o (fun z => ?_) e) hS2 hacc
  rcases List.mem_cons.mp z with z | z
  · exact hb z
  · exact hb2 (List.mem_singleton.mp z)
theorem rev_list {it l : Addr} {xs : Array Value} {Q : Value → Shared → Prop} (hh : A.handled = none)
    (hit : s.heap.IsRevIter it l ((xs.size : Int) - 1)) (hl : s.heap.IsList l xs) (hne : l ≠ it) (hn : xs.size ≤ sizeLine)
    (hQ : ∀ h' tk acc c', (∀ b o, b ≠ it → s.heap.get? b = some o → h'.get? b = some o) → h'.get? s.heap.objs.size = some { cls := .type "list", dict := none, data := .seq acc c', slots := #[] } →
      ItemsOf (RevP xs) acc xs.size → Q (.ref s.heap.objs.size) { s with heap := h', toks := tk }) :
    wpAny (model prog w) A (call (.type "list") [.ref it]) Q E s := by
  have lit : it < s.heap.objs.size := by obtain ⟨_, h, _⟩ := id hit; exact Heap.lt_size h
  have ll : l < s.heap.objs.size := by obtain ⟨_, h, _⟩ := id hl; exact Heap.lt_size h
  refine callType_codes (Q₁ := fun obj s1 => obj = .ref s.heap.objs.size ∧ s1 = { s with heap := s.heap.push { cls := .type "list", data := .seq #[] } })
    F.called_list (F.typeCall_list_1 _) F.entry_list_init (code_list_new _ ⟨rfl, rfl⟩) ?_
  rintro obj s1 ⟨rfl, rfl⟩
  have hS : (s.heap.push { cls := .type "list", data := .seq #[] }).get? s.heap.objs.size = some { cls := .type "list", data := .seq #[] } := Heap.get?_push_size _ rfl
  refine ⟨⟨_, hS, rfl⟩, F.args_list_init_2 _ _, ?_⟩
  show wpAny _ _ (do
    let old ← Builtin.List.listItems (.ref s.heap.objs.size)
    Builtin.List.listUpdate (.ref s.heap.objs.size) (fun _ => #[])
    letGo old.toList.reverse
    Builtin.List.listExtendWith (.ref s.heap.objs.size) (.ref it) .none) _ _ _
  apply wpAny_bind
  unfold Builtin.List.listItems
  apply wpAny_bind
  apply wpAny_seqItems hS rfl
  apply wpAny_pure
  show wpAny _ _ (updateSeq s.heap.objs.size (fun _ => #[]) >>= fun _ => letGo (#[] : Array Value).toList.reverse >>= fun _ => Builtin.List.listExtendWith _ _ .none) _ _ _
  apply wpAny_bind
  refine wpAny_updateSeq hS rfl ?_
  have hS2 := Heap.get?_update_self (Obj.mapSeq (fun _ => (#[] : Array Value))) hS rfl
  have stay : ∀ b o, b ≠ s.heap.objs.size → s.heap.get? b = some o → ((s.heap.push { cls := .type "list", data := .seq #[] }).update s.heap.objs.size (Obj.mapSeq (fun _ => (#[] : Array Value)))).get? b = some o :=
    fun b o hb e => (Heap.get?_update_other _ _ (Ne.symm hb)).trans (Heap.get?_push_of_some _ e)
  apply wpAny_bind
  apply wpAny_letGo
  refine rev_into (A := A.in1) hh (hit.at fun o e => stay it o (Nat.ne_of_lt lit) e) (hl.at fun o e => stay l o (Nat.ne_of_lt ll) e) hne hn (Nat.ne_of_gt lit) (Nat.ne_of_gt ll) .none _ hS2 ?_
  intro h' tk acc c' hk hS3 hacc
  refine ⟨rfl, hQ h' tk acc c' (fun b o hb e => hk b o (Nat.ne_of_lt (Heap.lt_size e)) hb (stay b o (Nat.ne_of_lt (Heap.lt_size e)) e)) hS3 hacc⟩
end
def tLstRev (K : Fg) (te : TE) : TE := fun σ H Q => te σ H fun v H1 => ∃ (a : Addr) (xs : List V), v = .ref a ∧ SqL K H1 a xs ∧ ∀ q, H1 q = none → Q (.ref q) (upd H1 q (.lst xs.reverse))
section
variable {X : Cx}
theorem pe_lstRev {e : Expr} {te : TE} {p p2 pos pos2 : Pos} (hc : X.calm = true) (hg : Gl X "list") (hm : X.mg "list" = none) (hg2 : Gl X "reversed") (hm2 : X.mg "reversed" = none) (he : PE X e te)
    (n1 : starEach [e] X.env = (false, eval e X.env) :: starEach [] X.env := by rfl)
    (n2 : starEach [.Call (.Name "reversed" p2) [e] [] pos2] X.env = (false, eval (.Call (.Name "reversed" p2) [e] [] pos2) X.env) :: starEach [] X.env := by rfl) :
    PE X (.Call (.Name "list" p) [.Call (.Name "reversed" p2) [e] [] pos2] [] pos) (tLstRev X.K te) := by
  constructor
  intro pins s σ H Q J h
  have inner : ∀ {Q2 : Value → Shared → Prop}, (∀ u s1 v H1, Inv X pins σ H1 s1 → RelV v u → (∃ (a : Addr) (xs : List V), v = .ref a ∧ SqL X.K H1 a xs ∧ ∀ q, H1 q = none → Q (.ref q) (upd H1 q (.lst xs.reverse))) → wpAny (model X.prog X.w) X.A (call (.type "reversed") [u]) Q2 X.xe s1) →
      wpAny (model X.prog X.w) X.A (eval (.Call (.Name "reversed" p2) [e] [] pos2) X.env) Q2 X.xe s := fun {Q2} k =>
    Call_ (ld_blt J hg2 hm2 PyProof.Rows.boot_reversed (PyProof.Rows.callWith_type1 (args_cons (thn (he.run pins s σ H _ J h) fun u s1 ⟨v, H1, J1, r1, q1⟩ => args_nil (k u s1 v H1 J1 r1 q1)) n1) n1 rfl))
  refine Call_ (ld_blt J hg hm bt_list (PyProof.Rows.callWith_type1 (args_cons (inner fun u s1 v H1 J1 r1 q1 => ?_) n2) n2 rfl))
  obtain ⟨a, xs, rfl, hq, q⟩ := q1
  obtain rfl : u = Value.ref a := r1
  obtain ⟨its, rv, pl, hz⟩ := J1.list hq
  refine call_reversed_list pl.isList (args_nil ?_)
  have J2 : Inv X pins σ H1 { s1 with heap := s1.heap.push (revObj a ((its.toArray.size : Int) - 1)) } := J1.kept (t' := s1.toks) fun b o e => Heap.get?_push_of_some _ e
  have fp := J1.fpOk (H' := H1) (b := s1.heap.objs.size) (Nat.le_refl _) (J1.hok.fresh (Nat.le_refl _))
  obtain ⟨ol, hol, _⟩ := id pl.isList
  have hn : its.toArray.size ≤ sizeLine := by rw [List.size_toArray, ← rv.length]; exact hz
  refine rev_list (s := { s1 with heap := s1.heap.push (revObj a ((its.toArray.size : Int) - 1)) }) (J1.ok.hd hc) ⟨_, Heap.get?_push_size _ rfl, rfl, rfl⟩ (pl.isList.push _) (Nat.ne_of_lt (Heap.lt_size hol)) hn ?_
  intro h' tk acc c' hk hS hi
  have fresh : H1 (s1.heap.push (revObj a ((its.toArray.size : Int) - 1))).objs.size = none := J2.hok.fresh (Nat.le_refl _)
  refine ⟨.ref _, upd H1 _ (.lst xs.reverse), ?_, rfl, q _ fresh⟩
  have vr : Vals xs.reverse acc.toList := RT.vals_rev rv hi
  have ok : ObjOk X.prog X.w (upd H1 (s1.heap.push (revObj a ((its.toArray.size : Int) - 1))).objs.size (.lst xs.reverse)) h' (s1.heap.push (revObj a ((its.toArray.size : Int) - 1))).objs.size (.lst xs.reverse) :=
    ⟨by rw [List.length_reverse]; exact hz, acc.toList, c', vr, by rw [Array.toArray_toList]; exact hS⟩
  refine J2.turnedNew (ch := [s1.heap.objs.size]) (fun b o hb e => hk b o (fun z => hb (List.mem_singleton.mpr z)) e) (fun b hb => ?_) (Nat.le_refl _) ok
  obtain rfl := List.mem_singleton.mp hb
  exact fp
end
end Pd

set_option maxHeartbeats 4000000
namespace Pd
open PySem PySem.Spec PyProof.Rows L2
/-! ### the script and the bag of draws -/
inductive BS where
  | scr (real : Bool) (a : Addr) (ns : List Int)
  | bag (b l : Addr)
def bsB : BS → Ad
  | .scr r a _ => fun x => r = true ∧ x = a
  | .bag b l => fun x => x = b ∨ x = l
def BagI (b l : Addr) (H : Hp) (cs : List Int) (dg mx : Int) : Prop :=
  H b = some (.lst [.ref l, .int dg, .int mx]) ∧ H l = some (.lst (cs.map V.int)) ∧ (∀ c ∈ cs, 0 ≤ c) ∧ 0 ≤ dg ∧ 0 ≤ mx ∧ mx < 2147483647
def bsI (K : Fg) : BS → Hp → Prop
  | .scr true a ns, H => Rd H a (.lst (ns.map V.int))
  | .scr false a ns, _ => SqL K (fun _ => none) a (ns.map V.int)
  | .bag b l, H => b ≠ l ∧ ∃ cs dg mx, BagI b l H cs dg mx
abbrev BA (K : Fg) : Amb where
  S := BS
  B := bsB
  I := bsI K
  dom := fun {s H a} i h => by
    cases s with
    | scr r x ns =>
      obtain ⟨rfl, rfl⟩ := h
      rcases i with i | ⟨o, i⟩ <;> rw [i] <;> simp
    | bag b l =>
      obtain ⟨_, cs, dg, mx, h1, h2, _⟩ := i
      rcases h with rfl | rfl
      · rw [h1]; simp
      · rw [h2]; simp
  loc := fun {s H H'} i h => by
    cases s with
    | scr r x ns =>
      cases r with
      | true => exact i.imp (fun e => (h x ⟨rfl, rfl⟩).trans e) fun ⟨o, e⟩ => ⟨o, (h x ⟨rfl, rfl⟩).trans e⟩
      | false => exact i
    | bag b l =>
      obtain ⟨n, cs, dg, mx, h1, h2, h3⟩ := i
      exact ⟨n, cs, dg, mx, (h b (.inl rfl)).trans h1, (h l (.inr rfl)).trans h2, h3⟩
theorem scr_seq {K : Fg} {r : Bool} {a : Addr} {ns : List Int} {H : Hp} (h : bsI K (.scr r a ns) H) : SqL K H a (ns.map V.int) := by
  cases r with
  | true => exact .inl h
  | false =>
    rcases h with (h | ⟨o, h⟩) | h
    · cases h
    · cases h
    · exact .inr h
/-- script[:k] -/
def fScr {K : Fg} (i : Nat) (hi : FP (BA K)) : FE (BA K) := fun ρ s Φ => match ρ[i]? with
  | some (.v (.any (.ref a))) => (match s with
    | .scr r a' ns => a' = a ∧ hi ρ s fun u s1 => s1 = s ∧ Φ (.lst ((cutL ns none u).map D.int)) s
    | _ => False)
  | _ => False
section
variable {K : Fg} {m sh : Bool} {th : TO} {fh : FP (BA K)}
theorem cut_map {α β : Type} (f : α → β) (l : List α) (lo hi : Option Int) : cutL (l.map f) lo hi = (cutL l lo hi).map f := by
  unfold cutL
  rw [List.length_map, List.map_take, List.map_drop]
theorem sd_scr (i : Nat) (hh : SdP (BA K) th fh) : SdE (BA K) m sh (tSl (rSlX K) (tVar i) tNoPart th) (fScr i fh) := fun W s0 H0 s σ H ρ Φ Q R hp q => by
  unfold fScr at hp
  split at hp
  · rename_i a e
    split at hp
    · rename_i r a' ns
      obtain ⟨rfl, hp⟩ := hp
      obtain ⟨v, h1, h2⟩ := R.vals i _ e
      obtain rfl : v = .ref a' := by cases h2; rfl
      refine ⟨.ref a', h1, ?_⟩
      refine hh W s0 H0 _ σ H ρ _ _ R hp fun u s1 H1 ⟨es, hq⟩ R1 st1 => ?_
      subst es
      refine .inl ⟨a', ns.map V.int, rfl, scr_seq R1.amb, fun p hn => q _ _ _ _ hq (R1.alloc hn _) (st1.trans (Stp.fresh hn)) (RV.newL R1 hn ?_)⟩
      have e2 : cutV (ns.map V.int) none u = (cutL ns none u).map V.int := (cut_map V.int ns none u)
      rw [e2]
      exact RsL.ofInts _
    · exact hp.elim
  · exact hp.elim
end
/-- return of the bag -/
def fRetBag {K : Fg} (f : FX (BA K)) : FS (BA K) := fun P ρ s => f ρ s fun ds s1 => (∃ r a ns, s1 = .scr r a ns) ∧ ∃ (cs : List Int) (dg mx : Int), ds = [.o (.lst (cs.map D.int)), .v (.int dg), .v (.int mx)] ∧ (∀ c ∈ cs, (0 : Int) ≤ c) ∧ 0 ≤ dg ∧ 0 ≤ mx ∧ mx < 2147483647 ∧ ∀ b l, P.rt (.d (.any (.ref b))) (.bag b l)
/-- list(reversed(list)), xs[::-1], as a new thing of one's own -/
def fRevO {A : Amb} (f : FE A) : FO A := fun ρ s Φ => f ρ s fun d s1 => match d with
  | .lst l => Φ (.lst l.reverse) s1
  | _ => False
theorem RsL.reverse {B : Ad} {H : Hp} : ∀ {l : List D} {xs : List V}, RsL B H l xs → RsL B H l.reverse xs.reverse
  | _, _, .nil => .nil
  | _, _, .cons h r => by
    rw [List.reverse_cons, List.reverse_cons]
    exact r.reverse.append (RsL.one h)
theorem none_back {A : Amb} {s s1 : A.S} {H H1 : Hp} {p : Addr} (st : Stp A s s1 H H1) (hp : H1 p = none) : H p = none := by
  cases e : H p with
  | none => rfl
  | some o => exact (st.dom p (by rw [e]; simp) hp).elim
section
variable {A : Amb} {m sh sh1 : Bool} {te : TE} {fe : FE A} {K : Fg}
theorem so_new {W : Ot} {s0 s s1 : A.S} {H0 H H1 : Hp} {σ : Sg} {ρ : List Sl} {Φ : Mo → A.S → Prop} {Q : VK} {l : List D} {xs : List V} (R1 : ER A W s0 H0 s1 σ H1 ρ) (st1 : Stp A s s1 H H1) (k2 : RsL (om true A W s1 σ ρ) H1 l xs) (h1 : Φ (.lst l) s1) (p : Addr) (hp : H1 p = none)
    (q : ∀ mo s' p H', Φ mo s' → ER A (W.add p) s0 H0 s' σ H' ρ → Stp A s s' H H' → H p = none → MoAt (om true A (W.add p) s' σ ρ) H' p mo → ¬ W.w p → ¬ A.B s' p → Q (.ref p) H') : Q (.ref p) (upd H1 p (.lst xs)) :=
  q _ s1 p _ h1 (R1.wide hp _) (st1.trans (Stp.fresh hp)) (none_back st1 hp) ⟨xs, upd_same, RsL.wide hp _ k2⟩ (fun z => R1.wd p z hp) (fun z => A.dom R1.amb z hp)
theorem so_lstRev (h : SdE A true sh1 te fe) : SdO A (tLstRev K te) (fRevO fe) := fun W s0 H0 s σ H ρ Φ Q R hp q => h W s0 H0 s σ H ρ _ _ R hp fun d s1 v H1 h1 R1 st1 r1 => by
  cases d with
  | lst l =>
    obtain ⟨a, xs, rfl, k1, k2, _⟩ := r1.lst
    exact ⟨a, xs, rfl, .of k1, fun p hp => so_new R1 st1 k2.reverse h1 p hp q⟩
  | _ => exact h1.elim
theorem so_revL (h : SdE A true sh1 te fe) : SdO A (tRevL K te) (fRevO fe) := fun W s0 H0 s σ H ρ Φ Q R hp q => h W s0 H0 s σ H ρ _ _ R hp fun d s1 v H1 h1 R1 st1 r1 => by
  cases d with
  | lst l =>
    obtain ⟨a, xs, rfl, k1, k2, _⟩ := r1.lst
    exact ⟨a, xs, rfl, .of k1, fun p hp => so_new R1 st1 k2.reverse h1 p hp q⟩
  | _ => exact h1.elim
end
theorem ints_of {B : Ad} {H : Hp} {cs : List Int} {xs : List V} (h : RsL B H (cs.map D.int) xs) : xs = cs.map V.int := h.ints
section
variable {K : Fg}
theorem ss_retBag {t : TA} {f : FX (BA K)} (h : SdX (BA K) 3 t f) : SdS (BA K) (tRet (tLst t)) (fRetBag f) := fun W s0 H0 s σ H ρ P D R hp _ _ _ rt => by
  refine h W s0 H0 s σ H ρ _ _ R hp fun l s1 vs H1 ps hq R1 st1 rx nd hf hl => ?_
  obtain ⟨⟨r, a, ns, rfl⟩, cs, dg, mx, rfl, c1, c2, c3, c4, hrt⟩ := hq
  have e3 : vs.length = 3 := by rw [rx.len]; rfl
  refine ⟨by rw [e3, line_eq]; omega, fun b hb => ?_⟩
  cases rx with
  | @o ps' mo p l' vs2 hm rx =>
    cases rx with
    | v r1 rx =>
      cases rx with
      | v r2 rx =>
        cases rx with
        | nil =>
          cases r1
          cases r2
          obtain ⟨xs, e1, e2⟩ := hm
          obtain rfl := ints_of e2
          obtain ⟨pn, pw, pb⟩ := hf p (List.mem_singleton.mpr rfl)
          have bp : b ≠ p := fun z => by
            subst z
            rw [hb] at e1
            cases e1
          have hb0 : H0 b = none := R.fresh0 (none_back st1 hb)
          have hp0 : H0 p = none := R.fresh0 pn
          have sg := R1.stp
          have st2 : Stp (BA K) s0 (BS.bag b p) H0 (upd H1 b (.lst [.ref p, .int dg, .int mx])) := {
            agr := fun x u e n => by
              have k := sg.agr x u e n
              rw [upd_ne (ne_of_none k hb)]
              exact k
            new := fun x z => by
              rcases z with rfl | rfl
              · exact .inr hb0
              · exact .inr hp0
            dom := fun x e => by
              by_cases z : x = b
              · subst z; rw [upd_same]; simp
              · rw [upd_ne z]; exact sg.dom x e }
          refine rt _ _ _ _ (hrt b p) ⟨bp, cs, dg, mx, upd_same, ?_, c1, c2, c3, c4⟩ st2 (fun a z => ?_) (.any _)
          · rw [upd_ne bp.symm]; exact e1
          · by_cases z2 : a = b
            · subst z2; rw [upd_same]; simp
            · rw [upd_ne z2]
              exact R1.wd a ((adds_w _ _ _).mpr (.inl z))
end
section
variable {K : Fg}
/-! ### the draw -/
abbrev tRd (K : Fg) (i k : Nat) : TE := tOp (rIx K) (tVar i) (tC (.int k))
theorem t_rd {i k : Nat} {σ : Sg} {H : Hp} {Q : VK} {b : Addr} {xs : List V} {v : V} (h0 : σ[i]? = some (some (.ref b))) (hb : H b = some (.lst xs)) (hk : L2.atI xs k = some v) (q : Q v H) : tRd K i k σ H Q :=
  ⟨.ref b, h0, .inl ⟨b, xs, k, v, rfl, rfl, .inl (.inl hb), hk, q⟩⟩
abbrev tDrawCell (K : Fg) : TS := tAsg (tBM0 K "list" rPop (tRd K 0 0)) (gName 2)
abbrev tDrawLoop (K : Fg) : TS := tWhile (tAnd (tTest (tOp rEq (tRd K 0 1) (tC (.int 0)))) (tTest (tOp (rNeD K) (tRd K 0 0) (tLst tNil))))
  (tSeq (tDrawCell K) (tAsg (tIf (tTest (tOp (rI0 fun i j => .bl (decide (j < i))) (tVar 2) (tOp (rI CPow fun i j => .int (i ^ j.toNat)) (tC (.int 10)) (tC (.int 9))))) (tVar 2) (tC (.int 0))) (gSub (tVar 0) (tC (.int 1)) rSetL)))
abbrev tInt1 (t : TE) : TE := tCB rIntA (tCons t tNil)
abbrev tDrawTake (K : Fg) : TS := tIfS (tTest (tOp (rI0 fun i j => .bl (decide (j < i))) (tRd K 0 1) (tC (.int 0))))
  (tSeq (tAsg (tOp (rI (fun _ j => 0 < j) fun i j => .int (i % j)) (tInt1 (tRd K 0 1)) (tVar 1)) (gName 3))
  (tSeq (tAsg (tOp (rI CDivW fun i j => .int (i / j)) (tRd K 0 1) (tVar 1)) (gSub (tVar 0) (tC (.int 1)) rSetL)) (tRet (tVar 3)))) tNext
abbrev tDrawMix (K : Fg) : TS := tAsg (tOp (rI (fun _ j => 0 < j) fun i j => .int (i % j)) (tInt1 (tOp (rAddA K) (tOp rMulA (tRd K 0 2) (tC (.int 48271))) (tC (.int 11)))) (tC (.int 2147483647))) (gSub (tVar 0) (tC (.int 2)) rSetL)
abbrev tDrawEnd (K : Fg) : TS := tRet (tOp (rI (fun _ j => 0 < j) fun i j => .int (i % j)) (tInt1 (tOp (rI CDivW fun i j => .int (i / j)) (tOp (rI (fun _ j => 0 < j) fun i j => .int (i % j)) (tInt1 (tOp rMulA (tRd K 0 2) (tRd K 0 2))) (tC (.int 2147483629))) (tC (.int 7)))) (tVar 1))
abbrev tDraw (K : Fg) : TS := tSeq (tDrawLoop K) (tSeq (tDrawTake K) (tSeq (tDrawMix K) (tDrawEnd K)))
def fDraw {K : Fg} : FS (BA K) := fun P ρ s => ∃ b l n, ρ = [.v (.any (.ref b)), .v (.int n), .e, .e] ∧ s = .bag b l ∧ 0 < n ∧ n.natAbs.log2 < 9000 ∧ ∀ r, 0 ≤ r → r < n → P.rt (.d (.int r)) s
theorem shaped_ints : ∀ cs : List Int, SeqAt.shaped (.list (cs.map PyData.int)) = true := fun cs => by
  have h1 : ∀ l : List Int, PyData.canLayAll0 (l.map PyData.int) = true := fun l => by
    induction l with
    | nil => rfl
    | cons x r ih =>
      rw [List.map_cons, PyData.canLayAll0, ih, PyData.canLay0, Bool.and_self]
  have h2 : ∀ l : List Int, PyData.depthAll (l.map PyData.int) ≤ 1 := fun l => by
    induction l with
    | nil => simp [PyData.depthAll]
    | cons x r ih =>
      simp only [List.map_cons, PyData.depthAll, PyData.depth]
      omega
  unfold SeqAt.shaped
  rw [Bool.and_eq_true, decide_eq_true_eq]
  refine ⟨by rw [PyData.canLay0]; exact h1 cs, ?_⟩
  have := h2 cs
  simp only [PyData.depth]
  omega
theorem dp_ints {K : Fg} {H : Hp} : ∀ cs : List Int, DpAll K H (cs.map V.int) (cs.map PyData.int)
  | [] => .nil
  | c :: cs => .cons (.int c) (dp_ints cs)
theorem eqv_ints : ∀ cs : List Int, PyData.eqv (.list (cs.map PyData.int)) (.list []) = decide (cs = []) := fun cs => by
  cases cs with
  | nil => rfl
  | cons c r => rfl
theorem ite_t {c : Bool} {p q : Prop} (h : c = true) (x : p) : if c = true then p else q := by rw [if_pos h]; exact x
theorem ite_f {c : Bool} {p q : Prop} (h : c = false) (x : q) : if c = true then p else q := by rw [h, if_neg (by decide)]; exact x
theorem sd_draw : SdS (BA K) (tDraw K) fDraw := fun W s0 H0 s σ H ρ P D R hp _ _ _ rt => by
  obtain ⟨b, l, n, rfl, rfl, hn, hl, hP⟩ := hp
  obtain ⟨v0, e0, r0⟩ := R.vals 0 _ rfl
  obtain ⟨v1, e1, r1⟩ := R.vals 1 _ rfl
  cases r0
  cases r1
  have hlen : σ.length = 4 := R.len
  obtain ⟨bl, i0⟩ := R.amb
  have fin : ∀ r H', 0 ≤ r → r < n → (∀ a o, a ≠ b → a ≠ l → H a = some o → H' a = some o) → (∃ cs dg mx, BagI b l H' cs dg mx) → D.rt (.int r) H' := fun r H' h0 h1 h2 h3 => by
    have st : Stp (BA K) (BS.bag b l) (BS.bag b l) H H' := {
      agr := fun a o e z => by
        exact h2 a o (fun y => z (.inl y)) (fun y => z (.inr y)) e
      new := fun a z => .inl z
      dom := fun a z => by
        obtain ⟨cs, dg, mx, k1, k2, _⟩ := h3
        by_cases y : a = b
        · subst y; rw [k1]; simp
        · by_cases y2 : a = l
          · subst y2; rw [k2]; simp
          · cases q : H a with
            | none => exact (z q).elim
            | some o => rw [h2 a o y y2 q]; simp }
    exact rt (.d (.int r)) (.bag b l) (.int r) H' (hP r h0 h1) ⟨bl, h3⟩ (R.stp.trans st) (fun a w => st.dom a (R.wd a w)) (.int r)
  have rest : ∀ (σ' : Sg) (H' : Hp) (cs : List Int) (dg mx : Int), σ'[0]? = some (some (.ref b)) → σ'[1]? = some (some (.int n)) → σ'.length = 4 → (∀ a o, a ≠ b → a ≠ l → H a = some o → H' a = some o) → BagI b l H' cs dg mx → (tSeq (tDrawTake K) (tSeq (tDrawMix K) (tDrawEnd K))) D σ' H' := by
    intro σ' H' cs dg mx f0 f1 fl far ⟨k1, k2, k3, k4, k5, k6⟩
    refine t_rd f0 k1 rfl ⟨dg, 0, rfl, rfl, _, rfl, ?_⟩
    by_cases hd : (0 : Int) < dg
    · refine ite_t (decide_eq_true hd) ?_
      refine t_rd f0 k1 rfl (.inl ⟨dg, rfl, .int n, f1, dg, n, rfl, rfl, hn, ?_⟩)
      have g0 : (σ'.set 3 (some (V.int (dg % n))))[0]? = some (some (.ref b)) := by rw [List.getElem?_set_ne (by decide)]; exact f0
      have g1 : (σ'.set 3 (some (V.int (dg % n))))[1]? = some (some (.int n)) := by rw [List.getElem?_set_ne (by decide)]; exact f1
      have g3 : (σ'.set 3 (some (V.int (dg % n))))[3]? = some (some (.int (dg % n))) := List.getElem?_set_self (by omega)
      refine t_rd g0 k1 rfl ⟨.int n, g1, dg, n, rfl, rfl, ⟨hn, hl⟩, ?_⟩
      refine ⟨.ref b, g0, b, _, 1, 1, rfl, rfl, k1, rfl, ?_⟩
      refine ⟨.int (dg % n), g3, ?_⟩
      refine fin _ _ (Int.emod_nonneg _ (by omega)) (Int.emod_lt_of_pos _ hn) (fun a o y y2 e => by rw [upd_ne y]; exact far a o y y2 e) ⟨cs, dg / n, mx, upd_same, ?_, k3, Int.ediv_nonneg k4 (by omega), k5, k6⟩
      rw [upd_ne bl.symm]
      exact k2
    · refine ite_f (decide_eq_false hd) ?_
      have cm : CMulW mx 48271 := wide_mul (a := 31) (b := 16) (by omega) (by decide) (by decide) (by decide) (by decide)
      refine t_rd f0 k1 rfl (.inl ⟨mx, 48271, rfl, rfl, cm, .inl ⟨mx * 48271, 11, rfl, rfl, .inl ⟨_, rfl, _, _, rfl, rfl, (show (0 : Int) < 2147483647 by decide), ?_⟩⟩⟩)
      refine ⟨.ref b, f0, b, _, 2, 2, rfl, rfl, k1, rfl, ?_⟩
      have hm0 : 0 ≤ (mx * 48271 + 11) % 2147483647 := Int.emod_nonneg _ (by decide)
      have hm1 : (mx * 48271 + 11) % 2147483647 < 2147483647 := Int.emod_lt_of_pos _ (by decide)
      obtain ⟨my, hmy⟩ : ∃ my, my = (mx * 48271 + 11) % 2147483647 := ⟨_, rfl⟩
      rw [← hmy] at hm0 hm1
      have k1' : (upd H' b (.lst ([V.ref l, V.int dg, V.int mx].set 2 (V.int ((mx * 48271 + 11) % 2147483647))))) b = some (.lst [.ref l, .int dg, .int my]) := by
        rw [hmy]
        exact upd_same
      have cm2 : CMulW my my := wide_mul (a := 31) (b := 31) (by omega) (by omega) (by decide) (by decide) (by decide)
      refine t_rd f0 k1' rfl (t_rd f0 k1' rfl (.inl ⟨my, my, rfl, rfl, cm2, .inl ⟨_, rfl, _, _, rfl, rfl, (show (0 : Int) < 2147483629 by decide), _, _, rfl, rfl, ⟨by decide, by decide⟩, .inl ⟨_, rfl, .int n, f1, _, _, rfl, rfl, hn, ?_⟩⟩⟩))
      refine fin _ _ (Int.emod_nonneg _ (by omega)) (Int.emod_lt_of_pos _ hn) (fun a o y y2 e => by rw [upd_ne y]; exact far a o y y2 e) ⟨cs, dg, my, k1', ?_, k3, k4, hm0, hm1⟩
      rw [upd_ne bl.symm]
      exact k2
  refine ⟨fun m σ' H' => σ'[0]? = some (some (.ref b)) ∧ σ'[1]? = some (some (.int n)) ∧ σ'.length = 4 ∧ (∀ a o, a ≠ b → a ≠ l → H a = some o → H' a = some o) ∧ ∃ cs dg mx, cs.length = m ∧ BagI b l H' cs dg mx, ?_, fun m σ' H' h => ?_⟩
  · obtain ⟨cs, dg, mx, i1⟩ := i0
    exact ⟨cs.length, e0, e1, hlen, fun _ _ _ _ e => e, cs, dg, mx, rfl, i1⟩
  obtain ⟨f0, f1, fl, far, cs, dg, mx, rfl, k1, k2, k3, k4, k5, k6⟩ := h
  refine t_rd f0 k1 rfl ⟨rfl, _, rfl, ?_⟩
  by_cases hd : dg = 0
  · subst hd
    refine ite_t (decide_eq_true rfl) ?_
    refine t_rd f0 k1 rfl ⟨Nat.zero_le _, fun p hp => ?_⟩
    have pb : b ≠ p := fun z => by subst z; rw [k1] at hp; cases hp
    have pl : l ≠ p := fun z => by subst z; rw [k2] at hp; cases hp
    have q1 : (upd H' p (.lst [])) b = some (.lst [.ref l, .int 0, .int mx]) := by rw [upd_ne pb]; exact k1
    have q2 : (upd H' p (.lst [])) l = some (.lst (cs.map V.int)) := by rw [upd_ne pl]; exact k2
    refine ⟨_, _, .lst (.inl (.inl q2)) (dp_ints cs), .lst (.inl (.inl upd_same)) .nil, shaped_ints cs, rfl, ?_⟩
    refine ⟨_, rfl, ?_⟩
    rw [eqv_ints]
    by_cases hc : cs = []
    · subst hc
      refine ite_f rfl ?_
      exact (rest _ _ [] 0 mx f0 f1 fl (fun a o y y2 e => by rw [upd_ne (ne_of_none (far a o y y2 e) hp)]; exact far a o y y2 e) ⟨q1, q2, k3, k4, k5, k6⟩)
    · refine ite_t (by simp [hc]) ?_
      rcases List.eq_nil_or_concat cs with hc' | ⟨r, c, rfl⟩
      · exact (hc hc').elim
      refine ⟨fun σ2 H2 => σ2[0]? = some (some (.ref b)) ∧ σ2[1]? = some (some (.int n)) ∧ σ2.length = 4 ∧ (∀ a o, a ≠ b → a ≠ l → H a = some o → H2 a = some o) ∧ ∃ cs2 dg2 mx2, cs2.length < (r.concat c).length ∧ BagI b l H2 cs2 dg2 mx2, ?_, ?_⟩
      · rintro σ2 H2 ⟨z0, z1, z2, z3, cs2, dg2, mx2, z4, z5⟩
        exact ⟨_, z4, z0, z1, z2, z3, cs2, dg2, mx2, rfl, z5⟩
      rw [List.concat_eq_append] at q2 k3 ⊢
      have c0 : 0 ≤ c := k3 c (List.mem_append_right _ (List.mem_singleton.mpr rfl))
      rw [List.map_append] at q2
      have hlast : ((r.map V.int) ++ [c].map V.int)[((r.map V.int) ++ [c].map V.int).length - 1]? = some (V.int c) := by
        rw [List.length_append, List.length_map, List.length_map, List.length_singleton, Nat.add_sub_cancel, List.getElem?_append_right (by rw [List.length_map]; exact Nat.le_refl _), List.length_map, Nat.sub_self]
        rfl
      refine t_rd f0 q1 rfl ⟨.inl ⟨rfl, _, .inl (.inl q2)⟩, l, _, .int c, rfl, rfl, q2, hlast, ?_⟩
      have hdl : ((r.map V.int) ++ [c].map V.int).dropLast = r.map V.int := by
        show ((r.map V.int) ++ [V.int c]).dropLast = r.map V.int
        exact List.dropLast_concat
      rw [hdl]
      have q3 : (upd (upd H' p (.lst [])) l (.lst (r.map V.int))) b = some (.lst [.ref l, .int 0, .int mx]) := by rw [upd_ne bl]; exact q1
      have q4 : (upd (upd H' p (.lst [])) l (.lst (r.map V.int))) l = some (.lst (r.map V.int)) := upd_same
      have g0 : (σ'.set 2 (some (V.int c)))[0]? = some (some (.ref b)) := by rw [List.getElem?_set_ne (by decide)]; exact f0
      have g1 : (σ'.set 2 (some (V.int c)))[1]? = some (some (.int n)) := by rw [List.getElem?_set_ne (by decide)]; exact f1
      have g2 : (σ'.set 2 (some (V.int c)))[2]? = some (some (.int c)) := List.getElem?_set_self (by omega)
      have gl : (σ'.set 2 (some (V.int c))).length = 4 := by rw [List.length_set]; exact fl
      have put : ∀ d : Int, 0 ≤ d → ∀ (σ2 : Sg), σ2 = σ'.set 2 (some (V.int c)) → gSub (tVar 0) (tC (.int 1)) rSetL (.int d) σ2 (upd (upd H' p (.lst [])) l (.lst (r.map V.int))) (fun σ2 H2 => σ2[0]? = some (some (.ref b)) ∧ σ2[1]? = some (some (.int n)) ∧ σ2.length = 4 ∧ (∀ a o, a ≠ b → a ≠ l → H a = some o → H2 a = some o) ∧ ∃ cs2 dg2 mx2, cs2.length < (r ++ [c]).length ∧ BagI b l H2 cs2 dg2 mx2) := by
        rintro d hd0 _ rfl
        refine ⟨.ref b, g0, b, _, 1, 1, rfl, rfl, q3, rfl, g0, g1, gl, fun a o y y2 e => ?_, r, d, mx, by rw [List.length_append, List.length_singleton]; exact Nat.lt_succ_self _, upd_same, ?_, fun x hx => k3 x (List.mem_append_left _ hx), hd0, k5, k6⟩
        · rw [upd_ne y, upd_ne y2, upd_ne (ne_of_none (far a o y y2 e) hp)]
          exact far a o y y2 e
        · rw [upd_ne bl.symm]
          exact q4
      refine ⟨.int c, g2, 10, 9, rfl, rfl, ⟨by decide, by decide, by decide⟩, c, _, rfl, rfl, _, rfl, ?_⟩
      by_cases hc9 : (10 : Int) ^ (9 : Int).toNat < c
      · exact ite_t (decide_eq_true hc9) ⟨.int c, g2, put c c0 _ rfl⟩
      · exact ite_f (decide_eq_false hc9) (put 0 (by decide) _ rfl)
  · exact ite_f (decide_eq_false (fun z => hd (by cases z; rfl))) (ite_f rfl (rest _ _ cs dg mx f0 f1 fl far ⟨k1, k2, k3, k4, k5, k6⟩))
end
end Pd

set_option maxHeartbeats 4000000
namespace Pd
open PySem PySem.Spec PyProof.Rows L2
section
variable {X : Cx} {m sh sh1 : Bool} {e : Expr} {te : TE} {x : Str} {p p2 pos pos2 : Pos} {hi : Option Expr} {th : TO}
theorem q_scr {fh : FP (BA X.K)} (i : Nat) (hh : QP X (BA X.K) hi th fh) (hN : X.N[i]? = some x := by rfl) (hv : Vis X.env.scope x := by first | exact Or.inl rfl | exact Or.inr (Or.inl rfl) | exact Or.inr (Or.inr rfl)) (hd : (x == ("__debug__" : Str)) = false := by decide) (hcd : (x == ("__classdict__" : Str)) = false := by decide) :
    QE X (BA X.K) m sh (.Subscript (.Name x p) (.Slice none hi none p2) pos) (tSl (rSlX X.K) (tVar i) tNoPart th) (fScr i fh) := ⟨pe_slice sl_x (pe_var hN hv hd hcd) po_none hh.po, sd_scr i hh.sd⟩
theorem qo_lrev {A : Amb} {fe : FE A} (hc : X.calm = true) (hm : X.mg "list" = none) (hm2 : X.mg "reversed" = none) (he : QE X A true true e te fe) (hg : Gl X "list" := by rfl) (hg2 : Gl X "reversed" := by rfl)
    (n1 : starEach [e] X.env = (false, eval e X.env) :: starEach [] X.env := by rfl)
    (n2 : starEach [.Call (.Name "reversed" p2) [e] [] pos2] X.env = (false, eval (.Call (.Name "reversed" p2) [e] [] pos2) X.env) :: starEach [] X.env := by rfl) :
    QO X A (.Call (.Name "list" p) [.Call (.Name "reversed" p2) [e] [] pos2] [] pos) (tLstRev X.K te) (fRevO fe) := ⟨pe_lstRev hc hg hm hg2 hm2 he.pe n1 n2, so_lstRev he.sd⟩
theorem qo_revL {A : Amb} {fe : FE A} {k : Nat} {p1 p3 : Pos} (he : QE X A true true e te fe) : QO X A (.Subscript e (.Slice none none (some (.UnaryOp .USub (.Constant (.int 1) k p1) p2)) p3) pos) (tRevL X.K te) (fRevO fe) := ⟨pe_revL he.pe, so_revL he.sd⟩
theorem z_retBag {es : List Expr} {t : TA} {f : FX (BA X.K)} (h : QX X (BA X.K) 3 es t f) : QS X (BA X.K) (.Return (some (.List es p)) pos) (tRet (tLst t)) (fRetBag f) := ⟨ps_ret (pe_lst h.pa), ss_retBag h.sd⟩
end
section
variable {X : Cx} {A : Amb} {tg it elt : Expr} {wi : TI} {fi : FI A} {ifs : List Expr} {scope : Scope} {ws : List Nat} {gg : Blk5 TG} {hh : FG} {tt : Blk5 TT} {ft : FT A} {te : Blk5 TE} {fe : FE A} {py pos spos : Pos} {y : Str}
theorem z_setLc (i : Nat) (hN : X.N.Nodup) (own : List (Str × Nat)) (hc : X.calm = true) (_ : X.N.Nodup) (hi : QI X A tg it wi fi) (ok : BlkOk X.N X.env.scope scope own)
    (hg : ∀ (s : Shared) (H : Hp) (C : Addr) (cl : List (Str × Addr)) (fp : List Addr), QG (X.blk s H scope (compEnvC scope cl C X.env) fp) A ws tg (gg s H C cl fp) hh) (ht : ∀ (s : Shared) (H : Hp) (C : Addr) (cl : List (Str × Addr)) (fp : List Addr), QTs (X.blk s H scope (compEnvC scope cl C X.env) fp) A ifs (tt s H C cl fp) ft)
    (he : ∀ (s : Shared) (H : Hp) (C : Addr) (cl : List (Str × Addr)) (fp : List Addr), QE (X.blk s H scope (compEnvC scope cl C X.env) fp) A true false elt (te s H C cl fp) fe) (hw : ∀ i ∈ ws, i ∈ own.map (·.2) := by decide) (hy : X.N[i]? = some y := by rfl) (hyl : X.env.scope.names.lookup y = some .local := by rfl)
    (hk : X.env.scope.kind = .function := by rfl) (hl : (py.line == pos.line) = true := by rfl) (ha : (scope.names.any fun (n, k) => n == y && (k == .local || k == .cell)) = false := by decide +kernel) (hs : ∀ x, foldedSetIterable it X.env x = pure x := by intro _; rfl)
    (eg : ∀ s H C cl fp, gg s H C cl fp = at5 gg := by intros; rfl) (et : ∀ s H C cl fp, tt s H C cl fp = at5 tt := by intros; rfl) (ee : ∀ s H C cl fp, te s H C cl fp = at5 te := by intros; rfl) :
    QS X A (.Assign [.Name y py] (.ListComp elt [⟨tg, it, ifs, 0⟩] scope pos) spos) (tAsg (tLc wi (at5 gg) (at5 tt) (at5 te) (own.map (·.2))) (gName i)) (fSet i (fOV (fLc fi (own.map (·.2)) hh ft fe))) := by
  have hg' : ∀ s H C cl fp, QG (X.blk s H scope (compEnvC scope cl C X.env) fp) A ws tg (at5 gg) hh := fun s H C cl fp => eg s H C cl fp ▸ hg s H C cl fp
  have ht' : ∀ s H C cl fp, QTs (X.blk s H scope (compEnvC scope cl C X.env) fp) A ifs (at5 tt) ft := fun s H C cl fp => et s H C cl fp ▸ ht s H C cl fp
  have he' : ∀ s H C cl fp, QE (X.blk s H scope (compEnvC scope cl C X.env) fp) A true false elt (at5 te) fe := fun s H C cl fp => ee s H C cl fp ▸ he s H C cl fp
  have key := ps_setLc (spos := spos) hc hN hy hyl (sw_true hk hyl hl ha) hi.pi ok (fun s H C cl fp => (hg' s H C cl fp).pg) (fun s H C cl fp => (ht' s H C cl fp).pt) (fun s H C cl fp => (he' s H C cl fp).pe) hs
  have so := so_lc hi.sd (hg' {} (fun _ => none) 0 [] []).sd hw (ht' {} (fun _ => none) 0 [] []).sd (he' {} (fun _ => none) 0 [] []).sd
  exact ⟨key, ss_set i (sd_ov so)⟩
theorem z_setLcO (i : Nat) (hN : X.N.Nodup) (own : List (Str × Nat)) (hc : X.calm = true) (_ : X.N.Nodup) (hi : QI X A tg it wi fi) (ok : BlkOk X.N X.env.scope scope own)
    (hg : ∀ (s : Shared) (H : Hp) (C : Addr) (cl : List (Str × Addr)) (fp : List Addr), QG (X.blk s H scope (compEnvC scope cl C X.env) fp) A ws tg (gg s H C cl fp) hh) (ht : ∀ (s : Shared) (H : Hp) (C : Addr) (cl : List (Str × Addr)) (fp : List Addr), QTs (X.blk s H scope (compEnvC scope cl C X.env) fp) A ifs (tt s H C cl fp) ft)
    (he : ∀ (s : Shared) (H : Hp) (C : Addr) (cl : List (Str × Addr)) (fp : List Addr), QE (X.blk s H scope (compEnvC scope cl C X.env) fp) A true false elt (te s H C cl fp) fe) (hw : ∀ i ∈ ws, i ∈ own.map (·.2) := by decide) (hy : X.N[i]? = some y := by rfl) (hyl : X.env.scope.names.lookup y = some .local := by rfl)
    (hk : X.env.scope.kind = .function := by rfl) (hl : (py.line == pos.line) = true := by rfl) (ha : (scope.names.any fun (n, k) => n == y && (k == .local || k == .cell)) = false := by decide +kernel) (hs : ∀ x, foldedSetIterable it X.env x = pure x := by intro _; rfl)
    (eg : ∀ s H C cl fp, gg s H C cl fp = at5 gg := by intros; rfl) (et : ∀ s H C cl fp, tt s H C cl fp = at5 tt := by intros; rfl) (ee : ∀ s H C cl fp, te s H C cl fp = at5 te := by intros; rfl) :
    QS X A (.Assign [.Name y py] (.ListComp elt [⟨tg, it, ifs, 0⟩] scope pos) spos) (tAsg (tLc wi (at5 gg) (at5 tt) (at5 te) (own.map (·.2))) (gName i)) (fSetO i (fLc fi (own.map (·.2)) hh ft fe)) := by
  have hg' : ∀ s H C cl fp, QG (X.blk s H scope (compEnvC scope cl C X.env) fp) A ws tg (at5 gg) hh := fun s H C cl fp => eg s H C cl fp ▸ hg s H C cl fp
  have ht' : ∀ s H C cl fp, QTs (X.blk s H scope (compEnvC scope cl C X.env) fp) A ifs (at5 tt) ft := fun s H C cl fp => et s H C cl fp ▸ ht s H C cl fp
  have he' : ∀ s H C cl fp, QE (X.blk s H scope (compEnvC scope cl C X.env) fp) A true false elt (at5 te) fe := fun s H C cl fp => ee s H C cl fp ▸ he s H C cl fp
  have key := ps_setLc (spos := spos) hc hN hy hyl (sw_true hk hyl hl ha) hi.pi ok (fun s H C cl fp => (hg' s H C cl fp).pg) (fun s H C cl fp => (ht' s H C cl fp).pt) (fun s H C cl fp => (he' s H C cl fp).pe) hs
  have so := so_lc hi.sd (hg' {} (fun _ => none) 0 [] []).sd hw (ht' {} (fun _ => none) 0 [] []).sd (he' {} (fun _ => none) 0 [] []).sd
  exact ⟨key, ss_setO i so⟩
end
section
variable {X : Cx} {A : Amb} {m sh : Bool}
/-- a ** b, both written -/
theorem q_pw {a b c : Int} {ja jb : Nat} {pa pb pos : Pos} (h0 : 0 ≤ b := by decide) (h1 : b ≤ 1000000 := by decide) (h2 : a.natAbs < 2 ^ 64 := by decide) (h3 : a ^ b.toNat = c := by decide +kernel) :
    QE X A m sh (.BinOp (.Constant (.int a) ja pa) .Pow (.Constant (.int b) jb pb) pos) (tOp (rI CPow fun i j => .int (i ^ j.toNat)) (tC (.int a)) (tC (.int b))) (fC (.int c)) :=
  ⟨pe_op op_pow pe_int pe_int, fun W s0 H0 s σ H ρ Φ Q R hp q => ⟨a, b, rfl, rfl, ⟨h0, h1, h2⟩, q _ s _ H hp R Stp.refl (by rw [← h3]; exact .inl (.int _))⟩⟩
end
/-! ### a cut: what stands behind a statement, told once -/
structure CutP {A : Amb} (g h : FS A) (P : PEnds A) (ρ : List Sl) (s : A.S) : Prop where
  ex : ∃ J : List Sl → A.S → Prop, g { P with nx := J } ρ s ∧ ∀ ρ' s', J ρ' s' → h P ρ' s'
def fCut {A : Amb} (g h : FS A) : FS A := fun P ρ s => CutP g h P ρ s
theorem cut_go {A : Amb} {g h : FS A} {P : PEnds A} {ρ : List Sl} {s : A.S} {T : Type} (enc : T → List Sl) (J : T → Prop) (h1 : g { P with nx := fun ρ' s' => s' = s ∧ ∃ t, enc t = ρ' ∧ J t } ρ s) (h2 : ∀ t, J t → h P (enc t) s) : CutP g h P ρ s :=
  ⟨_, h1, fun ρ' s' ⟨e, t, e2, j⟩ => by rw [e, ← e2]; exact h2 t j⟩
section
variable {X : Cx} {A : Amb} {st : Stmt} {sts : List Stmt} {s1 s2 : TS} {g1 g2 : FS A}
theorem ss_cut (h1 : SdS A s1 g1) (h2 : SdS A s2 g2) : SdS A (tSeq s1 s2) (fCut g1 g2) := fun W s0 H0 s σ H ρ P D R hp nx bk ct rt => by
  obtain ⟨J, a, b⟩ := hp.ex
  exact h1 W s0 H0 s σ H ρ _ _ R a (fun ρ' s' σ' H' q R' => h2 W s0 H0 s' σ' H' ρ' P D R' (b ρ' s' q) nx bk ct rt) bk ct rt
theorem zs_cut (h : QS X A st s1 g1) (hr : QSs X A sts s2 g2) : QSs X A (st :: sts) (tSeq s1 s2) (fCut g1 g2) := ⟨pss_cons h.ps hr.ps, ss_cut h.sd hr.sd⟩
end
end Pd

set_option maxHeartbeats 4000000
namespace Pd
open PySem PySem.Spec PyProof.Rows L2
/-! ### the top, the end -/
section
variable {K : Fg} {h : Heap} {mg : Str → Option Value}
theorem dfn_mk {x : Str} {st : Stmt} {f : Addr} {oc : Value} {od an : Option Addr} {osl : Array (Option Value)} {kV doc pm cdv ct : Value} (ps : List Str) (X : K.In h) (G : h.Ns mainGlobals mg)
    (hb : ∀ (kV doc pm : Value) (an : Option Addr) (cdv ct : Value) (us : List Value), us.length = ps.length → bindArgs (PySem.W.fnOf x x (defArgs st) (defBody st) (defScope st) .none kV doc pm an cdv ct) ⟨us, []⟩ = pure (ps.zip us))
    (a : PySem.W.nsIn K mainGlobals x = some (some (.ref f))) (l : K.lookup f = some ⟨oc, od, .func (PySem.W.fnOf x x (defArgs st) (defBody st) (defScope st) .none kV doc pm an cdv ct), osl⟩)
    (c : PySem.W.codeIn K cdv x = true) (k : PySem.W.keepIn K (.ref f) = true) : Dfn K mg x st ps :=
  have F := fun_mk (st := st) l c k
  ⟨f, _, F, PySem.W.mg_of X G a, F.binds hb⟩
end
def sp_law {K : Fg} : Pg (BA K) := fun ds s Ψ => ∃ r a ns, ds = [.any (.ref a)] ∧ s = .scr r a ns ∧ ns.length ≤ 63 ∧ ∀ s', Ψ (.d (.bl true)) s'
theorem end_call {P : Program} {w : World} {K : Fg} {mg mb : Str → Option Value} {k : Nat} {fa a : Addr} {x : Str} {s₁ : Shared} {vs : List Value} {ns : List Int}
    (KX : K.In s₁.heap) (hns : s₁.heap.Ns mainGlobals mg) (hb : s₁.heap.Ns builtinsNs mb) (hbb : ∀ x : Str, x ≠ "__name__" → mb x = bootBuiltins x) (hlim : s₁.heap.NoLimit) (hg : s₁.gens = #[])
    (ha : s₁.heap.get? a = some { cls := .type "list", data := .seq vs.toArray }) (hi : IntsAre vs ns) (hl : ns.length ≤ 63) (hr : Room k callerA) (hmg : mg x = some (.ref fa))
    (F : ∀ base : Heap, K.In base → base.Ns mainGlobals mg → Cal P w K mg base (BA K) k x 1 sp_law) :
    codeAny (model P w) callerA (.call (.ref fa) ⟨[.ref a], []⟩) (fun r s' => r = .ok (.ret (.bool true)) ∧ OldK s₁.heap s'.heap ∧ s'.os = s₁.os ∧ AllBare s'.gens) s₁ := by
  have rv := vals_ints hi
  have lenV := hi.length
  have hl2 : ns.length ≤ sizeLine := Nat.le_trans hl (by decide)
  have core : ∀ (r : Bool) (H : Hp), Only H → bsI K (.scr r a ns) H → HOk P w H s₁.heap → (∀ b, H b ≠ none → b = a) → (H a ≠ none → K.lookup a = none) →
      codeAny (model P w) callerA (.call (.ref fa) ⟨[.ref a], []⟩) (fun r s' => r = .ok (.ret (.bool true)) ∧ OldK s₁.heap s'.heap ∧ s'.os = s₁.os ∧ AllBare s'.gens) s₁ := by
    intro r H hO hS hok hA hK
    have base_of : ∀ {b : Addr} {o : Obj}, s₁.heap.get? b = some o → H b = none → (hidT s₁.heap H).get? b = some o := fun e n => hidT_get e n
    have noA : ∀ {b : Addr} {o : Obj} {es : Array DictEntry} {ep : Nat}, s₁.heap.get? b = some o → o.data = .dict es ep → H b = none := fun {b o es ep} e d => by
      cases q : H b with
      | none => rfl
      | some u =>
        have e' : b = a := hA b (by rw [q]; simp)
        subst e'
        rw [ha] at e
        cases e
        have d' : Data.seq vs.toArray _ = Data.dict es ep := d
        cases d'
    have nsK : ∀ {b : Addr} {m : Str → Option Value}, s₁.heap.Ns b m → (hidT s₁.heap H).Ns b m := fun {b m} ⟨o, es, ep, e, d, z⟩ => ⟨o, es, ep, base_of e (noA e d), d, z⟩
    have hKb : K.In (hidT s₁.heap H) := fun b o e => base_of (KX b o e) (by
      cases q : H b with
      | none => rfl
      | some u =>
        have e' : b = a := hA b (by rw [q]; simp)
        subst e'
        rw [hK (by rw [q]; simp)] at e
        cases e)
    have hM : Mod K mg (hidT s₁.heap H) := ⟨hKb, nsK hns, ⟨mb, nsK hb, hbb⟩, let ⟨mc, h1, h2⟩ := hlim; ⟨mc, nsK h1, h2⟩⟩
    have e0 : Env0 P w K mg (hidT s₁.heap H) callerA [] s₁ H := ⟨rfl, hM, fun b o e => of_hidT e, Nat.le_of_eq (hidT_size _ _), trivial, fun b hb => absurd (show b ∈ ([] : List Addr) from hb) (by simp), hok, .of_eq hg⟩
    obtain ⟨f, fd, ps, FG, hm, kp, bi⟩ := F _ hKb (nsK hns)
    obtain rfl : fa = f := by
      have z := hmg.symm.trans hm
      cases z
      rfl
    have spx : spOf (BA K) 1 sp_law [.ref a] H (fun v _ => v = .bl true) (fun _ _ _ => False) := by
      refine ⟨fun _ => False, .scr r a ns, [.any (.ref a)], fun q _ => q = .d (.bl true), fun _ z => z.elim, hS, .cons (.any _) .nil, rfl, ⟨r, a, ns, rfl, rfl, hl, fun _ => rfl⟩, ?_⟩
      rintro q s' v H' rfl _ _ _ h
      cases h
      rfl
    have hp1 := FG.len _ _ _ _ spx
    refine codeAny_mono (FG.run callerA [] s₁ H ⟨[.ref a], []⟩ [.ref a] [.ref a] _ _ rfl hr e0 ?_ (.cons rfl .nil) spx) fun z s' h => ?_
    · have z := bi s₁ [.ref a] KX (by rw [List.append_nil]; exact hp1)
      rw [List.append_nil] at z
      exact z
    cases z with
    | error e => exact h.elim
    | ok fl =>
      cases fl with
      | next => exact False.elim h
      | brk => exact False.elim h
      | cont => exact False.elim h
      | ret u =>
        obtain ⟨v, H', os, bare, un, hok', r', q⟩ := h
        have q' : v = .bl true := q
        subst q'
        obtain rfl : u = Value.bool true := r'
        refine ⟨rfl, OldK.of_keep fun b o e => ?_, os, bare⟩
        cases q : H b with
        | none => exact un.keep b o e q (by intro z; exact absurd (show b ∈ ([] : List Addr) from z) (by simp)) (by simp)
        | some u =>
          rcases hO b with z | ⟨ob, xs, z⟩
          · rw [q] at z
            cases z
          · have z2 := un.frzs b ob _ z
            obtain ⟨e1, _⟩ := hok b _ z
            obtain ⟨e2, _⟩ := hok' b _ z2
            rw [e] at e1
            cases e1
            exact e2
  cases hk : K.lookup a with
  | some o =>
    have e := KX a o hk
    rw [ha] at e
    cases e
    exact core false (fun _ => none) (fun _ => .inl rfl) (.inr ⟨_, vs.toArray, _, hk, rfl, rfl, rfl, by rw [List.size_toArray, lenV]; exact hl2, by simpa using rv⟩) (fun b u z => by have z' : (none : Option HO) = some u := z; cases z') (fun b z => absurd rfl z) fun z => absurd rfl z
  | none =>
    refine core true (fun b => if b = a then some (.frz { cls := .type "list", data := .seq vs.toArray } (.lst (ns.map V.int))) else none) (fun b => ?_) (.inr ⟨{ cls := .type "list", data := .seq vs.toArray }, if_pos rfl⟩) (fun b u z => ?_) (fun b z => ?_) fun _ => hk
    · by_cases hb : b = a
      · exact .inr ⟨_, _, if_pos hb⟩
      · exact .inl (if_neg hb)
    · by_cases hb : b = a
      · have z' := (if_pos hb).symm.trans z
        cases z'
        subst hb
        exact ⟨ha, by rw [List.length_map]; exact hl2, vs, _, rv, ha⟩
      · have z' := (if_neg hb).symm.trans z
        cases z'
    · by_cases hb : b = a
      · exact hb
      · exact absurd (if_neg hb) z
theorem walk_bag {l : PySem.W.OpenLaw} {k : Nat} {q : Program} {loose : List Str} {XP : (Str → Option Value) → Heap → Prop} {YP : World → Heap → Prop} {d : DefRec} {K : Params → Fg}
    (hn : l.most = some 63) (hdf : d.params.defaults = []) (hr : Room k callerA) (hY : ∀ (w : World) (h : Heap), YP w h → (K w.params).In h)
    (F : ∀ (w : World) (mg : Str → Option Value) (base : Heap), (K w.params).In base → base.Ns mainGlobals mg → Cal l.prog w (K w.params) mg base (BA (K w.params)) k d.name 1 sp_law) :
    PySem.W.WalkO q loose XP YP l.row.toRowW d [] (fun f vs => PySem.call f vs) := by
  refine Att.attach_callB hn hdf fun w s₀ s₁ mg mb fa o pm cd doc a vs ns G Y ho hd hcd hmg hobj hints hlen hbits hg => ?_
  exact end_call (hY w _ Y) G.T.g G.T.b G.T.builtins G.T.nolimit hg hobj hints hlen hr hmg fun base => F w mg base
/-! ### the draw, the pick: what they promise -/
section
variable {K : Fg} {b l : Addr} {n : Int} {Ψ : Ret → (BA K).S → Prop}
def sp_draw : Pg (BA K) := fun ds s Ψ => ∃ b l n, ds = [.any (.ref b), .int n] ∧ s = .bag b l ∧ 0 < n ∧ n.natAbs.log2 < 9000 ∧ ∀ r, 0 ≤ r → r < n → Ψ (.d (.int r)) s
theorem small_log {n : Int} (h0 : 0 < n) (h : n < 2 ^ 60) : n.natAbs.log2 < 9000 := Nat.lt_of_lt_of_le (PySem.Flt.log2_lt_of (k := 60) (by decide) (by omega)) (by decide)
theorem draw_go (h0 : 0 < n) (h : n < 2 ^ 60) (q : ∀ r, 0 ≤ r → r < n → Ψ (.d (.int r)) (.bag b l)) : Sp (sp_draw (K := K)) [.any (.ref b), .int n] (.bag b l) Ψ := ⟨b, l, n, rfl, rfl, h0, small_log h0 h, q⟩
theorem draw_pure (ds : List D) (s : (BA K).S) (Ψ : Ret → (BA K).S → Prop) (_ : ds.length = 2) (h : sp_draw ds s Ψ) : fDraw { nx := fun _ s => Ψ (.d .non) s, rt := Ψ } (startR ["bag", "below", "cell", "found"] ds) s := by
  obtain ⟨b, l, n, rfl, rfl, h0, h1, q⟩ := h
  exact ⟨b, l, n, rfl, rfl, h0, h1, q⟩
def sp_pick : Pg (BA K) := fun ds s Ψ => ∃ b l ds', (ds = [.any (.ref b), .lst ds'] ∨ ds = [.any (.ref b), .tup ds']) ∧ s = .bag b l ∧ ds' ≠ [] ∧ ds'.length < 2 ^ 60 ∧ ∀ d ∈ ds', Ψ (.d d) s
theorem pick_go {ds : List D} (h0 : ds ≠ []) (h : ds.length < 2 ^ 60) (q : ∀ d ∈ ds, Ψ (.d d) (.bag b l)) : Sp (sp_pick (K := K)) [.any (.ref b), .lst ds] (.bag b l) Ψ := ⟨b, l, ds, .inl rfl, rfl, h0, h, q⟩
theorem pick_goT {ds : List D} (h0 : ds ≠ []) (h : ds.length < 2 ^ 60) (q : ∀ d ∈ ds, Ψ (.d d) (.bag b l)) : Sp (sp_pick (K := K)) [.any (.ref b), .tup ds] (.bag b l) Ψ := ⟨b, l, ds, .inr rfl, rfl, h0, h, q⟩
theorem pick_pure (ds : List D) (s : (BA K).S) (Ψ : Ret → (BA K).S → Prop) (_ : ds.length = 2) (h : sp_pick ds s Ψ) :
    fRet (fBin dIx (fV 1) (fCall sp_draw (fCons (fV 0) (fCons (fCB dLen (fCons (fV 1) fNil)) fNil)))) { nx := fun _ s => Ψ (.d .non) s, rt := Ψ } (startR ["bag", "some"] ds) s := by
  obtain ⟨b, l, ds', e, rfl, h0, h1, q⟩ := h
  have hp : 0 < (ds'.length : Int) := by
    cases ds' with
    | nil => exact (h0 rfl).elim
    | cons d r => simp
  rcases e with rfl | rfl
  · refine draw_go hp (by omega) fun r r0 r1 => ?_
    exact ix_go r0 r1 fun d hd => q d (List.mem_of_getElem? hd)
  · refine draw_go hp (by omega) fun r r0 r1 => ?_
    exact ix_go r0 r1 fun d hd => q d (List.mem_of_getElem? hd)
theorem rangeD_len (lo : Int) (n : Nat) : (rangeD lo n).length = n := by simp [rangeD]
theorem rangeD_at {lo : Int} {n i : Nat} {d : D} (h : (rangeD lo n)[i]? = some d) : d = .int (lo + (i : Nat)) ∧ i < n := by
  rw [rangeD_get] at h
  by_cases hi : i < n
  · rw [if_pos hi] at h
    cases h
    exact ⟨rfl, hi⟩
  · rw [if_neg hi] at h
    cases h
theorem rangeD_mem {lo : Int} {n : Nat} {d : D} (h : d ∈ rangeD lo n) : ∃ i : Nat, i < n ∧ d = .int (lo + i) := by
  obtain ⟨i, hi, e⟩ := List.mem_iff_getElem.mp h
  have := rangeD_at (List.getElem?_eq_getElem hi)
  exact ⟨i, this.2, e ▸ this.1⟩
theorem range0_at {n i : Nat} {d : D} (h : (rangeD 0 n)[i]? = some d) : d = .int (i : Nat) ∧ i < n := by
  obtain ⟨e, hi⟩ := rangeD_at h
  rw [Int.zero_add] at e
  exact ⟨e, hi⟩
abbrev AllInt (l : List D) : Prop := ∃ ns : List Int, l = ns.map D.int
theorem AllInt.nil : AllInt [] := ⟨[], rfl⟩
theorem AllInt.app {l : List D} (h : AllInt l) (x : Int) : AllInt (l ++ [.int x]) := by
  obtain ⟨ns, rfl⟩ := h
  exact ⟨ns ++ [x], by rw [List.map_append]; rfl⟩
theorem int_at {ns : List Int} {k : Nat} {d : D} (h : (ns.map D.int)[k]? = some d) : ∃ x, ns[k]? = some x ∧ d = .int x := by
  rw [List.getElem?_map] at h
  cases e : ns[k]? with
  | none => rw [e] at h; cases h
  | some x => rw [e] at h; cases h; exact ⟨x, rfl, rfl⟩
def sp_bag : Pg (BA K) := fun ds s Ψ => ∃ r a ns, ds = [.any (.ref a)] ∧ s = .scr r a ns ∧ ns.length ≤ 63 ∧ ∀ b l, Ψ (.d (.any (.ref b))) (.bag b l)
end
end Pd

set_option maxHeartbeats 4000000
namespace Pd
open PySem PySem.Spec PyProof.Rows L2
/-! ### zip of two, each a list or a tuple (t: a tuple) -/
def ItS (t : Bool) (h : Heap) (it a : Addr) (i : Nat) : Prop := match t with
  | true => h.IsTupleIter it a i
  | false => h.IsListIter it a i
def SqS (K : Fg) (t : Bool) (H : Hp) (a : Addr) (xs : List V) : Prop := match t with
  | true => SqT K H a xs
  | false => SqL K H a xs
def HsS (t : Bool) (h : Heap) (a : Addr) (its : Array Value) : Prop := match t with
  | true => h.IsTuple a its
  | false => h.IsList a its
def obS (t : Bool) (a : Addr) : Obj := match t with
  | true => { cls := .type "tuple_iterator", data := .fields #[.ref a, .int 0 0] }
  | false => { cls := .type "list_iterator", data := .fields #[.ref a, .int 0 0] }
section
variable {X : Cx} {pins : List (Addr × Obj)} {σ : Sg} {H : Hp} {s : Shared} {t : Bool} {a : Addr} {xs ys : List V}
theorem inv_sqs (I : Inv X pins σ H s) (h : SqS X.K t H a xs) : ∃ its : List Value, Vals xs its ∧ HsS t s.heap a its.toArray ∧ a < s.heap.objs.size := by
  cases t with
  | true =>
    obtain ⟨its, rv, p, _⟩ := I.tuple h
    obtain ⟨o, ho, _⟩ := id p
    exact ⟨its, rv, show s.heap.IsTuple a its.toArray from p, Heap.lt_size ho⟩
  | false =>
    obtain ⟨its, rv, p, _⟩ := I.list h
    exact ⟨its, rv, p.isList, p.lt⟩
theorem inv_sqs_inj (I : Inv X pins σ H s) (h : SqS X.K t H a xs) (h' : SqS X.K t H a ys) : xs = ys := by
  cases t with
  | true => exact I.tuple_inj h h'
  | false => exact I.list_inj h h'
theorem dr_s {prog : Program} {w : World} {A : Around} (hh : A.handled = none) (t : Bool) (it l : Addr) (hne : l ≠ it) (its : Array Value) :
    Draws prog w A it [it, l] its.size (fun i v => its[i]? = some v) (fun i h => ItS t h it l i ∧ HsS t h l its) := by
  cases t with
  | true => exact Draws.tuple hh it l hne its
  | false => exact Draws.list hh it l hne its
theorem beg_s (t : Bool) (l : Addr) (its : Array Value) : Begins (.ref l) (obS t l) fun h => HsS t h l its := by
  cases t with
  | true => exact begins_tuple l its
  | false => exact begins_list l its
theorem it_new {h : Heap} {it a : Addr} (e : h.get? it = some (obS t a)) : ItS t h it a 0 := by
  cases t with
  | true => exact ⟨_, e, rfl, rfl⟩
  | false => exact ⟨_, e, rfl, rfl⟩
theorem it_obj {h : Heap} {it a : Addr} {i : Nat} (e : ItS t h it a i) : ∃ o, h.get? it = some o ∧ ∀ v, o.data ≠ .cell v := by
  cases t with
  | true => obtain ⟨o, e1, _, d⟩ := e; exact ⟨o, e1, fun v q => by rw [d] at q; cases q⟩
  | false => obtain ⟨o, e1, _, d⟩ := e; exact ⟨o, e1, fun v q => by rw [d] at q; cases q⟩
theorem it_at {h h' : Heap} {it a : Addr} {i : Nat} (e : ItS t h it a i) (k : ∀ o, h.get? it = some o → h'.get? it = some o) : ItS t h' it a i := by
  cases t with
  | true => exact Heap.IsTupleIter.at e k
  | false => exact Heap.IsListIter.at e k
end
def Itm (K : Fg) (t1 t2 : Bool) (n1 n2 : Nat) (a b : Addr) : It :=
  ⟨fun i H => ∃ (xs ys : List V) (x y : V), SqS K t1 H a xs ∧ SqS K t2 H b ys ∧ xs.length = n1 ∧ ys.length = n2 ∧ xs[i]? = some x ∧ ys[i]? = some y,
    fun i H v H' => ∃ T x y, v = .ref T ∧ H T = none ∧ H' = upd H T (.tup [x, y]) ∧ (∀ xs, SqS K t1 H a xs → xs[i]? = some x) ∧ ∀ ys, SqS K t2 H b ys → ys[i]? = some y,
    fun i H => ∃ xs ys : List V, SqS K t1 H a xs ∧ SqS K t2 H b ys ∧ xs.length = n1 ∧ ys.length = n2 ∧ (n1 ≤ i ∨ n2 ≤ i)⟩
abbrev ZSt (t1 t2 : Bool) (n1 n2 : Nat) (a b z TI TO i1 i2 : Addr) (i : Nat) (h : Heap) : Prop := IsZip h z TI TO .none ∧ IsTupOf2 h TI (.ref i1) (.ref i2) ∧ (∃ x y, IsTupOf2 h TO x y) ∧ ItS t1 h i1 a i ∧ ItS t2 h i2 b i ∧ i ≤ n1 ∧ i ≤ n2
theorem turn_zipM {P : Program} {w : World} {K : Fg} {elts : List Expr} {kk : Nat} {tpos : Pos} {t1 t2 : Bool} {n1 n2 : Nat} {a b z TI TO i1 i2 : Addr} (S : ZipSep2 z TI TO i1 i2 [i1, a] [i2, b]) (na : a ≠ i1) (nb : b ≠ i2) :
    Turn P w K (.Tuple elts kk tpos) (Itm K t1 t2 n1 n2 a b) [z, TI, TO, i1, i2] z (ZSt t1 t2 n1 n2 a b z TI TO i1 i2) where
  mem := by simp
  obj := fun i h st c hc => by
    obtain ⟨hz, hTI, ⟨x, y, hTO⟩, h1, h2, _⟩ := st
    simp only [List.mem_cons, List.not_mem_nil, or_false] at hc
    rcases hc with rfl | rfl | rfl | rfl | rfl
    · exact ⟨_, hz, fun v q => nomatch q⟩
    · exact ⟨_, hTI, fun v q => nomatch q⟩
    · exact ⟨_, hTO, fun v q => nomatch q⟩
    · exact it_obj h1
    · exact it_obj h2
  keep := fun i h h' st k => by
    obtain ⟨hz, hTI, ⟨x, y, hTO⟩, h1, h2, h3⟩ := st
    exact ⟨k z (by simp) _ hz, k TI (by simp) _ hTI, ⟨x, y, k TO (by simp) _ hTO⟩, it_at h1 fun o q => k i1 (by simp) o q, it_at h2 fun o q => k i2 (by simp) o q, h3⟩
  item := by
    intro X hP hw hK hc i pins s σ H E I hf st hg
    subst hP hw hK
    obtain ⟨hz, hTI, ⟨x0, y0, hTO⟩, h1, h2, l1, l2⟩ := st
    obtain ⟨xs, ys, x, y, hqx, hqy, e1, e2, hx, hy⟩ := hg
    obtain ⟨its, rv, p, _⟩ := inv_sqs I hqx
    obtain ⟨its2, rv2, p2, _⟩ := inv_sqs I hqy
    obtain ⟨u, hu, ru⟩ := rv.get hx
    obtain ⟨u2, hu2, ru2⟩ := rv2.get hy
    have hzl : z < s.heap.objs.size := Heap.lt_size hz
    have m1 : i < its.toArray.size := by simpa using (List.getElem?_eq_some_iff.mp hu).1
    have m2 : i < its2.toArray.size := by simpa using (List.getElem?_eq_some_iff.mp hu2).1
    have b1 : i < n1 := by rw [← e1]; exact (List.getElem?_eq_some_iff.mp hx).1
    have b2 : i < n2 := by rw [← e2]; exact (List.getElem?_eq_some_iff.mp hy).1
    have hh : X.A.in1.handled = none := I.ok.hd hc
    refine wpAny_pyNext_zipD2_item S (dr_s hh t1 i1 a na its.toArray) (dr_s hh t2 i2 b nb its2.toArray) hz hTI hTO ⟨h1, p⟩ ⟨h2, p2⟩ m1 m2 ?_
    intro v1 v2 h' tk hv1 hv2 z' TO' q1 q2 hT hsz hk
    have ev1 : v1 = u := by
      have : its[i]? = some v1 := by simpa using hv1
      exact Option.some.inj (this.symm.trans hu)
    have ev2 : v2 = u2 := by
      have : its2[i]? = some v2 := by simpa using hv2
      exact Option.some.inj (this.symm.trans hu2)
    subst ev1 ev2
    refine ⟨_, rfl, wpAny_letOwnedTupleGo_zip (s := { s with heap := h', toks := tk }) z' fun h'' z'' sb => ?_⟩
    have hT2 : h''.get? s.heap.objs.size = some { cls := .type "tuple", data := .seq #[v1, v2] } := (sb.2 _ (Nat.ne_of_gt hzl)).trans hT
    have new : ObjOk X.prog X.w (upd H s.heap.objs.size (.tup [x, y])) h'' s.heap.objs.size (.tup [x, y]) :=
      ⟨by show 2 ≤ sizeLine; decide, [v1, v2], .cons ru (.cons ru2 .nil), ⟨_, hT2, rfl, _, rfl⟩⟩
    have I1 : Inv X pins σ (upd H s.heap.objs.size (.tup [x, y])) { s with heap := h'', toks := tk } :=
      I.turnedNew (t' := tk) (ch := [z, TI, TO, i1, i2]) (fun c o hb q => (sb.2 c (fun q' => hb (by simp [q']))).trans (hk c o (fun q' => hb (by simp [q'])) (fun q' => hb (by simp [q'])) (fun q' => hb (by simp [q'])) (fun q' => hb (by simp [q'])) q)) hf (Nat.le_refl _) new
    have nz1 : i1 ≠ z := fun e => S.zf1 (by rw [← e]; exact S.mem1)
    have nz2 : i2 ≠ z := fun e => S.zf2 (by rw [← e]; exact S.mem2)
    refine ⟨.ref s.heap.objs.size, _, I1, rfl, ⟨_, x, y, rfl, I.hok.fresh (Nat.le_refl _), rfl, fun l hl => by rw [inv_sqs_inj I hl hqx]; exact hx, fun l hl => by rw [inv_sqs_inj I hl hqy]; exact hy⟩, ⟨z'', ?_, ⟨v1, v2, ?_⟩, ?_, ?_, b1, b2⟩, fun c hcm => ?_⟩
    · exact (sb.2 _ S.TIz).trans (hk _ _ S.TIz S.TITO S.TIi1 S.TIi2 hTI)
    · exact (sb.2 _ S.TOz).trans TO'
    · exact it_at q1.1 fun o q => (sb.2 _ nz1).trans q
    · exact it_at q2.1 fun o q => (sb.2 _ nz2).trans q
    · have hlt : c < s.heap.objs.size := by
        simp only [List.mem_cons, List.not_mem_nil, or_false] at hcm
        rcases hcm with rfl | rfl | rfl | rfl | rfl
        · exact hzl
        · exact Heap.lt_size hTI
        · exact Heap.lt_size hTO
        · obtain ⟨_, e, _⟩ := it_obj h1; exact Heap.lt_size e
        · obtain ⟨_, e, _⟩ := it_obj h2; exact Heap.lt_size e
      rw [upd_ne (Nat.ne_of_lt hlt)]
      exact (hf c hcm).1
  done := by
    intro X hP hw hK hc i pins s σ H E I hf st hg
    subst hP hw hK
    obtain ⟨hz, hTI, ⟨x0, y0, hTO⟩, h1, h2, l1, l2⟩ := st
    obtain ⟨xs, ys, hqx, hqy, e1, e2, hend⟩ := hg
    obtain ⟨its, rv, p, _⟩ := inv_sqs I hqx
    obtain ⟨its2, rv2, p2, _⟩ := inv_sqs I hqy
    have hh : X.A.in1.handled = none := I.ok.hd hc
    have s1 : its.toArray.size = n1 := by rw [List.size_toArray, ← rv.length, e1]
    have s2 : its2.toArray.size = n2 := by rw [List.size_toArray, ← rv2.length, e2]
    exact wpAny_pyNext_zipD2_end S (dr_s hh t1 i1 a na its.toArray) (dr_s hh t2 i2 b nb its2.toArray) hz hTI hTO ⟨h1, p⟩ ⟨h2, p2⟩ (by omega) (by omega) (by omega) fun h' tk hk => ⟨rfl, I.turnedL (t' := tk) (ch := [z, TI, TO, i1, i2]) (fun c o hb q =>
      hk c o (fun q' => hb (by simp [q'])) (fun q' => hb (by simp [q'])) (fun q' => hb (by simp [q'])) (fun q' => hb (by simp [q'])) q) hf⟩
  self := fun A i s Q E st h => wpAny_pyIter_zip st.1 h
def iZipM (K : Fg) (ta : TA) : TI := fun σ H R => ta σ H fun vs H1 => ∃ t1 t2 a b xs ys, vs = [.ref a, .ref b] ∧ SqS K t1 H1 a xs ∧ SqS K t2 H1 b ys ∧ R (Itm K t1 t2 xs.length ys.length a b) H1
theorem pi_zipM {X : Cx} {e e2 : Expr} {ta : TA} {p pos tpos : Pos} {elts : List Expr} {kk : Nat} (hg : Gl X "zip") (hm : X.mg "zip" = none) (ha : PA X [e, e2] ta)
    (hs : starEach [e, e2] X.env = (false, eval e X.env) :: starEach [e2] X.env := by rfl) (hpl : (backTo pos (starEach [e2] X.env)).any (·.1) = false := by rfl) :
    PI X (.Tuple elts kk tpos) (.Call (.Name "zip" p) [e, e2] [] pos) (iZipM X.K ta) := by
  constructor
  intro pins s σ H R I h
  refine Call_ (ld_blt I hg hm PyProof.Rows.boot_zip (PyProof.Rows.callWith_type1 (thn (ha.run pos pins s σ H _ I h) fun us s1 ⟨vs, H1, I1, r1, q1⟩ => ?_) hs hpl))
  obtain ⟨t1, t2, a, b, xs, ys, rfl, hqx, hqy, q⟩ := q1
  cases r1 with
  | cons r rr =>
    cases rr with
    | cons r' rr =>
      cases rr
      cases r
      cases r'
      obtain ⟨its, rv, p1, la⟩ := inv_sqs I1 hqx
      obtain ⟨its2, rv2, p2, lb⟩ := inv_sqs I1 hqy
      refine zip_begins2 (beg_s t1 a its.toArray) (beg_s t2 b its2.toArray) p1 p2 fun h' hz hTI hTO h1 h2 hsz hk => wpAny_pyIter_zip hz ?_
      have I2 : Inv X pins σ H1 { s1 with heap := h' } := I1.kept (t' := s1.toks) hk
      refine ⟨s1.heap.objs.size + 4, [s1.heap.objs.size + 4, s1.heap.objs.size + 2, s1.heap.objs.size + 3, s1.heap.objs.size, s1.heap.objs.size + 1], _, _, H1, rfl, I2, turn_zipM (zip_sep2 (fp1 := [a]) (fp2 := [b]) (fun x hx => ?_) fun x hx => ?_) (Nat.ne_of_lt la) (Nat.ne_of_lt (Nat.lt_succ_of_lt lb)), ⟨hz, hTI, ⟨_, _, hTO⟩, it_new h1, it_new h2, Nat.zero_le _, Nat.zero_le _⟩, fun c hcm => ?_, q⟩
      · rw [List.mem_singleton.mp hx]; exact la
      · rw [List.mem_singleton.mp hx]; exact lb
      · have hle : s1.heap.objs.size ≤ c := by
          simp only [List.mem_cons, List.not_mem_nil, or_false] at hcm
          rcases hcm with rfl | rfl | rfl | rfl | rfl
          · exact Nat.le_add_right _ _
          · exact Nat.le_add_right _ _
          · exact Nat.le_add_right _ _
          · exact Nat.le_refl _
          · exact Nat.le_add_right _ _
        exact I1.fpOk hle (I1.hok.fresh hle)
/-- what two sources yield together -/
def zipD : List D → List D → List D
  | x :: xs, y :: ys => .tup [x, y] :: zipD xs ys
  | _, _ => []
theorem zipD_at {x y : D} : ∀ {xs ys : List D} {i : Nat}, xs[i]? = some x → ys[i]? = some y → (zipD xs ys)[i]? = some (.tup [x, y])
  | [], _, _, h, _ => by simp at h
  | _ :: _, [], _, _, h => by simp at h
  | a :: xs, b :: ys, 0, h, h2 => by
    simp at h h2
    subst h h2
    rfl
  | a :: xs, b :: ys, i + 1, h, h2 => by
    have := zipD_at (xs := xs) (ys := ys) (i := i) (by simpa using h) (by simpa using h2)
    simpa [zipD] using this
theorem zipD_len : ∀ (xs ys : List D), (zipD xs ys).length = min xs.length ys.length
  | [], _ => by simp [zipD]
  | _ :: _, [] => by simp [zipD]
  | a :: xs, b :: ys => by
    have := zipD_len xs ys
    simp only [zipD, List.length_cons, this]
    omega
theorem zipD_of {xs ys : List D} {i : Nat} {d : D} (h : (zipD xs ys)[i]? = some d) : ∃ x y, xs[i]? = some x ∧ ys[i]? = some y ∧ d = .tup [x, y] := by
  have hl := (List.getElem?_eq_some_iff.mp h).1
  rw [zipD_len] at hl
  have h1 := List.getElem?_eq_getElem (l := xs) (i := i) (by omega)
  have h2 := List.getElem?_eq_getElem (l := ys) (i := i) (by omega)
  have h3 := zipD_at h1 h2
  rw [h] at h3
  exact ⟨_, _, h1, h2, Option.some.inj h3⟩
def seqOf (d : D) (Φ : List D → Prop) : Prop := match d with
  | .lst l => Φ l
  | .tup l => Φ l
  | _ => False
def fZip {A : Amb} (fa fb : FE A) : FI A := fun ρ s Φ => fa ρ s fun x s1 => fb ρ s1 fun y s2 => seqOf x fun xs => seqOf y fun ys => Φ (zipD xs ys) s2
theorem rs_sqs {B : Ad} {H : Hp} {K : Fg} {d : D} {v : V} {Ψ : List D → Prop} (r : Rs B H d v) (h : seqOf d Ψ) : ∃ t a xs l, v = .ref a ∧ SqS K t H a xs ∧ RsL B H l xs ∧ Ψ l ∧ ((t = false ∧ d = .lst l) ∨ (t = true ∧ d = .tup l)) := by
  cases r with
  | lst g1 g2 g3 => exact ⟨false, _, _, _, rfl, .of g1, g3, h, .inl ⟨rfl, rfl⟩⟩
  | tup g1 g2 g3 => exact ⟨true, _, _, _, rfl, .of g1, g3, h, .inr ⟨rfl, rfl⟩⟩
  | _ => exact h.elim
theorem sqs_rs {B : Ad} {H : Hp} {K : Fg} {t : Bool} {d : D} {a : Addr} {l : List D} (r : Rs B H d (.ref a)) (h : (t = false ∧ d = .lst l) ∨ (t = true ∧ d = .tup l)) : ∃ xs, SqS K t H a xs ∧ RsL B H l xs := by
  rcases h with ⟨rfl, rfl⟩ | ⟨rfl, rfl⟩
  · cases r with
    | lst g1 g2 g3 => exact ⟨_, .of g1, g3⟩
  · cases r with
    | tup g1 g2 g3 => exact ⟨_, .of g1, g3⟩
section
variable {A : Amb} {ta tb : TE} {fa fb : FE A} {K : Fg}
theorem si_zip (ha : SdE A true false ta fa) (hb : SdE A true false tb fb) : SdI A (iZipM K (tCons ta (tCons tb tNil))) (fZip fa fb) := fun W s0 H0 s σ H ρ Φ Rr R hp q =>
  ha W s0 H0 s σ H ρ _ _ R hp fun x s1 v H1 h1 R1 st1 r1 => hb W s0 H0 s1 σ H1 ρ _ _ R1 h1 fun y s2 w H2 h2 R2 st2 r2 => by
    have r1' := (r1.stp st2).rs
    have r2' := r2.rs
    obtain ⟨t1, a, xs, l, rfl, q1, rl1, h3, c1⟩ := rs_sqs (K := K) r1' h2
    obtain ⟨t2, b, ys, l2, rfl, q2, rl2, h4, c2⟩ := rs_sqs (K := K) r2' h3
    refine ⟨t1, t2, a, b, xs, ys, rfl, q1, q2, q _ s2 _ H2 h4 R2 (st1.trans st2) ⟨[(x, .ref a), (y, .ref b)], fun p hp => ?_, fun B' H3 i hp => ?_⟩⟩
    · simp only [List.mem_cons, List.not_mem_nil, or_false] at hp
      rcases hp with rfl | rfl
      · exact r1'
      · exact r2'
    · obtain ⟨xs', k1, g1⟩ := sqs_rs (K := K) (hp (x, .ref a) (by simp)) c1
      obtain ⟨ys', k2, g2⟩ := sqs_rs (K := K) (hp (y, .ref b) (by simp)) c2
      have e1 : xs'.length = xs.length := g1.length.trans rl1.length.symm
      have e2 : ys'.length = ys.length := g2.length.trans rl2.length.symm
      refine ⟨fun e => ⟨xs', ys', k1, k2, e1, e2, ?_⟩, fun d e => ?_⟩
      · have := List.getElem?_eq_none_iff.mp e
        rw [zipD_len] at this
        have f1 := rl1.length
        have f2 := rl2.length
        omega
      · obtain ⟨dx, dy, f1, f2, rfl⟩ := zipD_of e
        obtain ⟨vx, m1, n1⟩ := g1.get f1
        obtain ⟨vy, m2, n2⟩ := g2.get f2
        refine ⟨⟨xs', ys', vx, vy, k1, k2, e1, e2, m1, m2⟩, ?_⟩
        rintro _ H4 ⟨T, z1, z2, rfl, hT, rfl, p1, p2⟩
        have ez1 : z1 = vx := Option.some.inj ((p1 _ k1).symm.trans m1)
        have ez2 : z2 = vy := Option.some.inj ((p2 _ k2).symm.trans m2)
        subst ez1 ez2
        exact .inr ⟨T, [z1, z2], [dx, dy], rfl, hT, rfl, rfl, .cons n1 (.cons n2 .nil)⟩
/-- a new list from + or * as a thing of one's own -/
def oAdd (x y : D) (Φ : Mo → Prop) : Prop := match x, y with
  | .lst a, .lst b => a.length + b.length ≤ 16777216 ∧ Φ (.lst (a ++ b))
  | _, _ => False
def fBinO {A : Amb} (op : D → D → (Mo → Prop) → Prop) (fa fb : FE A) : FO A := fun ρ s Φ => fa ρ s fun x s1 => fb ρ s1 fun y s2 => op x y fun m => Φ m s2
theorem so_add (ha : SdE A true true ta fa) (hb : SdE A true true tb fb) : SdO A (tOp (rAddA K) ta tb) (fBinO oAdd fa fb) := fun W s0 H0 s σ H ρ Φ Q R hp q =>
  ha W s0 H0 s σ H ρ _ _ R hp fun x s1 v H1 h1 R1 st1 r1 => hb W s0 H0 s1 σ H1 ρ _ _ R1 h1 fun y s2 w H2 h2 R2 st2 r2 => by
    have rx := r1.stp st2
    unfold oAdd at h2
    split at h2
    · rename_i a b
      obtain ⟨p, xs, rfl, k1, k2, _⟩ := rx.lst
      obtain ⟨p', xs', rfl, k1', k2', _⟩ := r2.lst
      refine .inr (.inr (.inl ⟨p, p', xs, xs', rfl, rfl, k1, k1', by rw [line_eq, k2.length, k2'.length]; exact h2.1, fun n hn => ?_⟩))
      exact so_new R2 (st1.trans st2) (k2.append k2') h2.2 n hn q
    · exact h2.elim
end
section
variable {X : Cx} {A : Amb} {a b : Expr} {ta tb : TE} {fa fb : FE A} {p pos tpos : Pos} {elts : List Expr} {kk : Nat}
theorem qi_zip (hm : X.mg "zip" = none) (ha : QE X A true false a ta fa) (hb : QE X A true false b tb fb) (hg : Gl X "zip" := by rfl) (hs : starEach [a, b] X.env = (false, eval a X.env) :: starEach [b] X.env := by rfl) (hs2 : starEach [b] X.env = (false, eval b X.env) :: starEach [] X.env := by rfl) (hpl : (backTo pos (starEach [b] X.env)).any (·.1) = false := by rfl) :
    QI X A (.Tuple elts kk tpos) (.Call (.Name "zip" p) [a, b] [] pos) (iZipM X.K (tCons ta (tCons tb tNil))) (fZip fa fb) := ⟨pi_zipM hg hm (pa_cons ha.pe (pa_cons hb.pe pa_nil hs2) hs) hs hpl, si_zip ha.sd hb.sd⟩
theorem qo_add (ha : QE X A true true a ta fa) (hb : QE X A true true b tb fb) : QO X A (.BinOp a .Add b pos) (tOp (rAddA X.K) ta tb) (fBinO oAdd fa fb) := ⟨pe_op op_addA ha.pe hb.pe, so_add ha.sd hb.sd⟩
end
end Pd

set_option maxHeartbeats 4000000
namespace Pd
open PySem PySem.Spec PyProof.Rows L2
/-! ### repr of small data -/
mutual
def D.rok : Nat → D → Bool
  | _, .non => true
  | _, .bl _ => true
  | _, .int i => decide (i.natAbs < 10 ^ 18)
  | _, .str x => decide ((reprText x).length ≤ 64)
  | 0, .tup _ => false
  | n + 1, .tup l => rokL n l
  | 0, .lst _ => false
  | n + 1, .lst l => rokL n l
  | _, _ => false
def rokL : Nat → List D → Bool
  | _, [] => true
  | n, d :: l => d.rok n && rokL n l
end
mutual
def D.rw : D → Nat
  | .tup l => 3 + rwL l
  | .lst l => 3 + rwL l
  | _ => 64
def rwL : List D → Nat
  | [] => 0
  | d :: l => d.rw + 2 + rwL l
end
mutual
theorem rok_all : ∀ (d : D) (n : Nat), d.rok n = true → d.plain = true ∧ d.py.showable = true ∧ d.py.hasDict = false ∧ d.py.depth ≤ n + 1 ∧ d.py.shown.length ≤ d.rw
  | .non, n, _ => ⟨rfl, by simp [D.py, PyData.showable], by simp [D.py, PyData.hasDict], by simp [D.py, PyData.depth], by simp only [D.py, PyData.shown, D.rw]; decide⟩
  | .bl b, n, _ => ⟨rfl, by simp [D.py, PyData.showable], by simp [D.py, PyData.hasDict], by simp [D.py, PyData.depth], by cases b <;> simp only [D.py, PyData.shown, D.rw] <;> decide⟩
  | .int i, n, h => by
    have h' : i.natAbs < 10 ^ 18 := by simpa [D.rok] using h
    refine ⟨rfl, ?_, by simp [D.py, PyData.hasDict], by simp [D.py, PyData.depth], ?_⟩
    · simp only [D.py, PyData.showable, decide_eq_true_eq]
      exact Nat.lt_of_lt_of_le (PySem.Flt.log2_lt_of (k := 60) (by decide) (by omega)) (by decide)
    · have l2 := int_text_length_le10 (k := 18) (by decide) h'
      simp only [D.py, PyData.shown, D.rw]
      show (Str.ofString (toString i)).length ≤ 64
      rw [PySem.ofString_length]
      omega
  | .str x, n, h => by
    have h' : (reprText x).length ≤ 64 := by simpa [D.rok] using h
    exact ⟨rfl, by simp [D.py, PyData.showable], by simp [D.py, PyData.hasDict], by simp [D.py, PyData.depth], by simp only [D.py, PyData.shown, D.rw]; exact h'⟩
  | .tup l, 0, h => by simp [D.rok] at h
  | .tup l, n + 1, h => by
    have h' : rokL n l = true := by simpa [D.rok] using h
    obtain ⟨a, b, c, e, f, g⟩ := rokL_all l n h'
    refine ⟨by simpa [D.plain] using a, by simpa [D.py, PyData.showable] using b, by simpa [D.py, PyData.hasDict] using c, by simp only [D.py, PyData.depth]; omega, ?_⟩
    simp only [D.py, PyData.shown, D.rw]
    have := tupleText_len_le (PyData.shownAll (pyL l))
    omega
  | .lst l, 0, h => by simp [D.rok] at h
  | .lst l, n + 1, h => by
    have h' : rokL n l = true := by simpa [D.rok] using h
    obtain ⟨a, b, c, e, f, g⟩ := rokL_all l n h'
    refine ⟨by simpa [D.plain] using a, by simpa [D.py, PyData.showable] using b, by simpa [D.py, PyData.hasDict] using c, by simp only [D.py, PyData.depth]; omega, ?_⟩
    simp only [D.py, PyData.shown, D.rw]
    have := listText_len_le (PyData.shownAll (pyL l))
    omega
  | .dct _ _, _, h => by simp [D.rok] at h
  | .any _, _, h => by simp [D.rok] at h
theorem rokL_all : ∀ (l : List D) (n : Nat), rokL n l = true → plainL l = true ∧ PyData.showableAll (pyL l) = true ∧ PyData.hasDictAll (pyL l) = false ∧ PyData.depthAll (pyL l) ≤ n + 1 ∧ ((PyData.shownAll (pyL l)).map (·.length)).sum + 2 * (PyData.shownAll (pyL l)).length ≤ rwL l ∧ True
  | [], n, _ => ⟨rfl, by simp [pyL, PyData.showableAll], by simp [pyL, PyData.hasDictAll], by simp [pyL, PyData.depthAll], by simp [pyL, PyData.shownAll, rwL], trivial⟩
  | d :: l, n, h => by
    have h' : d.rok n = true ∧ rokL n l = true := by simpa [rokL] using h
    obtain ⟨a, b, c, e, f⟩ := rok_all d n h'.1
    obtain ⟨a2, b2, c2, e2, f2, _⟩ := rokL_all l n h'.2
    refine ⟨by simp [plainL, a, a2], by simp [pyL, PyData.showableAll, b, b2], by simp [pyL, PyData.hasDictAll, c, c2], by simp only [pyL, PyData.depthAll]; omega, ?_, trivial⟩
    simp only [pyL, PyData.shownAll, rwL, List.map_cons, List.sum_cons, List.length_cons]
    omega
end
def rReprD (K : Fg) : List V → Hp → VK → Prop := fun xs H Q => ∃ a d, xs = [.ref a] ∧ Dp K H (.ref a) d ∧ d.showable = true ∧ d.hasDict = false ∧ d.depth ≤ 32 ∧ d.shown.length ≤ sizeLine ∧ Q (.str d.shown) H
theorem call_reprD {X : Cx} (hg : X.A.guards = some []) (hu : X.A.units + 64 < cLine) : CallR X (.builtin "repr") (rReprD X.K) := by
  intro pins s σ H xs us Q J rv h
  obtain ⟨a, d, rfl, hd, h1, h2, h3, h4, q⟩ := h
  cases rv with
  | cons r rr =>
    cases rr
    cases r
    obtain ⟨as, hr⟩ := hd.reads J _ _ _ rfl
    refine repr_of_reads' hr h1 (fun z => by rw [h2] at z; cases z) hg (by omega) (fun _ _ e => e) (fun h' u tk hk => ?_) h4
    exact ⟨.str d.shown, H, J.kept (t' := tk) hk, ⟨u, rfl⟩, q⟩
structure RpP (x : D) (Φ : D → Prop) : Prop where
  ok : x.rok 8 = true
  seq : (∃ l, x = .lst l) ∨ ∃ l, x = .tup l
  len : x.rw ≤ 16777216
  go : Φ (.str x.py.shown)
def dRepr (ds : List D) (Φ : D → Prop) : Prop := match ds with
  | [x] => RpP x Φ
  | _ => False
section
variable {X : Cx} {A : Amb} {m : Bool}
theorem sc_repr {K : Fg} : SdC A m false true (rReprD K) dRepr := sdc_same fun ds vs H Φ Q W s σ ρ rv ho q => by
  unfold dRepr at ho
  split at ho
  · cases rv with
    | cons a b =>
      cases b
      obtain ⟨o1, o2, o3, o4⟩ := ho
      obtain ⟨p1, p2, p3, p4, p5⟩ := rok_all _ _ o1
      have dp := Rs.dp (K := K) a.low p1
      rcases o2 with ⟨l, rfl⟩ | ⟨l, rfl⟩
      · obtain ⟨ad, xs, rfl, _⟩ := a.lst
        exact ⟨ad, _, rfl, dp, p2, p3, by omega, by rw [line_eq]; omega, q _ _ o4 fun B => .str _⟩
      · obtain ⟨ad, xs, rfl, _⟩ := a.tup
        exact ⟨ad, _, rfl, dp, p2, p3, by omega, by rw [line_eq]; omega, q _ _ o4 fun B => .str _⟩
  · exact ho.elim
theorem bt_repr : bootBuiltins "repr" = some (.builtin "repr") := by decide +kernel
theorem nb_repr (hg : X.A.guards = some []) (hu : X.A.units + 64 < cLine) : NB X A m false true "repr" (.builtin "repr") (rReprD X.K) dRepr := ⟨call_reprD hg hu, sc_repr, bt_repr, by decide, by decide⟩
end
/-! ### a tuple times an int -/
def dMulT (x y : D) (Φ : D → Prop) : Prop := match x, y with
  | .tup a, .int k => (a ≠ [] ∧ 2 ≤ k ∧ k ≤ 1000 ∧ a.length ≤ 1000) ∧ Φ (.tup (List.replicate k.toNat a).flatten)
  | _, _ => False
section
variable {A : Amb} {m m2 sh1 sh2 : Bool} {K : Fg}
theorem sdr_mulT : SdR A m m sh1 m2 sh2 (rRepT K) dMulT := by
  intro W s0 H0 s σ H ρ x y v w Φ Q R rx ry h q
  unfold dMulT at h
  split at h
  · rename_i a k
    obtain ⟨p, xs, rfl, h1, h2⟩ := rx.tup
    obtain rfl := ry.int
    have e := h2.length
    refine ⟨p, k, xs, rfl, rfl, .of h1, fun z => ?_, h.1.2.1, h.1.2.2.1, by rw [e]; exact h.1.2.2.2, fun n hn => ?_⟩
    · rw [z] at e
      exact h.1.1 (List.eq_nil_of_length_eq_zero e.symm)
    · exact q _ _ _ h.2 (R.alloc hn _) (Stp.fresh hn) (RV.newT R hn (h2.rep _))
  · exact h.elim
end
theorem bo_mulT {X : Cx} {A : Amb} {m : Bool} : BO X A m .Mult (rRepT X.K) dMulT := ⟨op_repT, sdr_mulT⟩
end Pd

set_option maxHeartbeats 4000000
namespace Pd
open PySem PySem.Spec PyProof.Rows L2
/-! ### enumerate of a list -/
def enumD : Nat → List D → List D
  | _, [] => []
  | n, x :: xs => .tup [.int (n : Nat), x] :: enumD (n + 1) xs
theorem enumD_len : ∀ (n : Nat) (l : List D), (enumD n l).length = l.length
  | _, [] => rfl
  | n, x :: xs => by rw [enumD, List.length_cons, List.length_cons, enumD_len (n + 1) xs]
theorem enumD_at : ∀ {l : List D} {n i : Nat} {d : D}, (enumD n l)[i]? = some d → ∃ x, l[i]? = some x ∧ d = .tup [.int ((n + i : Nat) : Int), x]
  | [], _, _, _, h => by simp [enumD] at h
  | x :: xs, n, 0, d, h => by
    simp [enumD] at h
    exact ⟨x, rfl, by rw [← h]; rfl⟩
  | x :: xs, n, i + 1, d, h => by
    obtain ⟨y, h1, h2⟩ := enumD_at (l := xs) (n := n + 1) (i := i) (by simpa [enumD] using h)
    exact ⟨y, by simpa using h1, by rw [h2, show n + 1 + i = n + (i + 1) by omega]⟩
def fEnum {A : Amb} (f : FE A) : FI A := fun ρ s Φ => f ρ s fun d s1 => match d with
  | .lst l => Φ (enumD 0 l) s1
  | _ => False
section
variable {A : Amb} {te : TE} {fe : FE A} {K : Fg}
theorem si_enum (h : SdE A true false te fe) : SdI A (iEnum K (tCons te tNil)) (fEnum fe) := fun W s0 H0 s σ H ρ Φ Rr R hp q =>
  h W s0 H0 s σ H ρ _ _ R hp fun d s1 v H1 h1 R1 st1 r1 => by
    have r := r1.rs
    cases d with
    | lst l =>
      have r0 := r
      cases r with
      | lst g1 g2 g3 =>
        rename_i a xs
        refine ⟨a, xs, rfl, .of g1, q (enumD 0 l) s1 _ H1 h1 R1 st1 ⟨[(.lst l, .ref a)], fun p hp => ?_, fun B' H2 i hp => ?_⟩⟩
        · obtain rfl : p = (.lst l, .ref a) := by simpa using hp
          exact r0
        · have r2 := hp _ (List.mem_singleton.mpr rfl)
          cases r2 with
          | lst k1 k2 k3 =>
            rename_i ys
            refine ⟨fun e => ⟨ys, .of k1, ?_⟩, fun d e => ?_⟩
            · rw [k3.length]
              have := List.getElem?_eq_none_iff.mp e
              rw [enumD_len] at this
              exact this
            · obtain ⟨x, e1, rfl⟩ := enumD_at e
              obtain ⟨y, e2, e3⟩ := k3.get e1
              refine ⟨⟨ys, y, .of k1, e2⟩, ?_⟩
              rintro _ H3 ⟨T, z, rfl, hT, rfl, hz⟩
              have ez : z = y := Option.some.inj ((hz ys (.of k1)).symm.trans e2)
              subst ez
              refine .inr ⟨T, [.int (i : Nat), z], [.int ((0 + i : Nat) : Int), x], rfl, hT, rfl, rfl, .cons ?_ (.cons e3 .nil)⟩
              rw [Nat.zero_add]
              exact .int _
    | _ => exact h1.elim
end
section
variable {X : Cx} {A : Amb} {a : Expr} {ta : TE} {fa : FE A} {p pos tpos : Pos} {elts : List Expr} {kk : Nat}
theorem qi_enum (hm : X.mg "enumerate" = none) (ha : QE X A true false a ta fa) (hg : Gl X "enumerate" := by rfl) (hs : starEach [a] X.env = [(false, eval a X.env)] := by rfl) :
    QI X A (.Tuple elts kk tpos) (.Call (.Name "enumerate" p) [a] [] pos) (iEnum X.K (tCons ta tNil)) (fEnum fa) := ⟨pi_enum hg hm (pa_cons ha.pe pa_nil hs) hs, si_enum ha.sd⟩
end
/-! ### reversed(list or tuple) in a loop -/
theorem rev_get {α : Type} {l : List α} {i : Nat} {x : α} (h : l.reverse[i]? = some x) : i < l.length ∧ l[l.length - 1 - i]? = some x := by
  have hi := (List.getElem?_eq_some_iff.mp h).1
  rw [List.length_reverse] at hi
  rw [List.getElem?_reverse hi] at h
  exact ⟨hi, h⟩
def fRev {A : Amb} (f : FE A) : FI A := fun ρ s Φ => f ρ s fun d s1 => seqOf d fun l => Φ l.reverse s1
section
variable {A : Amb} {te : TE} {fe : FE A} {K : Fg}
theorem si_rev (h : SdE A true false te fe) : SdI A (RT.iRevA K te) (fRev fe) := fun W s0 H0 s σ H ρ Φ Rr R hp q =>
  h W s0 H0 s σ H ρ _ _ R hp fun d s1 v H1 h1 R1 st1 r1 => by
    have r := r1.rs
    have r0 := r
    obtain ⟨t, a, xs, l, rfl, q1, rl, h2, c⟩ := rs_sqs (K := K) r h1
    have lx := rl.length
    rcases c with ⟨rfl, rfl⟩ | ⟨rfl, rfl⟩
    · refine ⟨a, xs, rfl, .inl ⟨q1, q l.reverse s1 _ H1 h2 R1 st1 ⟨[(.lst l, .ref a)], fun p hp => ?_, fun B' H2 i hp => ?_⟩⟩⟩
      · obtain rfl : p = (.lst l, .ref a) := by simpa using hp
        exact r0
      · obtain ⟨ys, k1, g1⟩ := sqs_rs (K := K) (t := false) (l := l) (hp _ (List.mem_singleton.mpr rfl)) (.inl ⟨rfl, rfl⟩)
        refine ⟨fun e => ?_, fun d e => ?_⟩
        · have := List.getElem?_eq_none_iff.mp e
          rw [List.length_reverse] at this
          show xs.length ≤ i
          omega
        · obtain ⟨hi, e1⟩ := rev_get e
          obtain ⟨y, e2, e3⟩ := g1.get e1
          rw [← lx] at e2
          refine ⟨⟨by omega, ys, y, k1, e2⟩, ?_⟩
          rintro x H3 ⟨rfl, hz⟩
          have ez : x = y := Option.some.inj ((hz ys k1).symm.trans e2)
          subst ez
          exact .inl ⟨rfl, e3⟩
    · refine ⟨a, xs, rfl, .inr ⟨q1, q l.reverse s1 _ H1 h2 R1 st1 ⟨[(.tup l, .ref a)], fun p hp => ?_, fun B' H2 i hp => ?_⟩⟩⟩
      · obtain rfl : p = (.tup l, .ref a) := by simpa using hp
        exact r0
      · obtain ⟨ys, k1, g1⟩ := sqs_rs (K := K) (t := true) (l := l) (hp _ (List.mem_singleton.mpr rfl)) (.inr ⟨rfl, rfl⟩)
        refine ⟨fun e => ?_, fun d e => ?_⟩
        · have := List.getElem?_eq_none_iff.mp e
          rw [List.length_reverse] at this
          show xs.length ≤ i
          omega
        · obtain ⟨hi, e1⟩ := rev_get e
          obtain ⟨y, e2, e3⟩ := g1.get e1
          rw [← lx] at e2
          refine ⟨⟨by omega, ys, y, k1, e2⟩, ?_⟩
          rintro x H3 ⟨rfl, hz⟩
          have ez : x = y := Option.some.inj ((hz ys k1).symm.trans e2)
          subst ez
          exact .inl ⟨rfl, e3⟩
end
section
variable {X : Cx} {A : Amb} {tg a : Expr} {ta : TE} {fa : FE A} {p pos : Pos}
theorem qi_rev (hm : X.mg "reversed" = none) (ha : QE X A true false a ta fa) (hg : Gl X "reversed" := by rfl) (hs : starEach [a] X.env = (false, eval a X.env) :: starEach [] X.env := by rfl) :
    QI X A tg (.Call (.Name "reversed" p) [a] [] pos) (RT.iRevA X.K ta) (fRev fa) := ⟨RT.pi_revA hg hm ha.pe hs, si_rev ha.sd⟩
end
end Pd

set_option maxHeartbeats 4000000
namespace Pd
open PySem PySem.Spec PyProof.Rows L2
/-! ### a dict display with one key, a new thing of one's own -/
def keyD (k : D) (Φ : L2.Key → Prop) : Prop := match k with
  | .int i => Φ (.inl i)
  | .str x => Φ (.inr x)
  | _ => False
def fDisp1 {A : Amb} (fk fv : FE A) : FO A := fun ρ s Φ => fk ρ s fun k s1 => keyD k fun key => fv ρ s1 fun d s2 => Φ (.dk [key] [d]) s2
section
variable {A : Amb} {tk tv : TE} {fk fv : FE A}
theorem key_rv {W : Ot} {s : A.S} {σ : Sg} {ρ : List Sl} {H : Hp} {m sh : Bool} {k : D} {x : V} {Φ : L2.Key → Prop} (r : RV A W s σ ρ H m sh k x) (h : keyD k Φ) : ∃ key, x = L2.kV key ∧ Φ key := by
  unfold keyD at h
  split at h
  · obtain rfl := r.int
    exact ⟨.inl _, rfl, h⟩
  · obtain rfl := r.str
    exact ⟨.inr _, rfl, h⟩
  · exact h.elim
theorem so_disp1 (hk : SdE A false true tk fk) (hv : SdE A true false tv fv) : SdO A (tDisp [(tk, tv)]) (fDisp1 fk fv) := fun W s0 H0 s σ H ρ Φ Q R hp q p hpn => by
  have bD0 : ¬ A.B s p := fun z => A.dom R.amb z hpn
  have R1 := R.wide hpn (.dK [])
  have hp0 := R.fresh0 hpn
  refine hk (W.add p) s0 H0 s σ _ ρ _ _ R1 hp fun k s1 x H1 h1 R2 st1 r1 => ?_
  obtain ⟨key, rfl, h1⟩ := key_rv r1 h1
  refine hv (W.add p) s0 H0 s1 σ H1 ρ _ _ R2 h1 fun d s2 y H2 h2 R3 st2 r2 => ?_
  have st := st1.trans st2
  obtain ⟨k1, k2⟩ := keep_at st (by rw [upd_same]; simp) bD0
  rw [upd_same] at k1
  refine ⟨k1, [(key, y)], rfl, (by show 1 ≤ 15; decide), ?_⟩
  have ek : mergeK [] [(key, y)] = [(key, y)] := rfl
  rw [ek]
  have R4 := R3.oth hp0 k2 (.dK [(key, y)])
  refine q (.dk [key] [d]) s2 p _ h2 R4 ?_ hpn ⟨[(key, y)], upd_same, rfl, ?_⟩ (fun z => R.wd p z hpn) k2
  · refine ⟨fun a o e n => ?_, fun a z => ?_, fun a e => ?_⟩
    · have np : a ≠ p := ne_of_none e hpn
      rw [upd_ne np]
      exact st.agr a o (by rw [upd_ne np]; exact e) n
    · rcases st.new a z with z | z
      · exact .inl z
      · by_cases ap : a = p
        · subst ap; rw [upd_same] at z; cases z
        · rw [upd_ne ap] at z; exact .inr z
    · by_cases ap : a = p
      · subst ap; rw [upd_same]; simp
      · rw [upd_ne ap]
        exact st.dom a (by rw [upd_ne ap]; exact e)
  · refine RsL.go (fun a z => .inl z) (fun a o e n => ?_) (RsL.one r2.rs)
    have ap : a ≠ p := fun z => by
      subst z
      exact n (.inl (.inr rfl))
    rw [upd_ne ap]
    exact e
end
section
variable {X : Cx} {A : Amb} {k v : Expr} {tk tv : TE} {fk fv : FE A} {pos : Pos}
theorem qo_disp1 (hk : QE X A false true k tk fk) (hv : QE X A true false v tv fv) : QO X A (.Dict [some k] [v] pos) (tDisp [(tk, tv)]) (fDisp1 fk fv) :=
  ⟨pe_disp (pps_cons hk.pe hv.pe pps_nil) rfl rfl (by simp) (by show 1 ≤ 15; decide), so_disp1 hk.sd hv.sd⟩
end
/-! ### d[k] = v, d the frame's own -/
def putVs (key : L2.Key) (d : D) : List L2.Key → List D → List D
  | k :: ks, x :: xs => (if k = key then d else x) :: putVs key d ks xs
  | _, _ => []
def putMo (ks : List L2.Key) (vs : List D) (key : L2.Key) (d : D) : Mo := if (ks.any fun k => decide (k = key)) = true then .dk ks (putVs key d ks vs) else .dk (ks ++ [key]) (vs ++ [d])
theorem put_rs {B : Ad} {H : Hp} {key : L2.Key} {d : D} {v : V} (hd : Rs B H d v) : ∀ {kvs : List (L2.Key × V)} {vs : List D}, RsL B H vs (kvs.map (·.2)) →
    RsL B H (putVs key d (kvs.map (·.1)) vs) ((kvs.map fun kv => if kv.1 = key then (kv.1, v) else kv).map (·.2)) ∧ ((kvs.map fun kv => if kv.1 = key then (kv.1, v) else kv).map (·.1)) = kvs.map (·.1)
  | [], _, .nil => ⟨.nil, rfl⟩
  | p :: kvs, _, .cons h r => by
    obtain ⟨a, b⟩ := put_rs hd (kvs := kvs) r
    by_cases e : p.1 = key
    · refine ⟨?_, ?_⟩
      · simp only [List.map_cons, putVs, if_pos e]
        exact .cons hd a
      · simp only [List.map_cons, if_pos e, b]
    · refine ⟨?_, ?_⟩
      · simp only [List.map_cons, putVs, if_neg e]
        exact .cons h a
      · simp only [List.map_cons, if_neg e, b]
theorem put_at {B : Ad} {H : Hp} {a : Addr} {key : L2.Key} {d : D} {v : V} {kvs : List (L2.Key × V)} {vs : List D} (hd : Rs B H d v) (r : RsL B H vs (kvs.map (·.2))) (e : H a = some (.dK (putK kvs key v))) : MoAt B H a (putMo (kvs.map (·.1)) vs key d) := by
  unfold putMo
  have ec : ((kvs.map (·.1)).any fun k => decide (k = key)) = (kvs.any fun kv => decide (kv.1 = key)) := by
    rw [List.any_map]
    rfl
  rw [ec]
  by_cases c : (kvs.any fun kv => decide (kv.1 = key)) = true
  · rw [if_pos c]
    have e2 : putK kvs key v = kvs.map (fun kv => if kv.1 = key then (kv.1, v) else kv) := by
      unfold putK
      rw [if_pos c]
    obtain ⟨h1, h2⟩ := put_rs (key := key) hd r
    exact ⟨_, e, by rw [e2, h2], by rw [e2]; exact h1⟩
  · rw [if_neg c]
    have e2 : putK kvs key v = kvs ++ [(key, v)] := by
      unfold putK
      rw [if_neg c]
    exact ⟨_, e, by rw [e2, List.map_append]; rfl, by rw [e2, List.map_append]; exact r.append (RsL.one hd)⟩
def fDput {A : Amb} (i : Nat) (fk f : FE A) : FS A := fun P ρ s => match ρ[i]? with
  | some (.o (.dk ks vs)) => f ρ s fun d s1 => fk ρ s1 fun k s2 => keyD k fun key => ks.length < 16777216 ∧ P.nx (ρ.set i (.o (putMo ks vs key d))) s2
  | _ => False
section
variable {A : Amb} {tk te : TE} {fk fe : FE A}
theorem ss_dput (i : Nat) (h : SdE A true false te fe) (hk : SdE A false true tk fk) : SdS A (sDPut (tVar i) tk te) (fDput i fk fe) := fun W s0 H0 s σ H ρ P D R hp nx _ _ _ => by
  unfold fDput at hp
  split at hp
  · rename_i ks vs e
    obtain ⟨a, h1, ⟨kvs, h2, rfl, h3⟩, h4, h5, h6⟩ := R.own i _ e
    refine h W s0 H0 s σ H ρ _ _ R hp fun d s1 v H1 hd R1 st1 r1 => ⟨.ref a, h1, hk W s0 H0 s1 σ H1 ρ _ _ R1 hd fun k s2 y H2 hk2 R2 st2 r2 => ?_⟩
    have st := st1.trans st2
    obtain ⟨k1, k2⟩ := keep_at st (by rw [h2]; simp) h6
    obtain ⟨key, rfl, hk3⟩ := key_rv r2 hk2
    refine ⟨a, _, rfl, DPut.k (k1.trans h2) (by have := hk3.1; rw [List.length_map] at this; rw [line_eq]; omega), nx _ s2 _ _ hk3.2 (R2.mut e h1 ?_)⟩
    have go : ∀ {l : List Pd.D} {xs : List V}, RsL (om true A W s2 σ ρ) H2 l xs → RsL (om true A W s2 σ ρ) (upd H2 a (.dK (putK kvs key v))) l xs := fun r => r.go (fun b z => .inl z) fun b o eb nb => by
      rw [upd_ne fun z => ?_]
      · exact eb
      · subst z; exact nb (.inr (.inr ⟨rfl, i, _, e, h1⟩))
    have rd : Rs (om true A W s2 σ ρ) (upd H2 a (.dK (putK kvs key v))) d v := by
      have := go (RsL.one (r1.stp st2).rs)
      cases this with
      | cons x _ => exact x
    exact put_at rd (go (h3.stp st)) upd_same
  · exact hp.elim
end
section
variable {X : Cx} {A : Amb} {a e : Expr} {ta te : TE} {fa fe : FE A} {p p2 pos : Pos} {x : Str}
theorem z_dput (i : Nat) (hu : X.A.units + 64 < cLine) (he : QE X A true false e te fe) (ha : QE X A false true a ta fa) (hN : X.N[i]? = some x := by rfl) (hv : Vis X.env.scope x := by first | exact Or.inl rfl | exact Or.inr (Or.inl rfl) | exact Or.inr (Or.inr rfl)) (hd : (x == ("__debug__" : Str)) = false := by decide) (hcd : (x == ("__classdict__" : Str)) = false := by decide)
    (hs : swapsWith e (some (.Subscript (.Name x p) a p2)) pos.line X.env = pure false := by rfl) : QS X A (.Assign [.Subscript (.Name x p) a p2] e pos) (sDPut (tVar i) ta te) (fDput i fa fe) :=
  ⟨ps_dput (by omega) (pe_var hN hv hd hcd) ha.pe he.pe hs, ss_dput i he.sd ha.sd⟩
end
/-! ### sorted of a dict with int keys -/
def rSortKI : List V → Hp → VK → Prop := fun xs H Q => ∃ (a : Addr) (kvs : List (L2.Key × V)) (ks : List Int), xs = [.ref a] ∧ Rd H a (.dK kvs) ∧ kvs.map (·.1) = ks.map Sum.inl ∧ ks.length < 64 ∧ ∀ (ys : List Int) (p : Addr), ys.Perm ks → ys.Pairwise (· ≤ ·) → H p = none → Q (.ref p) (upd H p (.lst (ys.map V.int)))
structure SkP (ks : List L2.Key) (Φ : D → Prop) : Prop where
  ex : ∃ ns : List Int, ks = ns.map Sum.inl ∧ ns.length < 64 ∧ ∀ ys : List Int, ys.Perm ns → ys.Pairwise (· ≤ ·) → Φ (.lst (ys.map D.int))
def dSortedK (ds : List D) (Φ : D → Prop) : Prop := match ds with
  | [.dct ks _] => SkP ks Φ
  | _ => False
section
variable {X : Cx} {A : Amb} {m : Bool}
theorem sc_sortedK : SdC A m false true rSortKI dSortedK := fun W s0 H0 s σ H ρ ds vs Φ Q R rv h q => by
  unfold dSortedK at h
  split at h
  · obtain ⟨v, rfl, r⟩ := rv.one
    obtain ⟨⟨ns, rfl, hl, h⟩⟩ := h
    have r2 := r.low
    cases r2 with
    | dct h1 n k r3 =>
      exact ⟨_, _, ns, rfl, .inl h1, k, hl, fun ys p hp hs hn => q _ _ _ (h ys hp hs) (R.alloc hn _) (Stp.fresh hn) (RV.newL R hn (RsL.ofInts _))⟩
  · exact h.elim
theorem nb_sortedK (hc : X.calm = true) : NB X A m false true "sorted" (.builtin "sorted") rSortKI dSortedK := ⟨call_sortedDI hc, sc_sortedK, bt_sorted, by decide, by decide⟩
end
end Pd

set_option maxHeartbeats 4000000
namespace Pd
open PySem PySem.Spec PyProof.Rows L2
/-! ### steps for the walk by rows (mac.lean) -/
theorem br_dt {c : Prop} [Decidable c] {p q : Prop} (h : c) (x : p) : Br (decide c) p q := ⟨fun _ => x, fun z => absurd h (of_decide_eq_false z)⟩
theorem br_df {c : Prop} [Decidable c] {p q : Prop} (h : ¬ c) (x : q) : Br (decide c) p q := ⟨fun z => absurd (of_decide_eq_true z) h, fun _ => x⟩
theorem br_ndt {c : Prop} [Decidable c] {p q : Prop} (h : ¬ c) (x : p) : Br (!decide c) p q := ⟨fun _ => x, fun z => absurd (by simpa using z) h⟩
theorem br_ndf {c : Prop} [Decidable c] {p q : Prop} (h : c) (x : q) : Br (!decide c) p q := ⟨fun z => absurd h (by simpa using z), fun _ => x⟩
/-- a bool that is not looked into -/
theorem br_any {b : Bool} {p q : Prop} (h1 : b = true → p) (h2 : b = false → q) : Br b p q := ⟨h1, h2⟩
def intsOf : List D → List Int
  | .int x :: l => x :: intsOf l
  | _ => []
def strsOf : List D → List Str
  | .str x :: l => x :: strsOf l
  | _ => []
section
variable {K : Fg} {b l : Addr} {Ψ : Ret → (BA K).S → Prop}
theorem pick_ints {ds : List D} (h : (intsOf ds).map D.int = ds) (h0 : ds ≠ []) (hl : ds.length < 2 ^ 60) (q : ∀ x ∈ intsOf ds, Ψ (.d (.int x)) (.bag b l)) : Sp (sp_pick (K := K)) [.any (.ref b), .lst ds] (.bag b l) Ψ := by
  refine pick_go h0 hl fun d hd => ?_
  rw [← h] at hd
  obtain ⟨x, hx, rfl⟩ := List.mem_map.mp hd
  exact q x hx
theorem pick_on (q : ∀ o : Bool, Ψ (.d (.str (if o then "on" else "off"))) (.bag b l)) : Sp (sp_pick (K := K)) [.any (.ref b), .lst [.str "on", .str "off"]] (.bag b l) Ψ := by
  refine pick_go (by simp) (by simp) fun d hd => ?_
  simp only [List.mem_cons, List.not_mem_nil, or_false] at hd
  rcases hd with rfl | rfl
  · exact q true
  · exact q false
/-- every item as p says -/
inductive AllP (p : D → Prop) : List D → Prop
  | nil : AllP p []
  | cons {d : D} {l : List D} : p d → AllP p l → AllP p (d :: l)
theorem AllP.mem {p : D → Prop} : ∀ {l : List D}, AllP p l → ∀ d ∈ l, p d
  | _, .cons h r, d, hd => (List.mem_cons.mp hd).elim (fun e => e ▸ h) fun hd => r.mem d hd
theorem pick_all (p : D → Prop) {ds : List D} (h : AllP p ds) (h0 : ds ≠ []) (hl : ds.length < 2 ^ 60) (q : ∀ d, p d → Ψ (.d d) (.bag b l)) : Sp (sp_pick (K := K)) [.any (.ref b), .lst ds] (.bag b l) Ψ :=
  pick_go h0 hl fun d hd => q d (h.mem d hd)
end
/-! comprehensions: all items kept -/
theorem lc_map {A : Amb} {l : List D} {g : FG} {fe : FE A} {ρ : List Sl} {s : A.S} {Φ : Mo → A.S → Prop} (p : Nat → D → Prop) (hl : l.length ≤ 16777216)
    (step : ∀ i d (C : D → A.S → Prop), l[i]? = some d → (∀ y, p i y → C y s) → g d ρ fun ρ' => fe ρ' s C)
    (fin : ∀ acc : List D, acc.length = l.length → (∀ i y, acc[i]? = some y → p i y) → Φ (.lst acc) s) : LcP l g (fun _ s Φ => Φ true s) fe ρ s Φ := by
  refine lc_go (fun i acc => acc.length = i ∧ ∀ j y, acc[j]? = some y → p j y) hl ⟨rfl, fun j y h => by simp at h⟩ ?_ fun acc h => fin acc h.1 h.2
  rintro i d acc hd ⟨h1, h2⟩
  have e : (fun ρ' => (fun (_ : List Sl) (s : A.S) (Φ : Bool → A.S → Prop) => Φ true s) ρ' s fun b s2 => Br b (fe ρ' s2 fun y s3 => s3 = s ∧ (acc ++ [y]).length = i + 1 ∧ ∀ j z, (acc ++ [y])[j]? = some z → p j z) (s2 = s ∧ acc.length = i + 1 ∧ ∀ j z, acc[j]? = some z → p j z)) = fun ρ' => fe ρ' s fun y s3 => s3 = s ∧ (acc ++ [y]).length = i + 1 ∧ ∀ j z, (acc ++ [y])[j]? = some z → p j z := by
    funext ρ'
    exact propext ⟨fun h => h.t rfl, fun h => br_t rfl h⟩
  rw [e]
  refine step i d _ hd fun y hy => ⟨rfl, by rw [List.length_append, h1]; rfl, fun j z hz => ?_⟩
  rw [List.getElem?_append] at hz
  split at hz
  · exact h2 j z hz
  · have hj : j - acc.length = 0 := by
      cases q : j - acc.length with
      | zero => rfl
      | succ n => rw [q] at hz; simp at hz
    have : j = i := by omega
    subst this
    rw [hj] at hz
    simp at hz
    exact hz ▸ hy
/-- a comprehension over ts.map enc that keeps what p says -/
theorem lc_filtT {T : Type} {A : Amb} {l : List D} {g : FG} {tt : FT A} {fe : FE A} {ρ : List Sl} {s : A.S} {Φ : Mo → A.S → Prop} (enc : T → D) (p : T → Bool) (f : T → D) (ts : List T) (e : l = ts.map enc) (hl : ts.length ≤ 16777216)
    (step : ∀ t (C : D → A.S → Prop) (N : A.S → Prop), t ∈ ts → (p t = true → C (f t) s) → (p t = false → N s) → g (enc t) ρ fun ρ' => tt ρ' s fun b s2 => Br b (fe ρ' s2 C) (N s2))
    (fin : Φ (.lst ((ts.filter p).map f)) s) : LcP l g tt fe ρ s Φ := by
  subst e
  refine lc_go (fun i acc => acc = ((ts.take i).filter p).map f) (by rw [List.length_map]; exact hl) rfl ?_ ?_
  · rintro i d _ hd rfl
    rw [List.getElem?_map] at hd
    cases e : ts[i]? with
    | none => rw [e] at hd; cases hd
    | some t =>
      rw [e] at hd
      cases hd
      refine step t _ _ (List.mem_of_getElem? e) (fun h => ⟨rfl, ?_⟩) (fun h => ⟨rfl, ?_⟩)
      · rw [List.take_add_one, e]
        simp [List.filter_append, h]
      · rw [List.take_add_one, e]
        simp [List.filter_append, h]
  · rintro _ rfl
    rw [List.length_map, List.take_length]
    exact fin
/-- .. that keeps all -/
theorem lc_mapT {T : Type} {A : Amb} {l : List D} {g : FG} {fe : FE A} {ρ : List Sl} {s : A.S} {Φ : Mo → A.S → Prop} (enc : T → D) (f : T → D) (ts : List T) (e : l = ts.map enc) (hl : ts.length ≤ 16777216)
    (step : ∀ t (C : D → A.S → Prop), t ∈ ts → C (f t) s → g (enc t) ρ fun ρ' => fe ρ' s C) (fin : Φ (.lst (ts.map f)) s) : LcP l g (fun _ s Φ => Φ true s) fe ρ s Φ := by
  refine lc_filtT enc (fun _ => true) f ts e hl (fun t C N ht h1 _ => ?_) ?_
  · have e : (fun ρ' => (fun (_ : List Sl) (s : A.S) (Φ : Bool → A.S → Prop) => Φ true s) ρ' s fun b s2 => Br b (fe ρ' s2 C) (N s2)) = fun ρ' => fe ρ' s C := by
      funext ρ'
      exact propext ⟨fun h => h.t rfl, fun h => br_t rfl h⟩
    rw [e]
    exact step t C ht (h1 rfl)
  · have e : ts.filter (fun _ => true) = ts := List.filter_eq_self.mpr fun _ _ => rfl
    rw [e]
    exact fin
/-- a loop over ts.map enc; the slots told by a state, the state by the part that is taken -/
theorem for_goT {A : Amb} {l : List D} {g : FG} {b : FS A} {P : PEnds A} {ρ : List Sl} {s : A.S} {T U : Type} (enc : T → D) (ts : List T) (e : l = ts.map enc) (encU : U → List Sl) (Inv : List T → U → Prop) (u0 : U) (h0 : encU u0 = ρ) (i0 : Inv [] u0)
    (step : ∀ pre t post u, ts = pre ++ t :: post → Inv pre u → g (enc t) (encU u) fun ρ' => b { P with nx := fun ρ s' => s' = s ∧ ∃ u', encU u' = ρ ∧ Inv (pre ++ [t]) u', ct := fun ρ s' => s' = s ∧ ∃ u', encU u' = ρ ∧ Inv (pre ++ [t]) u', bk := P.nx } ρ' s)
    (fin : ∀ u, Inv ts u → P.nx (encU u) s) : ForP l g b P ρ s := by
  subst e
  refine for_go encU (fun i u => Inv (ts.take i) u) u0 h0 i0 ?_ ?_
  · intro i d u hd hI
    rw [List.getElem?_map] at hd
    cases e : ts[i]? with
    | none => rw [e] at hd; cases hd
    | some t =>
      rw [e] at hd
      cases hd
      have e2 : ts.take (i + 1) = ts.take i ++ [t] := by rw [List.take_add_one, e]; rfl
      rw [e2]
      refine step (ts.take i) t (ts.drop (i + 1)) u ?_ hI
      have hi := (List.getElem?_eq_some_iff.mp e).1
      have e3 : ts[i] = t := (List.getElem?_eq_some_iff.mp e).2
      rw [← e3, List.getElem_cons_drop, List.take_append_drop]
  · intro u hI
    rw [List.length_map, List.take_length] at hI
    exact fin u hI
theorem ix_at {α : Type} {l : List α} {i : Int} {k : Nat} {d : α} {Φ : α → Prop} (e : i = (k : Int)) (h : l[k]? = some d) (q : Φ d) : Ix l i Φ := by
  subst e
  exact ix_nat h q
theorem ix_last {α : Type} {l : List α} {d : α} {Φ : α → Prop} (h : l.getLast? = some d) (q : Φ d) : Ix l (-1) Φ := by
  refine ⟨d, ?_, q⟩
  have hn : l ≠ [] := fun e => by subst e; cases h
  have hl : 0 < l.length := List.length_pos_iff.mpr hn
  unfold L2.atI ixN
  rw [if_neg (by decide), if_pos (by omega)]
  have e : ((-1 : Int) + (l.length : Int)).toNat = l.length - 1 := by omega
  show Option.bind (some _) (fun k => l[k]?) = some d
  simp only [Option.bind_some]
  rw [List.getLast?_eq_getElem?] at h
  rw [← h]
  congr 1
theorem set_last {n : Nat} {Φ : Nat → Prop} (h : 0 < n) (q : Φ (n - 1)) : SetP n (-1) Φ := by
  refine ⟨n - 1, ?_, q⟩
  unfold ixN
  rw [if_neg (by decide), if_pos (by omega)]
  congr 1
  omega
theorem set_dropLast {α : Type} {l : List α} {d : α} (h : l ≠ []) : l.set (l.length - 1) d = l.dropLast ++ [d] := by
  rcases List.eq_nil_or_concat l with e | ⟨r, x, rfl⟩
  · exact (h e).elim
  · rw [List.concat_eq_append, List.dropLast_concat, List.length_append, List.length_singleton, Nat.add_sub_cancel, List.set_append]
    simp
/-! data that == looks through: nested at most n deep -/
mutual
def D.lay : Nat → D → Bool
  | _, .non => true
  | _, .bl _ => true
  | _, .int _ => true
  | _, .str x => PyData.canLay0 (.str x)
  | 0, .tup _ => false
  | n + 1, .tup l => layL n l
  | 0, .lst _ => false
  | n + 1, .lst l => layL n l
  | _, _ => false
def layL : Nat → List D → Bool
  | _, [] => true
  | n, d :: l => d.lay n && layL n l
end
mutual
theorem lay_all : ∀ (d : D) (n : Nat), d.lay n = true → d.plain = true ∧ d.py.canLay0 = true ∧ d.py.depth ≤ n + 1
  | .non, n, _ => ⟨rfl, by simp [D.py, PyData.canLay0], by simp [D.py, PyData.depth]⟩
  | .bl b, n, _ => ⟨rfl, by simp [D.py, PyData.canLay0], by simp [D.py, PyData.depth]⟩
  | .int i, n, _ => ⟨rfl, by simp [D.py, PyData.canLay0], by simp [D.py, PyData.depth]⟩
  | .str x, n, h => ⟨rfl, by simpa [D.lay, D.py] using h, by simp [D.py, PyData.depth]⟩
  | .tup l, 0, h => by simp [D.lay] at h
  | .tup l, n + 1, h => by
    obtain ⟨a, b, c⟩ := layL_all l n (by simpa [D.lay] using h)
    exact ⟨by simpa [D.plain] using a, by simpa [D.py, PyData.canLay0] using b, by simp only [D.py, PyData.depth]; omega⟩
  | .lst l, 0, h => by simp [D.lay] at h
  | .lst l, n + 1, h => by
    obtain ⟨a, b, c⟩ := layL_all l n (by simpa [D.lay] using h)
    exact ⟨by simpa [D.plain] using a, by simpa [D.py, PyData.canLay0] using b, by simp only [D.py, PyData.depth]; omega⟩
  | .dct _ _, _, h => by simp [D.lay] at h
  | .any _, _, h => by simp [D.lay] at h
theorem layL_all : ∀ (l : List D) (n : Nat), layL n l = true → plainL l = true ∧ PyData.canLayAll0 (pyL l) = true ∧ PyData.depthAll (pyL l) ≤ n + 1
  | [], n, _ => ⟨rfl, by simp [pyL, PyData.canLayAll0], by simp [pyL, PyData.depthAll]⟩
  | d :: l, n, h => by
    have h' : d.lay n = true ∧ layL n l = true := by simpa [layL] using h
    obtain ⟨a, b, c⟩ := lay_all d n h'.1
    obtain ⟨a2, b2, c2⟩ := layL_all l n h'.2
    exact ⟨by simp [plainL, a, a2], by simp [pyL, PyData.canLayAll0, b, b2], by simp only [pyL, PyData.depthAll]; omega⟩
end
theorem lay_dok {d : D} (h : d.lay 32 = true) : DOk d := by
  obtain ⟨a, b, c⟩ := lay_all d 32 h
  exact ⟨a, by unfold SeqAt.shaped; rw [Bool.and_eq_true, decide_eq_true_eq]; exact ⟨b, by omega⟩⟩
theorem layL_mem {n : Nat} : ∀ {l : List D}, (∀ d ∈ l, d.lay n = true) → layL n l = true
  | [], _ => rfl
  | d :: l, h => by rw [layL, h d List.mem_cons_self, layL_mem fun d hd => h d (List.mem_cons_of_mem _ hd)]; rfl
theorem layL_map {T : Type} {n : Nat} {enc : T → D} {l : List T} (h : ∀ t, (enc t).lay n = true) : layL n (l.map enc) = true := layL_mem fun d hd => by
  obtain ⟨t, _, rfl⟩ := List.mem_map.mp hd
  exact h t
theorem dok_lst {l : List D} (h : layL 31 l = true) : DOk (.lst l) := lay_dok (by rw [D.lay]; exact h)
theorem dok_tup {l : List D} (h : layL 31 l = true) : DOk (.tup l) := lay_dok (by rw [D.lay]; exact h)
theorem eqv_lnil : ∀ l : List D, PyData.eqv (D.lst l).py (D.lst []).py = l.isEmpty := fun l => by
  cases l with
  | nil => simp [D.py, pyL, PyData.eqv, PyData.eqvAll]
  | cons d l => simp [D.py, pyL, PyData.eqv, PyData.eqvAll]
theorem eqv_tnil : ∀ l : List D, PyData.eqv (D.tup l).py (D.tup []).py = l.isEmpty := fun l => by
  cases l with
  | nil => simp [D.py, pyL, PyData.eqv, PyData.eqvAll]
  | cons d l => simp [D.py, pyL, PyData.eqv, PyData.eqvAll]
theorem rep_true {l : List D} (h : ∀ d ∈ l, d = .bl true) : [D.lst l] = [D.lst ((List.replicate l.length true).map D.bl)] := by
  rw [List.map_replicate]
  exact congrArg (fun x => [D.lst x]) (List.eq_replicate_iff.mpr ⟨rfl, h⟩)
theorem rep_all (n : Nat) : (List.replicate n true).all id = true := by
  rw [List.all_eq_true]
  intro x hx
  rw [(List.mem_replicate.mp hx).2]
  rfl
theorem bl_rep {n : Nat} {P : D → Prop} (h : P (.bl true)) : P (.bl ((List.replicate n true).all id)) := by
  rw [rep_all]
  exact h
theorem lst1 {l m : List D} (h : l = m) : [D.lst l] = [D.lst m] := by rw [h]
/-- an index into a list of ints -/
theorem ix_int {ns : List Int} {i : Int} {Φ : D → Prop} (h0 : 0 ≤ i) (h1 : i < ns.length) (q : ∀ x, Φ (.int x)) : Ix (ns.map D.int) i Φ := ix_go h0 (by rw [List.length_map]; exact h1) fun d hd => by
  rw [List.getElem?_map] at hd
  cases e : ns[i.toNat]? with
  | none => rw [e] at hd; cases hd
  | some x => rw [e] at hd; cases hd; exact q x
end Pd

set_option maxHeartbeats 4000000
/-! list(zip(a list, a list)) -/
namespace Pd
open PySem PySem.Spec PyProof.Rows L2
theorem zip_nolen : typeLookup (.type "zip") "__len__" = pure none := am_miss_of_fast (by decide +kernel)
theorem zip_nohint : typeLookup (.type "zip") "__length_hint__" = pure none := am_miss_of_fast (by decide +kernel)
def ZSl (z TI TO i1 i2 l1 l2 S : Addr) (a b : Array Value) (i : Nat) (h : Heap) : Prop :=
  IsPair h TI (.ref i1) (.ref i2) ∧ h.IsListIter i1 l1 i ∧ h.IsListIter i2 l2 i ∧ h.IsList l1 a ∧ h.IsList l2 b ∧
    ((IsZip h z TI TO .none ∧ ∃ p q, IsPair h TO p q) ∨ ∃ T f oT, IsZipHeld h z TI TO T f ∧ h.get? T = some oT ∧ T ≠ z ∧ T ≠ i1 ∧ T ≠ i2 ∧ T ≠ S)
theorem ZSl.at {z TI TO i1 i2 l1 l2 S : Addr} {a b : Array Value} {i : Nat} {h h' : Heap} (x : ZSl z TI TO i1 i2 l1 l2 S a b i h) (d : S ≠ z ∧ S ≠ TI ∧ S ≠ TO ∧ S ≠ i1 ∧ S ≠ i2 ∧ S ≠ l1 ∧ S ≠ l2) (k : ∀ b o, b ≠ S → h.get? b = some o → h'.get? b = some o) : ZSl z TI TO i1 i2 l1 l2 S a b i h' := by
  obtain ⟨hTI, h1, h2, hl1, hl2, hz⟩ := x
  obtain ⟨dz, dTI, dTO, di1, di2, dl1, dl2⟩ := d
  refine ⟨k _ _ (Ne.symm dTI) hTI, h1.at fun o e => k _ o (Ne.symm di1) e, h2.at fun o e => k _ o (Ne.symm di2) e, hl1.at fun o e => k _ o (Ne.symm dl1) e, hl2.at fun o e => k _ o (Ne.symm dl2) e, ?_⟩
  rcases hz with ⟨hz, p, q, hTO⟩ | ⟨T, f, oT, hz, hT, r1, r2, r3, r4⟩
  · exact .inl ⟨k _ _ (Ne.symm dz) hz, p, q, k _ _ (Ne.symm dTO) hTO⟩
  · exact .inr ⟨T, f, oT, k _ _ (Ne.symm dz) hz, k _ _ r4 hT, r1, r2, r3, r4⟩
section
variable {X : Cx} {pins : List (Addr × Obj)} {σ : Sg} {A : Around} {R : Result → Shared → Prop} {z TI TO i1 i2 l1 l2 S : Addr}
theorem zip_loop (hh : A.in1.handled = none) (D : ZipApart z TI TO i1 i2 l1 l2) (d : S ≠ z ∧ S ≠ TI ∧ S ≠ TO ∧ S ≠ i1 ∧ S ≠ i2 ∧ S ≠ l1 ∧ S ≠ l2) {xs ys : List V} {a b : List Value} (ra : Vals xs a) (rb : Vals ys b) (hn : xs.length ≤ sizeLine) (H0 : Hp) (h0S : H0 S = none) (res : Value) :
    ∀ (k i : Nat) (s : Shared) (H : Hp) (acc : Array Value) (accV : List V) (c : Nat), min xs.length ys.length - i = k → i ≤ min xs.length ys.length → Inv X pins σ H s → ZSl z TI TO i1 i2 l1 l2 S a.toArray b.toArray i s.heap →
      s.heap.get? S = some { cls := .type "list", dict := none, data := .seq acc c, slots := #[] } → H S = some (.lst accV) → Vals accV acc.toList → accV.length = i →
      (∀ (j : Nat) (x y : V), j < i → xs[j]? = some x → ys[j]? = some y → ∃ T, accV[j]? = some (V.ref T) ∧ H T = some (.tup [x, y]) ∧ H0 T = none) → (∀ b o, H0 b = some o → H b = some o) → (∀ c ∈ [z, TO, i1, i2], FpOk X pins H c ∧ c < s.heap.objs.size) →
      (∀ (s' : Shared) (H' : Hp) (accV' : List V), Inv X pins σ H' s' → H' S = some (.lst accV') → accV'.length = min xs.length ys.length →
        (∀ (j : Nat) (x y : V), xs[j]? = some x → ys[j]? = some y → ∃ T, accV'[j]? = some (V.ref T) ∧ H' T = some (.tup [x, y]) ∧ H0 T = none) → (∀ b o, H0 b = some o → H' b = some o) → R (.ok (.ret res)) s') →
      codeAny (model X.prog X.w) A (.builtin "list.extend.loop" ⟨[Value.ref S, Value.ref z, res], []⟩) R s := by
  obtain ⟨dz, dTI, dTO, di1, di2, dl1, dl2⟩ := id d
  have nS : S ∉ [z, TO, i1, i2] := by
    intro m
    simp only [List.mem_cons, List.not_mem_nil, or_false] at m
    rcases m with m | m | m | m
    · exact dz m
    · exact dTO m
    · exact di1 m
    · exact di2 m
  have la := ra.length
  have lb := rb.length
  intro k
  induction k with
  | zero =>
    intro i s H acc accV c hk hi I st hS hHS hv hl ht hb hf hR
    have hin : i = min xs.length ys.length := by omega
    have fin : ∀ h' tk, (∀ c o, c ∉ [z, TO, i1, i2] → s.heap.get? c = some o → h'.get? c = some o) → wpAny (model X.prog X.w) A.in1 (pure (Fin.done (.ret res))) (fun fin s' => match fin with
        | .done f => R (.ok f) s'
        | .again c' => c'.quiet = true ∧ codeAny (model X.prog X.w) A c' R s') (fun e s' => R (.error e) s') { s with heap := h', toks := tk } := fun h' tk hk =>
      wpAny_pure (hR _ H accV (I.turnedL (t' := tk) hk fun b hb => (hf b hb).1) hHS (by rw [hl, hin]) (fun j x y e1 e2 => ht j x y (by have := (List.getElem?_eq_some_iff.mp e1).1; have := (List.getElem?_eq_some_iff.mp e2).1; omega) e1 e2) hb)
    refine codeAny_builtin F.entry_extend_loop ?_
    rw [Around.under_plainId F.plain_extend_loop _]
    show wpAny _ A.in1 (pyNext (Value.ref z) >>= _) _ _ s
    obtain ⟨hTI, h1, h2, hl1, hl2, hz⟩ := st
    have hend : a.toArray[i]? = none ∨ b.toArray[i]? = none := by
      rcases Nat.le_total xs.length ys.length with h | h
      · exact .inl (Array.getElem?_eq_none (by rw [List.size_toArray, ← la]; omega))
      · exact .inr (Array.getElem?_eq_none (by rw [List.size_toArray, ← lb]; omega))
    refine wpAny_bind ?_
    rcases hz with ⟨hz, p, q, hTO⟩ | ⟨T, f, oT, hz, hT, r1, r2, r3, r4⟩
    · exact wpAny_pyNext_zip_end hh D hz hTI hTO h1 h2 hl1 hl2 hend fun h' hk => fin h' s.toks fun c o hc e => hk c o (fun x => hc (by simp [x])) (fun x => hc (by simp [x])) (fun x => hc (by simp [x])) (fun x => hc (by simp [x])) e
    · exact wpAny_pyNext_zip_end_held hh D hz hT hTI h1 h2 hl1 hl2 hend fun h' hk => fin h' s.toks fun c o hc e => hk c o (fun x => hc (by simp [x])) (fun x => hc (by simp [x])) (fun x => hc (by simp [x])) e
  | succ k ih =>
    intro i s H acc accV c hk hi I st hS hHS hv hl ht hb hf hR
    have hix : i < xs.length := by omega
    have hiy : i < ys.length := by omega
    have ex := List.getElem?_eq_getElem hix
    have ey := List.getElem?_eq_getElem hiy
    generalize xs[i] = x at ex
    generalize ys[i] = y at ey
    obtain ⟨u, eu, ru⟩ := ra.get ex
    obtain ⟨v, ev, rv⟩ := rb.get ey
    have eu' : a.toArray[i]? = some u := by simpa using eu
    have ev' : b.toArray[i]? = some v := by simpa using ev
    refine codeAny_builtin F.entry_extend_loop ?_
    rw [Around.under_plainId F.plain_extend_loop _]
    show wpAny _ A.in1 (pyNext (Value.ref z) >>= _) _ _ s
    have next : ∀ h' tk, h'.objs.size = s.heap.objs.size + 1 → IsPair h' s.heap.objs.size u v → ZSl z TI TO i1 i2 l1 l2 S a.toArray b.toArray (i + 1) h' → (∀ c o, c ∉ [z, TO, i1, i2] → s.heap.get? c = some o → h'.get? c = some o) →
        wpAny (model X.prog X.w) A.in1 (updateSeq S (·.push (.ref s.heap.objs.size)) >>= fun _ => again (.builtin "list.extend.loop" ⟨[Value.ref S, Value.ref z, res], []⟩)) (fun fin s' => match fin with
        | .done f => R (.ok f) s'
        | .again c' => c'.quiet = true ∧ codeAny (model X.prog X.w) A c' R s') (fun e s' => R (.error e) s') { s with heap := h', toks := tk } := by
      intro h' tk hsz hT st' hk'
      have nT : H s.heap.objs.size = none := I.hok.fresh (Nat.le_refl _)
      have I1 : Inv X pins σ (upd H s.heap.objs.size (.tup [x, y])) { s with heap := h', toks := tk } :=
        I.turnedNew (t' := tk) hk' (fun b hb => (hf b hb).1) (Nat.le_refl _) ⟨by show 2 ≤ sizeLine; decide, [u, v], .cons ru (.cons rv .nil), ⟨_, hT, rfl, _, rfl⟩⟩
      have neST : S ≠ s.heap.objs.size := Nat.ne_of_lt (Heap.lt_size hS)
      have hS' := hk' S _ nS hS
      refine wpAny_bind ?_
      have hacc : acc.size = i := by rw [← hl, hv.length, Array.length_toList]
      refine wpAny_updateSeq hS' rfl (wpAny_pure ⟨plainId_quiet F.plain_extend_loop _, ?_⟩) (by rw [hacc]; omega) (by show (acc.push _).size ≤ sizeLine + 1; rw [Array.size_push, hacc]; omega)
      have hS2 := Heap.get?_update_self (Obj.mapSeq (·.push (Value.ref s.heap.objs.size))) hS' rfl
      have stay : ∀ b o, b ≠ S → h'.get? b = some o → (h'.update S (Obj.mapSeq (·.push (Value.ref s.heap.objs.size)))).get? b = some o := fun b o hb e => (Heap.get?_update_other _ _ (Ne.symm hb)).trans e
      have hv2 : Vals (accV ++ [V.ref s.heap.objs.size]) (acc.push (.ref s.heap.objs.size)).toList := by
        rw [Array.toList_push]
        exact hv.append (.cons rfl .nil)
      have I2 := I1.write (x := S) (e := S) (o := .lst (accV ++ [V.ref s.heap.objs.size])) (t' := tk) (by rw [upd_ne neST, hHS]; trivial) (.inl rfl) stay ⟨_, hS2⟩ ⟨by rw [List.length_append, hl]; show i + 1 ≤ _; omega, _, _, hv2, by rw [Array.toArray_toList]; exact hS2⟩
      refine ih (i + 1) _ _ _ _ _ (by omega) (by omega) I2 (st'.at d stay) hS2 upd_same hv2 (by rw [List.length_append, hl]; rfl) ?_ ?_ ?_ hR
      · intro j x' y' hj e1 e2
        by_cases hji : j < i
        · obtain ⟨T, t1, t2, t3⟩ := ht j x' y' hji e1 e2
          refine ⟨T, ?_, ?_, t3⟩
          · rw [List.getElem?_append, if_pos (by omega)]; exact t1
          · rw [upd_ne (ne_of t2 hHS (by intro z; cases z)), upd_ne (ne_of_none t2 nT)]
            exact t2
        · obtain rfl : j = i := by omega
          rw [ex] at e1
          rw [ey] at e2
          cases e1
          cases e2
          refine ⟨s.heap.objs.size, ?_, ?_, ?_⟩
          · rw [List.getElem?_append_right (by omega), hl, Nat.sub_self]; rfl
          · rw [upd_ne (Ne.symm neST), upd_same]
          · cases q : H0 s.heap.objs.size with
            | none => rfl
            | some o => rw [hb _ _ q] at nT; cases nT
      · intro b o e
        have e1 := hb b o e
        have nb : b ≠ s.heap.objs.size := ne_of_none e1 nT
        by_cases hbS : b = S
        · subst hbS
          rw [h0S] at e
          cases e
        · rw [upd_ne hbS, upd_ne nb]; exact e1
      · intro c hc
        obtain ⟨f, lt⟩ := hf c hc
        refine ⟨⟨?_, f.2⟩, ?_⟩
        · rw [upd_ne (fun e : c = S => nS (by rw [← e]; exact hc)), upd_ne (Nat.ne_of_lt lt)]
          exact f.1
        · show c < (h'.update S (Obj.mapSeq (·.push (Value.ref s.heap.objs.size)))).objs.size
          rw [(Heap.SameBut.update ..).1, hsz]
          exact Nat.lt_succ_of_lt lt
    obtain ⟨hTI, h1, h2, hl1, hl2, hz⟩ := st
    have lt : ∀ {c o}, s.heap.get? c = some o → s.heap.objs.size ≠ c := fun e => Nat.ne_of_gt (Heap.lt_size e)
    have n1 : s.heap.objs.size ≠ i1 := let ⟨_, e, _⟩ := h1; lt e
    have n2 : s.heap.objs.size ≠ i2 := let ⟨_, e, _⟩ := h2; lt e
    refine wpAny_bind ?_
    rcases hz with ⟨hz, p, q, hTO⟩ | ⟨T, f, oT, hz, hT, r1, r2, r3, r4⟩
    · refine wpAny_pyNext_zip_item D hz hTI hTO h1 h2 hl1 hl2 eu' ev' fun h' a1 a2 a3 a4 a5 a6 hk => ?_
      exact next h' s.toks a6 a5 ⟨hk _ _ D.TIz D.TITO D.TIi1 D.TIi2 hTI, a3, a4, hl1.at fun o e => hk _ o D.l1z D.l1TO D.l1i1 D.l1i2 e, hl2.at fun o e => hk _ o D.l2z D.l2TO D.l2i1 D.l2i2 e,
          .inr ⟨s.heap.objs.size, false, _, a1, a5, lt hz, n1, n2, lt hS⟩⟩ fun c o hc e => hk c o (fun x => hc (by simp [x])) (fun x => hc (by simp [x])) (fun x => hc (by simp [x])) (fun x => hc (by simp [x])) e
    · refine wpAny_pyNext_zip_item_held D hz hT hTI h1 h2 hl1 hl2 eu' ev' fun h' a1 a3 a4 a5 a6 hk => ?_
      exact next h' s.toks a6 a5 ⟨hk _ _ D.TIz D.TIi1 D.TIi2 hTI, a3, a4, hl1.at fun o e => hk _ o D.l1z D.l1i1 D.l1i2 e, hl2.at fun o e => hk _ o D.l2z D.l2i1 D.l2i2 e,
          .inr ⟨T, true, oT, a1, hk _ _ r1 r2 r3 hT, r1, r2, r3, r4⟩⟩ fun c o hc e => hk c o (fun x => hc (by simp [x])) (fun x => hc (by simp [x])) (fun x => hc (by simp [x])) e
theorem zip_list {s : Shared} {H : Hp} {Q : Value → Shared → Prop} {E : Value → Shared → Prop} (hh : A.handled = none) (D : ZipApart z TI TO i1 i2 l1 l2) {xs ys : List V} {a b : List Value} (ra : Vals xs a) (rb : Vals ys b) (hn : xs.length ≤ sizeLine) (I : Inv X pins σ H s)
    (hz : IsZip s.heap z TI TO .none) (hTI : IsPair s.heap TI (.ref i1) (.ref i2)) (hTO : ∃ p q, IsPair s.heap TO p q) (h1 : s.heap.IsListIter i1 l1 0) (h2 : s.heap.IsListIter i2 l2 0) (hl1 : s.heap.IsList l1 a.toArray) (hl2 : s.heap.IsList l2 b.toArray) (hf : ∀ c ∈ [z, TO, i1, i2], FpOk X pins H c)
    (hQ : ∀ (s' : Shared) (H' : Hp) (S : Addr) (accV' : List V), Inv X pins σ H' s' → H S = none → H' S = some (.lst accV') → accV'.length = min xs.length ys.length →
        (∀ (j : Nat) (x y : V), xs[j]? = some x → ys[j]? = some y → ∃ T, accV'[j]? = some (V.ref T) ∧ H' T = some (.tup [x, y]) ∧ H T = none) → (∀ b o, H b = some o → H' b = some o) → Q (.ref S) s') :
    wpAny (model X.prog X.w) A (call (.type "list") [.ref z]) Q E s := by
  have lz : z < s.heap.objs.size := Heap.lt_size hz
  have lTI : TI < s.heap.objs.size := Heap.lt_size hTI
  have lTO : TO < s.heap.objs.size := by obtain ⟨_, _, h⟩ := id hTO; exact Heap.lt_size h
  have li1 : i1 < s.heap.objs.size := by obtain ⟨_, h, _⟩ := id h1; exact Heap.lt_size h
  have li2 : i2 < s.heap.objs.size := by obtain ⟨_, h, _⟩ := id h2; exact Heap.lt_size h
  have ll1 : l1 < s.heap.objs.size := by obtain ⟨_, h, _⟩ := id hl1; exact Heap.lt_size h
  have ll2 : l2 < s.heap.objs.size := by obtain ⟨_, h, _⟩ := id hl2; exact Heap.lt_size h
  refine callType_codes (Q₁ := fun obj s1 => obj = .ref s.heap.objs.size ∧ s1 = { s with heap := s.heap.push { cls := .type "list", data := .seq #[] } })
    F.called_list (F.typeCall_list_1 _) F.entry_list_init (code_list_new _ ⟨rfl, rfl⟩) ?_
  rintro obj s1 ⟨rfl, rfl⟩
  have hS : (s.heap.push { cls := .type "list", data := .seq #[] }).get? s.heap.objs.size = some { cls := .type "list", data := .seq #[] } := Heap.get?_push_size _ rfl
  refine ⟨⟨_, hS, rfl⟩, F.args_list_init_2 _ _, ?_⟩
  show wpAny _ _ (do
    let old ← Builtin.List.listItems (.ref s.heap.objs.size)
    Builtin.List.listUpdate (.ref s.heap.objs.size) (fun _ => #[])
    letGo old.toList.reverse
    Builtin.List.listExtendWith (.ref s.heap.objs.size) (.ref z) .none) _ _ _
  apply wpAny_bind
  unfold Builtin.List.listItems
  apply wpAny_bind
  apply wpAny_seqItems hS rfl
  apply wpAny_pure
  show wpAny _ _ (updateSeq s.heap.objs.size (fun _ => #[]) >>= fun _ => letGo (#[] : Array Value).toList.reverse >>= fun _ => Builtin.List.listExtendWith _ _ .none) _ _ _
  apply wpAny_bind
  refine wpAny_updateSeq hS rfl ?_
  have hS2 := Heap.get?_update_self (Obj.mapSeq (fun _ => (#[] : Array Value))) hS rfl
  have stay : ∀ b o, b ≠ s.heap.objs.size → s.heap.get? b = some o → ((s.heap.push { cls := .type "list", data := .seq #[] }).update s.heap.objs.size (Obj.mapSeq (fun _ => (#[] : Array Value)))).get? b = some o :=
    fun b o hb e => (Heap.get?_update_other _ _ (Ne.symm hb)).trans (Heap.get?_push_of_some _ e)
  have keep : ∀ b o, s.heap.get? b = some o → ((s.heap.push { cls := .type "list", data := .seq #[] }).update s.heap.objs.size (Obj.mapSeq (fun _ => (#[] : Array Value)))).get? b = some o := fun b o e => stay b o (Nat.ne_of_lt (Heap.lt_size e)) e
  apply wpAny_bind
  apply wpAny_letGo
  -- the walk into the list
  have hzz : ∀ {h' : Heap}, (∀ b o, s.heap.get? b = some o → h'.get? b = some o) → IsZip h' z TI TO .none := fun k => k _ _ hz
  have Sz : s.heap.objs.size ≠ z := Nat.ne_of_gt lz
  have ty : ∀ {h' : Heap} {t : Nat}, (∀ b o, s.heap.get? b = some o → h'.get? b = some o) → Shared.TypeIs { s with heap := h', toks := t } (.ref z) "zip" := fun k => ⟨_, hzz k, rfl⟩
  have nosame : Builtin.List.listSameRef (.ref s.heap.objs.size) (.ref z) = false := by simp [Builtin.List.listSameRef, Sz]
  unfold Builtin.List.listExtendWith
  apply wpAny_bind
  apply wpAny_typeOf (ty keep)
  rw [if_neg (by rw [nosame]; decide)]
  apply wpAny_bind
  refine wpAny_pyIter_zip (hzz keep) ?_
  apply wpAny_bind
  apply wpAny_holding
  unfold Builtin.List.listLengthHint
  apply wpAny_bind
  apply wpAny_specialOf (ty keep) zip_nolen
  show wpAny _ _ (specialOf (Value.ref z) (Str.ofString "__length_hint__") >>= _) _ _ _
  apply wpAny_bind
  apply wpAny_specialOf (ty keep) zip_nohint
  apply wpAny_pure
  show wpAny _ _ (rule "list.extend.makes-room" >>= fun _ => Builtin.List.listTouch (.ref s.heap.objs.size) >>= fun _ => again (.builtin "list.extend.loop" ⟨[.ref s.heap.objs.size, .ref z, .none], []⟩)) _ _ _
  refine wpAny_bind (wpAny_rule ?_)
  refine wpAny_bind ?_
  show wpAny _ _ (updateSeq s.heap.objs.size (·.push .none) >>= fun _ => updateSeq s.heap.objs.size (·.pop)) _ _ _
  refine wpAny_bind (wpAny_updateSeq hS2 rfl ?_)
  have hS3 := Heap.get?_update_self (Obj.mapSeq (·.push Value.none)) hS2 rfl
  refine wpAny_updateSeq hS3 rfl ?_
  have hS4 := Heap.get?_update_self (Obj.mapSeq (·.pop)) hS3 rfl
  have oth : ∀ b o, b ≠ s.heap.objs.size → s.heap.get? b = some o → ((((s.heap.push { cls := .type "list", data := .seq #[] }).update s.heap.objs.size (Obj.mapSeq (fun _ => (#[] : Array Value)))).update s.heap.objs.size (Obj.mapSeq (·.push Value.none))).update s.heap.objs.size (Obj.mapSeq (·.pop))).get? b = some o :=
    fun b o hb e => (Heap.get?_update_other _ _ (Ne.symm hb)).trans ((Heap.get?_update_other _ _ (Ne.symm hb)).trans (stay b o hb e))
  have keep4 : ∀ b o, s.heap.get? b = some o → _ := fun b o e => oth b o (Nat.ne_of_lt (Heap.lt_size e)) e
  refine wpAny_pure ⟨plainId_quiet F.plain_extend_loop _, ?_⟩
  have nS : H s.heap.objs.size = none := I.hok.fresh (Nat.le_refl _)
  have I2 := I.laid (t' := s.toks) (a := s.heap.objs.size) (o := .lst []) keep4 (Nat.le_refl _) ⟨Nat.zero_le _, [], _, .nil, hS4⟩
  refine zip_loop (A := A.in1) (R := _) hh D ⟨Sz, Nat.ne_of_gt lTI, Nat.ne_of_gt lTO, Nat.ne_of_gt li1, Nat.ne_of_gt li2, Nat.ne_of_gt ll1, Nat.ne_of_gt ll2⟩ ra rb hn H nS .none _ 0 _ _ _ [] _ rfl (Nat.zero_le _) I2
    ⟨keep4 _ _ hTI, h1.at fun o e => keep4 _ o e, h2.at fun o e => keep4 _ o e, hl1.at fun o e => keep4 _ o e, hl2.at fun o e => keep4 _ o e, .inl ⟨keep4 _ _ hz, let ⟨p, q, e⟩ := hTO; ⟨p, q, keep4 _ _ e⟩⟩⟩ hS4 upd_same .nil rfl (fun j x y hj => absurd hj (Nat.not_lt_zero _)) (fun b o e => by rw [upd_ne (ne_of_none e nS)]; exact e) (fun c hc => ?_) ?_
  · have lt : c < s.heap.objs.size := by
      simp only [List.mem_cons, List.not_mem_nil, or_false] at hc
      rcases hc with rfl | rfl | rfl | rfl <;> assumption
    refine ⟨⟨?_, (hf c hc).2⟩, ?_⟩
    · rw [upd_ne (Nat.ne_of_lt lt)]; exact (hf c hc).1
    · show c < ((((s.heap.push { cls := .type "list", data := .seq #[] }).update s.heap.objs.size (Obj.mapSeq (fun _ => (#[] : Array Value)))).update s.heap.objs.size (Obj.mapSeq (·.push Value.none))).update s.heap.objs.size (Obj.mapSeq (·.pop))).objs.size
      rw [(Heap.SameBut.update ..).1, (Heap.SameBut.update ..).1, (Heap.SameBut.update ..).1, Heap.size_push]
      exact Nat.lt_succ_of_lt lt
  · intro s' H' accV' I' e1 e2 e3 e4
    exact ⟨rfl, hQ s' H' _ accV' I' nS e1 e2 e3 e4⟩
end

def tLstZip (K : Fg) (ta : TA) : TE := fun σ H Q => ta σ H fun vs H2 => ∃ (a b : Addr) (xs ys : List V), vs = [.ref a, .ref b] ∧ SqL K H2 a xs ∧ SqL K H2 b ys ∧ ∀ (H' : Hp) (p : Addr) (l : List V), H2 p = none → H' p = some (.lst l) → l.length = min xs.length ys.length →
  (∀ (j : Nat) (x y : V), xs[j]? = some x → ys[j]? = some y → ∃ T, l[j]? = some (V.ref T) ∧ H' T = some (.tup [x, y]) ∧ H2 T = none) → (∀ b o, H2 b = some o → H' b = some o) → Q (.ref p) H'
section
variable {X : Cx}
theorem pe_lstZip {e e2 : Expr} {ta : TA} {p p2 pos pos2 : Pos} (hc : X.calm = true) (hg : Gl X "list") (hm : X.mg "list" = none) (hg2 : Gl X "zip") (hm2 : X.mg "zip" = none) (ha : PA X [e, e2] ta)
    (hs : starEach [e, e2] X.env = (false, eval e X.env) :: starEach [e2] X.env := by rfl) (hpl : (backTo pos2 (starEach [e2] X.env)).any (·.1) = false := by rfl)
    (n2 : starEach [.Call (.Name "zip" p2) [e, e2] [] pos2] X.env = (false, eval (.Call (.Name "zip" p2) [e, e2] [] pos2) X.env) :: starEach [] X.env := by rfl) :
    PE X (.Call (.Name "list" p) [.Call (.Name "zip" p2) [e, e2] [] pos2] [] pos) (tLstZip X.K ta) := by
  constructor
  intro pins s σ H Q J h
  have inner : ∀ {Q2 : Value → Shared → Prop}, (∀ us s1 vs H1, Inv X pins σ H1 s1 → Vals vs us → (∃ (a b : Addr) (xs ys : List V), vs = [.ref a, .ref b] ∧ SqL X.K H1 a xs ∧ SqL X.K H1 b ys ∧ ∀ (H' : Hp) (p : Addr) (l : List V), H1 p = none → H' p = some (.lst l) → l.length = min xs.length ys.length →
  (∀ (j : Nat) (x y : V), xs[j]? = some x → ys[j]? = some y → ∃ T, l[j]? = some (V.ref T) ∧ H' T = some (.tup [x, y]) ∧ H1 T = none) → (∀ b o, H1 b = some o → H' b = some o) → Q (.ref p) H') → wpAny (model X.prog X.w) X.A (call (.type "zip") us) Q2 X.xe s1) →
      wpAny (model X.prog X.w) X.A (eval (.Call (.Name "zip" p2) [e, e2] [] pos2) X.env) Q2 X.xe s := fun {Q2} k =>
    Call_ (ld_blt J hg2 hm2 PyProof.Rows.boot_zip (PyProof.Rows.callWith_type1 (thn (ha.run pos2 pins s σ H _ J h) fun us s1 ⟨vs, H1, J1, r1, q1⟩ => k us s1 vs H1 J1 r1 q1) hs hpl))
  refine Call_ (ld_blt J hg hm bt_list (PyProof.Rows.callWith_type1 (args_cons (inner fun us s1 vs H1 J1 r1 q1 => ?_) n2) n2 rfl))
  obtain ⟨a, b, xs, ys, rfl, hq1, hq2, q⟩ := q1
  cases r1 with
  | cons r rr =>
    cases rr with
    | cons r' rr =>
      cases rr
      cases r
      cases r'
      obtain ⟨its, rv, pl, hz⟩ := J1.list hq1
      obtain ⟨its2, rv2, pl2, hz2⟩ := J1.list hq2
      have la := pl.lt
      have lb := pl2.lt
      refine call_zip_2 pl.isList pl2.isList fun h' hzz hTI hTO h1 h2 hsz hk => args_nil ?_
      have J2 : Inv X pins σ H1 { s1 with heap := h' } := J1.kept (t' := s1.toks) hk
      have hh := J1.ok.hd hc
      refine zip_list (s := { s1 with heap := h' }) (H := H1) hh (zipApart_new la lb) rv rv2 hz J2 hzz hTI ⟨_, _, hTO⟩ h1 h2 (pl.isList.at fun o e => hk _ o e) (pl2.isList.at fun o e => hk _ o e) (fun c hcm => ?_) ?_
      · have hle : s1.heap.objs.size ≤ c := by
          simp only [List.mem_cons, List.not_mem_nil, or_false] at hcm
          rcases hcm with rfl | rfl | rfl | rfl
          · exact Nat.le_add_right _ _
          · exact Nat.le_add_right _ _
          · exact Nat.le_refl _
          · exact Nat.le_add_right _ _
        exact J1.fpOk hle (J1.hok.fresh hle)
      · intro s' H' S l I' e1 e2 e3 e4 e5
        exact ⟨.ref S, H', I', rfl, q H' S l e1 e2 e3 e4 e5⟩
end
def fLstZip {A : Amb} (fa fb : FE A) : FO A := fun ρ s Φ => fa ρ s fun x s1 => fb ρ s1 fun y s2 => match x, y with
  | .lst a, .lst b => Φ (.lst (zipD a b)) s2
  | _, _ => False
theorem zip_rs {B : Ad} {H : Hp} {p : Addr} (hp : ∀ T, H T ≠ none → T ≠ p → True) : ∀ {l m : List D} {xs ys us : List V}, RsL B H l xs → RsL B H m ys → us.length = min xs.length ys.length →
    (∀ (j : Nat) (x y : V), xs[j]? = some x → ys[j]? = some y → ∃ T, us[j]? = some (V.ref T) ∧ H T = some (.tup [x, y]) ∧ ¬ B T) → RsL B H (zipD l m) us
  | [], m, _, ys, us, .nil, _, h, _ => by
    have : us = [] := List.eq_nil_of_length_eq_zero (by simpa using h)
    subst this
    simp only [zipD]
    exact .nil
  | _ :: _, [], _, _, us, .cons _ _, .nil, h, _ => by
    have : us = [] := List.eq_nil_of_length_eq_zero (by simpa using h)
    subst this
    simp only [zipD]
    exact .nil
  | _ :: _, _ :: _, _, _, us, .cons a r, .cons b t, h, q => by
    match us, h, q with
    | [], h, _ =>
      simp only [List.length_nil, List.length_cons] at h
      omega
    | u :: us, h, q =>
      obtain ⟨T, e1, e2, e3⟩ := q 0 _ _ rfl rfl
      simp at e1
      subst e1
      refine .cons (.tup e2 e3 (.cons a (.cons b .nil))) (zip_rs hp r t (by simp at h; omega) fun j x y f1 f2 => ?_)
      obtain ⟨T2, g1, g2, g3⟩ := q (j + 1) x y (by simpa using f1) (by simpa using f2)
      exact ⟨T2, by simpa using g1, g2, g3⟩
section
variable {A : Amb} {ta tb : TE} {fa fb : FE A} {K : Fg}
theorem so_lstZip (ha : SdE A true false ta fa) (hb : SdE A true false tb fb) : SdO A (tLstZip K (tCons ta (tCons tb tNil))) (fLstZip fa fb) := fun W s0 H0 s σ H ρ Φ Q R hp q =>
  ha W s0 H0 s σ H ρ _ _ R hp fun x s1 v H1 h1 R1 st1 r1 => hb W s0 H0 s1 σ H1 ρ _ _ R1 h1 fun y s2 w H2 h2 R2 st2 r2 => by
    have r1' := r1.stp st2
    cases x with
    | lst a =>
      cases y with
      | lst b =>
        obtain ⟨p1, xs, rfl, k1, k2, _⟩ := r1'.lst
        obtain ⟨p2, ys, rfl, g1, g2, _⟩ := r2.lst
        refine ⟨p1, p2, xs, ys, rfl, .of k1, .of g1, fun H' p l hp hp' hl ht hk => ?_⟩
        have stn : Stp A s2 s2 H2 H' := ⟨fun a o e _ => hk a o e, fun _ z => .inl z, fun a e => by
          cases q : H2 a with
          | none => exact (e q).elim
          | some o => rw [hk a o q]; simp⟩
        have am : A.I s2 H' := A.loc R2.amb fun a z => by
          cases q : H2 a with
          | none => exact (A.dom R2.amb z q).elim
          | some o => exact hk a o q
        have R3 := R2.goAdd stn am hp (by rw [hp']; simp)
        refine q (.lst (zipD a b)) s2 p H' h2 R3 ((st1.trans st2).trans stn) (none_back (st1.trans st2) hp) ⟨l, hp', ?_⟩ (fun z => R2.wd p z hp) (fun z => A.dom R2.amb z hp)
        have hB : ∀ a, om true A (W.add p) s2 σ ρ a → om true A W s2 σ ρ a ∨ H2 a = none := fun a z => (om_wide a z).imp id fun e => by subst e; exact hp
        have hA : Agr (om true A W s2 σ ρ) H2 H' := fun a o e _ => hk a o e
        refine zip_rs (p := p) (fun _ _ _ => trivial) (k2.go hB hA) (g2.go hB hA) hl fun j x y e1 e2 => ?_
        obtain ⟨T, t1, t2, t3⟩ := ht j x y e1 e2
        refine ⟨T, t1, t2, fun z => ?_⟩
        rcases om_wide T z with z | z
        · exact R2.fresh t3 z
        · subst z
          rw [hp'] at t2
          cases t2
      | _ => exact h2.elim
    | _ => exact h2.elim
end
section
variable {X : Cx} {A : Amb} {a b : Expr} {ta tb : TE} {fa fb : FE A} {p p2 pos pos2 : Pos}
theorem qo_lzip (hc : X.calm = true) (hm : X.mg "list" = none) (hm2 : X.mg "zip" = none) (ha : QE X A true false a ta fa) (hb : QE X A true false b tb fb) (hg : Gl X "list" := by rfl) (hg2 : Gl X "zip" := by rfl)
    (hs : starEach [a, b] X.env = (false, eval a X.env) :: starEach [b] X.env := by rfl) (hs2 : starEach [b] X.env = (false, eval b X.env) :: starEach [] X.env := by rfl) (hpl : (backTo pos2 (starEach [b] X.env)).any (·.1) = false := by rfl)
    (n2 : starEach [.Call (.Name "zip" p2) [a, b] [] pos2] X.env = (false, eval (.Call (.Name "zip" p2) [a, b] [] pos2) X.env) :: starEach [] X.env := by rfl) :
    QO X A (.Call (.Name "list" p) [.Call (.Name "zip" p2) [a, b] [] pos2] [] pos) (tLstZip X.K (tCons ta (tCons tb tNil))) (fLstZip fa fb) :=
  ⟨pe_lstZip hc hg hm hg2 hm2 (pa_cons ha.pe (pa_cons hb.pe pa_nil hs2) hs) hs hpl n2, so_lstZip ha.sd hb.sd⟩
end
end Pd

set_option maxHeartbeats 4000000
/-! set(a list of ints), sorted(set(..)) -/
namespace Pd
open PySem PySem.Spec PyProof.Rows L2
section
variable {prog : Program} {w : World} {A : Around} {E : Value → Shared → Prop} {R : Result → Shared → Prop} {s : Shared}
abbrev MetR (w : World) (h : Heap) (S : Addr) (val : Nat → Int) (i : Nat) : Prop := SetR w h S (fun k => (firstMet val i).any (· == k)) (firstMet val i).length
theorem MetR.next {h h' : Heap} {S : Addr} {val : Nat → Int} {i : Nat} (r : SetR w h' S (fun j => ((firstMet val i).any (· == j)) || decide (j = val i)) (if (firstMet val i).any (· == val i) = true then (firstMet val i).length else (firstMet val i).length + 1)) : MetR w h' S val (i + 1) := by
  have e1 : (fun j => ((firstMet val i).any (· == j)) || decide (j = val i)) = fun k => (firstMet val (i + 1)).any (· == k) := by
    funext k
    rw [firstMet_succ, step_any]
  have e2 : (if (firstMet val i).any (· == val i) = true then (firstMet val i).length else (firstMet val i).length + 1) = (firstMet val (i + 1)).length := by rw [firstMet_succ, step_length]
  rw [e1, e2] at r
  exact r
theorem met_loop {I : Addr} {fp : List Addr} {n : Nat} {St : Nat → Heap → Prop} {vs : Array Value} (W : Walks prog w A.in1 I fp [I] n (fun i v => vs[i]? = some v) St) (S : Addr) (hSf : S ∉ fp) (hIf : I ∈ fp)
    (val : Nat → Int) (hval : ∀ (i : Nat) (v : Value), vs[i]? = some v → ∃ t, v = .int (val i) t) (hb : n + 1 < scanBound) : ∀ (k i : Nat) (s : Shared), n - i = k → i ≤ n → St i s.heap → MetR w s.heap S val i →
      (∀ h' tk, (∀ b o, b ≠ S → b ≠ I → s.heap.get? b = some o → h'.get? b = some o) → MetR w h' S val n → R (.ok (.ret .none)) { s with heap := h', toks := tk }) →
      codeAny (model prog w) A (.builtin "set.update.loop" ⟨[.ref S, .ref I], []⟩) R s := by
  have hSI : S ≠ I := fun e => hSf (by rw [e]; exact hIf)
  have WS := W.toS
  intro k
  induction k with
  | zero =>
    intro i s hk hi st hS hR
    obtain rfl : i = n := by omega
    refine codeAny_builtin F.entry_set_update_loop ?_
    rw [Around.under_plainId F.plain_set_update_loop _]
    show wpAny _ A.in1 (pyNext (Value.ref I) >>= _) _ _ s
    refine wpAny_bind (WS.done s _ _ st fun s' hm => ?_)
    show wpAny _ A.in1 (ret Value.none) _ _ s'
    have kp : ∀ b o, b ≠ S → b ≠ I → s.heap.get? b = some o → s'.heap.get? b = some o := fun b o _ h2 e => hm.heap b o (fun z => h2 (List.mem_singleton.mp z)) e
    have rr := hR s'.heap s'.toks kp (hS.at fun o e => hm.heap S o (fun z => hSI (List.mem_singleton.mp z)) e)
    have es : s' = { s with heap := s'.heap, toks := s'.toks } := by
      obtain ⟨h, g, d, t, os⟩ := s'
      have e1 : g = s.gens := hm.gens
      have e2 : d = s.drawn := hm.drawn
      have e3 : os = s.os := hm.os
      subst e1 e2 e3
      rfl
    rw [es]
    exact wpAny_pure rr
  | succ k ih =>
    intro i s hk hi st hS hR
    have hlt : i < n := by omega
    refine codeAny_builtin F.entry_set_update_loop ?_
    rw [Around.under_plainId F.plain_set_update_loop _]
    show wpAny _ A.in1 (pyNext (Value.ref I) >>= _) _ _ s
    refine wpAny_bind (WS.item i s _ _ hlt st fun v s1 hP st1 hm => ?_)
    obtain ⟨t, rfl⟩ := hval i v hP
    have hS1 := hS.at (h' := s1.heap) fun o e => hm.heap S o (fun z => hSI (List.mem_singleton.mp z)) e
    have room : (firstMet val i).length + 1 < scanBound := by have := firstMet_length_le val i; omega
    show wpAny _ A.in1 (holding [Value.int (val i) t] (setAdd S (.int (val i) t)) >>= _) _ _ s1
    refine wpAny_bind (wpAny_holding ?_)
    unfold setAdd
    refine wpAny_holding (wpAny_bind ((intKind prog w).pyHash (k := val i) (intKind_is _ _ _ _) ?_))
    refine setR_add_hashed (s := { s1 with toks := s1.toks + 1 }) hS1 room fun h2 sb r => ?_
    have k1 : ∀ b o, b ≠ S → b ≠ I → s.heap.get? b = some o → h2.get? b = some o := fun b o n1 n2 e => (sb.2 b n1).trans (hm.heap b o (fun z => n2 (List.mem_singleton.mp z)) e)
    refine wpAny_pure ⟨plainId_quiet F.plain_set_update_loop _, ih (i + 1) _ (by omega) hlt (W.frame _ s1.heap _ st1 fun b hb o e => (sb.2 b fun z => hSf (by rw [← z]; exact hb)).trans e) (MetR.next (h := s1.heap) r) fun h3 tk k3 r3 => ?_⟩
    have rr := hR h3 tk (fun b o n1 n2 e => k3 b o n1 n2 (k1 b o n1 n2 e)) r3
    have es : (⟨h3, s1.gens, s1.drawn, tk, s1.os⟩ : Shared) = { s with heap := h3, toks := tk } := by
      have e1 : s1.gens = s.gens := hm.gens
      have e2 : s1.drawn = s.drawn := hm.drawn
      have e3 : s1.os = s.os := hm.os
      rw [e1, e2, e3]
    show R _ (⟨h3, s1.gens, s1.drawn, tk, s1.os⟩ : Shared)
    rw [es]
    exact rr
theorem code_set_arg (a : Value) {Q₁ : Value → Shared → Prop} (h : Q₁ (.ref s.heap.objs.size) { s with heap := s.heap.push { cls := .type "set", dict := none, data := .set #[] 0 (.fresh 0 0 (!w.params.followText "set-order")) } }) :
    codeAny (model prog w) A (.call (.builtin "set.__new__") ⟨[.type "set", a], []⟩) (wants Q₁ E) s := by
  refine codeAny_of_tree ?_
  show wpAny _ A.in1 (do checkBuiltinCall "set.__new__" ⟨[.type "set", a], []⟩; again (.builtin "set.__new__" ⟨[.type "set", a], []⟩)) _ _ s
  refine wpAny_bind (wpAny_of_eq (F.newCall_set_1 a) (wpAny_pure ⟨plainId_quiet F.plain_set_new _, codeAny_builtin F.entry_set_new ?_⟩))
  rw [Around.under_plainId F.plain_set_new _]
  unfold Builtin.«set.__new__» Builtin.Frozenset.newClass
  have hsub := sub_set_self
  obtain ⟨hp, g, d, tk, os⟩ := s
  dsimp only
  wp_walk
  refine wpAny_askSetting (wpAny_pure ?_)
  dsimp only
  simp only [newObj]
  exact wpAny_bind (wpAny_alloc (wpAny_pure (wpAny_pure h)))
set_option maxHeartbeats 8000000 in
theorem set_of_list {l : Addr} {items : Array Value} {ns : List Int} {Q : Value → Shared → Prop} (hh : A.handled = none) (hl : s.heap.IsList l items) (hi : IntsAre items.toList ns) (hb : items.size + 1 < scanBound)
    (hQ : ∀ h' tk, MetR w h' s.heap.objs.size (fun i => ns.getD i 0) items.size → (∀ b o, b < s.heap.objs.size → s.heap.get? b = some o → h'.get? b = some o) → Q (.ref s.heap.objs.size) { s with heap := h', toks := tk }) :
    wpAny (model prog w) A (call (.type "set") [.ref l]) Q E s := by
  obtain ⟨c, tl, hmro⟩ := F.called_set.mro
  have hmade := F.called_set.made
  have hsub := F.called_set.sub
  refine wpAny_call (codeAny_of_tree ?_)
  show wpAny _ _ (callAny (.type "set") _) _ _ _
  refine wpAny_pure ⟨Code.quiet_builtin _ (by decide +kernel), codeAny_builtin F.entry_type_call ?_⟩
  rw [Around.under_plain (weight_type_call_type "set" [.ref l] []) rfl]
  have h1 := F.called_set.notType
  have h2 := F.called_set.canCreate
  have hct := F.typeCall_set_1 (.ref l)
  repeat (any_goals (first | assumption | wp_step))
  refine codeAny_mono (code_set_arg (.ref l) (E := E) (Q₁ := fun obj s₁ => obj = .ref s.heap.objs.size ∧ s₁ = { s with heap := s.heap.push { cls := .type "set", dict := none, data := .set #[] 0 (.fresh 0 0 (!w.params.followText "set-order")) } }) ⟨rfl, rfl⟩) fun r s₁ hr => ?_
  have fr := setR_fresh (h := s.heap) w
  generalize hnw : s.heap.push { cls := .type "set", dict := none, data := .set #[] 0 (.fresh 0 0 (!w.params.followText "set-order")) } = h0 at hr fr
  have sz0 : h0.objs.size = s.heap.objs.size + 1 := by rw [← hnw, Heap.size_push]
  have up0 : ∀ b o, s.heap.get? b = some o → h0.get? b = some o := fun b o e => by rw [← hnw]; exact Heap.get?_push_of_some _ e
  have hS : h0.get? s.heap.objs.size = some { cls := .type "set", dict := none, data := .set #[] 0 (.fresh 0 0 (!w.params.followText "set-order")) } := by rw [← hnw]; exact Heap.get?_push_size _ rfl
  have hT : Shared.TypeIs { s with heap := h0 } (.ref s.heap.objs.size) "set" := by rw [← hnw]; exact ⟨_, Heap.get?_push_size _ rfl, rfl⟩
  cases r with
  | error e => exact hr
  | ok fl =>
    cases fl with
    | ret obj =>
      obtain ⟨rfl, rfl⟩ := hr
      have hli := F.called_set.init.lookup
      have hbi := F.called_set.init.bind (.ref s.heap.objs.size)
      repeat (any_goals (first | assumption | wp_step))
      refine codeAny_mono (codeAny_call_builtin (R := wants (fun r s₂ => r = .none ∧ ∃ h' tk, s₂ = { s with heap := h', toks := tk } ∧ MetR w h' s.heap.objs.size (fun i => ns.getD i 0) items.size ∧ (∀ b o, b < s.heap.objs.size → s.heap.get? b = some o → h'.get? b = some o)) E)
        F.called_set.init.plain F.entry_set_init (check_set_init_1 hT ?_)) fun r₂ s₂ hr₂ => ?_
      · obtain ⟨ol, hol, hcl, nl, hdl⟩ := hl
        obtain ⟨ocls, odict, odata, oslots⟩ := ol
        simp only at hcl hdl
        subst hcl; subst hdl
        have hol' := up0 _ _ hol
        have hsls := F.sub_list_set
        have hslf := F.sub_list_frozenset
        have hne : (Value.type "list" == Value.type "dict") = false := by decide
        have hl1 : h0.IsList l items := ⟨_, hol', rfl, nl, rfl⟩
        unfold Builtin.«set.__init__» noKeywords Builtin.Frozenset.updateFrom
        generalize hPI : pyIter = PI
        wp_walk
        subst hPI
        refine wpAny_pyIter_list (s := { s with heap := h0 }) hl1 ?_
        refine wpAny_bind (wpAny_runValue ?_)
        have lS : l < s.heap.objs.size := Heap.lt_size hol
        have lI : l ≠ h0.objs.size := by rw [sz0]; exact Nat.ne_of_lt (Nat.lt_succ_of_lt lS)
        have hSf : s.heap.objs.size ∉ [h0.objs.size, l] := by
          rw [sz0]
          simp only [List.mem_cons, List.not_mem_nil, or_false, not_or]
          exact ⟨Nat.ne_of_lt (Nat.lt_succ_self _), Nat.ne_of_gt lS⟩
        refine met_loop (Walks.list (by simp [hh]) _ l lI items) s.heap.objs.size hSf List.mem_cons_self (fun i => ns.getD i 0) (fun i v hv => IntsAre.int_at hi i v (by rw [Array.getElem?_toList]; exact hv)) hb (items.size - 0) 0 _ (by omega) (Nat.zero_le _)
          ⟨⟨_, Heap.get?_push_size _ rfl, rfl, rfl⟩, hl1.push _⟩ (fr.at fun o e => Heap.get?_push_of_some _ e) ?_
        intro h' tk hk hm
        show wpAny _ _ _ _ _ _
        refine wpAny_pure ?_
        show wpAny _ _ (ret Value.none) _ _ _
        refine wpAny_pure ⟨rfl, h', tk, rfl, hm, fun b o hb e => hk b o (Nat.ne_of_lt hb) ?_ (Heap.get?_push_of_some _ (up0 b o e))⟩
        rw [sz0]
        exact Nat.ne_of_lt (Nat.lt_succ_of_lt hb)
      · cases r₂ with
        | error e => exact hr₂
        | ok fl₂ =>
          cases fl₂ with
          | ret r =>
            obtain ⟨rfl, h', tk, rfl, hm, hk⟩ := hr₂
            repeat (any_goals (first | assumption | wp_step))
            exact hQ _ _ hm hk
          | _ => exact hr₂.elim
    | _ => exact hr.elim
end
def tSortSet (K : Fg) (te : TE) : TE := fun σ H Q => te σ H fun x H1 => ∃ (l : Addr) (ns : List Int), x = .ref l ∧ SqL K H1 l (ns.map V.int) ∧ ns.length < 64 ∧
  ∀ (ys : List Int) (p : Addr), ys.Pairwise (· < ·) → (∀ k : Int, k ∈ ys ↔ k ∈ ns) → H1 p = none → Q (.ref p) (upd H1 p (.lst (ys.map V.int)))
theorem met_mem {ns : List Int} (k : Int) : (firstMet (fun i => ns.getD i 0) ns.length).any (· == k) = true ↔ k ∈ ns := by
  rw [firstMet_any]
  have e : (List.range ns.length).map (fun i => ns.getD i 0) = ns := by
    apply List.ext_getElem (by simp)
    intro i h1 h2
    simp [List.getD_eq_getElem?_getD, List.getElem?_eq_getElem h2]
  rw [e, List.any_eq_true]
  constructor
  · rintro ⟨x, hx, e⟩
    rw [← eq_of_beq e]
    exact hx
  · intro h
    exact ⟨k, h, by simp⟩
theorem pe_sortSet {X : Cx} {e : Expr} {te : TE} {p p2 q pos : Pos} (hc : X.calm = true) (hg : Gl X "sorted") (hm : X.mg "sorted" = none) (hg2 : Gl X "set") (hm2 : X.mg "set" = none) (he : PE X e te)
    (na : starEach [e] X.env = (false, eval e X.env) :: starEach [] X.env := by rfl) (nb : starEach [.Call (.Name "set" p2) [e] [] q] X.env = (false, eval (.Call (.Name "set" p2) [e] [] q) X.env) :: starEach [] X.env := by rfl) :
    PE X (.Call (.Name "sorted" p) [.Call (.Name "set" p2) [e] [] q] [] pos) (tSortSet X.K te) := by
  refine ⟨fun pins s σ H Q I h => ?_⟩
  refine Call_ (ld_blt I hg hm bt_sorted ?_)
  refine PyProof.Rows.callWith_builtin1 (PyProof.Rows.args_cons ?_ nb) nb rfl
  refine Call_ (ld_blt I hg2 hm2 boot_set ?_)
  refine PyProof.Rows.callWith_type1 (PyProof.Rows.args_cons (thn (he.run pins s σ H _ I h) fun v s1 ⟨x, H1, I1, r1, q1⟩ => PyProof.Rows.args_nil ?_) na) na rfl
  obtain ⟨l, ns, rfl, hq, hl, q1⟩ := q1
  cases r1
  obtain ⟨its, r, pl, hz⟩ := I1.list hq
  have hlen : its.toArray.size = ns.length := by rw [List.size_toArray, ← r.length, List.length_map]
  refine set_of_list (I1.ok.hd hc) pl.isList (by simpa using intsAre_of r) (by rw [hlen]; unfold scanBound; omega) fun h' tk hS hk => ?_
  refine PyProof.Rows.args_nil ?_
  rw [hlen] at hS
  have I2 : Inv X pins σ H1 { s1 with heap := h', toks := tk } := I1.kept (t' := tk) fun b o e => hk b o (Heap.lt_size e) e
  have h64 : (firstMet (fun i => ns.getD i 0) ns.length).length < 64 := Nat.lt_of_le_of_lt (firstMet_length_le _ _) hl
  refine sorted_set (s := { s1 with heap := h', toks := tk }) hS (I1.ok.hd hc) h64 fun s' p out c ys k g o hp hg hi hs hmm hl => ?_
  have hln : (ys.map V.int).length ≤ sizeLine := by rw [List.length_map, hl, line_eq]; omega
  have hn : H1 p = none := I2.hok.fresh hp
  have J : Inv X pins σ (upd H1 p (.lst (ys.map V.int))) { { s1 with heap := h', toks := tk } with heap := s'.heap, gens := s'.gens, drawn := s'.drawn, toks := s'.toks } :=
    I2.call (ch := []) (Un.laid k hp hn) (I2.hok.laid k hp ⟨hln, out.toList, c, vals_of_ints hi, hg⟩) (by rw [g]; exact I2.bare) (fun _ z => nomatch z)
  have es : s' = { { s1 with heap := h', toks := tk } with heap := s'.heap, gens := s'.gens, drawn := s'.drawn, toks := s'.toks } := by
    cases s'
    cases o
    rfl
  rw [es]
  exact ⟨.ref p, _, J, rfl, q1 ys p hs (fun k => (hmm k).trans (met_mem k)) hn⟩
structure SsP (ns : List Int) (Φ : D → Prop) : Prop where
  len : ns.length < 64
  go : ∀ ys : List Int, ys.Pairwise (· < ·) → (∀ k : Int, k ∈ ys ↔ k ∈ ns) → Φ (.lst (ys.map D.int))
def fSortSet {A : Amb} (f : FE A) : FE A := fun ρ s Φ => f ρ s fun d s1 => ∃ ns : List Int, d = .lst (ns.map D.int) ∧ SsP ns fun d => Φ d s1
theorem sd_sortSet {A : Amb} {m sh : Bool} {K : Fg} {te : TE} {fe : FE A} (h : SdE A m true te fe) : SdE A m sh (tSortSet K te) (fSortSet fe) := fun W s0 H0 s σ H ρ Φ Q R hp q =>
  h W s0 H0 s σ H ρ _ _ R hp fun d s1 v H1 h1 R1 st1 r1 => by
    obtain ⟨ns, rfl, hl, hgo⟩ := h1
    obtain ⟨a, xs, rfl, k1, k2, _⟩ := r1.lst
    obtain rfl := k2.ints
    exact ⟨a, ns, rfl, .of k1, hl, fun ys p hs hm hn => q _ s1 _ _ (hgo ys hs hm) (R1.alloc hn _) (st1.trans (Stp.fresh hn)) (RV.newL R1 hn (RsL.ofInts _))⟩
theorem q_sortSet {X : Cx} {A : Amb} {m sh : Bool} {e : Expr} {te : TE} {fe : FE A} {p p2 q pos : Pos} (hc : X.calm = true) (hm : X.mg "sorted" = none) (hm2 : X.mg "set" = none) (he : QE X A m true e te fe) (hg : Gl X "sorted" := by rfl) (hg2 : Gl X "set" := by rfl)
    (na : starEach [e] X.env = (false, eval e X.env) :: starEach [] X.env := by rfl) (nb : starEach [.Call (.Name "set" p2) [e] [] q] X.env = (false, eval (.Call (.Name "set" p2) [e] [] q) X.env) :: starEach [] X.env := by rfl) :
    QE X A m sh (.Call (.Name "sorted" p) [.Call (.Name "set" p2) [e] [] q] [] pos) (tSortSet X.K te) (fSortSet fe) := ⟨pe_sortSet hc hg hm hg2 hm2 he.pe na nb, sd_sortSet he.sd⟩
end Pd

set_option maxHeartbeats 4000000
/-! texts: join, f-strings of two parts and more, repr of a text -/
namespace Pd
open PySem PySem.Spec PyProof.Rows L2
section
variable {X : Cx} {A : Amb} {m sh : Bool} {a b e : Expr} {ta tb te : TE} {fa fb fe : FE A} {pos apos p2 : Pos}
structure JoinP (sep : Str) (d : D) (Φ : D → Prop) : Prop where
  go : ∃ ys : List Str, (d = .lst (ys.map D.str) ∨ d = .tup (ys.map D.str)) ∧ (ys.map (·.length)).sum + ys.length * sep.length ≤ 16777216 ∧ Φ (.str (Txt.join sep ys))
def fJoin (fa fb : FE A) : FE A := fun ρ s Φ => fa ρ s fun x s1 => match x with
  | .str sep => fb ρ s1 fun d s2 => JoinP sep d fun r => Φ r s2
  | _ => False
theorem q_join (ha : QE X A false true a ta fa) (hb : QE X A false true b tb fb) (hs : starEach [b] X.env = [(false, eval b X.env)] := by rfl) (hbase : attributeBase a "join" X.env (eval a X.env) = eval a X.env := by rfl) (hline : (apos.endLine == pos.line) = true := by rfl) :
    QE X A m sh (.Call (.Attribute a "join" apos) [b] [] pos) (tM1 (fun x xs H Q => ∃ a p, ∃ ys : List Str, x = .str a ∧ xs = [.ref p] ∧ (SqL X.K H p (ys.map V.str) ∨ SqT X.K H p (ys.map V.str)) ∧ (ys.map (·.length)).sum + ys.length * a.length ≤ 16777216 ∧ Q (.str (Txt.join a ys)) H) ta tb) (fJoin fa fb) :=
  ⟨pe_join ha.pe hb.pe hs hbase hline, fun W s0 H0 s σ H ρ Φ Q R hp q => ha.sd W s0 H0 s σ H ρ _ _ R hp fun x s1 v H1 h1 R1 st1 r1 => by
    cases x with
    | str sep =>
      obtain rfl := r1.str
      refine ⟨⟨_, rfl⟩, hb.sd W s0 H0 s1 σ H1 ρ _ _ R1 h1 fun d s2 w H2 h2 R2 st2 r2 => ?_⟩
      obtain ⟨ys, hd, hl, h3⟩ := h2.go
      rcases hd with rfl | rfl
      · obtain ⟨p, xs, rfl, k1, k2, _⟩ := r2.lst
        obtain rfl := k2.strs
        exact ⟨sep, p, ys, rfl, rfl, .inl (.of k1), hl, q _ s2 _ H2 h3 R2 (st1.trans st2) (.inl (.str _))⟩
      · obtain ⟨p, xs, rfl, k1, k2⟩ := r2.tup
        obtain rfl := k2.strs
        exact ⟨sep, p, ys, rfl, rfl, .inr (.of k1), hl, q _ s2 _ H2 h3 R2 (st1.trans st2) (.inl (.str _))⟩
    | _ => exact h1.elim⟩
/-! f-strings -/
def fFmt (fe : FE A) : FE A := fun ρ s Φ => fe ρ s fun x s1 => match x with
  | .str y => y.length ≤ 16777216 ∧ Φ (.str y) s1
  | .int i => i.natAbs.log2 < 1920 ∧ Φ (.str (toString i)) s1
  | _ => False
theorem q_fmt (he : QE X A false true e te fe) : QE X A m sh (.FormattedValue e (-1) none pos) (tFmt te) (fFmt fe) :=
  ⟨pe_fmt he.pe, fun W s0 H0 s σ H ρ Φ Q R hp q => he.sd W s0 H0 s σ H ρ _ _ R hp fun x s1 v H1 h1 R1 st1 r1 => by
    cases x with
    | str y => obtain rfl := r1.str; exact .inl ⟨y, rfl, by rw [line_eq]; exact h1.1, q _ s1 _ H1 h1.2 R1 st1 (.inl (.str _))⟩
    | int i => obtain rfl := r1.int; exact .inr ⟨i, rfl, h1.1, q _ s1 _ H1 h1.2 R1 st1 (.inl (.str _))⟩
    | _ => exact h1.elim⟩
abbrev FJ (A : Amb) := Str → List Sl → A.S → (Str → A.S → Prop) → Prop
def SdJ (A : Amb) (ts : List TE) (f : FJ A) : Prop := ∀ W s0 H0 s σ H ρ acc Φ Q, ER A W s0 H0 s σ H ρ → f acc ρ s Φ → (∀ y s' H', Φ y s' → ER A W s0 H0 s' σ H' ρ → Stp A s s' H H' → Q y H') → tJs ts acc σ H Q
structure QJ (X : Cx) (A : Amb) (es : List Expr) (ts : List TE) (f : FJ A) : Prop where
  pj : PJ X es ts
  sd : SdJ A ts f
def fJn {A : Amb} : FJ A := fun acc _ s Φ => Φ acc s
def fJc (fe : FE A) (f : FJ A) : FJ A := fun acc ρ s Φ => fe ρ s fun x s1 => match x with
  | .str y => acc.length + y.length ≤ 16777216 ∧ f (acc ++ y) ρ s1 Φ
  | _ => False
theorem qj_nil : QJ X A [] [] fJn := ⟨.nil, fun W s0 H0 s σ H ρ acc Φ Q R hp q => q acc s H hp R Stp.refl⟩
theorem qj_cons {es : List Expr} {ts : List TE} {f : FJ A} (he : QE X A false true e te fe) (h : QJ X A es ts f) : QJ X A (e :: es) (te :: ts) (fJc fe f) :=
  ⟨.cons he.pe h.pj, fun W s0 H0 s σ H ρ acc Φ Q R hp q => he.sd W s0 H0 s σ H ρ _ _ R hp fun x s1 v H1 h1 R1 st1 r1 => by
    cases x with
    | str y =>
      obtain rfl := r1.str
      exact ⟨y, rfl, by rw [line_eq, PySem.Str.length_append]; exact h1.1, h.sd W s0 H0 s1 σ H1 ρ _ Φ Q R1 h1.2 fun y s2 H2 h2 R2 st2 => q y s2 H2 h2 R2 (st1.trans st2)⟩
    | _ => exact h1.elim⟩
def fFs (f : FJ A) : FE A := fun ρ s Φ => f "" ρ s fun y s1 => Φ (.str y) s1
theorem q_fs {v1 v2 : Expr} {rest : List Expr} {ts : List TE} {f : FJ A} (h : QJ X A (v1 :: v2 :: rest) ts f) : QE X A m sh (.JoinedStr (v1 :: v2 :: rest) pos) (fun σ H Q => tJs ts Str.empty σ H fun out H1 => Q (.str out) H1) (fFs f) :=
  ⟨pe_joined h.pj, fun W s0 H0 s σ H ρ Φ Q R hp q => h.sd W s0 H0 s σ H ρ _ _ _ R hp fun y s1 H1 h1 R1 st1 => q _ s1 _ H1 h1 R1 st1 (.inl (.str _))⟩
end
/-! repr of a text -/
def rReprS : List V → Hp → VK → Prop := fun xs H Q => ∃ x, xs = [.str x] ∧ (reprText x).length ≤ sizeLine ∧ Q (.str (reprText x)) H
theorem call_reprS {X : Cx} : CallR X (.builtin "repr") rReprS := by
  intro pins s σ H xs us Q J rv h
  obtain ⟨x, rfl, hl, q⟩ := h
  cases rv with
  | cons r rr =>
    cases rr
    obtain ⟨t, rfl⟩ := r
    exact PySem.P.repr_of_str ⟨.str _, H, J.tok _, ⟨_, rfl⟩, q⟩ hl
def dReprS (ds : List D) (Φ : D → Prop) : Prop := match ds with
  | [.str x] => (reprText x).length ≤ 16777216 ∧ Φ (.str (reprText x))
  | _ => False
section
variable {X : Cx} {A : Amb} {m m1 sh1 : Bool}
theorem sc_reprS : SdC A m m1 sh1 rReprS dReprS := sdc_same fun ds vs H Φ Q W s σ ρ rv h q => by
  unfold dReprS at h
  split at h
  · obtain ⟨v, rfl, r⟩ := rv.one
    obtain rfl := r.str
    exact ⟨_, rfl, by rw [line_eq]; exact h.1, q _ _ h.2 fun B => .str _⟩
  · exact h.elim
theorem nb_reprS : NB X A m false true "repr" (.builtin "repr") rReprS dReprS := ⟨call_reprS, sc_reprS, bt_repr, by decide, by decide⟩
end
/-! lengths, signs of texts -/
section
open TL PySem.StrLaws
abbrev Okc (x : Str) : Prop := ∀ c ∈ tl x, c < 16 ^ 8
theorem okc_of (x : String) : Okc (Str.ofString x) := by
  intro c hc
  rw [PySem.Str.ofString_eq_toList] at hc
  rw [tl_mk] at hc
  obtain ⟨ch, _, rfl⟩ := List.mem_map.mp hc
  have : ch.toNat < 1114112 := by
    have := ch.valid
    rcases this with h | h
    · exact Nat.lt_of_lt_of_le h (by decide)
    · exact h.2
  exact Nat.lt_trans this (by decide)
theorem okc_app {x y : Str} (hx : Okc x) (hy : Okc y) : Okc (x ++ y) := by
  intro c hc
  rw [tl_append] at hc
  rcases List.mem_append.mp hc with h | h
  · exact hx c h
  · exact hy c h
theorem joinL_len (S : List Nat) : ∀ l : List (List Nat), (joinL S l).length ≤ (l.map (·.length)).sum + l.length * S.length
  | [] => by simp [joinL]
  | [p] => by simp [joinL]
  | p :: q :: r => by
    have ih := joinL_len S (q :: r)
    simp only [joinL, List.length_append, List.map_cons, List.sum_cons, List.length_cons] at ih ⊢
    rw [Nat.add_mul, Nat.one_mul]
    omega
theorem joinL_mem {S : List Nat} : ∀ {l : List (List Nat)} {c : Nat}, c ∈ joinL S l → c ∈ S ∨ ∃ p ∈ l, c ∈ p
  | [], c, h => by simp [joinL] at h
  | [p], c, h => .inr ⟨p, by simp, by simpa [joinL] using h⟩
  | p :: q :: r, c, h => by
    simp only [joinL, List.mem_append] at h
    rcases h with h | h | h
    · exact .inr ⟨p, by simp, h⟩
    · exact .inl h
    · rcases joinL_mem h with h | ⟨x, hx, h⟩
      · exact .inl h
      · exact .inr ⟨x, List.mem_cons_of_mem _ hx, h⟩
theorem okc_join {sep : Str} {l : List Str} (hs : Okc sep) (h : ∀ x ∈ l, Okc x) : Okc (Txt.join sep l) := by
  intro c hc
  rw [join_eq, tl_join] at hc
  rcases joinL_mem hc with hc | ⟨p, hp, hc⟩
  · exact hs c hc
  · obtain ⟨x, hx, rfl⟩ := List.mem_map.mp hp
    exact h x hx c hc
theorem sum_le {k : Nat} : ∀ {l : List Str}, (∀ x ∈ l, x.length ≤ k) → (l.map (·.length)).sum ≤ k * l.length
  | [], _ => by simp
  | x :: l, h => by
    have h1 := h x List.mem_cons_self
    have h2 := sum_le (l := l) fun y hy => h y (List.mem_cons_of_mem _ hy)
    rw [List.map_cons, List.sum_cons, List.length_cons, Nat.mul_succ]
    omega
theorem join_len {sep : Str} {l : List Str} {k : Nat} (h : ∀ x ∈ l, x.length ≤ k) : (Txt.join sep l).length ≤ k * l.length + l.length * sep.length := by
  rw [len_tl, join_eq, tl_join]
  have h1 := joinL_len (tl sep) (l.map tl)
  have h2 := sum_le h
  have e : (l.map tl).map (·.length) = l.map (·.length) := by
    rw [List.map_map]
    exact List.map_congr_left fun x _ => (len_tl x).symm
  rw [e, List.length_map, ← len_tl] at h1
  omega
theorem empty_app (x : Str) : ("" : Str) ++ x = x := by
  apply ext_tl
  rw [tl_append]
  rfl
theorem repr_len {x : Str} (h : Okc x) : (reprText x).length ≤ 10 * x.length + 2 := reprText_len x h
end
end Pd

set_option maxHeartbeats 4000000
/-! x = own.pop(i); dict displays, dict lookups; is True, is not False -/
namespace Pd
open PySem PySem.Spec PyProof.Rows L2
section
variable {A : Amb} {m sh m1 sh1 : Bool} {te : TE} {fe : FE A} {K : Fg}
theorem RsL.erase {B : Ad} {H : Hp} : ∀ {l : List D} {xs : List V} (i : Nat), RsL B H l xs → RsL B H (l.eraseIdx i) (xs.eraseIdx i)
  | _, _, _, .nil => .nil
  | _, _, 0, .cons _ r => r
  | _, _, i + 1, .cons g r => .cons g (RsL.erase i r)
/-- pop at a place counted from the front -/
structure PopP (l : List D) (i : Int) (Φ : D → List D → Prop) : Prop where
  h0 : 0 ≤ i
  h1 : i < l.length
  h2 : l.length < 2 ^ 60
  go : ∀ d, l[i.toNat]? = some d → Φ d (l.eraseIdx i.toNat)
def fPopAt {A : Amb} (i j : Nat) (fe : FE A) : FS A := fun P ρ s => match ρ[i]? with
  | some (.o (.lst l)) => fe ρ s fun k s1 => (match k with
    | .int k => PopP l k fun d l' => P.nx ((ρ.set i (.o (.lst l'))).set j (.v d)) s1
    | _ => False)
  | _ => False
theorem ss_popAt (i j : Nat) (h : SdE A false true te fe) : SdS A (tAsg (tBM K "list" rPopAt (tVar i) (tCons te tNil)) (gName j)) (fPopAt i j fe) := fun W s0 H0 s σ H ρ P D R hp nx _ _ _ => by
  unfold fPopAt at hp
  split at hp
  · rename_i l e
    obtain ⟨a, h1, ⟨xs, h2, h3⟩, h4, h5, h6⟩ := R.own i _ e
    refine ⟨.ref a, h1, .inl ⟨rfl, xs, .of h2⟩, h W s0 H0 s σ H ρ _ _ R hp fun d s1 v H1 hd R1 st1 r1 => ?_⟩
    obtain ⟨k1, k2⟩ := keep_at st1 (by rw [h2]; simp) h6
    cases d with
    | int k =>
      obtain rfl := r1.int
      obtain ⟨q0, q1, q2, q3⟩ := hd
      have h3' := h3.stp st1
      have hl : k.toNat < l.length := by omega
      have hd := List.getElem?_eq_getElem hl
      generalize l[k.toNat] = d at hd
      obtain ⟨y, hy, ry⟩ := h3'.get hd
      have ix : PySem.seqIndex? k xs.length = some k.toNat := by
        rw [h3.length]
        unfold PySem.seqIndex?
        rw [if_neg (show ¬ k < 0 by omega)]
        rw [if_pos (by rw [Bool.and_eq_true, decide_eq_true_eq, decide_eq_true_eq]; exact ⟨q0, q1⟩)]
      have ag : Agr (om true A W s1 σ ρ) H1 (upd H1 a (.lst (xs.eraseIdx k.toNat))) := fun b o eb nb => by
        rw [upd_ne fun z => ?_]
        · exact eb
        · subst z; exact nb (.inr (.inr ⟨rfl, i, _, e, h1⟩))
      refine ⟨a, xs, k, k.toNat, y, rfl, rfl, k1.trans h2, by omega, by omega, ix, hy, ?_⟩
      have R2 := R1.mut (m' := .lst (l.eraseIdx k.toNat)) e h1 ⟨xs.eraseIdx k.toNat, upd_same, (h3'.erase k.toNat).go (fun b z => .inl z) ag⟩
      have r2 : Rs (om true A W s1 σ (ρ.set i (.o (.lst (l.eraseIdx k.toNat))))) (upd H1 a (.lst (xs.eraseIdx k.toNat))) d y := ry.go (fun b z => .inl (om_mut e b z)) ag
      exact nx _ s1 _ _ (q3 d hd) (R2.setV j r2)
    | _ => exact hd.elim
  · exact hp.elim
theorem z_popAt {X : Cx} {A : Amb} {e : Expr} {te : TE} {fe : FE A} {x y : Str} {p py : Pos} {pos : Pos} (i j : Nat) {p2 p3 : Pos} (he : QE X A false true e te fe) (hNd : X.N.Nodup) (hN : X.N[i]? = some x := by rfl) (hv : Vis X.env.scope x := by first | exact Or.inl rfl | exact Or.inr (Or.inl rfl) | exact Or.inr (Or.inr rfl)) (hd : (x == ("__debug__" : Str)) = false := by decide) (hcd : (x == ("__classdict__" : Str)) = false := by decide)
    (hi : X.N[j]? = some y := by rfl) (hx : Loc X.env.scope y := by first | exact Or.inl rfl | exact Or.inr rfl) (hf : X.fn y = true ∨ X.env.scope.names.lookup y = some .local := by first | exact .inl rfl | exact .inr rfl)
    (hs : swapsWithSole [.Name y py] (.Call (.Attribute (.Name x p) "pop" p2) [e] [] p3) pos.line X.env = pure false := by rfl) (hw : swappedStores [.Name y py] (.Call (.Attribute (.Name x p) "pop" p2) [e] [] p3) X.env = pure none := by rfl) (ht : (assignEach [.Name y py] X.env).map (·.2) = [assign (.Name y py) X.env] := by rfl)
    (hbase : attributeBase (.Name x p) "pop" X.env (eval (.Name x p) X.env) = eval (.Name x p) X.env := by rfl)
    (hfew : ((backTo p3 (starEach [e] X.env)).all (fun x => !x.1) && (backToKw p3 (keywordEach [] X.env)).all (fun x => x.1.isSome) && decide ([e].length + ([] : List Keyword).length + (if ([] : List Keyword).isEmpty then 0 else 1) < 30)) = true := by rfl)
    (hline : (p2.endLine == p3.line) = true := by rfl) (hs1 : starEach [e] X.env = (false, eval e X.env) :: starEach [] X.env := by rfl) :
    QS X A (.Assign [.Name y py] (.Call (.Attribute (.Name x p) "pop" p2) [e] [] p3) pos) (tAsg (tBM X.K "list" rPopAt (tVar i) (tCons te tNil)) (gName j)) (fPopAt i j fe) :=
  ⟨ps_asg (pe_bm PySem.F.plainAttrs_list PySem.F.slot_list_pop PySem.F.type_list_pop mt_popAt (pe_var hN hv hd hcd) (pa_cons he.pe pa_nil hs1) hbase hfew hline hs1 (by rfl)) (pg_name hNd hi hx hf) hs hw ht, ss_popAt i j he.sd⟩
end
/-! is True, is not False -/
def dIsB (x y : D) (Φ : D → Prop) : Prop := match x, y with
  | .bl a, .bl b => Φ (.bl (decide (a = b)))
  | _, _ => False
def dNotB (x y : D) (Φ : D → Prop) : Prop := match x, y with
  | .bl a, .bl b => Φ (.bl (!decide (a = b)))
  | _, _ => False
section
variable {X : Cx} {A : Amb} {m m1 m2 sh1 sh2 : Bool}
theorem sdr_isB : SdR A m m1 sh1 m2 sh2 rIsB dIsB := sdr_same fun x y v w H Φ Q W s σ ρ rx ry h q => by
  unfold dIsB at h
  split at h
  · obtain rfl := rx.bl
    obtain rfl := ry.bl
    exact ⟨_, _, rfl, rfl, q _ _ h fun B => .bl _⟩
  · exact h.elim
theorem sdr_notB : SdR A m m1 sh1 m2 sh2 rNotB dNotB := sdr_same fun x y v w H Φ Q W s σ ρ rx ry h q => by
  unfold dNotB at h
  split at h
  · obtain rfl := rx.bl
    obtain rfl := ry.bl
    exact ⟨_, _, rfl, rfl, q _ _ h fun B => .bl _⟩
  · exact h.elim
theorem co_isb : CO X A .Is rIsB dIsB := ⟨op_isBl, fun _ => sdr_isB⟩
theorem co_isnb : CO X A .IsNot rNotB dNotB := ⟨op_notBl, fun _ => sdr_notB⟩
end
/-! dict displays -/
abbrev FPs (A : Amb) := List Sl → A.S → (List (L2.Key × D) → A.S → Prop) → Prop
def fDn {A : Amb} : FPs A := fun _ s Φ => Φ [] s
def fDc {A : Amb} (fk fv : FE A) (f : FPs A) : FPs A := fun ρ s Φ => fk ρ s fun k s1 => keyD k fun key => fv ρ s1 fun d s2 => f ρ s2 fun r s3 => Φ ((key, d) :: r) s3
def SdPs (A : Amb) (trs : List (TE × TE)) (f : FPs A) : Prop := ∀ W s0 H0 s σ H ρ Φ Q, ER A W s0 H0 s σ H ρ → f ρ s Φ →
  (∀ kds s' H' (kvs : List (L2.Key × V)), Φ kds s' → ER A W s0 H0 s' σ H' ρ → Stp A s s' H H' → kvs.map (·.1) = kds.map (·.1) → RsL (om true A W s' σ ρ) H' (kds.map (·.2)) (kvs.map (·.2)) → Q (kvs.map fun kv => (L2.kV kv.1, kv.2)) H') → tPairs trs σ H Q
theorem mergeK_new : ∀ {more acc : List (L2.Key × V)}, ((acc ++ more).map (·.1)).Nodup → mergeK acc more = acc ++ more
  | [], acc, _ => (List.append_nil acc).symm
  | p :: r, acc, h => by
    have hn : valV acc p.1 = none := by
      cases e : valV acc p.1 with
      | none => rfl
      | some v =>
        have := valV_in e
        rw [List.map_append, List.map_cons] at h
        exact absurd rfl ((List.nodup_append.mp h).2.2 p.1 this p.1 List.mem_cons_self)
    have e : mergeK acc (p :: r) = mergeK (putK acc p.1 p.2) r := rfl
    rw [e, putK_new p.2 hn]
    have h2 : ((acc ++ [(p.1, p.2)] ++ r).map (·.1)).Nodup := by
      rw [List.append_assoc]
      exact h
    rw [mergeK_new h2, List.append_assoc]
    rfl
section
variable {A : Amb} {tk tv : TE} {fk fv : FE A} {trs : List (TE × TE)} {f : FPs A}
theorem sd_dn : SdPs A [] fDn := fun W s0 H0 s σ H ρ Φ Q R hp q => q [] s H [] hp R Stp.refl rfl .nil
theorem sd_dc (hk : SdE A false true tk fk) (hv : SdE A true false tv fv) (h : SdPs A trs f) : SdPs A ((tk, tv) :: trs) (fDc fk fv f) := fun W s0 H0 s σ H ρ Φ Q R hp q =>
  hk W s0 H0 s σ H ρ _ _ R hp fun k s1 x H1 h1 R1 st1 r1 => by
    obtain ⟨key, rfl, h1⟩ := key_rv r1 h1
    refine hv W s0 H0 s1 σ H1 ρ _ _ R1 h1 fun d s2 y H2 h2 R2 st2 r2 => ?_
    refine h W s0 H0 s2 σ H2 ρ _ _ R2 h2 fun kds s3 H3 kvs h3 R3 st3 e3 r3 => ?_
    have := q ((key, d) :: kds) s3 H3 ((key, y) :: kvs) h3 R3 ((st1.trans st2).trans st3) (by rw [List.map_cons, List.map_cons, e3]) (.cons (r2.rs.stp st3) r3)
    exact this
def fDisp {A : Amb} (f : FPs A) : FO A := fun ρ s Φ => f ρ s fun kds s2 => ((kds.map (·.1)).Nodup ∧ kds.length ≤ 15) ∧ Φ (.dk (kds.map (·.1)) (kds.map (·.2))) s2
theorem so_disp (h : SdPs A trs f) : SdO A (tDisp trs) (fDisp f) := fun W s0 H0 s σ H ρ Φ Q R hp q p hpn => by
  have bD0 : ¬ A.B s p := fun z => A.dom R.amb z hpn
  have R1 := R.wide hpn (.dK [])
  have hp0 := R.fresh0 hpn
  refine h (W.add p) s0 H0 s σ _ ρ _ _ R1 hp fun kds s2 H2 kvs h2 R3 st e2 r2 => ?_
  obtain ⟨k1, k2⟩ := keep_at st (by rw [upd_same]; simp) bD0
  rw [upd_same] at k1
  have el : kvs.length = kds.length := by have := congrArg List.length e2; rwa [List.length_map, List.length_map] at this
  refine ⟨k1, kvs, rfl, by rw [el]; exact h2.1.2, ?_⟩
  have ek : mergeK [] kvs = kvs := mergeK_new (by rw [List.nil_append, e2]; exact h2.1.1)
  rw [ek]
  have R4 := R3.oth hp0 k2 (.dK kvs)
  refine q _ s2 p _ h2.2 R4 ?_ hpn ⟨kvs, upd_same, e2, ?_⟩ (fun z => R.wd p z hpn) k2
  · refine ⟨fun a o e n => ?_, fun a z => ?_, fun a e => ?_⟩
    · have np : a ≠ p := ne_of_none e hpn
      rw [upd_ne np]
      exact st.agr a o (by rw [upd_ne np]; exact e) n
    · rcases st.new a z with z | z
      · exact .inl z
      · by_cases ap : a = p
        · subst ap; rw [upd_same] at z; cases z
        · rw [upd_ne ap] at z; exact .inr z
    · by_cases ap : a = p
      · subst ap; rw [upd_same]; simp
      · rw [upd_ne ap]
        exact st.dom a (by rw [upd_ne ap]; exact e)
  · refine RsL.go (fun a z => .inl z) (fun a o e n => ?_) r2
    have ap : a ≠ p := fun z => by
      subst z
      exact n (.inl (.inr rfl))
    rw [upd_ne ap]
    exact e
end
structure QPs (X : Cx) (A : Amb) (pos : Pos) (ks : List (Option Expr)) (vs : List Expr) (trs : List (TE × TE)) (f : FPs A) : Prop where
  pp : PPs X pos ks vs trs
  sd : SdPs A trs f
section
variable {X : Cx} {A : Amb} {m sh : Bool} {k v a b : Expr} {ks : List (Option Expr)} {vs : List Expr} {trs : List (TE × TE)} {tk tv ta tb : TE} {fk fv fa fb : FE A} {f : FPs A} {pos : Pos}
theorem qps_nil : QPs X A pos [] [] [] fDn := ⟨pps_nil, sd_dn⟩
theorem qps_cons (hk : QE X A false true k tk fk) (hv : QE X A true false v tv fv) (h : QPs X A pos ks vs trs f) : QPs X A pos (some k :: ks) (v :: vs) ((tk, tv) :: trs) (fDc fk fv f) := ⟨pps_cons hk.pe hv.pe h.pp, sd_dc hk.sd hv.sd h.sd⟩
theorem qo_disp (h : QPs X A pos ks vs trs f) (hall : ks.all (·.isSome) = true := by rfl) (hl : ks.length = vs.length := by rfl) (h0 : ks ≠ [] := by simp) (h15 : ks.length ≤ 15 := by decide) : QO X A (.Dict ks vs pos) (tDisp trs) (fDisp f) := ⟨pe_disp h.pp hall hl h0 h15, so_disp h.sd⟩
/-! a dict's value at a key -/
def lookD (key : L2.Key) : List L2.Key → List D → Option D
  | k :: ks, d :: ds => if k = key then some d else lookD key ks ds
  | _, _ => none
structure GetP (ks : List L2.Key) (vs : List D) (key : L2.Key) (Φ : D → Prop) : Prop where
  go : ∃ d, lookD key ks vs = some d ∧ Φ d
def dGet (x y : D) (Φ : D → Prop) : Prop := match x with
  | .dct ks vs => keyD y fun key => GetP ks vs key Φ
  | _ => False
theorem look_rs {B : Ad} {H : Hp} {key : L2.Key} {d : D} : ∀ {kvs : List (L2.Key × V)} {vs : List D}, RsL B H vs (kvs.map (·.2)) → lookD key (kvs.map (·.1)) vs = some d → ∃ v, valV kvs key = some v ∧ Rs B H d v
  | [], _, .nil, h => by cases h
  | p :: kvs, _, .cons g r, h => by
    rw [List.map_cons, lookD] at h
    split at h
    · rename_i e
      cases h
      exact ⟨_, valV_pos e, g⟩
    · rename_i e
      obtain ⟨v, h1, h2⟩ := look_rs r h
      exact ⟨v, by rw [valV_neg e]; exact h1, h2⟩
theorem RV.dct {W : Ot} {s : A.S} {σ : Sg} {ρ : List Sl} {H : Hp} {ks : List L2.Key} {vs : List D} {v : V} (r : RV A W s σ ρ H m sh (.dct ks vs) v) : ∃ a kvs, v = .ref a ∧ H a = some (.dK kvs) ∧ kvs.map (·.1) = ks ∧ RsL (om m A W s σ ρ) H vs (kvs.map (·.2)) := by
  rcases r with r | r
  · cases r with
    | dct h n k r => exact ⟨_, _, rfl, h, k, r⟩
  · obtain ⟨_, l, a, xs, q, _⟩ := r
    cases q
theorem q_dget (hu : X.A.units + 64 < cLine) (ha : QE X A m true a ta fa) (hb : QE X A false true b tb fb) (hs : NoSl b := by exact fun _ _ => rfl) : QE X A m sh (.Subscript a b pos) (tDGet ta tb) (fBin dGet fa fb) :=
  ⟨pe_dget (by omega) ha.pe hb.pe hs, fun W s0 H0 s σ H ρ Φ Q R hp q => ha.sd W s0 H0 s σ H ρ _ _ R hp fun x s1 v H1 h1 R1 st1 r1 => hb.sd W s0 H0 s1 σ H1 ρ _ _ R1 h1 fun y s2 w H2 h2 R2 st2 r2 => by
    cases x with
    | dct ks vs =>
      have h2 : keyD y fun key => GetP ks vs key fun d => Φ d s2 := h2
      obtain ⟨key, rfl, h3⟩ := key_rv r2 h2
      obtain ⟨d, e, h4⟩ := h3.go
      obtain ⟨p, kvs, rfl, k1, rfl, k3⟩ := (r1.stp st2).dct
      obtain ⟨u, g1, g2⟩ := look_rs k3 e
      refine ⟨p, u, rfl, ?_, q d s2 u H2 h4 R2 (st1.trans st2) (.inl g2)⟩
      have := DGet.k (k := key) k1
      rw [g1] at this
      exact this
    | _ => exact h2.elim⟩
end

theorem eqv_self {d : D} {n : Nat} (h : d.lay n = true) : PyData.eqv d.py d.py = true := by
  obtain ⟨_, b, _⟩ := lay_all d n h
  exact PySem.SeqAt.eqv_refl _ b
end Pd

set_option maxHeartbeats 4000000
namespace Pd
open PySem PySem.Spec PyProof.Rows L2
def topS (i : Nat) : Stmt := PySem.Challenge.pw_marksought_k04_whole_greater_marks.main.body.getD i (.Pass ⟨0, 0, 0, 0⟩)
structure Tx (mg : Str → Option Value) : Prop where
  abs : mg "abs" = none
  all : mg "all" = none
  bool : mg "bool" = none
  int : mg "int" = none
  isinstance : mg "isinstance" = none
  len : mg "len" = none
  list : mg "list" = none
  max : mg "max" = none
  min : mg "min" = none
  range : mg "range" = none
  repr : mg "repr" = none
  reversed : mg "reversed" = none
  sorted : mg "sorted" = none
  str : mg "str" = none
  tuple : mg "tuple" = none
  zip : mg "zip" = none
section
variable {P : Program} {w : World} {K : Fg} {mg : Str → Option Value} {base : Heap}
local macro_rules | `(tactic| walk_at "pa") => `(tactic| first | with_reducible rfl | assumption | omega | decide | (with_reducible refine wide_mul (a := 40) (b := 40) ?_ ?_ ?_ ?_ ?_ <;> first | omega | decide) | rfl | (simp only [List.length_map, List.length_cons, List.length_nil, List.length_append, List.length_reverse, rangeD_len, enumD_len, List.length_set, List.length_replicate] <;> omega) | (simp; done))
local macro_rules | `(tactic| walk_at "pn") => `(tactic| (try dsimp only [List.set_cons_zero, List.set_cons_succ, setS]))
local macro_rules | `(tactic| walk_at "p1") => `(tactic| first
  | (intro _; walk_at "pn")
  | (refine draw_go (by walk_at "pa") (by walk_at "pa") ?_; walk_at "pn")
  | (refine pick_on ?_; walk_at "pn")
  | (refine pick_ints rfl (by simp) (by simp) ?_; simp only [intsOf, List.mem_cons, List.not_mem_nil, or_false]; walk_at "pn")
  | (refine br_dt (by walk_at "pa") ?_; walk_at "pn")
  | (refine br_df (by walk_at "pa") ?_; walk_at "pn")
  | (refine br_ndt (by walk_at "pa") ?_; walk_at "pn")
  | (refine br_ndf (by walk_at "pa") ?_; walk_at "pn")
  | (refine br_t rfl ?_; walk_at "pn")
  | (refine br_f rfl ?_; walk_at "pn")
  | (refine br_b ?_ ?_ <;> intro _ <;> walk_at "pn")
  | (refine br_n ?_ ?_ <;> intro _ <;> walk_at "pn")
  | (refine And.intro (by walk_at "pa") ?_; walk_at "pn"))
local macro_rules | `(tactic| walk_at "pd") => `(tactic| repeat' (walk_at "p1"))
local macro_rules | `(tactic| walk_at "ps") => `(tactic| (refine Sp.mk ?_; (repeat apply Exists.intro); (repeat (first | apply And.intro rfl | apply And.intro (by walk_at "pa"))); walk_at "pn"))
abbrev oD : Option Int → D
  | none => .non
  | some r => .int r
abbrev stD : Option Bool → D
  | none => .non
  | some true => .str "on"
  | some false => .str "off"
abbrev Row := Int × Option Bool
abbrev rowD (p : Row) : D := .tup [.int p.1, stD p.2]
abbrev logD (st : Bool) (rows : List Row) : D := .tup [stD (some st), .tup (rows.map rowD)]
/-- the least low, reading by reading -/
def lstep (high : Int) (o : Option Int) (r : Int) : Option Int := if high ≤ r then none else some (match o with | none => r | some m => min m r)
def least0 (st : Bool) : Option Int := if st = true then some 0 else none
def leastAt (st : Bool) (high : Int) (rows : List Row) (k : Nat) : Option Int := ((rows.take k).map (·.1)).foldl (lstep high) (least0 st)
structure RG (a b c d : Int) : Prop where
  h0 : 0 ≤ a
  h1 : a ≤ b
  h2 : b < c
  h3 : c ≤ d
  h4 : d ≤ 1000000
abbrev rgD (a b c d : Int) : D := .tup [.int a, .int b, .int c, .int d]
/-- the least and the greatest low, row by row -/
def bstep (o : Option Bool) (l : Option Int) (p : Int × Int) : Option (Int × Int) := match o, l with
  | some true, none => none
  | some true, some m => some (max p.1 m, p.2)
  | some false, some m => some (p.1, min p.2 (m - 1))
  | _, _ => some p
def bnd (st : Bool) (high : Int) (rows : List Row) (a b : Int) : Nat → Option (Int × Int)
  | 0 => some (a, b)
  | i + 1 => match rows[i]? with
    | none => none
    | some r => (bnd st high rows a b i).bind (bstep r.2 (leastAt st high rows (i + 1)))
def fit (st : Bool) (high : Int) (rows : List Row) (a b : Int) : Option (Int × Int) := match bnd st high rows a b rows.length with
  | none => none
  | some p => if p.1 ≤ p.2 then some p else none
abbrev fitD : Option (Int × Int) → D
  | none => .non
  | some p => .tup [.int p.1, .int p.2]
abbrev lowsD (st : Bool) (high : Int) (rows : List Row) (n : Nat) : List D := (List.range n).map fun j => oD (leastAt st high rows (j + 1))
/-! the highs at which something may change, stretches, stairs -/
def insU (k : Int) : List Int → List Int
  | [] => [k]
  | x :: r => if k < x then k :: x :: r else if k = x then x :: r else x :: insU k r
def starts (rows : List Row) (a b : Int) : List Int := rows.foldl (fun l p => if a < p.1 + 1 ∧ p.1 + 1 ≤ b then insU (p.1 + 1) l else l) [a]
def strP : List Int → Int → List (Int × Int)
  | [], _ => []
  | [x], b => [(x, b)]
  | x :: y :: r, b => (x, y - 1) :: strP (y :: r) b
abbrev prD (p : Int × Int) : D := .tup [.int p.1, .int p.2]
abbrev Stair := Int × Int × Int × Int
abbrev srD (t : Stair) : D := .tup [.int t.1, .int t.2.1, .int t.2.2.1, .int t.2.2.2]
/-- one more stretch -/
def stair1 (acc : List Stair) (f l : Int) : Option (Int × Int) → List Stair
  | none => acc
  | some p => match acc.getLast? with
    | some t => if t.2.1 = f - 1 ∧ (t.2.2.1, t.2.2.2) = p then acc.dropLast ++ [(t.1, l, p.1, p.2)] else acc ++ [(f, l, p.1, p.2)]
    | none => acc ++ [(f, l, p.1, p.2)]
def stairsL (st : Bool) (rows : List Row) (a b : Int) (l : List (Int × Int)) : List Stair := l.foldl (fun acc p => stair1 acc p.1 p.2 (fit st p.1 rows a b)) []
def stairs (st : Bool) (rows : List Row) (a b c d : Int) : List Stair := stairsL st rows a b (strP (starts rows c d) d)
/-! how many -/
def cntL : List Stair → Int
  | [] => 0
  | t :: l => (t.2.1 - t.1 + 1) * (t.2.2.2 - t.2.2.1 + 1) + cntL l
def cnt (st : Bool) (rows : List Row) (a b c d : Int) : Int := cntL (stairs st rows a b c d)
/-! the walk of the states; certificates -/
abbrev mkD (a b : Int) : D := .tup [.int a, .int b]
def step (a b : Int) (s : Bool) (r : Int) : Bool := if r ≤ a then true else if b ≤ r then false else s
def stAt (a b : Int) (s : Bool) (rs : List Int) (k : Nat) : Bool := (rs.take k).foldl (step a b) s
abbrev wsD (a b : Int) (s : Bool) (rs : List Int) (n : Nat) : List D := (List.range n).map fun j => stD (stAt a b s rs (j + 1))
def okOf (o : Option Bool) (b : Bool) : Bool := match o with
  | none => true
  | some x => x == b
def okAt (a b : Int) (st : Bool) (rows : List Row) (j : Nat) : Bool := match rows[j]? with
  | some r => okOf r.2 (stAt a b st (rows.map (·.1)) (j + 1))
  | none => true
def fitB (a b : Int) (st : Bool) (rows : List Row) : Bool := (List.range rows.length).all (okAt a b st rows)
/-- the row seen on with the greatest least low: found, most; stopped at a row that is off for each low -/
inductive GO where
  | stop (i : Nat)
  | go (f : Option Nat) (m : Int)
def goStep (i : Nat) (o : Option Bool) (l : Option Int) (f : Option Nat) (m : Int) : GO := match o, l with
  | some true, none => .stop i
  | some true, some x => if m < x then .go (some i) x else .go f m
  | _, _ => .go f m
def goAt (st : Bool) (high : Int) (rows : List Row) (a : Int) : Nat → GO
  | 0 => .go none a
  | i + 1 => match goAt st high rows a i with
    | .stop j => .stop j
    | .go f m => match rows[i]? with
      | none => .go f m
      | some r => goStep i r.2 (leastAt st high rows (i + 1)) f m
def gOn (st : Bool) (high : Int) (rows : List Row) (a : Int) : Option Nat := match goAt st high rows a rows.length with
  | .stop j => some j
  | .go f _ => f
def offStep (i : Nat) (o : Option Bool) (l : Option Int) (p : Option Nat × Int) : Option Nat × Int := match o, l with
  | some false, some x => if x < p.2 then (some i, x) else p
  | _, _ => p
def offAt (st : Bool) (high : Int) (rows : List Row) (b : Int) : Nat → Option Nat × Int
  | 0 => (none, b + 1)
  | i + 1 => match rows[i]? with
    | none => offAt st high rows b i
    | some r => offStep i r.2 (leastAt st high rows (i + 1)) (offAt st high rows b i)
def lOff (st : Bool) (high : Int) (rows : List Row) (b : Int) : Option Nat := (offAt st high rows b rows.length).1
abbrev ixD : Option Nat → D
  | none => .non
  | some i => .int (i : Nat)
abbrev itemD (st : Bool) (rows : List Row) (a b : Int) (p : Int × Int) : D := .tup [.int p.1, .int p.2, ixD (gOn st p.1 rows a), ixD (lOff st p.1 rows b)]
def certD (st : Bool) (rows : List Row) (a b c d : Int) : D := match (stairs st rows a b c d).head? with
  | some t => .tup [.str "marks", .tup [.int t.2.2.1, .int t.1]]
  | none => .tup [.str "clash", .tup ((strP (starts rows c d) d).map (itemD st rows a b))]
/-! heaters: states, fits (wants specs2) -/
abbrev mpD (p : Int × Int) : D := mkD p.1 p.2
def sp_state_behind : Pg (BA K) := fun ds s Ψ => ∃ a b st r, ds = [mkD a b, stD (some st), .int r] ∧ Ψ (.d (stD (some (step a b st r)))) s
def sp_states_of : Pg (BA K) := fun ds s Ψ => ∃ a b st rs l, ds = [mkD a b, stD (some st), l] ∧ (l = .lst (List.map D.int rs) ∨ l = .tup (List.map D.int rs)) ∧ rs.length ≤ 2000 ∧ Ψ (.d (.tup (wsD a b st rs rs.length))) s
def sp_fits : Pg (BA K) := fun ds s Ψ => ∃ a b st rows, ds = [mkD a b, logD st rows] ∧ rows.length ≤ 1000 ∧ Ψ (.d (.bl (fitB a b st rows))) s
def sp__law_walk : Pg (BA K) := fun ds s Ψ => ∃ a b st rs, ds = [mkD a b, stD (some st), .lst (List.map D.int rs)] ∧ rs.length ≤ 2000 ∧ a < b ∧ Ψ (.d (.lst (wsD a b st rs rs.length))) s
abbrev SmI (rs : List Int) : Prop := ∀ r ∈ rs, 0 ≤ r ∧ r ≤ 1000000
structure Chn (c : List (Int × Int)) : Prop where
  len : c.length = 6
  ok : ∀ p ∈ c, 0 ≤ p.1 ∧ p.1 < p.2 ∧ p.2 ≤ 1000000
  up : ∀ (i j : Nat) (p q : Int × Int), i ≤ j → c[i]? = some p → c[j]? = some q → p.1 ≤ q.1 ∧ p.2 ≤ q.2
structure Rdg (c : List (Int × Int)) (rs : List Int) : Prop where
  len : rs.length ≤ 40
  sm : SmI rs
  on : ∀ (k : Nat) (p q : Int × Int), c[k]? = some p → c[k + 1]? = some q → ∃ i, rs[i]? = some q.2 ∧ rs[i + 1]? = some q.1
  off : ∀ (k : Nat) (p q : Int × Int), c[k]? = some p → c[k + 1]? = some q → ∃ i, rs[i]? = some p.1 ∧ rs[i + 1]? = some p.2
abbrev wlD (st : Bool) (rs : List Int) (p : Int × Int) : D := .lst (wsD p.1 p.2 st rs rs.length)
abbrev ownD (c : List (Int × Int)) (rs : List Int) : D := .dct [.inr "on", .inr "off"] [.lst (c.map (wlD true rs)), .lst (c.map (wlD false rs))]
abbrev chD (c : List (Int × Int)) : D := .lst (List.map mpD c)
abbrev fitsL (c : List (Int × Int)) (st : Bool) (rows : List Row) : List D := c.map fun p => .bl (fitB p.1 p.2 st rows)
def sp__law_chain : Pg (BA K) := fun ds s Ψ => ∃ b l, ds = [.any (.ref b)] ∧ s = .bag b l ∧ ∀ c, Chn c → Ψ (.d (chD c)) s
def sp__law_own_reading : Pg (BA K) := fun ds s Ψ => ∃ b l c, ds = [.any (.ref b), chD c] ∧ s = .bag b l ∧ Chn c ∧ ∀ r : Int, 0 ≤ r → r ≤ 1000000 → Ψ (.d (.int r)) s
def sp__law_own_readings : Pg (BA K) := fun ds s Ψ => ∃ b l c, ds = [.any (.ref b), chD c] ∧ s = .bag b l ∧ Chn c ∧ ∀ rs, Rdg c rs → Ψ (.d (.lst (rs.map D.int))) s
def sp__law_is_more : Pg (BA K) := fun ds s Ψ => ∃ l m : List Bool, ds = [.tup (List.map (fun x => stD (some x)) l), .tup (List.map (fun x => stD (some x)) m)] ∧ l.length ≤ 1000 ∧ m.length ≤ 1000 ∧ (∀ (i : Nat) (y : Bool), l[i]? = some true → m[i]? = some y → y = true) ∧ Ψ (.d (.bl true)) s
def sp__law_are_states_right : Pg (BA K) := fun ds s Ψ => ∃ c rs, ds = [chD c, .lst (List.map D.int rs), ownD c rs] ∧ Chn c ∧ Rdg c rs ∧ Ψ (.d (.bl true)) s
def sp__law_seen : Pg (BA K) := fun ds s Ψ => ∃ b l rs a d st w share, ds = [.any (.ref b), .lst (List.map D.int rs), .lst (wsD a d st rs rs.length), stD (some w), .int share] ∧ s = .bag b l ∧ rs.length ≤ 40 ∧ ∀ rows : List Row, rows.map (·.1) = rs → (∀ r ∈ rows, r.2 = none ∨ r.2 = some w) → Ψ (.d (.lst (rows.map rowD))) s
def sp__law_both : Pg (BA K) := fun ds s Ψ => ∃ r1 r2 : List Row, ds = [.lst (List.map rowD r1), .lst (List.map rowD r2)] ∧ r1.length ≤ 40 ∧ r1.map (·.1) = r2.map (·.1) ∧ ∀ rows : List Row, rows.map (·.1) = r1.map (·.1) → Ψ (.d (.lst (rows.map rowD))) s
def sp__law_fit : Pg (BA K) := fun ds s Ψ => ∃ c rs st rows, ds = [stD (some st), .lst (List.map rowD rows), ownD c rs] ∧ Chn c ∧ rs.length ≤ 40 ∧ rows.map (·.1) = rs ∧ Ψ (.d (.lst (fitsL c st rows))) s
def sp__law_are_fits_right : Pg (BA K) := fun ds s Ψ => ∃ c rs st rows kind, ds = [chD c, stD (some st), .lst (List.map rowD rows), ownD c rs, .str kind] ∧ Chn c ∧ rs.length ≤ 40 ∧ SmI rs ∧ rows.map (·.1) = rs ∧ ((kind = "on" ∧ ∀ r ∈ rows, r.2 = none ∨ r.2 = some true) ∨ (kind = "off" ∧ ∀ r ∈ rows, r.2 = none ∨ r.2 = some false) ∨ kind = "both") ∧ Ψ (.d (.bl true)) s
def sp__law_are_neighbours_told : Pg (BA K) := fun ds s Ψ => ∃ c rs st, ds = [chD c, stD (some st), .lst (List.map D.int rs), ownD c rs] ∧ Chn c ∧ Rdg c rs ∧ Ψ (.d (.bl true)) s
abbrev st_state_behind : Stmt := topS 1
theorem sc_state_behind : FnScope ["marks", "state", "reading"] ["marks", "state", "reading"] (defScope st_state_behind) := ⟨rfl, rfl, rfl, by decide +kernel, rfl, by decide +kernel, by decide +kernel⟩
def ff_state_behind : FS (BA K) :=
  (fSeq (fIfS (fTest (fBin (dI0 fun i j => .bl (decide (i ≤ j))) (fV 2) (fBin (dIxN 0) (fV 0) (fC (.int 0))))) (fRet (fC (.str "on"))) fNext)
  (fRet (fIf (fTest (fBin (dI0 fun i j => .bl (decide (j ≤ i))) (fV 2) (fBin (dIxN 1) (fV 0) (fC (.int 1))))) (fC (.str "off")) (fV 1))))
theorem ok_state_behind (T : Tx mg) (F : Dfn K mg "state_behind" st_state_behind ["marks", "state", "reading"])
    (hp : ∀ (ds : List D) (s : (BA K).S) (Ψ : Ret → (BA K).S → Prop), ds.length = 3 → sp_state_behind ds s Ψ → ff_state_behind { nx := fun _ s => Ψ (.d .non) s, rt := Ψ } (startR ["marks", "state", "reading"] ds) s) : Cal P w K mg base (BA K) 1 "state_behind" 3 sp_state_behind :=
  have sc := sc_state_behind
  cal_of F sc_state_behind rfl (by decide) (ff := ff_state_behind) (fun f cdv Ar out s H E hg hr => ⟨_,
  (zs_cons (z_if (qt_cmp (co_le) (q_v 2) (q_ixn (k := 0) (q_v 0))) (zs_one (z_ret q_str)) zs_nil)
  (zs_one (z_ret (q_if (qt_cmp (co_ge) (q_v 2) (q_ixn (k := 1) (q_v 0))) q_str (q_v 1)))))⟩) hp
abbrev st_states_of : Stmt := topS 2
theorem sc_states_of : FnScope ["marks", "state", "readings", "found", "reading"] ["marks", "state", "readings"] (defScope st_states_of) := ⟨rfl, rfl, rfl, by decide +kernel, rfl, by decide +kernel, by decide +kernel⟩
def ff_states_of : FS (BA K) :=
  (fSeq (fSetO 3 (fLstO fNil))
  (fSeq (fFor (fIt (fV 2)) (hName 4)
   (fSeq (fSet 1 (fCall sp_state_behind (fCons (fV 0) (fCons (fV 1) (fCons (fV 4) fNil)))))
  (fSeq (fApp 3 (fV 1))
  (fDrop 4 fNext))))
  (fFrz 3 (fRet (fCB dTuple (fCons (fV 3) fNil))))))
theorem ok_states_of (T : Tx mg) (F : Dfn K mg "states_of" st_states_of ["marks", "state", "readings"]) (c_state_behind : Cal P w K mg base (BA K) 1 "state_behind" 3 sp_state_behind)
    (hp : ∀ (ds : List D) (s : (BA K).S) (Ψ : Ret → (BA K).S → Prop), ds.length = 3 → sp_states_of ds s Ψ → ff_states_of { nx := fun _ s => Ψ (.d .non) s, rt := Ψ } (startR ["marks", "state", "readings", "found", "reading"] ds) s) : Cal P w K mg base (BA K) 2 "states_of" 3 sp_states_of :=
  have sc := sc_states_of
  cal_of F sc_states_of rfl (by decide) (ff := ff_states_of) (fun f cdv Ar out s H E hg hr => ⟨_,
  (zs_cons (z_setO 3 sc.nd (qo_lst ql_nil))
  (zs_cons (z_for PassesOwn.never rfl (qi_seq (q_v 2)) (qg_name 4 sc.nd)
   (zs_cons (z_set 1 sc.nd (q_call c_state_behind hg (hr.mono (by decide)) (ql_cons (q_v 0) (ql_cons (q_v 1) (ql_cons (q_v 4) ql_nil)))))
  (zs_cons (z_app 3 (q_v 1))
  (zs_drop 4 zs_nil))))
  (zs_frz 3 (zs_one (z_ret (q_nt nb_tuple T.tuple (ql_cons (q_v 3) ql_nil)))))))⟩) hp
abbrev st_fits : Stmt := topS 3
theorem sc_fits : FnScope ["marks", "log", "states", "reading", "seen", "state"] ["marks", "log"] (defScope st_fits) := ⟨rfl, rfl, rfl, by decide +kernel, rfl, by decide +kernel, by decide +kernel⟩
def ff_fits : FS (BA K) :=
  (fSeq (fSet 2 (fCall sp_states_of (fCons (fV 0) (fCons (fBin (dIxN 0) (fV 1) (fC (.int 0))) (fCons (fOV (fLc (fIt (fBin (dIxN 1) (fV 1) (fC (.int 1)))) [3, 4] (hTup 2 (hCons (hName 3) (hCons (hName 4) hNil))) (fun _ s Φ => Φ true s) (fV 3))) fNil)))))
  (fRet (fCB dAll (fCons (fOV (fLc (fZip (fBin (dIxN 1) (fV 1) (fC (.int 1))) (fV 2)) [5, 3, 4] (hTup 2 (hCons (hTup 2 (hCons (hName 3) (hCons (hName 4) hNil))) (hCons (hName 5) hNil))) (fun _ s Φ => Φ true s) (fOrV (fBin dIsN (fV 4) (fC .non)) (fBin dEq (fV 4) (fV 5))))) fNil))))
theorem ok_fits (T : Tx mg) (F : Dfn K mg "fits" st_fits ["marks", "log"]) (c_states_of : Cal P w K mg base (BA K) 2 "states_of" 3 sp_states_of)
    (hp : ∀ (ds : List D) (s : (BA K).S) (Ψ : Ret → (BA K).S → Prop), ds.length = 2 → sp_fits ds s Ψ → ff_fits { nx := fun _ s => Ψ (.d .non) s, rt := Ψ } (startR ["marks", "log", "states", "reading", "seen", "state"] ds) s) : Cal P w K mg base (BA K) 3 "fits" 2 sp_fits :=
  have sc := sc_fits
  cal_of F sc_fits rfl (by decide) (ff := ff_fits) (fun f cdv Ar out s H E hg hr => ⟨_,
  (zs_cons (z_set 2 sc.nd (q_call c_states_of hg (hr.mono (by decide)) (ql_cons (q_v 0) (ql_cons (q_ixn (k := 0) (q_v 1)) (ql_cons (q_ov (qo_lc [("reading", 3), ("seen", 4)] rfl sc.nd (qi_seq (q_ixn (k := 1) (q_v 1))) (blkOk_by (by rfl)) (fun _ _ _ _ _ => (qg_tup rfl (qgs_cons (qg_name 3 sc.nd) (qgs_cons (qg_name 4 sc.nd) qgs_nil)))) (fun _ _ _ _ _ => qts_nil) (fun _ _ _ _ _ => (q_v 3)))) ql_nil)))))
  (zs_one (z_ret (q_nb (nb_all rfl) T.all (ql_cons (q_ov (qo_lc [("state", 5), ("reading", 3), ("seen", 4)] rfl sc.nd (qi_zip T.zip (q_ixn (k := 1) (q_v 1)) (q_v 2)) (blkOk_by (by rfl)) (fun _ _ _ _ _ => (qg_tup rfl (qgs_cons (qg_tup rfl (qgs_cons (qg_name 3 sc.nd) (qgs_cons (qg_name 4 sc.nd) qgs_nil))) (qgs_cons (qg_name 5 sc.nd) qgs_nil)))) (fun _ _ _ _ _ => qts_nil) (fun _ _ _ _ _ => (q_or (q_cmp (co_is) (q_v 4) q_non) (q_one (q_cmp (co_eq hr.units) (q_v 4) (q_v 5))))))) ql_nil)))))⟩) hp
abbrev st__law_own_bag : Stmt := topS 5
theorem sc__law_own_bag : FnScope ["script", "cells", "mixed", "cell"] ["script"] (defScope st__law_own_bag) := ⟨rfl, rfl, rfl, by decide +kernel, rfl, by decide +kernel, by decide +kernel⟩
def ff__law_own_bag : FS (BA K) :=
  (fSeq (fSet 1 (fOV (fLc (fIt (fScr 0 (fPs (fC (.int 63))))) [3] (hName 3) (fun _ s Φ => Φ true s) (fCB dAbs (fCons (fV 3) fNil)))))
  (fSeq (fSet 2 (fBin dAdd (fC (.int 2468)) (fCB dLen (fCons (fV 1) fNil))))
  (fSeq (fFor (fIt (fV 1)) (hName 3)
   (fSeq (fSet 2 (fBin (dI (fun _ j => 0 < j) fun i j => .int (i % j)) (fCB dInt (fCons (fBin dAdd (fBin dAdd (fBin dMul (fV 2) (fC (.int 48271))) (fBin (dI (fun _ j => 0 < j) fun i j => .int (i % j)) (fCB dInt (fCons (fV 3) fNil)) (fC (.int 2147483629)))) (fC (.int 7))) fNil)) (fC (.int 2147483647))))
  (fDrop 3 fNext)))
  (fRetBag (fXo (fRevO (fCB dList (fCons (fV 1) fNil))) (fXv (fC (.int 0)) (fXv (fV 2) fXn)))))))
theorem ok__law_own_bag (T : Tx mg) (F : Dfn K mg "_law_own_bag" st__law_own_bag ["script"])
    (hp : ∀ (ds : List D) (s : (BA K).S) (Ψ : Ret → (BA K).S → Prop), ds.length = 1 → sp_bag ds s Ψ → ff__law_own_bag { nx := fun _ s => Ψ (.d .non) s, rt := Ψ } (startR ["script", "cells", "mixed", "cell"] ds) s) : Cal P w K mg base (BA K) 1 "_law_own_bag" 1 sp_bag :=
  have sc := sc__law_own_bag
  cal_of F sc__law_own_bag rfl (by decide) (ff := ff__law_own_bag) (fun f cdv Ar out s H E hg hr => ⟨_,
  (zs_cons (z_setLc 1 sc.nd [("cell", 3)] rfl sc.nd (qi_seq (q_scr 0 (qp_s q_int))) (blkOk_by (by rfl)) (fun _ _ _ _ _ => (qg_name 3 sc.nd)) (fun _ _ _ _ _ => qts_nil) (fun _ _ _ _ _ => (q_nb (nb_abs) T.abs (ql_cons (q_v 3) ql_nil))))
  (zs_cons (z_set 2 sc.nd (q_bin bo_add q_int (q_nb (nb_len) T.len (ql_cons (q_v 1) ql_nil))))
  (zs_cons (z_for PassesOwn.never rfl (qi_seq (q_v 1)) (qg_name 3 sc.nd)
   (zs_cons (z_set 2 sc.nd (q_bin bo_mod (q_nt nb_int T.int (ql_cons (q_bin bo_add (q_bin bo_add (q_bin bo_mul (q_v 2) q_int) (q_bin bo_mod (q_nt nb_int T.int (ql_cons (q_v 3) ql_nil)) q_int)) q_int) ql_nil)) q_int))
  (zs_drop 3 zs_nil)))
  (zs_one (z_retBag (qx_o (qo_lrev rfl T.list T.reversed (q_nt nb_list T.list (ql_cons (q_v 1) ql_nil))) (qx_v q_int (qx_v (q_v 2) qx_nil))))))))⟩) hp
abbrev st__law_draw : Stmt := topS 6
theorem sc__law_draw : FnScope ["bag", "below", "cell", "found"] ["bag", "below"] (defScope st__law_draw) := ⟨rfl, rfl, rfl, by decide +kernel, rfl, by decide +kernel, by decide +kernel⟩
theorem ok__law_draw (T : Tx mg) (F : Dfn K mg "_law_draw" st__law_draw ["bag", "below"]) : Cal P w K mg base (BA K) 1 "_law_draw" 2 sp_draw :=
  have sc := sc__law_draw
  cal_of F sc rfl (by decide) (ff := fDraw) (fun f cdv Ar out s H E hg hr => ⟨tDraw K, ⟨pss_cons (ps_while PassesOwn.never (pw_and (pt_cmpR op_eq (pe_ix ix_seq (pv 0) pe_int fun _ _ => rfl) pe_int (by first | exact nomark _ | rfl)) (pw_and1 (pt_cmpR (op_neD hr.units) (pe_ix ix_seq (pv 0) pe_int fun _ _ => rfl) (pe_lst pa_nil) (by first | exact nomark _ | rfl)))).pt
    (pss_cons (ps_set sc.nd rfl (.inl rfl) (pe_bm0 PySem.F.plainAttrs_list PySem.F.slot_list_pop PySem.F.type_list_pop mt_pop (pe_ix ix_seq (pv 0) pe_int fun _ _ => rfl)))
    (pss_one (ps_asg (pe_ifExp (pt_cmpR op_gt (pv 2) (pe_op op_pow pe_int pe_int) (by first | exact nomark _ | rfl)) (pv 2) pe_int) (pg_sub (pv 0) pe_int set_list (by intro _; rfl))))))
    (pss_cons (ps_if (pt_cmpR op_gt (pe_ix ix_seq (pv 0) pe_int fun _ _ => rfl) pe_int (by first | exact nomark _ | rfl))
      (pss_cons (ps_set sc.nd rfl (.inl rfl) (pe_op op_mod (pe_callTy call_int1 rfl T.int bt_int (pa_cons (pe_ix ix_seq (pv 0) pe_int fun _ _ => rfl) pa_nil rfl)) (pv 1)))
      (pss_cons (ps_asg (pe_op op_fdivW (pe_ix ix_seq (pv 0) pe_int fun _ _ => rfl) (pv 1)) (pg_sub (pv 0) pe_int set_list (by intro _; rfl))) (pss_one (ps_ret (pv 3))))) pss_nil)
    (pss_cons (ps_asg (pe_op op_mod (pe_callTy call_int1 rfl T.int bt_int (pa_cons (pe_op op_addA (pe_op op_mulA (pe_ix ix_seq (pv 0) pe_int fun _ _ => rfl) pe_int) pe_int) pa_nil rfl)) pe_int) (pg_sub (pv 0) pe_int set_list (by intro _; rfl)))
    (pss_one (ps_ret (pe_op op_mod (pe_callTy call_int1 rfl T.int bt_int (pa_cons (pe_op op_fdivW (pe_op op_mod (pe_callTy call_int1 rfl T.int bt_int (pa_cons (pe_op op_mulA (pe_ix ix_seq (pv 0) pe_int fun _ _ => rfl) (pe_ix ix_seq (pv 0) pe_int fun _ _ => rfl)) pa_nil rfl)) pe_int) pe_int) pa_nil rfl)) (pv 1)))))), sd_draw⟩⟩) draw_pure
abbrev st__law_pick : Stmt := topS 7
theorem sc__law_pick : FnScope ["bag", "some"] ["bag", "some"] (defScope st__law_pick) := ⟨rfl, rfl, rfl, by decide +kernel, rfl, by decide +kernel, by decide +kernel⟩
def ff__law_pick : FS (BA K) :=
  (fRet (fBin dIx (fV 1) (fCall sp_draw (fCons (fV 0) (fCons (fCB dLen (fCons (fV 1) fNil)) fNil)))))
theorem ok__law_pick (T : Tx mg) (F : Dfn K mg "_law_pick" st__law_pick ["bag", "some"]) (c__law_draw : Cal P w K mg base (BA K) 1 "_law_draw" 2 sp_draw)
    (hp : ∀ (ds : List D) (s : (BA K).S) (Ψ : Ret → (BA K).S → Prop), ds.length = 2 → sp_pick ds s Ψ → ff__law_pick { nx := fun _ s => Ψ (.d .non) s, rt := Ψ } (startR ["bag", "some"] ds) s) : Cal P w K mg base (BA K) 2 "_law_pick" 2 sp_pick :=
  have sc := sc__law_pick
  cal_of F sc__law_pick rfl (by decide) (ff := ff__law_pick) (fun f cdv Ar out s H E hg hr => ⟨_,
  (zs_one (z_ret (q_ix (q_v 1) (q_call c__law_draw hg (hr.mono (by decide)) (ql_cons (q_v 0) (ql_cons (q_nb (nb_len) T.len (ql_cons (q_v 1) ql_nil)) ql_nil))))))⟩) hp
abbrev st__law_walk : Stmt := topS 8
theorem sc__law_walk : FnScope ["marks", "state", "readings", "x", "found", "present"] ["marks", "state", "readings"] (defScope st__law_walk) := ⟨rfl, rfl, rfl, by decide +kernel, rfl, by decide +kernel, by decide +kernel⟩
def ff__law_walk : FS (BA K) :=
  (fSeq (fPar [4, 5] (fXo (fLstO fNil) (fXv (fV 1) fXn)))
  (fSeq (fFor (fIt (fV 2)) (hName 3)
   (fSeq (fIfS (fTest (fBin (dI0 fun i j => .bl (decide (i ≤ j))) (fV 3) (fBin (dIxN 0) (fV 0) (fC (.int 0))))) (fSet 5 (fC (.str "on"))) fNext)
  (fSeq (fIfS (fTest (fBin (dI0 fun i j => .bl (decide (j ≤ i))) (fV 3) (fBin (dIxN 1) (fV 0) (fC (.int 1))))) (fSet 5 (fC (.str "off"))) fNext)
  (fSeq (fApp 4 (fV 5))
  (fDrop 3 fNext)))))
  (fFrz 4 (fRet (fV 4)))))
theorem ok__law_walk (T : Tx mg) (F : Dfn K mg "_law_walk" st__law_walk ["marks", "state", "readings"])
    (hp : ∀ (ds : List D) (s : (BA K).S) (Ψ : Ret → (BA K).S → Prop), ds.length = 3 → sp__law_walk ds s Ψ → ff__law_walk { nx := fun _ s => Ψ (.d .non) s, rt := Ψ } (startR ["marks", "state", "readings", "x", "found", "present"] ds) s) : Cal P w K mg base (BA K) 1 "_law_walk" 3 sp__law_walk :=
  have sc := sc__law_walk
  cal_of F sc__law_walk rfl (by decide) (ff := ff__law_walk) (fun f cdv Ar out s H E hg hr => ⟨_,
  (zs_cons (z_par 4 5 sc.nd rfl (qx_o (qo_lst ql_nil) (qx_v (q_v 1) qx_nil)))
  (zs_cons (z_for PassesOwn.never rfl (qi_seq (q_v 2)) (qg_name 3 sc.nd)
   (zs_cons (z_if (qt_cmp (co_le) (q_v 3) (q_ixn (k := 0) (q_v 0))) (zs_one (z_set 5 sc.nd q_str)) zs_nil)
  (zs_cons (z_if (qt_cmp (co_ge) (q_v 3) (q_ixn (k := 1) (q_v 0))) (zs_one (z_set 5 sc.nd q_str)) zs_nil)
  (zs_cons (z_app 4 (q_v 5))
  (zs_drop 3 zs_nil)))))
  (zs_frz 4 (zs_one (z_ret (q_v 4))))))⟩) hp
abbrev st__law_chain : Stmt := topS 9
theorem sc__law_chain : FnScope ["bag", "way", "wide", "base", "room", "lows", "highs", "k"] ["bag"] (defScope st__law_chain) := ⟨rfl, rfl, rfl, by decide +kernel, rfl, by decide +kernel, by decide +kernel⟩
def ff__law_chain : FS (BA K) :=
  (fSeq (fSet 1 (fCall sp_draw (fCons (fV 0) (fCons (fC (.int 6)) fNil))))
  (fSeq (fSet 2 (fBin dIx (fLst (fCons (fC (.int 7)) (fCons (fC (.int 7)) (fCons (fC (.int 61)) (fCons (fC (.int 61)) (fCons (fC (.int 1000000)) (fCons (fC (.int 4)) fNil))))))) (fV 1)))
  (fSeq (fSet 3 (fIf (fTest (fBin (dI0 fun i j => .bl (decide (i < j))) (fV 1) (fC (.int 4)))) (fCall sp_pick (fCons (fV 0) (fCons (fLst (fCons (fC (.int 0)) (fCons (fBin (dI0 fun i j => .int (i - j)) (fC (.int 1000000)) (fBin dMul (fC (.int 2)) (fV 2))) (fCons (fCall sp_draw (fCons (fV 0) (fCons (fBin dAdd (fBin (dI0 fun i j => .int (i - j)) (fC (.int 1000000)) (fBin dMul (fC (.int 2)) (fV 2))) (fC (.int 1))) fNil))) fNil)))) fNil))) (fC (.int 0))))
  (fSeq (fSet 4 (fIf (fTest (fBin dNe (fV 1) (fC (.int 5)))) (fV 2) (fC (.int 1000000))))
  (fSeq (fSet 5 (fCB dSorted (fCons (fOV (fLc (fRg1 (fCons (fC (.int 6)) fNil)) [7] (hName 7) (fun _ s Φ => Φ true s) (fBin dAdd (fV 3) (fCall sp_draw (fCons (fV 0) (fCons (fV 4) fNil)))))) fNil)))
  (fSeq (fIfS (fAndT (fTest (fBin dEq (fCall sp_draw (fCons (fV 0) (fCons (fC (.int 2)) fNil))) (fC (.int 0)))) (fTest (fBin (dI0 fun i j => .bl (decide (i < j))) (fV 1) (fC (.int 4))))) (fSet 3 (fBin dAdd (fV 3) (fV 2))) fNext)
  (fSeq (fSet 6 (fCB dSorted (fCons (fOV (fLc (fRg1 (fCons (fC (.int 6)) fNil)) [7] (hName 7) (fun _ s Φ => Φ true s) (fBin dAdd (fBin dAdd (fV 3) (fC (.int 1))) (fCall sp_draw (fCons (fV 0) (fCons (fV 4) fNil)))))) fNil)))
  (fRet (fOV (fLc (fRg1 (fCons (fC (.int 6)) fNil)) [7] (hName 7) (fun _ s Φ => Φ true s) (fTup (fCons (fBin dIx (fV 5) (fV 7)) (fCons (fCB dMax2 (fCons (fBin dAdd (fBin dIx (fV 5) (fV 7)) (fC (.int 1))) (fCons (fBin dIx (fV 6) (fV 7)) fNil))) fNil)))))))))))))
theorem ok__law_chain (T : Tx mg) (F : Dfn K mg "_law_chain" st__law_chain ["bag"]) (c__law_draw : Cal P w K mg base (BA K) 1 "_law_draw" 2 sp_draw) (c__law_pick : Cal P w K mg base (BA K) 2 "_law_pick" 2 sp_pick)
    (hp : ∀ (ds : List D) (s : (BA K).S) (Ψ : Ret → (BA K).S → Prop), ds.length = 1 → sp__law_chain ds s Ψ → ff__law_chain { nx := fun _ s => Ψ (.d .non) s, rt := Ψ } (startR ["bag", "way", "wide", "base", "room", "lows", "highs", "k"] ds) s) : Cal P w K mg base (BA K) 3 "_law_chain" 1 sp__law_chain :=
  have sc := sc__law_chain
  cal_of F sc__law_chain rfl (by decide) (ff := ff__law_chain) (fun f cdv Ar out s H E hg hr => ⟨_,
  (zs_cons (z_set 1 sc.nd (q_call c__law_draw hg (hr.mono (by decide)) (ql_cons (q_v 0) (ql_cons q_int ql_nil))))
  (zs_cons (z_set 2 sc.nd (q_ix (q_lst (ql_cons q_int (ql_cons q_int (ql_cons q_int (ql_cons q_int (ql_cons (q_pw (c := 1000000)) (ql_cons q_int ql_nil))))))) (q_v 1)))
  (zs_cons (z_set 3 sc.nd (q_if (qt_cmp (co_lt) (q_v 1) q_int) (q_call c__law_pick hg (hr.mono (by decide)) (ql_cons (q_v 0) (ql_cons (q_lst (ql_cons q_int (ql_cons (q_bin bo_sub (q_pw (c := 1000000)) (q_bin bo_mul q_int (q_v 2))) (ql_cons (q_call c__law_draw hg (hr.mono (by decide)) (ql_cons (q_v 0) (ql_cons (q_bin bo_add (q_bin bo_sub (q_pw (c := 1000000)) (q_bin bo_mul q_int (q_v 2))) q_int) ql_nil))) ql_nil)))) ql_nil))) q_int))
  (zs_cons (z_set 4 sc.nd (q_if (qt_cmp (co_ne hr.units) (q_v 1) q_int) (q_v 2) (q_pw (c := 1000000))))
  (zs_cons (z_set 5 sc.nd (q_nb (nb_sorted) T.sorted (ql_cons (q_ov (qo_lc [("k", 7)] rfl sc.nd (qi_rg1 T.range q_int) (blkOk_by (by rfl)) (fun _ _ _ _ _ => (qg_name 7 sc.nd)) (fun _ _ _ _ _ => qts_nil) (fun _ _ _ _ _ => (q_bin bo_add (q_v 3) (q_call c__law_draw hg (hr.mono (by decide)) (ql_cons (q_v 0) (ql_cons (q_v 4) ql_nil))))))) ql_nil)))
  (zs_cons (z_if (qt_w (qw_and (qt_cmp (co_eq hr.units) (q_call c__law_draw hg (hr.mono (by decide)) (ql_cons (q_v 0) (ql_cons q_int ql_nil))) q_int) (qw_and1 (qt_cmp (co_lt) (q_v 1) q_int)))) (zs_one (z_set 3 sc.nd (q_bin bo_add (q_v 3) (q_v 2)))) zs_nil)
  (zs_cons (z_set 6 sc.nd (q_nb (nb_sorted) T.sorted (ql_cons (q_ov (qo_lc [("k", 7)] rfl sc.nd (qi_rg1 T.range q_int) (blkOk_by (by rfl)) (fun _ _ _ _ _ => (qg_name 7 sc.nd)) (fun _ _ _ _ _ => qts_nil) (fun _ _ _ _ _ => (q_bin bo_add (q_bin bo_add (q_v 3) q_int) (q_call c__law_draw hg (hr.mono (by decide)) (ql_cons (q_v 0) (ql_cons (q_v 4) ql_nil))))))) ql_nil)))
  (zs_one (z_ret (q_ov (qo_lc [("k", 7)] rfl sc.nd (qi_rg1 T.range q_int) (blkOk_by (by rfl)) (fun _ _ _ _ _ => (qg_name 7 sc.nd)) (fun _ _ _ _ _ => qts_nil) (fun _ _ _ _ _ => (q_tup (ql_cons (q_ix (q_v 5) (q_v 7)) (ql_cons (q_nb (nb_max2 rfl) T.max (ql_cons (q_bin bo_add (q_ix (q_v 5) (q_v 7)) q_int) (ql_cons (q_ix (q_v 6) (q_v 7)) ql_nil))) ql_nil)))))))))))))))⟩) hp
abbrev st__law_own_reading : Stmt := topS 11
theorem sc__law_own_reading : FnScope ["bag", "chain", "way", "marks", "x"] ["bag", "chain"] (defScope st__law_own_reading) := ⟨rfl, rfl, rfl, by decide +kernel, rfl, by decide +kernel, by decide +kernel⟩
def ff__law_own_reading : FS (BA K) :=
  (fSeq (fSet 2 (fCall sp_draw (fCons (fV 0) (fCons (fC (.int 8)) fNil))))
  (fSeq (fIfS (fTest (fBin dEq (fV 2) (fC (.int 0)))) (fRet (fCall sp_draw (fCons (fV 0) (fCons (fBin dAdd (fC (.int 1000000)) (fC (.int 1))) fNil)))) fNext)
  (fSeq (fSet 3 (fCall sp_pick (fCons (fV 0) (fCons (fV 1) fNil))))
  (fSeq (fSet 4 (fBin (dI0 fun i j => .int (i - j)) (fBin dAdd (fBin dIx (fV 3) (fCall sp_draw (fCons (fV 0) (fCons (fC (.int 2)) fNil)))) (fCall sp_draw (fCons (fV 0) (fCons (fC (.int 3)) fNil)))) (fC (.int 1))))
  (fSeq (fIfS (fAndT (fTest (fBin dEq (fV 2) (fC (.int 1)))) (fTest (fBin (dI0 fun i j => .bl (decide (j < i))) (fBin (dI0 fun i j => .int (i - j)) (fBin (dIxN 1) (fV 3) (fC (.int 1))) (fBin (dIxN 0) (fV 3) (fC (.int 0)))) (fC (.int 1))))) (fSet 4 (fBin dAdd (fBin dAdd (fBin (dIxN 0) (fV 3) (fC (.int 0))) (fC (.int 1))) (fCall sp_draw (fCons (fV 0) (fCons (fBin (dI0 fun i j => .int (i - j)) (fBin (dI0 fun i j => .int (i - j)) (fBin (dIxN 1) (fV 3) (fC (.int 1))) (fBin (dIxN 0) (fV 3) (fC (.int 0)))) (fC (.int 1))) fNil))))) fNext)
  (fRet (fCB dMax2 (fCons (fC (.int 0)) (fCons (fCB dMin2 (fCons (fC (.int 1000000)) (fCons (fV 4) fNil))) fNil)))))))))
theorem ok__law_own_reading (T : Tx mg) (F : Dfn K mg "_law_own_reading" st__law_own_reading ["bag", "chain"]) (c__law_draw : Cal P w K mg base (BA K) 1 "_law_draw" 2 sp_draw) (c__law_pick : Cal P w K mg base (BA K) 2 "_law_pick" 2 sp_pick)
    (hp : ∀ (ds : List D) (s : (BA K).S) (Ψ : Ret → (BA K).S → Prop), ds.length = 2 → sp__law_own_reading ds s Ψ → ff__law_own_reading { nx := fun _ s => Ψ (.d .non) s, rt := Ψ } (startR ["bag", "chain", "way", "marks", "x"] ds) s) : Cal P w K mg base (BA K) 3 "_law_own_reading" 2 sp__law_own_reading :=
  have sc := sc__law_own_reading
  cal_of F sc__law_own_reading rfl (by decide) (ff := ff__law_own_reading) (fun f cdv Ar out s H E hg hr => ⟨_,
  (zs_cons (z_set 2 sc.nd (q_call c__law_draw hg (hr.mono (by decide)) (ql_cons (q_v 0) (ql_cons q_int ql_nil))))
  (zs_cons (z_if (qt_cmp (co_eq hr.units) (q_v 2) q_int) (zs_one (z_ret (q_call c__law_draw hg (hr.mono (by decide)) (ql_cons (q_v 0) (ql_cons (q_bin bo_add (q_pw (c := 1000000)) q_int) ql_nil))))) zs_nil)
  (zs_cons (z_set 3 sc.nd (q_call c__law_pick hg (hr.mono (by decide)) (ql_cons (q_v 0) (ql_cons (q_v 1) ql_nil))))
  (zs_cons (z_set 4 sc.nd (q_bin bo_sub (q_bin bo_add (q_ix (q_v 3) (q_call c__law_draw hg (hr.mono (by decide)) (ql_cons (q_v 0) (ql_cons q_int ql_nil)))) (q_call c__law_draw hg (hr.mono (by decide)) (ql_cons (q_v 0) (ql_cons q_int ql_nil)))) q_int))
  (zs_cons (z_if (qt_w (qw_and (qt_cmp (co_eq hr.units) (q_v 2) q_int) (qw_and1 (qt_cmp (co_gt) (q_bin bo_sub (q_ixn (k := 1) (q_v 3)) (q_ixn (k := 0) (q_v 3))) q_int)))) (zs_one (z_set 4 sc.nd (q_bin bo_add (q_bin bo_add (q_ixn (k := 0) (q_v 3)) q_int) (q_call c__law_draw hg (hr.mono (by decide)) (ql_cons (q_v 0) (ql_cons (q_bin bo_sub (q_bin bo_sub (q_ixn (k := 1) (q_v 3)) (q_ixn (k := 0) (q_v 3))) q_int) ql_nil)))))) zs_nil)
  (zs_one (z_ret (q_nb (nb_max2 rfl) T.max (ql_cons q_int (ql_cons (q_nb (nb_min2 rfl) T.min (ql_cons (q_pw (c := 1000000)) (ql_cons (q_v 4) ql_nil))) ql_nil))))))))))⟩) hp
abbrev st__law_own_readings : Stmt := topS 10
theorem sc__law_own_readings : FnScope ["bag", "chain", "k", "turn", "pairs", "found", "pair"] ["bag", "chain"] (defScope st__law_own_readings) := ⟨rfl, rfl, rfl, by decide +kernel, rfl, by decide +kernel, by decide +kernel⟩
def ff__law_own_readings : FS (BA K) :=
  (fSeq (fPar [4, 5] (fXo (fLstO fNil) (fXo (fLstO fNil) fXn)))
  (fSeq (fFor (fRg1 (fCons (fC (.int 5)) fNil)) (hName 2)
   (fSeq (fApp 4 (fTup (fCons (fBin (dIxN 1) (fBin dIx (fV 1) (fBin dAdd (fV 2) (fC (.int 1)))) (fC (.int 1))) (fCons (fBin (dIxN 0) (fBin dIx (fV 1) (fBin dAdd (fV 2) (fC (.int 1)))) (fC (.int 0))) fNil))))
  (fSeq (fApp 4 (fTup (fCons (fBin (dIxN 0) (fBin dIx (fV 1) (fV 2)) (fC (.int 0))) (fCons (fBin (dIxN 1) (fBin dIx (fV 1) (fV 2)) (fC (.int 1))) fNil))))
  (fDrop 2 fNext))))
  (fSeq (fFor (fRg1 (fCons (fC (.int 10)) fNil)) (hName 3)
   (fSeq (fPopAt 4 6 (fCall sp_draw (fCons (fV 0) (fCons (fCB dLen (fCons (fU 4) fNil)) fNil))))
  (fSeq (fExt 5 (fLst (fCons (fBin (dIxN 0) (fV 6) (fC (.int 0))) (fCons (fBin (dIxN 1) (fV 6) (fC (.int 1))) fNil))))
  (fSeq (fIfS (fTest (fBin dEq (fCall sp_draw (fCons (fV 0) (fCons (fC (.int 2)) fNil))) (fC (.int 0)))) (fApp 5 (fCall sp__law_own_reading (fCons (fV 0) (fCons (fV 1) fNil)))) fNext)
  (fDrop 3 (fDrop 6 fNext))))))
  (fFrz 5 (fFrz 4 (fRet (fBin dAdd (fV 5) (fOV (fLc (fRg1 (fCons (fCall sp_draw (fCons (fV 0) (fCons (fBin (dI0 fun i j => .int (i - j)) (fC (.int 41)) (fCB dLen (fCons (fV 5) fNil))) fNil))) fNil)) [3] (hName 3) (fun _ s Φ => Φ true s) (fCall sp__law_own_reading (fCons (fV 0) (fCons (fV 1) fNil))))))))))))
theorem ok__law_own_readings (T : Tx mg) (F : Dfn K mg "_law_own_readings" st__law_own_readings ["bag", "chain"]) (c__law_draw : Cal P w K mg base (BA K) 1 "_law_draw" 2 sp_draw) (c__law_own_reading : Cal P w K mg base (BA K) 3 "_law_own_reading" 2 sp__law_own_reading)
    (hp : ∀ (ds : List D) (s : (BA K).S) (Ψ : Ret → (BA K).S → Prop), ds.length = 2 → sp__law_own_readings ds s Ψ → ff__law_own_readings { nx := fun _ s => Ψ (.d .non) s, rt := Ψ } (startR ["bag", "chain", "k", "turn", "pairs", "found", "pair"] ds) s) : Cal P w K mg base (BA K) 4 "_law_own_readings" 2 sp__law_own_readings :=
  have sc := sc__law_own_readings
  cal_of F sc__law_own_readings rfl (by decide) (ff := ff__law_own_readings) (fun f cdv Ar out s H E hg hr => ⟨_,
  (zs_cons (z_par 4 5 sc.nd rfl (qx_o (qo_lst ql_nil) (qx_o (qo_lst ql_nil) qx_nil)))
  (zs_cons (z_for PassesOwn.never rfl (qi_rg1 T.range q_int) (qg_name 2 sc.nd)
   (zs_cons (z_app 4 (q_tup (ql_cons (q_ixn (k := 1) (q_ix (q_v 1) (q_bin bo_add (q_v 2) q_int))) (ql_cons (q_ixn (k := 0) (q_ix (q_v 1) (q_bin bo_add (q_v 2) q_int))) ql_nil))))
  (zs_cons (z_app 4 (q_tup (ql_cons (q_ixn (k := 0) (q_ix (q_v 1) (q_v 2))) (ql_cons (q_ixn (k := 1) (q_ix (q_v 1) (q_v 2))) ql_nil))))
  (zs_drop 2 zs_nil))))
  (zs_cons (z_for PassesOwn.never rfl (qi_rg1 T.range q_int) (qg_name 3 sc.nd)
   (zs_cons (z_popAt 4 6 (q_call c__law_draw hg (hr.mono (by decide)) (ql_cons (q_v 0) (ql_cons (q_nb (nb_len) T.len (ql_cons (q_u 4) ql_nil)) ql_nil))) sc.nd)
  (zs_cons (z_ext 5 (q_lst (ql_cons (q_ixn (k := 0) (q_v 6)) (ql_cons (q_ixn (k := 1) (q_v 6)) ql_nil))))
  (zs_cons (z_if (qt_cmp (co_eq hr.units) (q_call c__law_draw hg (hr.mono (by decide)) (ql_cons (q_v 0) (ql_cons q_int ql_nil))) q_int) (zs_one (z_app 5 (q_call c__law_own_reading hg (hr.mono (by decide)) (ql_cons (q_v 0) (ql_cons (q_v 1) ql_nil))))) zs_nil)
  (zs_drop 3 (zs_drop 6 zs_nil))))))
  (zs_frz 5 (zs_frz 4 (zs_one (z_ret (q_bin bo_add (q_v 5) (q_ov (qo_lc [("turn", 3)] rfl sc.nd (qi_rg1 T.range (q_call c__law_draw hg (hr.mono (by decide)) (ql_cons (q_v 0) (ql_cons (q_bin bo_sub q_int (q_nb (nb_len) T.len (ql_cons (q_v 5) ql_nil))) ql_nil)))) (blkOk_by (by rfl)) (fun _ _ _ _ _ => (qg_name 3 sc.nd)) (fun _ _ _ _ _ => qts_nil) (fun _ _ _ _ _ => (q_call c__law_own_reading hg (hr.mono (by decide)) (ql_cons (q_v 0) (ql_cons (q_v 1) ql_nil))))))))))))))⟩) hp
abbrev st__law_is_more : Stmt := topS 13
theorem sc__law_is_more : FnScope ["lesser", "greater", "one", "other"] ["lesser", "greater"] (defScope st__law_is_more) := ⟨rfl, rfl, rfl, by decide +kernel, rfl, by decide +kernel, by decide +kernel⟩
def ff__law_is_more : FS (BA K) :=
  (fRet (fCB dAll (fCons (fOV (fLc (fZip (fV 0) (fV 1)) [2, 3] (hTup 2 (hCons (hName 2) (hCons (hName 3) hNil))) (fun _ s Φ => Φ true s) (fOrV (fBin dEq (fV 2) (fC (.str "off"))) (fBin dEq (fV 3) (fC (.str "on")))))) fNil)))
theorem ok__law_is_more (T : Tx mg) (F : Dfn K mg "_law_is_more" st__law_is_more ["lesser", "greater"])
    (hp : ∀ (ds : List D) (s : (BA K).S) (Ψ : Ret → (BA K).S → Prop), ds.length = 2 → sp__law_is_more ds s Ψ → ff__law_is_more { nx := fun _ s => Ψ (.d .non) s, rt := Ψ } (startR ["lesser", "greater", "one", "other"] ds) s) : Cal P w K mg base (BA K) 1 "_law_is_more" 2 sp__law_is_more :=
  have sc := sc__law_is_more
  cal_of F sc__law_is_more rfl (by decide) (ff := ff__law_is_more) (fun f cdv Ar out s H E hg hr => ⟨_,
  (zs_one (z_ret (q_nb (nb_all rfl) T.all (ql_cons (q_ov (qo_lc [("one", 2), ("other", 3)] rfl sc.nd (qi_zip T.zip (q_v 0) (q_v 1)) (blkOk_by (by rfl)) (fun _ _ _ _ _ => (qg_tup rfl (qgs_cons (qg_name 2 sc.nd) (qgs_cons (qg_name 3 sc.nd) qgs_nil)))) (fun _ _ _ _ _ => qts_nil) (fun _ _ _ _ _ => (q_or (q_cmp (co_eq hr.units) (q_v 2) q_str) (q_one (q_cmp (co_eq hr.units) (q_v 3) q_str)))))) ql_nil))))⟩) hp
abbrev st__law_are_states_right : Stmt := topS 12
theorem sc__law_are_states_right : FnScope ["chain", "readings", "own", "told", "start", "rows", "k", "row", "marks", "state"] ["chain", "readings", "own"] (defScope st__law_are_states_right) := ⟨rfl, rfl, rfl, by decide +kernel, rfl, by decide +kernel, by decide +kernel⟩
def ff__law_are_states_right : FS (BA K) :=
  (fSeq (fSetO 3 (fLstO fNil))
  (fSeq (fFor (fIt (fLst (fCons (fC (.str "off")) (fCons (fC (.str "on")) fNil)))) (hName 4)
   (fSeq (fSet 5 (fOV (fLc (fIt (fV 0)) [8] (hName 8) (fun _ s Φ => Φ true s) (fCall sp_states_of (fCons (fV 8) (fCons (fV 4) (fCons (fCB dTuple (fCons (fV 1) fNil)) fNil)))))))
  (fSeq (fFor (fRg1 (fCons (fC (.int 6)) fNil)) (hName 6)
   (fSeq (fSet 7 (fBin dIx (fV 5) (fV 6)))
  (fSeq (fIfS (fOrT (fNotT (fTest (fIsi .tuple (fV 7)))) (fTest (fBin dNe (fCB dLen (fCons (fV 7) fNil)) (fCB dLen (fCons (fV 1) fNil))))) (fRet (fC (.bl false))) fNext)
  (fSeq (fIfS (fOrT (fNotT (fTest (fCB dAll (fCons (fOV (fLc (fIt (fV 7)) [9] (hName 9) (fun _ s Φ => Φ true s) (fIsi .str (fV 9)))) fNil)))) (fTest (fBin dNe (fCB dList (fCons (fV 7) fNil)) (fBin dIx (fBin dGet (fV 2) (fV 4)) (fV 6))))) (fRet (fC (.bl false))) fNext)
  (fSeq (fIfS (fAndT (fTest (fBin (dI0 fun i j => .bl (decide (j < i))) (fV 6) (fC (.int 0)))) (fNotT (fTest (fCall sp__law_is_more (fCons (fBin dIx (fV 5) (fBin (dI0 fun i j => .int (i - j)) (fV 6) (fC (.int 1)))) (fCons (fV 7) fNil)))))) (fRet (fC (.bl false))) fNext)
  (fDrop 6 (fDrop 7 fNext)))))))
  (fSeq (fApp 3 (fV 5))
  (fDrop 4 (fDrop 5 (fDrop 6 fNext)))))))
  (fFrz 3 (fRet (fCB dAll (fCons (fOV (fLc (fRg1 (fCons (fC (.int 6)) fNil)) [6] (hName 6) (fun _ s Φ => Φ true s) (fCall sp__law_is_more (fCons (fBin dIx (fBin (dIxN 0) (fV 3) (fC (.int 0))) (fV 6)) (fCons (fBin dIx (fBin (dIxN 1) (fV 3) (fC (.int 1))) (fV 6)) fNil))))) fNil))))))
theorem ok__law_are_states_right (T : Tx mg) (F : Dfn K mg "_law_are_states_right" st__law_are_states_right ["chain", "readings", "own"]) (c_states_of : Cal P w K mg base (BA K) 2 "states_of" 3 sp_states_of) (c__law_is_more : Cal P w K mg base (BA K) 1 "_law_is_more" 2 sp__law_is_more)
    (hp : ∀ (ds : List D) (s : (BA K).S) (Ψ : Ret → (BA K).S → Prop), ds.length = 3 → sp__law_are_states_right ds s Ψ → ff__law_are_states_right { nx := fun _ s => Ψ (.d .non) s, rt := Ψ } (startR ["chain", "readings", "own", "told", "start", "rows", "k", "row", "marks", "state"] ds) s) : Cal P w K mg base (BA K) 3 "_law_are_states_right" 3 sp__law_are_states_right :=
  have sc := sc__law_are_states_right
  cal_of F sc__law_are_states_right rfl (by decide) (ff := ff__law_are_states_right) (fun f cdv Ar out s H E hg hr => ⟨_,
  (zs_cons (z_setO 3 sc.nd (qo_lst ql_nil))
  (zs_cons (z_for PassesOwn.never rfl (qi_seq (q_lst (ql_cons q_str (ql_cons q_str ql_nil)))) (qg_name 4 sc.nd)
   (zs_cons (z_setLc 5 sc.nd [("marks", 8)] rfl sc.nd (qi_seq (q_v 0)) (blkOk_by (by rfl)) (fun _ _ _ _ _ => (qg_name 8 sc.nd)) (fun _ _ _ _ _ => qts_nil) (fun _ _ _ _ _ => (q_call c_states_of hg (hr.mono (by decide)) (ql_cons (q_v 8) (ql_cons (q_v 4) (ql_cons (q_nt nb_tuple T.tuple (ql_cons (q_v 1) ql_nil)) ql_nil))))))
  (zs_cons (z_for PassesOwn.never rfl (qi_rg1 T.range q_int) (qg_name 6 sc.nd)
   (zs_cons (z_set 7 sc.nd (q_ix (q_v 5) (q_v 6)))
  (zs_cons (z_if (qt_w (qw_or (qt_not (qt_val (q_isi .tuple T.isinstance T.tuple bt_tuple (q_v 7)))) (qw_or1 (qt_cmp (co_ne hr.units) (q_nb (nb_len) T.len (ql_cons (q_v 7) ql_nil)) (q_nb (nb_len) T.len (ql_cons (q_v 1) ql_nil)))))) (zs_one (z_ret q_bl)) zs_nil)
  (zs_cons (z_if (qt_w (qw_or (qt_not (qt_val (q_nb (nb_all rfl) T.all (ql_cons (q_ov (qo_lc [("state", 9)] rfl sc.nd (qi_seq (q_v 7)) (blkOk_by (by rfl)) (fun _ _ _ _ _ => (qg_name 9 sc.nd)) (fun _ _ _ _ _ => qts_nil) (fun _ _ _ _ _ => (q_isi .str T.isinstance T.str bt_str (q_v 9))))) ql_nil)))) (qw_or1 (qt_cmp (co_ne hr.units) (q_nt nb_list T.list (ql_cons (q_v 7) ql_nil)) (q_ix (q_dget hr.units (q_v 2) (q_v 4)) (q_v 6)))))) (zs_one (z_ret q_bl)) zs_nil)
  (zs_cons (z_if (qt_w (qw_and (qt_cmp (co_gt) (q_v 6) q_int) (qw_and1 (qt_not (qt_val (q_call c__law_is_more hg (hr.mono (by decide)) (ql_cons (q_ix (q_v 5) (q_bin bo_sub (q_v 6) q_int)) (ql_cons (q_v 7) ql_nil)))))))) (zs_one (z_ret q_bl)) zs_nil)
  (zs_drop 6 (zs_drop 7 zs_nil)))))))
  (zs_cons (z_app 3 (q_v 5))
  (zs_drop 4 (zs_drop 5 (zs_drop 6 zs_nil)))))))
  (zs_frz 3 (zs_one (z_ret (q_nb (nb_all rfl) T.all (ql_cons (q_ov (qo_lc [("k", 6)] rfl sc.nd (qi_rg1 T.range q_int) (blkOk_by (by rfl)) (fun _ _ _ _ _ => (qg_name 6 sc.nd)) (fun _ _ _ _ _ => qts_nil) (fun _ _ _ _ _ => (q_call c__law_is_more hg (hr.mono (by decide)) (ql_cons (q_ix (q_ixn (k := 0) (q_v 3)) (q_v 6)) (ql_cons (q_ix (q_ixn (k := 1) (q_v 3)) (q_v 6)) ql_nil)))))) ql_nil)))))))⟩) hp
abbrev st__law_seen : Stmt := topS 14
theorem sc__law_seen : FnScope ["bag", "readings", "states", "word", "share", "found", "x", "state", "is_seen"] ["bag", "readings", "states", "word", "share"] (defScope st__law_seen) := ⟨rfl, rfl, rfl, by decide +kernel, rfl, by decide +kernel, by decide +kernel⟩
def ff__law_seen : FS (BA K) :=
  (fSeq (fSetO 5 (fLstO fNil))
  (fSeq (fFor (fZip (fV 1) (fV 2)) (hTup 2 (hCons (hName 6) (hCons (hName 7) hNil)))
   (fSeq (fSet 8 (fAndV (fBin dEq (fV 7) (fV 3)) (fBin (dI0 fun i j => .bl (decide (i < j))) (fCall sp_draw (fCons (fV 0) (fCons (fC (.int 4)) fNil))) (fV 4))))
  (fSeq (fApp 5 (fTup (fCons (fV 6) (fCons (fIf (fTest (fV 8)) (fV 3) (fC .non)) fNil))))
  (fDrop 6 (fDrop 7 (fDrop 8 fNext))))))
  (fFrz 5 (fRet (fV 5)))))
theorem ok__law_seen (T : Tx mg) (F : Dfn K mg "_law_seen" st__law_seen ["bag", "readings", "states", "word", "share"]) (c__law_draw : Cal P w K mg base (BA K) 1 "_law_draw" 2 sp_draw)
    (hp : ∀ (ds : List D) (s : (BA K).S) (Ψ : Ret → (BA K).S → Prop), ds.length = 5 → sp__law_seen ds s Ψ → ff__law_seen { nx := fun _ s => Ψ (.d .non) s, rt := Ψ } (startR ["bag", "readings", "states", "word", "share", "found", "x", "state", "is_seen"] ds) s) : Cal P w K mg base (BA K) 2 "_law_seen" 5 sp__law_seen :=
  have sc := sc__law_seen
  cal_of F sc__law_seen rfl (by decide) (ff := ff__law_seen) (fun f cdv Ar out s H E hg hr => ⟨_,
  (zs_cons (z_setO 5 sc.nd (qo_lst ql_nil))
  (zs_cons (z_for PassesOwn.never rfl (qi_zip T.zip (q_v 1) (q_v 2)) (qg_tup rfl (qgs_cons (qg_name 6 sc.nd) (qgs_cons (qg_name 7 sc.nd) qgs_nil)))
   (zs_cons (z_set 8 sc.nd (q_and (q_cmp (co_eq hr.units) (q_v 7) (q_v 3)) (q_one (q_cmp (co_lt) (q_call c__law_draw hg (hr.mono (by decide)) (ql_cons (q_v 0) (ql_cons q_int ql_nil))) (q_v 4)))))
  (zs_cons (z_app 5 (q_tup (ql_cons (q_v 6) (ql_cons (q_if (qt_val (q_v 8)) (q_v 3) q_non) ql_nil))))
  (zs_drop 6 (zs_drop 7 (zs_drop 8 zs_nil))))))
  (zs_frz 5 (zs_one (z_ret (q_v 5))))))⟩) hp
abbrev st__law_both : Stmt := topS 15
theorem sc__law_both : FnScope ["one", "other", "x", "y"] ["one", "other"] (defScope st__law_both) := ⟨rfl, rfl, rfl, by decide +kernel, rfl, by decide +kernel, by decide +kernel⟩
def ff__law_both : FS (BA K) :=
  (fRet (fOV (fLc (fZip (fV 0) (fV 1)) [2, 3] (hTup 2 (hCons (hName 2) (hCons (hName 3) hNil))) (fun _ s Φ => Φ true s) (fTup (fCons (fBin (dIxN 0) (fV 2) (fC (.int 0))) (fCons (fIf (fTest (fBin dNotN (fBin (dIxN 1) (fV 2) (fC (.int 1))) (fC .non))) (fBin (dIxN 1) (fV 2) (fC (.int 1))) (fBin (dIxN 1) (fV 3) (fC (.int 1)))) fNil))))))
theorem ok__law_both (T : Tx mg) (F : Dfn K mg "_law_both" st__law_both ["one", "other"])
    (hp : ∀ (ds : List D) (s : (BA K).S) (Ψ : Ret → (BA K).S → Prop), ds.length = 2 → sp__law_both ds s Ψ → ff__law_both { nx := fun _ s => Ψ (.d .non) s, rt := Ψ } (startR ["one", "other", "x", "y"] ds) s) : Cal P w K mg base (BA K) 1 "_law_both" 2 sp__law_both :=
  have sc := sc__law_both
  cal_of F sc__law_both rfl (by decide) (ff := ff__law_both) (fun f cdv Ar out s H E hg hr => ⟨_,
  (zs_one (z_ret (q_ov (qo_lc [("x", 2), ("y", 3)] rfl sc.nd (qi_zip T.zip (q_v 0) (q_v 1)) (blkOk_by (by rfl)) (fun _ _ _ _ _ => (qg_tup rfl (qgs_cons (qg_name 2 sc.nd) (qgs_cons (qg_name 3 sc.nd) qgs_nil)))) (fun _ _ _ _ _ => qts_nil) (fun _ _ _ _ _ => (q_tup (ql_cons (q_ixn (k := 0) (q_v 2)) (ql_cons (q_if (qt_cmp (co_isn) (q_ixn (k := 1) (q_v 2)) q_non) (q_ixn (k := 1) (q_v 2)) (q_ixn (k := 1) (q_v 3))) ql_nil))))))))⟩) hp
abbrev st__law_fit : Stmt := topS 16
theorem sc__law_fit : FnScope ["start", "rows", "own", "found", "k", "states", "bad", "at"] ["start", "rows", "own"] (defScope st__law_fit) := ⟨rfl, rfl, rfl, by decide +kernel, rfl, by decide +kernel, by decide +kernel⟩
def ff__law_fit : FS (BA K) :=
  (fSeq (fSetO 3 (fLstO fNil))
  (fSeq (fFor (fRg1 (fCons (fC (.int 6)) fNil)) (hName 4)
   (fSeq (fSet 5 (fBin dIx (fBin dGet (fV 2) (fV 0)) (fV 4)))
  (fSeq (fSet 6 (fOV (fLc (fRg1 (fCons (fCB dLen (fCons (fV 1) fNil)) fNil)) [7] (hName 7) (fAndT (fTest (fBin dNotN (fBin (dIxN 1) (fBin dIx (fV 1) (fV 7)) (fC (.int 1))) (fC .non))) (fTest (fBin dNe (fBin (dIxN 1) (fBin dIx (fV 1) (fV 7)) (fC (.int 1))) (fBin dIx (fV 5) (fV 7))))) (fV 7))))
  (fSeq (fApp 3 (fBin dEq (fV 6) (fLst fNil)))
  (fDrop 4 (fDrop 5 (fDrop 6 fNext)))))))
  (fFrz 3 (fRet (fV 3)))))
theorem ok__law_fit (T : Tx mg) (F : Dfn K mg "_law_fit" st__law_fit ["start", "rows", "own"])
    (hp : ∀ (ds : List D) (s : (BA K).S) (Ψ : Ret → (BA K).S → Prop), ds.length = 3 → sp__law_fit ds s Ψ → ff__law_fit { nx := fun _ s => Ψ (.d .non) s, rt := Ψ } (startR ["start", "rows", "own", "found", "k", "states", "bad", "at"] ds) s) : Cal P w K mg base (BA K) 1 "_law_fit" 3 sp__law_fit :=
  have sc := sc__law_fit
  cal_of F sc__law_fit rfl (by decide) (ff := ff__law_fit) (fun f cdv Ar out s H E hg hr => ⟨_,
  (zs_cons (z_setO 3 sc.nd (qo_lst ql_nil))
  (zs_cons (z_for PassesOwn.never rfl (qi_rg1 T.range q_int) (qg_name 4 sc.nd)
   (zs_cons (z_set 5 sc.nd (q_ix (q_dget hr.units (q_v 2) (q_v 0)) (q_v 4)))
  (zs_cons (z_setLc 6 sc.nd [("at", 7)] rfl sc.nd (qi_rg1 T.range (q_nb (nb_len) T.len (ql_cons (q_v 1) ql_nil))) (blkOk_by (by rfl)) (fun _ _ _ _ _ => (qg_name 7 sc.nd)) (fun _ _ _ _ _ => (qts_one (qt_w (qw_and (qt_cmp (co_isn) (q_ixn (k := 1) (q_ix (q_v 1) (q_v 7))) q_non) (qw_and1 (qt_cmp (co_ne hr.units) (q_ixn (k := 1) (q_ix (q_v 1) (q_v 7))) (q_ix (q_v 5) (q_v 7)))))))) (fun _ _ _ _ _ => (q_v 7)))
  (zs_cons (z_app 3 (q_cmp (co_eq hr.units) (q_v 6) (q_lst ql_nil)))
  (zs_drop 4 (zs_drop 5 (zs_drop 6 zs_nil)))))))
  (zs_frz 3 (zs_one (z_ret (q_v 3))))))⟩) hp
abbrev st__law_are_fits_right : Stmt := topS 17
theorem sc__law_are_fits_right : FnScope ["chain", "start", "rows", "own", "kind", "kept", "yes", "told", "due", "k", "marks", "one"] ["chain", "start", "rows", "own", "kind"] (defScope st__law_are_fits_right) := ⟨rfl, rfl, rfl, by decide +kernel, rfl, by decide +kernel, by decide +kernel⟩
def ff__law_are_fits_right : FS (BA K) :=
  (fSeq (fSet 5 (fTup (fCons (fV 1) (fCons (fCB dTuple (fCons (fV 2) fNil)) fNil))))
  (fSeq (fPar [7, 8] (fXv (fOV (fLc (fIt (fV 0)) [10] (hName 10) (fun _ s Φ => Φ true s) (fCall sp_fits (fCons (fV 10) (fCons (fV 5) fNil))))) (fXv (fCall sp__law_fit (fCons (fV 1) (fCons (fV 2) (fCons (fV 3) fNil)))) fXn)))
  (fSeq (fIfS (fOrT (fNotT (fTest (fCB dAll (fCons (fOV (fLc (fIt (fV 7)) [11] (hName 11) (fun _ s Φ => Φ true s) (fIsi .bool (fV 11)))) fNil)))) (fOrT (fTest (fBin dNe (fV 7) (fV 8))) (fTest (fBin dNe (fCB dRepr (fCons (fV 5) fNil)) (fCB dRepr (fCons (fTup (fCons (fV 1) (fCons (fCB dTuple (fCons (fV 2) fNil)) fNil))) fNil)))))) (fRet (fC (.bl false))) fNext)
  (fSeq (fSet 6 (fOV (fLc (fRg1 (fCons (fC (.int 6)) fNil)) [9] (hName 9) (fTest (fBin dIx (fV 7) (fV 9))) (fV 9))))
  (fSeq (fIfS (fOrT (fAndT (fTest (fBin dEq (fV 4) (fC (.str "on")))) (fAndT (fTest (fBin dNe (fV 6) (fLst fNil))) (fTest (fBin dNe (fBin dIx (fV 6) (fUn dNeg (fC (.int 1)))) (fC (.int 5)))))) (fAndT (fTest (fBin dEq (fV 4) (fC (.str "off")))) (fAndT (fTest (fBin dNe (fV 6) (fLst fNil))) (fTest (fBin dNe (fBin (dIxN 0) (fV 6) (fC (.int 0))) (fC (.int 0))))))) (fRet (fC (.bl false))) fNext)
  (fRet (fOrV (fBin dEq (fV 6) (fLst fNil)) (fBin dEq (fBin dAdd (fBin (dI0 fun i j => .int (i - j)) (fBin dIx (fV 6) (fUn dNeg (fC (.int 1)))) (fBin (dIxN 0) (fV 6) (fC (.int 0)))) (fC (.int 1))) (fCB dLen (fCons (fV 6) fNil))))))))))
theorem ok__law_are_fits_right (T : Tx mg) (F : Dfn K mg "_law_are_fits_right" st__law_are_fits_right ["chain", "start", "rows", "own", "kind"]) (c__law_fit : Cal P w K mg base (BA K) 1 "_law_fit" 3 sp__law_fit) (c_fits : Cal P w K mg base (BA K) 3 "fits" 2 sp_fits)
    (hp : ∀ (ds : List D) (s : (BA K).S) (Ψ : Ret → (BA K).S → Prop), ds.length = 5 → sp__law_are_fits_right ds s Ψ → ff__law_are_fits_right { nx := fun _ s => Ψ (.d .non) s, rt := Ψ } (startR ["chain", "start", "rows", "own", "kind", "kept", "yes", "told", "due", "k", "marks", "one"] ds) s) : Cal P w K mg base (BA K) 4 "_law_are_fits_right" 5 sp__law_are_fits_right :=
  have sc := sc__law_are_fits_right
  cal_of F sc__law_are_fits_right rfl (by decide) (ff := ff__law_are_fits_right) (fun f cdv Ar out s H E hg hr => ⟨_,
  (zs_cons (z_set 5 sc.nd (q_tup (ql_cons (q_v 1) (ql_cons (q_nt nb_tuple T.tuple (ql_cons (q_v 2) ql_nil)) ql_nil))))
  (zs_cons (z_parT rfl (qn_cons 7 sc.nd (qn_cons 8 sc.nd qn_nil)) (qx_v (q_ov (qo_lc [("marks", 10)] rfl sc.nd (qi_seq (q_v 0)) (blkOk_by (by rfl)) (fun _ _ _ _ _ => (qg_name 10 sc.nd)) (fun _ _ _ _ _ => qts_nil) (fun _ _ _ _ _ => (q_call c_fits hg (hr.mono (by decide)) (ql_cons (q_v 10) (ql_cons (q_v 5) ql_nil)))))) (qx_v (q_call c__law_fit hg (hr.mono (by decide)) (ql_cons (q_v 1) (ql_cons (q_v 2) (ql_cons (q_v 3) ql_nil)))) qx_nil)))
  (zs_cons (z_if (qt_w (qw_or (qt_not (qt_val (q_nb (nb_all rfl) T.all (ql_cons (q_ov (qo_lc [("one", 11)] rfl sc.nd (qi_seq (q_v 7)) (blkOk_by (by rfl)) (fun _ _ _ _ _ => (qg_name 11 sc.nd)) (fun _ _ _ _ _ => qts_nil) (fun _ _ _ _ _ => (q_isi .bool T.isinstance T.bool bt_bool (q_v 11))))) ql_nil)))) (qw_or (qt_cmp (co_ne hr.units) (q_v 7) (q_v 8)) (qw_or1 (qt_cmp (co_ne hr.units) (q_nb (nb_repr hg hr.units) T.repr (ql_cons (q_v 5) ql_nil)) (q_nb (nb_repr hg hr.units) T.repr (ql_cons (q_tup (ql_cons (q_v 1) (ql_cons (q_nt nb_tuple T.tuple (ql_cons (q_v 2) ql_nil)) ql_nil))) ql_nil))))))) (zs_one (z_ret q_bl)) zs_nil)
  (zs_cons (z_setLc 6 sc.nd [("k", 9)] rfl sc.nd (qi_rg1 T.range q_int) (blkOk_by (by rfl)) (fun _ _ _ _ _ => (qg_name 9 sc.nd)) (fun _ _ _ _ _ => (qts_one (qt_val (q_ix (q_v 7) (q_v 9))))) (fun _ _ _ _ _ => (q_v 9)))
  (zs_cons (z_if (qt_w (qw_or (qt_w (qw_and (qt_cmp (co_eq hr.units) (q_v 4) q_str) (qw_and (qt_cmp (co_ne hr.units) (q_v 6) (q_lst ql_nil)) (qw_and1 (qt_cmp (co_ne hr.units) (q_ix (q_v 6) (q_neg q_int)) q_int))))) (qw_or1 (qt_w (qw_and (qt_cmp (co_eq hr.units) (q_v 4) q_str) (qw_and (qt_cmp (co_ne hr.units) (q_v 6) (q_lst ql_nil)) (qw_and1 (qt_cmp (co_ne hr.units) (q_ixn (k := 0) (q_v 6)) q_int)))))))) (zs_one (z_ret q_bl)) zs_nil)
  (zs_one (z_ret (q_or (q_cmp (co_eq hr.units) (q_v 6) (q_lst ql_nil)) (q_one (q_cmp (co_eq hr.units) (q_bin bo_add (q_bin bo_sub (q_ix (q_v 6) (q_neg q_int)) (q_ixn (k := 0) (q_v 6))) q_int) (q_nb (nb_len) T.len (ql_cons (q_v 6) ql_nil))))))))))))⟩) hp
abbrev st__law_are_neighbours_told : Stmt := topS 18
theorem sc__law_are_neighbours_told : FnScope ["chain", "start", "readings", "own", "k", "apart", "at", "rows", "x"] ["chain", "start", "readings", "own"] (defScope st__law_are_neighbours_told) := ⟨rfl, rfl, rfl, by decide +kernel, rfl, by decide +kernel, by decide +kernel⟩
def ff__law_are_neighbours_told : FS (BA K) :=
  (fSeq (fFor (fRg1 (fCons (fC (.int 5)) fNil)) (hName 4)
   (fSeq (fSet 5 (fOV (fLc (fRg1 (fCons (fCB dLen (fCons (fV 2) fNil)) fNil)) [6] (hName 6) (fTest (fBin dNe (fBin dIx (fBin dIx (fBin dGet (fV 3) (fV 1)) (fV 4)) (fV 6)) (fBin dIx (fBin dIx (fBin dGet (fV 3) (fV 1)) (fBin dAdd (fV 4) (fC (.int 1)))) (fV 6)))) (fV 6))))
  (fSeq (fIfS (fTest (fBin dNe (fBin dEq (fV 5) (fLst fNil)) (fBin dEq (fBin dIx (fV 0) (fV 4)) (fBin dIx (fV 0) (fBin dAdd (fV 4) (fC (.int 1))))))) (fRet (fC (.bl false))) fNext)
  (fSeq (fFor (fIt (fBin dAdd (fSl (fV 5) fPn (fPs (fC (.int 1)))) (fSl (fV 5) (fPs (fUn dNeg (fC (.int 1)))) fPn))) (hName 6)
   (fSeq (fSetO 7 (fLc (fIt (fV 2)) [8] (hName 8) (fun _ s Φ => Φ true s) (fTup (fCons (fV 8) (fCons (fC .non) fNil)))))
  (fSeq (fStore 7 (fV 6) (fTup (fCons (fBin dIx (fV 2) (fV 6)) (fCons (fC (.str "on")) fNil))))
  (fSeq (fIfS (fOrT (fTest (fBin dNotB (fCall sp_fits (fCons (fBin dIx (fV 0) (fV 4)) (fCons (fTup (fCons (fV 1) (fCons (fCB dTuple (fCons (fU 7) fNil)) fNil))) fNil))) (fC (.bl false)))) (fTest (fBin dNotB (fCall sp_fits (fCons (fBin dIx (fV 0) (fBin dAdd (fV 4) (fC (.int 1)))) (fCons (fTup (fCons (fV 1) (fCons (fCB dTuple (fCons (fU 7) fNil)) fNil))) fNil))) (fC (.bl true))))) (fRet (fC (.bl false))) fNext)
  (fSeq (fStore 7 (fV 6) (fTup (fCons (fBin dIx (fV 2) (fV 6)) (fCons (fC (.str "off")) fNil))))
  (fFrz 7 (fSeq (fIfS (fOrT (fTest (fBin dNotB (fCall sp_fits (fCons (fBin dIx (fV 0) (fV 4)) (fCons (fTup (fCons (fV 1) (fCons (fCB dTuple (fCons (fV 7) fNil)) fNil))) fNil))) (fC (.bl true)))) (fTest (fBin dNotB (fCall sp_fits (fCons (fBin dIx (fV 0) (fBin dAdd (fV 4) (fC (.int 1)))) (fCons (fTup (fCons (fV 1) (fCons (fCB dTuple (fCons (fV 7) fNil)) fNil))) fNil))) (fC (.bl false))))) (fRet (fC (.bl false))) fNext)
  (fDrop 6 (fDrop 7 fNext)))))))))
  (fDrop 4 (fDrop 5 (fDrop 6 fNext)))))))
  (fRet (fC (.bl true))))
theorem ok__law_are_neighbours_told (T : Tx mg) (F : Dfn K mg "_law_are_neighbours_told" st__law_are_neighbours_told ["chain", "start", "readings", "own"]) (c_fits : Cal P w K mg base (BA K) 3 "fits" 2 sp_fits)
    (hp : ∀ (ds : List D) (s : (BA K).S) (Ψ : Ret → (BA K).S → Prop), ds.length = 4 → sp__law_are_neighbours_told ds s Ψ → ff__law_are_neighbours_told { nx := fun _ s => Ψ (.d .non) s, rt := Ψ } (startR ["chain", "start", "readings", "own", "k", "apart", "at", "rows", "x"] ds) s) : Cal P w K mg base (BA K) 4 "_law_are_neighbours_told" 4 sp__law_are_neighbours_told :=
  have sc := sc__law_are_neighbours_told
  cal_of F sc__law_are_neighbours_told rfl (by decide) (ff := ff__law_are_neighbours_told) (fun f cdv Ar out s H E hg hr => ⟨_,
  (zs_cons (z_for PassesOwn.never rfl (qi_rg1 T.range q_int) (qg_name 4 sc.nd)
   (zs_cons (z_setLc 5 sc.nd [("at", 6)] rfl sc.nd (qi_rg1 T.range (q_nb (nb_len) T.len (ql_cons (q_v 2) ql_nil))) (blkOk_by (by rfl)) (fun _ _ _ _ _ => (qg_name 6 sc.nd)) (fun _ _ _ _ _ => (qts_one (qt_cmp (co_ne hr.units) (q_ix (q_ix (q_dget hr.units (q_v 3) (q_v 1)) (q_v 4)) (q_v 6)) (q_ix (q_ix (q_dget hr.units (q_v 3) (q_v 1)) (q_bin bo_add (q_v 4) q_int)) (q_v 6))))) (fun _ _ _ _ _ => (q_v 6)))
  (zs_cons (z_if (qt_cmp (co_ne hr.units) (q_cmp (co_eq hr.units) (q_v 5) (q_lst ql_nil)) (q_cmp (co_eq hr.units) (q_ix (q_v 0) (q_v 4)) (q_ix (q_v 0) (q_bin bo_add (q_v 4) q_int)))) (zs_one (z_ret q_bl)) zs_nil)
  (zs_cons (z_for PassesOwn.never rfl (qi_seq (q_bin bo_add (q_sl (q_v 5) qp_n (qp_s q_int)) (q_sl (q_v 5) (qp_s (q_neg q_int)) qp_n))) (qg_name 6 sc.nd)
   (zs_cons (z_setLcO 7 sc.nd [("x", 8)] rfl sc.nd (qi_seq (q_v 2)) (blkOk_by (by rfl)) (fun _ _ _ _ _ => (qg_name 8 sc.nd)) (fun _ _ _ _ _ => qts_nil) (fun _ _ _ _ _ => (q_tup (ql_cons (q_v 8) (ql_cons q_non ql_nil)))))
  (zs_cons (z_store 7 (q_tup (ql_cons (q_ix (q_v 2) (q_v 6)) (ql_cons q_str ql_nil))) (q_v 6))
  (zs_cons (z_if (qt_w (qw_or (qt_cmp co_isnb (q_call c_fits hg (hr.mono (by decide)) (ql_cons (q_ix (q_v 0) (q_v 4)) (ql_cons (q_tup (ql_cons (q_v 1) (ql_cons (q_nt nb_tuple T.tuple (ql_cons (q_u 7) ql_nil)) ql_nil))) ql_nil))) q_bl) (qw_or1 (qt_cmp co_isnb (q_call c_fits hg (hr.mono (by decide)) (ql_cons (q_ix (q_v 0) (q_bin bo_add (q_v 4) q_int)) (ql_cons (q_tup (ql_cons (q_v 1) (ql_cons (q_nt nb_tuple T.tuple (ql_cons (q_u 7) ql_nil)) ql_nil))) ql_nil))) q_bl)))) (zs_one (z_ret q_bl)) zs_nil)
  (zs_cons (z_store 7 (q_tup (ql_cons (q_ix (q_v 2) (q_v 6)) (ql_cons q_str ql_nil))) (q_v 6))
  (zs_frz 7 (zs_cons (z_if (qt_w (qw_or (qt_cmp co_isnb (q_call c_fits hg (hr.mono (by decide)) (ql_cons (q_ix (q_v 0) (q_v 4)) (ql_cons (q_tup (ql_cons (q_v 1) (ql_cons (q_nt nb_tuple T.tuple (ql_cons (q_v 7) ql_nil)) ql_nil))) ql_nil))) q_bl) (qw_or1 (qt_cmp co_isnb (q_call c_fits hg (hr.mono (by decide)) (ql_cons (q_ix (q_v 0) (q_bin bo_add (q_v 4) q_int)) (ql_cons (q_tup (ql_cons (q_v 1) (ql_cons (q_nt nb_tuple T.tuple (ql_cons (q_v 7) ql_nil)) ql_nil))) ql_nil))) q_bl)))) (zs_one (z_ret q_bl)) zs_nil)
  (zs_drop 6 (zs_drop 7 zs_nil)))))))))
  (zs_drop 4 (zs_drop 5 (zs_drop 6 zs_nil)))))))
  (zs_one (z_ret q_bl)))⟩) hp
abbrev st_law : Stmt := topS 19
theorem sc_law : FnScope ["script", "bag", "chain", "readings", "own", "start", "share", "ons", "offs", "few", "one", "other", "rows", "kind", "marks"] ["script"] (defScope st_law) := ⟨rfl, rfl, rfl, by decide +kernel, rfl, by decide +kernel, by decide +kernel⟩
def ff_law : FS (BA K) :=
  (fSeq (fSet 1 (fCall sp_bag (fCons (fV 0) fNil)))
  (fSeq (fSet 2 (fCall sp__law_chain (fCons (fV 1) fNil)))
  (fSeq (fSet 3 (fCall sp__law_own_readings (fCons (fV 1) (fCons (fV 2) fNil))))
  (fSeq (fSet 4 (fOV (fDisp (fDc (fC (.str "on")) (fOV (fLc (fIt (fV 2)) [14] (hName 14) (fun _ s Φ => Φ true s) (fCall sp__law_walk (fCons (fV 14) (fCons (fC (.str "on")) (fCons (fV 3) fNil)))))) (fDc (fC (.str "off")) (fOV (fLc (fIt (fV 2)) [14] (hName 14) (fun _ s Φ => Φ true s) (fCall sp__law_walk (fCons (fV 14) (fCons (fC (.str "off")) (fCons (fV 3) fNil)))))) fDn)))))
  (fSeq (fIfS (fNotT (fTest (fCall sp__law_are_states_right (fCons (fV 2) (fCons (fV 3) (fCons (fV 4) fNil)))))) (fRet (fC (.bl false))) fNext)
  (fSeq (fFor (fIt (fLst (fCons (fC (.str "on")) (fCons (fC (.str "off")) fNil)))) (hName 5)
   (fSeq (fPar [10, 11] (fXv (fCall sp_draw (fCons (fV 1) (fCons (fC (.int 6)) fNil))) (fXv (fCall sp_draw (fCons (fV 1) (fCons (fC (.int 6)) fNil))) fXn)))
  (fSeq (fSet 6 (fBin dAdd (fC (.int 1)) (fCall sp_draw (fCons (fV 1) (fCons (fC (.int 4)) fNil)))))
  (fSeq (fSet 7 (fCall sp__law_seen (fCons (fV 1) (fCons (fV 3) (fCons (fBin dIx (fBin dGet (fV 4) (fV 5)) (fCB dMax2 (fCons (fV 10) (fCons (fV 11) fNil)))) (fCons (fC (.str "on")) (fCons (fV 6) fNil)))))))
  (fSeq (fSet 8 (fCall sp__law_seen (fCons (fV 1) (fCons (fV 3) (fCons (fBin dIx (fBin dGet (fV 4) (fV 5)) (fCB dMin2 (fCons (fV 10) (fCons (fV 11) fNil)))) (fCons (fC (.str "off")) (fCons (fBin dAdd (fC (.int 1)) (fCall sp_draw (fCons (fV 1) (fCons (fC (.int 4)) fNil)))) fNil)))))))
  (fSeq (fSet 9 (fCall sp__law_seen (fCons (fV 1) (fCons (fV 3) (fCons (fBin dIx (fBin dGet (fV 4) (fV 5)) (fCall sp_draw (fCons (fV 1) (fCons (fC (.int 6)) fNil)))) (fCons (fC (.str "off")) (fCons (fC (.int 1)) fNil)))))))
  (fSeq (fFor (fIt (fLst (fCons (fTup (fCons (fV 7) (fCons (fC (.str "on")) fNil))) (fCons (fTup (fCons (fV 8) (fCons (fC (.str "off")) fNil))) (fCons (fTup (fCons (fCall sp__law_both (fCons (fV 7) (fCons (fV 9) fNil))) (fCons (fC (.str "both")) fNil))) (fCons (fTup (fCons (fCall sp__law_both (fCons (fV 8) (fCons (fV 7) fNil))) (fCons (fC (.str "both")) fNil))) fNil)))))) (hTup 2 (hCons (hName 12) (hCons (hName 13) hNil)))
   (fSeq (fIfS (fNotT (fTest (fCall sp__law_are_fits_right (fCons (fV 2) (fCons (fV 5) (fCons (fV 12) (fCons (fV 4) (fCons (fV 13) fNil)))))))) (fRet (fC (.bl false))) fNext)
  (fDrop 12 (fDrop 13 fNext))))
  (fSeq (fIfS (fNotT (fTest (fCall sp__law_are_neighbours_told (fCons (fV 2) (fCons (fV 5) (fCons (fV 3) (fCons (fV 4) fNil))))))) (fRet (fC (.bl false))) fNext)
  (fDrop 5 (fDrop 10 (fDrop 11 (fDrop 6 (fDrop 7 (fDrop 8 (fDrop 9 (fDrop 12 (fDrop 13 fNext)))))))))))))))))
  (fRet (fC (.bl true)))))))))
theorem ok_law (T : Tx mg) (F : Dfn K mg "law" st_law ["script"]) (c__law_own_bag : Cal P w K mg base (BA K) 1 "_law_own_bag" 1 sp_bag) (c__law_chain : Cal P w K mg base (BA K) 3 "_law_chain" 1 sp__law_chain) (c__law_own_readings : Cal P w K mg base (BA K) 4 "_law_own_readings" 2 sp__law_own_readings) (c__law_are_states_right : Cal P w K mg base (BA K) 3 "_law_are_states_right" 3 sp__law_are_states_right) (c__law_seen : Cal P w K mg base (BA K) 2 "_law_seen" 5 sp__law_seen) (c__law_walk : Cal P w K mg base (BA K) 1 "_law_walk" 3 sp__law_walk) (c__law_draw : Cal P w K mg base (BA K) 1 "_law_draw" 2 sp_draw) (c__law_are_neighbours_told : Cal P w K mg base (BA K) 4 "_law_are_neighbours_told" 4 sp__law_are_neighbours_told) (c__law_both : Cal P w K mg base (BA K) 1 "_law_both" 2 sp__law_both) (c__law_are_fits_right : Cal P w K mg base (BA K) 4 "_law_are_fits_right" 5 sp__law_are_fits_right)
    (hp : ∀ (ds : List D) (s : (BA K).S) (Ψ : Ret → (BA K).S → Prop), ds.length = 1 → sp_law ds s Ψ → ff_law { nx := fun _ s => Ψ (.d .non) s, rt := Ψ } (startR ["script", "bag", "chain", "readings", "own", "start", "share", "ons", "offs", "few", "one", "other", "rows", "kind", "marks"] ds) s) : Cal P w K mg base (BA K) 5 "law" 1 sp_law :=
  have sc := sc_law
  cal_of F sc_law rfl (by decide) (ff := ff_law) (fun f cdv Ar out s H E hg hr => ⟨_,
  (zs_cons (z_set 1 sc.nd (q_call c__law_own_bag hg (hr.mono (by decide)) (ql_cons (q_v 0) ql_nil)))
  (zs_cons (z_set 2 sc.nd (q_call c__law_chain hg (hr.mono (by decide)) (ql_cons (q_v 1) ql_nil)))
  (zs_cons (z_set 3 sc.nd (q_call c__law_own_readings hg (hr.mono (by decide)) (ql_cons (q_v 1) (ql_cons (q_v 2) ql_nil))))
  (zs_cons (z_set 4 sc.nd (q_ov (qo_disp (qps_cons q_str (q_ov (qo_lc [("marks", 14)] rfl sc.nd (qi_seq (q_v 2)) (blkOk_by (by rfl)) (fun _ _ _ _ _ => (qg_name 14 sc.nd)) (fun _ _ _ _ _ => qts_nil) (fun _ _ _ _ _ => (q_call c__law_walk hg (hr.mono (by decide)) (ql_cons (q_v 14) (ql_cons q_str (ql_cons (q_v 3) ql_nil))))))) (qps_cons q_str (q_ov (qo_lc [("marks", 14)] rfl sc.nd (qi_seq (q_v 2)) (blkOk_by (by rfl)) (fun _ _ _ _ _ => (qg_name 14 sc.nd)) (fun _ _ _ _ _ => qts_nil) (fun _ _ _ _ _ => (q_call c__law_walk hg (hr.mono (by decide)) (ql_cons (q_v 14) (ql_cons q_str (ql_cons (q_v 3) ql_nil))))))) qps_nil)))))
  (zs_cons (z_if (qt_not (qt_val (q_call c__law_are_states_right hg (hr.mono (by decide)) (ql_cons (q_v 2) (ql_cons (q_v 3) (ql_cons (q_v 4) ql_nil)))))) (zs_one (z_ret q_bl)) zs_nil)
  (zs_cons (z_for PassesOwn.never rfl (qi_seq (q_lst (ql_cons q_str (ql_cons q_str ql_nil)))) (qg_name 5 sc.nd)
   (zs_cons (z_par 10 11 sc.nd rfl (qx_v (q_call c__law_draw hg (hr.mono (by decide)) (ql_cons (q_v 1) (ql_cons q_int ql_nil))) (qx_v (q_call c__law_draw hg (hr.mono (by decide)) (ql_cons (q_v 1) (ql_cons q_int ql_nil))) qx_nil)))
  (zs_cons (z_set 6 sc.nd (q_bin bo_add q_int (q_call c__law_draw hg (hr.mono (by decide)) (ql_cons (q_v 1) (ql_cons q_int ql_nil)))))
  (zs_cons (z_set 7 sc.nd (q_call c__law_seen hg (hr.mono (by decide)) (ql_cons (q_v 1) (ql_cons (q_v 3) (ql_cons (q_ix (q_dget hr.units (q_v 4) (q_v 5)) (q_nb (nb_max2 rfl) T.max (ql_cons (q_v 10) (ql_cons (q_v 11) ql_nil)))) (ql_cons q_str (ql_cons (q_v 6) ql_nil)))))))
  (zs_cons (z_set 8 sc.nd (q_call c__law_seen hg (hr.mono (by decide)) (ql_cons (q_v 1) (ql_cons (q_v 3) (ql_cons (q_ix (q_dget hr.units (q_v 4) (q_v 5)) (q_nb (nb_min2 rfl) T.min (ql_cons (q_v 10) (ql_cons (q_v 11) ql_nil)))) (ql_cons q_str (ql_cons (q_bin bo_add q_int (q_call c__law_draw hg (hr.mono (by decide)) (ql_cons (q_v 1) (ql_cons q_int ql_nil)))) ql_nil)))))))
  (zs_cons (z_set 9 sc.nd (q_call c__law_seen hg (hr.mono (by decide)) (ql_cons (q_v 1) (ql_cons (q_v 3) (ql_cons (q_ix (q_dget hr.units (q_v 4) (q_v 5)) (q_call c__law_draw hg (hr.mono (by decide)) (ql_cons (q_v 1) (ql_cons q_int ql_nil)))) (ql_cons q_str (ql_cons q_int ql_nil)))))))
  (zs_cons (z_for PassesOwn.never rfl (qi_seq (q_lst (ql_cons (q_tup (ql_cons (q_v 7) (ql_cons q_str ql_nil))) (ql_cons (q_tup (ql_cons (q_v 8) (ql_cons q_str ql_nil))) (ql_cons (q_tup (ql_cons (q_call c__law_both hg (hr.mono (by decide)) (ql_cons (q_v 7) (ql_cons (q_v 9) ql_nil))) (ql_cons q_str ql_nil))) (ql_cons (q_tup (ql_cons (q_call c__law_both hg (hr.mono (by decide)) (ql_cons (q_v 8) (ql_cons (q_v 7) ql_nil))) (ql_cons q_str ql_nil))) ql_nil)))))) (qg_tup rfl (qgs_cons (qg_name 12 sc.nd) (qgs_cons (qg_name 13 sc.nd) qgs_nil)))
   (zs_cons (z_if (qt_not (qt_val (q_call c__law_are_fits_right hg (hr.mono (by decide)) (ql_cons (q_v 2) (ql_cons (q_v 5) (ql_cons (q_v 12) (ql_cons (q_v 4) (ql_cons (q_v 13) ql_nil)))))))) (zs_one (z_ret q_bl)) zs_nil)
  (zs_drop 12 (zs_drop 13 zs_nil))))
  (zs_cons (z_if (qt_not (qt_val (q_call c__law_are_neighbours_told hg (hr.mono (by decide)) (ql_cons (q_v 2) (ql_cons (q_v 5) (ql_cons (q_v 3) (ql_cons (q_v 4) ql_nil))))))) (zs_one (z_ret q_bl)) zs_nil)
  (zs_drop 5 (zs_drop 10 (zs_drop 11 (zs_drop 6 (zs_drop 7 (zs_drop 8 (zs_drop 9 (zs_drop 12 (zs_drop 13 zs_nil)))))))))))))))))
  (zs_one (z_ret q_bl))))))))⟩) hp
theorem least_one {st : Bool} {high : Int} {rows : List Row} {i : Nat} {p : Row} (h : rows[i]? = some p) : leastAt st high rows (i + 1) = lstep high (leastAt st high rows i) p.1 := by
  unfold leastAt
  rw [List.take_add_one, h, List.map_append, List.foldl_append]
  rfl
theorem row_of {rows : List Row} {i : Nat} {d : D} (h : (rows.map rowD)[i]? = some d) : ∃ p, rows[i]? = some p ∧ d = rowD p := by
  rw [List.getElem?_map] at h
  cases e : rows[i]? with
  | none => rw [e] at h; cases h
  | some p => rw [e] at h; cases h; exact ⟨p, rfl, rfl⟩
theorem lows_next (st : Bool) (high : Int) (rows : List Row) (n : Nat) : lowsD st high rows (n + 1) = lowsD st high rows n ++ [oD (leastAt st high rows (n + 1))] := by
  unfold lowsD
  rw [List.range_succ, List.map_append]
  rfl
theorem lows_len (st : Bool) (high : Int) (rows : List Row) (n : Nat) : (lowsD st high rows n).length = n := by simp [lowsD]
theorem lows_at {st : Bool} {high : Int} {rows : List Row} {n i : Nat} (h : i < n) : (lowsD st high rows n)[i]? = some (oD (leastAt st high rows (i + 1))) := by
  unfold lowsD
  rw [List.getElem?_map, List.getElem?_range h]
  rfl
theorem bnd_next {st : Bool} {high : Int} {rows : List Row} {a b : Int} {i : Nat} {r : Row} {p : Int × Int} (h : rows[i]? = some r) (hp : bnd st high rows a b i = some p) : bnd st high rows a b (i + 1) = bstep r.2 (leastAt st high rows (i + 1)) p := by
  show (match rows[i]? with | none => none | some r => (bnd st high rows a b i).bind (bstep r.2 (leastAt st high rows (i + 1)))) = _
  rw [h, hp]
  rfl
theorem bnd_none {st : Bool} {high : Int} {rows : List Row} {a b : Int} {i : Nat} (h : bnd st high rows a b i = none) : ∀ k, bnd st high rows a b (i + k) = none
  | 0 => h
  | k + 1 => by
    show (match rows[i + k]? with | none => none | some r => (bnd st high rows a b (i + k)).bind (bstep r.2 (leastAt st high rows (i + k + 1)))) = none
    rw [bnd_none h k]
    cases rows[i + k]? <;> rfl
theorem bstep_mono {o : Option Bool} {l : Option Int} {p q : Int × Int} (h : bstep o l p = some q) : p.1 ≤ q.1 ∧ q.2 ≤ p.2 := by
  unfold bstep at h
  split at h
  · cases h
  · cases h
    exact ⟨Int.le_max_left _ _, Int.le_refl _⟩
  · cases h
    exact ⟨Int.le_refl _, Int.min_le_left _ _⟩
  · cases h
    exact ⟨Int.le_refl _, Int.le_refl _⟩
theorem bnd_gt {st : Bool} {high : Int} {rows : List Row} {a b : Int} {i : Nat} {p : Int × Int} (h : bnd st high rows a b i = some p) (hp : p.2 < p.1) : ∀ k, bnd st high rows a b (i + k) = none ∨ ∃ q, bnd st high rows a b (i + k) = some q ∧ q.2 < q.1
  | 0 => .inr ⟨p, h, hp⟩
  | k + 1 => by
    rcases bnd_gt h hp k with e | ⟨q, e, hq⟩
    · exact .inl (bnd_none e 1)
    · cases r : rows[i + k]? with
      | none =>
        refine .inl ?_
        show (match rows[i + k]? with | none => none | some r => (bnd st high rows a b (i + k)).bind (bstep r.2 (leastAt st high rows (i + k + 1)))) = none
        rw [r]
      | some x =>
        have e2 := bnd_next r e
        cases e3 : bstep x.2 (leastAt st high rows (i + k + 1)) q with
        | none => exact .inl (e2.trans e3)
        | some z =>
          have := bstep_mono e3
          exact .inr ⟨z, e2.trans e3, by omega⟩
theorem fit_none {st : Bool} {high : Int} {rows : List Row} {a b : Int} {i : Nat} (h : bnd st high rows a b i = none) (hi : i ≤ rows.length) : fit st high rows a b = none := by
  have e := bnd_none h (rows.length - i)
  rw [show i + (rows.length - i) = rows.length by omega] at e
  unfold fit
  rw [e]
theorem fit_gt {st : Bool} {high : Int} {rows : List Row} {a b : Int} {i : Nat} {p : Int × Int} (h : bnd st high rows a b i = some p) (hp : p.2 < p.1) (hi : i ≤ rows.length) : fit st high rows a b = none := by
  have e := bnd_gt h hp (rows.length - i)
  rw [show i + (rows.length - i) = rows.length by omega] at e
  unfold fit
  rcases e with e | ⟨q, e, hq⟩
  · rw [e]
  · rw [e]
    show (if q.1 ≤ q.2 then some q else none) = none
    rw [if_neg (by omega)]
theorem fit_end {st : Bool} {high : Int} {rows : List Row} {a b : Int} {p : Int × Int} (h : bnd st high rows a b rows.length = some p) : fit st high rows a b = if p.1 ≤ p.2 then some p else none := by
  unfold fit
  rw [h]
theorem pair_of {st : Bool} {high : Int} {rows : List Row} {i : Nat} {d : D} (h : (zipD (rows.map rowD) (lowsD st high rows rows.length))[i]? = some d) : ∃ r, rows[i]? = some r ∧ i < rows.length ∧ d = .tup [rowD r, oD (leastAt st high rows (i + 1))] := by
  obtain ⟨x, y, h1, h2, rfl⟩ := zipD_of h
  obtain ⟨r, hr, rfl⟩ := row_of h1
  have hi : i < rows.length := (List.getElem?_eq_some_iff.mp hr).1
  rw [lows_at hi] at h2
  cases h2
  exact ⟨r, hr, hi, rfl⟩
theorem pp__law_own_bag (ds : List D) (s : (BA K).S) (Ψ : Ret → (BA K).S → Prop) (_ : ds.length = 1) (h : sp_bag ds s Ψ) : ff__law_own_bag { nx := fun _ s => Ψ (.d .non) s, rt := Ψ } (startR ["script", "cells", "mixed", "cell"] ds) s := by
  obtain ⟨r, a, ns, rfl, rfl, hn, q⟩ := h
  let cs : List Int := (cutL ns none (some 63)).map fun z => (z.natAbs : Int)
  have hc : ∀ c ∈ cs, (0 : Int) ≤ c := fun c h => by
    obtain ⟨z, _, rfl⟩ := List.mem_map.mp h
    omega
  have hL : (cutL ns none (some 63)).length ≤ 63 := Nat.le_trans (by unfold cutL; rw [List.length_take, List.length_drop]; omega) hn
  have hcl : cs.length ≤ 63 := by simp only [cs, List.length_map]; exact hL
  refine And.intro rfl (And.intro rfl (And.intro rfl ?_))
  refine lc_go (fun i acc => acc = (cs.take i).map D.int) (by rw [List.length_map]; omega) rfl ?_ ?_
  · rintro i d _ hd rfl
    rw [List.getElem?_map] at hd
    cases e : (cutL ns none (some 63))[i]? with
    | none => rw [e] at hd; cases hd
    | some z =>
      rw [e] at hd
      cases hd
      refine br_t rfl ⟨rfl, ?_⟩
      have e2 : cs[i]? = some (z.natAbs : Int) := by simp only [cs, List.getElem?_map, e]; rfl
      rw [List.take_add_one, e2, List.map_append]
      rfl
  · rintro _ rfl
    have e3 : (cs.take ((cutL ns none (some 63)).map D.int).length) = cs := List.take_of_length_le (by simp [cs])
    rw [e3]
    refine for_go (fun m : Int => [.v (.any (.ref a)), .v (.lst (cs.map D.int)), .v (.int m), .e]) (fun _ m => 0 ≤ m ∧ m < 2147483647) (2468 + (cs.length : Int)) ?_ ?_ ?_ ?_
    · show _ = [Sl.v _, Sl.v _, Sl.v (D.int (2468 + ((cs.map D.int).length : Int))), Sl.e]
      simp only [List.length_map]
    · omega
    · rintro i d m hd ⟨m0, m1⟩
      rw [List.getElem?_map] at hd
      cases e : cs[i]? with
      | none => rw [e] at hd; cases hd
      | some z =>
        rw [e] at hd
        cases hd
        refine And.intro (wide_mul (a := 31) (b := 16) (by omega) (by decide) (by decide) (by decide) (by decide)) ?_
        refine And.intro (show (0 : Int) < 2147483629 by decide) ?_
        refine And.intro (show (0 : Int) < 2147483647 by decide) ?_
        exact ⟨rfl, _, rfl, Int.emod_nonneg _ (by decide), Int.emod_lt_of_pos _ (by decide)⟩
    · rintro m ⟨m0, m1⟩
      refine And.intro ⟨_, _, _, rfl⟩ ⟨cs.reverse, 0, m, ?_, fun c h => hc c (List.mem_reverse.mp h), by decide, m0, m1, q⟩
      rw [List.map_reverse]
theorem st_one {a b : Int} {s : Bool} {rs : List Int} {i : Nat} {r : Int} (h : rs[i]? = some r) : stAt a b s rs (i + 1) = step a b (stAt a b s rs i) r := by
  unfold stAt
  rw [List.take_add_one, h, List.foldl_append]
  rfl
theorem ws_next (a b : Int) (s : Bool) (rs : List Int) (n : Nat) : wsD a b s rs (n + 1) = wsD a b s rs n ++ [stD (stAt a b s rs (n + 1))] := by
  unfold wsD
  rw [List.range_succ, List.map_append]
  rfl
theorem ws_len (a b : Int) (s : Bool) (rs : List Int) (n : Nat) : (wsD a b s rs n).length = n := by simp [wsD]
theorem pp_state_behind (ds : List D) (s : (BA K).S) (Ψ : Ret → (BA K).S → Prop) (_ : ds.length = 3) (h : sp_state_behind ds s Ψ) : ff_state_behind { nx := fun _ s => Ψ (.d .non) s, rt := Ψ } (startR ["marks", "state", "reading"] ds) s := by
  obtain ⟨a, b, st, r, rfl, q⟩ := h
  unfold step at q
  refine br_b (fun e => ?_) fun e => ?_
  · rw [if_pos e] at q
    exact q
  · rw [if_neg e] at q
    refine br_b (fun e => ?_) fun e => ?_
    · rw [if_pos e] at q
      exact q
    · rw [if_neg e] at q
      exact q
theorem states_it {A : Amb} {b : FS A} {g : FG} {P : PEnds A} {ρ : List Sl} {s : A.S} (l : D) (rs : List Int) (h : l = .lst (rs.map D.int) ∨ l = .tup (rs.map D.int)) (q : ForP (rs.map D.int) g b P ρ s) : fFor (fIt fun _ s Φ => Φ l s) g b P ρ s := by
  rcases h with rfl | rfl
  · exact q
  · exact q
theorem pp_states_of (ds : List D) (s : (BA K).S) (Ψ : Ret → (BA K).S → Prop) (_ : ds.length = 3) (h : sp_states_of ds s Ψ) : ff_states_of { nx := fun _ s => Ψ (.d .non) s, rt := Ψ } (startR ["marks", "state", "readings", "found", "reading"] ds) s := by
  obtain ⟨a, b, st, rs, l, rfl, hll, hl, q⟩ := h
  show ff_states_of _ [_, _, _, _, _] _
  let enc : Nat → List Sl := fun t => [.v (mkD a b), .v (stD (stAt a b st rs t)), .v l, .o (.lst (wsD a b st rs t)), .e]
  refine states_it l rs hll ?_
  refine for_go enc (fun i t => i = t ∧ i ≤ rs.length) 0 rfl ⟨rfl, Nat.zero_le _⟩ ?_ ?_
  · rintro i d _ hd ⟨rfl, hi⟩
    obtain ⟨r, hr, rfl⟩ := int_at hd
    have hi2 : i < rs.length := (List.getElem?_eq_some_iff.mp hr).1
    have hn := st_one (a := a) (b := b) (s := st) hr
    refine Sp.mk ⟨a, b, _, r, rfl, ?_⟩
    try dsimp only [List.set_cons_zero, List.set_cons_succ, setS]
    refine And.intro (by rw [ws_len]; omega) ⟨rfl, i + 1, ?_, rfl, hi2⟩
    simp only [enc, ws_next, hn]
    rfl
  · rintro _ ⟨rfl, _⟩
    have e : (rs.map D.int).length = rs.length := List.length_map _
    simp only [enc, e]
    exact q
theorem ws_at {a b : Int} {st : Bool} {rs : List Int} {n i : Nat} (h : i < n) : (wsD a b st rs n)[i]? = some (stD (stAt a b st rs (i + 1))) := by
  unfold wsD
  rw [List.getElem?_map, List.getElem?_range h]
  rfl
theorem ok_at {a b : Int} {st : Bool} {rows : List Row} {j : Nat} {r : Row} (h : rows[j]? = some r) : okAt a b st rows j = okOf r.2 (stAt a b st (rows.map (·.1)) (j + 1)) := by
  unfold okAt
  rw [h]
theorem pp_fits (ds : List D) (s : (BA K).S) (Ψ : Ret → (BA K).S → Prop) (_ : ds.length = 2) (h : sp_fits ds s Ψ) : ff_fits { nx := fun _ s => Ψ (.d .non) s, rt := Ψ } (startR ["marks", "log", "states", "reading", "seen", "state"] ds) s := by
  obtain ⟨a, b, st, rows, rfl, hl, q⟩ := h
  show ff_fits _ [_, _, _, _, _, _] _
  refine And.intro rfl ?_
  refine lc_go (fun i acc => acc = ((rows.map (·.1)).take i).map D.int) (by rw [List.length_map]; omega) rfl ?_ ?_
  · rintro i d _ hd rfl
    obtain ⟨⟨x, o⟩, hp, rfl⟩ := row_of hd
    refine And.intro rfl (br_t rfl ⟨rfl, ?_⟩)
    have e : (rows.map (·.1))[i]? = some x := by rw [List.getElem?_map, hp]; rfl
    rw [List.take_add_one, e, List.map_append]
    rfl
  rintro _ rfl
  have e3 : ((rows.map (·.1)).take ((rows.map rowD).length)) = rows.map (·.1) := List.take_of_length_le (by simp)
  rw [e3]
  refine Sp.mk ⟨a, b, st, rows.map (·.1), _, rfl, .inl rfl, by rw [List.length_map]; omega, ?_⟩
  try dsimp only [List.set_cons_zero, List.set_cons_succ, setS]
  refine And.intro rfl ?_
  refine lc_go (fun i acc => acc = ((List.range i).map fun j => okAt a b st rows j).map D.bl) (by rw [zipD_len, List.length_map]; omega) rfl ?_ ?_
  · rintro i d _ hd rfl
    obtain ⟨x, y, h1, h2, rfl⟩ := zipD_of hd
    obtain ⟨⟨x, o⟩, hp, rfl⟩ := row_of h1
    have hi : i < rows.length := (List.getElem?_eq_some_iff.mp hp).1
    rw [ws_at (by rw [List.length_map]; exact hi)] at h2
    cases h2
    have ek := ok_at (a := a) (b := b) (st := st) hp
    have fin : ∀ v : Bool, okAt a b st rows i = v → s = s ∧ ((List.range i).map fun j => okAt a b st rows j).map D.bl ++ [.bl v] = ((List.range (i + 1)).map fun j => okAt a b st rows j).map D.bl := fun v hv => by
      refine ⟨rfl, ?_⟩
      rw [List.range_succ, List.map_append, List.map_append, ← hv]
      rfl
    refine And.intro rfl (And.intro rfl (br_t rfl ?_))
    cases o with
    | none => exact br_t rfl (fin true ek)
    | some v =>
      cases v with
      | true =>
        refine br_f rfl ?_
        cases e : stAt a b st (rows.map (·.1)) (i + 1) with
        | true =>
          rw [e] at ek
          have f := fin true ek
          rw [show true = decide (("on" : Str) = "on") from rfl] at f
          exact f
        | false =>
          rw [e] at ek
          have f := fin false ek
          rw [show false = decide (("on" : Str) = "off") by decide +kernel] at f
          exact f
      | false =>
        refine br_f rfl ?_
        cases e : stAt a b st (rows.map (·.1)) (i + 1) with
        | true =>
          rw [e] at ek
          have f := fin false ek
          rw [show false = decide (("off" : Str) = "on") by decide +kernel] at f
          exact f
        | false =>
          rw [e] at ek
          have f := fin true ek
          rw [show true = decide (("off" : Str) = "off") from rfl] at f
          exact f
  · rintro _ rfl
    have e : (zipD (rows.map rowD) (wsD a b st (rows.map (·.1)) (rows.map (·.1)).length)).length = rows.length := by rw [zipD_len, ws_len, List.length_map, List.length_map, Nat.min_self]
    rw [e]
    refine Exists.intro _ ⟨rfl, ?_⟩
    have e2 : ((List.range rows.length).map fun j => okAt a b st rows j).all id = fitB a b st rows := by
      rw [List.all_map]
      rfl
    rw [e2]
    exact q
theorem pp__law_walk (ds : List D) (s : (BA K).S) (Ψ : Ret → (BA K).S → Prop) (_ : ds.length = 3) (h : sp__law_walk ds s Ψ) : ff__law_walk { nx := fun _ s => Ψ (.d .non) s, rt := Ψ } (startR ["marks", "state", "readings", "x", "found", "present"] ds) s := by
  obtain ⟨a, b, st, rs, rfl, hl, hab, q⟩ := h
  show ff__law_walk _ [_, _, _, _, _, _] _
  let enc : Nat → List Sl := fun t => [.v (mkD a b), .v (stD st), .v (.lst (rs.map D.int)), .e, .o (.lst (wsD a b st rs t)), .v (stD (stAt a b st rs t))]
  refine for_go enc (fun i t => i = t ∧ i ≤ rs.length) 0 rfl ⟨rfl, Nat.zero_le _⟩ ?_ ?_
  · rintro i d _ hd ⟨rfl, hi⟩
    obtain ⟨r, hr, rfl⟩ := int_at hd
    have hi2 : i < rs.length := (List.getElem?_eq_some_iff.mp hr).1
    have hn := st_one (a := a) (b := b) (s := st) hr
    have last : ∀ v : Bool, stAt a b st rs (i + 1) = v → (wsD a b st rs i).length < 16777216 ∧ (s = s ∧ ∃ t', enc t' = [.v (mkD a b), .v (stD st), .v (.lst (rs.map D.int)), .e, .o (.lst (wsD a b st rs i ++ [stD v])), .v (stD v)] ∧ i + 1 = t' ∧ i + 1 ≤ rs.length) := fun v hv => by
      refine ⟨by rw [ws_len]; omega, rfl, i + 1, ?_, rfl, hi2⟩
      simp only [enc, ws_next, hv]
    unfold step at hn
    refine br_b (fun e => ?_) fun e => ?_
    · have e : r ≤ a := e
      rw [if_pos e] at hn
      refine br_b (fun e2 => ?_) fun e2 => ?_
      · have e2 : b ≤ r := e2
        omega
      · exact last true hn
    · have e : ¬ r ≤ a := e
      rw [if_neg e] at hn
      refine br_b (fun e2 => ?_) fun e2 => ?_
      · have e2 : b ≤ r := e2
        rw [if_pos e2] at hn
        exact last false hn
      · have e2 : ¬ b ≤ r := e2
        rw [if_neg e2] at hn
        exact last _ hn
  · rintro _ ⟨rfl, _⟩
    have e : (rs.map D.int).length = rs.length := List.length_map _
    simp only [enc, e]
    exact q
/-! comprehensions over a range -/
theorem lc_ints {A : Amb} {n : Nat} {g : FG} {fe : FE A} {ρ : List Sl} {s : A.S} {Φ : Mo → A.S → Prop} (p : Int → Prop) (hl : n ≤ 16777216)
    (step : ∀ (i : Nat) (C : D → A.S → Prop), i < n → (∀ x, p x → C (.int x) s) → g (.int (0 + (i : Int))) ρ fun ρ' => fe ρ' s C)
    (fin : ∀ ns : List Int, ns.length = n → (∀ x ∈ ns, p x) → Φ (.lst (ns.map D.int)) s) : LcP (rangeD 0 n) g (fun _ s Φ => Φ true s) fe ρ s Φ := by
  refine lc_go (fun i acc => ∃ ns : List Int, acc = ns.map D.int ∧ ns.length = i ∧ ∀ x ∈ ns, p x) (by rw [rangeD_len]; exact hl) ⟨[], rfl, rfl, fun _ h => by cases h⟩ ?_ ?_
  · rintro i d _ hd ⟨ns, rfl, h1, h2⟩
    obtain ⟨rfl, hi⟩ := rangeD_at hd
    have := step i (fun d s' => s' = s ∧ ∃ ns2 : List Int, ns.map D.int ++ [d] = ns2.map D.int ∧ ns2.length = i + 1 ∧ ∀ x ∈ ns2, p x) hi fun x hx => ⟨rfl, ns ++ [x], by rw [List.map_append]; rfl, by rw [List.length_append, h1]; rfl, fun y hy => by
      rcases List.mem_append.mp hy with hy | hy
      · exact h2 y hy
      · rw [List.mem_singleton.mp hy]; exact hx⟩
    have e : (fun ρ' => (fun (_ : List Sl) (s : A.S) (Φ : Bool → A.S → Prop) => Φ true s) ρ' s fun b s2 => Br b (fe ρ' s2 fun d s' => s' = s ∧ ∃ ns2 : List Int, ns.map D.int ++ [d] = ns2.map D.int ∧ ns2.length = i + 1 ∧ ∀ x ∈ ns2, p x) (s2 = s ∧ ∃ ns2 : List Int, ns.map D.int = ns2.map D.int ∧ ns2.length = i + 1 ∧ ∀ x ∈ ns2, p x)) = fun ρ' => fe ρ' s fun d s' => s' = s ∧ ∃ ns2 : List Int, ns.map D.int ++ [d] = ns2.map D.int ∧ ns2.length = i + 1 ∧ ∀ x ∈ ns2, p x := by
      funext ρ'
      exact propext ⟨fun h => h.t rfl, fun h => br_t rfl h⟩
    rw [← e] at this
    exact this
  · rintro _ ⟨ns, rfl, h1, h2⟩
    rw [rangeD_len] at h1
    exact fin ns h1 h2
/-- .. that makes a known list -/
theorem lc_known {A : Amb} {n : Nat} {g : FG} {fe : FE A} {ρ : List Sl} {s : A.S} {Φ : Mo → A.S → Prop} (ds : List D) (hn : ds.length = n) (hl : n ≤ 16777216)
    (step : ∀ (i : Nat) (d : D) (C : D → A.S → Prop), ds[i]? = some d → C d s → g (.int (0 + (i : Int))) ρ fun ρ' => fe ρ' s C)
    (fin : Φ (.lst ds) s) : LcP (rangeD 0 n) g (fun _ s Φ => Φ true s) fe ρ s Φ := by
  subst hn
  refine lc_go (fun i acc => acc = ds.take i) (by rw [rangeD_len]; exact hl) rfl ?_ ?_
  · rintro i d _ hd rfl
    obtain ⟨rfl, hi⟩ := rangeD_at hd
    have hx := List.getElem?_eq_getElem hi
    generalize ds[i] = x at hx
    have e2 : ds.take (i + 1) = ds.take i ++ [x] := by rw [List.take_add_one, hx]; rfl
    have := step i x (fun d s' => s' = s ∧ ds.take i ++ [d] = ds.take (i + 1)) hx ⟨rfl, e2.symm⟩
    have e : (fun ρ' => (fun (_ : List Sl) (s : A.S) (Φ : Bool → A.S → Prop) => Φ true s) ρ' s fun b s2 => Br b (fe ρ' s2 fun d s' => s' = s ∧ ds.take i ++ [d] = ds.take (i + 1)) (s2 = s ∧ ds.take i = ds.take (i + 1))) = fun ρ' => fe ρ' s fun d s' => s' = s ∧ ds.take i ++ [d] = ds.take (i + 1) := by
      funext ρ'
      exact propext ⟨fun h => h.t rfl, fun h => br_t rfl h⟩
    rw [← e] at this
    exact this
  · rintro _ rfl
    rw [rangeD_len, List.take_length]
    exact fin
theorem pw_le {l : List Int} (h : l.Pairwise (· ≤ ·)) {i j : Nat} {x y : Int} (hij : i ≤ j) (hx : l[i]? = some x) (hy : l[j]? = some y) : x ≤ y := by
  obtain ⟨hi, rfl⟩ := List.getElem?_eq_some_iff.mp hx
  obtain ⟨hj, rfl⟩ := List.getElem?_eq_some_iff.mp hy
  rcases Nat.lt_or_eq_of_le hij with h1 | rfl
  · exact List.pairwise_iff_getElem.mp h i j hi hj h1
  · exact Int.le_refl _
/-- .. with a test -/
theorem lc_filtR {A : Amb} {n : Nat} {g : FG} {tt : FT A} {fe : FE A} {ρ : List Sl} {s : A.S} {Φ : Mo → A.S → Prop} (p : Nat → Bool) (hl : n ≤ 16777216)
    (step : ∀ (i : Nat) (C : D → A.S → Prop) (N : A.S → Prop), i < n → (p i = true → C (.int (0 + (i : Int))) s) → (p i = false → N s) → g (.int (0 + (i : Int))) ρ fun ρ' => tt ρ' s fun b s2 => Br b (fe ρ' s2 C) (N s2))
    (fin : Φ (.lst (((List.range n).filter p).map fun (i : Nat) => .int (0 + (i : Int)))) s) : LcP (rangeD 0 n) g tt fe ρ s Φ :=
  lc_filtT (T := Nat) (fun i => .int (0 + (i : Int))) p (fun i => .int (0 + (i : Int))) (List.range n) rfl (by rw [List.length_range]; exact hl) (fun i C N hi h1 h2 => step i C N (List.mem_range.mp hi) h1 h2) fin
/-! repr of small data -/
theorem rokL_of {n : Nat} : ∀ {l : List D}, (∀ d ∈ l, d.rok n = true) → rokL n l = true
  | [], _ => rfl
  | d :: l, h => by rw [rokL, h d List.mem_cons_self, rokL_of fun d hd => h d (List.mem_cons_of_mem _ hd)]; rfl
theorem rwL_of {k : Nat} : ∀ {l : List D}, (∀ d ∈ l, d.rw + 2 ≤ k) → rwL l ≤ k * l.length
  | [], _ => by rw [rwL]; exact Nat.zero_le _
  | d :: l, h => by
    have h1 := h d List.mem_cons_self
    have h2 := rwL_of (l := l) fun d hd => h d (List.mem_cons_of_mem _ hd)
    rw [rwL, List.length_cons, Nat.mul_succ]
    omega
theorem rok_int {n : Nat} {i : Int} (h : -1000000000 ≤ i) (h2 : i ≤ 1000000000) : (D.int i).rok n = true := by
  have : ∀ n, (D.int i).rok n = decide (i.natAbs < 10 ^ 18) := fun n => by cases n <;> rfl
  rw [this]
  exact decide_eq_true (by omega)
theorem rok_ix {n m : Nat} {o : Option Nat} (hm : m ≤ 1000000) (h : ∀ j, o = some j → j < m) : (ixD o).rok n = true := by
  cases o with
  | none => cases n <;> rfl
  | some j => exact rok_int (by omega) (by have := h j rfl; omega)
theorem rw_ix (o : Option Nat) : (ixD o).rw = 64 := by cases o <;> rfl
abbrev mkC (l h : Int) : Int × Int := (l, max (l + 1) h)
theorem chn_mk {lows highs : List Int} (l6 : lows.length = 6) (h6 : highs.length = 6) (sl : lows.Pairwise (· ≤ ·)) (sh : highs.Pairwise (· ≤ ·)) (bl : ∀ x ∈ lows, 0 ≤ x ∧ x < 1000000) (bh : ∀ x ∈ highs, x ≤ 1000000) : Chn (List.zipWith mkC lows highs) := by
  have get : ∀ (i : Nat) (p : Int × Int), (List.zipWith mkC lows highs)[i]? = some p → ∃ l h, lows[i]? = some l ∧ highs[i]? = some h ∧ p = mkC l h := fun i p e => by
    rw [List.getElem?_zipWith] at e
    cases e1 : lows[i]? with
    | none => rw [e1] at e; cases e
    | some l =>
      cases e2 : highs[i]? with
      | none => rw [e1, e2] at e; cases e
      | some h => rw [e1, e2] at e; cases e; exact ⟨l, h, rfl, rfl, rfl⟩
  refine ⟨by rw [List.length_zipWith, l6, h6]; rfl, fun p hp => ?_, fun i j p q hij hp hq => ?_⟩
  · obtain ⟨i, hi⟩ := List.getElem?_of_mem hp
    obtain ⟨l, h, e1, e2, rfl⟩ := get i p hi
    have b1 := bl l (List.mem_of_getElem? e1)
    have b2 := bh h (List.mem_of_getElem? e2)
    show 0 ≤ l ∧ l < max (l + 1) h ∧ max (l + 1) h ≤ 1000000
    omega
  · obtain ⟨l, h, e1, e2, rfl⟩ := get i p hp
    obtain ⟨l2, h2, e3, e4, rfl⟩ := get j q hq
    have := pw_le sl hij e1 e3
    have := pw_le sh hij e2 e4
    show l ≤ l2 ∧ max (l + 1) h ≤ max (l2 + 1) h2
    omega
theorem pp__law_chain (ds : List D) (s : (BA K).S) (Ψ : Ret → (BA K).S → Prop) (_ : ds.length = 1) (h : sp__law_chain ds s Ψ) : ff__law_chain { nx := fun _ s => Ψ (.d .non) s, rt := Ψ } (startR ["bag", "way", "wide", "base", "room", "lows", "highs", "k"] ds) s := by
  obtain ⟨b, l, rfl, rfl, q⟩ := h
  show ff__law_chain _ [_, _, _, _, _, _, _, _] _
  refine draw_go (by decide) (by decide) fun way w0 w1 => ?_
  walk_at "pn"
  refine ix_go w0 (by show way < 6; exact w1) fun d hd => ?_
  obtain ⟨wide, rfl, hw⟩ : ∃ x : Int, d = .int x ∧ ((way < 4 ∧ 7 ≤ x ∧ x ≤ 61) ∨ (way = 4 ∧ x = 1000000) ∨ (way = 5 ∧ x = 4)) := by
    have : way = 0 ∨ way = 1 ∨ way = 2 ∨ way = 3 ∨ way = 4 ∨ way = 5 := by omega
    rcases this with rfl | rfl | rfl | rfl | rfl | rfl <;> (cases hd; exact ⟨_, rfl, by omega⟩)
  walk_at "pn"
  have last : ∀ lows highs : List Int, lows.length = 6 → highs.length = 6 → lows.Pairwise (· ≤ ·) → highs.Pairwise (· ≤ ·) → (∀ x ∈ lows, 0 ≤ x ∧ x < 1000000) → (∀ x ∈ highs, x ≤ 1000000) → ∀ (base room : D), (fRet (fOV (fLc (fRg1 (fCons (fC (.int 6)) fNil)) [7] (hName 7) (fun _ s Φ => Φ true s) (fTup (fCons (fBin dIx (fV 5) (fV 7)) (fCons (fCB dMax2 (fCons (fBin dAdd (fBin dIx (fV 5) (fV 7)) (fC (.int 1))) (fCons (fBin dIx (fV 6) (fV 7)) fNil))) fNil)))))) { nx := fun _ s => Ψ (.d .non) s, rt := Ψ } [.v (.any (.ref b)), .v (.int way), .v (.int wide), .v base, .v room, .v (.lst (lows.map D.int)), .v (.lst (highs.map D.int)), .e] (.bag b l) := fun lows highs l6 h6 sl sh bl bh base room => by
    have hc := chn_mk l6 h6 sl sh bl bh
    refine And.intro rfl (And.intro (by decide) (And.intro (by decide) ?_))
    refine lc_known ((List.zipWith mkC lows highs).map mpD) (by rw [List.length_map]; exact hc.len) (by decide) ?_ ?_
    · intro i d C hd hC
      rw [List.getElem?_map, List.getElem?_zipWith] at hd
      have hi : i < 6 := by
        rcases Nat.lt_or_ge i 6 with h | h
        · exact h
        · rw [List.getElem?_eq_none (by omega)] at hd; cases hd
      have e1 := List.getElem?_eq_getElem (l := lows) (i := i) (by omega)
      have e2 := List.getElem?_eq_getElem (l := highs) (i := i) (by omega)
      generalize lows[i] = x at e1
      generalize highs[i] = y at e2
      rw [e1, e2] at hd
      cases hd
      have m1 : (lows.map D.int)[i]? = some (.int x) := by rw [List.getElem?_map, e1]; rfl
      have m2 : (highs.map D.int)[i]? = some (.int y) := by rw [List.getElem?_map, e2]; rfl
      refine ix_at (k := i) (by omega) m1 ?_
      refine ix_at (k := i) (by omega) m1 ?_
      exact ix_at (k := i) (by omega) m2 hC
    · exact q _ hc
  have mid : ∀ (base room : Int), 0 ≤ base → 1 ≤ room → room ≤ 1000000 → base + room ≤ 1000000 → (way < 4 → base + wide + room ≤ 1000000) → (fSeq (fSet 5 (fCB dSorted (fCons (fOV (fLc (fRg1 (fCons (fC (.int 6)) fNil)) [7] (hName 7) (fun _ s Φ => Φ true s) (fBin dAdd (fV 3) (fCall sp_draw (fCons (fV 0) (fCons (fV 4) fNil)))))) fNil)))
  (fSeq (fIfS (fAndT (fTest (fBin dEq (fCall sp_draw (fCons (fV 0) (fCons (fC (.int 2)) fNil))) (fC (.int 0)))) (fTest (fBin (dI0 fun i j => .bl (decide (i < j))) (fV 1) (fC (.int 4))))) (fSet 3 (fBin dAdd (fV 3) (fV 2))) fNext)
  (fSeq (fSet 6 (fCB dSorted (fCons (fOV (fLc (fRg1 (fCons (fC (.int 6)) fNil)) [7] (hName 7) (fun _ s Φ => Φ true s) (fBin dAdd (fBin dAdd (fV 3) (fC (.int 1))) (fCall sp_draw (fCons (fV 0) (fCons (fV 4) fNil)))))) fNil)))
  (fRet (fOV (fLc (fRg1 (fCons (fC (.int 6)) fNil)) [7] (hName 7) (fun _ s Φ => Φ true s) (fTup (fCons (fBin dIx (fV 5) (fV 7)) (fCons (fCB dMax2 (fCons (fBin dAdd (fBin dIx (fV 5) (fV 7)) (fC (.int 1))) (fCons (fBin dIx (fV 6) (fV 7)) fNil))) fNil)))))))))
     { nx := fun _ s => Ψ (.d .non) s, rt := Ψ } [.v (.any (.ref b)), .v (.int way), .v (.int wide), .v (.int base), .v (.int room), .e, .e, .e] (.bag b l) := fun base room f1 f2 f3 f4 f5 => by
    refine And.intro rfl (And.intro (by decide) (And.intro (by decide) ?_))
    refine lc_ints (n := 6) (fun x => base ≤ x ∧ x < base + room) (by decide) ?_ ?_
    · intro i C hi h
      exact draw_go (by omega) (by omega) fun r r0 r1 => h _ ⟨by omega, by omega⟩
    intro ns n6 nb
    refine Exists.intro ns ⟨rfl, fun lows pl sl => ?_⟩
    have l6 : lows.length = 6 := by rw [pl.length_eq, n6]
    have lb : ∀ x ∈ lows, 0 ≤ x ∧ x < 1000000 := fun x hx => by
      have := nb x (pl.mem_iff.mp hx)
      omega
    walk_at "pn"
    have high : ∀ bs : Int, 0 ≤ bs → bs + room ≤ 1000000 → (fSeq (fSet 6 (fCB dSorted (fCons (fOV (fLc (fRg1 (fCons (fC (.int 6)) fNil)) [7] (hName 7) (fun _ s Φ => Φ true s) (fBin dAdd (fBin dAdd (fV 3) (fC (.int 1))) (fCall sp_draw (fCons (fV 0) (fCons (fV 4) fNil)))))) fNil)))
  (fRet (fOV (fLc (fRg1 (fCons (fC (.int 6)) fNil)) [7] (hName 7) (fun _ s Φ => Φ true s) (fTup (fCons (fBin dIx (fV 5) (fV 7)) (fCons (fCB dMax2 (fCons (fBin dAdd (fBin dIx (fV 5) (fV 7)) (fC (.int 1))) (fCons (fBin dIx (fV 6) (fV 7)) fNil))) fNil)))))))
     { nx := fun _ s => Ψ (.d .non) s, rt := Ψ } [.v (.any (.ref b)), .v (.int way), .v (.int wide), .v (.int bs), .v (.int room), .v (.lst (lows.map D.int)), .e, .e] (.bag b l) := fun bs b0 b1 => by
      refine And.intro rfl (And.intro (by decide) (And.intro (by decide) ?_))
      refine lc_ints (n := 6) (fun x => x ≤ 1000000) (by decide) ?_ ?_
      · intro i C hi h
        exact draw_go (by omega) (by omega) fun r r0 r1 => h _ (by omega)
      intro ms m6 mb
      refine Exists.intro ms ⟨rfl, fun highs ph sh => ?_⟩
      walk_at "pn"
      exact last lows highs l6 (by rw [ph.length_eq, m6]) sl sh lb (fun x hx => mb x (ph.mem_iff.mp hx)) _ _
    refine draw_go (by decide) (by decide) fun r r0 r1 => ?_
    refine br_b (fun e => ?_) fun e => ?_
    · refine br_b (fun e2 => ?_) fun e2 => ?_
      · exact high _ (by omega) (by have := f5 e2; omega)
      · exact high _ f1 f4
    · exact br_f rfl (high _ f1 f4)
  refine br_b (fun e => ?_) fun e => ?_
  · have e : way < 4 := e
    refine And.intro (wide_mul (a := 40) (b := 40) (by decide) (by omega) (by decide) (by decide) (by decide)) ?_
    refine And.intro (wide_mul (a := 40) (b := 40) (by decide) (by omega) (by decide) (by decide) (by decide)) ?_
    refine draw_go (by show 0 < 1000000 - 2 * wide + 1; omega) (by show 1000000 - 2 * wide + 1 < _; omega) fun r r0 r1 => ?_
    have r1 : r < 1000000 - 2 * wide + 1 := r1
    refine pick_ints rfl (by simp) (by simp) ?_
    simp only [intsOf, List.mem_cons, List.not_mem_nil, or_false]
    intro base hb
    have hb : 0 ≤ base ∧ base + 2 * wide ≤ 1000000 := by omega
    walk_at "pn"
    refine br_any (fun e2 => ?_) (fun e2 => ?_)
    · exact mid base wide (by omega) (by omega) (by omega) (by omega) (fun _ => by omega)
    · have e2 : way = 5 := by simpa using e2
      omega
  · have e : ¬ way < 4 := e
    walk_at "pn"
    refine br_any (fun e2 => ?_) (fun e2 => ?_)
    · have e2 : ¬ way = 5 := by simpa using e2
      exact mid 0 wide (by omega) (by omega) (by omega) (by omega) (fun z => absurd z e)
    · exact mid 0 1000000 (by omega) (by omega) (by omega) (by omega) (fun z => absurd z e)
theorem allp_map {T : Type} {f : T → D} {p : D → Prop} : ∀ {l : List T}, (∀ t ∈ l, p (f t)) → AllP p (l.map f)
  | [], _ => .nil
  | t :: l, h => .cons (h t List.mem_cons_self) (allp_map fun u hu => h u (List.mem_cons_of_mem _ hu))
theorem pp__law_own_reading (ds : List D) (s : (BA K).S) (Ψ : Ret → (BA K).S → Prop) (_ : ds.length = 2) (h : sp__law_own_reading ds s Ψ) : ff__law_own_reading { nx := fun _ s => Ψ (.d .non) s, rt := Ψ } (startR ["bag", "chain", "way", "marks", "x"] ds) s := by
  obtain ⟨b, l, c, rfl, rfl, hc, q⟩ := h
  show ff__law_own_reading _ [_, _, _, _, _] _
  refine draw_go (by decide) (by decide) fun way w0 w1 => ?_
  walk_at "pn"
  refine br_b (fun e => ?_) fun e => ?_
  · refine draw_go (by decide) (by decide) fun r r0 r1 => ?_
    have r1 : r < 1000001 := r1
    exact q r r0 (by omega)
  have hl : (c.map mpD).length = 6 := by rw [List.length_map, hc.len]
  refine pick_all (fun d => ∃ p ∈ c, d = mpD p) (allp_map fun p hp => ⟨p, hp, rfl⟩) (fun z => by rw [z] at hl; cases hl) (by rw [hl]; decide) ?_
  rintro _ ⟨p, hp, rfl⟩
  obtain ⟨p0, p1, p2⟩ := hc.ok p hp
  walk_at "pn"
  refine draw_go (by decide) (by decide) fun k k0 k1 => ?_
  have fin : ∀ x : Int, Ψ (.d (.int (max 0 (min 1000000 x)))) (.bag b l) := fun x => q _ (by omega) (by omega)
  refine ix_go k0 (by show k < 2; exact k1) fun d hd => ?_
  obtain ⟨y, rfl⟩ : ∃ y, d = .int y := by
    have : k = 0 ∨ k = 1 := by omega
    rcases this with rfl | rfl <;> (cases hd; exact ⟨_, rfl⟩)
  refine draw_go (by decide) (by decide) fun v v0 v1 => ?_
  walk_at "pn"
  refine br_b (fun e2 => ?_) fun e2 => ?_
  · refine br_b (fun e3 => ?_) fun e3 => ?_
    · have e3 : 1 < p.2 - p.1 := e3
      refine draw_go (by show 0 < p.2 - p.1 - 1; omega) (by show p.2 - p.1 - 1 < _; omega) fun u u0 u1 => ?_
      exact fin _
    · exact fin _
  · exact br_f rfl (fin _)
abbrev Con (rs : List Int) (x : Int × Int) : Prop := ∃ j : Nat, rs[j]? = some x.1 ∧ rs[j + 1]? = some x.2
theorem con_app {rs m : List Int} {x : Int × Int} (h : Con rs x) : Con (rs ++ m) x := by
  obtain ⟨j, h1, h2⟩ := h
  have l1 := (List.getElem?_eq_some_iff.mp h1).1
  have l2 := (List.getElem?_eq_some_iff.mp h2).1
  exact ⟨j, by rw [List.getElem?_append_left l1]; exact h1, by rw [List.getElem?_append_left l2]; exact h2⟩
theorem con_new (rs : List Int) (x : Int × Int) : Con (rs ++ [x.1, x.2]) x := ⟨rs.length, by rw [List.getElem?_append_right (Nat.le_refl _), Nat.sub_self]; rfl, by rw [List.getElem?_append_right (Nat.le_succ _), Nat.succ_sub (Nat.le_refl _), Nat.sub_self]; rfl⟩
theorem erase_or {α : Type} {l : List α} {k : Nat} {x y : α} (hx : l[k]? = some x) (hy : y ∈ l) : y = x ∨ y ∈ l.eraseIdx k := by
  rw [List.eraseIdx_eq_take_drop_succ]
  obtain ⟨hk, rfl⟩ := List.getElem?_eq_some_iff.mp hx
  have e : l = l.take k ++ l[k] :: l.drop (k + 1) := by rw [List.getElem_cons_drop, List.take_append_drop]
  rw [e] at hy
  rcases List.mem_append.mp hy with h | h
  · exact .inr (List.mem_append.mpr (.inl h))
  · rcases List.mem_cons.mp h with h | h
    · exact .inl h
    · exact .inr (List.mem_append.mpr (.inr h))
abbrev SmP (x : Int × Int) : Prop := (0 ≤ x.1 ∧ x.1 ≤ 1000000) ∧ 0 ≤ x.2 ∧ x.2 ≤ 1000000
theorem smI_app {a b : List Int} (h1 : SmI a) (h2 : SmI b) : SmI (a ++ b) := fun r hr => (List.mem_append.mp hr).elim (h1 r) (h2 r)
theorem pp__law_own_readings (ds : List D) (s : (BA K).S) (Ψ : Ret → (BA K).S → Prop) (_ : ds.length = 2) (h : sp__law_own_readings ds s Ψ) : ff__law_own_readings { nx := fun _ s => Ψ (.d .non) s, rt := Ψ } (startR ["bag", "chain", "k", "turn", "pairs", "found", "pair"] ds) s := by
  obtain ⟨b, l, c, rfl, rfl, hc, q⟩ := h
  show ff__law_own_readings _ [_, _, _, _, _, _, _] _
  have hcl : (c.map mpD).length = 6 := by rw [List.length_map, hc.len]
  have cat : ∀ k, k < 6 → ∃ p, c[k]? = some p ∧ (c.map mpD)[k]? = some (mpD p) := fun k hk => by
    have e := List.getElem?_eq_getElem (l := c) (i := k) (by rw [hc.len]; exact hk)
    exact ⟨_, e, by rw [List.getElem?_map, e]; rfl⟩
  refine And.intro (by decide) (And.intro (by decide) ?_)
  refine for_go (fun ps : List (Int × Int) => [.v (.any (.ref b)), .v (chD c), .e, .e, .o (.lst (ps.map mpD)), .o (.lst []), .e]) (fun i ps => ps.length = 2 * i ∧ (∀ x ∈ ps, SmP x) ∧ ∀ (k : Nat) (p q : Int × Int), k < i → c[k]? = some p → c[k + 1]? = some q → (q.2, q.1) ∈ ps ∧ p ∈ ps) [] rfl ⟨rfl, (fun x h => by cases h), fun k p q h => by omega⟩ ?_ ?_
  · rintro i d ps hd ⟨h1, h2, h3⟩
    obtain ⟨rfl, hi⟩ := rangeD_at hd
    have hi : i < 5 := hi
    obtain ⟨p, hp, hp2⟩ := cat i (by omega)
    obtain ⟨r, hr, hr2⟩ := cat (i + 1) (by omega)
    have o1 := hc.ok p (List.mem_of_getElem? hp)
    have o2 := hc.ok r (List.mem_of_getElem? hr)
    refine ix_at (k := i + 1) (by omega) hr2 ?_
    refine ix_at (k := i + 1) (by omega) hr2 ?_
    refine And.intro (by rw [List.length_map]; omega) ?_
    refine ix_at (k := i) (by omega) hp2 ?_
    refine ix_at (k := i) (by omega) hp2 ?_
    refine And.intro (by rw [List.length_append, List.length_map]; show ps.length + 1 < _; omega) ⟨rfl, ps ++ [(r.2, r.1)] ++ [p], by rw [List.map_append, List.map_append]; rfl, by simp [h1]; omega, ?_, ?_⟩
    · intro x hx
      simp only [List.mem_append, List.mem_singleton] at hx
      rcases hx with (hx | rfl) | rfl
      · exact h2 x hx
      · show (0 ≤ r.2 ∧ r.2 ≤ 1000000) ∧ 0 ≤ r.1 ∧ r.1 ≤ 1000000
        omega
      · show (0 ≤ x.1 ∧ x.1 ≤ 1000000) ∧ 0 ≤ x.2 ∧ x.2 ≤ 1000000
        omega
    · intro k u v hk hu hv
      simp only [List.mem_append, List.mem_singleton]
      by_cases e : k = i
      · subst e
        rw [hp] at hu
        rw [hr] at hv
        cases hu
        cases hv
        exact ⟨.inl (.inr rfl), .inr rfl⟩
      · obtain ⟨a1, a2⟩ := h3 k u v (by omega) hu hv
        exact ⟨.inl (.inl a1), .inl (.inl a2)⟩
  · rintro ps0 ⟨h1, h2, h3⟩
    have h1 : ps0.length = 10 := h1
    have h3 : ∀ (k : Nat) (p q : Int × Int), k < 5 → c[k]? = some p → c[k + 1]? = some q → (q.2, q.1) ∈ ps0 ∧ p ∈ ps0 := h3
    refine And.intro (by decide) (And.intro (by decide) ?_)
    refine for_go (fun t : List (Int × Int) × List Int => [.v (.any (.ref b)), .v (chD c), .e, .e, .o (.lst (t.1.map mpD)), .o (.lst (t.2.map D.int)), .e]) (fun i t => t.1.length + i = 10 ∧ (∀ x ∈ t.1, SmP x) ∧ t.2.length ≤ 3 * i ∧ SmI t.2 ∧ ∀ x ∈ ps0, x ∈ t.1 ∨ Con t.2 x) (ps0, []) rfl ⟨by omega, h2, Nat.zero_le _, (fun r h => by cases h), fun x hx => .inl hx⟩ ?_ ?_
    · rintro i d ⟨ps, rs⟩ hd ⟨i1, i2, i3, i4, i5⟩
      have hi : i < 10 := (rangeD_at hd).2
      have i1 : ps.length + i = 10 := i1
      have i3 : rs.length ≤ 3 * i := i3
      refine draw_go (by show 0 < ((ps.map mpD).length : Int); rw [List.length_map]; omega) (by show ((ps.map mpD).length : Int) < _; rw [List.length_map]; omega) fun k k0 k1 => ?_
      have k1 : k < ((ps.map mpD).length : Int) := k1
      refine PopP.mk k0 k1 (by rw [List.length_map]; omega) fun d hd => ?_
      rw [List.getElem?_map] at hd
      cases hx : ps[k.toNat]? with
      | none => rw [hx] at hd; cases hd
      | some x =>
        rw [hx] at hd
        cases hd
        rw [List.length_map] at k1
        have ex := i2 x (List.mem_of_getElem? hx)
        have ee : (ps.map mpD).eraseIdx k.toNat = (ps.eraseIdx k.toNat).map mpD := by rw [List.eraseIdx_eq_take_drop_succ, List.eraseIdx_eq_take_drop_succ, List.map_append, List.map_take, List.map_drop]
        rw [ee]
        walk_at "pn"
        have hkl : k.toNat < ps.length := by omega
        have el : (ps.eraseIdx k.toNat).length + (i + 1) = 10 := by rw [List.length_eraseIdx, if_pos hkl]; omega
        have e2 : ∀ y ∈ ps.eraseIdx k.toNat, SmP y := fun y hy => i2 y (List.mem_of_mem_eraseIdx hy)
        have e5 : ∀ m : List Int, ∀ y ∈ ps0, y ∈ ps.eraseIdx k.toNat ∨ Con (rs ++ [x.1, x.2] ++ m) y := fun m y hy => by
          rcases i5 y hy with h | h
          · rcases erase_or hx h with rfl | h
            · exact .inr (con_app (con_new _ _))
            · exact .inl h
          · exact .inr (con_app (con_app h))
        have e4 : SmI (rs ++ [x.1, x.2]) := smI_app i4 fun r hr => by
          simp only [List.mem_cons, List.not_mem_nil, or_false] at hr
          rcases hr with rfl | rfl
          · exact ex.1
          · exact ex.2
        refine And.intro (by rw [List.length_map]; show rs.length + 2 ≤ _; omega) ?_
        walk_at "pn"
        refine draw_go (by decide) (by decide) fun w w0 w1 => ?_
        refine br_b (fun e => ?_) fun e => ?_
        · refine Sp.mk ⟨b, l, c, rfl, rfl, hc, fun r r0 r1 => ?_⟩
          refine And.intro (by rw [List.length_append, List.length_map]; show rs.length + 2 < _; omega) ⟨rfl, (ps.eraseIdx k.toNat, rs ++ [x.1, x.2] ++ [r]), by rw [List.map_append (l₂ := [r]), List.map_append (l₂ := [x.1, x.2])]; rfl, el, e2, by simp; omega, smI_app e4 (fun y hy => by rw [List.mem_singleton.mp hy]; exact ⟨r0, r1⟩), e5 [r]⟩
        · refine ⟨rfl, (ps.eraseIdx k.toNat, rs ++ [x.1, x.2]), by rw [List.map_append]; rfl, el, e2, by simp; omega, e4, ?_⟩
          have := e5 []
          rw [List.append_nil] at this
          exact this
    · rintro ⟨ps, rs⟩ ⟨i1, i2, i3, i4, i5⟩
      rw [rangeD_len] at i1 i3
      have i1 : ps.length + 10 = 10 := i1
      have i3 : rs.length ≤ 30 := i3
      have ep : ps = [] := List.eq_nil_of_length_eq_zero (by omega)
      subst ep
      have all : ∀ x ∈ ps0, Con rs x := fun x hx => (i5 x hx).elim (fun h => by cases h) id
      refine And.intro rfl ?_
      refine draw_go (by show 0 < 41 - ((rs.map D.int).length : Int); rw [List.length_map]; omega) (by show 41 - ((rs.map D.int).length : Int) < _; rw [List.length_map]; omega) fun k k0 k1 => ?_
      have k1 : k < 41 - ((rs.map D.int).length : Int) := k1
      rw [List.length_map] at k1
      refine And.intro (by omega) (And.intro (by omega) ?_)
      refine lc_ints (fun x => 0 ≤ x ∧ x ≤ 1000000) (by omega) ?_ ?_
      · intro i C hi h
        exact Sp.mk ⟨b, l, c, rfl, rfl, hc, fun r r0 r1 => h r ⟨r0, r1⟩⟩
      intro ns hn hb
      refine And.intro (by rw [List.length_map, List.length_map]; omega) ?_
      rw [← List.map_append]
      refine q (rs ++ ns) ⟨by rw [List.length_append]; omega, smI_app i4 hb, fun k p r hp hr => ?_, fun k p r hp hr => ?_⟩
      · have hk : k < 5 := by have := (List.getElem?_eq_some_iff.mp hr).1; rw [hc.len] at this; omega
        exact con_app (all _ (h3 k p r hk hp hr).1)
      · have hk : k < 5 := by have := (List.getElem?_eq_some_iff.mp hr).1; rw [hc.len] at this; omega
        exact con_app (all _ (h3 k p r hk hp hr).2)
theorem fold_mono {a b c d : Int} (h1 : a ≤ c) (h2 : b ≤ d) (h3 : a < b) : ∀ (l : List Int) (s t : Bool), (s = true → t = true) → l.foldl (step a b) s = true → l.foldl (step c d) t = true
  | [], s, t, h, e => h e
  | r :: l, s, t, h, e => by
    rw [List.foldl_cons] at e ⊢
    refine fold_mono h1 h2 h3 l _ _ (fun z => ?_) e
    unfold step at z ⊢
    by_cases c1 : r ≤ a
    · rw [if_pos (by omega)]
    · rw [if_neg c1] at z
      by_cases c2 : b ≤ r
      · rw [if_pos c2] at z; cases z
      · rw [if_neg c2] at z
        split
        · rfl
        · rw [if_neg (by omega)]; exact h z
theorem st_mono {p q : Int × Int} {s t : Bool} {rs : List Int} (h1 : p.1 ≤ q.1) (h2 : p.2 ≤ q.2) (h3 : p.1 < p.2) (h : s = true → t = true) (k : Nat) (e : stAt p.1 p.2 s rs k = true) : stAt q.1 q.2 t rs k = true := fold_mono h1 h2 h3 _ s t h e
theorem ws_eq (a b : Int) (st : Bool) (rs : List Int) (n : Nat) : wsD a b st rs n = ((List.range n).map fun j => stAt a b st rs (j + 1)).map fun x => stD (some x) := by
  unfold wsD
  rw [List.map_map]
  rfl
theorem range_at {α : Type} {f : Nat → α} {n i : Nat} {y : α} (h : ((List.range n).map f)[i]? = some y) : i < n ∧ y = f i := by
  rw [List.getElem?_map] at h
  by_cases hi : i < n
  · rw [List.getElem?_range hi] at h
    cases h
    exact ⟨hi, rfl⟩
  · rw [List.getElem?_eq_none (by rw [List.length_range]; omega)] at h
    cases h
theorem sts_at {l : List Bool} {i : Nat} {d : D} (h : (l.map fun x => stD (some x))[i]? = some d) : ∃ x, l[i]? = some x ∧ d = stD (some x) := by
  rw [List.getElem?_map] at h
  cases e : l[i]? with
  | none => rw [e] at h; cases h
  | some x => rw [e] at h; cases h; exact ⟨x, rfl, rfl⟩
theorem bls_of {acc : List D} (h : ∀ d ∈ acc, d = .bl true) : [D.lst acc] = [D.lst ((List.replicate acc.length true).map D.bl)] := rep_true h
theorem pp__law_is_more (ds : List D) (s : (BA K).S) (Ψ : Ret → (BA K).S → Prop) (_ : ds.length = 2) (h : sp__law_is_more ds s Ψ) : ff__law_is_more { nx := fun _ s => Ψ (.d .non) s, rt := Ψ } (startR ["lesser", "greater", "one", "other"] ds) s := by
  obtain ⟨l, m, rfl, hl, hm, hlm, q⟩ := h
  show ff__law_is_more _ [_, _, _, _] _
  refine And.intro rfl ?_
  refine lc_go (fun i acc => ∀ d ∈ acc, d = .bl true) (by rw [zipD_len, List.length_map]; omega) (fun _ h => by cases h) ?_ ?_
  · rintro i d acc hd hI
    obtain ⟨x, y, h1, h2, rfl⟩ := zipD_of hd
    obtain ⟨x, h3, rfl⟩ := sts_at h1
    obtain ⟨y, h4, rfl⟩ := sts_at h2
    have fin : ∀ v : Bool, v = true → s = s ∧ ∀ d ∈ acc ++ [D.bl v], d = .bl true := fun v hv => ⟨rfl, fun d hd => by
      rcases List.mem_append.mp hd with hd | hd
      · exact hI d hd
      · rw [List.mem_singleton.mp hd, hv]⟩
    refine And.intro rfl (br_t rfl ?_)
    cases x with
    | false => exact br_t (by decide +kernel) (fin _ (by decide +kernel))
    | true =>
      have := hlm i y h3 h4
      subst this
      exact br_f (by decide +kernel) (fin _ (by decide +kernel))
  · intro acc ha
    exact Exists.intro _ ⟨rep_true ha, bl_rep (P := fun d => Ψ (.d d) s) q⟩
theorem own_at {c : List (Int × Int)} {rs : List Int} {st : Bool} {Φ : D → Prop} (h : Φ (.lst (c.map (wlD st rs)))) : dGet (ownD c rs) (stD (some st)) Φ := by
  cases st
  · exact GetP.mk ⟨_, by rw [lookD, if_neg (by decide +kernel), lookD, if_pos rfl], h⟩
  · exact GetP.mk ⟨_, by rw [lookD, if_pos rfl], h⟩
theorem stD_lay (n : Nat) (o : Option Bool) : (stD o).lay n = true := by
  rcases o with _ | _ | _ <;> cases n <;> (unfold D.lay; decide +kernel)
theorem ws_lay (n : Nat) (a b : Int) (st : Bool) (rs : List Int) (k : Nat) : (D.lst (wsD a b st rs k)).lay (n + 1) = true := by
  rw [D.lay]
  exact layL_mem fun d hd => by
    obtain ⟨j, _, rfl⟩ := List.mem_map.mp hd
    exact stD_lay n _
theorem pp__law_are_states_right (ds : List D) (s : (BA K).S) (Ψ : Ret → (BA K).S → Prop) (_ : ds.length = 3) (h : sp__law_are_states_right ds s Ψ) : ff__law_are_states_right { nx := fun _ s => Ψ (.d .non) s, rt := Ψ } (startR ["chain", "readings", "own", "told", "start", "rows", "k", "row", "marks", "state"] ds) s := by
  obtain ⟨c, rs, rfl, hc, hr, q⟩ := h
  show ff__law_are_states_right _ [_, _, _, _, _, _, _, _, _, _] _
  have hcl : (c.map mpD).length = 6 := by rw [List.length_map, hc.len]
  have hrl := hr.len
  have cat : ∀ k, k < 6 → ∃ p, c[k]? = some p := fun k hk => ⟨_, List.getElem?_eq_getElem (l := c) (i := k) (by rw [hc.len]; exact hk)⟩
  let row : Bool → Int × Int → D := fun st p => .tup (wsD p.1 p.2 st rs rs.length)
  have rat : ∀ (st : Bool) (k : Nat) (p : Int × Int), c[k]? = some p → (c.map (row st))[k]? = some (row st p) := fun st k p h => by rw [List.getElem?_map, h]; rfl
  have more : ∀ (st st2 : Bool) (p p2 : Int × Int) (Φ : Ret → (BA K).S → Prop), (st = true → st2 = true) → p.1 < p.2 → p.1 ≤ p2.1 → p.2 ≤ p2.2 → Φ (.d (.bl true)) s → Sp (sp__law_is_more (K := K)) [row st p, row st2 p2] s Φ := fun st st2 p p2 Φ h0 h1 h2 h3 hq => by
    refine Sp.mk ⟨(List.range rs.length).map fun j => stAt p.1 p.2 st rs (j + 1), (List.range rs.length).map fun j => stAt p2.1 p2.2 st2 rs (j + 1), ?_, by rw [List.length_map, List.length_range]; omega, by rw [List.length_map, List.length_range]; omega, ?_, hq⟩
    · show [D.tup (wsD p.1 p.2 st rs rs.length), D.tup (wsD p2.1 p2.2 st2 rs rs.length)] = _
      rw [ws_eq, ws_eq]
    · intro i y e1 e2
      obtain ⟨_, e1⟩ := range_at e1
      obtain ⟨_, e2⟩ := range_at e2
      rw [e2]
      exact st_mono h2 h3 h1 h0 _ e1.symm
  have one : ∀ (st : Bool) (t : List D) (P : PEnds (BA K)), P.rt = Ψ → t.length ≤ 1 → P.nx [.v (chD c), .v (.lst (rs.map D.int)), .v (ownD c rs), .o (.lst (t ++ [.lst (c.map (row st))])), .e, .e, .e, .e, .e, .e] s →
      (fSeq (fSet 5 (fOV (fLc (fIt (fV 0)) [8] (hName 8) (fun _ s Φ => Φ true s) (fCall sp_states_of (fCons (fV 8) (fCons (fV 4) (fCons (fCB dTuple (fCons (fV 1) fNil)) fNil)))))))
  (fSeq (fFor (fRg1 (fCons (fC (.int 6)) fNil)) (hName 6)
   (fSeq (fSet 7 (fBin dIx (fV 5) (fV 6)))
  (fSeq (fIfS (fOrT (fNotT (fTest (fIsi .tuple (fV 7)))) (fTest (fBin dNe (fCB dLen (fCons (fV 7) fNil)) (fCB dLen (fCons (fV 1) fNil))))) (fRet (fC (.bl false))) fNext)
  (fSeq (fIfS (fOrT (fNotT (fTest (fCB dAll (fCons (fOV (fLc (fIt (fV 7)) [9] (hName 9) (fun _ s Φ => Φ true s) (fIsi .str (fV 9)))) fNil)))) (fTest (fBin dNe (fCB dList (fCons (fV 7) fNil)) (fBin dIx (fBin dGet (fV 2) (fV 4)) (fV 6))))) (fRet (fC (.bl false))) fNext)
  (fSeq (fIfS (fAndT (fTest (fBin (dI0 fun i j => .bl (decide (j < i))) (fV 6) (fC (.int 0)))) (fNotT (fTest (fCall sp__law_is_more (fCons (fBin dIx (fV 5) (fBin (dI0 fun i j => .int (i - j)) (fV 6) (fC (.int 1)))) (fCons (fV 7) fNil)))))) (fRet (fC (.bl false))) fNext)
  (fDrop 6 (fDrop 7 fNext)))))))
  (fSeq (fApp 3 (fV 5))
  (fDrop 4 (fDrop 5 (fDrop 6 fNext)))))) P [.v (chD c), .v (.lst (rs.map D.int)), .v (ownD c rs), .o (.lst t), .v (stD (some st)), .e, .e, .e, .e, .e] s := fun st t P hP ht hn => by
    walk_at "pd"
    refine lc_mapT mpD (row st) c (by rfl) (by rw [hc.len]; decide) ?_ ?_
    · intro p C hp hC
      exact Sp.mk ⟨p.1, p.2, st, rs, _, rfl, .inr rfl, by omega, hC⟩
    walk_at "pn"
    refine And.intro (by decide) (And.intro (by decide) ?_)
    refine for_go (fun _ : Unit => [.v (chD c), .v (.lst (rs.map D.int)), .v (ownD c rs), .o (.lst t), .v (stD (some st)), .v (.lst (c.map (row st))), .e, .e, .e, .e]) (fun _ _ => True) () rfl trivial ?_ ?_
    · rintro i d _ hd _
      obtain ⟨rfl, hi⟩ := rangeD_at hd
      have hi : i < 6 := hi
      obtain ⟨p, hp⟩ := cat i hi
      have op := hc.ok p (List.mem_of_getElem? hp)
      refine ix_at (k := i) (by omega) (rat st i p hp) ?_
      walk_at "pn"
      refine And.intro trivial ?_
      refine br_f rfl ?_
      refine br_ndf (by rw [ws_len, List.length_map]) ?_
      walk_at "pd"
      refine lc_all (fun d => d = .bl true) ?_ (fun d C N hd hC hN => ?_) ?_
      · show (wsD p.1 p.2 st rs rs.length).length ≤ _
        rw [ws_len]; omega
      · obtain ⟨j, _, rfl⟩ := List.mem_map.mp hd
        refine br_t rfl ?_
        cases stAt p.1 p.2 st rs (j + 1) <;> exact And.intro trivial (hC _ rfl)
      intro acc ha _
      refine Exists.intro _ ⟨rep_true ha, ?_⟩
      rw [rep_all]
      refine br_f rfl ?_
      refine own_at ?_
      refine ix_at (k := i) (by omega) (by rw [List.getElem?_map, hp]; rfl) ?_
      have lay := ws_lay 31 p.1 p.2 st rs rs.length
      refine And.intro (lay_dok lay) (And.intro (lay_dok lay) ?_)
      refine br_f (by rw [eqv_self lay]; rfl) ?_
      refine br_b (fun e => ?_) fun e => ?_
      · have e : 0 < 0 + (i : Int) := e
        obtain ⟨p0, hp0⟩ := cat (i - 1) (by omega)
        have up := hc.up (i - 1) i p0 p (by omega) hp0 hp
        have o0 := hc.ok p0 (List.mem_of_getElem? hp0)
        refine ix_at (k := i - 1) (by omega) (rat st (i - 1) p0 hp0) ?_
        refine more st st p0 p _ id o0.2.1 up.1 up.2 ?_
        exact br_f rfl ⟨rfl, (), rfl, trivial⟩
      · exact br_f rfl ⟨rfl, (), rfl, trivial⟩
    · rintro _ _
      refine And.intro (by omega) ?_
      exact hn
  refine for_go (fun t : List D => [.v (chD c), .v (.lst (rs.map D.int)), .v (ownD c rs), .o (.lst t), .e, .e, .e, .e, .e, .e]) (fun i t => t = [D.lst (c.map (row false)), .lst (c.map (row true))].take i) [] rfl rfl ?_ ?_
  · rintro i d t hd rfl
    rcases i with _ | _ | i
    · cases hd
      exact one false [] _ rfl (by decide) ⟨rfl, _, rfl, rfl⟩
    · cases hd
      exact one true [D.lst (c.map (row false))] _ rfl (Nat.le_refl 1) ⟨rfl, _, rfl, rfl⟩
    · cases hd
  · rintro _ rfl
    refine And.intro rfl (And.intro (by decide) (And.intro (by decide) ?_))
    refine lc_all (fun d => d = .bl true) (by rw [rangeD_len]; decide) (fun d C N hd hC hN => ?_) ?_
    · obtain ⟨i, hi⟩ := List.getElem?_of_mem hd
      obtain ⟨rfl, hj⟩ := rangeD_at hi
      have hj : i < 6 := hj
      obtain ⟨p, hp⟩ := cat i hj
      have op := hc.ok p (List.mem_of_getElem? hp)
      refine br_t rfl ?_
      refine ix_at (k := i) (by omega) (rat false i p hp) ?_
      refine ix_at (k := i) (by omega) (rat true i p hp) ?_
      exact more false true p p _ (fun z => by cases z) op.2.1 (Int.le_refl _) (Int.le_refl _) (hC _ rfl)
    · intro acc ha _
      exact Exists.intro _ ⟨rep_true ha, bl_rep (P := fun d => Ψ (.d d) s) q⟩
theorem wrow_map {rows : List Row} {rs : List Int} (h : rows.map (·.1) = rs) : rows.length = rs.length := by rw [← h, List.length_map]
theorem pp__law_seen (ds : List D) (s : (BA K).S) (Ψ : Ret → (BA K).S → Prop) (_ : ds.length = 5) (h : sp__law_seen ds s Ψ) : ff__law_seen { nx := fun _ s => Ψ (.d .non) s, rt := Ψ } (startR ["bag", "readings", "states", "word", "share", "found", "x", "state", "is_seen"] ds) s := by
  obtain ⟨b, l, rs, a, d, st, w, share, rfl, rfl, hl, q⟩ := h
  show ff__law_seen _ [_, _, _, _, _, _, _, _, _] _
  walk_at "pd"
  refine for_go (fun t : List Row => [.v (.any (.ref b)), .v (.lst (rs.map D.int)), .v (.lst (wsD a d st rs rs.length)), .v (stD (some w)), .v (.int share), .o (.lst (t.map rowD)), .e, .e, .e]) (fun i t => t.map (·.1) = rs.take i ∧ ∀ r ∈ t, r.2 = none ∨ r.2 = some w) [] rfl ⟨rfl, fun r h => by cases h⟩ ?_ ?_
  · rintro i x t hd ⟨h1, h2⟩
    obtain ⟨x, y, e1, e2, rfl⟩ := zipD_of hd
    obtain ⟨x, e3, rfl⟩ := int_at e1
    have hi : i < rs.length := (List.getElem?_eq_some_iff.mp e3).1
    rw [ws_at hi] at e2
    cases e2
    have ht : t.length ≤ 40 := by have := congrArg List.length h1; rw [List.length_map, List.length_take] at this; omega
    have fin : ∀ o : Option Bool, (o = none ∨ o = some w) → BS.bag b l = BS.bag b l ∧ ∃ t' : List Row, ([.v (.any (.ref b)), .v (.lst (rs.map D.int)), .v (.lst (wsD a d st rs rs.length)), .v (stD (some w)), .v (.int share), .o (.lst (t'.map rowD)), .e, .e, .e] : List Sl) = [.v (.any (.ref b)), .v (.lst (rs.map D.int)), .v (.lst (wsD a d st rs rs.length)), .v (stD (some w)), .v (.int share), .o (.lst (t.map rowD ++ [rowD (x, o)])), .e, .e, .e] ∧ t'.map (·.1) = rs.take (i + 1) ∧ ∀ r ∈ t', r.2 = none ∨ r.2 = some w := fun o ho => by
      refine ⟨rfl, t ++ [(x, o)], by rw [List.map_append]; rfl, by rw [List.map_append, h1, List.take_add_one, e3]; rfl, fun r hr => ?_⟩
      rcases List.mem_append.mp hr with hr | hr
      · exact h2 r hr
      · rw [List.mem_singleton.mp hr]; exact ho
    have len : (t.map rowD).length < 16777216 := by rw [List.length_map]; omega
    refine And.intro rfl ?_
    generalize stAt a d st rs (i + 1) = z
    cases z <;> cases w
    · refine br_t (by decide +kernel) ?_
      refine draw_go (by decide) (by decide) fun r r0 r1 => ?_
      exact br_b (fun _ => And.intro len (fin (some false) (.inr rfl))) (fun _ => And.intro len (fin none (.inl rfl)))
    · refine br_f (by decide +kernel) (br_f (by decide +kernel) ?_)
      exact And.intro len (fin none (.inl rfl))
    · refine br_f (by decide +kernel) (br_f (by decide +kernel) ?_)
      exact And.intro len (fin none (.inl rfl))
    · refine br_t (by decide +kernel) ?_
      refine draw_go (by decide) (by decide) fun r r0 r1 => ?_
      exact br_b (fun _ => And.intro len (fin (some true) (.inr rfl))) (fun _ => And.intro len (fin none (.inl rfl)))
  · rintro t ⟨h1, h2⟩
    have e : (zipD (rs.map D.int) (wsD a d st rs rs.length)).length = rs.length := by rw [zipD_len, ws_len, List.length_map, Nat.min_self]
    rw [e, List.take_length] at h1
    exact q t h1 h2
theorem pp__law_both (ds : List D) (s : (BA K).S) (Ψ : Ret → (BA K).S → Prop) (_ : ds.length = 2) (h : sp__law_both ds s Ψ) : ff__law_both { nx := fun _ s => Ψ (.d .non) s, rt := Ψ } (startR ["one", "other", "x", "y"] ds) s := by
  obtain ⟨r1, r2, rfl, hl, he, q⟩ := h
  show ff__law_both _ [_, _, _, _] _
  have hl2 : r1.length = r2.length := by have := congrArg List.length he; rwa [List.length_map, List.length_map] at this
  refine And.intro rfl ?_
  refine lc_go (fun i acc => ∃ t : List Row, acc = t.map rowD ∧ t.map (·.1) = (r1.map (·.1)).take i) (by rw [zipD_len, List.length_map]; omega) ⟨[], rfl, rfl⟩ ?_ ?_
  · rintro i x _ hd ⟨t, rfl, ht⟩
    obtain ⟨x, y, e1, e2, rfl⟩ := zipD_of hd
    obtain ⟨⟨x, o1⟩, e1', rfl⟩ := row_of e1
    obtain ⟨⟨y, o2⟩, e2', rfl⟩ := row_of e2
    have fin : ∀ o : Option Bool, s = s ∧ ∃ t2 : List Row, t.map rowD ++ [rowD (x, o)] = t2.map rowD ∧ t2.map (·.1) = (r1.map (·.1)).take (i + 1) := fun o => by
      refine ⟨rfl, t ++ [(x, o)], by rw [List.map_append]; rfl, ?_⟩
      have e3 : (r1.map (·.1))[i]? = some x := by rw [List.getElem?_map, e1']; rfl
      rw [List.map_append, ht, List.take_add_one, e3]
      rfl
    refine And.intro rfl (br_t rfl ?_)
    rcases o1 with _ | _ | _
    · exact br_f rfl (fin o2)
    · exact br_t rfl (fin (some false))
    · exact br_t rfl (fin (some true))
  · rintro _ ⟨t, rfl, ht⟩
    have e : (zipD (r1.map rowD) (r2.map rowD)).length = (r1.map (·.1)).length := by rw [zipD_len, List.length_map, List.length_map, List.length_map]; omega
    rw [e, List.take_length] at ht
    exact q t ht
theorem fit_iff {a b : Int} {st : Bool} {rows : List Row} {bad : List D} (h : bad = [] ↔ ∀ (j : Nat) (r : Row), rows[j]? = some r → okOf r.2 (stAt a b st (rows.map (·.1)) (j + 1)) = true) : bad.isEmpty = fitB a b st rows := by
  have e : fitB a b st rows = true ↔ ∀ (j : Nat) (r : Row), rows[j]? = some r → okOf r.2 (stAt a b st (rows.map (·.1)) (j + 1)) = true := by
    unfold fitB
    rw [List.all_eq_true]
    constructor
    · intro h j r hr
      have := h j (List.mem_range.mpr (List.getElem?_eq_some_iff.mp hr).1)
      rw [ok_at hr] at this
      exact this
    · intro h j hj
      have hj := List.mem_range.mp hj
      have hr := List.getElem?_eq_getElem hj
      rw [ok_at hr]
      exact h j _ hr
  rw [Bool.eq_iff_iff, List.isEmpty_iff, h, e]
theorem pp__law_fit (ds : List D) (s : (BA K).S) (Ψ : Ret → (BA K).S → Prop) (_ : ds.length = 3) (h : sp__law_fit ds s Ψ) : ff__law_fit { nx := fun _ s => Ψ (.d .non) s, rt := Ψ } (startR ["start", "rows", "own", "found", "k", "states", "bad", "at"] ds) s := by
  obtain ⟨c, rs, st, rows, rfl, hc, hl, hr, q⟩ := h
  show ff__law_fit _ [_, _, _, _, _, _, _, _] _
  have hrl := wrow_map hr
  have cat : ∀ k, k < 6 → ∃ p, c[k]? = some p := fun k hk => ⟨_, List.getElem?_eq_getElem (l := c) (i := k) (by rw [hc.len]; exact hk)⟩
  walk_at "pd"
  refine for_go (fun t : List D => [.v (stD (some st)), .v (.lst (rows.map rowD)), .v (ownD c rs), .o (.lst t), .e, .e, .e, .e]) (fun i t => t = (fitsL c st rows).take i) [] rfl rfl ?_ ?_
  · rintro i x _ hd rfl
    obtain ⟨rfl, hi⟩ := rangeD_at hd
    have hi : i < 6 := hi
    obtain ⟨p, hp⟩ := cat i hi
    refine own_at ?_
    refine ix_at (k := i) (by omega) (by rw [List.getElem?_map, hp]; rfl) ?_
    walk_at "pn"
    refine And.intro rfl (And.intro (by rw [List.length_map]; omega) (And.intro (by rw [List.length_map]; omega) ?_))
    refine lc_filtR (fun j => !okAt p.1 p.2 st rows j) (by rw [List.length_map]; omega) ?_ ?_
    · intro j C N hj h1 h2
      have hj : j < rows.length := by rw [List.length_map] at hj; omega
      have er := List.getElem?_eq_getElem hj
      rw [ok_at er] at h1 h2
      generalize rows[j] = r at er h1 h2
      obtain ⟨x, o⟩ := r
      have m1 : (rows.map rowD)[j]? = some (rowD (x, o)) := by rw [List.getElem?_map, er]; rfl
      have m2 : (wsD p.1 p.2 st rs rs.length)[j]? = some (stD (some (stAt p.1 p.2 st rs (j + 1)))) := ws_at (by omega)
      rw [hr] at h1 h2
      generalize stAt p.1 p.2 st rs (j + 1) = z at h1 h2 m2
      refine ix_at (k := j) (by omega) m1 ?_
      rcases o with _ | _ | _
      · exact br_f rfl (br_f rfl (h2 rfl))
      · refine br_t rfl (ix_at (k := j) (by omega) m1 (ix_at (k := j) (by omega) m2 ?_))
        cases z
        · exact br_f (by decide +kernel) (h2 rfl)
        · exact br_t (by decide +kernel) (h1 rfl)
      · refine br_t rfl (ix_at (k := j) (by omega) m1 (ix_at (k := j) (by omega) m2 ?_))
        cases z
        · exact br_t (by decide +kernel) (h1 rfl)
        · exact br_f (by decide +kernel) (h2 rfl)
    walk_at "pn"
    refine And.intro (dok_lst (layL_map fun t => rfl)) (And.intro (dok_lst rfl) ?_)
    rw [eqv_lnil]
    have ef : (((List.range (Int.toNat ((rows.map rowD).length : Int))).filter fun j => !okAt p.1 p.2 st rows j).map fun (i : Nat) => D.int (0 + (i : Int))).isEmpty = fitB p.1 p.2 st rows := fit_iff (by
      rw [List.map_eq_nil_iff, List.filter_eq_nil_iff]
      constructor
      · intro h j r hjr
        have hj := (List.getElem?_eq_some_iff.mp hjr).1
        have := h j (List.mem_range.mpr (by rw [List.length_map]; omega))
        rw [ok_at hjr] at this
        simpa using this
      · intro h j hj
        have hj : j < rows.length := by have := List.mem_range.mp hj; rw [List.length_map] at this; omega
        have hjr := List.getElem?_eq_getElem hj
        rw [ok_at hjr, h j _ hjr]
        simp)
    rw [ef]
    refine And.intro (by rw [List.length_take, List.length_map, hc.len]; omega) ⟨rfl, _, rfl, ?_⟩
    have e9 : (fitsL c st rows)[i]? = some (.bl (fitB p.1 p.2 st rows)) := by rw [List.getElem?_map, hp]; rfl
    rw [List.take_add_one, e9]
    rfl
  · rintro _ rfl
    have e : (fitsL c st rows).take (rangeD 0 (Int.toNat 6)).length = fitsL c st rows := List.take_of_length_le (by rw [List.length_map, hc.len]; decide)
    rw [e]
    exact q
theorem fit_all {a b : Int} {st : Bool} {rows : List Row} : fitB a b st rows = true ↔ ∀ (j : Nat) (r : Row), rows[j]? = some r → okOf r.2 (stAt a b st (rows.map (·.1)) (j + 1)) = true := by
  unfold fitB
  rw [List.all_eq_true]
  constructor
  · intro h j r hr
    have := h j (List.mem_range.mpr (List.getElem?_eq_some_iff.mp hr).1)
    rw [ok_at hr] at this
    exact this
  · intro h j hj
    have hj := List.mem_range.mp hj
    have hr := List.getElem?_eq_getElem hj
    rw [ok_at hr]
    exact h j _ hr
abbrev LeP (p q : Int × Int) : Prop := p.1 ≤ q.1 ∧ p.2 ≤ q.2
abbrev fitP (st : Bool) (rows : List Row) (p : Int × Int) : Bool := fitB p.1 p.2 st rows
theorem fit_mid {p q r : Int × Int} {st : Bool} {rows : List Row} (h1 : LeP p q) (h2 : LeP q r) (v1 : p.1 < p.2) (v2 : q.1 < q.2) (f1 : fitP st rows p = true) (f2 : fitP st rows r = true) : fitP st rows q = true := by
  rw [fit_all] at f1 f2 ⊢
  intro j u hu
  have g1 := f1 j u hu
  have g2 := f2 j u hu
  have m1 := fun e => st_mono (s := st) (t := st) (rs := rows.map (·.1)) h1.1 h1.2 v1 id (j + 1) e
  have m2 := fun e => st_mono (s := st) (t := st) (rs := rows.map (·.1)) h2.1 h2.2 v2 id (j + 1) e
  rcases hu2 : u.2 with _ | _ | _
  · rfl
  · rw [hu2] at g2
    cases e : stAt q.1 q.2 st (rows.map (·.1)) (j + 1) with
    | false => rfl
    | true => rw [m2 e] at g2; cases g2
  · rw [hu2] at g1
    cases e : stAt p.1 p.2 st (rows.map (·.1)) (j + 1) with
    | false => rw [e] at g1; cases g1
    | true => rw [m1 e]; rfl
theorem fit_up {p q : Int × Int} {st : Bool} {rows : List Row} (h1 : LeP p q) (v1 : p.1 < p.2) (hk : ∀ r ∈ rows, r.2 = none ∨ r.2 = some true) (f1 : fitP st rows p = true) : fitP st rows q = true := by
  rw [fit_all] at f1 ⊢
  intro j u hu
  have g1 := f1 j u hu
  have m1 := fun e => st_mono (s := st) (t := st) (rs := rows.map (·.1)) h1.1 h1.2 v1 id (j + 1) e
  rcases hk u (List.mem_of_getElem? hu) with hu2 | hu2
  · rw [hu2]; rfl
  · rw [hu2] at g1 ⊢
    cases e : stAt p.1 p.2 st (rows.map (·.1)) (j + 1) with
    | false => rw [e] at g1; cases g1
    | true => rw [m1 e]; rfl
theorem fit_dn {q r : Int × Int} {st : Bool} {rows : List Row} (h2 : LeP q r) (v2 : q.1 < q.2) (hk : ∀ r ∈ rows, r.2 = none ∨ r.2 = some false) (f2 : fitP st rows r = true) : fitP st rows q = true := by
  rw [fit_all] at f2 ⊢
  intro j u hu
  have g2 := f2 j u hu
  have m2 := fun e => st_mono (s := st) (t := st) (rs := rows.map (·.1)) h2.1 h2.2 v2 id (j + 1) e
  rcases hk u (List.mem_of_getElem? hu) with hu2 | hu2
  · rw [hu2]; rfl
  · rw [hu2] at g2 ⊢
    cases e : stAt q.1 q.2 st (rows.map (·.1)) (j + 1) with
    | false => rfl
    | true => rw [m2 e] at g2; cases g2
def f6 (L : List Bool) (i : Nat) : Bool := L.getD i false
def iv6 (L : List Bool) : Bool := (List.range 6).all fun i => (List.range 6).all fun j => (List.range 6).all fun k => !(decide (i ≤ j) && decide (j ≤ k) && f6 L i && f6 L k) || f6 L j
def up6 (L : List Bool) : Bool := (List.range 6).all fun i => (List.range 6).all fun j => !(decide (i ≤ j) && f6 L i) || f6 L j
def dn6 (L : List Bool) : Bool := (List.range 6).all fun i => (List.range 6).all fun j => !(decide (i ≤ j) && f6 L j) || f6 L i
def chk6 (L : List Bool) : Bool := match (List.range 6).filter (f6 L) with
  | [] => true
  | lo :: r => match (lo :: r).getLast? with
    | some hi => decide ((lo :: r).length + lo = hi + 1) && decide (lo ≤ hi) && (!up6 L || decide (hi = 5)) && (!dn6 L || decide (lo = 0))
    | none => false
theorem all6 : ∀ a b c d e f : Bool, iv6 [a, b, c, d, e, f] = true → chk6 [a, b, c, d, e, f] = true := by decide +kernel
theorem yes6 {L : List Bool} (hl : L.length = 6) (hi : iv6 L = true) : (List.range 6).filter (f6 L) = [] ∨ ∃ lo r hi, (List.range 6).filter (f6 L) = lo :: r ∧ (lo :: r).getLast? = some hi ∧ (lo :: r).length + lo = hi + 1 ∧ lo ≤ hi ∧ (up6 L = true → hi = 5) ∧ (dn6 L = true → lo = 0) := by
  match L, hl with
  | [a, b, c, d, e, f], _ =>
    have := all6 a b c d e f hi
    generalize hL : [a, b, c, d, e, f] = L at this ⊢
    unfold chk6 at this
    cases e : (List.range 6).filter (f6 L) with
    | nil => exact .inl rfl
    | cons lo r =>
      rw [e] at this
      dsimp only at this
      cases e2 : (lo :: r).getLast? with
      | none => rw [e2] at this; cases this
      | some hi =>
        rw [e2] at this
        simp only [Bool.and_eq_true, decide_eq_true_eq, Bool.or_eq_true, Bool.not_eq_true'] at this
        obtain ⟨⟨⟨h1, h2⟩, h3⟩, h4⟩ := this
        exact .inr ⟨lo, r, hi, rfl, e2, h1, h2, fun z => h3.resolve_left (by rw [z]; simp), fun z => h4.resolve_left (by rw [z]; simp)⟩
theorem b3 {a b c : Bool} {p q : Prop} [Decidable p] [Decidable q] (h : p → q → a = true → b = true → c = true) : (!(decide p && decide q && a && b) || c) = true := by
  by_cases hp : p <;> by_cases hq : q <;> cases a <;> cases b <;> cases c <;> simp_all
theorem b2 {a c : Bool} {p : Prop} [Decidable p] (h : p → a = true → c = true) : (!(decide p && a) || c) = true := by
  by_cases hp : p <;> cases a <;> cases c <;> simp_all
section
variable {c : List (Int × Int)} {st : Bool} {rows : List Row}
theorem f6_at {i : Nat} {p : Int × Int} (h : c[i]? = some p) : f6 (c.map (fitP st rows)) i = fitP st rows p := by
  unfold f6
  rw [List.getD_eq_getElem?_getD, List.getElem?_map, h]
  rfl
theorem chn_at (hc : Chn c) {i : Nat} (hi : i ∈ List.range 6) : ∃ p, c[i]? = some p ∧ p.1 < p.2 := by
  have hi := List.mem_range.mp hi
  have e := List.getElem?_eq_getElem (l := c) (i := i) (by rw [hc.len]; exact hi)
  exact ⟨_, e, (hc.ok _ (List.mem_of_getElem? e)).2.1⟩
theorem iv_ok (hc : Chn c) : iv6 (c.map (fitP st rows)) = true := by
  unfold iv6
  rw [List.all_eq_true]
  intro i hi
  rw [List.all_eq_true]
  intro j hj
  rw [List.all_eq_true]
  intro k hk
  obtain ⟨p, hp, vp⟩ := chn_at hc hi
  obtain ⟨q, hq, vq⟩ := chn_at hc hj
  obtain ⟨r, hr, _⟩ := chn_at hc hk
  rw [f6_at hp, f6_at hq, f6_at hr]
  exact b3 fun h1 h2 f1 f2 => fit_mid (hc.up i j p q h1 hp hq) (hc.up j k q r h2 hq hr) vp vq f1 f2
theorem up_ok (hc : Chn c) (hk : ∀ r ∈ rows, r.2 = none ∨ r.2 = some true) : up6 (c.map (fitP st rows)) = true := by
  unfold up6
  rw [List.all_eq_true]
  intro i hi
  rw [List.all_eq_true]
  intro j hj
  obtain ⟨p, hp, vp⟩ := chn_at hc hi
  obtain ⟨q, hq, vq⟩ := chn_at hc hj
  rw [f6_at hp, f6_at hq]
  exact b2 fun h1 f1 => fit_up (hc.up i j p q h1 hp hq) vp hk f1
theorem dn_ok (hc : Chn c) (hk : ∀ r ∈ rows, r.2 = none ∨ r.2 = some false) : dn6 (c.map (fitP st rows)) = true := by
  unfold dn6
  rw [List.all_eq_true]
  intro i hi
  rw [List.all_eq_true]
  intro j hj
  obtain ⟨p, hp, vp⟩ := chn_at hc hi
  obtain ⟨q, hq, vq⟩ := chn_at hc hj
  rw [f6_at hp, f6_at hq]
  exact b2 fun h1 f1 => fit_dn (hc.up i j p q h1 hp hq) vp hk f1
end
theorem kept_ok {st : Bool} {rows : List Row} {rs : List Int} (hr : rows.map (·.1) = rs) (hs : SmI rs) (hl : rs.length ≤ 40) : (logD st rows).rok 8 = true ∧ (logD st rows).rw ≤ 16777216 := by
  have s1 : ∀ (n : Nat) (o : Option Bool), (stD o).rok n = true := fun n o => by
    rcases o with _ | _ | _ <;> cases n <;> (unfold D.rok; decide +kernel)
  have s2 : ∀ (o : Option Bool), (stD o).rw = 64 := fun o => by rcases o with _ | _ | _ <;> rfl
  have h1 : rokL 6 (rows.map rowD) = true := rokL_of fun d hd => by
    obtain ⟨p, hp, rfl⟩ := List.mem_map.mp hd
    have hp2 := hs p.1 (hr ▸ List.mem_map.mpr ⟨p, hp, rfl⟩)
    show rokL 5 [.int p.1, stD p.2] = true
    rw [rokL, rokL, rokL, s1, rok_int (by omega) (by omega)]
    rfl
  have h2 : rwL (rows.map rowD) ≤ 200 * (rows.map rowD).length := rwL_of fun d hd => by
    obtain ⟨p, hp, rfl⟩ := List.mem_map.mp hd
    show (3 + rwL [.int p.1, stD p.2]) + 2 ≤ 200
    rw [rwL, rwL, rwL, s2]
    show 3 + (64 + 2 + (64 + 2 + 0)) + 2 ≤ 200
    decide
  rw [List.length_map, wrow_map hr] at h2
  constructor
  · show rokL 7 [stD (some st), .tup _] = true
    rw [rokL, rokL, rokL, s1]
    show (_ && (rokL 6 _ && _)) = true
    rw [h1]
    rfl
  · show 3 + rwL [stD (some st), .tup _] ≤ _
    rw [rwL, rwL, rwL, s2]
    show 3 + (64 + 2 + ((3 + rwL _) + 2 + 0)) ≤ _
    omega
theorem bl_lay (l : List D) (h : ∀ d ∈ l, ∃ b, d = .bl b) : (D.lst l).lay 32 = true := by
  rw [D.lay]
  exact layL_mem fun d hd => by obtain ⟨b, rfl⟩ := h d hd; rfl
theorem pp__law_are_fits_right (ds : List D) (s : (BA K).S) (Ψ : Ret → (BA K).S → Prop) (_ : ds.length = 5) (h : sp__law_are_fits_right ds s Ψ) : ff__law_are_fits_right { nx := fun _ s => Ψ (.d .non) s, rt := Ψ } (startR ["chain", "start", "rows", "own", "kind", "kept", "yes", "told", "due", "k", "marks", "one"] ds) s := by
  obtain ⟨c, rs, st, rows, kind, rfl, hc, hl, hs, hr, hk, q⟩ := h
  show ff__law_are_fits_right _ [_, _, _, _, _, _, _, _, _, _, _, _] _
  have hrl := wrow_map hr
  have hcl := hc.len
  walk_at "pd"
  refine lc_mapT mpD (fun p => .bl (fitP st rows p)) c (by rfl) (by omega) ?_ ?_
  · intro p C hp hC
    exact Sp.mk ⟨p.1, p.2, st, rows, rfl, by omega, hC⟩
  refine Sp.mk ⟨c, rs, st, rows, rfl, hc, hl, hr, ?_⟩
  walk_at "pn"
  walk_at "pd"
  refine lc_all (fun d => d = .bl true) ?_ (fun d C N hd hC hN => ?_) ?_
  · rw [List.length_map]; omega
  · obtain ⟨p, _, rfl⟩ := List.mem_map.mp hd
    exact br_t rfl (And.intro trivial (hC _ rfl))
  intro acc ha _
  refine Exists.intro _ ⟨rep_true ha, ?_⟩
  rw [rep_all]
  refine br_f rfl ?_
  have lay : (D.lst (c.map fun p => D.bl (fitP st rows p))).lay 32 = true := bl_lay _ fun d hd => by
    obtain ⟨p, _, rfl⟩ := List.mem_map.mp hd
    exact ⟨_, rfl⟩
  refine And.intro (lay_dok lay) (And.intro (lay_dok lay) ?_)
  refine br_f (by rw [eqv_self lay]; rfl) ?_
  have ko := kept_ok (st := st) hr hs hl
  refine RpP.mk ko.1 (.inr ⟨_, rfl⟩) ko.2 ?_
  refine RpP.mk ko.1 (.inr ⟨_, rfl⟩) ko.2 ?_
  refine br_ndf (by rfl) ?_
  walk_at "pd"
  refine lc_filtR (f6 (c.map (fitP st rows))) (by decide) ?_ ?_
  · intro i C N hi h1 h2
    have hi : i < 6 := hi
    obtain ⟨p, hp, _⟩ := chn_at hc (List.mem_range.mpr hi)
    rw [f6_at hp] at h1 h2
    refine ix_at (k := i) (by omega) (by rw [List.getElem?_map, hp]; rfl) ?_
    exact br_any h1 h2
  have e0 : PyData.eqv (D.lst []).py (D.lst []).py = true := eqv_lnil []
  have dn : DOk (.lst []) := dok_lst rfl
  rcases yes6 (L := c.map (fitP st rows)) (by rw [List.length_map]; exact hcl) (iv_ok hc) with e | ⟨lo, r, hi, e, e2, e3, e4, e5, e6⟩
  · have e : (List.range (Int.toNat 6)).filter (f6 (c.map (fitP st rows))) = [] := e
    rw [e]
    have fin : fRet (fOrV (fBin dEq (fV 6) (fLst fNil)) (fBin dEq (fBin dAdd (fBin (dI0 fun i j => .int (i - j)) (fBin dIx (fV 6) (fUn dNeg (fC (.int 1)))) (fBin (dIxN 0) (fV 6) (fC (.int 0)))) (fC (.int 1))) (fCB dLen (fCons (fV 6) fNil)))) { nx := fun _ s => Ψ (.d .non) s, rt := Ψ } [.v (chD c), .v (stD (some st)), .v (.lst (rows.map rowD)), .v (ownD c rs), .v (.str kind), .v (.tup [stD (some st), .tup (rows.map rowD)]), .v (.lst []), .v (.lst (c.map fun p => .bl (fitP st rows p))), .v (.lst (fitsL c st rows)), .e, .e, .e] s := by
      refine And.intro dn (And.intro dn (br_t e0 ?_))
      show Ψ (.d (.bl (PyData.eqv (D.lst []).py (D.lst []).py))) s
      rw [e0]
      exact q
    have ne : (!PyData.eqv (D.lst []).py (D.lst []).py) = false := by rw [e0]; rfl
    rcases hk with ⟨rfl, hk⟩ | ⟨rfl, hk⟩ | rfl
    · exact br_t (by decide +kernel) (And.intro dn (And.intro dn (br_f ne (br_f rfl (br_f (by decide +kernel) (br_f rfl fin))))))
    · exact br_f (by decide +kernel) (br_f rfl (br_t (by decide +kernel) (And.intro dn (And.intro dn (br_f ne (br_f rfl fin))))))
    · exact br_f (by decide +kernel) (br_f rfl (br_f (by decide +kernel) (br_f rfl fin)))
  · have e : (List.range (Int.toNat 6)).filter (f6 (c.map (fitP st rows))) = lo :: r := e
    rw [e]
    have dl : DOk (.lst ((lo :: r).map fun (i : Nat) => D.int (0 + (i : Int)))) := dok_lst (layL_map fun t => rfl)
    have e7 : PyData.eqv (D.lst ((lo :: r).map fun (i : Nat) => D.int (0 + (i : Int)))).py (D.lst []).py = false := eqv_lnil _
    have ne : (!PyData.eqv (D.lst ((lo :: r).map fun (i : Nat) => D.int (0 + (i : Int)))).py (D.lst []).py) = true := by rw [e7]; rfl
    have la : ((lo :: r).map fun (i : Nat) => D.int (0 + (i : Int))).getLast? = some (.int (0 + (hi : Int))) := by rw [List.getLast?_map, e2]; rfl
    have fin : fRet (fOrV (fBin dEq (fV 6) (fLst fNil)) (fBin dEq (fBin dAdd (fBin (dI0 fun i j => .int (i - j)) (fBin dIx (fV 6) (fUn dNeg (fC (.int 1)))) (fBin (dIxN 0) (fV 6) (fC (.int 0)))) (fC (.int 1))) (fCB dLen (fCons (fV 6) fNil)))) { nx := fun _ s => Ψ (.d .non) s, rt := Ψ } [.v (chD c), .v (stD (some st)), .v (.lst (rows.map rowD)), .v (ownD c rs), .v (.str kind), .v (.tup [stD (some st), .tup (rows.map rowD)]), .v (.lst ((lo :: r).map fun (i : Nat) => D.int (0 + (i : Int)))), .v (.lst (c.map fun p => .bl (fitP st rows p))), .v (.lst (fitsL c st rows)), .e, .e, .e] s := by
      refine And.intro dl (And.intro dn (br_f e7 ?_))
      refine ix_last la ?_
      show Ψ (.d (.bl (decide (0 + (hi : Int) - (0 + (lo : Int)) + 1 = (((lo :: r).map fun (i : Nat) => D.int (0 + (i : Int))).length : Int))))) s
      rw [decide_eq_true (by rw [List.length_map]; omega)]
      exact q
    rcases hk with ⟨rfl, hk⟩ | ⟨rfl, hk⟩ | rfl
    · have := e5 (up_ok hc hk)
      refine br_t (by decide +kernel) (And.intro dl (And.intro dn (br_t ne ?_)))
      refine ix_last la ?_
      refine br_ndf (by show (0 : Int) + (hi : Int) = 5; omega) ?_
      exact br_f (by decide +kernel) (br_f rfl fin)
    · have := e6 (dn_ok hc hk)
      refine br_f (by decide +kernel) (br_f rfl (br_t (by decide +kernel) (And.intro dl (And.intro dn (br_t ne ?_)))))
      exact br_ndf (by show (0 : Int) + (lo : Int) = 0; omega) fin
    · exact br_f (by decide +kernel) (br_f rfl (br_f (by decide +kernel) (br_f rfl fin)))
theorem eqv_two (x y u v : Int) : PyData.eqv (D.tup [.int x, .int y]).py (D.tup [.int u, .int v]).py = decide ((x, y) = (u, v)) := by
  simp only [D.py, pyL, PyData.eqv, PyData.eqvAll, Bool.and_true, Prod.mk.injEq]
  by_cases h : x = u <;> by_cases h2 : y = v <;> simp [h, h2]
theorem dok_two (x y : Int) : DOk (.tup [.int x, .int y]) := lay_dok rfl
theorem differ {c : List (Int × Int)} {rs : List Int} (hr : Rdg c rs) {k : Nat} {p q : Int × Int} (hp : c[k]? = some p) (hq : c[k + 1]? = some q) (vp : p.1 < p.2) (vq : q.1 < q.2) (le : LeP p q) (ne : ¬ (p.1 = q.1 ∧ p.2 = q.2)) (st : Bool) : ∃ j, j < rs.length ∧ stAt p.1 p.2 st rs (j + 1) ≠ stAt q.1 q.2 st rs (j + 1) := by
  by_cases h1 : p.1 < q.1
  · obtain ⟨i, e1, e2⟩ := hr.on k p q hp hq
    refine ⟨i + 1, (List.getElem?_eq_some_iff.mp e2).1, ?_⟩
    have a1 : stAt p.1 p.2 st rs (i + 1 + 1) = false := by
      rw [st_one e2, st_one e1]
      unfold step
      rw [if_neg (by omega)]
      split
      · rfl
      · rw [if_neg (by have := le.2; omega), if_pos le.2]
    have a2 : stAt q.1 q.2 st rs (i + 1 + 1) = true := by
      rw [st_one e2]
      unfold step
      rw [if_pos (Int.le_refl _)]
    rw [a1, a2]
    decide
  · have h2 : p.2 < q.2 := by have := le.1; have := le.2; omega
    obtain ⟨i, e1, e2⟩ := hr.off k p q hp hq
    refine ⟨i + 1, (List.getElem?_eq_some_iff.mp e2).1, ?_⟩
    have a1 : stAt p.1 p.2 st rs (i + 1 + 1) = false := by
      rw [st_one e2]
      unfold step
      rw [if_neg (by omega), if_pos (Int.le_refl _)]
    have a2 : stAt q.1 q.2 st rs (i + 1 + 1) = true := by
      rw [st_one e2, st_one e1]
      unfold step
      rw [if_pos le.1]
      split
      · rfl
      · rw [if_neg (by omega)]
    rw [a1, a2]
    decide
theorem fit_set {a b : Int} {st w : Bool} {rs : List Int} {j : Nat} {x : Int} (hx : rs[j]? = some x) : fitB a b st ((rs.map fun y => ((y, none) : Row)).set j (x, some w)) = (w == stAt a b st rs (j + 1)) := by
  have hj := (List.getElem?_eq_some_iff.mp hx).1
  have em : ((rs.map fun y => ((y, none) : Row)).set j (x, some w)).map (·.1) = rs := by
    rw [List.map_set, List.map_map]
    have : (rs.map ((·.1) ∘ fun y => ((y, none) : Row))) = rs := by
      have e : ((·.1) ∘ fun y => ((y, none) : Row)) = (id : Int → Int) := rfl
      rw [e, List.map_id]
    rw [this]
    obtain ⟨_, rfl⟩ := List.getElem?_eq_some_iff.mp hx
    exact List.set_getElem_self _
  rw [Bool.eq_iff_iff, fit_all, em]
  constructor
  · intro h
    have := h j (x, some w) (by rw [List.getElem?_set_self (by rw [List.length_map]; exact hj)])
    exact this
  · intro h i r hi
    by_cases e : j = i
    · subst e
      rw [List.getElem?_set_self (by rw [List.length_map]; exact hj)] at hi
      cases hi
      exact h
    · rw [List.getElem?_set_ne e, List.getElem?_map] at hi
      cases e2 : rs[i]? with
      | none => rw [e2] at hi; cases hi
      | some y => rw [e2] at hi; cases hi; rfl
theorem cut_mem {α : Type} {l : List α} {lo hi : Option Int} {x : α} (h : x ∈ cutL l lo hi) : x ∈ l := by
  unfold cutL at h
  exact List.mem_of_mem_drop (List.mem_of_mem_take h)
theorem cut_le {α : Type} (l : List α) (lo hi : Option Int) : (cutL l lo hi).length ≤ l.length := by
  unfold cutL
  rw [List.length_take, List.length_drop]
  omega
theorem pp__law_are_neighbours_told (ds : List D) (s : (BA K).S) (Ψ : Ret → (BA K).S → Prop) (_ : ds.length = 4) (h : sp__law_are_neighbours_told ds s Ψ) : ff__law_are_neighbours_told { nx := fun _ s => Ψ (.d .non) s, rt := Ψ } (startR ["chain", "start", "readings", "own", "k", "apart", "at", "rows", "x"] ds) s := by
  obtain ⟨c, rs, st, rfl, hc, hr, q⟩ := h
  show ff__law_are_neighbours_told _ [_, _, _, _, _, _, _, _, _] _
  have hrl := hr.len
  have cat : ∀ k, k < 6 → ∃ p, c[k]? = some p ∧ p.1 < p.2 := fun k hk => chn_at hc (List.mem_range.mpr hk)
  refine And.intro (by decide) (And.intro (by decide) ?_)
  refine for_go (fun _ : Unit => [.v (chD c), .v (stD (some st)), .v (.lst (rs.map D.int)), .v (ownD c rs), .e, .e, .e, .e, .e]) (fun _ _ => True) () rfl trivial ?_ ?_
  · rintro k d _ hd _
    obtain ⟨rfl, hk⟩ := rangeD_at hd
    have hk : k < 5 := hk
    obtain ⟨p, hp, vp⟩ := cat k (by omega)
    obtain ⟨u, hu, vu⟩ := cat (k + 1) (by omega)
    have le : LeP p u := hc.up k (k + 1) p u (by omega) hp hu
    have op : (c.map (wlD st rs))[k]? = some (wlD st rs p) := by rw [List.getElem?_map, hp]; rfl
    have ou : (c.map (wlD st rs))[k + 1]? = some (wlD st rs u) := by rw [List.getElem?_map, hu]; rfl
    have cp : (c.map mpD)[k]? = some (mpD p) := by rw [List.getElem?_map, hp]; rfl
    have cu : (c.map mpD)[k + 1]? = some (mpD u) := by rw [List.getElem?_map, hu]; rfl
    let pr : Nat → Bool := fun j => stAt p.1 p.2 st rs (j + 1) != stAt u.1 u.2 st rs (j + 1)
    refine And.intro rfl (And.intro (by rw [List.length_map]; omega) (And.intro (by rw [List.length_map]; omega) ?_))
    refine lc_filtR pr (by rw [List.length_map]; omega) ?_ ?_
    · intro j C N hj h1 h2
      have hj : j < rs.length := by rw [List.length_map] at hj; omega
      refine own_at (ix_at (k := k) (by omega) op ?_)
      refine ix_at (k := j) (by omega) (ws_at hj) ?_
      refine own_at (ix_at (k := k + 1) (by omega) ou ?_)
      refine ix_at (k := j) (by omega) (ws_at hj) ?_
      have e : pr j = (stAt p.1 p.2 st rs (j + 1) != stAt u.1 u.2 st rs (j + 1)) := rfl
      rw [e] at h1 h2
      generalize stAt p.1 p.2 st rs (j + 1) = x at h1 h2
      generalize stAt u.1 u.2 st rs (j + 1) = y at h1 h2
      cases x <;> cases y
      · exact br_f (by decide +kernel) (h2 rfl)
      · exact br_t (by decide +kernel) (h1 rfl)
      · exact br_t (by decide +kernel) (h1 rfl)
      · exact br_f (by decide +kernel) (h2 rfl)
    have em : (((List.range (Int.toNat ((rs.map D.int).length : Int))).filter pr).map fun (i : Nat) => D.int (0 + (i : Int))).isEmpty = decide ((p.1, p.2) = (u.1, u.2)) := by
      rw [Bool.eq_iff_iff, List.isEmpty_iff, List.map_eq_nil_iff, List.filter_eq_nil_iff, decide_eq_true_eq, Prod.mk.injEq]
      constructor
      · intro h
        refine Classical.byContradiction fun ne => ?_
        obtain ⟨j, hj, hd⟩ := differ hr hp hu vp vu le ne st
        have := h j (List.mem_range.mpr (by rw [List.length_map]; omega))
        exact this (by simpa [pr] using hd)
      · rintro ⟨e1, e2⟩ j _
        simp [pr, e1, e2]
    have mem : ∀ d ∈ ((List.range (Int.toNat ((rs.map D.int).length : Int))).filter pr).map fun (i : Nat) => D.int (0 + (i : Int)), ∃ (j : Nat) (x : Int), d = .int (0 + (j : Int)) ∧ rs[j]? = some x ∧ stAt p.1 p.2 st rs (j + 1) = false ∧ stAt u.1 u.2 st rs (j + 1) = true := fun d hd => by
      obtain ⟨j, hj, rfl⟩ := List.mem_map.mp hd
      obtain ⟨h1, h2⟩ := List.mem_filter.mp hj
      have hj : j < rs.length := by have := List.mem_range.mp h1; rw [List.length_map] at this; omega
      have mono := st_mono (p := p) (q := u) (s := st) (t := st) (rs := rs) le.1 le.2 vp id (j + 1)
      have h2 : (stAt p.1 p.2 st rs (j + 1) != stAt u.1 u.2 st rs (j + 1)) = true := h2
      refine ⟨j, _, rfl, List.getElem?_eq_getElem hj, ?_⟩
      cases e1 : stAt p.1 p.2 st rs (j + 1) with
      | true => rw [e1, mono e1] at h2; cases h2
      | false => rw [e1] at h2; exact ⟨rfl, by simpa using h2⟩
    have lay : DOk (.lst (((List.range (Int.toNat ((rs.map D.int).length : Int))).filter pr).map fun (i : Nat) => D.int (0 + (i : Int)))) := dok_lst (layL_map fun t => rfl)
    have alen : (((List.range (Int.toNat ((rs.map D.int).length : Int))).filter pr).map fun (i : Nat) => D.int (0 + (i : Int))).length ≤ 40 := by
      rw [List.length_map]
      have := List.length_filter_le pr (List.range (Int.toNat ((rs.map D.int).length : Int)))
      have en : Int.toNat ((rs.map D.int).length : Int) = rs.length := by rw [List.length_map]; rfl
      rw [List.length_range, en] at this
      rw [en]
      omega
    have lays : DOk (.lst []) := dok_lst rfl
    walk_at "pn"
    generalize (((List.range (Int.toNat ((rs.map D.int).length : Int))).filter pr).map fun (i : Nat) => D.int (0 + (i : Int))) = apart at em mem lay alen
    refine And.intro lay (And.intro lays ?_)
    refine ix_at (k := k) (by omega) cp ?_
    refine ix_at (k := k + 1) (by omega) cu ?_
    refine And.intro (dok_two _ _) (And.intro (dok_two _ _) ?_)
    refine br_ndf (by rw [eqv_lnil, eqv_two, em]) ?_
    walk_at "pn"
    have c1 := cut_le apart none (some 1)
    have c2 := cut_le apart (some (-1)) none
    refine And.intro (by show (cutL apart none (some 1)).length + (cutL apart (some (-1)) none).length ≤ 16777216; omega) ?_
    refine for_go (fun _ : Unit => [.v (chD c), .v (stD (some st)), .v (.lst (rs.map D.int)), .v (ownD c rs), .v (.int (0 + (k : Int))), .v (.lst apart), .e, .e, .e]) (fun _ _ => True) () rfl trivial ?_ ?_
    · rintro n d _ hd _
      obtain ⟨j, x, rfl, hx, s1, s2⟩ := mem d ((List.mem_append.mp (List.mem_of_getElem? hd)).elim cut_mem cut_mem)
      have hj := (List.getElem?_eq_some_iff.mp hx).1
      have rx : (rs.map D.int)[j]? = some (.int x) := by rw [List.getElem?_map, hx]; rfl
      walk_at "pd"
      refine lc_mapT D.int (fun y => rowD (y, none)) rs (by rfl) (by omega) (fun y C hy hC => hC) ?_
      walk_at "pn"
      have e0 : rs.map (fun y => rowD (y, none)) = (rs.map fun y => ((y, none) : Row)).map rowD := by rw [List.map_map]; rfl
      rw [e0]
      have eset : ∀ (o o2 : Option Bool) (l : List Row), l.length = rs.length → (l.map rowD).set (0 + (j : Int)).toNat (rowD (x, o)) = (l.set j (x, o)).map rowD := fun o _ l _ => by
        rw [show (0 + (j : Int)).toNat = j by omega, List.map_set]
      refine ix_at (k := j) (by omega) rx ?_
      refine set_go (by omega) (by rw [List.length_map, List.length_map]; omega) ?_
      have e1 := eset (some true) none (rs.map fun y => ((y, none) : Row)) (List.length_map _)
      have e1 : ((rs.map fun y => ((y, none) : Row)).map rowD).set (0 + (j : Int)).toNat (.tup [.int x, .str "on"]) = _ := e1
      rw [e1]
      walk_at "pn"
      have len : ∀ w : Option Bool, ((rs.map fun y => ((y, none) : Row)).set j (x, w)).length ≤ 1000 := fun w => by rw [List.length_set, List.length_map]; omega
      refine ix_at (k := k) (by omega) cp ?_
      refine Sp.mk ⟨p.1, p.2, st, _, rfl, len _, ?_⟩
      rw [fit_set hx, s1]
      refine br_f rfl ?_
      refine ix_at (k := k + 1) (by omega) cu ?_
      refine Sp.mk ⟨u.1, u.2, st, _, rfl, len _, ?_⟩
      rw [fit_set hx, s2]
      refine br_f rfl ?_
      refine ix_at (k := j) (by omega) rx ?_
      refine set_go (by omega) (by rw [List.length_map, List.length_set, List.length_map]; omega) ?_
      have e2 := eset (some false) none ((rs.map fun y => ((y, none) : Row)).set j (x, some true)) (by rw [List.length_set, List.length_map])
      rw [List.set_set] at e2
      have e2 : (((rs.map fun y => ((y, none) : Row)).set j (x, some true)).map rowD).set (0 + (j : Int)).toNat (.tup [.int x, .str "off"]) = _ := e2
      rw [e2]
      walk_at "pn"
      refine ix_at (k := k) (by omega) cp ?_
      refine Sp.mk ⟨p.1, p.2, st, _, rfl, len _, ?_⟩
      rw [fit_set hx, s1]
      refine br_f rfl ?_
      refine ix_at (k := k + 1) (by omega) cu ?_
      refine Sp.mk ⟨u.1, u.2, st, _, rfl, len _, ?_⟩
      rw [fit_set hx, s2]
      exact br_f rfl ⟨rfl, (), rfl, trivial⟩
    · rintro _ _
      exact ⟨rfl, (), rfl, trivial⟩
  · rintro _ _
    exact q
theorem pp_law (ds : List D) (s : (BA K).S) (Ψ : Ret → (BA K).S → Prop) (_ : ds.length = 1) (h : sp_law ds s Ψ) : ff_law { nx := fun _ s => Ψ (.d .non) s, rt := Ψ } (startR ["script", "bag", "chain", "readings", "own", "start", "share", "ons", "offs", "few", "one", "other", "rows", "kind", "marks"] ds) s := by
  obtain ⟨r, a, ns, rfl, rfl, hn, q⟩ := h
  show ff_law _ [_, _, _, _, _, _, _, _, _, _, _, _, _, _, _] _
  refine Sp.mk ⟨r, a, ns, rfl, rfl, hn, fun b l => ?_⟩
  walk_at "pn"
  refine Sp.mk ⟨b, l, rfl, rfl, fun c hc => ?_⟩
  walk_at "pn"
  refine Sp.mk ⟨b, l, c, rfl, rfl, hc, fun rs hr => ?_⟩
  walk_at "pn"
  have hrl := hr.len
  have hcl := hc.len
  walk_at "pd"
  have walk : ∀ (st : Bool) (g : FG) (fe : FE (BA K)) (ρ : List Sl) (Φ : Mo → (BA K).S → Prop), (∀ (p : Int × Int) (C : D → (BA K).S → Prop), p ∈ c → C (wlD st rs p) (.bag b l) → g (mpD p) ρ fun ρ' => fe ρ' (.bag b l) C) → Φ (.lst (c.map (wlD st rs))) (.bag b l) → LcP (c.map mpD) g (fun _ s Φ => Φ true s) fe ρ (.bag b l) Φ := fun st g fe ρ Φ h1 h2 => lc_mapT mpD (wlD st rs) c rfl (by omega) h1 h2
  refine walk true _ _ _ _ (fun p C hp hC => Sp.mk ⟨p.1, p.2, true, rs, rfl, by omega, (hc.ok p hp).2.1, hC⟩) ?_
  walk_at "pd"
  refine walk false _ _ _ _ (fun p C hp hC => Sp.mk ⟨p.1, p.2, false, rs, rfl, by omega, (hc.ok p hp).2.1, hC⟩) ?_
  refine And.intro ⟨(show ([.inr "on", .inr "off"] : List L2.Key).Nodup by decide +kernel), (show 2 ≤ 15 by decide)⟩ ?_
  walk_at "pn"
  refine Sp.mk ⟨c, rs, rfl, hc, hr, ?_⟩
  refine br_f rfl ?_
  walk_at "pd"
  refine for_goT (fun st : Bool => stD (some st)) [true, false] (by rfl) (fun _ : Unit => [.v (.any (.ref a)), .v (.any (.ref b)), .v (chD c), .v (.lst (rs.map D.int)), .v (ownD c rs), .e, .e, .e, .e, .e, .e, .e, .e, .e, .e]) (fun _ _ => True) () rfl trivial ?_ ?_
  · rintro pre st post _ _ _
    have get : ∀ i : Int, 0 ≤ i → i < 6 → ∃ p : Int × Int, (c.map (wlD st rs))[i.toNat]? = some (wlD st rs p) := fun i h0 h1 => by
      have e := List.getElem?_eq_getElem (l := c) (i := i.toNat) (by omega)
      exact ⟨_, by rw [List.getElem?_map, e]; rfl⟩
    refine draw_go (by decide) (by decide) fun u u0 u1 => ?_
    refine draw_go (by decide) (by decide) fun v v0 v1 => ?_
    walk_at "pn"
    refine draw_go (by decide) (by decide) fun w w0 w1 => ?_
    walk_at "pn"
    obtain ⟨p1, e1⟩ := get (max u v) (by omega) (by omega)
    obtain ⟨p2, e2⟩ := get (min u v) (by omega) (by omega)
    refine own_at (ix_at (k := (max u v).toNat) (by omega) e1 ?_)
    refine Sp.mk ⟨b, l, rs, p1.1, p1.2, st, true, _, rfl, rfl, by omega, fun ons n1 n2 => ?_⟩
    walk_at "pn"
    refine own_at (ix_at (k := (min u v).toNat) (by omega) e2 ?_)
    refine draw_go (by decide) (by decide) fun x x0 x1 => ?_
    refine Sp.mk ⟨b, l, rs, p2.1, p2.2, st, false, _, rfl, rfl, by omega, fun offs m1 m2 => ?_⟩
    walk_at "pn"
    refine own_at ?_
    refine draw_go (by decide) (by decide) fun y y0 y1 => ?_
    obtain ⟨p3, e3⟩ := get y y0 y1
    refine ix_at (k := y.toNat) (by omega) e3 ?_
    refine Sp.mk ⟨b, l, rs, p3.1, p3.2, st, false, _, rfl, rfl, by omega, fun few k1 k2 => ?_⟩
    walk_at "pn"
    have lon := wrow_map n1
    have loff := wrow_map m1
    refine Sp.mk ⟨ons, few, rfl, by omega, by rw [n1, k1], fun b1 j1 => ?_⟩
    refine Sp.mk ⟨offs, ons, rfl, by omega, by rw [n1, m1], fun b2 j2 => ?_⟩
    refine for_goT (fun t : List Row × Str => .tup [.lst (t.1.map rowD), .str t.2]) [(ons, "on"), (offs, "off"), (b1, "both"), (b2, "both")] (by rfl) (fun _ : Unit => _) (fun _ _ => True) () rfl trivial ?_ ?_
    · rintro pre2 t post2 _ ht _
      have ht : t ∈ [(ons, ("on" : Str)), (offs, "off"), (b1, "both"), (b2, "both")] := ht ▸ by simp
      have hk : t.1.map (·.1) = rs ∧ ((t.2 = "on" ∧ ∀ r ∈ t.1, r.2 = none ∨ r.2 = some true) ∨ (t.2 = "off" ∧ ∀ r ∈ t.1, r.2 = none ∨ r.2 = some false) ∨ t.2 = "both") := by
        simp only [List.mem_cons, List.not_mem_nil, or_false] at ht
        rcases ht with rfl | rfl | rfl | rfl
        · exact ⟨n1, .inl ⟨rfl, n2⟩⟩
        · exact ⟨m1, .inr (.inl ⟨rfl, m2⟩)⟩
        · exact ⟨j1.trans n1, .inr (.inr rfl)⟩
        · exact ⟨j2.trans m1, .inr (.inr rfl)⟩
      refine And.intro rfl ?_
      refine Sp.mk ⟨c, rs, st, t.1, t.2, rfl, hc, hrl, hr.sm, hk.1, hk.2, ?_⟩
      exact br_f rfl ⟨rfl, (), rfl, trivial⟩
    · rintro _ _
      refine Sp.mk ⟨c, rs, st, rfl, hc, hr, ?_⟩
      exact br_f rfl ⟨rfl, (), rfl, trivial⟩
  · rintro _ _
    exact q _
end
theorem all_mk {P : Program} {w : World} {K : Fg} {h : Heap} {mg : Str → Option Value} (X : K.In h) (G : h.Ns mainGlobals mg)
    {f0 : Addr} {od0 an0 : Option Addr} {sl0 : Array (Option Value)} {oc0 kV0 dc0 pm0 cd0 ct0 : Value}
    {f1 : Addr} {od1 an1 : Option Addr} {sl1 : Array (Option Value)} {oc1 kV1 dc1 pm1 cd1 ct1 : Value}
    {f2 : Addr} {od2 an2 : Option Addr} {sl2 : Array (Option Value)} {oc2 kV2 dc2 pm2 cd2 ct2 : Value}
    {f3 : Addr} {od3 an3 : Option Addr} {sl3 : Array (Option Value)} {oc3 kV3 dc3 pm3 cd3 ct3 : Value}
    {f4 : Addr} {od4 an4 : Option Addr} {sl4 : Array (Option Value)} {oc4 kV4 dc4 pm4 cd4 ct4 : Value}
    {f5 : Addr} {od5 an5 : Option Addr} {sl5 : Array (Option Value)} {oc5 kV5 dc5 pm5 cd5 ct5 : Value}
    {f6 : Addr} {od6 an6 : Option Addr} {sl6 : Array (Option Value)} {oc6 kV6 dc6 pm6 cd6 ct6 : Value}
    {f7 : Addr} {od7 an7 : Option Addr} {sl7 : Array (Option Value)} {oc7 kV7 dc7 pm7 cd7 ct7 : Value}
    {f8 : Addr} {od8 an8 : Option Addr} {sl8 : Array (Option Value)} {oc8 kV8 dc8 pm8 cd8 ct8 : Value}
    {f9 : Addr} {od9 an9 : Option Addr} {sl9 : Array (Option Value)} {oc9 kV9 dc9 pm9 cd9 ct9 : Value}
    {f10 : Addr} {od10 an10 : Option Addr} {sl10 : Array (Option Value)} {oc10 kV10 dc10 pm10 cd10 ct10 : Value}
    {f11 : Addr} {od11 an11 : Option Addr} {sl11 : Array (Option Value)} {oc11 kV11 dc11 pm11 cd11 ct11 : Value}
    {f12 : Addr} {od12 an12 : Option Addr} {sl12 : Array (Option Value)} {oc12 kV12 dc12 pm12 cd12 ct12 : Value}
    {f13 : Addr} {od13 an13 : Option Addr} {sl13 : Array (Option Value)} {oc13 kV13 dc13 pm13 cd13 ct13 : Value}
    {f14 : Addr} {od14 an14 : Option Addr} {sl14 : Array (Option Value)} {oc14 kV14 dc14 pm14 cd14 ct14 : Value}
    {f15 : Addr} {od15 an15 : Option Addr} {sl15 : Array (Option Value)} {oc15 kV15 dc15 pm15 cd15 ct15 : Value}
    {f16 : Addr} {od16 an16 : Option Addr} {sl16 : Array (Option Value)} {oc16 kV16 dc16 pm16 cd16 ct16 : Value}
    {f17 : Addr} {od17 an17 : Option Addr} {sl17 : Array (Option Value)} {oc17 kV17 dc17 pm17 cd17 ct17 : Value}
    (a0 : PySem.W.nsIn K mainGlobals "state_behind" = some (some (.ref f0))) (l0 : K.lookup f0 = some ⟨oc0, od0, .func (PySem.W.fnOf "state_behind" "state_behind" (defArgs st_state_behind) (defBody st_state_behind) (defScope st_state_behind) .none kV0 dc0 pm0 an0 cd0 ct0), sl0⟩) (c0 : PySem.W.codeIn K cd0 "state_behind" = true) (k0 : PySem.W.keepIn K (.ref f0) = true)
    (a1 : PySem.W.nsIn K mainGlobals "states_of" = some (some (.ref f1))) (l1 : K.lookup f1 = some ⟨oc1, od1, .func (PySem.W.fnOf "states_of" "states_of" (defArgs st_states_of) (defBody st_states_of) (defScope st_states_of) .none kV1 dc1 pm1 an1 cd1 ct1), sl1⟩) (c1 : PySem.W.codeIn K cd1 "states_of" = true) (k1 : PySem.W.keepIn K (.ref f1) = true)
    (a2 : PySem.W.nsIn K mainGlobals "fits" = some (some (.ref f2))) (l2 : K.lookup f2 = some ⟨oc2, od2, .func (PySem.W.fnOf "fits" "fits" (defArgs st_fits) (defBody st_fits) (defScope st_fits) .none kV2 dc2 pm2 an2 cd2 ct2), sl2⟩) (c2 : PySem.W.codeIn K cd2 "fits" = true) (k2 : PySem.W.keepIn K (.ref f2) = true)
    (a3 : PySem.W.nsIn K mainGlobals "_law_own_bag" = some (some (.ref f3))) (l3 : K.lookup f3 = some ⟨oc3, od3, .func (PySem.W.fnOf "_law_own_bag" "_law_own_bag" (defArgs st__law_own_bag) (defBody st__law_own_bag) (defScope st__law_own_bag) .none kV3 dc3 pm3 an3 cd3 ct3), sl3⟩) (c3 : PySem.W.codeIn K cd3 "_law_own_bag" = true) (k3 : PySem.W.keepIn K (.ref f3) = true)
    (a4 : PySem.W.nsIn K mainGlobals "_law_draw" = some (some (.ref f4))) (l4 : K.lookup f4 = some ⟨oc4, od4, .func (PySem.W.fnOf "_law_draw" "_law_draw" (defArgs st__law_draw) (defBody st__law_draw) (defScope st__law_draw) .none kV4 dc4 pm4 an4 cd4 ct4), sl4⟩) (c4 : PySem.W.codeIn K cd4 "_law_draw" = true) (k4 : PySem.W.keepIn K (.ref f4) = true)
    (a5 : PySem.W.nsIn K mainGlobals "_law_pick" = some (some (.ref f5))) (l5 : K.lookup f5 = some ⟨oc5, od5, .func (PySem.W.fnOf "_law_pick" "_law_pick" (defArgs st__law_pick) (defBody st__law_pick) (defScope st__law_pick) .none kV5 dc5 pm5 an5 cd5 ct5), sl5⟩) (c5 : PySem.W.codeIn K cd5 "_law_pick" = true) (k5 : PySem.W.keepIn K (.ref f5) = true)
    (a6 : PySem.W.nsIn K mainGlobals "_law_walk" = some (some (.ref f6))) (l6 : K.lookup f6 = some ⟨oc6, od6, .func (PySem.W.fnOf "_law_walk" "_law_walk" (defArgs st__law_walk) (defBody st__law_walk) (defScope st__law_walk) .none kV6 dc6 pm6 an6 cd6 ct6), sl6⟩) (c6 : PySem.W.codeIn K cd6 "_law_walk" = true) (k6 : PySem.W.keepIn K (.ref f6) = true)
    (a7 : PySem.W.nsIn K mainGlobals "_law_chain" = some (some (.ref f7))) (l7 : K.lookup f7 = some ⟨oc7, od7, .func (PySem.W.fnOf "_law_chain" "_law_chain" (defArgs st__law_chain) (defBody st__law_chain) (defScope st__law_chain) .none kV7 dc7 pm7 an7 cd7 ct7), sl7⟩) (c7 : PySem.W.codeIn K cd7 "_law_chain" = true) (k7 : PySem.W.keepIn K (.ref f7) = true)
    (a8 : PySem.W.nsIn K mainGlobals "_law_own_reading" = some (some (.ref f8))) (l8 : K.lookup f8 = some ⟨oc8, od8, .func (PySem.W.fnOf "_law_own_reading" "_law_own_reading" (defArgs st__law_own_reading) (defBody st__law_own_reading) (defScope st__law_own_reading) .none kV8 dc8 pm8 an8 cd8 ct8), sl8⟩) (c8 : PySem.W.codeIn K cd8 "_law_own_reading" = true) (k8 : PySem.W.keepIn K (.ref f8) = true)
    (a9 : PySem.W.nsIn K mainGlobals "_law_own_readings" = some (some (.ref f9))) (l9 : K.lookup f9 = some ⟨oc9, od9, .func (PySem.W.fnOf "_law_own_readings" "_law_own_readings" (defArgs st__law_own_readings) (defBody st__law_own_readings) (defScope st__law_own_readings) .none kV9 dc9 pm9 an9 cd9 ct9), sl9⟩) (c9 : PySem.W.codeIn K cd9 "_law_own_readings" = true) (k9 : PySem.W.keepIn K (.ref f9) = true)
    (a10 : PySem.W.nsIn K mainGlobals "_law_is_more" = some (some (.ref f10))) (l10 : K.lookup f10 = some ⟨oc10, od10, .func (PySem.W.fnOf "_law_is_more" "_law_is_more" (defArgs st__law_is_more) (defBody st__law_is_more) (defScope st__law_is_more) .none kV10 dc10 pm10 an10 cd10 ct10), sl10⟩) (c10 : PySem.W.codeIn K cd10 "_law_is_more" = true) (k10 : PySem.W.keepIn K (.ref f10) = true)
    (a11 : PySem.W.nsIn K mainGlobals "_law_are_states_right" = some (some (.ref f11))) (l11 : K.lookup f11 = some ⟨oc11, od11, .func (PySem.W.fnOf "_law_are_states_right" "_law_are_states_right" (defArgs st__law_are_states_right) (defBody st__law_are_states_right) (defScope st__law_are_states_right) .none kV11 dc11 pm11 an11 cd11 ct11), sl11⟩) (c11 : PySem.W.codeIn K cd11 "_law_are_states_right" = true) (k11 : PySem.W.keepIn K (.ref f11) = true)
    (a12 : PySem.W.nsIn K mainGlobals "_law_seen" = some (some (.ref f12))) (l12 : K.lookup f12 = some ⟨oc12, od12, .func (PySem.W.fnOf "_law_seen" "_law_seen" (defArgs st__law_seen) (defBody st__law_seen) (defScope st__law_seen) .none kV12 dc12 pm12 an12 cd12 ct12), sl12⟩) (c12 : PySem.W.codeIn K cd12 "_law_seen" = true) (k12 : PySem.W.keepIn K (.ref f12) = true)
    (a13 : PySem.W.nsIn K mainGlobals "_law_both" = some (some (.ref f13))) (l13 : K.lookup f13 = some ⟨oc13, od13, .func (PySem.W.fnOf "_law_both" "_law_both" (defArgs st__law_both) (defBody st__law_both) (defScope st__law_both) .none kV13 dc13 pm13 an13 cd13 ct13), sl13⟩) (c13 : PySem.W.codeIn K cd13 "_law_both" = true) (k13 : PySem.W.keepIn K (.ref f13) = true)
    (a14 : PySem.W.nsIn K mainGlobals "_law_fit" = some (some (.ref f14))) (l14 : K.lookup f14 = some ⟨oc14, od14, .func (PySem.W.fnOf "_law_fit" "_law_fit" (defArgs st__law_fit) (defBody st__law_fit) (defScope st__law_fit) .none kV14 dc14 pm14 an14 cd14 ct14), sl14⟩) (c14 : PySem.W.codeIn K cd14 "_law_fit" = true) (k14 : PySem.W.keepIn K (.ref f14) = true)
    (a15 : PySem.W.nsIn K mainGlobals "_law_are_fits_right" = some (some (.ref f15))) (l15 : K.lookup f15 = some ⟨oc15, od15, .func (PySem.W.fnOf "_law_are_fits_right" "_law_are_fits_right" (defArgs st__law_are_fits_right) (defBody st__law_are_fits_right) (defScope st__law_are_fits_right) .none kV15 dc15 pm15 an15 cd15 ct15), sl15⟩) (c15 : PySem.W.codeIn K cd15 "_law_are_fits_right" = true) (k15 : PySem.W.keepIn K (.ref f15) = true)
    (a16 : PySem.W.nsIn K mainGlobals "_law_are_neighbours_told" = some (some (.ref f16))) (l16 : K.lookup f16 = some ⟨oc16, od16, .func (PySem.W.fnOf "_law_are_neighbours_told" "_law_are_neighbours_told" (defArgs st__law_are_neighbours_told) (defBody st__law_are_neighbours_told) (defScope st__law_are_neighbours_told) .none kV16 dc16 pm16 an16 cd16 ct16), sl16⟩) (c16 : PySem.W.codeIn K cd16 "_law_are_neighbours_told" = true) (k16 : PySem.W.keepIn K (.ref f16) = true)
    (a17 : PySem.W.nsIn K mainGlobals "law" = some (some (.ref f17))) (l17 : K.lookup f17 = some ⟨oc17, od17, .func (PySem.W.fnOf "law" "law" (defArgs st_law) (defBody st_law) (defScope st_law) .none kV17 dc17 pm17 an17 cd17 ct17), sl17⟩) (c17 : PySem.W.codeIn K cd17 "law" = true) (k17 : PySem.W.keepIn K (.ref f17) = true)
    (z0 : PySem.W.nsIn K mainGlobals "abs" = some none)
    (z1 : PySem.W.nsIn K mainGlobals "all" = some none)
    (z2 : PySem.W.nsIn K mainGlobals "bool" = some none)
    (z3 : PySem.W.nsIn K mainGlobals "int" = some none)
    (z4 : PySem.W.nsIn K mainGlobals "isinstance" = some none)
    (z5 : PySem.W.nsIn K mainGlobals "len" = some none)
    (z6 : PySem.W.nsIn K mainGlobals "list" = some none)
    (z7 : PySem.W.nsIn K mainGlobals "max" = some none)
    (z8 : PySem.W.nsIn K mainGlobals "min" = some none)
    (z9 : PySem.W.nsIn K mainGlobals "range" = some none)
    (z10 : PySem.W.nsIn K mainGlobals "repr" = some none)
    (z11 : PySem.W.nsIn K mainGlobals "reversed" = some none)
    (z12 : PySem.W.nsIn K mainGlobals "sorted" = some none)
    (z13 : PySem.W.nsIn K mainGlobals "str" = some none)
    (z14 : PySem.W.nsIn K mainGlobals "tuple" = some none)
    (z15 : PySem.W.nsIn K mainGlobals "zip" = some none)
    : Cal P w K mg h (BA K) 5 "law" 1 sp_law := by
  have T : Tx mg := ⟨PySem.W.mg_none_of X G z0, PySem.W.mg_none_of X G z1, PySem.W.mg_none_of X G z2, PySem.W.mg_none_of X G z3, PySem.W.mg_none_of X G z4, PySem.W.mg_none_of X G z5, PySem.W.mg_none_of X G z6, PySem.W.mg_none_of X G z7, PySem.W.mg_none_of X G z8, PySem.W.mg_none_of X G z9, PySem.W.mg_none_of X G z10, PySem.W.mg_none_of X G z11, PySem.W.mg_none_of X G z12, PySem.W.mg_none_of X G z13, PySem.W.mg_none_of X G z14, PySem.W.mg_none_of X G z15⟩
  have c_state_behind : Cal P w K mg h (BA K) 1 "state_behind" 3 sp_state_behind := ok_state_behind T (dfn_mk ["marks", "state", "reading"] X G (fun _ _ _ _ _ _ us hl => match us, hl with | [_, _, _], _ => rfl) a0 l0 c0 k0) pp_state_behind
  have c_states_of : Cal P w K mg h (BA K) 2 "states_of" 3 sp_states_of := ok_states_of T (dfn_mk ["marks", "state", "readings"] X G (fun _ _ _ _ _ _ us hl => match us, hl with | [_, _, _], _ => rfl) a1 l1 c1 k1) c_state_behind pp_states_of
  have c_fits : Cal P w K mg h (BA K) 3 "fits" 2 sp_fits := ok_fits T (dfn_mk ["marks", "log"] X G (fun _ _ _ _ _ _ us hl => match us, hl with | [_, _], _ => rfl) a2 l2 c2 k2) c_states_of pp_fits
  have c__law_own_bag : Cal P w K mg h (BA K) 1 "_law_own_bag" 1 sp_bag := ok__law_own_bag T (dfn_mk ["script"] X G (fun _ _ _ _ _ _ us hl => match us, hl with | [_], _ => rfl) a3 l3 c3 k3) pp__law_own_bag
  have c__law_draw : Cal P w K mg h (BA K) 1 "_law_draw" 2 sp_draw := ok__law_draw T (dfn_mk ["bag", "below"] X G (fun _ _ _ _ _ _ us hl => match us, hl with | [_, _], _ => rfl) a4 l4 c4 k4)
  have c__law_pick : Cal P w K mg h (BA K) 2 "_law_pick" 2 sp_pick := ok__law_pick T (dfn_mk ["bag", "some"] X G (fun _ _ _ _ _ _ us hl => match us, hl with | [_, _], _ => rfl) a5 l5 c5 k5) c__law_draw pick_pure
  have c__law_walk : Cal P w K mg h (BA K) 1 "_law_walk" 3 sp__law_walk := ok__law_walk T (dfn_mk ["marks", "state", "readings"] X G (fun _ _ _ _ _ _ us hl => match us, hl with | [_, _, _], _ => rfl) a6 l6 c6 k6) pp__law_walk
  have c__law_chain : Cal P w K mg h (BA K) 3 "_law_chain" 1 sp__law_chain := ok__law_chain T (dfn_mk ["bag"] X G (fun _ _ _ _ _ _ us hl => match us, hl with | [_], _ => rfl) a7 l7 c7 k7) c__law_draw c__law_pick pp__law_chain
  have c__law_own_reading : Cal P w K mg h (BA K) 3 "_law_own_reading" 2 sp__law_own_reading := ok__law_own_reading T (dfn_mk ["bag", "chain"] X G (fun _ _ _ _ _ _ us hl => match us, hl with | [_, _], _ => rfl) a8 l8 c8 k8) c__law_draw c__law_pick pp__law_own_reading
  have c__law_own_readings : Cal P w K mg h (BA K) 4 "_law_own_readings" 2 sp__law_own_readings := ok__law_own_readings T (dfn_mk ["bag", "chain"] X G (fun _ _ _ _ _ _ us hl => match us, hl with | [_, _], _ => rfl) a9 l9 c9 k9) c__law_draw c__law_own_reading pp__law_own_readings
  have c__law_is_more : Cal P w K mg h (BA K) 1 "_law_is_more" 2 sp__law_is_more := ok__law_is_more T (dfn_mk ["lesser", "greater"] X G (fun _ _ _ _ _ _ us hl => match us, hl with | [_, _], _ => rfl) a10 l10 c10 k10) pp__law_is_more
  have c__law_are_states_right : Cal P w K mg h (BA K) 3 "_law_are_states_right" 3 sp__law_are_states_right := ok__law_are_states_right T (dfn_mk ["chain", "readings", "own"] X G (fun _ _ _ _ _ _ us hl => match us, hl with | [_, _, _], _ => rfl) a11 l11 c11 k11) c_states_of c__law_is_more pp__law_are_states_right
  have c__law_seen : Cal P w K mg h (BA K) 2 "_law_seen" 5 sp__law_seen := ok__law_seen T (dfn_mk ["bag", "readings", "states", "word", "share"] X G (fun _ _ _ _ _ _ us hl => match us, hl with | [_, _, _, _, _], _ => rfl) a12 l12 c12 k12) c__law_draw pp__law_seen
  have c__law_both : Cal P w K mg h (BA K) 1 "_law_both" 2 sp__law_both := ok__law_both T (dfn_mk ["one", "other"] X G (fun _ _ _ _ _ _ us hl => match us, hl with | [_, _], _ => rfl) a13 l13 c13 k13) pp__law_both
  have c__law_fit : Cal P w K mg h (BA K) 1 "_law_fit" 3 sp__law_fit := ok__law_fit T (dfn_mk ["start", "rows", "own"] X G (fun _ _ _ _ _ _ us hl => match us, hl with | [_, _, _], _ => rfl) a14 l14 c14 k14) pp__law_fit
  have c__law_are_fits_right : Cal P w K mg h (BA K) 4 "_law_are_fits_right" 5 sp__law_are_fits_right := ok__law_are_fits_right T (dfn_mk ["chain", "start", "rows", "own", "kind"] X G (fun _ _ _ _ _ _ us hl => match us, hl with | [_, _, _, _, _], _ => rfl) a15 l15 c15 k15) c__law_fit c_fits pp__law_are_fits_right
  have c__law_are_neighbours_told : Cal P w K mg h (BA K) 4 "_law_are_neighbours_told" 4 sp__law_are_neighbours_told := ok__law_are_neighbours_told T (dfn_mk ["chain", "start", "readings", "own"] X G (fun _ _ _ _ _ _ us hl => match us, hl with | [_, _, _, _], _ => rfl) a16 l16 c16 k16) c_fits pp__law_are_neighbours_told
  have c_law : Cal P w K mg h (BA K) 5 "law" 1 sp_law := ok_law T (dfn_mk ["script"] X G (fun _ _ _ _ _ _ us hl => match us, hl with | [_], _ => rfl) a17 l17 c17 k17) c__law_own_bag c__law_chain c__law_own_readings c__law_are_states_right c__law_seen c__law_walk c__law_draw c__law_are_neighbours_told c__law_both c__law_are_fits_right pp_law
  exact c_law
end Pd
open PySem PySem.W PyProof.Rows
set_option maxHeartbeats 0 in
theorem PySem.Challenge.cw_marksought_k04_whole_greater_marks_holds : PySem.Challenge.rw_marksought_k04_whole_greater_marks.Holds := by
  w_on; o_law; k_head; (case hw => w_witness2)
  k_fill
  refine Pd.walk_bag (l := PySem.Challenge.rw_marksought_k04_whole_greater_marks) (k := 5) rfl rfl ⟨rfl, by decide, by decide⟩ (fun w h Y => PySem.W.kIn_of Y) ?F
  case F =>
    intro w mg base KX G
    refine' Pd.all_mk KX G ?a0 ?l0 ?c0 ?k0 ?a1 ?l1 ?c1 ?k1 ?a2 ?l2 ?c2 ?k2 ?a3 ?l3 ?c3 ?k3 ?a4 ?l4 ?c4 ?k4 ?a5 ?l5 ?c5 ?k5 ?a6 ?l6 ?c6 ?k6 ?a7 ?l7 ?c7 ?k7 ?a8 ?l8 ?c8 ?k8 ?a9 ?l9 ?c9 ?k9 ?a10 ?l10 ?c10 ?k10 ?a11 ?l11 ?c11 ?k11 ?a12 ?l12 ?c12 ?k12 ?a13 ?l13 ?c13 ?k13 ?a14 ?l14 ?c14 ?k14 ?a15 ?l15 ?c15 ?k15 ?a16 ?l16 ?c16 ?k16 ?a17 ?l17 ?c17 ?k17 ?z0 ?z1 ?z2 ?z3 ?z4 ?z5 ?z6 ?z7 ?z8 ?z9 ?z10 ?z11 ?z12 ?z13 ?z14 ?z15
    (case a0 => k_is); (case l0 => k_is); (case c0 => k_is); (case k0 => k_is); (case a1 => k_is); (case l1 => k_is); (case c1 => k_is); (case k1 => k_is); (case a2 => k_is); (case l2 => k_is); (case c2 => k_is); (case k2 => k_is); (case a3 => k_is); (case l3 => k_is); (case c3 => k_is); (case k3 => k_is); (case a4 => k_is); (case l4 => k_is); (case c4 => k_is); (case k4 => k_is); (case a5 => k_is); (case l5 => k_is); (case c5 => k_is); (case k5 => k_is); (case a6 => k_is); (case l6 => k_is); (case c6 => k_is); (case k6 => k_is); (case a7 => k_is); (case l7 => k_is); (case c7 => k_is); (case k7 => k_is); (case a8 => k_is); (case l8 => k_is); (case c8 => k_is); (case k8 => k_is); (case a9 => k_is); (case l9 => k_is); (case c9 => k_is); (case k9 => k_is); (case a10 => k_is); (case l10 => k_is); (case c10 => k_is); (case k10 => k_is); (case a11 => k_is); (case l11 => k_is); (case c11 => k_is); (case k11 => k_is); (case a12 => k_is); (case l12 => k_is); (case c12 => k_is); (case k12 => k_is); (case a13 => k_is); (case l13 => k_is); (case c13 => k_is); (case k13 => k_is); (case a14 => k_is); (case l14 => k_is); (case c14 => k_is); (case k14 => k_is); (case a15 => k_is); (case l15 => k_is); (case c15 => k_is); (case k15 => k_is); (case a16 => k_is); (case l16 => k_is); (case c16 => k_is); (case k16 => k_is); (case a17 => k_is); (case l17 => k_is); (case c17 => k_is); (case k17 => k_is); (case z0 => k_is); (case z1 => k_is); (case z2 => k_is); (case z3 => k_is); (case z4 => k_is); (case z5 => k_is); (case z6 => k_is); (case z7 => k_is); (case z8 => k_is); (case z9 => k_is); (case z10 => k_is); (case z11 => k_is); (case z12 => k_is); (case z13 => k_is); (case z14 => k_is); (case z15 => k_is)

