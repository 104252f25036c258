import PyProof.Rows.All
import Wide.All
import OpenK.AllK
import Wide.FinOn
import HandS.ForMost
import HandS.Zip
import HandS.Conv
import HandS.IsInst
import HandS.Wide
import HandS.SortInts
import HandS.Style
import HandS.Flow
import HandS.NoneIn
import HandS.EndBits
import HandS.TupAny
import HandS.Rev
import KE.KDictList
import KE.GoesMore
import KE.GoesEnum
import KE.GoesZip
import PyProof.ReprLen
import PyProof.FitsInt
import HandS.TupMul
import HandS.More
import KE.KDictZip
import HandS.Strs
import PyProof.Rows.SetFrom
import HandS.Set
import HandS.Text
import HandS.FStr
import PyProof.CallFns
import PyProof.StrLawsRepr
import PyProof.P3Eq
import PyProof.ReprRoads
import PyProof.StrOps2
import HandS.Exc
import HandS.ExcOwn
import HandS.TryMany
import HandS.WordsExc
import HandS.Small
import HandS.ExcCtx
import HandS.DictComp
import PyProof.DictUpdate
import PyProof.Rows.DictMethods
import KE.KDictDisplayH
import KE.KDictCopyH
import KE.KExcIs
import HandS.ExcIs
import HandS.ExcField
import HandS.ExcInit
import HandS.HotCalls
import HandS.ExcInitHot
import PyProof.ExcBaseAll.LookupError
import KE.KUnpack
import HandS.Property
import HandS.OwnEq
import HandS.Star
import KE.KCallOwn
import OpenK.KOps
import OpenK.KMeth
import PyProof.NeKinds
import PySem.Challenge.RW_marksought_k33_whole_spans_go_along
set_option Elab.async false
set_option linter.all false
set_option maxRecDepth 100000
set_option maxHeartbeats 4000000
/-! Values as trees over the hand layer. -/
namespace Pd
open PySem PySem.Spec PyProof.Rows L2
abbrev Fg := PySem.W.Frag
abbrev Sg := L2.St
/-- a value as a tree; dct, dtt: keys and values apart; xdt: the dict of an exception with one field; any: a value as it stands -/
inductive D where
  | non
  | bl (b : Bool)
  | int (i : Int)
  | str (x : Str)
  | tup (l : List D)
  | lst (l : List D)
  | dct (ks : List Key) (vs : List D)
  | dtt (ks : List (List Key)) (vs : List D)
  | xdt (f : Str) (t : D)
  | any (v : V)
/-- what a name owns: a list, a dict (keys ints and texts), a dict with tuple keys -/
inductive Mo where
  | lst (l : List D)
  | dk (ks : List Key) (vs : List D)
  | dt (ks : List (List Key)) (vs : List D)
/-- a slot: nothing, a value, an owned thing -/
inductive Sl where
  | e
  | v (d : D)
  | o (m : Mo)
inductive Ret where
  | d (d : D)
  | o (m : Mo)
abbrev Ad := Addr → Prop
mutual
inductive Rs (B : Ad) (H : Hp) : D → V → Prop
  | non : Rs B H .non .non
  | bl (b : Bool) : Rs B H (.bl b) (.bl b)
  | int (i : Int) : Rs B H (.int i) (.int i)
  | str (x : Str) : Rs B H (.str x) (.str x)
  | any (v : V) : Rs B H (.any v) v
  | tup {a : Addr} {xs : List V} {l : List D} : H a = some (.tup xs) → ¬ B a → RsL B H l xs → Rs B H (.tup l) (.ref a)
  | lst {a : Addr} {xs : List V} {l : List D} : H a = some (.lst xs) → ¬ B a → RsL B H l xs → Rs B H (.lst l) (.ref a)
  | dct {a : Addr} {kvs : List (Key × V)} {ks : List Key} {vs : List D} : H a = some (.dK kvs) → ¬ B a → kvs.map (·.1) = ks → RsL B H vs (kvs.map (·.2)) → Rs B H (.dct ks vs) (.ref a)
  | dtt {a : Addr} {kvs : List (List Key × V)} {ks : List (List Key)} {vs : List D} : H a = some (.dT kvs) → ¬ B a → kvs.map (·.1) = ks → RsL B H vs (kvs.map (·.2)) → Rs B H (.dtt ks vs) (.ref a)
  | xdt {a : Addr} {f : Str} {v : V} {t : D} : H a = some (.xd [(f, v)]) → ¬ B a → Rs B H t v → Rs B H (.xdt f t) (.ref a)
inductive RsL (B : Ad) (H : Hp) : List D → List V → Prop
  | nil : RsL B H [] []
  | cons {d : D} {v : V} {l : List D} {xs : List V} : Rs B H d v → RsL B H l xs → RsL B H (d :: l) (v :: xs)
end
def Agr (B : Ad) (H H' : Hp) : Prop := ∀ a o, H a = some o → ¬ B a → H' a = some o
section
variable {B B' : Ad} {H H' : Hp}
mutual
theorem Rs.go (hB : ∀ a, B' a → B a ∨ H a = none) (hA : Agr B H H') : ∀ {d : D} {v : V}, Rs B H d v → Rs B' H' d v
  | _, _, .non => .non
  | _, _, .bl b => .bl b
  | _, _, .int i => .int i
  | _, _, .str x => .str x
  | _, _, .any v => .any v
  | _, _, .tup h n r => .tup (hA _ _ h n) (fun b => (hB _ b).elim n fun z => by rw [h] at z; cases z) (RsL.go hB hA r)
  | _, _, .lst h n r => .lst (hA _ _ h n) (fun b => (hB _ b).elim n fun z => by rw [h] at z; cases z) (RsL.go hB hA r)
  | _, _, .dct h n k r => .dct (hA _ _ h n) (fun b => (hB _ b).elim n fun z => by rw [h] at z; cases z) k (RsL.go hB hA r)
  | _, _, .dtt h n k r => .dtt (hA _ _ h n) (fun b => (hB _ b).elim n fun z => by rw [h] at z; cases z) k (RsL.go hB hA r)
  | _, _, .xdt h n r => .xdt (hA _ _ h n) (fun b => (hB _ b).elim n fun z => by rw [h] at z; cases z) (Rs.go hB hA r)
theorem RsL.go (hB : ∀ a, B' a → B a ∨ H a = none) (hA : Agr B H H') : ∀ {l : List D} {xs : List V}, RsL B H l xs → RsL B' H' l xs
  | _, _, .nil => .nil
  | _, _, .cons h r => .cons (Rs.go hB hA h) (RsL.go hB hA r)
end
theorem Agr.refl : Agr B H H := fun _ _ h _ => h
theorem Rs.weak {d : D} {v : V} (h : Rs B H d v) (hB : ∀ a, B' a → B a) : Rs B' H d v := h.go (fun a b => .inl (hB a b)) Agr.refl
theorem RsL.weak {l : List D} {xs : List V} (h : RsL B H l xs) (hB : ∀ a, B' a → B a) : RsL B' H l xs := h.go (fun a b => .inl (hB a b)) Agr.refl
theorem RsL.length : ∀ {l : List D} {xs : List V}, RsL B H l xs → xs.length = l.length
  | _, _, .nil => rfl
  | _, _, .cons _ r => by rw [List.length_cons, List.length_cons, r.length]
theorem RsL.get : ∀ {l : List D} {xs : List V} {i : Nat} {d : D}, RsL B H l xs → l[i]? = some d → ∃ v, xs[i]? = some v ∧ Rs B H d v
  | _, _, _, _, .nil, e => by simp at e
  | _, _, 0, _, .cons h _, e => by simp at e; subst e; exact ⟨_, rfl, h⟩
  | _, _, i + 1, _, .cons _ r, e => by
    obtain ⟨v, h1, h2⟩ := RsL.get (i := i) r (by simpa using e)
    exact ⟨v, by simpa using h1, h2⟩
theorem RsL.get' : ∀ {l : List D} {xs : List V} {i : Nat} {v : V}, RsL B H l xs → xs[i]? = some v → ∃ d, l[i]? = some d ∧ Rs B H d v
  | _, _, _, _, .nil, e => by simp at e
  | _, _, 0, _, .cons h _, e => by simp at e; subst e; exact ⟨_, rfl, h⟩
  | _, _, i + 1, _, .cons _ r, e => by
    obtain ⟨v, h1, h2⟩ := RsL.get' (i := i) r (by simpa using e)
    exact ⟨v, by simpa using h1, h2⟩
theorem RsL.append : ∀ {l m : List D} {xs ys : List V}, RsL B H l xs → RsL B H m ys → RsL B H (l ++ m) (xs ++ ys)
  | _, _, _, _, .nil, s => s
  | _, _, _, _, .cons h r, s => .cons h (RsL.append r s)
theorem RsL.one {d : D} {v : V} (h : Rs B H d v) : RsL B H [d] [v] := .cons h .nil
theorem RsL.set : ∀ {l : List D} {xs : List V} {d : D} {v : V} (i : Nat), RsL B H l xs → Rs B H d v → RsL B H (l.set i d) (xs.set i v)
  | _, _, _, _, _, .nil, _ => .nil
  | _, _, _, _, 0, .cons _ r, h => .cons h r
  | _, _, _, _, i + 1, .cons g r, h => .cons g (RsL.set i r h)
theorem RsL.take : ∀ {l : List D} {xs : List V} (n : Nat), RsL B H l xs → RsL B H (l.take n) (xs.take n)
  | _, _, 0, _ => .nil
  | _, _, _ + 1, .nil => .nil
  | _, _, n + 1, .cons h r => .cons h (RsL.take n r)
theorem RsL.drop : ∀ {l : List D} {xs : List V} (n : Nat), RsL B H l xs → RsL B H (l.drop n) (xs.drop n)
  | _, _, 0, r => r
  | _, _, _ + 1, .nil => .nil
  | _, _, n + 1, .cons _ r => RsL.drop n r
theorem RsL.ints : ∀ {ns : List Int} {xs : List V}, RsL B H (ns.map D.int) xs → xs = ns.map V.int
  | [], _, .nil => rfl
  | n :: ns, _, .cons h r => by
    cases h
    rw [List.map_cons, ← RsL.ints r]
theorem RsL.bls : ∀ {bs : List Bool} {xs : List V}, RsL B H (bs.map D.bl) xs → xs = bs.map V.bl
  | [], _, .nil => rfl
  | n :: ns, _, .cons h r => by
    cases h
    rw [List.map_cons, ← RsL.bls r]
theorem RsL.strs : ∀ {bs : List Str} {xs : List V}, RsL B H (bs.map D.str) xs → xs = bs.map V.str
  | [], _, .nil => rfl
  | n :: ns, _, .cons h r => by
    cases h
    rw [List.map_cons, ← RsL.strs r]
theorem RsL.ofInts : ∀ ns : List Int, RsL B H (ns.map D.int) (ns.map V.int)
  | [] => .nil
  | n :: ns => .cons (.int n) (RsL.ofInts ns)
end
/-! ### what stands around: mutable things that a code may change -/
structure Amb where
  S : Type
  B : S → Ad
  /-- the region: all that may change -/
  I : S → Ad → Hp → Prop
  dom : ∀ {s : S} {R : Ad} {H : Hp} {a : Addr}, I s R H → B s a → H a ≠ none
  loc : ∀ {s : S} {R R' : Ad} {H H' : Hp}, I s R H → (∀ a, R' a → R a ∨ H a = none) → Agr R H H' → (∀ a, B s a → H' a = H a) → I s R' H'
  /-- nothing of it holds a value of others -/
  cl : S → Prop
  cln : ∀ {s : S} {R R' : Ad} {H : Hp}, cl s → I s R H → I s R' H
  /-- what was there at the beginning, kept values, what is said of the beginning: for wishes about exceptions -/
  w0 : Ad := fun _ => False
  g0 : List (D × V) := []
  Lk : S → Hp → Prop := fun _ _ => True
instance : Coe Amb Type := ⟨Amb.S⟩
/-- no wish -/
structure Amb.Plain (A : Amb) : Prop where
  w0 : ∀ a, ¬ A.w0 a
  g0 : A.g0 = []
  lk : ∀ s H, A.Lk s H
/-- from one moment to a later one -/
structure Stp (A : Amb) (s s' : A.S) (H H' : Hp) : Prop where
  agr : Agr (A.B s) H H'
  new : ∀ a, A.B s' a → A.B s a ∨ H a = none
  dom : ∀ a, H a ≠ none → H' a ≠ none
theorem Stp.refl {A : Amb} {s : A.S} {H : Hp} : Stp A s s H H := ⟨Agr.refl, fun _ h => .inl h, fun _ h => h⟩
theorem Stp.trans {A : Amb} {s s1 s2 : A.S} {H H1 H2 : Hp} (a : Stp A s s1 H H1) (b : Stp A s1 s2 H1 H2) : Stp A s s2 H H2 where
  agr := fun p o h n => b.agr p o (a.agr p o h n) fun z => (a.new p z).elim n fun e => by rw [h] at e; cases e
  new := fun p h => by
    rcases b.new p h with z | z
    · exact a.new p z
    · refine .inr ?_
      cases e : H p with
      | none => rfl
      | some o => exact (a.dom p (by rw [e]; simp) z).elim
  dom := fun p h => b.dom p (a.dom p h)
theorem Stp.fresh {A : Amb} {s : A.S} {H : Hp} {p : Addr} {o : HO} (h : H p = none) : Stp A s s H (upd H p o) where
  agr := fun a u e _ => by rw [upd_ne (ne_of_none e h)]; exact e
  new := fun _ h => .inl h
  dom := fun a e => by
    by_cases z : a = p
    · subst z; exact (e h).elim
    · rw [upd_ne z]; exact e
/-! ### the frame's slots and their trees -/
/-- others' things that may change; values that are kept in mind -/
structure Ot where
  w : Ad
  g : List (D × V)
def Ot.add (W : Ot) (p : Addr) : Ot := ⟨fun a => W.w a ∨ a = p, W.g⟩
def Ot.keep (W : Ot) (l : List (D × V)) : Ot := ⟨W.w, W.g ++ l⟩
def ownS (σ : Sg) (ρ : List Sl) : Ad := fun a => ∃ (i : Nat) (m : Mo), ρ[i]? = some (.o m) ∧ σ[i]? = some (some (.ref a))
/-- what may change under a value: others' things, what stands around, and (m) the frame's own things -/
def om (m : Bool) (A : Amb) (W : Ot) (s : A.S) (σ : Sg) (ρ : List Sl) : Ad := fun a => W.w a ∨ A.B s a ∨ (m = true ∧ ownS σ ρ a)
def MoAt (B : Ad) (H : Hp) (a : Addr) : Mo → Prop
  | .lst l => ∃ xs, H a = some (.lst xs) ∧ RsL B H l xs
  | .dk ks vs => ∃ kvs, H a = some (.dK kvs) ∧ kvs.map (·.1) = ks ∧ RsL B H vs (kvs.map (·.2))
  | .dt ks vs => ∃ kvs, H a = some (.dT kvs) ∧ kvs.map (·.1) = ks ∧ RsL B H vs (kvs.map (·.2))
theorem MoAt.some {B : Ad} {H : Hp} {a : Addr} {m : Mo} (h : MoAt B H a m) : H a ≠ none := by
  cases m <;> (obtain ⟨_, e, _⟩ := h; rw [e]; simp)
theorem MoAt.go {B B' : Ad} {H H' : Hp} {a : Addr} {m : Mo} (hB : ∀ a, B' a → B a ∨ H a = none) (hA : Agr B H H') (he : H' a = H a) (h : MoAt B H a m) : MoAt B' H' a m := by
  cases m with
  | lst l => obtain ⟨xs, e, r⟩ := h; exact ⟨xs, he.trans e, r.go hB hA⟩
  | dk ks vs => obtain ⟨kvs, e, k, r⟩ := h; exact ⟨kvs, he.trans e, k, r.go hB hA⟩
  | dt ks vs => obtain ⟨kvs, e, k, r⟩ := h; exact ⟨kvs, he.trans e, k, r.go hB hA⟩
structure ER (A : Amb) (W : Ot) (s0 : A.S) (H0 : Hp) (s : A.S) (σ : Sg) (H : Hp) (ρ : List Sl) : Prop where
  amb : A.I s (om true A W s σ ρ) H
  stp : Stp A s0 s H0 H
  wd : ∀ a, W.w a → H a ≠ none
  len : σ.length = ρ.length
  vals : ∀ (i : Nat) (d : D), ρ[i]? = some (.v d) → ∃ v, σ[i]? = some (some v) ∧ Rs (om true A W s σ ρ) H d v
  own : ∀ (i : Nat) (m : Mo), ρ[i]? = some (.o m) → ∃ a, σ[i]? = some (some (.ref a)) ∧ MoAt (om true A W s σ ρ) H a m ∧ H0 a = none ∧ ¬ W.w a ∧ ¬ A.B s a
  gh : ∀ p ∈ W.g, Rs (om true A W s σ ρ) H p.1 p.2
  uniq : ∀ (i j : Nat) (m m' : Mo), ρ[i]? = some (.o m) → ρ[j]? = some (.o m') → σ[i]? = σ[j]? → i = j
  w0 : ∀ a, A.w0 a → W.w a
  g0 : ∀ p ∈ A.g0, p ∈ W.g
  lk : A.Lk s0 H0
section
variable {A : Amb} {W : Ot} {s0 s s' : A.S} {H0 H H' : Hp} {σ : Sg} {ρ : List Sl} {m sh : Bool}
theorem om_go (m : Bool) (h : Stp A s s' H H') : ∀ a, om m A W s' σ ρ a → om m A W s σ ρ a ∨ H a = none := fun a z => by
  rcases z with z | z | z
  · exact .inl (.inl z)
  · exact (h.new a z).imp (fun y => .inr (.inl y)) id
  · exact .inl (.inr (.inr z))
theorem om_agr (m : Bool) (h : Stp A s s' H H') : Agr (om m A W s σ ρ) H H' := fun a o e n => h.agr a o e fun z => n (.inr (.inl z))
theorem Rs.stp {d : D} {v : V} (h : Stp A s s' H H') (r : Rs (om m A W s σ ρ) H d v) : Rs (om m A W s' σ ρ) H' d v := r.go (om_go m h) (om_agr m h)
theorem RsL.stp {l : List D} {xs : List V} (h : Stp A s s' H H') (r : RsL (om m A W s σ ρ) H l xs) : RsL (om m A W s' σ ρ) H' l xs := r.go (om_go m h) (om_agr m h)
theorem keep_at {a : Addr} (h : Stp A s s' H H') (e : H a ≠ none) (n : ¬ A.B s a) : H' a = H a ∧ ¬ A.B s' a := by
  cases q : H a with
  | none => exact (e q).elim
  | some o => exact ⟨h.agr a o q n, fun z => (h.new a z).elim n e⟩
theorem Amb.sub {A : Amb} {s : A.S} {R R' : Ad} {H : Hp} (i : A.I s R H) (h : ∀ a, R' a → R a) : A.I s R' H := A.loc i (fun a z => .inl (h a z)) Agr.refl fun _ _ => rfl
theorem ER.go (R : ER A W s0 H0 s σ H ρ) (h : Stp A s s' H H') (i : A.I s' (om true A W s' σ ρ) H') : ER A W s0 H0 s' σ H' ρ where
  amb := i
  stp := R.stp.trans h
  wd := fun a w => h.dom a (R.wd a w)
  len := R.len
  vals := fun i d e => let ⟨v, h1, h2⟩ := R.vals i d e; ⟨v, h1, h2.stp h⟩
  own := fun i m e => by
    obtain ⟨a, h1, h2, h3, h4, h5⟩ := R.own i m e
    obtain ⟨k1, k2⟩ := keep_at h h2.some h5
    exact ⟨a, h1, h2.go (om_go true h) (om_agr true h) k1, h3, h4, k2⟩
  gh := fun p hp => (R.gh p hp).stp h
  uniq := R.uniq
  w0 := R.w0
  g0 := R.g0
  lk := R.lk
theorem ER.fresh (R : ER A W s0 H0 s σ H ρ) {p : Addr} (hp : H p = none) : ¬ om m A W s σ ρ p := fun z => by
  rcases z with z | z | ⟨_, i, mo, e1, e2⟩
  · exact R.wd p z hp
  · exact A.dom R.amb z hp
  · obtain ⟨a, h1, h2, _⟩ := R.own i mo e1
    rw [h1] at e2
    cases e2
    exact h2.some hp
theorem ER.fresh0 (R : ER A W s0 H0 s σ H ρ) {p : Addr} (hp : H p = none) : H0 p = none := by
  cases q : H0 p with
  | none => rfl
  | some o => exact (R.stp.dom p (by rw [q]; simp) hp).elim
/-- a new object that is not written any more -/
theorem ER.alloc (R : ER A W s0 H0 s σ H ρ) {p : Addr} (hp : H p = none) (o : HO) : ER A W s0 H0 s σ (upd H p o) ρ :=
  R.go (Stp.fresh hp) (A.loc R.amb (fun a z => .inl z) (om_agr true (Stp.fresh hp)) fun a b => upd_ne fun e => by subst e; exact A.dom R.amb b hp)
/-- what a value's tree says of it. sh: a list of the frame's own may be it, its items for sure -/
def RV (A : Amb) (W : Ot) (s : A.S) (σ : Sg) (ρ : List Sl) (H : Hp) (m sh : Bool) (d : D) (v : V) : Prop :=
  Rs (om m A W s σ ρ) H d v ∨ (sh = true ∧ ∃ l a xs, d = .lst l ∧ v = .ref a ∧ H a = some (.lst xs) ∧ RsL (om m A W s σ ρ) H l xs ∧ ¬ W.w a ∧ ¬ A.B s a)
theorem RV.stp {d : D} {v : V} (h : Stp A s s' H H') (r : RV A W s σ ρ H m sh d v) : RV A W s' σ ρ H' m sh d v := by
  rcases r with r | ⟨e, l, a, xs, rfl, rfl, h1, h2, h3, h4⟩
  · exact .inl (r.stp h)
  · obtain ⟨k1, k2⟩ := keep_at h (by rw [h1]; simp) h4
    exact .inr ⟨e, l, a, xs, rfl, rfl, k1.trans h1, h2.stp h, h3, k2⟩
theorem RV.rs {d : D} {v : V} (r : RV A W s σ ρ H m false d v) : Rs (om m A W s σ ρ) H d v := by
  rcases r with r | ⟨e, _⟩
  · exact r
  · cases e
theorem RV.lst {l : List D} {v : V} (r : RV A W s σ ρ H m sh (.lst l) v) : ∃ a xs, v = .ref a ∧ H a = some (.lst xs) ∧ RsL (om m A W s σ ρ) H l xs ∧ ¬ W.w a ∧ ¬ A.B s a := by
  rcases r with r | ⟨e, l, a, xs, q, rfl, h1, h2, h3, h4⟩
  · cases r with
    | lst h n r => exact ⟨_, _, rfl, h, r, fun z => n (.inl z), fun z => n (.inr (.inl z))⟩
  · cases q
    exact ⟨a, xs, rfl, h1, h2, h3, h4⟩
theorem RV.tup {l : List D} {v : V} (r : RV A W s σ ρ H m sh (.tup l) v) : ∃ a xs, v = .ref a ∧ H a = some (.tup xs) ∧ RsL (om m A W s σ ρ) H l xs := by
  rcases r with r | ⟨e, l, a, xs, q, rfl, h1, h2, h3, h4⟩
  · cases r with
    | tup h n r => exact ⟨_, _, rfl, h, r⟩
  · cases q
theorem RV.int {i : Int} {v : V} (r : RV A W s σ ρ H m sh (.int i) v) : v = .int i := by
  rcases r with r | ⟨e, l, a, xs, q, _⟩
  · cases r; rfl
  · cases q
theorem RV.bl {i : Bool} {v : V} (r : RV A W s σ ρ H m sh (.bl i) v) : v = .bl i := by
  rcases r with r | ⟨e, l, a, xs, q, _⟩
  · cases r; rfl
  · cases q
theorem RV.str {i : Str} {v : V} (r : RV A W s σ ρ H m sh (.str i) v) : v = .str i := by
  rcases r with r | ⟨e, l, a, xs, q, _⟩
  · cases r; rfl
  · cases q
theorem RV.non {v : V} (r : RV A W s σ ρ H m sh .non v) : v = .non := by
  rcases r with r | ⟨e, l, a, xs, q, _⟩
  · cases r; rfl
  · cases q
theorem RV.any {u v : V} (r : RV A W s σ ρ H m sh (.any u) v) : v = u := by
  rcases r with r | ⟨e, l, a, xs, q, _⟩
  · cases r; rfl
  · cases q
end
/-! ### readings and their trees -/
abbrev FE (S : Type) := List Sl → S → (D → S → Prop) → Prop
abbrev FO (S : Type) := List Sl → S → (Mo → S → Prop) → Prop
abbrev FT (S : Type) := List Sl → S → (Bool → S → Prop) → Prop
abbrev FA (S : Type) := List Sl → S → (List D → S → Prop) → Prop
structure PEnds (S : Type) where
  nx : List Sl → S → Prop
  rt : Ret → S → Prop
  bk : List Sl → S → Prop := fun _ _ => False
  ct : List Sl → S → Prop := fun _ _ => False
abbrev FS (S : Type) := PEnds S → List Sl → S → Prop
def SdE (A : Amb) (m sh : Bool) (t : TE) (f : FE A) : Prop := ∀ W s0 H0 s σ H ρ Φ Q, ER A W s0 H0 s σ H ρ → f ρ s Φ →
  (∀ d s' v H', Φ d s' → ER A W s0 H0 s' σ H' ρ → Stp A s s' H H' → RV A W s' σ ρ H' m sh d v → Q v H') → t σ H Q
def SdT (A : Amb) (t : TT) (f : FT A) : Prop := ∀ W s0 H0 s σ H ρ Φ Q, ER A W s0 H0 s σ H ρ → f ρ s Φ →
  (∀ b s' H', Φ b s' → ER A W s0 H0 s' σ H' ρ → Stp A s s' H H' → Q b H') → t σ H Q
def SdA (A : Amb) (m : Bool) (t : TA) (f : FA A) : Prop := ∀ W s0 H0 s σ H ρ Φ Q, ER A W s0 H0 s σ H ρ → f ρ s Φ →
  (∀ ds s' vs H', Φ ds s' → ER A W s0 H0 s' σ H' ρ → Stp A s s' H H' → RsL (om m A W s' σ ρ) H' ds vs → Q vs H') → t σ H Q
/-- a new thing that nobody else has -/
def SdO (A : Amb) (t : TE) (f : FO A) : Prop := ∀ W s0 H0 s σ H ρ Φ Q, ER A W s0 H0 s σ H ρ → f ρ s Φ →
  (∀ mo s' p H', Φ mo s' → ER A (W.add p) s0 H0 s' σ H' ρ → Stp A s s' H H' → H p = none → MoAt (om true A (W.add p) s' σ ρ) H' p mo → ¬ W.w p → ¬ A.B s' p → Q (.ref p) H') → t σ H Q
/-- how a body ends by return -/
def RetOk (A : Amb) (W : Ot) (s0 : A.S) (H0 : Hp) (s' : A.S) (H' : Hp) (v : V) : Ret → Prop
  | .d d => Rs (fun a => W.w a ∨ A.B s' a) H' d v
  | .o m => ∃ p, v = .ref p ∧ H0 p = none ∧ ¬ W.w p ∧ ¬ A.B s' p ∧ MoAt (fun a => (W.w a ∨ a = p) ∨ A.B s' a) H' p m ∧ A.I s' (fun a => (W.w a ∨ a = p) ∨ A.B s' a) H'
def SdS (A : Amb) (t : TS) (f : FS A) : Prop := ∀ W s0 H0 s σ H ρ P D, ER A W s0 H0 s σ H ρ → f P ρ s →
  (∀ ρ' s' σ' H', P.nx ρ' s' → ER A W s0 H0 s' σ' H' ρ' → D.nx σ' H') →
  (∀ ρ' s' σ' H', P.bk ρ' s' → ER A W s0 H0 s' σ' H' ρ' → D.bk σ' H') →
  (∀ ρ' s' σ' H', P.ct ρ' s' → ER A W s0 H0 s' σ' H' ρ' → D.ct σ' H') →
  (∀ r s' v H', P.rt r s' → A.I s' (fun a => W.w a ∨ A.B s' a) H' → Stp A s0 s' H0 H' → (∀ a, W.w a → H' a ≠ none) → RetOk A W s0 H0 s' H' v r → D.rt v H') → t D σ H
structure QE (X : Cx) (A : Amb) (m sh : Bool) (e : Expr) (t : TE) (f : FE A) : Prop where
  pe : PE X e t
  sd : SdE A m sh t f
structure QO (X : Cx) (A : Amb) (e : Expr) (t : TE) (f : FO A) : Prop where
  pe : PE X e t
  sd : SdO A t f
structure QT (X : Cx) (A : Amb) (e : Expr) (t : TT) (f : FT A) : Prop where
  pt : PT X e t
  sd : SdT A t f
structure QA (X : Cx) (A : Amb) (m : Bool) (es : List Expr) (t : TA) (f : FA A) : Prop where
  pa : PA X es t
  sd : SdA A m t f
structure QS (X : Cx) (A : Amb) (st : Stmt) (t : TS) (f : FS A) : Prop where
  ps : PS X st t
  sd : SdS A t f
structure QSs (X : Cx) (A : Amb) (st : List Stmt) (t : TS) (f : FS A) : Prop where
  ps : PSs X st t
  sd : SdS A t f
end Pd

set_option maxHeartbeats 4000000
namespace Pd
open PySem PySem.Spec PyProof.Rows L2
/-! ### deep data -/
def D.scal : D → Prop
  | .non => True
  | .bl _ => True
  | .int _ => True
  | .str _ => True
  | _ => False
mutual
def D.py : D → PyData
  | .non => .none
  | .bl b => .bool b
  | .int i => .int i
  | .str x => .str x
  | .tup l => .tuple (pyL l)
  | .lst l => .list (pyL l)
  | .dct _ _ => .none
  | .dtt _ _ => .none
  | .xdt _ _ => .none
  | .any _ => .none
def pyL : List D → List PyData
  | [] => []
  | d :: l => d.py :: pyL l
end
mutual
def D.plain : D → Bool
  | .non => true
  | .bl _ => true
  | .int _ => true
  | .str _ => true
  | .tup l => plainL l
  | .lst l => plainL l
  | .dct _ _ => false
  | .dtt _ _ => false
  | .xdt _ _ => false
  | .any _ => false
def plainL : List D → Bool
  | [] => true
  | d :: l => d.plain && plainL l
end
section
variable {B : Ad} {H : Hp} {K : Fg}
mutual
theorem Rs.dp : ∀ {d : D} {v : V}, Rs B H d v → d.plain = true → Dp K H v d.py
  | _, _, .non, _ => by simp only [D.py]; exact .non
  | _, _, .bl b, _ => by simp only [D.py]; exact .bl b
  | _, _, .int i, _ => by simp only [D.py]; exact .int i
  | _, _, .str x, _ => by simp only [D.py]; exact .str x
  | _, _, .any v, h => by simp [D.plain] at h
  | _, _, .dct _ _ _ _, h => by simp [D.plain] at h
  | _, _, .dtt _ _ _ _, h => by simp [D.plain] at h
  | _, _, .xdt _ _ _, h => by simp [D.plain] at h
  | _, _, .tup h n r, p => by simp only [D.py]; simp only [D.plain] at p; exact .tup (.of h) (RsL.dp r p)
  | _, _, .lst h n r, p => by simp only [D.py]; simp only [D.plain] at p; exact .lst (.of h) (RsL.dp r p)
theorem RsL.dp : ∀ {l : List D} {xs : List V}, RsL B H l xs → plainL l = true → DpAll K H xs (pyL l)
  | _, _, .nil, _ => by simp only [pyL]; exact .nil
  | _, _, .cons h r, p => by
    simp only [pyL]
    simp only [plainL, Bool.and_eq_true] at p
    exact .cons (Rs.dp h p.1) (RsL.dp r p.2)
end
end
section
variable {A : Amb} {W : Ot} {s0 s s' : A.S} {H0 H H' : Hp} {σ : Sg} {ρ : List Sl} {m sh : Bool}
theorem RV.up {d : D} {v : V} (r : RV A W s σ ρ H m false d v) : RV A W s σ ρ H m sh d v := .inl r.rs
theorem RV.rsT {l : List D} {v : V} (r : RV A W s σ ρ H m sh (.tup l) v) : Rs (om m A W s σ ρ) H (.tup l) v := by
  rcases r with r | ⟨e, l, a, xs, q, _⟩
  · exact r
  · cases q
/-- the frame's own list read as a whole: below (W and B) it is a tree -/
theorem RV.low {d : D} {v : V} (r : RV A W s σ ρ H m sh d v) : Rs (om false A W s σ ρ) H d v := by
  have w : ∀ a, om false A W s σ ρ a → om m A W s σ ρ a := fun a z => by
    rcases z with z | z | ⟨z, _⟩
    · exact .inl z
    · exact .inr (.inl z)
    · cases z
  rcases r with r | ⟨e, l, a, xs, rfl, rfl, h1, h2, h3, h4⟩
  · exact r.weak w
  · exact .lst h1 (fun z => by
      rcases z with z | z | ⟨z, _⟩
      · exact h3 z
      · exact h4 z
      · cases z) (h2.weak w)
theorem RV.ofScal {d : D} {v : V} (r : RV A W s σ ρ H m sh d v) (h : d.scal) {B : Ad} : Rs B H d v := by
  rcases r with r | ⟨e, l, a, xs, q, _⟩
  · cases r with
    | non => exact .non
    | bl b => exact .bl b
    | int b => exact .int b
    | str b => exact .str b
    | any => exact h.elim
    | tup => exact h.elim
    | lst => exact h.elim
    | dct => exact h.elim
    | dtt => exact h.elim
    | xdt => exact h.elim
  · subst q; exact h.elim
theorem RV.newL (R : ER A W s0 H0 s σ H ρ) {l : List D} {xs : List V} {p : Addr} (hp : H p = none) (r : RsL (om m A W s σ ρ) H l xs) : RV A W s σ ρ (upd H p (.lst xs)) m sh (.lst l) (.ref p) :=
  .inl (.lst upd_same (R.fresh hp) (r.stp (Stp.fresh hp)))
theorem RV.newT (R : ER A W s0 H0 s σ H ρ) {l : List D} {xs : List V} {p : Addr} (hp : H p = none) (r : RsL (om m A W s σ ρ) H l xs) : RV A W s σ ρ (upd H p (.tup xs)) m sh (.tup l) (.ref p) :=
  .inl (.tup upd_same (R.fresh hp) (r.stp (Stp.fresh hp)))
end
/-! ### names, constants -/
structure Br (b : Bool) (p q : Prop) : Prop where
  t : b = true → p
  f : b = false → q
theorem Br.ite {b : Bool} {p q : Prop} (h : Br b p q) : if b = true then p else q := by
  cases b with
  | true => rw [if_pos rfl]; exact h.t rfl
  | false => rw [if_neg (by decide)]; exact h.f rfl
theorem br_t {b : Bool} {p q : Prop} (h : b = true) (x : p) : Br b p q := ⟨fun _ => x, fun z => Bool.noConfusion (h.symm.trans z)⟩
theorem br_f {b : Bool} {p q : Prop} (h : b = false) (x : q) : Br b p q := ⟨fun z => Bool.noConfusion (h.symm.trans z), fun _ => x⟩
theorem br_b {c : Prop} [Decidable c] {p q : Prop} (h1 : c → p) (h2 : ¬ c → q) : Br (decide c) p q := ⟨fun z => h1 (of_decide_eq_true z), fun z => h2 (of_decide_eq_false z)⟩
theorem br_n {c : Prop} [Decidable c] {p q : Prop} (h1 : c → q) (h2 : ¬ c → p) : Br (!decide c) p q := ⟨fun z => h2 (by simpa using z), fun z => h1 (by simpa using z)⟩
/-- an item by an index -/
structure Ix {α : Type} (l : List α) (i : Int) (Φ : α → Prop) : Prop where
  ex : ∃ d, L2.atI l i = some d ∧ Φ d
def fV {S : Type} (i : Nat) : FE S := fun ρ s Φ => match ρ[i]? with
  | some (.v d) => Φ d s
  | _ => False
/-- .. or a list of the frame's own -/
def fW {S : Type} (i : Nat) : FE S := fun ρ s Φ => match ρ[i]? with
  | some (.v d) => Φ d s
  | some (.o (.lst l)) => Φ (.lst l) s
  | _ => False
/-- .. or a dict of the frame's own -/
def fU {S : Type} (i : Nat) : FE S := fun ρ s Φ => match ρ[i]? with
  | some (.v d) => Φ d s
  | some (.o (.lst l)) => Φ (.lst l) s
  | some (.o (.dk ks vs)) => Φ (.dct ks vs) s
  | some (.o (.dt ks vs)) => Φ (.dtt ks vs) s
  | _ => False
def fC {S : Type} (d : D) : FE S := fun _ s Φ => Φ d s
section
variable {A : Amb} {m sh : Bool}
theorem sd_v (i : Nat) : SdE A m sh (tVar i) (fV i) := by
  intro W s0 H0 s σ H ρ Φ Q R h q
  unfold fV at h
  split at h
  · rename_i d e
    obtain ⟨v, h1, h2⟩ := R.vals i d e
    refine ⟨v, h1, q d s v H h R Stp.refl (.inl (h2.weak fun a z => ?_))⟩
    rcases z with z | z | ⟨_, z⟩
    · exact .inl z
    · exact .inr (.inl z)
    · exact .inr (.inr ⟨rfl, z⟩)
  · exact h.elim
theorem ER.weakT {W : Ot} {s : A.S} {σ : Sg} {ρ : List Sl} : ∀ a, om m A W s σ ρ a → om true A W s σ ρ a := fun a z => by
  rcases z with z | z | ⟨_, z⟩
  · exact .inl z
  · exact .inr (.inl z)
  · exact .inr (.inr ⟨rfl, z⟩)
theorem ER.lowOwn {W : Ot} {s0 s : A.S} {H0 H : Hp} {σ : Sg} {ρ : List Sl} {a : Addr} (h1 : ¬ W.w a) (h2 : ¬ A.B s a) : ¬ om false A W s σ ρ a := fun z => by
  rcases z with z | z | ⟨z, _⟩
  · exact h1 z
  · exact h2 z
  · cases z
theorem sd_w (i : Nat) (hm : sh = true ∨ m = false) : SdE A m sh (tVar i) (fW i) := by
  intro W s0 H0 s σ H ρ Φ Q R h q
  unfold fW at h
  split at h
  · rename_i d e
    obtain ⟨v, h1, h2⟩ := R.vals i d e
    exact ⟨v, h1, q d s v H h R Stp.refl (.inl (h2.weak ER.weakT))⟩
  · rename_i l e
    obtain ⟨a, h1, ⟨xs, h2, h3⟩, h4, h5, h6⟩ := R.own i _ e
    refine ⟨.ref a, h1, q _ s _ H h R Stp.refl ?_⟩
    rcases hm with e | e
    · subst e
      exact .inr ⟨rfl, l, a, xs, rfl, rfl, h2, h3.weak ER.weakT, h5, h6⟩
    · subst e
      exact .inl (.lst h2 (ER.lowOwn (s0 := s0) (H0 := H0) (H := H) h5 h6) (h3.weak ER.weakT))
  · exact h.elim
theorem sd_u (i : Nat) : SdE A false sh (tVar i) (fU i) := by
  intro W s0 H0 s σ H ρ Φ Q R h q
  unfold fU at h
  split at h
  · rename_i d e
    obtain ⟨v, h1, h2⟩ := R.vals i d e
    exact ⟨v, h1, q d s v H h R Stp.refl (.inl (h2.weak ER.weakT))⟩
  · rename_i l e
    obtain ⟨a, h1, ⟨xs, h2, h3⟩, h4, h5, h6⟩ := R.own i _ e
    exact ⟨.ref a, h1, q _ s _ H h R Stp.refl (.inl (.lst h2 (ER.lowOwn (s0 := s0) (H0 := H0) (H := H) h5 h6) (h3.weak ER.weakT)))⟩
  · rename_i ks vs e
    obtain ⟨a, h1, ⟨kvs, h2, hk, h3⟩, h4, h5, h6⟩ := R.own i _ e
    exact ⟨.ref a, h1, q _ s _ H h R Stp.refl (.inl (.dct h2 (ER.lowOwn (s0 := s0) (H0 := H0) (H := H) h5 h6) hk (h3.weak ER.weakT)))⟩
  · rename_i ks vs e
    obtain ⟨a, h1, ⟨kvs, h2, hk, h3⟩, h4, h5, h6⟩ := R.own i _ e
    exact ⟨.ref a, h1, q _ s _ H h R Stp.refl (.inl (.dtt h2 (ER.lowOwn (s0 := s0) (H0 := H0) (H := H) h5 h6) hk (h3.weak ER.weakT)))⟩
  · exact h.elim
theorem sd_c {d : D} {v : V} (h : ∀ B H, Rs B H d v) : SdE A m sh (tC v) (fC d) := fun W s0 H0 s σ H ρ Φ Q R hp q => q d s v H hp R Stp.refl (.inl (h _ _))
/-- a value that is no object stands whatever changes -/
def fScal {S : Type} (f : FE S) : FE S := fun ρ s Φ => f ρ s fun d s' => d.scal ∧ Φ d s'
theorem sd_scal {m1 sh1 : Bool} {t : TE} {f : FE A} (h : SdE A m1 sh1 t f) : SdE A m sh t (fScal f) := fun W s0 H0 s σ H ρ Φ Q R hp q =>
  h W s0 H0 s σ H ρ _ Q R hp fun d s' v H' hd R' st r => q d s' v H' hd.2 R' st (.inl (r.ofScal hd.1))
end
/-! ### two-place operations -/
def SdR (A : Amb) (m m1 sh1 m2 sh2 : Bool) (r : R2) (op : D → D → (D → Prop) → Prop) : Prop :=
  ∀ W s0 H0 s σ H ρ x y v w Φ Q, ER A W s0 H0 s σ H ρ → RV A W s σ ρ H m1 sh1 x v → RV A W s σ ρ H m2 sh2 y w → op x y Φ →
    (∀ d u H', Φ d → ER A W s0 H0 s σ H' ρ → Stp A s s H H' → RV A W s σ ρ H' m false d u → Q u H') → r v w H Q
def fBin {S : Type} (op : D → D → (D → Prop) → Prop) (fa fb : FE S) : FE S := fun ρ s Φ => fa ρ s fun x s1 => fb ρ s1 fun y s2 => op x y fun d => Φ d s2
section
variable {A : Amb} {m sh m1 sh1 m2 sh2 : Bool} {r : R2} {op : D → D → (D → Prop) → Prop} {ta tb tc : TE} {fa fb fc : FE A}
theorem sd_bin (hr : SdR A m m1 sh1 m2 sh2 r op) (ha : SdE A m1 sh1 ta fa) (hb : SdE A m2 sh2 tb fb) : SdE A m sh (tOp r ta tb) (fBin op fa fb) :=
  fun W s0 H0 s σ H ρ Φ Q R h q => ha W s0 H0 s σ H ρ _ _ R h fun x s1 v H1 h1 R1 st1 r1 => hb W s0 H0 s1 σ H1 ρ _ _ R1 h1 fun y s2 w H2 h2 R2 st2 r2 =>
    hr W s0 H0 s2 σ H2 ρ x y v w _ Q R2 (r1.stp st2) r2 h2 fun d u H3 hd R3 st3 r3 => q d s2 u H3 hd R3 ((st1.trans st2).trans st3) r3.up
theorem sdr_same {g : D → D → (D → Prop) → Prop} (h : ∀ x y v w H Φ Q W s σ ρ, RV A W s σ ρ H m1 sh1 x v → RV A W s σ ρ H m2 sh2 y w → g x y Φ → (∀ d u, Φ d → (∀ B, Rs B H d u) → Q u H) → r v w H Q) : SdR A m m1 sh1 m2 sh2 r g :=
  fun W s0 H0 s σ H ρ x y v w Φ Q R rx ry hg q => h x y v w H Φ Q W s σ ρ rx ry hg fun d u hd hu => q d u H hd R Stp.refl (.inl (hu _))
end
/-- ints -/
def dI (C : Int → Int → Prop) (g : Int → Int → D) (x y : D) (Φ : D → Prop) : Prop := match x, y with
  | .int i, .int j => C i j ∧ Φ (g i j)
  | _, _ => False
def dI0 (g : Int → Int → D) (x y : D) (Φ : D → Prop) : Prop := match x, y with
  | .int i, .int j => Φ (g i j)
  | _, _ => False
section
variable {A : Amb} {m m1 sh1 m2 sh2 : Bool}
theorem sdr_I0i {g : Int → Int → Int} : SdR A m m1 sh1 m2 sh2 (rI0 fun i j => .int (g i j)) (dI0 fun i j => .int (g i j)) := sdr_same fun x y v w H Φ Q W s σ ρ rx ry h q => by
  unfold dI0 at h
  split at h
  · rename_i i j
    obtain rfl := rx.int
    obtain rfl := ry.int
    exact ⟨i, j, rfl, rfl, q _ _ h fun B => .int _⟩
  · exact h.elim
theorem sdr_I0b {g : Int → Int → Bool} : SdR A m m1 sh1 m2 sh2 (rI0 fun i j => .bl (g i j)) (dI0 fun i j => .bl (g i j)) := sdr_same fun x y v w H Φ Q W s σ ρ rx ry h q => by
  unfold dI0 at h
  split at h
  · rename_i i j
    obtain rfl := rx.int
    obtain rfl := ry.int
    exact ⟨i, j, rfl, rfl, q _ _ h fun B => .bl _⟩
  · exact h.elim
theorem sdr_Ii {C : Int → Int → Prop} {g : Int → Int → Int} : SdR A m m1 sh1 m2 sh2 (rI C fun i j => .int (g i j)) (dI C fun i j => .int (g i j)) := sdr_same fun x y v w H Φ Q W s σ ρ rx ry h q => by
  unfold dI at h
  split at h
  · rename_i i j
    obtain rfl := rx.int
    obtain rfl := ry.int
    exact ⟨i, j, rfl, rfl, h.1, q _ _ h.2 fun B => .int _⟩
  · exact h.elim
end
/-! + : ints, texts, lists, tuples -/
def rAddA (K : Fg) : R2 := fun x y H Q => rI0 (fun i j => .int (i + j)) x y H Q ∨ (fun x y H Q => ∃ i j, x = .str i ∧ y = .str j ∧ i.length + j.length ≤ sizeLine ∧ Q (.str (i ++ j)) H : R2) x y H Q ∨ rCat x y H Q ∨ rCatA K x y H Q
theorem op_addA {X : Cx} : OpR X (binaryOp .Add) (rAddA X.K) := OpR.or op_add (OpR.or op_add_str (OpR.or op_cat op_catA))
def dAdd (x y : D) (Φ : D → Prop) : Prop := match x, y with
  | .int i, .int j => Φ (.int (i + j))
  | .str i, .str j => i.length + j.length ≤ 16777216 ∧ Φ (.str (i ++ j))
  | .lst a, .lst b => a.length + b.length ≤ 16777216 ∧ Φ (.lst (a ++ b))
  | .tup a, .tup b => a.length + b.length ≤ 16777216 ∧ Φ (.tup (a ++ b))
  | _, _ => False
theorem line_eq : sizeLine = 16777216 := by decide
section
variable {A : Amb} {m m1 m2 sh1 sh2 : Bool} {K : Fg}
theorem sdr_add : SdR A m m sh1 m sh2 (rAddA K) dAdd := by
  intro W s0 H0 s σ H ρ x y v w Φ Q R rx ry h q
  unfold dAdd at h
  split at h
  · rename_i i j
    obtain rfl := rx.int
    obtain rfl := ry.int
    exact .inl ⟨i, j, rfl, rfl, q _ _ H h R Stp.refl (.inl (.int _))⟩
  · rename_i i j
    obtain rfl := rx.str
    obtain rfl := ry.str
    exact .inr (.inl ⟨i, j, rfl, rfl, by rw [line_eq]; exact h.1, q _ _ H h.2 R Stp.refl (.inl (.str _))⟩)
  · rename_i a b
    obtain ⟨p, xs, rfl, h1, h2, _⟩ := rx.lst
    obtain ⟨p', xs', rfl, h1', h2', _⟩ := ry.lst
    refine .inr (.inr (.inl ⟨p, p', xs, xs', rfl, rfl, h1, h1', by rw [line_eq, h2.length, h2'.length]; exact h.1, fun n hn => ?_⟩))
    exact q _ _ _ h.2 (R.alloc hn _) (Stp.fresh hn) (RV.newL R hn (h2.append h2'))
  · rename_i a b
    obtain ⟨p, xs, rfl, h1, h2⟩ := rx.tup
    obtain ⟨p', xs', rfl, h1', h2'⟩ := ry.tup
    refine .inr (.inr (.inr ⟨p, p', xs, xs', rfl, rfl, .of h1, .of h1', by rw [line_eq, h2.length, h2'.length]; exact h.1, fun e => ?_, fun _ e => ?_, fun _ _ n hn => ?_⟩))
    · subst e
      have z' : a = [] := List.eq_nil_of_length_eq_zero h2.length.symm
      subst z'
      exact q _ _ H h.2 R Stp.refl (.inl ry.rsT)
    · subst e
      have z' : b = [] := List.eq_nil_of_length_eq_zero h2'.length.symm
      subst z'
      have h3 := h.2
      rw [List.append_nil] at h3
      exact q _ _ H h3 R Stp.refl (.inl rx.rsT)
    · exact q _ _ _ h.2 (R.alloc hn _) (Stp.fresh hn) (RV.newT R hn (h2.append h2'))
  · exact h.elim
end
/-! * : ints, a list times an int -/
theorem RsL.rep {B : Ad} {H : Hp} {l : List D} {xs : List V} (h : RsL B H l xs) : ∀ k : Nat, RsL B H (List.replicate k l).flatten (List.replicate k xs).flatten
  | 0 => .nil
  | k + 1 => by
    rw [List.replicate_succ, List.replicate_succ, List.flatten_cons, List.flatten_cons]
    exact h.append (RsL.rep h k)
def rMulA : R2 := fun x y H Q => rI CMulW (fun i j => .int (i * j)) x y H Q ∨ rRep x y H Q
theorem op_mulA {X : Cx} : OpR X (binaryOp .Mult) rMulA := OpR.or op_mulW op_rep
/-- bits of both together below a million -/
def dMul (x y : D) (Φ : D → Prop) : Prop := match x, y with
  | .int i, .int j => CMulW i j ∧ Φ (.int (i * j))
  | .lst a, .int k => (-(2 ^ 63) ≤ k ∧ k < 2 ^ 63 ∧ a.length * k.toNat ≤ 16777216) ∧ Φ (.lst (List.replicate k.toNat a).flatten)
  | _, _ => False
section
variable {A : Amb} {m m1 m2 sh1 sh2 : Bool} {K : Fg}
theorem sdr_mul : SdR A m m sh1 m2 sh2 rMulA dMul := by
  intro W s0 H0 s σ H ρ x y v w Φ Q R rx ry h q
  unfold dMul at h
  split at h
  · rename_i i j
    obtain rfl := rx.int
    obtain rfl := ry.int
    exact .inl ⟨i, j, rfl, rfl, h.1, q _ _ H h.2 R Stp.refl (.inl (.int _))⟩
  · rename_i a k
    obtain ⟨p, xs, rfl, h1, h2, _⟩ := rx.lst
    obtain rfl := ry.int
    refine .inr ⟨p, k, xs, rfl, rfl, h1, h.1.1, h.1.2.1, by rw [line_eq, h2.length]; exact h.1.2.2, fun n hn => ?_⟩
    exact q _ _ _ h.2 (R.alloc hn _) (Stp.fresh hn) (RV.newL R hn (h2.rep _))
  · exact h.elim
end
/-! == and != -/
def rEqA (K : Fg) : R2 := fun x y H Q => rEq x y H Q ∨ rEqD K x y H Q
def rNeA (K : Fg) : R2 := fun x y H Q => rNe x y H Q ∨ rNeD K x y H Q
theorem op_eqA {X : Cx} (hu : X.A.units + 64 < cLine) : OpR X (compareOp .Eq) (rEqA X.K) := OpR.or op_eq (op_eqD hu)
theorem op_neA {X : Cx} (hu : X.A.units + 64 < cLine) : OpR X (compareOp .NotEq) (rNeA X.K) := OpR.or op_ne (op_neD hu)
/-- data that == looks through -/
structure DOk (x : D) : Prop where
  plain : x.plain = true
  shaped : SeqAt.shaped x.py = true
/-- == as a bool: of texts, ints, bools, None as they are; else by their data -/
def dEqB (x y : D) (Φ : Bool → Prop) : Prop := match x, y with
  | .int i, .int j => Φ (decide (i = j))
  | .str i, .str j => Φ (decide (i = j))
  | .bl i, .bl j => Φ (decide (i = j))
  | .non, .non => Φ true
  | .int _, .str _ => Φ false
  | .str _, .int _ => Φ false
  | .int _, .non => Φ false
  | .non, .int _ => Φ false
  | .str _, .non => Φ false
  | .non, .str _ => Φ false
  | .bl _, .non => Φ false
  | .non, .bl _ => Φ false
  | .bl _, .str _ => Φ false
  | .str _, .bl _ => Φ false
  | x, y => DOk x ∧ DOk y ∧ Φ (PyData.eqv x.py y.py)
theorem dEqB_run {K : Fg} {A : Amb} {m1 sh1 m2 sh2 : Bool} {x y : D} {v w : V} {H : Hp} {Φ : Bool → Prop} {W : Ot} {s : A.S} {σ : Sg} {ρ : List Sl} (rx : RV A W s σ ρ H m1 sh1 x v) (ry : RV A W s σ ρ H m2 sh2 y w) (h : dEqB x y Φ) :
    (scal v w = true ∧ Φ (decide (v = w))) ∨ ∃ d e, Dp K H v d ∧ Dp K H w e ∧ SeqAt.shaped d = true ∧ SeqAt.shaped e = true ∧ Φ (PyData.eqv d e) := by
  unfold dEqB at h
  split at h
  · obtain rfl := rx.int
    obtain rfl := ry.int
    exact .inl ⟨rfl, by simpa using h⟩
  · obtain rfl := rx.str
    obtain rfl := ry.str
    exact .inl ⟨rfl, by simpa using h⟩
  · obtain rfl := rx.bl
    obtain rfl := ry.bl
    exact .inl ⟨rfl, by simpa using h⟩
  · obtain rfl := rx.non
    obtain rfl := ry.non
    exact .inl ⟨rfl, by simpa using h⟩
  · obtain rfl := rx.int
    obtain rfl := ry.str
    exact .inl ⟨rfl, by simpa using h⟩
  · obtain rfl := rx.str
    obtain rfl := ry.int
    exact .inl ⟨rfl, by simpa using h⟩
  · obtain rfl := rx.int
    obtain rfl := ry.non
    exact .inl ⟨rfl, by simpa using h⟩
  · obtain rfl := rx.non
    obtain rfl := ry.int
    exact .inl ⟨rfl, by simpa using h⟩
  · obtain rfl := rx.str
    obtain rfl := ry.non
    exact .inl ⟨rfl, by simpa using h⟩
  · obtain rfl := rx.non
    obtain rfl := ry.str
    exact .inl ⟨rfl, by simpa using h⟩
  · obtain rfl := rx.bl
    obtain rfl := ry.non
    exact .inl ⟨rfl, by simpa using h⟩
  · obtain rfl := rx.non
    obtain rfl := ry.bl
    exact .inl ⟨rfl, by simpa using h⟩
  · obtain rfl := rx.bl
    obtain rfl := ry.str
    exact .inl ⟨rfl, by simpa using h⟩
  · obtain rfl := rx.str
    obtain rfl := ry.bl
    exact .inl ⟨rfl, by simpa using h⟩
  · exact .inr ⟨_, _, Rs.dp rx.low h.1.plain, Rs.dp ry.low h.2.1.plain, h.1.shaped, h.2.1.shaped, h.2.2⟩
def dEq (x y : D) (Φ : D → Prop) : Prop := dEqB x y fun b => Φ (.bl b)
def dNe (x y : D) (Φ : D → Prop) : Prop := dEqB x y fun b => Φ (.bl (!b))
section
variable {A : Amb} {m m1 m2 sh1 sh2 : Bool} {K : Fg}
theorem sdr_eq : SdR A m m1 sh1 m2 sh2 (rEqA K) dEq := sdr_same fun x y v w H Φ Q W s σ ρ rx ry h q => by
  rcases dEqB_run (K := K) rx ry h with ⟨h1, h2⟩ | ⟨d, e, h1, h2, h3, h4, h5⟩
  · exact .inl ⟨h1, q _ _ h2 fun B => .bl _⟩
  · exact .inr ⟨d, e, h1, h2, h3, h4, q _ _ h5 fun B => .bl _⟩
theorem sdr_ne : SdR A m m1 sh1 m2 sh2 (rNeA K) dNe := sdr_same fun x y v w H Φ Q W s σ ρ rx ry h q => by
  rcases dEqB_run (K := K) rx ry h with ⟨h1, h2⟩ | ⟨d, e, h1, h2, h3, h4, h5⟩
  · exact .inl ⟨h1, q _ _ h2 fun B => .bl _⟩
  · exact .inr ⟨d, e, h1, h2, h3, h4, q _ _ h5 fun B => .bl _⟩
end
/-! is None, is not None; is of bools -/
def D.isNon : D → Bool
  | .non => true
  | _ => false
/-- the answer of «x is None»: no opaque value -/
def dIsN (x y : D) (Φ : D → Prop) : Prop := match y with
  | .non => (match x with | .any _ => False | _ => Φ (.bl x.isNon))
  | _ => False
def dNotN (x y : D) (Φ : D → Prop) : Prop := match y with
  | .non => (match x with | .any _ => False | _ => Φ (.bl (!x.isNon)))
  | _ => False
theorem Rs.isNon {B : Ad} {H : Hp} {x : D} {v : V} (r : Rs B H x v) (h : ∀ u, x ≠ .any u) : decide (v = .non) = x.isNon := by
  cases r with
  | any => exact (h _ rfl).elim
  | non => rfl
  | _ => rfl
section
variable {A : Amb} {m m1 m2 sh1 sh2 : Bool} {K : Fg}
theorem sdr_isN : SdR A m m1 sh1 m2 sh2 (fun x y H Q => y = .non ∧ Q (.bl (decide (x = .non))) H) dIsN := sdr_same fun x y v w H Φ Q W s σ ρ rx ry h q => by
  unfold dIsN at h
  split at h
  · obtain rfl := ry.non
    split at h
    · exact h.elim
    · rename_i hn
      refine ⟨rfl, ?_⟩
      rw [rx.low.isNon hn]
      exact q _ _ h fun B => .bl _
  · exact h.elim
theorem sdr_notN : SdR A m m1 sh1 m2 sh2 (fun x y H Q => y = .non ∧ Q (.bl (!decide (x = .non))) H) dNotN := sdr_same fun x y v w H Φ Q W s σ ρ rx ry h q => by
  unfold dNotN at h
  split at h
  · obtain rfl := ry.non
    split at h
    · exact h.elim
    · rename_i hn
      refine ⟨rfl, ?_⟩
      rw [rx.low.isNon hn]
      exact q _ _ h fun B => .bl _
  · exact h.elim
end
/-! ### subscripts -/
def dIx (x y : D) (Φ : D → Prop) : Prop := match x, y with
  | .lst l, .int i => Ix l i Φ
  | .tup l, .int i => Ix l i Φ
  | .str z, .int i => z.length ≤ 16777216 ∧ Ix z.cps.toList i fun c => Φ (.str ⟨#[c]⟩)
  | _, _ => False
theorem RsL.atI {B : Ad} {H : Hp} {l : List D} {xs : List V} {i : Int} {d : D} (r : RsL B H l xs) (h : L2.atI l i = some d) : ∃ v, L2.atI xs i = some v ∧ Rs B H d v := by
  unfold L2.atI at h ⊢
  rw [r.length]
  cases e : ixN l.length i with
  | none => rw [e] at h; cases h
  | some j =>
    rw [e] at h
    exact r.get h
section
variable {A : Amb} {m m1 m2 sh1 sh2 : Bool} {K : Fg}
theorem sdr_ix {m2 sh2 : Bool} : SdR A m m sh1 m2 sh2 (rIx K) dIx := by
  intro W s0 H0 s σ H ρ x y v w Φ Q R rx ry h q
  unfold dIx at h
  split at h
  · rename_i l i
    obtain ⟨p, xs, rfl, h1, h2, _⟩ := rx.lst
    obtain rfl := ry.int
    obtain ⟨⟨d, e, h⟩⟩ := h
    obtain ⟨u, h3, h4⟩ := h2.atI e
    exact .inl ⟨p, xs, i, u, rfl, rfl, .of h1, h3, q _ _ H h R Stp.refl (.inl h4)⟩
  · rename_i l i
    obtain ⟨p, xs, rfl, h1, h2⟩ := rx.tup
    obtain rfl := ry.int
    obtain ⟨⟨d, e, h⟩⟩ := h
    obtain ⟨u, h3, h4⟩ := h2.atI e
    exact .inr (.inl ⟨p, xs, i, u, rfl, rfl, .of h1, h3, q _ _ H h R Stp.refl (.inl h4)⟩)
  · rename_i z i
    obtain rfl := rx.str
    obtain rfl := ry.int
    obtain ⟨h0, ⟨c, e, h⟩⟩ := h
    exact .inr (.inr ⟨z, i, c, rfl, rfl, by rw [line_eq]; exact h0, e, q _ _ H h R Stp.refl (.inl (.str _))⟩)
  · exact h.elim
/-- xs[k], k written -/
def dIxN (k : Nat) (x _ : D) (Φ : D → Prop) : Prop := match x with
  | .lst l => (match l[k]? with | some d => Φ d | none => False)
  | .tup l => (match l[k]? with | some d => Φ d | none => False)
  | _ => False
theorem dIxN_ix {k : Nat} {x : D} {Φ : D → Prop} (h : dIxN k x (.int k) Φ) : dIx x (.int k) Φ := by
  unfold dIxN at h
  split at h
  · split at h
    · rename_i l d e
      exact ⟨d, L2.atI_nat e, h⟩
    · exact h.elim
  · split at h
    · rename_i l d e
      exact ⟨d, L2.atI_nat e, h⟩
    · exact h.elim
  · exact h.elim
theorem sdr_ixn {m2 sh2 : Bool} {W : Ot} {s0 s : A.S} {H0 H : Hp} {σ : Sg} {ρ : List Sl} {k : Nat} {x y : D} {v w : V} {Φ : D → Prop} {Q : VK} (R : ER A W s0 H0 s σ H ρ) (rx : RV A W s σ ρ H m sh1 x v) (rw : w = .int k) (h : dIxN k x y Φ)
    (q : ∀ d u H', Φ d → ER A W s0 H0 s σ H' ρ → Stp A s s H H' → RV A W s σ ρ H' m false d u → Q u H') : rIx K v w H Q := by
  subst rw
  exact sdr_ix (sh2 := sh2) (m2 := m2) W s0 H0 s σ H ρ x (.int k) v (.int k) Φ Q R rx (.inl (.int _)) (dIxN_ix h) q
theorem at_nat {α : Type} {xs : List α} {i : Int} (h0 : 0 ≤ i) (h1 : i < xs.length) : L2.atI xs i = some (xs[i.toNat]'(by omega)) := by
  have e : i = ((i.toNat : Nat) : Int) := by omega
  have g : xs[i.toNat]? = some (xs[i.toNat]'(by omega)) := List.getElem?_eq_getElem _
  exact (congrArg (L2.atI xs) e).trans (L2.atI_nat g)
theorem ix_go {α : Type} {l : List α} {i : Int} {Φ : α → Prop} (h0 : 0 ≤ i) (h1 : i < l.length) (q : ∀ d, l[i.toNat]? = some d → Φ d) : Ix l i Φ := ⟨_, at_nat h0 h1, q _ (List.getElem?_eq_getElem _)⟩
theorem ix_nat {α : Type} {l : List α} {k : Nat} {d : α} {Φ : α → Prop} (h : l[k]? = some d) (q : Φ d) : Ix l (k : Int) Φ := ⟨d, L2.atI_nat h, q⟩
end
/-! x in (flat things), x not in; a text in a text -/
def D.flat : D → Bool
  | .non => true
  | .bl _ => true
  | .int _ => true
  | .str _ => true
  | _ => false
def eqD : D → D → Bool
  | .non, .non => true
  | .bl a, .bl b => a == b
  | .bl a, .int b => (if a then 1 else 0) == b
  | .int a, .bl b => a == (if b then 1 else 0)
  | .int a, .int b => a == b
  | .str a, .str b => a == b
  | _, _ => false
def inD (x : D) (l : List D) : Bool := l.any fun y => eqD y x
theorem Rs.eqV {B B' : Ad} {H H' : Hp} {x y : D} {v w : V} (r : Rs B H x v) (q : Rs B' H' y w) (hx : x.flat = true) (hy : y.flat = true) : L2.eqV v w = eqD x y ∧ flatV v = true := by
  cases r <;> cases q <;> first | exact ⟨rfl, rfl⟩ | simp [D.flat] at hx hy
theorem RsL.inV {B B' : Ad} {H H' : Hp} {x : D} {v : V} (r : Rs B' H' x v) (hx : x.flat = true) : ∀ {l : List D} {xs : List V}, RsL B H l xs → l.all D.flat = true → L2.inV v xs = inD x l ∧ xs.all flatV = true
  | _, _, .nil, _ => ⟨rfl, rfl⟩
  | _, _, .cons h t, ha => by
    rw [List.all_cons, Bool.and_eq_true] at ha
    obtain ⟨h1, h2⟩ := RsL.inV r hx t ha.2
    obtain ⟨h3, h4⟩ := h.eqV r ha.1 hx
    unfold L2.inV inD at h1 ⊢
    rw [List.any_cons, List.any_cons, h1, h3, List.all_cons, h4, h2]
    exact ⟨rfl, rfl⟩
def rInA (K : Fg) : R2 := fun x y H Q => rIn K false x y H Q ∨ (fun x y H Q => ∃ i j, x = .str i ∧ y = .str j ∧ Q (.bl (!(Builtin.Str.occurrences j i 0 j.length 1).isEmpty)) H : R2) x y H Q
theorem op_inA {X : Cx} : OpR X (compareOp .In) (rInA X.K) := OpR.or op_in_seq op_in_str
def dIn (x y : D) (Φ : D → Prop) : Prop := match y with
  | .lst l => x.flat = true ∧ l.all D.flat = true ∧ Φ (.bl (inD x l))
  | .tup l => x.flat = true ∧ l.all D.flat = true ∧ Φ (.bl (inD x l))
  | .str j => (match x with | .str i => Φ (.bl (!(Builtin.Str.occurrences j i 0 j.length 1).isEmpty)) | _ => False)
  | _ => False
def dNotIn (x y : D) (Φ : D → Prop) : Prop := match y with
  | .lst l => x.flat = true ∧ l.all D.flat = true ∧ Φ (.bl (!inD x l))
  | .tup l => x.flat = true ∧ l.all D.flat = true ∧ Φ (.bl (!inD x l))
  | _ => False
section
variable {A : Amb} {m m1 m2 sh1 sh2 : Bool} {K : Fg}
theorem sdr_in : SdR A m m1 sh1 m2 sh2 (rInA K) dIn := sdr_same fun x y v w H Φ Q W s σ ρ rx ry h q => by
  unfold dIn at h
  split at h
  · obtain ⟨p, xs, rfl, h1, h2, _⟩ := ry.lst
    obtain ⟨h3, h4⟩ := RsL.inV rx.low h.1 h2 h.2.1
    have fx := (rx.low.eqV rx.low h.1 h.1).2
    exact .inl ⟨p, xs, rfl, .inl (.of h1), fx, h4, by rw [if_neg (by decide), h3]; exact q _ _ h.2.2 fun B => .bl _⟩
  · obtain ⟨p, xs, rfl, h1, h2⟩ := ry.tup
    obtain ⟨h3, h4⟩ := RsL.inV rx.low h.1 h2 h.2.1
    have fx := (rx.low.eqV rx.low h.1 h.1).2
    exact .inl ⟨p, xs, rfl, .inr (.of h1), fx, h4, by rw [if_neg (by decide), h3]; exact q _ _ h.2.2 fun B => .bl _⟩
  · split at h
    · obtain rfl := rx.str
      obtain rfl := ry.str
      exact .inr ⟨_, _, rfl, rfl, q _ _ h fun B => .bl _⟩
    · exact h.elim
  · exact h.elim
theorem sdr_notIn : SdR A m m1 sh1 m2 sh2 (rIn K true) dNotIn := sdr_same fun x y v w H Φ Q W s σ ρ rx ry h q => by
  unfold dNotIn at h
  split at h
  · obtain ⟨p, xs, rfl, h1, h2, _⟩ := ry.lst
    obtain ⟨h3, h4⟩ := RsL.inV rx.low h.1 h2 h.2.1
    have fx := (rx.low.eqV rx.low h.1 h.1).2
    exact ⟨p, xs, rfl, .inl (.of h1), fx, h4, by rw [if_pos rfl, h3]; exact q _ _ h.2.2 fun B => .bl _⟩
  · obtain ⟨p, xs, rfl, h1, h2⟩ := ry.tup
    obtain ⟨h3, h4⟩ := RsL.inV rx.low h.1 h2 h.2.1
    have fx := (rx.low.eqV rx.low h.1 h.1).2
    exact ⟨p, xs, rfl, .inr (.of h1), fx, h4, by rw [if_pos rfl, h3]; exact q _ _ h.2.2 fun B => .bl _⟩
  · exact h.elim
end
end Pd

set_option maxHeartbeats 4000000
namespace Pd
open PySem PySem.Spec PyProof.Rows L2
/-! ### tests -/
def fTest {S : Type} (f : FE S) : FT S := fun ρ s Φ => f ρ s fun d s' => match d with
  | .bl b => Φ b s'
  | _ => False
def dTru (d : D) (Φ : Bool → Prop) : Prop := match d with
  | .non => Φ false
  | .bl b => Φ b
  | .int i => Φ (i != 0)
  | .str x => x.length ≤ 16777216 ∧ Φ ((x.length : Int) != 0)
  | .lst l => Φ (!l.isEmpty)
  | .tup l => Φ (!l.isEmpty)
  | .dct ks _ => Φ (!ks.isEmpty)
  | .dtt _ _ => False
  | .xdt _ _ => False
  | .any _ => False
def fTru {S : Type} (f : FE S) : FT S := fun ρ s Φ => f ρ s fun d s' => dTru d fun b => Φ b s'
def fNotT {S : Type} (f : FT S) : FT S := fun ρ s Φ => f ρ s fun b s' => Φ (!b) s'
def fAndT {S : Type} (f g : FT S) : FT S := fun ρ s Φ => f ρ s fun b s' => Br b (g ρ s' Φ) (Φ false s')
def fOrT {S : Type} (f g : FT S) : FT S := fun ρ s Φ => f ρ s fun b s' => Br b (Φ true s') (g ρ s' Φ)
def fAndV {S : Type} (f g : FE S) : FE S := fun ρ s Φ => f ρ s fun d s' => match d with
  | .bl b => Br b (g ρ s' Φ) (Φ (.bl false) s')
  | _ => False
def fOrV {S : Type} (f g : FE S) : FE S := fun ρ s Φ => f ρ s fun d s' => match d with
  | .bl b => Br b (Φ (.bl true) s') (g ρ s' Φ)
  | _ => False
def fNotV {S : Type} (f : FE S) : FE S := fun ρ s Φ => f ρ s fun d s' => match d with
  | .bl b => Φ (.bl (!b)) s'
  | _ => False
def fIf {S : Type} (c : FT S) (f g : FE S) : FE S := fun ρ s Φ => c ρ s fun b s' => Br b (f ρ s' Φ) (g ρ s' Φ)
section
variable {A : Amb} {m sh m1 sh1 m2 sh2 m3 sh3 : Bool} {t ta tb tc : TE} {f fa fb fc : FE A} {u w : TT} {g k : FT A} {K : Fg}
theorem sd_test (h : SdE A m1 sh1 t f) : SdT A (tTest t) (fTest f) := fun W s0 H0 s σ H ρ Φ Q R hp q =>
  h W s0 H0 s σ H ρ _ _ R hp fun d s' v H' hd R' st r => by
    cases d with
    | bl b => obtain rfl := r.bl; exact ⟨b, rfl, q b s' H' hd R' st⟩
    | _ => exact hd.elim
theorem sd_testB (h : SdE A m1 sh1 t f) : SdT A (tB t) (fTest f) := sd_test h
theorem sd_tru (h : SdE A m1 sh1 t f) : SdT A (fun σ H Q => t σ H fun x H' => ∃ k, TruV K x H' k ∧ Q k H') (fTru f) := fun W s0 H0 s σ H ρ Φ Q R hp q =>
  h W s0 H0 s σ H ρ _ _ R hp fun d s' v H' hd R' st r => by
    cases d with
    | bl b => obtain rfl := r.bl; exact ⟨_, rfl, q _ s' H' hd R' st⟩
    | non => obtain rfl := r.non; exact ⟨_, rfl, q _ s' H' hd R' st⟩
    | int i => obtain rfl := r.int; exact ⟨_, rfl, q _ s' H' hd R' st⟩
    | str x => obtain rfl := r.str; exact ⟨_, ⟨by rw [line_eq]; exact hd.1, rfl⟩, q _ s' H' hd.2 R' st⟩
    | lst l =>
      obtain ⟨a, xs, rfl, h1, h2, _⟩ := r.lst
      refine ⟨!xs.isEmpty, .inl ⟨xs, .of h1, rfl⟩, ?_⟩
      have e : xs.isEmpty = l.isEmpty := by
        have := h2.length
        cases xs <;> cases l <;> first | rfl | (simp at this)
      rw [e]
      exact q _ s' H' hd R' st
    | tup l =>
      obtain ⟨a, xs, rfl, h1, h2⟩ := r.tup
      refine ⟨!xs.isEmpty, .inr (.inl ⟨xs, .of h1, rfl⟩), ?_⟩
      have e : xs.isEmpty = l.isEmpty := by
        have := h2.length
        cases xs <;> cases l <;> first | rfl | (simp at this)
      rw [e]
      exact q _ s' H' hd R' st
    | dct ks vs =>
      have r2 := r.low
      cases r2 with
      | dct h1 n k r3 =>
        rename_i a kvs
        refine ⟨!kvs.isEmpty, .inr (.inr ⟨kvs, h1, rfl⟩), ?_⟩
        have e : kvs.isEmpty = ks.isEmpty := by
          rw [← k]
          cases kvs <;> rfl
        rw [e]
        exact q _ s' H' hd R' st
    | dtt => exact hd.elim
    | xdt => exact hd.elim
    | any => exact hd.elim
theorem sd_notT (h : SdT A u g) : SdT A (tNot u) (fNotT g) := fun W s0 H0 s σ H ρ Φ Q R hp q => h W s0 H0 s σ H ρ _ _ R hp fun b s' H' hd R' st => q (!b) s' H' hd R' st
theorem sd_andT (h : SdT A u g) (h2 : SdT A w k) : SdT A (tAnd u w) (fAndT g k) := fun W s0 H0 s σ H ρ Φ Q R hp q => h W s0 H0 s σ H ρ _ _ R hp fun b s' H' hd R' st => by
  have hd := Br.ite hd
  cases b with
  | true =>
    rw [if_pos rfl] at hd ⊢
    exact h2 W s0 H0 s' σ H' ρ Φ Q R' hd fun b s2 H2 h3 R2 st2 => q b s2 H2 h3 R2 (st.trans st2)
  | false =>
    rw [if_neg (by decide)] at hd ⊢
    exact q false s' H' hd R' st
theorem sd_orT (h : SdT A u g) (h2 : SdT A w k) : SdT A (tOr u w) (fOrT g k) := fun W s0 H0 s σ H ρ Φ Q R hp q => h W s0 H0 s σ H ρ _ _ R hp fun b s' H' hd R' st => by
  have hd := Br.ite hd
  cases b with
  | true =>
    rw [if_pos rfl] at hd ⊢
    exact q true s' H' hd R' st
  | false =>
    rw [if_neg (by decide)] at hd ⊢
    exact h2 W s0 H0 s' σ H' ρ Φ Q R' hd fun b s2 H2 h3 R2 st2 => q b s2 H2 h3 R2 (st.trans st2)
theorem sd_andV (h : SdE A m1 sh1 ta fa) (h2 : SdE A m sh tb fb) : SdE A m sh (tAndV ta tb) (fAndV fa fb) := fun W s0 H0 s σ H ρ Φ Q R hp q => h W s0 H0 s σ H ρ _ _ R hp fun d s' v H' hd R' st r => by
  cases d with
  | bl b =>
    obtain rfl := r.bl
    refine ⟨b, rfl, ?_⟩
    have hd := Br.ite hd
    cases b with
    | true =>
      have hd' : fb ρ s' Φ := by simpa using hd
      rw [if_pos rfl]
      exact h2 W s0 H0 s' σ H' ρ Φ Q R' hd' fun d s2 v2 H2 h3 R2 st2 r2 => q d s2 v2 H2 h3 R2 (st.trans st2) r2
    | false =>
      have hd' : Φ (.bl false) s' := by simpa using hd
      rw [if_neg (by decide)]
      exact q _ s' _ H' hd' R' st (.inl (.bl _))
  | _ => exact hd.elim
theorem sd_orV (h : SdE A m1 sh1 ta fa) (h2 : SdE A m sh tb fb) : SdE A m sh (tOrV ta tb) (fOrV fa fb) := fun W s0 H0 s σ H ρ Φ Q R hp q => h W s0 H0 s σ H ρ _ _ R hp fun d s' v H' hd R' st r => by
  cases d with
  | bl b =>
    obtain rfl := r.bl
    refine ⟨b, rfl, ?_⟩
    have hd := Br.ite hd
    cases b with
    | false =>
      have hd' : fb ρ s' Φ := by simpa using hd
      rw [if_neg (by decide)]
      exact h2 W s0 H0 s' σ H' ρ Φ Q R' hd' fun d s2 v2 H2 h3 R2 st2 r2 => q d s2 v2 H2 h3 R2 (st.trans st2) r2
    | true =>
      have hd' : Φ (.bl true) s' := by simpa using hd
      rw [if_pos rfl]
      exact q _ s' _ H' hd' R' st (.inl (.bl _))
  | _ => exact hd.elim
theorem sd_notV (h : SdE A m1 sh1 ta fa) : SdE A m sh (tNotV ta) (fNotV fa) := fun W s0 H0 s σ H ρ Φ Q R hp q => h W s0 H0 s σ H ρ _ _ R hp fun d s' v H' hd R' st r => by
  cases d with
  | bl b =>
    obtain rfl := r.bl
    exact ⟨b, rfl, q _ s' _ H' hd R' st (.inl (.bl _))⟩
  | _ => exact hd.elim
theorem sd_if (h : SdT A u g) (ha : SdE A m sh ta fa) (hb : SdE A m sh tb fb) : SdE A m sh (tIf u ta tb) (fIf g fa fb) := fun W s0 H0 s σ H ρ Φ Q R hp q => h W s0 H0 s σ H ρ _ _ R hp fun b s' H' hd R' st => by
  have hd := Br.ite hd
  cases b with
  | true =>
    rw [if_pos rfl] at hd ⊢
    exact ha W s0 H0 s' σ H' ρ Φ Q R' hd fun d s2 v2 H2 h3 R2 st2 r2 => q d s2 v2 H2 h3 R2 (st.trans st2) r2
  | false =>
    rw [if_neg (by decide)] at hd ⊢
    exact hb W s0 H0 s' σ H' ρ Φ Q R' hd fun d s2 v2 H2 h3 R2 st2 r2 => q d s2 v2 H2 h3 R2 (st.trans st2) r2
end
/-! a op b op c -/
def fChain {S : Type} (op op' : D → D → (D → Prop) → Prop) (fa fb fc : FE S) : FE S := fun ρ s Φ => fa ρ s fun x s1 => fb ρ s1 fun y s2 => op x y fun z => match z with
  | .bl k => Br k (fc ρ s2 fun w s3 => op' y w fun d => Φ d s3) (Φ (.bl false) s2)
  | _ => False
section
variable {A : Amb} {m sh m1 sh1 m2 sh2 m3 sh3 : Bool} {ta tb tc : TE} {fa fb fc : FE A} {r r' : R2} {op op' : D → D → (D → Prop) → Prop}
theorem sd_chain (hr : SdR A m m1 sh1 m2 sh2 r op) (hr' : SdR A m m2 sh2 m3 sh3 r' op') (ha : SdE A m1 sh1 ta fa) (hb : SdE A m2 sh2 tb fb) (hc : SdE A m3 sh3 tc fc) : SdE A m sh (tChain r r' ta tb tc) (fChain op op' fa fb fc) :=
  fun W s0 H0 s σ H ρ Φ Q R h q => ha W s0 H0 s σ H ρ _ _ R h fun x s1 v H1 h1 R1 st1 r1 => hb W s0 H0 s1 σ H1 ρ _ _ R1 h1 fun y s2 w H2 h2 R2 st2 r2 =>
    hr W s0 H0 s2 σ H2 ρ x y v w _ _ R2 (r1.stp st2) r2 h2 fun d u H3 hd R3 st3 r3 => by
      cases d with
      | bl k =>
        obtain rfl := r3.bl
        refine ⟨k, rfl, ?_⟩
        have hd := Br.ite hd
        cases k with
        | true =>
          rw [if_pos rfl]
          have hd' : fc ρ s2 fun w s3 => op' y w fun d => Φ d s3 := by simpa using hd
          exact hc W s0 H0 s2 σ H3 ρ _ _ R3 hd' fun z s4 w4 H4 h4 R4 st4 r4 =>
            hr' W s0 H0 s4 σ H4 ρ y z w w4 _ Q R4 ((r2.stp st3).stp st4) r4 h4 fun d5 u5 H5 hd5 R5 st5 r5 => q d5 s4 u5 H5 hd5 R5 ((((st1.trans st2).trans st3).trans st4).trans st5) r5.up
        | false =>
          rw [if_neg (by decide)]
          have hd' : Φ (.bl false) s2 := by simpa using hd
          exact q _ s2 _ H3 hd' R3 ((st1.trans st2).trans st3) (.inl (.bl _))
      | _ => exact hd.elim
end
/-! ### one-place operations -/
def fUn {S : Type} (op : D → (D → Prop) → Prop) (fa : FE S) : FE S := fun ρ s Φ => fa ρ s fun x s1 => op x fun d => Φ d s1
def dNeg (x : D) (Φ : D → Prop) : Prop := match x with
  | .int i => Φ (.int (-i))
  | _ => False
section
variable {A : Amb} {m sh m1 sh1 : Bool} {ta : TE} {fa : FE A}
theorem sd_neg (ha : SdE A m1 sh1 ta fa) : SdE A m sh (tUn (rU fun i => .int (-i)) ta) (fUn dNeg fa) := fun W s0 H0 s σ H ρ Φ Q R h q => ha W s0 H0 s σ H ρ _ _ R h fun x s1 v H1 h1 R1 st1 r1 => by
  cases x with
  | int i => obtain rfl := r1.int; exact ⟨i, rfl, q _ s1 _ H1 h1 R1 st1 (.inl (.int _))⟩
  | _ => exact h1.elim
end
/-! ### argument lists, displays -/
inductive RVs (A : Amb) (W : Ot) (s : A.S) (σ : Sg) (ρ : List Sl) (H : Hp) (m sh : Bool) : List D → List V → Prop
  | nil : RVs A W s σ ρ H m sh [] []
  | cons {d : D} {v : V} {l : List D} {xs : List V} : RV A W s σ ρ H m sh d v → RVs A W s σ ρ H m sh l xs → RVs A W s σ ρ H m sh (d :: l) (v :: xs)
section
variable {A : Amb} {W : Ot} {s0 s s' : A.S} {H0 H H' : Hp} {σ : Sg} {ρ : List Sl} {m sh : Bool}
theorem RVs.stp (h : Stp A s s' H H') : ∀ {l : List D} {xs : List V}, RVs A W s σ ρ H m sh l xs → RVs A W s' σ ρ H' m sh l xs
  | _, _, .nil => .nil
  | _, _, .cons a b => .cons (a.stp h) (RVs.stp h b)
theorem RVs.rs : ∀ {l : List D} {xs : List V}, RVs A W s σ ρ H m false l xs → RsL (om m A W s σ ρ) H l xs
  | _, _, .nil => .nil
  | _, _, .cons a b => .cons a.rs (RVs.rs b)
theorem RVs.length : ∀ {l : List D} {xs : List V}, RVs A W s σ ρ H m sh l xs → xs.length = l.length
  | _, _, .nil => rfl
  | _, _, .cons a b => by rw [List.length_cons, List.length_cons, RVs.length b]
end
def SdL (A : Amb) (m sh : Bool) (n : Nat) (t : TA) (f : FA A) : Prop := ∀ W s0 H0 s σ H ρ Φ Q, ER A W s0 H0 s σ H ρ → f ρ s Φ →
  (∀ ds s' vs H', Φ ds s' → ER A W s0 H0 s' σ H' ρ → Stp A s s' H H' → RVs A W s' σ ρ H' m sh ds vs → ds.length = n → Q vs H') → t σ H Q
def fNil {S : Type} : FA S := fun _ s Φ => Φ [] s
def fCons {S : Type} (fa : FE S) (fr : FA S) : FA S := fun ρ s Φ => fa ρ s fun d s1 => fr ρ s1 fun ds s2 => Φ (d :: ds) s2
def fTup {S : Type} (f : FA S) : FE S := fun ρ s Φ => f ρ s fun ds s1 => Φ (.tup ds) s1
def fLst {S : Type} (f : FA S) : FE S := fun ρ s Φ => f ρ s fun ds s1 => Φ (.lst ds) s1
def fLstO {S : Type} (f : FA S) : FO S := fun ρ s Φ => f ρ s fun ds s1 => Φ (.lst ds) s1
section
variable {A : Amb} {m sh : Bool} {n : Nat} {ta : TE} {fa : FE A} {tr : TA} {fr : FA A}
theorem sd_nil : SdL A m sh 0 tNil fNil := fun W s0 H0 s σ H ρ Φ Q R h q => q [] s [] H h R Stp.refl .nil rfl
theorem sd_cons (ha : SdE A m sh ta fa) (hr : SdL A m sh n tr fr) : SdL A m sh (n + 1) (tCons ta tr) (fCons fa fr) := fun W s0 H0 s σ H ρ Φ Q R h q =>
  ha W s0 H0 s σ H ρ _ _ R h fun x s1 v H1 h1 R1 st1 r1 => hr W s0 H0 s1 σ H1 ρ _ _ R1 h1 fun ds s2 vs H2 h2 R2 st2 r2 hn =>
    q _ s2 _ H2 h2 R2 (st1.trans st2) (.cons (r1.stp st2) r2) (by rw [List.length_cons, hn])
theorem sd_tup (h : SdL A m false n tr fr) (hn : n ≤ 1000) : SdE A m sh (tTup tr) (fTup fr) := fun W s0 H0 s σ H ρ Φ Q R hp q =>
  h W s0 H0 s σ H ρ _ _ R hp fun ds s1 vs H1 h1 R1 st1 r1 e => ⟨by rw [r1.length, e, line_eq]; omega, fun p hp => q _ s1 _ _ h1 (R1.alloc hp _) (st1.trans (Stp.fresh hp)) (RV.newT R1 hp r1.rs)⟩
theorem sd_lst (h : SdL A m false n tr fr) (hn : n ≤ 1000) : SdE A m sh (tLst tr) (fLst fr) := fun W s0 H0 s σ H ρ Φ Q R hp q =>
  h W s0 H0 s σ H ρ _ _ R hp fun ds s1 vs H1 h1 R1 st1 r1 e => ⟨by rw [r1.length, e, line_eq]; omega, fun p hp => q _ s1 _ _ h1 (R1.alloc hp _) (st1.trans (Stp.fresh hp)) (RV.newL R1 hp r1.rs)⟩
/-! things of one's own -/
theorem om_wide {W : Ot} {s : A.S} {σ : Sg} {ρ : List Sl} {p : Addr} : ∀ a, om m A (W.add p) s σ ρ a → om m A W s σ ρ a ∨ a = p := fun a z => by
  rcases z with (z | z) | z | z
  · exact .inl (.inl z)
  · exact .inr z
  · exact .inl (.inr (.inl z))
  · exact .inl (.inr (.inr z))
theorem om_wide' {W : Ot} {s : A.S} {σ : Sg} {ρ : List Sl} {p : Addr} : ∀ a, om m A W s σ ρ a → om m A (W.add p) s σ ρ a := fun a z => by
  rcases z with z | z | z
  · exact .inl (.inl z)
  · exact .inr (.inl z)
  · exact .inr (.inr z)
theorem RsL.wide {W : Ot} {s : A.S} {σ : Sg} {ρ : List Sl} {H : Hp} {p : Addr} (hp : H p = none) (o : HO) {l : List D} {xs : List V} (r : RsL (om m A W s σ ρ) H l xs) : RsL (om m A (W.add p) s σ ρ) (upd H p o) l xs :=
  r.go (fun a z => (om_wide a z).imp id fun e => by subst e; exact hp) fun a u e _ => by rw [upd_ne (ne_of_none e hp)]; exact e
theorem ER.wide {W : Ot} {s0 s : A.S} {H0 H : Hp} {σ : Sg} {ρ : List Sl} (R : ER A W s0 H0 s σ H ρ) {p : Addr} (hp : H p = none) (o : HO) : ER A (W.add p) s0 H0 s σ (upd H p o) ρ where
  amb := A.loc R.amb (fun a z => (om_wide a z).imp id fun e => by subst e; exact hp) (fun a u e _ => by rw [upd_ne (ne_of_none e hp)]; exact e) fun a b => upd_ne fun e => by subst e; exact A.dom R.amb b hp
  stp := (R.alloc hp o).stp
  wd := fun a w => by
    rcases w with w | rfl
    · exact (R.alloc hp o).wd a w
    · rw [upd_same]; simp
  len := R.len
  vals := fun i d e => by
    obtain ⟨v, h1, h2⟩ := R.vals i d e
    exact ⟨v, h1, h2.go (fun a z => (om_wide a z).imp id fun e => by subst e; exact hp) fun a u e _ => by rw [upd_ne (ne_of_none e hp)]; exact e⟩
  own := fun i m e => by
    obtain ⟨a, h1, h2, h3, h4, h5⟩ := R.own i m e
    have ne : a ≠ p := fun z => by subst z; exact h2.some hp
    exact ⟨a, h1, h2.go (fun a z => (om_wide a z).imp id fun e => by subst e; exact hp) (fun a u e _ => by rw [upd_ne (ne_of_none e hp)]; exact e) (upd_ne ne), h3, fun z => z.elim h4 ne, h5⟩
  gh := fun p hp' => (R.gh p hp').go (fun a z => (om_wide a z).imp id fun e => by subst e; exact hp) fun a u e _ => by rw [upd_ne (ne_of_none e hp)]; exact e
  uniq := R.uniq
  w0 := fun a z => .inl (R.w0 a z)
  g0 := R.g0
  lk := R.lk
/-- p is no thing of others any more -/
theorem ER.narrow {W : Ot} {s0 s : A.S} {H0 H : Hp} {σ : Sg} {ρ : List Sl} {p : Addr} (R : ER A (W.add p) s0 H0 s σ H ρ) (k0 : ∀ a, A.w0 a → W.w a) : ER A W s0 H0 s σ H ρ where
  amb := Amb.sub R.amb om_wide'
  stp := R.stp
  wd := fun a w => R.wd a (.inl w)
  len := R.len
  vals := fun i d e => let ⟨v, h1, h2⟩ := R.vals i d e; ⟨v, h1, h2.weak om_wide'⟩
  own := fun i m e => let ⟨a, h1, h2, h3, h4, h5⟩ := R.own i m e; ⟨a, h1, h2.go (fun a z => .inl (om_wide' a z)) Agr.refl rfl, h3, fun z => h4 (.inl z), h5⟩
  gh := fun p hp => (R.gh p hp).weak om_wide'
  uniq := R.uniq
  w0 := k0
  g0 := R.g0
  lk := R.lk
theorem sd_lstO (h : SdL A true false n tr fr) (hn : n ≤ 1000) : SdO A (tLst tr) (fLstO fr) := fun W s0 H0 s σ H ρ Φ Q R hp q =>
  h W s0 H0 s σ H ρ _ _ R hp fun ds s1 vs H1 h1 R1 st1 r1 e => ⟨by rw [r1.length, e, line_eq]; omega, fun p hp => by
    refine q _ s1 p _ h1 (R1.wide hp _) (st1.trans (Stp.fresh hp)) ?_ ⟨vs, upd_same, RsL.wide hp _ r1.rs⟩ (fun z => R1.wd p z hp) (fun z => A.dom R1.amb z hp)
    cases e : H p with
    | none => rfl
    | some o => exact (st1.dom p (by rw [e]; simp) hp).elim⟩
/-- a new thing as a value -/
def fOV {S : Type} (f : FO S) : FE S := fun ρ s Φ => f ρ s fun mo s1 => match mo with
  | .lst l => Φ (.lst l) s1
  | .dk ks vs => Φ (.dct ks vs) s1
  | .dt ks vs => Φ (.dtt ks vs) s1
theorem sd_ov {t : TE} {f : FO A} (h : SdO A t f) : SdE A m sh t (fOV f) := fun W s0 H0 s σ H ρ Φ Q R hp q => h W s0 H0 s σ H ρ _ _ R hp fun mo s1 p H1 h1 R1 st1 hn hm hw hb => by
  have np : ¬ om m A W s1 σ ρ p := fun z => by
    rcases z with z | z | ⟨_, i, mo, e1, e2⟩
    · exact hw z
    · exact hb z
    · obtain ⟨a, k1, k2, k3, k4, k5⟩ := R1.own i mo e1
      rw [k1] at e2
      cases e2
      exact k4 (.inr rfl)
  have wk : ∀ a, om m A W s1 σ ρ a → om true A (W.add p) s1 σ ρ a := fun a z => om_wide' a (ER.weakT a z)
  cases mo with
  | lst l =>
    obtain ⟨xs, k1, k2⟩ := hm
    exact q _ s1 _ H1 h1 (R1.narrow R.w0) st1 (.inl (.lst k1 np (k2.weak wk)))
  | dk ks vs =>
    obtain ⟨kvs, k1, k2, k3⟩ := hm
    exact q _ s1 _ H1 h1 (R1.narrow R.w0) st1 (.inl (.dct k1 np k2 (k3.weak wk)))
  | dt ks vs =>
    obtain ⟨kvs, k1, k2, k3⟩ := hm
    exact q _ s1 _ H1 h1 (R1.narrow R.w0) st1 (.inl (.dtt k1 np k2 (k3.weak wk)))
def fNewK {S : Type} : FO S := fun _ s Φ => Φ (.dk [] []) s
def fNewT {S : Type} : FO S := fun _ s Φ => Φ (.dt [] []) s
theorem sd_newK : SdO A tDNewK fNewK := fun W s0 H0 s σ H ρ Φ Q R hp q p hn => q _ s p _ hp (R.wide hn _) (Stp.fresh hn) hn ⟨[], upd_same, rfl, .nil⟩ (fun z => R.wd p z hn) (fun z => A.dom R.amb z hn)
theorem sd_newT : SdO A tDNewT fNewT := fun W s0 H0 s σ H ρ Φ Q R hp q p hn => q _ s p _ hp (R.wide hn _) (Stp.fresh hn) hn ⟨[], upd_same, rfl, .nil⟩ (fun z => R.wd p z hn) (fun z => A.dom R.amb z hn)
end
/-! ### slices -/
abbrev FP (S : Type) := List Sl → S → (Option Int → S → Prop) → Prop
def SdP (A : Amb) (t : TO) (f : FP A) : Prop := ∀ W s0 H0 s σ H ρ Φ Q, ER A W s0 H0 s σ H ρ → f ρ s Φ →
  (∀ o s' H', Φ o s' → ER A W s0 H0 s' σ H' ρ → Stp A s s' H H' → Q o H') → t σ H Q
def fPn {S : Type} : FP S := fun _ s Φ => Φ none s
def fPs {S : Type} (f : FE S) : FP S := fun ρ s Φ => f ρ s fun d s1 => match d with
  | .int i => Φ (some i) s1
  | _ => False
def cutL {α : Type} (xs : List α) (lo hi : Option Int) : List α := (xs.drop (HT.sIx xs.length 0 lo)).take (HT.sIx xs.length xs.length hi - HT.sIx xs.length 0 lo)
def rSlX (K : Fg) : V → Option Int → Option Int → Hp → VK → Prop := fun x lo hi H Q => rSlL K x lo hi H Q ∨ rSlA K x lo hi H Q
theorem sl_x {X : Cx} : SlR X (rSlX X.K) := SlR.or sl_list sl_tupA
def dSl (x : D) (lo hi : Option Int) (Φ : D → Prop) : Prop := match x with
  | .lst l => Φ (.lst (cutL l lo hi))
  | .tup l => Φ (.tup (cutL l lo hi))
  | _ => False
def fSl {S : Type} (f : FE S) (lo hi : FP S) : FE S := fun ρ s Φ => f ρ s fun x s1 => lo ρ s1 fun l s2 => hi ρ s2 fun u s3 => dSl x l u fun d => Φ d s3
theorem RsL.cut {B : Ad} {H : Hp} {l : List D} {xs : List V} {lo hi : Option Int} (r : RsL B H l xs) : RsL B H (cutL l lo hi) (cutV xs lo hi) := by
  unfold cutL cutV
  rw [r.length]
  exact (r.drop _).take _
theorem cut_whole {α : Type} {l : List α} {lo hi : Option Int} (h : HT.sIx l.length 0 lo = 0 ∧ HT.sIx l.length l.length hi = l.length) : cutL l lo hi = l := by
  unfold cutL
  rw [h.1, h.2, List.drop_zero, Nat.sub_zero, List.take_length]
section
variable {A : Amb} {m sh m1 sh1 : Bool} {te : TE} {fe : FE A} {tl th : TO} {fl fh : FP A} {K : Fg}
theorem sd_pn : SdP A tNoPart fPn := fun W s0 H0 s σ H ρ Φ Q R hp q => q none s H hp R Stp.refl
theorem sd_ps (h : SdE A m1 sh1 te fe) : SdP A (tPart te) (fPs fe) := fun W s0 H0 s σ H ρ Φ Q R hp q => h W s0 H0 s σ H ρ _ _ R hp fun d s1 v H1 h1 R1 st1 r1 => by
  cases d with
  | int i => obtain rfl := r1.int; exact ⟨i, rfl, q _ s1 H1 h1 R1 st1⟩
  | _ => exact h1.elim
theorem sd_sl (h : SdE A m sh1 te fe) (hl : SdP A tl fl) (hh : SdP A th fh) : SdE A m sh (tSl (rSlX K) te tl th) (fSl fe fl fh) := fun W s0 H0 s σ H ρ Φ Q R hp q =>
  h W s0 H0 s σ H ρ _ _ R hp fun d s1 v H1 h1 R1 st1 r1 => hl W s0 H0 s1 σ H1 ρ _ _ R1 h1 fun l s2 H2 h2 R2 st2 => hh W s0 H0 s2 σ H2 ρ _ _ R2 h2 fun u s3 H3 h3 R3 st3 => by
    have r3 := (r1.stp st2).stp st3
    have st := (st1.trans st2).trans st3
    cases d with
    | lst xs =>
      obtain ⟨a, vs, rfl, k1, k2, _⟩ := r3.lst
      exact .inl ⟨a, vs, rfl, .of k1, fun p hp => q _ s3 _ _ h3 (R3.alloc hp _) (st.trans (Stp.fresh hp)) (RV.newL R3 hp k2.cut)⟩
    | tup xs =>
      obtain ⟨a, vs, rfl, k1, k2⟩ := r3.tup
      refine .inr ⟨a, vs, rfl, .of k1, fun e => ?_, fun _ p hp => q _ s3 _ _ h3 (R3.alloc hp _) (st.trans (Stp.fresh hp)) (RV.newT R3 hp k2.cut)⟩
      rw [k2.length] at e
      have h4 : Φ (.tup (cutL xs l u)) s3 := h3
      rw [cut_whole e] at h4
      exact q _ s3 _ H3 h4 R3 st (.inl r3.rsT)
    | _ => exact h3.elim
end
end Pd

set_option maxHeartbeats 4000000
namespace Pd
open PySem PySem.Spec PyProof.Rows L2
/-! ### slots stored -/
section
variable {A : Amb} {W : Ot} {s0 s : A.S} {H0 H : Hp} {σ : Sg} {ρ : List Sl}
theorem set_at {α : Type} {l : List α} {i j : Nat} {x y : α} (h : (l.set i x)[j]? = some y) : (j = i ∧ y = x) ∨ (j ≠ i ∧ l[j]? = some y) := by
  by_cases e : i = j
  · subst e
    by_cases hl : i < l.length
    · rw [List.getElem?_set_self hl] at h
      exact .inl ⟨rfl, (Option.some.inj h).symm⟩
    · rw [List.getElem?_eq_none (by simpa using hl)] at h
      cases h
  · rw [List.getElem?_set_ne e] at h
    exact .inr ⟨fun z => e z.symm, h⟩
theorem set_lt {α : Type} {l : List α} {i : Nat} {x y : α} (h : (l.set i x)[i]? = some y) : i < l.length := by
  by_cases hl : i < l.length
  · exact hl
  · rw [List.getElem?_eq_none (by simpa using hl)] at h
    cases h
/-- a slot that holds no thing of its own any more -/
theorem om_setN {i : Nat} {x : Option V} {sl : Sl} (hs : ∀ m, sl ≠ .o m) : ∀ a, om true A W s (σ.set i x) (ρ.set i sl) a → om true A W s σ ρ a := fun a z => by
  rcases z with z | z | ⟨_, j, m, e1, e2⟩
  · exact .inl z
  · exact .inr (.inl z)
  · rcases set_at e1 with ⟨rfl, e⟩ | ⟨ne, e⟩
    · exact (hs m e.symm).elim
    · rw [List.getElem?_set_ne (fun z => ne z.symm)] at e2
      exact .inr (.inr ⟨rfl, j, m, e, e2⟩)
theorem ER.setN (R : ER A W s0 H0 s σ H ρ) (i : Nat) {x : Option V} {sl : Sl} (hs : ∀ m, sl ≠ .o m) (hv : ∀ d, sl = .v d → ∃ v, x = some v ∧ Rs (om true A W s σ ρ) H d v) : ER A W s0 H0 s (σ.set i x) H (ρ.set i sl) where
  amb := Amb.sub R.amb (om_setN hs)
  stp := R.stp
  wd := R.wd
  len := by rw [List.length_set, List.length_set, R.len]
  vals := fun j d e => by
    have hj := set_at e
    rcases hj with ⟨rfl, q⟩ | ⟨ne, q⟩
    · obtain ⟨v, hx, hr⟩ := hv d q.symm
      refine ⟨v, ?_, hr.weak (om_setN hs)⟩
      rw [List.getElem?_set_self (by rw [R.len]; exact set_lt e), hx]
    · obtain ⟨v, h1, h2⟩ := R.vals j d q
      exact ⟨v, by rw [List.getElem?_set_ne (fun z => ne z.symm)]; exact h1, h2.weak (om_setN hs)⟩
  own := fun j m e => by
    rcases set_at e with ⟨rfl, q⟩ | ⟨ne, q⟩
    · exact (hs m q.symm).elim
    · obtain ⟨a, h1, h2, h3⟩ := R.own j m q
      exact ⟨a, by rw [List.getElem?_set_ne (fun z => ne z.symm)]; exact h1, h2.go (fun a z => .inl (om_setN hs a z)) Agr.refl rfl, h3⟩
  gh := fun p hp => (R.gh p hp).weak (om_setN hs)
  uniq := fun j k m m' e1 e2 e3 => by
    rcases set_at e1 with ⟨rfl, q⟩ | ⟨ne, q⟩
    · exact (hs m q.symm).elim
    · rcases set_at e2 with ⟨rfl, q'⟩ | ⟨ne', q'⟩
      · exact (hs m' q'.symm).elim
      · rw [List.getElem?_set_ne (fun z => ne z.symm), List.getElem?_set_ne (fun z => ne' z.symm)] at e3
        exact R.uniq j k m m' q q' e3
  w0 := R.w0
  g0 := R.g0
  lk := R.lk
theorem ER.setV (R : ER A W s0 H0 s σ H ρ) (i : Nat) {d : D} {v : V} (r : Rs (om true A W s σ ρ) H d v) : ER A W s0 H0 s (σ.set i (some v)) H (ρ.set i (.v d)) :=
  R.setN i (fun m z => nomatch z) fun d' e => by cases e; exact ⟨v, rfl, r⟩
/-- what a slot holds is forgotten; the frame's own object too -/
theorem ER.drop (R : ER A W s0 H0 s σ H ρ) (i : Nat) : ER A W s0 H0 s σ H (ρ.set i .e) := by
  by_cases hi : i < σ.length
  · have R2 := R.setN i (x := σ[i]) (sl := .e) (fun m z => nomatch z) (fun d z => nomatch z)
    rw [List.set_getElem_self] at R2
    exact R2
  · rw [List.set_eq_of_length_le (by rw [← R.len]; omega)]
    exact R
theorem om_setO {i : Nat} {p : Addr} {m : Mo} : ∀ a, om true A W s (σ.set i (some (.ref p))) (ρ.set i (.o m)) a → om true A (W.add p) s σ ρ a := fun a z => by
  rcases z with z | z | ⟨_, j, m, e1, e2⟩
  · exact .inl (.inl z)
  · exact .inr (.inl z)
  · rcases set_at e1 with ⟨rfl, e⟩ | ⟨ne, e⟩
    · rcases set_at e2 with ⟨_, e⟩ | ⟨ne, _⟩
      · cases e
        exact .inl (.inr rfl)
      · exact (ne rfl).elim
    · rw [List.getElem?_set_ne (fun z => ne z.symm)] at e2
      exact .inr (.inr ⟨rfl, j, m, e, e2⟩)
theorem ER.setO {p : Addr} {m : Mo} (R : ER A (W.add p) s0 H0 s σ H ρ) (k0 : ∀ a, A.w0 a → W.w a) (i : Nat) (h0 : H0 p = none) (hm : MoAt (om true A (W.add p) s σ ρ) H p m) (hw : ¬ W.w p) (hb : ¬ A.B s p) : ER A W s0 H0 s (σ.set i (some (.ref p))) H (ρ.set i (.o m)) where
  amb := Amb.sub R.amb om_setO
  stp := R.stp
  wd := fun a w => R.wd a (.inl w)
  len := by rw [List.length_set, List.length_set, R.len]
  vals := fun j d e => by
    rcases set_at e with ⟨rfl, q⟩ | ⟨ne, q⟩
    · cases q
    · obtain ⟨v, h1, h2⟩ := R.vals j d q
      exact ⟨v, by rw [List.getElem?_set_ne (fun z => ne z.symm)]; exact h1, h2.weak om_setO⟩
  own := fun j m' e => by
    have hj := set_at e
    rcases hj with ⟨rfl, q⟩ | ⟨ne, q⟩
    · cases q
      exact ⟨p, by rw [List.getElem?_set_self (by rw [R.len]; exact set_lt e)], hm.go (fun a z => .inl (om_setO a z)) Agr.refl rfl, h0, hw, hb⟩
    · obtain ⟨a, h1, h2, h3, h4, h5⟩ := R.own j m' q
      exact ⟨a, by rw [List.getElem?_set_ne (fun z => ne z.symm)]; exact h1, h2.go (fun a z => .inl (om_setO a z)) Agr.refl rfl, h3, fun z => h4 (.inl z), h5⟩
  gh := fun q hq => (R.gh q hq).weak om_setO
  uniq := fun j k m m' e1 e2 e3 => by
    have hj := set_at e1
    have hk := set_at e2
    have own_ne : ∀ {l : Nat} {m'' : Mo}, ρ[l]? = some (.o m'') → σ[l]? ≠ some (some (.ref p)) := fun {l m''} q z => by
      obtain ⟨a, h1, _, _, h4, _⟩ := R.own l m'' q
      rw [h1] at z
      cases z
      exact h4 (.inr rfl)
    rcases hj with ⟨rfl, q⟩ | ⟨ne, q⟩
    · rcases hk with ⟨rfl, q'⟩ | ⟨ne', q'⟩
      · rfl
      · rw [List.getElem?_set_self (by rw [R.len]; exact set_lt e1), List.getElem?_set_ne (fun z => ne' z.symm)] at e3
        exact (own_ne q' e3.symm).elim
    · rcases hk with ⟨rfl, q'⟩ | ⟨ne', q'⟩
      · rw [List.getElem?_set_self (by rw [R.len]; exact set_lt e2), List.getElem?_set_ne (fun z => ne z.symm)] at e3
        exact (own_ne q e3).elim
      · rw [List.getElem?_set_ne (fun z => ne z.symm), List.getElem?_set_ne (fun z => ne' z.symm)] at e3
        exact R.uniq j k m m' q q' e3
  w0 := k0
  g0 := R.g0
  lk := R.lk
/-- the frame's own thing is written -/
theorem om_mut {i : Nat} {m m' : Mo} (h : ρ[i]? = some (.o m)) : ∀ a, om true A W s σ (ρ.set i (.o m')) a → om true A W s σ ρ a := fun a z => by
  rcases z with z | z | ⟨_, j, m2, e1, e2⟩
  · exact .inl z
  · exact .inr (.inl z)
  · rcases set_at e1 with ⟨rfl, e⟩ | ⟨ne, e⟩
    · exact .inr (.inr ⟨rfl, j, m, h, e2⟩)
    · exact .inr (.inr ⟨rfl, j, m2, e, e2⟩)
theorem ER.mut (R : ER A W s0 H0 s σ H ρ) {i : Nat} {a : Addr} {m m' : Mo} {o : HO} (hi : ρ[i]? = some (.o m)) (ha : σ[i]? = some (some (.ref a))) (hm : MoAt (om true A W s σ ρ) (upd H a o) a m') : ER A W s0 H0 s σ (upd H a o) (ρ.set i (.o m')) := by
  obtain ⟨a', h1, h2, h3, h4, h5⟩ := R.own i m hi
  rw [ha] at h1
  cases h1
  have ag : Agr (om true A W s σ ρ) H (upd H a o) := fun b u e n => by
    rw [upd_ne fun z => ?_]
    · exact e
    · subst z
      exact n (.inr (.inr ⟨rfl, i, m, hi, ha⟩))
  have hB : ∀ b, om true A W s σ (ρ.set i (.o m')) b → om true A W s σ ρ b ∨ H b = none := fun b z => .inl (om_mut hi b z)
  have hl : i < ρ.length := (List.getElem?_eq_some_iff.mp hi).1
  refine ⟨A.loc R.amb hB ag fun b z => upd_ne fun e => by subst e; exact h5 z, ⟨fun b u e n => ?_, fun b z => R.stp.new b z, fun b z => ?_⟩, fun b w => ?_, by rw [List.length_set, R.len], fun j d e => ?_, fun j mj e => ?_, fun p hp => (R.gh p hp).go hB ag, fun j k mj mk e1 e2 e3 => ?_, R.w0, R.g0, R.lk⟩
  · rw [upd_ne (ne_of_none e h3)]
    exact R.stp.agr b u e n
  · by_cases q : b = a
    · subst q; rw [upd_same]; simp
    · rw [upd_ne q]; exact R.stp.dom b z
  · by_cases q : b = a
    · subst q; rw [upd_same]; simp
    · rw [upd_ne q]; exact R.wd b w
  · rcases set_at e with ⟨rfl, q⟩ | ⟨ne, q⟩
    · cases q
    · obtain ⟨v, k1, k2⟩ := R.vals j d q
      exact ⟨v, k1, k2.go hB ag⟩
  · rcases set_at e with ⟨rfl, q⟩ | ⟨ne, q⟩
    · cases q
      exact ⟨a, ha, hm.go (fun b z => .inl (om_mut hi b z)) Agr.refl rfl, h3, h4, h5⟩
    · obtain ⟨b, k1, k2, k3, k4, k5⟩ := R.own j mj q
      have nb : b ≠ a := fun z => by
        subst z
        exact ne (R.uniq j i mj m q hi (k1.trans ha.symm))
      exact ⟨b, k1, k2.go hB ag (upd_ne nb), k3, k4, k5⟩
  · have q1 : ∃ m1, ρ[j]? = some (.o m1) := by
      rcases set_at e1 with ⟨rfl, q⟩ | ⟨ne, q⟩
      · exact ⟨m, hi⟩
      · exact ⟨mj, q⟩
    have q2 : ∃ m1, ρ[k]? = some (.o m1) := by
      rcases set_at e2 with ⟨rfl, q⟩ | ⟨ne, q⟩
      · exact ⟨m, hi⟩
      · exact ⟨mk, q⟩
    obtain ⟨m1, q1⟩ := q1
    obtain ⟨m2, q2⟩ := q2
    exact R.uniq j k m1 m2 q1 q2 e3
/-- the frame's own list, dict: from now on a value -/
def frz (ρ : List Sl) (i : Nat) : List Sl := match ρ[i]? with
  | some (.o (.lst l)) => ρ.set i (.v (.lst l))
  | some (.o (.dk ks vs)) => ρ.set i (.v (.dct ks vs))
  | some (.o (.dt ks vs)) => ρ.set i (.v (.dtt ks vs))
  | _ => ρ
theorem ER.frz (R : ER A W s0 H0 s σ H ρ) (i : Nat) : ER A W s0 H0 s σ H (Pd.frz ρ i) := by
  have key : ∀ {m : Mo} {d : D} (hi : ρ[i]? = some (.o m)) (hd : ∀ a, σ[i]? = some (some (.ref a)) → MoAt (om true A W s σ ρ) H a m → (¬ om true A W s σ (ρ.set i (.v d)) a) → Rs (om true A W s σ (ρ.set i (.v d))) H d (.ref a)), ER A W s0 H0 s σ H (ρ.set i (.v d)) := fun {m d} hi hd => by
    obtain ⟨a, h1, h2, h3, h4, h5⟩ := R.own i m hi
    have np : ¬ om true A W s σ (ρ.set i (.v d)) a := fun z => by
      rcases z with z | z | ⟨_, j, m2, e1, e2⟩
      · exact h4 z
      · exact h5 z
      · rcases set_at e1 with ⟨rfl, e⟩ | ⟨ne, e⟩
        · cases e
        · exact ne (R.uniq j i m2 m e hi (e2.trans h1.symm))
    have R1 := R.drop i
    have hl : i < ρ.length := (List.getElem?_eq_some_iff.mp hi).1
    have eq0 : (ρ.set i Sl.e).set i (.v d) = ρ.set i (.v d) := List.set_set _
    have om1 : ∀ b, om true A W s σ (ρ.set i Sl.e) b → om true A W s σ (ρ.set i (.v d)) b := fun b z => by
      rcases z with z | z | ⟨_, j, m2, e1, e2⟩
      · exact .inl z
      · exact .inr (.inl z)
      · rcases set_at e1 with ⟨rfl, q1⟩ | ⟨ne, q1⟩
        · cases q1
        · exact .inr (.inr ⟨rfl, j, m2, by rw [List.getElem?_set_ne (fun z => ne z.symm)]; exact q1, e2⟩)
    have R2 := R1.setV i (d := d) (v := .ref a) ((hd a h1 h2 np).weak om1)
    rw [eq0] at R2
    have es : σ.set i (some (.ref a)) = σ := by
      have hl2 : i < σ.length := by rw [R.len]; exact hl
      have := List.set_getElem_self hl2
      rw [List.getElem?_eq_getElem hl2] at h1
      rw [← Option.some.inj h1]
      exact this
    rw [es] at R2
    exact R2
  have om2 : ∀ {m : Mo} {d : D} (hi : ρ[i]? = some (.o m)), ∀ b, om true A W s σ (ρ.set i (.v d)) b → om true A W s σ ρ b := fun {m d} hi b z => by
    rcases z with z | z | ⟨_, j, m2, e1, e2⟩
    · exact .inl z
    · exact .inr (.inl z)
    · rcases set_at e1 with ⟨rfl, e⟩ | ⟨ne, e⟩
      · cases e
      · exact .inr (.inr ⟨rfl, j, m2, e, e2⟩)
  unfold Pd.frz
  split
  · rename_i l hi
    exact key hi fun a _ hm np => by
      obtain ⟨xs, h1, h2⟩ := hm
      exact .lst h1 np (h2.weak (om2 hi))
  · rename_i ks vs hi
    exact key hi fun a _ hm np => by
      obtain ⟨kvs, h1, hk, h2⟩ := hm
      exact .dct h1 np hk (h2.weak (om2 hi))
  · rename_i ks vs hi
    exact key hi fun a _ hm np => by
      obtain ⟨kvs, h1, hk, h2⟩ := hm
      exact .dtt h1 np hk (h2.weak (om2 hi))
  · exact R
end
/-! ### statements -/
def fSet {S : Type} (i : Nat) (f : FE S) : FS S := fun P ρ s => f ρ s fun d s1 => P.nx (ρ.set i (.v d)) s1
def fSetO {S : Type} (i : Nat) (f : FO S) : FS S := fun P ρ s => f ρ s fun m s1 => P.nx (ρ.set i (.o m)) s1
def fDo {S : Type} (f : FE S) : FS S := fun P ρ s => f ρ s fun _ s1 => P.nx ρ s1
def fRet {S : Type} (f : FE S) : FS S := fun P ρ s => f ρ s fun d s1 => P.rt (.d d) s1
def fRetN {S : Type} : FS S := fun P _ s => P.rt (.d .non) s
/-- return of the frame's own list; of a new one -/
def fRetO {S : Type} (i : Nat) : FS S := fun P ρ s => match ρ[i]? with
  | some (.o m) => P.rt (.o m) s
  | _ => False
def fRetW {S : Type} (f : FO S) : FS S := fun P ρ s => f ρ s fun m s1 => P.rt (.o m) s1
def fSeq {S : Type} (f g : FS S) : FS S := fun P ρ s => f { P with nx := g P } ρ s
def fNext {S : Type} : FS S := fun P ρ s => P.nx ρ s
def fBreak {S : Type} : FS S := fun P ρ s => P.bk ρ s
def fCont {S : Type} : FS S := fun P ρ s => P.ct ρ s
def fIfS {S : Type} (c : FT S) (f g : FS S) : FS S := fun P ρ s => c ρ s fun b s1 => Br b (f P ρ s1) (g P ρ s1)
def fFrz {S : Type} (i : Nat) (f : FS S) : FS S := fun P ρ s => f P (frz ρ i) s
def fDrop {S : Type} (i : Nat) (f : FS S) : FS S := fun P ρ s => f P (ρ.set i .e) s
def fNever {S : Type} : FS S := fun _ _ _ => False
section
variable {A : Amb} {m sh : Bool} {te : TE} {f : FE A} {fo : FO A} {t u : TS} {g h : FS A} {tc : TT} {fc : FT A}
theorem ss_set (i : Nat) (h : SdE A true false te f) : SdS A (tAsg te (gName i)) (fSet i f) := fun W s0 H0 s σ H ρ P D R hp nx _ _ _ =>
  h W s0 H0 s σ H ρ _ _ R hp fun d s1 v H1 h1 R1 _ r1 => nx _ s1 _ H1 h1 (R1.setV i r1.rs)
theorem ss_setO (i : Nat) (h : SdO A te fo) : SdS A (tAsg te (gName i)) (fSetO i fo) := fun W s0 H0 s σ H ρ P D R hp nx _ _ _ =>
  h W s0 H0 s σ H ρ _ _ R hp fun mo s1 p H1 h1 R1 _ hn hm hw hb => nx _ s1 _ H1 h1 (R1.setO R.w0 i (R.fresh0 hn) hm hw hb)
theorem ss_do (h : SdE A m sh te f) : SdS A (tDrop te) (fDo f) := fun W s0 H0 s σ H ρ P D R hp nx _ _ _ =>
  h W s0 H0 s σ H ρ _ _ R hp fun d s1 v H1 h1 R1 _ r1 => nx _ s1 _ H1 h1 R1
theorem om_low {W : Ot} {s : A.S} {σ : Sg} {ρ : List Sl} : ∀ a, (W.w a ∨ A.B s a) → om m A W s σ ρ a := fun a z => by
  rcases z with z | z
  · exact .inl z
  · exact .inr (.inl z)
theorem ss_ret (h : SdE A m sh te f) : SdS A (tRet te) (fRet f) := fun W s0 H0 s σ H ρ P D R hp _ _ _ rt =>
  h W s0 H0 s σ H ρ _ _ R hp fun d s1 v H1 h1 R1 _ r1 => rt _ s1 v H1 h1 (Amb.sub R1.amb om_low) R1.stp R1.wd (r1.low.weak om_low)
theorem ss_retN : SdS A tRetN fRetN := fun W s0 H0 s σ H ρ P D R hp _ _ _ rt => rt _ s .non H hp (Amb.sub R.amb om_low) R.stp R.wd .non
theorem ss_retO (i : Nat) : SdS A (tRet (tVar i)) (fRetO i) := fun W s0 H0 s σ H ρ P D R hp _ _ _ rt => by
  unfold fRetO at hp
  split at hp
  · rename_i mo e
    obtain ⟨a, h1, h2, h3, h4, h5⟩ := R.own i mo e
    have sub : ∀ b, ((W.w b ∨ b = a) ∨ A.B s b) → om true A W s σ ρ b := fun b z => by
      rcases z with (z | z) | z
      · exact .inl z
      · subst z; exact .inr (.inr ⟨rfl, i, mo, e, h1⟩)
      · exact .inr (.inl z)
    exact ⟨.ref a, h1, rt _ s _ H hp (Amb.sub R.amb om_low) R.stp R.wd ⟨a, rfl, h3, h4, h5, h2.go (fun b z => .inl (sub b z)) Agr.refl rfl, Amb.sub R.amb sub⟩⟩
  · exact hp.elim
theorem ss_retW (h : SdO A te fo) : SdS A (tRet te) (fRetW fo) := fun W s0 H0 s σ H ρ P D R hp _ _ _ rt =>
  h W s0 H0 s σ H ρ _ _ R hp fun mo s1 p H1 h1 R1 _ hn hm hw hb => by
    have sub : ∀ b, ((W.w b ∨ b = p) ∨ A.B s1 b) → om true A (W.add p) s1 σ ρ b := fun b z => by
      rcases z with z | z
      · exact .inl z
      · exact .inr (.inl z)
    exact rt _ s1 _ H1 h1 (Amb.sub R1.amb fun b z => sub b (z.imp .inl id)) R1.stp (fun a z => R1.wd a (.inl z)) ⟨p, rfl, R.fresh0 hn, hw, hb, hm.go (fun b z => .inl (sub b z)) Agr.refl rfl, Amb.sub R1.amb sub⟩
theorem ss_seq (h1 : SdS A t g) (h2 : SdS A u h) : SdS A (tSeq t u) (fSeq g h) := fun W s0 H0 s σ H ρ P D R hp nx bk ct rt =>
  h1 W s0 H0 s σ H ρ _ _ R hp (fun ρ' s' σ' H' q R' => h2 W s0 H0 s' σ' H' ρ' P D R' q nx bk ct rt) bk ct rt
theorem ss_next : SdS A tNext fNext := fun W s0 H0 s σ H ρ P D R hp nx _ _ _ => nx ρ s σ H hp R
theorem ss_break : SdS A tBreak fBreak := fun W s0 H0 s σ H ρ P D R hp _ bk _ _ => bk ρ s σ H hp R
theorem ss_cont : SdS A tCont fCont := fun W s0 H0 s σ H ρ P D R hp _ _ ct _ => ct ρ s σ H hp R
theorem ss_never : SdS A t fNever := fun W s0 H0 s σ H ρ P D R hp _ _ _ _ => hp.elim
theorem ss_if (hc : SdT A tc fc) (h1 : SdS A t g) (h2 : SdS A u h) : SdS A (tIfS tc t u) (fIfS fc g h) := fun W s0 H0 s σ H ρ P D R hp nx bk ct rt =>
  hc W s0 H0 s σ H ρ _ _ R hp fun b s1 H1 hb R1 st1 => by
    have hb := Br.ite hb
    cases b with
    | true =>
      rw [if_pos rfl] at hb ⊢
      exact h1 W s0 H0 s1 σ H1 ρ P D R1 hb nx bk ct rt
    | false =>
      rw [if_neg (by decide)] at hb ⊢
      exact h2 W s0 H0 s1 σ H1 ρ P D R1 hb nx bk ct rt
theorem ss_frz (i : Nat) (h1 : SdS A t g) : SdS A t (fFrz i g) := fun W s0 H0 s σ H ρ P D R hp nx bk ct rt => h1 W s0 H0 s σ H _ P D (R.frz i) hp nx bk ct rt
theorem ss_drop (i : Nat) (h1 : SdS A t g) : SdS A t (fDrop i g) := fun W s0 H0 s σ H ρ P D R hp nx bk ct rt => h1 W s0 H0 s σ H _ P D (R.drop i) hp nx bk ct rt
end
/-! x.append(e), x.extend(e), x[i] = e, x.pop() of a list of one's own -/
def fApp {S : Type} (i : Nat) (f : FE S) : FS S := fun P ρ s => match ρ[i]? with
  | some (.o (.lst l)) => f ρ s fun d s1 => l.length < 16777216 ∧ P.nx (ρ.set i (.o (.lst (l ++ [d])))) s1
  | _ => False
def fExt {S : Type} (i : Nat) (f : FE S) : FS S := fun P ρ s => match ρ[i]? with
  | some (.o (.lst l)) => f ρ s fun d s1 => (match d with
    | .lst k => l.length + k.length ≤ 16777216 ∧ P.nx (ρ.set i (.o (.lst (l ++ k)))) s1
    | _ => False)
  | _ => False
structure SetP (n : Nat) (j : Int) (Φ : Nat → Prop) : Prop where
  ex : ∃ k, ixN n j = some k ∧ Φ k
theorem set_go {n : Nat} {j : Int} {Φ : Nat → Prop} (h0 : 0 ≤ j) (h1 : j < n) (q : Φ j.toNat) : SetP n j Φ := ⟨j.toNat, by unfold ixN; rw [if_pos h0, if_pos h1], q⟩
def fStore {S : Type} (i : Nat) (fi f : FE S) : FS S := fun P ρ s => match ρ[i]? with
  | some (.o (.lst l)) => f ρ s fun d s1 => fi ρ s1 fun k s2 => (match k with
    | .int j => SetP l.length j fun n => P.nx (ρ.set i (.o (.lst (l.set n d)))) s2
    | _ => False)
  | _ => False
section
variable {A : Amb} {m sh : Bool} {te ti : TE} {f fi : FE A} {K : Fg}
theorem ss_app (i : Nat) (h : SdE A true false te f) : SdS A (tDrop (tBM K "list" rAppend (tVar i) (tCons te tNil))) (fApp i f) := fun W s0 H0 s σ H ρ P D R hp nx _ _ _ => by
  unfold fApp at hp
  split at hp
  · rename_i l e
    obtain ⟨a, h1, ⟨xs, h2, h3⟩, h4, h5, h6⟩ := R.own i _ e
    refine ⟨.ref a, h1, .inl ⟨rfl, xs, .of h2⟩, h W s0 H0 s σ H ρ _ _ R hp fun d s1 v H1 hd R1 st1 r1 => ?_⟩
    obtain ⟨k1, k2⟩ := keep_at st1 (by rw [h2]; simp) h6
    refine ⟨a, xs, v, rfl, rfl, k1.trans h2, by rw [line_eq, h3.length]; exact hd.1, nx _ s1 _ _ hd.2 (R1.mut e h1 ⟨xs ++ [v], upd_same, ?_⟩)⟩
    refine ((h3.stp st1).append (.one r1.rs)).go (fun b z => .inl z) fun b o eb nb => ?_
    rw [upd_ne fun z => ?_]
    · exact eb
    · subst z; exact nb (.inr (.inr ⟨rfl, i, _, e, h1⟩))
  · exact hp.elim
theorem ss_ext (i : Nat) (h : SdE A true true te f) : SdS A (tDrop (tBM K "list" rExtend (tVar i) (tCons te tNil))) (fExt i f) := fun W s0 H0 s σ H ρ P D R hp nx _ _ _ => by
  unfold fExt at hp
  split at hp
  · rename_i l e
    obtain ⟨a, h1, ⟨xs, h2, h3⟩, h4, h5, h6⟩ := R.own i _ e
    refine ⟨.ref a, h1, .inl ⟨rfl, xs, .of h2⟩, h W s0 H0 s σ H ρ _ _ R hp fun d s1 v H1 hd R1 st1 r1 => ?_⟩
    obtain ⟨k1, k2⟩ := keep_at st1 (by rw [h2]; simp) h6
    cases d with
    | lst k =>
      obtain ⟨b, ys, rfl, g1, g2, _⟩ := r1.lst
      refine ⟨a, b, xs, ys, rfl, rfl, k1.trans h2, g1, by rw [line_eq, h3.length, g2.length]; exact hd.1, nx _ s1 _ _ hd.2 (R1.mut e h1 ⟨xs ++ ys, upd_same, ?_⟩)⟩
      refine ((h3.stp st1).append g2).go (fun b z => .inl z) fun b o eb nb => ?_
      rw [upd_ne fun z => ?_]
      · exact eb
      · subst z; exact nb (.inr (.inr ⟨rfl, i, _, e, h1⟩))
    | _ => exact hd.elim
  · exact hp.elim
theorem ss_store (i : Nat) (h : SdE A true false te f) (hi : SdE A m sh ti fi) : SdS A (tAsg te (gSub (tVar i) ti rSetL)) (fStore i fi f) := fun W s0 H0 s σ H ρ P D R hp nx _ _ _ => by
  unfold fStore at hp
  split at hp
  · rename_i l e
    obtain ⟨a, h1, ⟨xs, h2, h3⟩, h4, h5, h6⟩ := R.own i _ e
    refine h W s0 H0 s σ H ρ _ _ R hp fun d s1 v H1 hd R1 st1 r1 => ⟨.ref a, h1, hi W s0 H0 s1 σ H1 ρ _ _ R1 hd fun k s2 w H2 hk R2 st2 r2 => ?_⟩
    have st := st1.trans st2
    obtain ⟨k1, k2⟩ := keep_at st (by rw [h2]; simp) h6
    cases k with
    | int j =>
      obtain rfl := r2.int
      dsimp only at hk
      obtain ⟨⟨n, en, hk⟩⟩ := hk
      refine ⟨a, xs, j, n, rfl, rfl, k1.trans h2, by rw [h3.length]; exact en, nx _ s2 _ _ hk (R2.mut e h1 ⟨xs.set n v, upd_same, ?_⟩)⟩
      refine (RsL.set n (h3.stp st) (r1.stp st2).rs).go (fun b z => .inl z) fun b o eb nb => ?_
      rw [upd_ne fun z => ?_]
      · exact eb
      · subst z; exact nb (.inr (.inr ⟨rfl, i, _, e, h1⟩))
    | _ => exact hk.elim
  · exact hp.elim
end
end Pd

set_option maxHeartbeats 4000000
namespace Pd
open PySem PySem.Spec PyProof.Rows L2
/-! ### several values at once, things of one's own among them -/
def Ot.adds (W : Ot) : List Addr → Ot
  | [] => W
  | p :: ps => (W.adds ps).add p
theorem adds_w (W : Ot) : ∀ (ps : List Addr) (a : Addr), (W.adds ps).w a ↔ (W.w a ∨ a ∈ ps)
  | [], a => by simp [Ot.adds]
  | p :: ps, a => by
    show ((W.adds ps).w a ∨ a = p) ↔ _
    rw [adds_w W ps a, List.mem_cons]
    constructor
    · rintro ((h | h) | h)
      · exact .inl h
      · exact .inr (.inr h)
      · exact .inr (.inl h)
    · rintro (h | h | h)
      · exact .inl (.inl h)
      · exact .inr h
      · exact .inl (.inr h)
theorem adds_g (W : Ot) : ∀ ps : List Addr, (W.adds ps).g = W.g
  | [] => rfl
  | p :: ps => adds_g W ps
theorem adds_add (W : Ot) (p : Addr) (ps : List Addr) : (W.add p).adds ps = (W.adds ps).add p := by
  have h1 : ((W.add p).adds ps).w = ((W.adds ps).add p).w := by
    funext a
    apply propext
    rw [adds_w]
    show ((W.w a ∨ a = p) ∨ a ∈ ps) ↔ ((W.adds ps).w a ∨ a = p)
    rw [adds_w]
    constructor
    · rintro ((h | h) | h)
      · exact .inl (.inl h)
      · exact .inr h
      · exact .inl (.inr h)
    · rintro ((h | h) | h)
      · exact .inl (.inl h)
      · exact .inr h
      · exact .inl (.inr h)
  have h2 : ((W.add p).adds ps).g = ((W.adds ps).add p).g := by rw [adds_g]; exact (adds_g W ps).symm
  cases e1 : (W.add p).adds ps with
  | mk w1 g1 =>
    cases e2 : (W.adds ps).add p with
    | mk w2 g2 =>
      rw [e1, e2] at h1 h2
      cases h1
      cases h2
      rfl
inductive RXs (B : Ad) (H : Hp) : List Addr → List Sl → List V → Prop
  | nil : RXs B H [] [] []
  | v {ps : List Addr} {d : D} {v : V} {l : List Sl} {xs : List V} : Rs B H d v → RXs B H ps l xs → RXs B H ps (.v d :: l) (v :: xs)
  | o {ps : List Addr} {m : Mo} {p : Addr} {l : List Sl} {xs : List V} : MoAt B H p m → RXs B H ps l xs → RXs B H (p :: ps) (.o m :: l) (.ref p :: xs)
abbrev FX (S : Type) := List Sl → S → (List Sl → S → Prop) → Prop
def SdX (A : Amb) (n : Nat) (t : TA) (f : FX A) : Prop := ∀ W s0 H0 s σ H ρ Φ Q, ER A W s0 H0 s σ H ρ → f ρ s Φ →
  (∀ l s' vs H' ps, Φ l s' → ER A (W.adds ps) s0 H0 s' σ H' ρ → Stp A s s' H H' → RXs (om true A (W.adds ps) s' σ ρ) H' ps l vs → ps.Nodup → (∀ p ∈ ps, H p = none ∧ ¬ W.w p ∧ ¬ A.B s' p) → l.length = n → Q vs H') → t σ H Q
def fXn {S : Type} : FX S := fun _ s Φ => Φ [] s
def fXv {S : Type} (f : FE S) (r : FX S) : FX S := fun ρ s Φ => f ρ s fun d s1 => r ρ s1 fun l s2 => Φ (.v d :: l) s2
def fXo {S : Type} (f : FO S) (r : FX S) : FX S := fun ρ s Φ => f ρ s fun m s1 => r ρ s1 fun l s2 => Φ (.o m :: l) s2
theorem RXs.go {B B' : Ad} {H H' : Hp} (hB : ∀ a, B' a → B a ∨ H a = none) (hA : Agr B H H') : ∀ {ps : List Addr} {l : List Sl} {xs : List V}, (∀ p ∈ ps, H' p = H p) → RXs B H ps l xs → RXs B' H' ps l xs
  | _, _, _, _, .nil => .nil
  | _, _, _, hp, .v a b => .v (a.go hB hA) (RXs.go hB hA hp b)
  | _, _, _, hp, .o a b => .o (a.go hB hA (hp _ List.mem_cons_self)) (RXs.go hB hA (fun p h => hp p (List.mem_cons_of_mem _ h)) b)
section
variable {A : Amb} {n : Nat} {te : TE} {f : FE A} {fo : FO A} {tr : TA} {r : FX A}
theorem om_adds {W : Ot} {s s' : A.S} {σ : Sg} {ρ : List Sl} {H H' : Hp} {ps : List Addr} (h : Stp A s s' H H') (hp : ∀ p ∈ ps, H p = none) : ∀ a, om true A (W.adds ps) s' σ ρ a → om true A W s σ ρ a ∨ H a = none := fun a z => by
  rcases z with z | z | z
  · rcases (adds_w W ps a).mp z with z | z
    · exact .inl (.inl z)
    · exact .inr (hp a z)
  · exact (h.new a z).imp (fun y => .inr (.inl y)) id
  · exact .inl (.inr (.inr z))
theorem sx_nil : SdX A 0 tNil fXn := fun W s0 H0 s σ H ρ Φ Q R hp q => q [] s [] H [] hp R Stp.refl .nil List.nodup_nil (fun p h => nomatch h) rfl
theorem sx_v (h : SdE A true false te f) (hr : SdX A n tr r) : SdX A (n + 1) (tCons te tr) (fXv f r) := fun W s0 H0 s σ H ρ Φ Q R hp q =>
  h W s0 H0 s σ H ρ _ _ R hp fun d s1 v H1 h1 R1 st1 r1 => hr W s0 H0 s1 σ H1 ρ _ _ R1 h1 fun l s2 vs H2 ps h2 R2 st2 r2 nd hf hl =>
    q _ s2 _ H2 ps h2 R2 (st1.trans st2) (.v (r1.rs.go (om_adds st2 fun p hp => (hf p hp).1) (om_agr true st2)) r2) nd (fun p hp => ⟨by
      cases e : H p with
      | none => rfl
      | some o => exact (st1.dom p (by rw [e]; simp) (hf p hp).1).elim, (hf p hp).2⟩) (by rw [List.length_cons, hl])
theorem sx_o (h : SdO A te fo) (hr : SdX A n tr r) : SdX A (n + 1) (tCons te tr) (fXo fo r) := fun W s0 H0 s σ H ρ Φ Q R hp q =>
  h W s0 H0 s σ H ρ _ _ R hp fun mo s1 p H1 h1 R1 st1 hn hm hw hb => hr (W.add p) s0 H0 s1 σ H1 ρ _ _ R1 h1 fun l s2 vs H2 ps h2 R2 st2 r2 nd hf hl => by
    obtain ⟨k1, k2⟩ := keep_at st2 hm.some hb
    have np : p ∉ ps := fun z => (hf p z).2.1 (.inr rfl)
    rw [adds_add] at R2 r2
    refine q _ s2 _ H2 (p :: ps) h2 R2 (st1.trans st2) (.o (hm.go (fun a z => ?_) (om_agr true st2) k1) r2) (List.nodup_cons.mpr ⟨np, nd⟩) (fun x hx => ?_) (by rw [List.length_cons, hl])
    · have z' : om true A ((W.add p).adds ps) s2 σ ρ a := by rw [adds_add]; exact z
      exact om_adds st2 (fun p hp => (hf p hp).1) a z'
    · rcases List.mem_cons.mp hx with rfl | hx
      · exact ⟨hn, hw, k2⟩
      · refine ⟨?_, fun z => (hf x hx).2.1 (.inl z), (hf x hx).2.2⟩
        cases e : H x with
        | none => rfl
        | some o => exact (st1.dom x (by rw [e]; simp) (hf x hx).1).elim
end
def setS {α : Type} (l : List α) : List Nat → List α → List α
  | i :: is, x :: xs => setS (l.set i x) is xs
  | _, _ => l
theorem ER.setX {A : Amb} {W : Ot} {s0 s : A.S} {H0 H : Hp} {is : List Nat} {σ : Sg} {ρ : List Sl} {ps : List Addr} {l : List Sl} {xs : List V} (hl : is.length = l.length) (R : ER A (W.adds ps) s0 H0 s σ H ρ) (r : RXs (om true A (W.adds ps) s σ ρ) H ps l xs) (nd : ps.Nodup) (hp : ∀ p ∈ ps, H0 p = none ∧ ¬ W.w p ∧ ¬ A.B s p) (k0 : ∀ a, A.w0 a → W.w a) :
    ER A W s0 H0 s (setS σ is (xs.map some)) H (setS ρ is l) := by
  induction is generalizing σ ρ ps l xs with
  | nil =>
    cases r with
    | nil => exact R
    | v => simp at hl
    | o => simp at hl
  | cons i is ih =>
    cases r with
    | nil => simp at hl
    | v a b => exact ih (by simpa using hl) (R.setV i a) (b.go (fun x z => .inl (om_setN (sl := .v _) (fun m z => by cases z) x z)) Agr.refl fun _ _ => rfl) nd hp
    | o a b =>
      rename_i ps m p l xs
      have nd' := List.nodup_cons.mp nd
      have h0 := hp p List.mem_cons_self
      have hw : ¬ (W.adds ps).w p := fun z => by
        rcases (adds_w W ps p).mp z with z | z
        · exact h0.2.1 z
        · exact nd'.1 z
      exact ih (by simpa using hl) (ER.setO R (fun a z => (adds_w W ps a).mpr (.inl (k0 a z))) i h0.1 a hw h0.2.2) (b.go (fun x z => .inl (om_setO x z)) Agr.refl fun _ _ => rfl) nd'.2 fun q hq => hp q (List.mem_cons_of_mem _ hq)
def fPar {S : Type} (is : List Nat) (f : FX S) : FS S := fun P ρ s => f ρ s fun l s1 => P.nx (setS ρ is l) s1
section
variable {A : Amb} {n : Nat} {ta : TA} {f : FX A} {K : Fg}
theorem RXs.len {B : Ad} {H : Hp} : ∀ {ps : List Addr} {l : List Sl} {xs : List V}, RXs B H ps l xs → xs.length = l.length
  | _, _, _, .nil => rfl
  | _, _, _, .v a b => by rw [List.length_cons, List.length_cons, RXs.len b]
  | _, _, _, .o a b => by rw [List.length_cons, List.length_cons, RXs.len b]
theorem ss_par (i j : Nat) (h : SdX A 2 ta f) : SdS A (tPar i j ta) (fPar [i, j] f) := fun W s0 H0 s σ H ρ P D R hp nx _ _ _ =>
  h W s0 H0 s σ H ρ _ _ R hp fun l s1 vs H1 ps h1 R1 st1 r1 nd hf hl => by
    have e := r1.len
    rw [hl] at e
    match vs, e with
    | [v, w], _ =>
      refine ⟨v, w, rfl, ?_⟩
      exact nx _ s1 _ H1 h1 (ER.setX (is := [i, j]) (by rw [hl]; rfl) R1 r1 nd (fun p hp => ⟨R.fresh0 (hf p hp).1, (hf p hp).2⟩) R.w0)
theorem ss_par3 (i j k : Nat) (h : SdX A 3 ta f) : SdS A (tPar3 i j k ta) (fPar [i, j, k] f) := fun W s0 H0 s σ H ρ P D R hp nx _ _ _ =>
  h W s0 H0 s σ H ρ _ _ R hp fun l s1 vs H1 ps h1 R1 st1 r1 nd hf hl => by
    have e := r1.len
    rw [hl] at e
    match vs, e with
    | [u, v, w], _ =>
      refine ⟨u, v, w, rfl, ?_⟩
      exact nx _ s1 _ H1 h1 (ER.setX (is := [i, j, k]) (by rw [hl]; rfl) R1 r1 nd (fun p hp => ⟨R.fresh0 (hf p hp).1, (hf p hp).2⟩) R.w0)
/-- names only, in a row -/
def gNames : List Nat → TGs
  | [] => gNil
  | i :: is => gCons (gName i) (gNames is)
theorem gNames_run {Q : Sg → Hp → Prop} {H : Hp} : ∀ (is : List Nat) (xs : List V) (σ : Sg), is.length = xs.length → Q (setS σ is (xs.map some)) H → gNames is xs σ H Q
  | [], [], σ, _, q => ⟨rfl, q⟩
  | [], _ :: _, _, h, _ => by simp at h
  | _ :: _, [], _, h, _ => by simp at h
  | i :: is, x :: xs, σ, h, q => ⟨x, xs, rfl, gNames_run is xs _ (by simpa using h) q⟩
/-- a, b, .. = e, .. by a tuple that is made and taken apart -/
theorem ss_parT (is : List Nat) (hn : is.length = n) (hk : n ≤ 1000) (h : SdX A n ta f) : SdS A (tAsg (tTup ta) (gTup K n (gNames is))) (fPar is f) := fun W s0 H0 s σ H ρ P D R hp nx _ _ _ =>
  h W s0 H0 s σ H ρ _ _ R hp fun l s1 vs H1 ps h1 R1 st1 r1 nd hf hl => by
    have e := r1.len
    rw [hl] at e
    refine ⟨by rw [e, line_eq]; omega, fun q hq => ?_⟩
    have R2 := R1.alloc hq (.tup vs)
    refine ⟨q, vs, rfl, .of upd_same, e, gNames_run is vs σ (by rw [hn, e]) ?_⟩
    refine nx _ s1 _ _ h1 (ER.setX (by rw [hn, hl]) R2 (r1.go (fun a z => .inl z) (fun a o ea _ => by rw [upd_ne (ne_of_none ea hq)]; exact ea) fun p hp => upd_ne fun z => ?_) nd (fun p hp => ⟨R.fresh0 (hf p hp).1, (hf p hp).2⟩) R.w0)
    subst z
    exact R1.wd p ((adds_w W ps p).mpr (.inr hp)) hq
end
/-! ### targets of a value -/
abbrev FG := D → List Sl → (List Sl → Prop) → Prop
abbrev FGs := List D → List Sl → (List Sl → Prop) → Prop
def Out {α : Type} (vs : List Nat) (σ σ' : List α) : Prop := σ'.length = σ.length ∧ ∀ i, i ∉ vs → σ'[i]? = σ[i]?
def SdG (A : Amb) (vs : List Nat) (tg : TG) (g : FG) : Prop := ∀ W s0 H0 s σ H ρ d v Φ Q, ER A W s0 H0 s σ H ρ → Rs (om true A W s σ ρ) H d v → g d ρ Φ →
  (∀ ρ' σ', Φ ρ' → ER A W s0 H0 s σ' H ρ' → Out vs σ σ' → Out vs ρ ρ' → (∀ a, om true A W s σ' ρ' a → om true A W s σ ρ a) → Q σ' H) → tg v σ H Q
def SdGs (A : Amb) (vs : List Nat) (tg : TGs) (g : FGs) : Prop := ∀ W s0 H0 s σ H ρ ds xs Φ Q, ER A W s0 H0 s σ H ρ → RsL (om true A W s σ ρ) H ds xs → g ds ρ Φ →
  (∀ ρ' σ', Φ ρ' → ER A W s0 H0 s σ' H ρ' → Out vs σ σ' → Out vs ρ ρ' → (∀ a, om true A W s σ' ρ' a → om true A W s σ ρ a) → Q σ' H) → tg xs σ H Q
def hName (i : Nat) : FG := fun d ρ Φ => Φ (ρ.set i (.v d))
def hNil : FGs := fun ds ρ Φ => match ds with
  | [] => Φ ρ
  | _ => False
def hCons (g : FG) (r : FGs) : FGs := fun ds ρ Φ => match ds with
  | d :: ds => g d ρ fun ρ' => r ds ρ' Φ
  | _ => False
/-- a tuple or a list of n -/
def hTup (n : Nat) (r : FGs) : FG := fun d ρ Φ => match d with
  | .tup ds => ds.length = n ∧ r ds ρ Φ
  | .lst ds => ds.length = n ∧ r ds ρ Φ
  | _ => False
def gSeq (K : Fg) (n : Nat) (t : TGs) : TG := fun v σ H Q => gTup K n t v σ H Q ∨ gUnl K n t v σ H Q
theorem pg_seq {X : Cx} {pos : Pos} {es : List Expr} {k : Nat} {t : TGs} {n : Nat} (hc : X.calm = true) (h : PGs X es t)
    (hn : (assignEach es X.env).length = n := by rfl) (hst : (assignEach es X.env).findIdx? (·.1) = none := by rfl) : PG X (.Tuple es k pos) (gSeq X.K n t) :=
  ⟨fun pins s σ H v u Q I r q => q.elim (fun q => (pg_tup hc h hn hst).run pins s σ H v u Q I r q) fun q => (pg_unl hc h hn hst).run pins s σ H v u Q I r q⟩
theorem Out.refl {α : Type} {vs : List Nat} {σ : List α} : Out vs σ σ := ⟨rfl, fun _ _ => rfl⟩
theorem Out.trans {α : Type} {vs : List Nat} {σ σ1 σ2 : List α} (a : Out vs σ σ1) (b : Out vs σ1 σ2) : Out vs σ σ2 := ⟨b.1.trans a.1, fun i h => (b.2 i h).trans (a.2 i h)⟩
theorem Out.mono {α : Type} {vs ws : List Nat} {σ σ1 : List α} (a : Out vs σ σ1) (h : ∀ i ∈ vs, i ∈ ws) : Out ws σ σ1 := ⟨a.1, fun i hi => a.2 i fun z => hi (h i z)⟩
section
variable {A : Amb} {vs ws : List Nat} {tg : TG} {g : FG} {tgs : TGs} {gs : FGs} {K : Fg} {n : Nat}
theorem sg_name (i : Nat) : SdG A [i] (gName i) (hName i) := fun W s0 H0 s σ H ρ d v Φ Q R r hp q =>
  q _ _ hp (R.setV i r) ⟨List.length_set, fun j hj => List.getElem?_set_ne fun z => hj (by rw [z]; exact List.mem_singleton.mpr rfl)⟩ ⟨List.length_set, fun j hj => List.getElem?_set_ne fun z => hj (by rw [z]; exact List.mem_singleton.mpr rfl)⟩ (om_setN fun m z => nomatch z)
theorem sg_nil : SdGs A [] gNil hNil := fun W s0 H0 s σ H ρ ds xs Φ Q R r hp q => by
  unfold hNil at hp
  split at hp
  · cases r
    exact ⟨rfl, q _ _ hp R Out.refl Out.refl fun _ z => z⟩
  · exact hp.elim
theorem sg_cons (h : SdG A vs tg g) (hr : SdGs A ws tgs gs) : SdGs A (vs ++ ws) (gCons tg tgs) (hCons g gs) := fun W s0 H0 s σ H ρ ds xs Φ Q R r hp q => by
  unfold hCons at hp
  split at hp
  · cases r with
    | cons a b =>
      exact ⟨_, _, rfl, h W s0 H0 s σ H ρ _ _ _ _ R a hp fun ρ' σ' h1 R1 o1 p1 w1 => hr W s0 H0 s σ' H ρ' _ _ _ _ R1 (b.weak w1) h1 fun ρ2 σ2 h2 R2 o2 p2 w2 =>
        q ρ2 σ2 h2 R2 ((o1.mono fun i z => List.mem_append_left _ z).trans (o2.mono fun i z => List.mem_append_right _ z)) ((p1.mono fun i z => List.mem_append_left _ z).trans (p2.mono fun i z => List.mem_append_right _ z)) fun a z => w1 a (w2 a z)⟩
  · exact hp.elim
theorem sg_tup (h : SdGs A vs tgs gs) : SdG A vs (gSeq K n tgs) (hTup n gs) := fun W s0 H0 s σ H ρ d v Φ Q R r hp q => by
  unfold hTup at hp
  split at hp
  · cases r with
    | tup h1 hn h2 => exact .inl ⟨_, _, rfl, .of h1, by rw [h2.length]; exact hp.1, h W s0 H0 s σ H ρ _ _ _ _ R h2 hp.2 q⟩
  · cases r with
    | lst h1 hn h2 => exact .inr ⟨_, _, rfl, .of h1, by rw [h2.length]; exact hp.1, h W s0 H0 s σ H ρ _ _ _ _ R h2 hp.2 q⟩
  · exact hp.elim
def fAsg {S : Type} (f : FE S) (g : FG) : FS S := fun P ρ s => f ρ s fun d s1 => g d ρ fun ρ' => P.nx ρ' s1
theorem ss_asg {te : TE} {f : FE A} (h : SdE A true false te f) (hg : SdG A vs tg g) : SdS A (tAsg te tg) (fAsg f g) := fun W s0 H0 s σ H ρ P D R hp nx _ _ _ =>
  h W s0 H0 s σ H ρ _ _ R hp fun d s1 v H1 h1 R1 _ r1 => hg W s0 H0 s1 σ H1 ρ d v _ _ R1 r1.rs h1 fun ρ' σ' h2 R2 _ _ _ => nx ρ' s1 σ' H1 h2 R2
end
/-! ### what is walked -/
/-- at turn i it yields the i-th of l -/
structure ItOk (B : Ad) (H1 : Hp) (J : It) (l : List D) : Prop where
  ok : ∃ γ : List (D × V), (∀ p ∈ γ, Rs B H1 p.1 p.2) ∧ ∀ (B' : Ad) (H2 : Hp) (i : Nat), (∀ p ∈ γ, Rs B' H2 p.1 p.2) → (l[i]? = none → J.stop i H2) ∧ ∀ d, l[i]? = some d → J.go i H2 ∧ ∀ x H3, J.yld i H2 x H3 →
    (H3 = H2 ∧ Rs B' H2 d x) ∨ ∃ T xs ds, x = .ref T ∧ H2 T = none ∧ H3 = upd H2 T (.tup xs) ∧ d = .tup ds ∧ RsL B' H2 ds xs
abbrev FI (S : Type) := List Sl → S → (List D → S → Prop) → Prop
def SdI (A : Amb) (wi : TI) (f : FI A) : Prop := ∀ W s0 H0 s σ H ρ Φ (R : It → Hp → Prop), ER A W s0 H0 s σ H ρ → f ρ s Φ →
  (∀ l s1 J H1, Φ l s1 → ER A W s0 H0 s1 σ H1 ρ → Stp A s s1 H H1 → ItOk (om true A W s1 σ ρ) H1 J l → R J H1) → wi σ H R
/-- a list or a tuple -/
def iSeq (K : Fg) (tl : TE) : TI := fun σ H R => tl σ H fun x H1 => (∃ a, x = .ref a ∧ (∃ xs, SqL K H1 a xs) ∧ R (Itl K a) H1) ∨ ∃ a, x = .ref a ∧ (∃ xs, SqT K H1 a xs) ∧ R (Itt K a) H1
theorem pi_seq {X : Cx} {tg l : Expr} {tl : TE} (hl : PE X l tl) : PI X tg l (iSeq X.K tl) := by
  refine ⟨fun pins s σ H R I h => ?_⟩
  refine thn (hl.run pins s σ H _ I h) fun v s1 ⟨x, H1, I1, r1, q1⟩ => ?_
  have fr : ∀ b ∈ [s1.heap.objs.size], FpOk X pins H1 b := fun b hb => by
    obtain rfl : b = s1.heap.objs.size := by simpa using hb
    exact I1.fpOk (Nat.le_refl _) (I1.hok.fresh (Nat.le_refl _))
  rcases q1 with ⟨a, rfl, ⟨xs, hq⟩, q⟩ | ⟨a, rfl, ⟨xs, hq⟩, q⟩
  · cases r1
    obtain ⟨its, rv, p, hz⟩ := I1.list hq
    exact wpAny_pyIter_list p.isList ⟨s1.heap.objs.size, [s1.heap.objs.size], _, _, H1, rfl, I1.kept (t' := s1.toks) fun b o e => Heap.get?_push_of_some _ e, turn_list a _, ⟨_, Heap.get?_push_size _ rfl, rfl, rfl⟩, fr, q⟩
  · cases r1
    obtain ⟨its, rv, p, hz⟩ := I1.tuple hq
    exact iter_tuple p ⟨s1.heap.objs.size, [s1.heap.objs.size], _, _, H1, rfl, I1.kept (t' := s1.toks) fun b o e => Heap.get?_push_of_some _ e, turn_tuple a _, ⟨_, Heap.get?_push_size _ rfl, rfl, rfl⟩, fr, q⟩
def fIt {S : Type} (f : FE S) : FI S := fun ρ s Φ => f ρ s fun d s1 => match d with
  | .lst l => Φ l s1
  | .tup l => Φ l s1
  | _ => False
def rangeD (lo : Int) (n : Nat) : List D := (List.range n).map fun k => D.int (lo + (k : Nat))
def fRg1 {S : Type} (f : FA S) : FI S := fun ρ s Φ => f ρ s fun ds s1 => match ds with
  | [.int j] => -(2 ^ 62) ≤ j ∧ j < 2 ^ 62 ∧ Φ (rangeD 0 j.toNat) s1
  | _ => False
def fRg2 {S : Type} (f : FA S) : FI S := fun ρ s Φ => f ρ s fun ds s1 => match ds with
  | [.int i, .int j] => (-(2 ^ 62) ≤ i ∧ i < 2 ^ 62 ∧ -(2 ^ 62) ≤ j ∧ j < 2 ^ 62) ∧ Φ (rangeD i (j - i).toNat) s1
  | _ => False
theorem rangeD_get {lo : Int} {n i : Nat} : (rangeD lo n)[i]? = if i < n then some (D.int (lo + (i : Nat))) else none := by
  unfold rangeD
  rw [List.getElem?_map]
  by_cases h : i < n
  · rw [List.getElem?_range h, if_pos h]; rfl
  · rw [List.getElem?_eq_none (by simpa using h), if_neg h]; rfl
theorem itOk_range {B : Ad} {H1 : Hp} {lo : Int} {n : Nat} : ItOk B H1 (Itr lo n) (rangeD lo n) := by
  refine ⟨⟨[], fun p h => (by cases h), fun B' H2 i _ => ?_⟩⟩
  rw [rangeD_get]
  by_cases h : i < n
  · rw [if_pos h]
    refine ⟨fun z => (nomatch z), fun d e => ⟨h, fun x H3 y => .inl ⟨y.1, ?_⟩⟩⟩
    cases e
    rw [y.2]
    exact .int _
  · rw [if_neg h]
    exact ⟨fun _ => Nat.le_of_not_lt h, fun d e => (nomatch e)⟩
section
variable {A : Amb} {m sh m1 sh1 : Bool} {te : TE} {f : FE A} {ta : TA} {fa : FA A} {K : Fg} {n : Nat}
theorem si_it (h : SdE A true false te f) : SdI A (iSeq K te) (fIt f) := fun W s0 H0 s σ H ρ Φ Rr R hp q =>
  h W s0 H0 s σ H ρ _ _ R hp fun d s1 v H1 h1 R1 st1 r1 => by
    have r := r1.rs
    cases d with
    | lst l =>
      have r0 := r
      cases r with
      | lst g1 g2 g3 =>
        rename_i a xs
        refine .inl ⟨a, rfl, ⟨xs, .of g1⟩, q l s1 _ H1 h1 R1 st1 ⟨[(.lst l, .ref a)], fun p hp => ?_, fun B' H2 i hp => ?_⟩⟩
        · obtain rfl : p = (.lst l, .ref a) := by simpa using hp
          exact r0
        · have r2 := hp _ (List.mem_singleton.mpr rfl)
          cases r2 with
          | lst k1 k2 k3 =>
            rename_i ys
            refine ⟨fun e => ⟨ys, .of k1, ?_⟩, fun d e => ?_⟩
            · rw [k3.length]; exact List.getElem?_eq_none_iff.mp e
            · obtain ⟨x, e1, e2⟩ := k3.get e
              refine ⟨⟨ys, x, .of k1, e1⟩, fun x' H3 y => .inl ⟨y.1, ?_⟩⟩
              have e3 := y.2 ys (.of k1)
              rw [e1] at e3
              cases e3
              exact e2
    | tup l =>
      have r0 := r
      cases r with
      | tup g1 g2 g3 =>
        rename_i a xs
        refine .inr ⟨a, rfl, ⟨xs, .of g1⟩, q l s1 _ H1 h1 R1 st1 ⟨[(.tup l, .ref a)], fun p hp => ?_, fun B' H2 i hp => ?_⟩⟩
        · obtain rfl : p = (.tup l, .ref a) := by simpa using hp
          exact r0
        · have r2 := hp _ (List.mem_singleton.mpr rfl)
          cases r2 with
          | tup k1 k2 k3 =>
            rename_i ys
            refine ⟨fun e => ⟨ys, .of k1, ?_⟩, fun d e => ?_⟩
            · rw [k3.length]; exact List.getElem?_eq_none_iff.mp e
            · obtain ⟨x, e1, e2⟩ := k3.get e
              refine ⟨⟨ys, x, .of k1, e1⟩, fun x' H3 y => .inl ⟨y.1, ?_⟩⟩
              have e3 := y.2 ys (.of k1)
              rw [e1] at e3
              cases e3
              exact e2
    | _ => exact h1.elim
theorem si_rg1 (h : SdL A m sh n ta fa) : SdI A (iRng1 ta) (fRg1 fa) := fun W s0 H0 s σ H ρ Φ Rr R hp q =>
  h W s0 H0 s σ H ρ _ _ R hp fun ds s1 vs H1 h1 R1 st1 r1 _ => by
    split at h1
    · cases r1 with
      | cons a b =>
        cases b
        obtain rfl := a.int
        exact ⟨_, rfl, h1.1, h1.2.1, q _ s1 _ H1 h1.2.2 R1 st1 itOk_range⟩
    · exact h1.elim
theorem si_rg2 (h : SdL A m sh n ta fa) : SdI A (iRng2 ta) (fRg2 fa) := fun W s0 H0 s σ H ρ Φ Rr R hp q =>
  h W s0 H0 s σ H ρ _ _ R hp fun ds s1 vs H1 h1 R1 st1 r1 _ => by
    split at h1
    · cases r1 with
      | cons a b =>
        cases b with
        | cons a' b' =>
          cases b'
          obtain rfl := a.int
          obtain rfl := a'.int
          exact ⟨_, _, rfl, h1.1, q _ s1 _ H1 h1.2 R1 st1 itOk_range⟩
    · exact h1.elim
end
/-! ### for, while -/
structure ForP {S : Type} (l : List D) (g : FG) (b : FS S) (P : PEnds S) (ρ : List Sl) (s : S) : Prop where
  ex : ∃ Iv : Nat → List Sl → S → Prop, Iv 0 ρ s ∧ ∀ i ρ s, Iv i ρ s → match l[i]? with
    | none => P.nx ρ s
    | some d => g d ρ fun ρ' => b { P with nx := Iv (i + 1), ct := Iv (i + 1), bk := P.nx } ρ' s
def fFor {S : Type} (fi : FI S) (g : FG) (b : FS S) : FS S := fun P ρ s => fi ρ s fun l s1 => ForP l g b P ρ s1
/-- a loop, its slots told by a state of one's own -/
theorem for_go {A : Amb} {l : List D} {g : FG} {b : FS A} {P : PEnds A} {ρ : List Sl} {s : A.S} {T : Type} (enc : T → List Sl) (Inv : Nat → T → Prop) (t0 : T) (h0 : enc t0 = ρ) (i0 : Inv 0 t0)
    (step : ∀ i d t, l[i]? = some d → Inv i t → g d (enc t) fun ρ' => b { P with nx := fun ρ s' => s' = s ∧ ∃ t', enc t' = ρ ∧ Inv (i + 1) t', ct := fun ρ s' => s' = s ∧ ∃ t', enc t' = ρ ∧ Inv (i + 1) t', bk := P.nx } ρ' s)
    (fin : ∀ t, Inv l.length t → P.nx (enc t) s) : ForP l g b P ρ s := by
  refine ⟨fun i ρ s' => i ≤ l.length ∧ s' = s ∧ ∃ t, enc t = ρ ∧ Inv i t, ⟨Nat.zero_le _, rfl, t0, h0, i0⟩, ?_⟩
  intro i ρ' s' h
  obtain ⟨hi, es, t, er, hI⟩ := h
  rw [es, ← er]
  cases e : l[i]? with
  | none =>
    have h1 : l.length ≤ i := List.getElem?_eq_none_iff.mp e
    obtain rfl : i = l.length := by omega
    exact fin t hI
  | some d =>
    have h1 : i < l.length := (List.getElem?_eq_some_iff.mp e).1
    have h2 := step i d t e hI
    have e3 : (fun (ρ : List Sl) (s2 : A.S) => i + 1 ≤ l.length ∧ s2 = s ∧ ∃ t, enc t = ρ ∧ Inv (i + 1) t) = fun ρ s2 => s2 = s ∧ ∃ t, enc t = ρ ∧ Inv (i + 1) t := by
      funext ρ s2
      exact propext ⟨fun h => h.2, fun h => ⟨h1, h⟩⟩
    have e4 : g d (enc t) fun ρ' => b { P with nx := (fun (ρ : List Sl) (s2 : A.S) => i + 1 ≤ l.length ∧ s2 = s ∧ ∃ t, enc t = ρ ∧ Inv (i + 1) t), ct := (fun (ρ : List Sl) (s2 : A.S) => i + 1 ≤ l.length ∧ s2 = s ∧ ∃ t, enc t = ρ ∧ Inv (i + 1) t), bk := P.nx } ρ' s := by
      rw [e3]
      exact h2
    exact e4
structure WhP {S : Type} (c : FT S) (b : FS S) (P : PEnds S) (ρ : List Sl) (s : S) : Prop where
  ex : ∃ Iv : Nat → List Sl → S → Prop, (∃ m, Iv m ρ s) ∧ ∀ m ρ s, Iv m ρ s → c ρ s fun k s1 => Br k (b { P with nx := fun ρ s => ∃ m', m' < m ∧ Iv m' ρ s, ct := fun ρ s => ∃ m', m' < m ∧ Iv m' ρ s, bk := P.nx } ρ s1) (P.nx ρ s1)
def fWhile {S : Type} (c : FT S) (b : FS S) : FS S := fun P ρ s => WhP c b P ρ s
theorem while_go {A : Amb} {c : FT A} {b : FS A} {P : PEnds A} {ρ : List Sl} {s : A.S} {T : Type} (enc : T → List Sl) (Inv : Nat → T → Prop) (t0 : T) (m0 : Nat) (h0 : enc t0 = ρ) (i0 : Inv m0 t0)
    (step : ∀ m t, Inv m t → c (enc t) s fun k s1 => Br k (b { P with nx := fun ρ s' => ∃ m', m' < m ∧ s' = s ∧ ∃ t', enc t' = ρ ∧ Inv m' t', ct := fun ρ s' => ∃ m', m' < m ∧ s' = s ∧ ∃ t', enc t' = ρ ∧ Inv m' t', bk := P.nx } (enc t) s1) (P.nx (enc t) s1)) : WhP c b P ρ s := by
  refine ⟨fun m ρ s' => s' = s ∧ ∃ t, enc t = ρ ∧ Inv m t, ⟨m0, rfl, t0, h0, i0⟩, ?_⟩
  intro m ρ' s' h
  obtain ⟨es, t, er, hI⟩ := h
  rw [es, ← er]
  exact step m t hI
theorem ER.keep {A : Amb} {W : Ot} {s0 s : A.S} {H0 H : Hp} {σ : Sg} {ρ : List Sl} {γ : List (D × V)} (R : ER A W s0 H0 s σ H ρ) (h : ∀ p ∈ γ, Rs (om true A W s σ ρ) H p.1 p.2) : ER A (W.keep γ) s0 H0 s σ H ρ :=
  ⟨R.amb, R.stp, R.wd, R.len, R.vals, R.own, fun p hp => (List.mem_append.mp hp).elim (R.gh p) (h p), R.uniq, R.w0, fun p hp => List.mem_append_left _ (R.g0 p hp), R.lk⟩
theorem ER.lose {A : Amb} {W : Ot} {s0 s : A.S} {H0 H : Hp} {σ : Sg} {ρ : List Sl} {γ : List (D × V)} (R : ER A (W.keep γ) s0 H0 s σ H ρ) (g0 : ∀ p ∈ A.g0, p ∈ W.g) : ER A W s0 H0 s σ H ρ :=
  ⟨R.amb, R.stp, R.wd, R.len, R.vals, R.own, fun p hp => R.gh p (List.mem_append_left _ hp), R.uniq, R.w0, g0, R.lk⟩
section
variable {A : Amb} {wi : TI} {fi : FI A} {vs : List Nat} {tg : TG} {g : FG} {tb : TS} {b : FS A} {tc : TT} {fc : FT A}
theorem ss_for (hi : SdI A wi fi) (hg : SdG A vs tg g) (hb : SdS A tb b) : SdS A (tFor wi tg tb) (fFor fi g b) := fun W s0 H0 s σ H ρ P D R hp nx bk ct rt =>
  hi W s0 H0 s σ H ρ _ _ R hp fun l s1 J H1 ⟨⟨Iv, i0, step⟩⟩ R1 st1 ⟨γ, hγ, ok⟩ => by
    refine ⟨fun i m σ H => i + m = l.length + 1 ∧ ∃ ρ s, Iv i ρ s ∧ ER A (W.keep γ) s0 H0 s σ H ρ, ⟨l.length + 1, by omega, ρ, s1, i0, R1.keep hγ⟩, fun i m σ2 H2 ⟨hm, ρ2, s2, hI, R2⟩ => ?_⟩
    have gh : ∀ p ∈ γ, Rs (om true A (W.keep γ) s2 σ2 ρ2) H2 p.1 p.2 := fun p hp => R2.gh p (List.mem_append_right _ hp)
    obtain ⟨o1, o2⟩ := ok _ H2 i gh
    have st := step i ρ2 s2 hI
    cases e : l[i]? with
    | none =>
      rw [e] at st
      exact .inl ⟨o1 e, nx ρ2 s2 σ2 H2 st (R2.lose R.g0)⟩
    | some d =>
      rw [e] at st
      obtain ⟨go, yl⟩ := o2 d e
      have hl : i < l.length := (List.getElem?_eq_some_iff.mp e).1
      refine .inr ⟨go, fun σ' H' => ∃ ρ' s', Iv (i + 1) ρ' s' ∧ ER A (W.keep γ) s0 H0 s' σ' H' ρ', fun σ' H' h => ⟨m - 1, by omega, by omega, h⟩, fun x H3 y => ?_⟩
      have key : ∃ (R3 : ER A (W.keep γ) s0 H0 s2 σ2 H3 ρ2), Rs (om true A (W.keep γ) s2 σ2 ρ2) H3 d x := by
        rcases yl x H3 y with ⟨rfl, r⟩ | ⟨T, xs, ds, rfl, hT, rfl, rfl, r⟩
        · exact ⟨R2, r⟩
        · exact ⟨R2.alloc hT _, .tup upd_same (R2.fresh hT) (r.stp (Stp.fresh hT))⟩
      obtain ⟨R3, r3⟩ := key
      refine hg (W.keep γ) s0 H0 s2 σ2 H3 ρ2 d x _ _ R3 r3 st fun ρ' σ' hb' R4 _ _ _ => ?_
      refine hb (W.keep γ) s0 H0 s2 σ' H3 ρ' _ _ R4 hb' (fun ρ5 s5 σ5 H5 q R5 => ⟨ρ5, s5, q, R5⟩) (fun ρ5 s5 σ5 H5 q R5 => nx ρ5 s5 σ5 H5 q (R5.lose R.g0)) (fun ρ5 s5 σ5 H5 q R5 => ⟨ρ5, s5, q, R5⟩) fun r s5 v H5 q a1 a2 a3 a4 => rt r s5 v H5 q a1 a2 a3 ?_
      cases r <;> exact a4
theorem ss_while (hc : SdT A tc fc) (hb : SdS A tb b) : SdS A (tWhile tc tb) (fWhile fc b) := fun W s0 H0 s σ H ρ P D R hp nx bk ct rt => by
  obtain ⟨Iv, ⟨m0, h0⟩, step⟩ := hp.ex
  refine ⟨fun m σ H => ∃ ρ s, Iv m ρ s ∧ ER A W s0 H0 s σ H ρ, ⟨m0, ρ, s, h0, R⟩, fun m σ2 H2 ⟨ρ2, s2, hI, R2⟩ => ?_⟩
  refine hc W s0 H0 s2 σ2 H2 ρ2 _ _ R2 (step m ρ2 s2 hI) fun k s3 H3 hk R3 st3 => ?_
  have hk := Br.ite hk
  cases k with
  | false =>
    rw [if_neg (by decide)] at hk ⊢
    exact nx ρ2 s3 σ2 H3 hk R3
  | true =>
    rw [if_pos rfl] at hk ⊢
    refine ⟨fun σ' H' => ∃ m', m' < m ∧ ∃ ρ s, Iv m' ρ s ∧ ER A W s0 H0 s σ' H' ρ, fun σ' H' h => h, ?_⟩
    exact hb W s0 H0 s3 σ2 H3 ρ2 _ _ R3 hk (fun ρ5 s5 σ5 H5 ⟨m', hm, q⟩ R5 => ⟨m', hm, ρ5, s5, q, R5⟩) (fun ρ5 s5 σ5 H5 q R5 => nx ρ5 s5 σ5 H5 q R5) (fun ρ5 s5 σ5 H5 ⟨m', hm, q⟩ R5 => ⟨m', hm, ρ5, s5, q, R5⟩) rt
end
end Pd

set_option maxHeartbeats 4000000
namespace Pd
open PySem PySem.Spec PyProof.Rows L2
/-! ### list comprehensions -/
def notOwn (ρ : List Sl) (i : Nat) : Bool := match ρ[i]? with
  | some (.o _) => false
  | _ => true
def wipeR (ρ : List Sl) : List Nat → List Sl
  | [] => ρ
  | v :: vs => (wipeR ρ vs).set v .e
structure LcP {S : Type} (l : List D) (g : FG) (tt : FT S) (fe : FE S) (ρ : List Sl) (s : S) (Φ : Mo → S → Prop) : Prop where
  len : l.length ≤ 16777216
  ex : ∃ Iv : Nat → List D → S → Prop, Iv 0 [] s ∧ ∀ i acc s, Iv i acc s → match l[i]? with
    | none => Φ (.lst acc) s
    | some d => g d ρ fun ρ' => tt ρ' s fun b s2 => Br b (fe ρ' s2 fun y s3 => Iv (i + 1) (acc ++ [y]) s3) (Iv (i + 1) acc s2)
def fLc {S : Type} (fi : FI S) (vs : List Nat) (g : FG) (tt : FT S) (fe : FE S) : FO S := fun ρ s Φ => vs.all (notOwn ρ) = true ∧ fi ρ s fun l s1 => LcP l g tt fe (wipeR ρ vs) s1 Φ
theorem lc_go {A : Amb} {l : List D} {g : FG} {tt : FT A} {fe : FE A} {ρ : List Sl} {s : A.S} {Φ : Mo → A.S → Prop} (Inv : Nat → List D → Prop) (hl : l.length ≤ 16777216) (i0 : Inv 0 [])
    (step : ∀ i d acc, l[i]? = some d → Inv i acc → g d ρ fun ρ' => tt ρ' s fun b s2 => Br b (fe ρ' s2 fun y s3 => s3 = s ∧ Inv (i + 1) (acc ++ [y])) (s2 = s ∧ Inv (i + 1) acc))
    (fin : ∀ acc, Inv l.length acc → Φ (.lst acc) s) : LcP l g tt fe ρ s Φ := by
  refine ⟨hl, fun i acc s' => i ≤ l.length ∧ s' = s ∧ Inv i acc, ⟨Nat.zero_le _, rfl, i0⟩, ?_⟩
  intro i acc s' h
  obtain ⟨hi, es, hI⟩ := h
  rw [es]
  cases e : l[i]? with
  | none =>
    have h1 : l.length ≤ i := List.getElem?_eq_none_iff.mp e
    obtain rfl : i = l.length := by omega
    exact fin acc hI
  | some d =>
    have h1 : i < l.length := (List.getElem?_eq_some_iff.mp e).1
    have h2 := step i d acc e hI
    have e3 : ∀ (acc' : List D) (s3 : A.S), (i + 1 ≤ l.length ∧ s3 = s ∧ Inv (i + 1) acc') = (s3 = s ∧ Inv (i + 1) acc') := fun acc' s3 => propext ⟨fun h => h.2, fun h => ⟨h1, h⟩⟩
    show g d ρ fun ρ' => tt ρ' s fun b s2 => Br b (fe ρ' s2 fun y s3 => _ ∧ _) (_ ∧ _)
    simp only [e3]
    exact h2
/-- every item of the answer is as P says -/
theorem lc_all {A : Amb} {l : List D} {g : FG} {tt : FT A} {fe : FE A} {ρ : List Sl} {s : A.S} {Φ : Mo → A.S → Prop} (p : D → Prop) (hl : l.length ≤ 16777216)
    (step : ∀ d (C : D → A.S → Prop) (N : A.S → Prop), d ∈ l → (∀ y, p y → C y s) → (N s) → g d ρ fun ρ' => tt ρ' s fun b s2 => Br b (fe ρ' s2 C) (N s2))
    (fin : ∀ acc, (∀ d ∈ acc, p d) → acc.length ≤ l.length → Φ (.lst acc) s) : LcP l g tt fe ρ s Φ :=
  lc_go (fun i acc => (∀ d ∈ acc, p d) ∧ acc.length ≤ i) hl ⟨fun _ h => (nomatch h), Nat.le_refl _⟩
    (fun i d acc e hI => step d _ _ (List.mem_of_getElem? e) (fun y hy => ⟨rfl, fun d h => (List.mem_append.mp h).elim (hI.1 d) fun h => by rw [List.mem_singleton.mp h]; exact hy, by rw [List.length_append, List.length_singleton]; have := hI.2; omega⟩) ⟨rfl, hI.1, Nat.le_succ_of_le hI.2⟩)
    fun acc h => fin acc h.1 h.2
theorem ER.wipe {A : Amb} {W : Ot} {s0 s : A.S} {H0 H : Hp} {σ : Sg} {ρ : List Sl} (R : ER A W s0 H0 s σ H ρ) : ∀ vs : List Nat, ER A W s0 H0 s (L2.wipe σ vs) H (wipeR ρ vs)
  | [] => R
  | v :: vs => (ER.wipe R vs).setN v (x := none) (sl := .e) (fun m z => nomatch z) (fun d z => nomatch z)
theorem wipeR_out {ρ : List Sl} {i : Nat} : ∀ {vs : List Nat}, i ∉ vs → (wipeR ρ vs)[i]? = ρ[i]?
  | [], _ => rfl
  | v :: vs, h => by
    have h1 : v ≠ i := fun e => h (by rw [e]; exact List.mem_cons_self)
    show ((wipeR ρ vs).set v Sl.e)[i]? = ρ[i]?
    rw [List.getElem?_set_ne h1]
    exact wipeR_out fun m => h (List.mem_cons_of_mem _ m)
theorem wipe_in {σ : Sg} {i : Nat} : ∀ {vs : List Nat}, i ∈ vs → (L2.wipe σ vs)[i]? = if i < σ.length then some none else none
  | [], h => nomatch h
  | v :: vs, h => by
    show ((L2.wipe σ vs).set v none)[i]? = _
    by_cases e : v = i
    · subst e
      rw [List.getElem?_set]
      rw [if_pos rfl, wipe_length]
    · rw [List.getElem?_set_ne e]
      exact wipe_in ((List.mem_cons.mp h).resolve_left fun z => e z.symm)
theorem wipe_back {σ σ2 : Sg} {vs : List Nat} (o : Out vs (L2.wipe σ vs) σ2) : L2.wipe σ2 vs = L2.wipe σ vs := by
  apply List.ext_getElem?
  intro i
  by_cases h : i ∈ vs
  · rw [wipe_in h, wipe_in h, o.1, wipe_length]
  · rw [wipe_out h, o.2 i h]
theorem ER.oth {A : Amb} {W : Ot} {s0 s : A.S} {H0 H : Hp} {σ : Sg} {ρ : List Sl} {p : Addr} (R : ER A (W.add p) s0 H0 s σ H ρ) (h0 : H0 p = none) (hb : ¬ A.B s p) (o : HO) : ER A (W.add p) s0 H0 s σ (upd H p o) ρ := by
  have ag : Agr (om true A (W.add p) s σ ρ) H (upd H p o) := fun a u e n => by
    rw [upd_ne fun z => n (.inl (.inr z))]
    exact e
  refine ⟨A.loc R.amb (fun a z => .inl z) ag fun a z => upd_ne fun e => by subst e; exact hb z, ⟨fun a u e n => ?_, R.stp.new, fun a z => ?_⟩, fun a w => ?_, R.len, fun i d e => ?_, fun i m e => ?_, fun q hq => (R.gh q hq).go (fun a z => .inl z) ag, R.uniq, R.w0, R.g0, R.lk⟩
  · rw [upd_ne (ne_of_none e h0)]
    exact R.stp.agr a u e n
  · by_cases q : a = p
    · subst q; rw [upd_same]; simp
    · rw [upd_ne q]; exact R.stp.dom a z
  · by_cases q : a = p
    · subst q; rw [upd_same]; simp
    · rw [upd_ne q]; exact R.wd a w
  · obtain ⟨v, h1, h2⟩ := R.vals i d e
    exact ⟨v, h1, h2.go (fun a z => .inl z) ag⟩
  · obtain ⟨a, h1, h2, h3, h4, h5⟩ := R.own i m e
    have ne : a ≠ p := fun z => h4 (.inr z)
    exact ⟨a, h1, h2.go (fun a z => .inl z) ag (upd_ne ne), h3, h4, h5⟩
theorem om_blk {A : Amb} {W : Ot} {s : A.S} {σ σ2 : Sg} {ρ ρ2 : List Sl} {vs : List Nat} (ho : vs.all (notOwn ρ) = true) (o1 : Out vs (L2.wipe σ vs) σ2) (o2 : Out vs (wipeR ρ vs) ρ2) : ∀ a, om true A W s σ ρ a → om true A W s σ2 ρ2 a := fun a z => by
  rcases z with z | z | ⟨_, i, m, e1, e2⟩
  · exact .inl z
  · exact .inr (.inl z)
  · have ni : i ∉ vs := fun h => by
      have := List.all_eq_true.mp ho i h
      unfold notOwn at this
      rw [e1] at this
      cases this
    exact .inr (.inr ⟨rfl, i, m, by rw [o2.2 i ni, wipeR_out ni]; exact e1, by rw [o1.2 i ni, wipe_out ni]; exact e2⟩)
section
variable {A : Amb} {wi : TI} {fi : FI A} {vs ws : List Nat} {tg : TG} {g : FG} {tt : TT} {ft : FT A} {te : TE} {fe : FE A}
theorem st_yes : SdT A tYes (fun _ s Φ => Φ true s) := fun W s0 H0 s σ H ρ Φ Q R hp q => q true s H hp R Stp.refl
theorem so_lc (hi : SdI A wi fi) (hg : SdG A ws tg g) (hw : ∀ i ∈ ws, i ∈ vs) (ht : SdT A tt ft) (he : SdE A true false te fe) : SdO A (tLc wi tg tt te vs) (fLc fi vs g ft fe) := fun W s0 H0 s σ H ρ Φ Q R hp q => by
  obtain ⟨ho, hp⟩ := hp
  refine hi W s0 H0 s σ H ρ _ _ R hp fun l s1 J H1 ⟨hlen, ⟨Iv, i0, step⟩⟩ R1 st1 ⟨γ, hγ, ok⟩ => ?_
  intro D hD
  have hD0 : H D = none := by
    cases e : H D with
    | none => rfl
    | some o => exact (st1.dom D (by rw [e]; simp) hD).elim
  have hD00 := R.fresh0 hD0
  have bD1 : ¬ A.B s1 D := fun z => A.dom R1.amb z hD
  have wD1 : ¬ W.w D := fun z => R1.wd D z hD
  refine ⟨fun i m H2 => i + m = l.length + 1 ∧ ∃ acc accV s2, Iv i acc s2 ∧ acc.length ≤ i ∧ ER A ((W.keep γ).add D) s0 H0 s2 σ H2 ρ ∧ Stp A s s2 H H2 ∧ H2 D = some (.lst accV) ∧ RsL (om true A ((W.keep γ).add D) s2 σ ρ) H2 acc accV ∧ ¬ A.B s2 D,
    ⟨l.length + 1, by omega, [], [], s1, i0, Nat.zero_le _, (R1.keep hγ).wide hD _, st1.trans (Stp.fresh hD), upd_same, .nil, bD1⟩, fun i m H2 h => ?_⟩
  obtain ⟨hm, acc, accV, s2, hI, ha, R2, st2, eD, rA, bD⟩ := h
  have gh : ∀ p ∈ γ, Rs (om true A ((W.keep γ).add D) s2 σ ρ) H2 p.1 p.2 := fun p hp => R2.gh p (List.mem_append_right _ hp)
  obtain ⟨o1, o2⟩ := ok _ H2 i gh
  have st := step i acc s2 hI
  cases e : l[i]? with
  | none =>
    rw [e] at st
    exact .inl ⟨o1 e, q _ s2 D H2 st (ER.lose (W := W.add D) (γ := γ) R2 R.g0) st2 hD0 ⟨accV, eD, rA⟩ wD1 bD⟩
  | some d =>
    rw [e] at st
    obtain ⟨go, yl⟩ := o2 d e
    have hl : i < l.length := (List.getElem?_eq_some_iff.mp e).1
    refine .inr ⟨go, fun H3 => ∃ acc accV s2, Iv (i + 1) acc s2 ∧ acc.length ≤ i + 1 ∧ ER A ((W.keep γ).add D) s0 H0 s2 σ H3 ρ ∧ Stp A s s2 H H3 ∧ H3 D = some (.lst accV) ∧ RsL (om true A ((W.keep γ).add D) s2 σ ρ) H3 acc accV ∧ ¬ A.B s2 D, fun H' h => ⟨m - 1, by omega, by omega, h⟩, fun x H3 y => ?_⟩
    have key : ∃ (R3 : ER A ((W.keep γ).add D) s0 H0 s2 σ H3 ρ) (st : Stp A s2 s2 H2 H3), Rs (om true A ((W.keep γ).add D) s2 σ ρ) H3 d x := by
      rcases yl x H3 y with ⟨rfl, r⟩ | ⟨T, xs, ds, rfl, hT, rfl, rfl, r⟩
      · exact ⟨R2, Stp.refl, r⟩
      · exact ⟨R2.alloc hT _, Stp.fresh hT, .tup upd_same (R2.fresh hT) (r.stp (Stp.fresh hT))⟩
    obtain ⟨R3, st3, r3⟩ := key
    have wk : ∀ a, om true A ((W.keep γ).add D) s2 (L2.wipe σ vs) (wipeR ρ vs) a → om true A ((W.keep γ).add D) s2 σ ρ a := fun a z => by
      rcases z with z | z | ⟨_, j, mj, e1, e2⟩
      · exact .inl z
      · exact .inr (.inl z)
      · have nj : j ∉ vs := fun h => by
          rw [wipe_in h] at e2
          split at e2 <;> cases e2
        rw [wipeR_out nj] at e1
        rw [wipe_out nj] at e2
        exact .inr (.inr ⟨rfl, j, mj, e1, e2⟩)
    refine hg _ s0 H0 s2 _ H3 _ d x _ _ (R3.wipe vs) (r3.weak wk) st fun ρ' σ' hb R4 p1 p2 _ => ?_
    have p1' := p1.mono hw
    have p2' := p2.mono hw
    refine ⟨wipe_back p1', ht _ s0 H0 s2 σ' H3 ρ' _ _ R4 hb fun b s4 H4 hb4 R5 st5 => ?_⟩
    have R3' := R3.go st5 (Amb.sub R5.amb (om_blk ho p1' p2'))
    have eD4 : H4 D = some (.lst accV) ∧ ¬ A.B s4 D := by
      obtain ⟨k1, k2⟩ := keep_at (st3.trans st5) (by rw [eD]; simp) bD
      exact ⟨k1.trans eD, k2⟩
    have rA4 := rA.stp (st3.trans st5)
    have hb4 := Br.ite hb4
    cases b with
    | false =>
      rw [if_neg (by decide)] at hb4 ⊢
      exact ⟨acc, accV, s4, hb4, Nat.le_succ_of_le ha, R3', (st2.trans st3).trans st5, eD4.1, rA4, eD4.2⟩
    | true =>
      rw [if_pos rfl] at hb4 ⊢
      refine he _ s0 H0 s4 σ' H4 ρ' _ _ R5 hb4 fun y s6 v H6 h6 R6 st6 r6 => ?_
      obtain ⟨k1, k2⟩ := keep_at st6 (by rw [eD4.1]; simp) eD4.2
      have rA6 := (rA4.stp st6).append (.one (r6.rs.weak (om_blk ho p1' p2')))
      refine ⟨accV, k1.trans eD4.1, by rw [line_eq, rA.length]; omega, acc ++ [y], accV ++ [v], s6, h6, by simp; omega, (R3'.go st6 (Amb.sub R6.amb (om_blk ho p1' p2'))).oth hD00 k2 _, ?_, upd_same, rA6.go (fun a z => .inl z) (fun a u ea na => ?_), k2⟩
      · have s7 := ((st2.trans st3).trans st5).trans st6
        exact ⟨fun a u ea na => by rw [upd_ne (ne_of_none ea hD0)]; exact s7.agr a u ea na, s7.new, fun a z => by
          by_cases qa : a = D
          · subst qa; rw [upd_same]; simp
          · rw [upd_ne qa]; exact s7.dom a z⟩
      · rw [upd_ne fun z => na (.inl (.inr z))]
        exact ea
end
/-! ### calls of built-ins -/
def SdC (A : Amb) (m m1 sh1 : Bool) (r : List V → Hp → VK → Prop) (op : List D → (D → Prop) → Prop) : Prop :=
  ∀ W s0 H0 s σ H ρ ds vs Φ Q, ER A W s0 H0 s σ H ρ → RVs A W s σ ρ H m1 sh1 ds vs → op ds Φ →
    (∀ d u H', Φ d → ER A W s0 H0 s σ H' ρ → Stp A s s H H' → RV A W s σ ρ H' m false d u → Q u H') → r vs H Q
def fCB {S : Type} (op : List D → (D → Prop) → Prop) (fa : FA S) : FE S := fun ρ s Φ => fa ρ s fun ds s1 => op ds fun d => Φ d s1
section
variable {A : Amb} {m sh m1 sh1 : Bool} {n : Nat} {ta : TA} {fa : FA A} {r r' : List V → Hp → VK → Prop} {op : List D → (D → Prop) → Prop}
theorem sd_cb (hr : SdC A m m1 sh1 r op) (h : SdL A m1 sh1 n ta fa) : SdE A m sh (tCB r ta) (fCB op fa) := fun W s0 H0 s σ H ρ Φ Q R hp q =>
  h W s0 H0 s σ H ρ _ _ R hp fun ds s1 vs H1 h1 R1 st1 r1 _ => hr W s0 H0 s1 σ H1 ρ ds vs _ Q R1 r1 h1 fun d u H2 hd R2 st2 r2 => q d s1 u H2 hd R2 (st1.trans st2) r2.up
theorem sdc_same (h : ∀ ds vs H Φ Q W s σ ρ, RVs A W s σ ρ H m1 sh1 ds vs → op ds Φ → (∀ d u, Φ d → (∀ B, Rs B H d u) → Q u H) → r vs H Q) : SdC A m m1 sh1 r op :=
  fun W s0 H0 s σ H ρ ds vs Φ Q R rv ho q => h ds vs H Φ Q W s σ ρ rv ho fun d u hd hu => q d u H hd R Stp.refl (.inl (hu _))
end
theorem RVs.one {A : Amb} {W : Ot} {s : A.S} {σ : Sg} {ρ : List Sl} {H : Hp} {m sh : Bool} {d : D} {vs : List V} (r : RVs A W s σ ρ H m sh [d] vs) : ∃ v, vs = [v] ∧ RV A W s σ ρ H m sh d v := by
  cases r with
  | cons a b => cases b; exact ⟨_, rfl, a⟩
theorem RVs.two {A : Amb} {W : Ot} {s : A.S} {σ : Sg} {ρ : List Sl} {H : Hp} {m sh : Bool} {d e : D} {vs : List V} (r : RVs A W s σ ρ H m sh [d, e] vs) : ∃ v w, vs = [v, w] ∧ RV A W s σ ρ H m sh d v ∧ RV A W s σ ρ H m sh e w := by
  cases r with
  | cons a b =>
    obtain ⟨w, rfl, h⟩ := b.one
    exact ⟨_, _, rfl, a, h⟩
/-! len -/
def dLen (ds : List D) (Φ : D → Prop) : Prop := match ds with
  | [.lst l] => Φ (.int l.length)
  | [.tup l] => Φ (.int l.length)
  | [.str x] => x.length ≤ 16777216 ∧ Φ (.int x.length)
  | [.dct ks _] => Φ (.int ks.length)
  | _ => False
def rLenA (K : Fg) : List V → Hp → VK → Prop := fun xs H Q => (∃ x n, xs = [x] ∧ LenV K x H n ∧ Q (.int n) H) ∨ ∃ a kvs, xs = [V.ref a] ∧ H a = some (.dK kvs) ∧ Q (.int kvs.length) H
theorem call_lenA {X : Cx} : CallR X (.builtin "len") (rLenA X.K) := CallR.or call_len call_lenD
def dAbs (ds : List D) (Φ : D → Prop) : Prop := match ds with
  | [.int i] => Φ (.int i.natAbs)
  | _ => False
def dMax2 (ds : List D) (Φ : D → Prop) : Prop := match ds with
  | [.int i, .int j] => Φ (.int (max i j))
  | _ => False
def dMin2 (ds : List D) (Φ : D → Prop) : Prop := match ds with
  | [.int i, .int j] => Φ (.int (min i j))
  | _ => False
def dInt (ds : List D) (Φ : D → Prop) : Prop := match ds with
  | [.int i] => Φ (.int i)
  | [.bl k] => Φ (.int (if k then 1 else 0))
  | _ => False
def dStr (ds : List D) (Φ : D → Prop) : Prop := match ds with
  | [.int i] => i.natAbs.log2 < 1920 ∧ Φ (.str (toString i))
  | _ => False
def dAll (ds : List D) (Φ : D → Prop) : Prop := ∃ bs : List Bool, ds = [.lst (bs.map D.bl)] ∧ Φ (.bl (bs.all id))
def dAny (ds : List D) (Φ : D → Prop) : Prop := ∃ bs : List Bool, ds = [.lst (bs.map D.bl)] ∧ Φ (.bl (bs.any id))
def dSum (ds : List D) (Φ : D → Prop) : Prop := ∃ ns : List Int, ds = [.lst (ns.map D.int)] ∧ Φ (.int ns.sum)
def dMaxL (ds : List D) (Φ : D → Prop) : Prop := ∃ ns : List Int, ds = [.lst (ns.map D.int)] ∧ 0 < ns.length ∧ ∀ m, m ∈ ns → (∀ y, y ∈ ns → y ≤ m) → Φ (.int m)
def dMinL (ds : List D) (Φ : D → Prop) : Prop := ∃ ns : List Int, ds = [.lst (ns.map D.int)] ∧ 0 < ns.length ∧ ∀ m, m ∈ ns → (∀ y, y ∈ ns → m ≤ y) → Φ (.int m)
def dSorted (ds : List D) (Φ : D → Prop) : Prop := ∃ ns : List Int, ds = [.lst (ns.map D.int)] ∧ ∀ ns' : List Int, ns'.Perm ns → ns'.Pairwise (· ≤ ·) → Φ (.lst (ns'.map D.int))
def dList (ds : List D) (Φ : D → Prop) : Prop := match ds with
  | [.lst l] => Φ (.lst l)
  | [.tup l] => Φ (.lst l)
  | _ => False
def dTuple (ds : List D) (Φ : D → Prop) : Prop := match ds with
  | [.lst l] => Φ (.tup l)
  | [.tup l] => Φ (.tup l)
  | _ => False
section
variable {A : Amb} {m m1 sh1 : Bool} {K : Fg}
theorem sc_len : SdC A m m1 sh1 (rLenA K) dLen := sdc_same fun ds vs H Φ Q W s σ ρ rv h q => by
  unfold dLen at h
  split at h
  · obtain ⟨v, rfl, r⟩ := rv.one
    obtain ⟨a, xs, rfl, h1, h2, _⟩ := r.lst
    exact .inl ⟨_, _, rfl, .inl ⟨xs, .of h1, rfl⟩, by rw [h2.length]; exact q _ _ h fun B => .int _⟩
  · obtain ⟨v, rfl, r⟩ := rv.one
    obtain ⟨a, xs, rfl, h1, h2⟩ := r.tup
    exact .inl ⟨_, _, rfl, .inr ⟨xs, .of h1, rfl⟩, by rw [h2.length]; exact q _ _ h fun B => .int _⟩
  · obtain ⟨v, rfl, r⟩ := rv.one
    obtain rfl := r.str
    exact .inl ⟨_, _, rfl, ⟨by rw [line_eq]; exact h.1, rfl⟩, q _ _ h.2 fun B => .int _⟩
  · obtain ⟨v, rfl, r⟩ := rv.one
    have r2 := r.low
    cases r2 with
    | dct h1 n k r3 => exact .inr ⟨_, _, rfl, h1, q _ _ (by rw [← k, List.length_map] at h; exact h) fun B => .int _⟩
  · exact h.elim
theorem sc_abs : SdC A m m1 sh1 (fun xs H Q => ∃ i, xs = [.int i] ∧ Q (.int (if i < 0 then -i else i)) H) dAbs := sdc_same fun ds vs H Φ Q W s σ ρ rv h q => by
  unfold dAbs at h
  split at h
  · rename_i i
    obtain ⟨v, rfl, r⟩ := rv.one
    obtain rfl := r.int
    refine ⟨i, rfl, ?_⟩
    have e : (if i < 0 then -i else i) = ((i.natAbs : Nat) : Int) := by split <;> omega
    rw [e]
    exact q _ _ h fun B => .int _
  · exact h.elim
theorem sc_max2 : SdC A m m1 sh1 (fun xs H Q => ∃ i j, xs = [.int i, .int j] ∧ Q (.int (if j > i then j else i)) H) dMax2 := sdc_same fun ds vs H Φ Q W s σ ρ rv h q => by
  unfold dMax2 at h
  split at h
  · rename_i i j
    obtain ⟨v, w, rfl, r, r'⟩ := rv.two
    obtain rfl := r.int
    obtain rfl := r'.int
    refine ⟨i, j, rfl, ?_⟩
    have e : (if j > i then j else i) = max i j := by split <;> omega
    rw [e]
    exact q _ _ h fun B => .int _
  · exact h.elim
theorem sc_min2 : SdC A m m1 sh1 (fun xs H Q => ∃ i j, xs = [.int i, .int j] ∧ Q (.int (if j < i then j else i)) H) dMin2 := sdc_same fun ds vs H Φ Q W s σ ρ rv h q => by
  unfold dMin2 at h
  split at h
  · rename_i i j
    obtain ⟨v, w, rfl, r, r'⟩ := rv.two
    obtain rfl := r.int
    obtain rfl := r'.int
    refine ⟨i, j, rfl, ?_⟩
    have e : (if j < i then j else i) = min i j := by split <;> omega
    rw [e]
    exact q _ _ h fun B => .int _
  · exact h.elim
theorem sc_int : SdC A m m1 sh1 (fun xs H Q => (∃ i, xs = [.int i] ∧ Q (.int i) H) ∨ ∃ k, xs = [.bl k] ∧ Q (.int (if k then 1 else 0)) H) dInt := sdc_same fun ds vs H Φ Q W s σ ρ rv h q => by
  unfold dInt at h
  split at h
  · obtain ⟨v, rfl, r⟩ := rv.one
    obtain rfl := r.int
    exact .inl ⟨_, rfl, q _ _ h fun B => .int _⟩
  · obtain ⟨v, rfl, r⟩ := rv.one
    obtain rfl := r.bl
    exact .inr ⟨_, rfl, q _ _ h fun B => .int _⟩
  · exact h.elim
theorem sc_str : SdC A m m1 sh1 (fun xs H Q => ∃ i, xs = [.int i] ∧ i.natAbs.log2 < 1920 ∧ Q (.str (toString i)) H) dStr := sdc_same fun ds vs H Φ Q W s σ ρ rv h q => by
  unfold dStr at h
  split at h
  · obtain ⟨v, rfl, r⟩ := rv.one
    obtain rfl := r.int
    exact ⟨_, rfl, h.1, q _ _ h.2 fun B => .str _⟩
  · exact h.elim
theorem sc_all : SdC A m m1 sh1 (rAll K) dAll := sdc_same fun ds vs H Φ Q W s σ ρ rv h q => by
  obtain ⟨bs, rfl, h⟩ := h
  obtain ⟨v, rfl, r⟩ := rv.one
  obtain ⟨a, xs, rfl, h1, h2, _⟩ := r.lst
  obtain rfl := h2.bls
  exact ⟨a, bs, rfl, .of h1, q _ _ h fun B => .bl _⟩
theorem sc_any : SdC A m m1 sh1 (rAny K) dAny := sdc_same fun ds vs H Φ Q W s σ ρ rv h q => by
  obtain ⟨bs, rfl, h⟩ := h
  obtain ⟨v, rfl, r⟩ := rv.one
  obtain ⟨a, xs, rfl, h1, h2, _⟩ := r.lst
  obtain rfl := h2.bls
  exact ⟨a, bs, rfl, .of h1, q _ _ h fun B => .bl _⟩
theorem sc_sum : SdC A m m1 sh1 (rSum K) dSum := sdc_same fun ds vs H Φ Q W s σ ρ rv h q => by
  obtain ⟨bs, rfl, h⟩ := h
  obtain ⟨v, rfl, r⟩ := rv.one
  obtain ⟨a, xs, rfl, h1, h2, _⟩ := r.lst
  obtain rfl := h2.ints
  exact ⟨a, bs, rfl, .of h1, q _ _ h fun B => .int _⟩
theorem sc_maxL : SdC A m m1 sh1 (rMax K) dMaxL := sdc_same fun ds vs H Φ Q W s σ ρ rv h q => by
  obtain ⟨bs, rfl, hl, h⟩ := h
  obtain ⟨v, rfl, r⟩ := rv.one
  obtain ⟨a, xs, rfl, h1, h2, _⟩ := r.lst
  obtain rfl := h2.ints
  exact ⟨a, bs, rfl, .of h1, hl, fun m hm hy => q _ _ (h m hm hy) fun B => .int _⟩
theorem sc_minL : SdC A m m1 sh1 (rMin K) dMinL := sdc_same fun ds vs H Φ Q W s σ ρ rv h q => by
  obtain ⟨bs, rfl, hl, h⟩ := h
  obtain ⟨v, rfl, r⟩ := rv.one
  obtain ⟨a, xs, rfl, h1, h2, _⟩ := r.lst
  obtain rfl := h2.ints
  exact ⟨a, bs, rfl, .of h1, hl, fun m hm hy => q _ _ (h m hm hy) fun B => .int _⟩
theorem sc_sorted : SdC A m m1 sh1 (rSortedI K) dSorted := fun W s0 H0 s σ H ρ ds vs Φ Q R rv h q => by
  obtain ⟨ns, rfl, h⟩ := h
  obtain ⟨v, rfl, r⟩ := rv.one
  obtain ⟨a, xs, rfl, h1, h2, _⟩ := r.lst
  obtain rfl := h2.ints
  exact ⟨a, ns, rfl, .of h1, fun ns' p hp hs hn => q _ _ _ (h ns' hp hs) (R.alloc hn _) (Stp.fresh hn) (RV.newL R hn (RsL.ofInts _))⟩
theorem sc_list : SdC A m m sh1 (fun xs H Q => ∃ p ys, xs = [.ref p] ∧ (SqL K H p ys ∨ SqT K H p ys) ∧ ∀ l, H l = none → Q (.ref l) (upd H l (.lst ys))) dList := fun W s0 H0 s σ H ρ ds vs Φ Q R rv h q => by
  unfold dList at h
  split at h
  · obtain ⟨v, rfl, r⟩ := rv.one
    obtain ⟨a, xs, rfl, h1, h2, _⟩ := r.lst
    exact ⟨a, xs, rfl, .inl (.of h1), fun p hn => q _ _ _ h (R.alloc hn _) (Stp.fresh hn) (RV.newL R hn h2)⟩
  · obtain ⟨v, rfl, r⟩ := rv.one
    obtain ⟨a, xs, rfl, h1, h2⟩ := r.tup
    exact ⟨a, xs, rfl, .inr (.of h1), fun p hn => q _ _ _ h (R.alloc hn _) (Stp.fresh hn) (RV.newL R hn h2)⟩
  · exact h.elim
theorem sc_tuple : SdC A m m sh1 (fun xs H Q => ∃ p ys, xs = [.ref p] ∧ ((SqL K H p ys ∧ ∀ l, H l = none → Q (.ref l) (upd H l (.tup ys))) ∨ (SqT K H p ys ∧ Q (.ref p) H))) dTuple := fun W s0 H0 s σ H ρ ds vs Φ Q R rv h q => by
  unfold dTuple at h
  split at h
  · obtain ⟨v, rfl, r⟩ := rv.one
    obtain ⟨a, xs, rfl, h1, h2, _⟩ := r.lst
    exact ⟨a, xs, rfl, .inl ⟨.of h1, fun p hn => q _ _ _ h (R.alloc hn _) (Stp.fresh hn) (RV.newT R hn h2)⟩⟩
  · obtain ⟨v, rfl, r⟩ := rv.one
    have r0 := r.rsT
    obtain ⟨a, xs, rfl, h1, h2⟩ := r.tup
    exact ⟨a, xs, rfl, .inr ⟨.of h1, q _ _ H h R Stp.refl (.inl r0)⟩⟩
  · exact h.elim
end
end Pd

set_option maxHeartbeats 4000000
namespace Pd
open PySem PySem.Spec PyProof.Rows L2
/-! ### a def's promise, nothing under way that is shown -/
structure FnG (P : Program) (w : World) (K : Fg) (mg : Str → Option Value) (base : Heap) (CX : CXT) (k : Nat) (f : Addr) (fd : FuncData) (ps : List Str) (sp : Sp) : Prop where
  len : ∀ vs H Q E, sp vs H Q E → vs.length = ps.length
  run : ∀ (Ar : Around) (out : List Env) (s : Shared) (H : Hp) (ag : Args) (us : List Value) (vs : List V) (Q : VK) (E : XK), Ar.guards = some [] → Room k Ar → Env0 P w K mg base Ar out s H →
    BindsTo s fd ag (ps.zip us) → Vals vs us → sp vs H Q E → codeAny (model P w) Ar (.call (.ref f) ag) (CR CX out P w H s Q E) s
section
variable {P : Program} {w : World} {K : Fg} {mg : Str → Option Value} {base : Heap} {CX : CXT} {k : Nat}
theorem gn_of {x qual : Str} {st : Stmt} {f : Addr} {fd : FuncData} {N ps : List Str} {sp : Sp} (F : Fun K x qual st f fd) (S : FnScope N ps (defScope st)) (len : ∀ vs H Q E, sp vs H Q E → vs.length = ps.length)
    (hb : ∀ (cdv : Value) (Ar : Around) (out : List Env) (s : Shared) (H : Hp) (vs : List V) (Q : VK) (E : XK), (Ar.deeper (envOfC qual (defScope st) s.heap.objs.size f cdv)).guards = some [] → Room k (Ar.deeper (envOfC qual (defScope st) s.heap.objs.size f cdv)) → sp vs H Q E →
      ∃ t, PSs (cxOf CX P w K mg base N qual (defScope st) f cdv Ar out s H E) (defBody st) t ∧ t { nx := fun _ H' => Q .non H', rt := Q } (start N vs) H) : FnG P w K mg base CX (k + 1) f fd ps sp := by
  obtain ⟨oc, od, kV, doc, pm, an, cdv, ct, osl, rfl, lk, hcd⟩ := F.ex
  constructor
  · exact len
  · intro Ar out s H ag us vs Q E hgd hr e0 hbt rv hsp
    have hvl := len _ _ _ _ hsp
    have KX : K.In s.heap := e0.mod.kin.keeps fun b o e => (e0.bs b o e).1
    have nol : s.heap.NoLimit := e0.mod.nolimit.keeps fun b o e => (e0.bs b o e).1
    refine codeAny_call_function hr.depth (KX _ _ lk) rfl S.co S.gen rfl (PySem.W.codeRec_of KX hcd) (hbt _ _ _ _ ?_)
    refine wpAny_newFunctionEnv_cells S.kind (fun y hy => ?_) fun env he s1 inC => ?_
    · rcases S.par y.1 (List.of_mem_zip (show (y.1, y.2) ∈ ps.zip us from hy)).1 with q | q
      · exact Or.inl q
      · exact Or.inr ⟨q, PySem.W.cellsFrom_some _ _ _ (.inl q)⟩
    · subst he
      refine ⟨nol.keeps inC.toInCall.keep, codeAny_func ?_⟩
      obtain ⟨t, ht, hq⟩ := hb cdv Ar out s H vs Q E hgd (hr.deeper _) hsp
      have J := inv_start (CX := CX) (E := E) S hr.hd e0 hvl rv inC
      refine wpAny_mono (ht.run [] s1 (start N vs) H _ J hq) (fun fl s' hs => ?_) fun _ _ z => z
      cases fl with
      | ret u =>
        obtain ⟨v, σ', H', J2, r2, q2⟩ := hs
        exact ⟨v, H', J2.os, J2.bare, J2.base, J2.hok, r2, q2⟩
      | next =>
        obtain ⟨σ', H', J2, q2⟩ := hs
        exact ⟨.non, H', J2.os, J2.bare, J2.base, J2.hok, rfl, q2⟩
      | brk =>
        obtain ⟨_, _, _, q2⟩ := hs
        exact q2.elim
      | cont =>
        obtain ⟨_, _, _, q2⟩ := hs
        exact q2.elim
end
section
variable {X : Cx} {CX : CXT} {k : Nat} {f : Addr} {fd : FuncData} {ps : List Str} {sp : Sp} {dvs : List V} {ds : List Value} {E : XK} {x : Str} {p pos : Pos} {e : Expr} {es : List Expr} {t : TA}
theorem run_gn {pins : List (Addr × Obj)} {σ : Sg} {H : Hp} {s : Shared} {Q : VK} {us : List Value} {vs : List V} (F : FnG X.prog X.w X.K X.mg X.base CX k f fd ps sp) (hgd : X.A.guards = some []) (hr : Room k X.A) (hb : Binds X.K fd ps ds) (hd : Vals dvs ds) (hx : Passes CX X E)
    (J : Inv X pins σ H s) (rv : Vals vs us) (h : sp (vs ++ dvs) H Q E) : wpAny (model X.prog X.w) X.A (call (.ref f) us) (EP X pins σ Q) X.xe s := by
  have rv2 : Vals (vs ++ dvs) (us ++ ds) := rv.append hd
  have hsz : (us ++ ds).length = ps.length := by rw [← rv2.length]; exact F.len _ _ _ _ h
  refine wpAny_call (codeAny_mono (F.run X.A X.stack s H ⟨us, []⟩ (us ++ ds) (vs ++ dvs) Q E hgd hr J.env0 (hb s us J.kIn hsz) rv2 h) fun res s' hq => ?_)
  match res, hq with
  | .error er, hq => exact hx pins σ H s er s' J hq
  | .ok (.ret u), hq => exact J.after hq
  | .ok .next, hq => exact hq.elim
  | .ok .brk, hq => exact hq.elim
  | .ok .cont, hq => exact hq.elim
theorem pe_gn (F : FnG X.prog X.w X.K X.mg X.base CX k f fd ps sp) (hgd : X.A.guards = some []) (hr : Room k X.A) (hg : Gl X x) (hm : X.mg x = some (.ref f)) (hk : PySem.W.keepIn X.K (.ref f) = true) (hb : Binds X.K fd ps ds) (hd : Vals dvs ds) (hx : Passes CX X E)
    (ha : PA X (e :: es) t) (hdb : (x == ("__debug__" : Str)) = false := by decide) (he : starEach (e :: es) X.env = (false, eval e X.env) :: starEach es X.env := by rfl) (hpl : (backTo pos (starEach es X.env)).any (·.1) = false := by rfl) :
    PE X (.Call (.Name x p) (e :: es) [] pos) (tCall sp dvs E t) := by
  constructor
  intro pins s σ H Q J h
  apply wpAny_Call_Name_kw
  apply ld_glob J hg hm _ hdb
  exact PySem.W.callWith_K (h₀ := X.base) J.ok.mod.kin hk (thn (ha.run pos pins s σ H _ J h) fun us s1 ⟨vs, H1, J1, rv, q⟩ => ⟨J1.kIn, run_gn F hgd hr hb hd hx J1 rv q⟩) he hpl
end
/-! ### a def over trees -/
abbrev Pg (S : Type) := List D → S → (Ret → S → Prop) → Prop
def spOf (A : Amb) (np : Nat) (g : Pg A) : Sp := fun vs H Q _ => ∃ (W : Ad) (s : A.S) (ds : List D) (Ψ : Ret → A.S → Prop), (∀ a, W a → H a ≠ none) ∧ A.I s (fun a => W a ∨ A.B s a) H ∧ RsL (fun a => W a ∨ A.B s a) H ds vs ∧ ds.length = np ∧ g ds s Ψ ∧
  ∀ r s' v H', Ψ r s' → A.I s' (fun a => W a ∨ A.B s' a) H' → Stp A s s' H H' → (∀ a, W a → H' a ≠ none) → RetOk A ⟨W, []⟩ s H s' H' v r → Q v H'
def startR (N : List Str) (ds : List D) : List Sl := ds.map Sl.v ++ List.replicate (N.length - ds.length) Sl.e
theorem start_er {A : Amb} {N : List Str} {W : Ad} {s : A.S} {H : Hp} {ds : List D} {vs : List V} (hN : vs.length ≤ N.length) (w : ∀ a, W a → H a ≠ none) (i : A.I s (fun a => W a ∨ A.B s a) H) (r : RsL (fun a => W a ∨ A.B s a) H ds vs) (hw0 : ∀ a, A.w0 a → W a) (hg0 : A.g0 = []) (hlk : A.Lk s H) : ER A ⟨W, []⟩ s H s (start N vs) H (startR N ds) := by
  have hl := r.length
  have noOwn : ∀ (j : Nat) (m : Mo), (startR N ds)[j]? ≠ some (.o m) := fun j m z => by
    unfold startR at z
    rw [List.getElem?_append] at z
    split at z
    · rw [List.getElem?_map] at z
      cases q : ds[j]? with
      | none => rw [q] at z; cases z
      | some d => rw [q] at z; cases z
    · rw [List.getElem?_replicate] at z
      split at z <;> cases z
  have om_eq : ∀ a, om true A ⟨W, []⟩ s (start N vs) (startR N ds) a → W a ∨ A.B s a := fun a z => by
    rcases z with z | z | ⟨_, j, m, e, _⟩
    · exact .inl z
    · exact .inr z
    · exact (noOwn j m e).elim
  refine ⟨Amb.sub i om_eq, Stp.refl, w, ?_, fun j d e => ?_, fun j m e => (noOwn j m e).elim, (fun p hp => by cases hp), fun j k m m' e => (noOwn j m e).elim, hw0, (fun p hp => by rw [hg0] at hp; cases hp), hlk⟩
  · unfold L2.start startR
    simp only [List.length_append, List.length_map, List.length_replicate, hl]
  · have e' : ds[j]? = some d := by
      unfold startR at e
      rw [List.getElem?_append] at e
      split at e
      · rw [List.getElem?_map] at e
        cases q : ds[j]? with
        | none => rw [q] at e; cases e
        | some d => rw [q] at e; cases e; rfl
      · rw [List.getElem?_replicate] at e
        split at e <;> cases e
    obtain ⟨v, h1, h2⟩ := r.get e'
    refine ⟨v, ?_, h2.weak om_eq⟩
    unfold L2.start
    rw [List.getElem?_append, if_pos (by rw [List.length_map]; exact (List.getElem?_eq_some_iff.mp h1).1), List.getElem?_map, h1]
    rfl
/-- a def that can be called: its name, its promise -/
structure Cal (P : Program) (w : World) (K : Fg) (mg : Str → Option Value) (base : Heap) (A : Amb) (k : Nat) (x : Str) (np : Nat) (g : Pg A) : Prop where
  ex : ∃ (f : Addr) (fd : FuncData) (ps : List Str), FnG P w K mg base CX0 k f fd ps (spOf A np g) ∧ mg x = some (.ref f) ∧ PySem.W.keepIn K (.ref f) = true ∧ Binds K fd ps []
/-- what the top says of a def -/
structure Dfn (K : Fg) (mg : Str → Option Value) (x : Str) (st : Stmt) (ps : List Str) : Prop where
  ex : ∃ (f : Addr) (fd : FuncData), Fun K x x st f fd ∧ mg x = some (.ref f) ∧ Binds K fd ps []
section
variable {P : Program} {w : World} {K : Fg} {mg : Str → Option Value} {base : Heap} {k : Nat} {A : Amb}
theorem cal_of {x : Str} {st : Stmt} {N ps : List Str} {np : Nat} {g : Pg A} {ff : FS A} (F : Dfn K mg x st ps) (S : FnScope N ps (defScope st)) (hnp : ps.length = np) (hN : np ≤ N.length)
    (hb : ∀ (f : Addr) (cdv : Value) (Ar : Around) (out : List Env) (s : Shared) (H : Hp) (E : XK), (Ar.deeper (envOfC x (defScope st) s.heap.objs.size f cdv)).guards = some [] → Room k (Ar.deeper (envOfC x (defScope st) s.heap.objs.size f cdv)) →
      ∃ t, QSs (cxOf CX0 P w K mg base N x (defScope st) f cdv Ar out s H E).nox A (defBody st) t ff)
    (hp : ∀ (ds : List D) (s : A.S) (Ψ : Ret → A.S → Prop), ds.length = np → g ds s Ψ → ff { nx := fun _ s => Ψ (.d .non) s, rt := Ψ } (startR N ds) s) (pl : A.Plain := by exact ⟨fun _ h => h, rfl, fun _ _ => trivial⟩) : Cal P w K mg base A (k + 1) x np g := by
  obtain ⟨f, fd, F, hm, bi⟩ := F.ex
  refine ⟨f, fd, ps, gn_of F S (fun vs H Q E h => ?_) (fun cdv Ar out s H vs Q E hgd hr h => ?_), hm, F.kp, bi⟩
  · obtain ⟨W, s, ds, Ψ, _, _, r, e, _⟩ := h
    rw [r.length, e, hnp]
  · obtain ⟨W, sa, ds, Ψ, hw, hi, r, e, hg, q⟩ := h
    obtain ⟨t, hq⟩ := hb f cdv Ar out s H E hgd hr
    refine ⟨t, hq.ps.nox, hq.sd ⟨W, []⟩ sa H sa _ H _ _ _ (start_er (by rw [r.length, e]; exact hN) hw hi r (fun a z => (pl.w0 a z).elim) pl.g0 (pl.lk _ _)) (hp ds sa Ψ e hg) (fun ρ' s' σ' H' h R => ?_) (fun _ _ _ _ h => h.elim) (fun _ _ _ _ h => h.elim) fun rr s' v H' h1 h2 h3 h4 h5 => q rr s' v H' h1 h2 h3 h4 h5⟩
    exact q _ s' .non H' h (Amb.sub R.amb (om_low (W := ⟨W, []⟩))) R.stp R.wd .non
end
/-! ### calls of defs over trees -/
structure Sp {S : Type} (g : Pg S) (ds : List D) (s : S) (Ψ : Ret → S → Prop) : Prop where
  go : g ds s Ψ
def fCall {S : Type} (g : Pg S) (fa : FA S) : FE S := fun ρ s Φ => fa ρ s fun ds s1 => Sp g ds s1 fun r s2 => match r with
  | .d d => Φ d s2
  | .o (.lst l) => Φ (.lst l) s2
  | .o (.dk ks vs) => Φ (.dct ks vs) s2
  | .o (.dt ks vs) => Φ (.dtt ks vs) s2
def fCallO {S : Type} (g : Pg S) (fa : FA S) : FO S := fun ρ s Φ => fa ρ s fun ds s1 => Sp g ds s1 fun r s2 => match r with
  | .o m => Φ m s2
  | .d _ => False
theorem ER.goAdd {A : Amb} {W : Ot} {s0 s s' : A.S} {H0 H H' : Hp} {σ : Sg} {ρ : List Sl} {p : Addr} (R : ER A W s0 H0 s σ H ρ) (h : Stp A s s' H H') (i : A.I s' (om true A (W.add p) s' σ ρ) H') (hp : H p = none) (hp' : H' p ≠ none) : ER A (W.add p) s0 H0 s' σ H' ρ := by
  have hB : ∀ a, om true A (W.add p) s' σ ρ a → om true A W s σ ρ a ∨ H a = none := fun a z => by
    rcases z with (z | z) | z | z
    · exact .inl (.inl z)
    · subst z; exact .inr hp
    · exact (h.new a z).imp (fun y => .inr (.inl y)) id
    · exact .inl (.inr (.inr z))
  have hA : Agr (om true A W s σ ρ) H H' := om_agr true h
  refine ⟨i, R.stp.trans h, fun a w => ?_, R.len, fun j d e => ?_, fun j m e => ?_, fun q hq => (R.gh q hq).go hB hA, R.uniq, fun a z => .inl (R.w0 a z), R.g0, R.lk⟩
  · rcases w with w | rfl
    · exact h.dom a (R.wd a w)
    · exact hp'
  · obtain ⟨v, h1, h2⟩ := R.vals j d e
    exact ⟨v, h1, h2.go hB hA⟩
  · obtain ⟨a, h1, h2, h3, h4, h5⟩ := R.own j m e
    obtain ⟨k1, k2⟩ := keep_at h h2.some h5
    exact ⟨a, h1, h2.go hB hA k1, h3, fun z => z.elim h4 fun e => by subst e; exact h2.some hp, k2⟩
section
variable {A : Amb} {m sh : Bool} {np : Nat} {g : Pg A} {ta : TA} {fa : FA A}
theorem reg_in {W : Ot} {s : A.S} {H : Hp} {σ : Sg} {ρ : List Sl} (i : A.I s (om true A W s σ ρ) H) : A.I s (fun a => (W.w a ∨ (m = true ∧ ownS σ ρ a)) ∨ A.B s a) H := Amb.sub i fun a z => by
  rcases z with (z | z) | z
  · exact .inl z
  · exact .inr (.inr ⟨rfl, z.2⟩)
  · exact .inr (.inl z)
theorem reg_out {W : Ot} {s : A.S} {H : Hp} {σ : Sg} {ρ : List Sl} (hc : m = true ∨ ∀ s, A.cl s) (i : A.I s (fun a => (W.w a ∨ (m = true ∧ ownS σ ρ a)) ∨ A.B s a) H) : A.I s (om true A W s σ ρ) H := by
  rcases hc with hc | hc
  · exact Amb.sub i fun a z => by
      rcases z with z | z | z
      · exact .inl (.inl z)
      · exact .inr z
      · exact .inl (.inr ⟨hc, z.2⟩)
  · exact A.cln (hc s) i
theorem reg_in1 {W : Ot} {s : A.S} {H : Hp} {σ : Sg} {ρ : List Sl} (i : A.I s (om true A W s σ ρ) H) : A.I s (fun a => (W.w a ∨ ownS σ ρ a) ∨ A.B s a) H := Amb.sub i fun a z => by
  rcases z with (z | z) | z
  · exact .inl z
  · exact .inr (.inr ⟨rfl, z⟩)
  · exact .inr (.inl z)
theorem reg_out1 {W : Ot} {s : A.S} {H : Hp} {σ : Sg} {ρ : List Sl} (i : A.I s (fun a => (W.w a ∨ ownS σ ρ a) ∨ A.B s a) H) : A.I s (om true A W s σ ρ) H := Amb.sub i fun a z => by
  rcases z with z | z | z
  · exact .inl (.inl z)
  · exact .inr z
  · exact .inl (.inr z.2)
theorem reg_add {W : Ot} {s : A.S} {H : Hp} {σ : Sg} {ρ : List Sl} {p : Addr} (i : A.I s (fun a => ((W.w a ∨ ownS σ ρ a) ∨ a = p) ∨ A.B s a) H) : A.I s (om true A (W.add p) s σ ρ) H := Amb.sub i fun a z => by
  rcases z with (z | z) | z | z
  · exact .inl (.inl (.inl z))
  · exact .inl (.inr z)
  · exact .inr z
  · exact .inl (.inl (.inr z.2))
theorem sd_call (h : SdL A m false np ta fa) (hc : m = true ∨ ∀ s, A.cl s := by first | exact .inl rfl | exact .inr fun _ => trivial) : SdE A m sh (tCall (spOf A np g) [] E0 ta) (fCall g fa) := fun W s0 H0 s σ H ρ Φ Q R hp q =>
  h W s0 H0 s σ H ρ _ _ R hp fun ds s1 vs H1 hg R1 st1 r1 hl => by
    have wc : ∀ a, (W.w a ∨ (m = true ∧ ownS σ ρ a)) → H1 a ≠ none := fun a z => by
      rcases z with z | ⟨_, i, mo, e1, e2⟩
      · exact R1.wd a z
      · obtain ⟨b, k1, k2, _⟩ := R1.own i mo e1
        rw [k1] at e2
        cases e2
        exact k2.some
    have r1' : RsL (fun a => (W.w a ∨ (m = true ∧ ownS σ ρ a)) ∨ A.B s1 a) H1 ds (vs ++ []) := by
      rw [List.append_nil]
      refine r1.rs.weak fun a z => ?_
      rcases z with (z | z) | z
      · exact .inl z
      · exact .inr (.inr z)
      · exact .inr (.inl z)
    refine ⟨fun a => W.w a ∨ (m = true ∧ ownS σ ρ a), s1, ds, _, wc, reg_in R1.amb, r1', hl, hg.go, fun r s2 v H2 hr i2 st2 _ rk => ?_⟩
    · have R2 := R1.go st2 (reg_out hc i2)
      have ow : ∀ a, om m A W s2 σ ρ a → (W.w a ∨ (m = true ∧ ownS σ ρ a)) ∨ A.B s2 a := fun a z => by
        rcases z with z | z | z
        · exact .inl (.inl z)
        · exact .inr z
        · exact .inl (.inr z)
      cases r with
      | d d => exact q d s2 v H2 hr R2 (st1.trans st2) (.inl (Rs.weak rk ow))
      | o mo =>
        obtain ⟨p, rfl, k1, k2, k3, k4, _⟩ := rk
        have np : ¬ om m A W s2 σ ρ p := fun z => (ow p z).elim k2 k3
        have ow2 : ∀ a, om m A W s2 σ ρ a → ((W.w a ∨ (m = true ∧ ownS σ ρ a)) ∨ a = p) ∨ A.B s2 a := fun a z => (ow a z).imp .inl id
        cases mo with
        | lst l => obtain ⟨xs, g1, g2⟩ := k4; exact q _ s2 _ H2 hr R2 (st1.trans st2) (.inl (.lst g1 np (g2.weak ow2)))
        | dk ks vs => obtain ⟨kvs, g1, g3, g2⟩ := k4; exact q _ s2 _ H2 hr R2 (st1.trans st2) (.inl (.dct g1 np g3 (g2.weak ow2)))
        | dt ks vs => obtain ⟨kvs, g1, g3, g2⟩ := k4; exact q _ s2 _ H2 hr R2 (st1.trans st2) (.inl (.dtt g1 np g3 (g2.weak ow2)))
theorem so_call (h : SdL A true false np ta fa) : SdO A (tCall (spOf A np g) [] E0 ta) (fCallO g fa) := fun W s0 H0 s σ H ρ Φ Q R hp q =>
  h W s0 H0 s σ H ρ _ _ R hp fun ds s1 vs H1 hg R1 st1 r1 hl => by
    have wc : ∀ a, (W.w a ∨ ownS σ ρ a) → H1 a ≠ none := fun a z => by
      rcases z with z | ⟨i, mo, e1, e2⟩
      · exact R1.wd a z
      · obtain ⟨b, k1, k2, _⟩ := R1.own i mo e1
        rw [k1] at e2
        cases e2
        exact k2.some
    have r1' : RsL (fun a => (W.w a ∨ ownS σ ρ a) ∨ A.B s1 a) H1 ds (vs ++ []) := by
      rw [List.append_nil]
      refine r1.rs.weak fun a z => ?_
      rcases z with (z | z) | z
      · exact .inl z
      · exact .inr (.inr ⟨rfl, z⟩)
      · exact .inr (.inl z)
    refine ⟨fun a => W.w a ∨ ownS σ ρ a, s1, ds, _, wc, reg_in1 R1.amb, r1', hl, hg.go, fun r s2 v H2 hr i2 st2 _ rk => ?_⟩
    · cases r with
      | d d => exact hr.elim
      | o mo =>
        obtain ⟨p, rfl, k1, k2, k3, k4, k5⟩ := rk
        refine q mo s2 p H2 hr (R1.goAdd st2 (reg_add k5) k1 k4.some) (st1.trans st2) ?_ (k4.go (fun a z => .inl ?_) Agr.refl rfl) (fun z => k2 (.inl z)) k3
        · cases e : H p with
          | none => rfl
          | some o => exact (st1.dom p (by rw [e]; simp) k1).elim
        · rcases z with (z | z) | z | ⟨_, z⟩
          · exact .inl (.inl (.inl z))
          · exact .inl (.inr z)
          · exact .inr z
          · exact .inl (.inl (.inr z))
end
/-! ### isinstance, built-in classes -/
inductive BT where
  | int | bool | str | tuple | list | dict
def BT.nm : BT → String
  | .int => "int"
  | .bool => "bool"
  | .str => "str"
  | .tuple => "tuple"
  | .list => "list"
  | .dict => "dict"
def isB : BT → D → Bool
  | .int, .int _ => true
  | .int, .bl _ => true
  | .bool, .bl _ => true
  | .str, .str _ => true
  | .tuple, .tup _ => true
  | .list, .lst _ => true
  | .dict, .dct _ _ => true
  | .dict, .dtt _ _ => true
  | _, _ => false
def tyN : D → String
  | .non => "NoneType"
  | .bl _ => "bool"
  | .int _ => "int"
  | .str _ => "str"
  | .tup _ => "tuple"
  | .lst _ => "list"
  | .dct _ _ => "dict"
  | .dtt _ _ => "dict"
  | .xdt _ _ => ""
  | .any _ => ""
def D.known : D → Prop
  | .any _ => False
  | .xdt _ _ => False
  | _ => True
theorem isB_kit {K : Fg} {b : BT} {d : D} (h : d.known) : PySem.W.kitOne K (.type (tyN d)) (.type b.nm) = some (isB b d) := by
  cases d with
  | any => exact h.elim
  | xdt => exact h.elim
  | _ => cases b <;> exact kit_ty (by simp only [tyN, BT.nm, isB]; decide +kernel)
theorem Rs.tyOf {K : Fg} {B : Ad} {H : Hp} {d : D} {v : V} (r : Rs B H d v) (h : d.known) : TyX K H v (.type (tyN d)) := by
  cases r with
  | non => exact .base .non
  | bl b => exact .base (.bl b)
  | int b => exact .base (.int b)
  | str b => exact .base (.str b)
  | any => exact h.elim
  | tup e _ _ => exact .base (.tup e)
  | lst e _ _ => exact .base (.lst e)
  | dct e _ _ _ => exact .base (.dK e)
  | dtt e _ _ _ => exact .base (.dT e)
  | xdt => exact h.elim
def fIsi {S : Type} (b : BT) (f : FE S) : FE S := fun ρ s Φ => f ρ s fun d s1 => d.known ∧ Φ (.bl (isB b d)) s1
theorem sd_isi {A : Amb} {m sh : Bool} {K : Fg} {b : BT} {ta : TE} {fa : FE A} (h : SdE A false true ta fa) : SdE A m sh (tCB (rIsi K) (tCons ta (tCons (tC (.ty b.nm)) tNil))) (fIsi b fa) := fun W s0 H0 s σ H ρ Φ Q R hp q =>
  h W s0 H0 s σ H ρ _ _ R hp fun d s1 v H1 hd R1 st1 r1 => ⟨v, .ty b.nm, .type (tyN d), .type b.nm, isB b d, rfl, .ty _, r1.low.tyOf hd.1, isB_kit hd.1, q _ s1 _ H1 hd.2 R1 st1 (.inl (.bl _))⟩
/-! ### list(range(..)) -/
abbrev FR (S : Type) := List Sl → S → (Int → Int → S → Prop) → Prop
abbrev TR := Sg → Hp → (Int → Int → Hp → Prop) → Prop
def SdRg (A : Amb) (t : TR) (f : FR A) : Prop := ∀ W s0 H0 s σ H ρ Φ Q, ER A W s0 H0 s σ H ρ → f ρ s Φ → (∀ a b s' H', Φ a b s' → ER A W s0 H0 s' σ H' ρ → Stp A s s' H H' → Q a b H') → t σ H Q
def fR1 {S : Type} (f : FE S) : FR S := fun ρ s Φ => f ρ s fun d s1 => match d with
  | .int n => Φ 0 n s1
  | _ => False
def fR2 {S : Type} (f g : FE S) : FR S := fun ρ s Φ => f ρ s fun d s1 => g ρ s1 fun e s2 => match d, e with
  | .int i, .int j => Φ i j s2
  | _, _ => False
def fLstRg {S : Type} (f : FR S) : FE S := fun ρ s Φ => f ρ s fun a b s1 => RgOk a b ∧ Φ (.lst (rangeD a (b - a).toNat)) s1
def fTupRg {S : Type} (f : FR S) : FE S := fun ρ s Φ => f ρ s fun a b s1 => RgOk a b ∧ Φ (.tup (rangeD a (b - a).toNat)) s1
theorem rgV_rs {B : Ad} {H : Hp} {a b : Int} : RsL B H (rangeD a (b - a).toNat) (rgV a b) := by
  unfold rangeD rgV
  generalize List.range (b - a).toNat = l
  induction l with
  | nil => exact .nil
  | cons x l ih => exact .cons (.int _) ih
section
variable {A : Amb} {m sh m1 sh1 m2 sh2 : Bool} {ta tb : TE} {fa fb : FE A} {t : TR} {f : FR A}
theorem sr_1 (h : SdE A m1 sh1 ta fa) : SdRg A (tRg1 ta) (fR1 fa) := fun W s0 H0 s σ H ρ Φ Q R hp q => h W s0 H0 s σ H ρ _ _ R hp fun d s1 v H1 hd R1 st1 r1 => by
  cases d with
  | int n => obtain rfl := r1.int; exact ⟨n, rfl, q 0 n s1 H1 hd R1 st1⟩
  | _ => exact hd.elim
theorem sr_2 (h : SdE A m1 sh1 ta fa) (h2 : SdE A m2 sh2 tb fb) : SdRg A (tRg2 ta tb) (fR2 fa fb) := fun W s0 H0 s σ H ρ Φ Q R hp q => h W s0 H0 s σ H ρ _ _ R hp fun d s1 v H1 hd R1 st1 r1 => h2 W s0 H0 s1 σ H1 ρ _ _ R1 hd fun e s2 w H2 he R2 st2 r2 => by
  cases d with
  | int i =>
    cases e with
    | int j =>
      obtain rfl := r1.int
      obtain rfl := r2.int
      exact ⟨i, j, rfl, rfl, q i j s2 H2 he R2 (st1.trans st2)⟩
    | _ => exact he.elim
  | _ => exact he.elim
theorem sd_lstRg (h : SdRg A t f) : SdE A m sh (tLstRg t) (fLstRg f) := fun W s0 H0 s σ H ρ Φ Q R hp q => h W s0 H0 s σ H ρ _ _ R hp fun a b s1 H1 hd R1 st1 =>
  ⟨hd.1, fun p hn => q _ s1 _ _ hd.2 (R1.alloc hn _) (st1.trans (Stp.fresh hn)) (RV.newL R1 hn rgV_rs)⟩
theorem sd_tupRg (h : SdRg A t f) : SdE A m sh (tTupRg t) (fTupRg f) := fun W s0 H0 s σ H ρ Φ Q R hp q => h W s0 H0 s σ H ρ _ _ R hp fun a b s1 H1 hd R1 st1 =>
  ⟨hd.1, fun p hn => q _ s1 _ _ hd.2 (R1.alloc hn _) (st1.trans (Stp.fresh hn)) (RV.newT R1 hn rgV_rs)⟩
end
end Pd

set_option maxHeartbeats 4000000
namespace Pd
open PySem PySem.Spec PyProof.Rows L2
theorem bt_len : bootBuiltins "len" = some (.builtin "len") := by decide +kernel
theorem bt_abs : bootBuiltins "abs" = some (.builtin "abs") := by decide +kernel
theorem bt_min : bootBuiltins "min" = some (.builtin "min") := by decide +kernel
theorem bt_max : bootBuiltins "max" = some (.builtin "max") := by decide +kernel
theorem bt_sum : bootBuiltins "sum" = some (.builtin "sum") := by decide +kernel
theorem bt_all : bootBuiltins "all" = some (.builtin "all") := by decide +kernel
theorem bt_any : bootBuiltins "any" = some (.builtin "any") := by decide +kernel
theorem bt_sorted : bootBuiltins "sorted" = some (.builtin "sorted") := by decide +kernel
theorem bt_isinstance : bootBuiltins "isinstance" = some (.builtin "isinstance") := by decide +kernel
theorem bt_int : bootBuiltins "int" = some (.type "int") := by decide +kernel
theorem bt_str : bootBuiltins "str" = some (.type "str") := by decide +kernel
theorem bt_list : bootBuiltins "list" = some (.type "list") := by decide +kernel
theorem bt_tuple : bootBuiltins "tuple" = some (.type "tuple") := by decide +kernel
theorem bt_bool : bootBuiltins "bool" = some (.type "bool") := by decide +kernel
theorem bt_dict : bootBuiltins "dict" = some (.type "dict") := by decide +kernel
structure QL (X : Cx) (A : Amb) (m sh : Bool) (n : Nat) (es : List Expr) (t : TA) (f : FA A) : Prop where
  pa : PA X es t
  sd : SdL A m sh n t f
structure QX (X : Cx) (A : Amb) (n : Nat) (es : List Expr) (t : TA) (f : FX A) : Prop where
  pa : PA X es t
  sd : SdX A n t f
structure QP (X : Cx) (A : Amb) (e : Option Expr) (t : TO) (f : FP A) : Prop where
  po : PO X e t
  sd : SdP A t f
structure QG (X : Cx) (A : Amb) (vs : List Nat) (e : Expr) (t : TG) (g : FG) : Prop where
  pg : PG X e t
  sd : SdG A vs t g
structure QGs (X : Cx) (A : Amb) (vs : List Nat) (es : List Expr) (t : TGs) (g : FGs) : Prop where
  pg : PGs X es t
  sd : SdGs A vs t g
structure QI (X : Cx) (A : Amb) (tg it : Expr) (w : TI) (f : FI A) : Prop where
  pi : PI X tg it w
  sd : SdI A w f
structure QTs (X : Cx) (A : Amb) (es : List Expr) (t : TT) (f : FT A) : Prop where
  pt : PTs X es t
  sd : SdT A t f
structure QW (X : Cx) (A : Amb) (e : Expr) (t : TT) (f : FT A) : Prop where
  pw : PW X e t
  sd : SdT A t f
/-- a comparison -/
structure CO (X : Cx) (A : Amb) (op : CmpOp) (r : R2) (d : D → D → (D → Prop) → Prop) : Prop where
  ho : OpR X (compareOp op) r
  hs : ∀ m, SdR A m false true false true r d
/-- an operator -/
structure BO (X : Cx) (A : Amb) (m : Bool) (op : Operator) (r : R2) (d : D → D → (D → Prop) → Prop) : Prop where
  ho : OpR X (binaryOp op) r
  hs : SdR A m m true m true r d
section
variable {X : Cx} {A : Amb} {m sh : Bool} {a b c e : Expr} {ta tb tc te : TE} {fa fb fc fe : FE A} {pos p p2 : Pos} {x : Str} {i j n : Nat}
/-! names, constants -/
theorem q_v (i : Nat) (hN : X.N[i]? = some x := by rfl) (hv : Vis X.env.scope x := by first | exact Or.inl rfl | exact Or.inr (Or.inl rfl) | exact Or.inr (Or.inr rfl)) (hd : (x == ("__debug__" : Str)) = false := by decide) (hcd : (x == ("__classdict__" : Str)) = false := by decide) :
    QE X A m sh (.Name x pos) (tVar i) (fV i) := ⟨pe_var hN hv hd hcd, sd_v i⟩
theorem q_w (i : Nat) (hN : X.N[i]? = some x := by rfl) (hv : Vis X.env.scope x := by first | exact Or.inl rfl | exact Or.inr (Or.inl rfl) | exact Or.inr (Or.inr rfl)) (hd : (x == ("__debug__" : Str)) = false := by decide) (hcd : (x == ("__classdict__" : Str)) = false := by decide) :
    QE X A m true (.Name x pos) (tVar i) (fW i) := ⟨pe_var hN hv hd hcd, sd_w i (.inl rfl)⟩
theorem q_u (i : Nat) (hN : X.N[i]? = some x := by rfl) (hv : Vis X.env.scope x := by first | exact Or.inl rfl | exact Or.inr (Or.inl rfl) | exact Or.inr (Or.inr rfl)) (hd : (x == ("__debug__" : Str)) = false := by decide) (hcd : (x == ("__classdict__" : Str)) = false := by decide) :
    QE X A false sh (.Name x pos) (tVar i) (fU i) := ⟨pe_var hN hv hd hcd, sd_u i⟩
theorem q_int {k : Int} {jj : Nat} : QE X A m sh (.Constant (.int k) jj pos) (tC (.int k)) (fC (.int k)) := ⟨pe_int, sd_c fun _ _ => .int k⟩
theorem q_bl {k : Bool} {jj : Nat} : QE X A m sh (.Constant (.bool k) jj pos) (tC (.bl k)) (fC (.bl k)) := ⟨pe_bl, sd_c fun _ _ => .bl k⟩
theorem q_non {jj : Nat} : QE X A m sh (.Constant .none jj pos) (tC .non) (fC .non) := ⟨pe_non, sd_c fun _ _ => .non⟩
theorem q_str {k : Str} {jj : Nat} : QE X A m sh (.Constant (.str k) jj pos) (tC (.str k)) (fC (.str k)) := ⟨pe_str, sd_c fun _ _ => .str k⟩
theorem q_gint {k : Int} (hm : ∃ t, X.mg x = some (.int k t)) (hg : Gl X x := by rfl) (hd : (x == ("__debug__" : Str)) = false := by decide) : QE X A m sh (.Name x pos) (tC (.int k)) (fC (.int k)) :=
  let ⟨t, h⟩ := hm; ⟨pe_glob hg h ⟨t, rfl⟩ hd, sd_c fun _ _ => .int k⟩
theorem q_gstr {k : Str} (hm : ∃ t, X.mg x = some (.str k t)) (hg : Gl X x := by rfl) (hd : (x == ("__debug__" : Str)) = false := by decide) : QE X A m sh (.Name x pos) (tC (.str k)) (fC (.str k)) :=
  let ⟨t, h⟩ := hm; ⟨pe_glob hg h ⟨t, rfl⟩ hd, sd_c fun _ _ => .str k⟩
theorem q_scal {m1 sh1 : Bool} (h : QE X A m1 sh1 a ta fa) : QE X A m sh a ta (fScal fa) := ⟨h.pe, sd_scal h.sd⟩
theorem q_ov {f : FO A} (h : QO X A a ta f) : QE X A m sh a ta (fOV f) := ⟨h.pe, sd_ov h.sd⟩
/-! operators -/
theorem bo_add : BO X A m .Add (rAddA X.K) dAdd := ⟨op_addA, sdr_add⟩
theorem bo_sub : BO X A m .Sub (rI0 fun i j => .int (i - j)) (dI0 fun i j => .int (i - j)) := ⟨op_sub, sdr_I0i⟩
theorem bo_mul : BO X A m .Mult rMulA dMul := ⟨op_mulA, sdr_mul⟩
theorem bo_div : BO X A m .FloorDiv (rI CDivW fun i j => .int (i / j)) (dI CDivW fun i j => .int (i / j)) := ⟨op_fdivW, sdr_Ii⟩
theorem bo_mod : BO X A m .Mod (rI (fun _ j => 0 < j) fun i j => .int (i % j)) (dI (fun _ j => 0 < j) fun i j => .int (i % j)) := ⟨op_mod, sdr_Ii⟩
theorem bo_pow : BO X A m .Pow (rI CPow fun i j => .int (i ^ j.toNat)) (dI CPow fun i j => .int (i ^ j.toNat)) := ⟨op_pow, sdr_Ii⟩
theorem q_bin {op : Operator} {r : R2} {d : D → D → (D → Prop) → Prop} (B : BO X A m op r d) (ha : QE X A m true a ta fa) (hb : QE X A m true b tb fb) : QE X A m sh (.BinOp a op b pos) (tOp r ta tb) (fBin d fa fb) := ⟨pe_op B.ho ha.pe hb.pe, sd_bin B.hs ha.sd hb.sd⟩
theorem q_neg (ha : QE X A false true a ta fa) : QE X A m sh (.UnaryOp .USub a pos) (tUn (rU fun i => .int (-i)) ta) (fUn dNeg fa) := ⟨pe_un un_neg ha.pe, sd_neg ha.sd⟩
/-! comparisons -/
theorem co_lt : CO X A .Lt (rI0 fun i j => .bl (decide (i < j))) (dI0 fun i j => .bl (decide (i < j))) := ⟨op_lt, fun _ => sdr_I0b⟩
theorem co_le : CO X A .LtE (rI0 fun i j => .bl (decide (i ≤ j))) (dI0 fun i j => .bl (decide (i ≤ j))) := ⟨op_le, fun _ => sdr_I0b⟩
theorem co_gt : CO X A .Gt (rI0 fun i j => .bl (decide (j < i))) (dI0 fun i j => .bl (decide (j < i))) := ⟨op_gt, fun _ => sdr_I0b⟩
theorem co_ge : CO X A .GtE (rI0 fun i j => .bl (decide (j ≤ i))) (dI0 fun i j => .bl (decide (j ≤ i))) := ⟨op_ge, fun _ => sdr_I0b⟩
theorem co_eq (hu : X.A.units + 64 < cLine) : CO X A .Eq (rEqA X.K) dEq := ⟨op_eqA hu, fun _ => sdr_eq⟩
theorem co_ne (hu : X.A.units + 64 < cLine) : CO X A .NotEq (rNeA X.K) dNe := ⟨op_neA hu, fun _ => sdr_ne⟩
theorem co_is : CO X A .Is (fun x y H Q => y = .non ∧ Q (.bl (decide (x = .non))) H) dIsN := ⟨op_isN, fun _ => sdr_isN⟩
theorem co_isn : CO X A .IsNot (fun x y H Q => y = .non ∧ Q (.bl (!decide (x = .non))) H) dNotN := ⟨op_notN, fun _ => sdr_notN⟩
theorem co_in : CO X A .In (rInA X.K) dIn := ⟨op_inA, fun _ => sdr_in⟩
theorem co_nin : CO X A .NotIn (rIn X.K true) dNotIn := ⟨op_notIn_seq, fun _ => sdr_notIn⟩
theorem q_cmp {op : CmpOp} {r : R2} {d : D → D → (D → Prop) → Prop} (B : CO X A op r d) (ha : QE X A false true a ta fa) (hb : QE X A false true b tb fb) (hm : behindInMarks op b = false := by first | exact nomark _ | rfl) : QE X A m sh (.Compare a [op] [b] pos) (tOp r ta tb) (fBin d fa fb) := ⟨pe_cmpR B.ho ha.pe hb.pe hm, sd_bin (B.hs m) ha.sd hb.sd⟩
theorem qt_cmp {op : CmpOp} {r : R2} {d : D → D → (D → Prop) → Prop} (B : CO X A op r d) (ha : QE X A false true a ta fa) (hb : QE X A false true b tb fb) (hm : behindInMarks op b = false := by first | exact nomark _ | rfl) : QT X A (.Compare a [op] [b] pos) (tTest (tOp r ta tb)) (fTest (fBin d fa fb)) := ⟨pt_cmpR B.ho ha.pe hb.pe hm, sd_test (m1 := false) (sh1 := false) (sd_bin (B.hs false) ha.sd hb.sd)⟩
theorem q_chain {op op' : CmpOp} {r r' : R2} {d d' : D → D → (D → Prop) → Prop} (B : CO X A op r d) (B' : CO X A op' r' d') (ha : QE X A false true a ta fa) (hb : QE X A false true b tb fb) (hc : QE X A false true c tc fc) (hm : lastMarks [op, op'] [b, c] = false := by with_unfolding_all rfl) :
    QE X A m sh (.Compare a [op, op'] [b, c] pos) (tChain r r' ta tb tc) (fChain d d' fa fb fc) := ⟨pe_chain B.ho B'.ho ha.pe hb.pe hc.pe hm, sd_chain (B.hs m) (B'.hs m) ha.sd hb.sd hc.sd⟩
theorem qt_chain {op op' : CmpOp} {r r' : R2} {d d' : D → D → (D → Prop) → Prop} (B : CO X A op r d) (B' : CO X A op' r' d') (ha : QE X A false true a ta fa) (hb : QE X A false true b tb fb) (hc : QE X A false true c tc fc) (hm : lastMarks [op, op'] [b, c] = false := by with_unfolding_all rfl) :
    QT X A (.Compare a [op, op'] [b, c] pos) (tTest (tChain r r' ta tb tc)) (fTest (fChain d d' fa fb fc)) := ⟨pt_chain B.ho B'.ho ha.pe hb.pe hc.pe hm, sd_test (m1 := false) (sh1 := false) (sd_chain (B.hs false) (B'.hs false) ha.sd hb.sd hc.sd)⟩
/-! and, or, not, if .. else -/
variable {rest : List Expr} {u w : TT} {g h : FT A}
theorem q_one {op : BoolOp} (ha : QE X A m sh a ta fa) : QE X A m sh (.BoolOp op [a] pos) ta fa := ⟨pe_one ha.pe, ha.sd⟩
theorem q_and (ha : QE X A false true a ta fa) (hb : QE X A m sh (.BoolOp .And (b :: rest) pos) tb fb) : QE X A m sh (.BoolOp .And (a :: b :: rest) pos) (tAndV ta tb) (fAndV fa fb) := ⟨pe_and ha.pe hb.pe, sd_andV ha.sd hb.sd⟩
theorem q_or (ha : QE X A false true a ta fa) (hb : QE X A m sh (.BoolOp .Or (b :: rest) pos) tb fb) : QE X A m sh (.BoolOp .Or (a :: b :: rest) pos) (tOrV ta tb) (fOrV fa fb) := ⟨pe_or ha.pe hb.pe, sd_orV ha.sd hb.sd⟩
theorem q_not (ha : QE X A false true a ta fa) : QE X A m sh (.UnaryOp .Not a pos) (tNotV ta) (fNotV fa) := ⟨pe_not ha.pe, sd_notV ha.sd⟩
theorem qt_val (ha : QE X A false true a ta fa) (he : ∀ whole, isTrue a X.env whole = (do let v ← whole; standAt a.pos; holding [v] (truthy v)) := by intro _; rfl) : QT X A a (tB ta) (fTest fa) := ⟨pt_val ha.pe he, sd_testB ha.sd⟩
theorem qt_tru (ha : QE X A false true a ta fa) (he : ∀ whole, isTrue a X.env whole = (do let v ← whole; standAt a.pos; holding [v] (truthy v)) := by intro _; rfl) : QT X A a (fun σ H Q => ta σ H fun x H' => ∃ k, TruV X.K x H' k ∧ Q k H') (fTru fa) := ⟨pt_truth ha.pe he, sd_tru ha.sd⟩
theorem qt_not (ha : QT X A a u g) : QT X A (.UnaryOp .Not a pos) (tNot u) (fNotT g) := ⟨pt_not ha.pt, sd_notT ha.sd⟩
theorem qw_and1 (ha : QT X A a u g) : QW X A (.BoolOp .And [a] pos) u g := ⟨pw_and1 ha.pt, ha.sd⟩
theorem qw_or1 (ha : QT X A a u g) : QW X A (.BoolOp .Or [a] pos) u g := ⟨pw_or1 ha.pt, ha.sd⟩
theorem qw_and (ha : QT X A a u g) (hb : QW X A (.BoolOp .And (b :: rest) pos) w h) : QW X A (.BoolOp .And (a :: b :: rest) pos) (tAnd u w) (fAndT g h) := ⟨pw_and ha.pt hb.pw, sd_andT ha.sd hb.sd⟩
theorem qw_or (ha : QT X A a u g) (hb : QW X A (.BoolOp .Or (b :: rest) pos) w h) : QW X A (.BoolOp .Or (a :: b :: rest) pos) (tOr u w) (fOrT g h) := ⟨pw_or ha.pt hb.pw, sd_orT ha.sd hb.sd⟩
theorem qt_w (ha : QW X A a u g) : QT X A a u g := ⟨ha.pw.pt, ha.sd⟩
theorem q_if (hc : QT X A c u g) (ha : QE X A m sh a ta fa) (hb : QE X A m sh b tb fb) : QE X A m sh (.IfExp c a b pos) (tIf u ta tb) (fIf g fa fb) := ⟨pe_ifExp hc.pt ha.pe hb.pe, sd_if hc.sd ha.sd hb.sd⟩
/-! lists of expressions, displays, subscripts, slices -/
variable {es : List Expr} {t : TA} {f : FA A} {fx : FX A} {fo : FO A}
theorem ql_nil : QL X A m sh 0 [] tNil fNil := ⟨pa_nil, sd_nil⟩
theorem ql_cons (ha : QE X A m sh a ta fa) (hr : QL X A m sh n es t f) (hs : starEach (a :: es) X.env = (false, eval a X.env) :: starEach es X.env := by rfl) : QL X A m sh (n + 1) (a :: es) (tCons ta t) (fCons fa f) := ⟨pa_cons ha.pe hr.pa hs, sd_cons ha.sd hr.sd⟩
theorem qx_nil : QX X A 0 [] tNil fXn := ⟨pa_nil, sx_nil⟩
theorem qx_v (ha : QE X A true false a ta fa) (hr : QX X A n es t fx) (hs : starEach (a :: es) X.env = (false, eval a X.env) :: starEach es X.env := by rfl) : QX X A (n + 1) (a :: es) (tCons ta t) (fXv fa fx) := ⟨pa_cons ha.pe hr.pa hs, sx_v ha.sd hr.sd⟩
theorem qx_o (ha : QO X A a ta fo) (hr : QX X A n es t fx) (hs : starEach (a :: es) X.env = (false, eval a X.env) :: starEach es X.env := by rfl) : QX X A (n + 1) (a :: es) (tCons ta t) (fXo fo fx) := ⟨pa_cons ha.pe hr.pa hs, sx_o ha.sd hr.sd⟩
theorem q_tup {k : Nat} (h : QL X A m false n es t f) (hn : n ≤ 1000 := by decide) : QE X A m sh (.Tuple es k pos) (tTup t) (fTup f) := ⟨pe_tup h.pa, sd_tup h.sd hn⟩
theorem q_lst (h : QL X A m false n es t f) (hn : n ≤ 1000 := by decide) : QE X A m sh (.List es pos) (tLst t) (fLst f) := ⟨pe_lst h.pa, sd_lst h.sd hn⟩
theorem qo_lst (h : QL X A true false n es t f) (hn : n ≤ 1000 := by decide) : QO X A (.List es pos) (tLst t) (fLstO f) := ⟨pe_lst h.pa, sd_lstO h.sd hn⟩
theorem qo_dk : QO X A (.Dict [] [] pos) tDNewK fNewK := ⟨pe_dnewK, sd_newK⟩
theorem qo_dt : QO X A (.Dict [] [] pos) tDNewT fNewT := ⟨pe_dnewT, sd_newT⟩
theorem q_ix (ha : QE X A m true a ta fa) (hb : QE X A false true b tb fb) (hs : PlainIx b := by exact fun _ _ => rfl) : QE X A m sh (.Subscript a b pos) (tOp (rIx X.K) ta tb) (fBin dIx fa fb) := ⟨pe_ix ix_seq ha.pe hb.pe hs, sd_bin sdr_ix ha.sd hb.sd⟩
theorem q_ixn {k jj : Nat} {p9 : Pos} (ha : QE X A m true a ta fa) (hs : PlainIx (.Constant (.int (k : Int)) jj p9) := by exact fun _ _ => rfl) : QE X A m sh (.Subscript a (.Constant (.int (k : Int)) jj p9) pos) (tOp (rIx X.K) ta (tC (.int (k : Int)))) (fBin (dIxN k) fa (fC (.int (k : Int)))) := ⟨pe_ix ix_seq ha.pe pe_int hs, fun W s0 H0 s σ H ρ Φ Q R hp q => ha.sd W s0 H0 s σ H ρ _ _ R hp fun d s1 v H1 h1 R1 st1 r1 => sdr_ixn (m2 := false) (sh2 := false) (y := .int k) R1 r1 rfl h1 fun d u H2 h2 R2 st2 r2 => q d s1 u H2 h2 R2 (st1.trans st2) r2.up⟩
variable {lo hi : Option Expr} {tl th : TO} {fl fh : FP A}
theorem qp_n : QP X A none tNoPart fPn := ⟨po_none, sd_pn⟩
theorem qp_s (h : QE X A false true a ta fa) : QP X A (some a) (tPart ta) (fPs fa) := ⟨po_some h.pe, sd_ps h.sd⟩
theorem q_sl (h : QE X A m true a ta fa) (hl : QP X A lo tl fl) (hh : QP X A hi th fh) : QE X A m sh (.Subscript a (.Slice lo hi none p2) pos) (tSl (rSlX X.K) ta tl th) (fSl fa fl fh) := ⟨pe_slice sl_x h.pe hl.po hh.po, sd_sl h.sd hl.sd hh.sd⟩
/-! calls -/
variable {id T : String} {r : List V → Hp → VK → Prop} {op : List D → (D → Prop) → Prop} {m1 sh1 : Bool}
theorem q_isi (b : BT) {q : Pos} {y : Str} (hm : X.mg "isinstance" = none) (hy : X.mg y = none) (hv : bootBuiltins y = some (.type b.nm)) (ha : QE X A false true a ta fa) (hg : Gl X "isinstance" := by rfl) (hgy : Gl X y := by rfl) (hny : y ≠ "__name__" := by decide) (hdy : (y == ("__debug__" : Str)) = false := by decide)
    (he : starEach [a, .Name y q] X.env = (false, eval a X.env) :: starEach [.Name y q] X.env := by rfl) (he2 : starEach [.Name y q] X.env = (false, eval (.Name y q) X.env) :: starEach [] X.env := by rfl) (hpl : (backTo pos (starEach [.Name y q] X.env)).any (·.1) = false := by rfl) :
    QE X A m sh (.Call (.Name "isinstance" p) [a, .Name y q] [] pos) (tCB (rIsi X.K) (tCons ta (tCons (tC (.ty b.nm)) tNil))) (fIsi b fa) :=
  ⟨pe_callB call_isi hg hm bt_isinstance (pa_cons ha.pe (pa_cons (pe_bltn hgy hy hv rfl hny hdy) pa_nil he2) he) (by decide) (by decide) he hpl, sd_isi ha.sd⟩
theorem pe_calG {P : Program} {k np : Nat} {g : Pg A} (C : Cal X.prog X.w X.K X.mg X.base A k x np g) (hgd : X.A.guards = some []) (hr : Room k X.A) (ha : PA X (e :: es) t) (hg : Gl X x := by rfl) (hdb : (x == ("__debug__" : Str)) = false := by decide)
    (he : starEach (e :: es) X.env = (false, eval e X.env) :: starEach es X.env := by rfl) (hpl : (backTo pos (starEach es X.env)).any (·.1) = false := by rfl) : PE X (.Call (.Name x p) (e :: es) [] pos) (tCall (spOf A np g) [] E0 t) := by
  obtain ⟨f, fd, ps, F, hm, hk, bi⟩ := C.ex
  exact pe_gn F hgd hr hg hm hk bi .nil pass0 ha hdb he hpl
theorem q_call {k np : Nat} {g : Pg A} (C : Cal X.prog X.w X.K X.mg X.base A k x np g) (hgd : X.A.guards = some []) (hr : Room k X.A) (ha : QL X A m false np (e :: es) t f) (hg : Gl X x := by rfl) (hdb : (x == ("__debug__" : Str)) = false := by decide)
    (he : starEach (e :: es) X.env = (false, eval e X.env) :: starEach es X.env := by rfl) (hpl : (backTo pos (starEach es X.env)).any (·.1) = false := by rfl) (hcl : m = true ∨ ∀ s, A.cl s := by first | exact .inl rfl | exact .inr fun _ => trivial) : QE X A m sh (.Call (.Name x p) (e :: es) [] pos) (tCall (spOf A np g) [] E0 t) (fCall g f) :=
  ⟨pe_calG (P := X.prog) C hgd hr ha.pa hg hdb he hpl, sd_call ha.sd hcl⟩
theorem qo_call {k np : Nat} {g : Pg A} (C : Cal X.prog X.w X.K X.mg X.base A k x np g) (hgd : X.A.guards = some []) (hr : Room k X.A) (ha : QL X A true false np (e :: es) t f) (hg : Gl X x := by rfl) (hdb : (x == ("__debug__" : Str)) = false := by decide)
    (he : starEach (e :: es) X.env = (false, eval e X.env) :: starEach es X.env := by rfl) (hpl : (backTo pos (starEach es X.env)).any (·.1) = false := by rfl) : QO X A (.Call (.Name x p) (e :: es) [] pos) (tCall (spOf A np g) [] E0 t) (fCallO g f) :=
  ⟨pe_calG (P := X.prog) C hgd hr ha.pa hg hdb he hpl, so_call ha.sd⟩
end
section
variable {X : Cx} {A : Amb} {m sh : Bool} {n : Nat} {a b e : Expr} {es : List Expr} {t : TA} {f : FA A} {ta tb : TE} {fa fb : FE A} {p q pos : Pos}
abbrev rAbsA : List V → Hp → VK → Prop := fun xs H Q => ∃ i, xs = [.int i] ∧ Q (.int (if i < 0 then -i else i)) H
abbrev rMax2A : List V → Hp → VK → Prop := fun xs H Q => ∃ i j, xs = [.int i, .int j] ∧ Q (.int (if j > i then j else i)) H
abbrev rMin2A : List V → Hp → VK → Prop := fun xs H Q => ∃ i j, xs = [.int i, .int j] ∧ Q (.int (if j < i then j else i)) H
abbrev rIntA : List V → Hp → VK → Prop := fun xs H Q => (∃ i, xs = [.int i] ∧ Q (.int i) H) ∨ ∃ k, xs = [.bl k] ∧ Q (.int (if k then 1 else 0)) H
abbrev rStrA : List V → Hp → VK → Prop := fun xs H Q => ∃ i, xs = [.int i] ∧ i.natAbs.log2 < 1920 ∧ Q (.str (toString i)) H
abbrev rListA (K : Fg) : List V → Hp → VK → Prop := fun xs H Q => ∃ p ys, xs = [.ref p] ∧ (SqL K H p ys ∨ SqT K H p ys) ∧ ∀ l, H l = none → Q (.ref l) (upd H l (.lst ys))
abbrev rTupA (K : Fg) : List V → Hp → VK → Prop := fun xs H Q => ∃ p ys, xs = [.ref p] ∧ ((SqL K H p ys ∧ ∀ l, H l = none → Q (.ref l) (upd H l (.tup ys))) ∨ (SqT K H p ys ∧ Q (.ref p) H))
structure NB (X : Cx) (A : Amb) (m m1 sh1 : Bool) (x : Str) (u : Value) (r : List V → Hp → VK → Prop) (op : List D → (D → Prop) → Prop) : Prop where
  hc : CallR X u r
  hs : SdC A m m1 sh1 r op
  hv : bootBuiltins x = some u
  hn : x ≠ "__name__"
  hd : (x == ("__debug__" : Str)) = false
theorem nb_abs : NB X A m false true "abs" (.builtin "abs") rAbsA dAbs := ⟨call_abs, sc_abs, bt_abs, by decide, by decide⟩
theorem nb_max2 (hc : X.calm = true) : NB X A m false true "max" (.builtin "max") rMax2A dMax2 := ⟨call_max2 hc, sc_max2, bt_max, by decide, by decide⟩
theorem nb_min2 (hc : X.calm = true) : NB X A m false true "min" (.builtin "min") rMin2A dMin2 := ⟨call_min2 hc, sc_min2, bt_min, by decide, by decide⟩
theorem nb_maxL (hc : X.calm = true) : NB X A m false true "max" (.builtin "max") (rMax X.K) dMaxL := ⟨cr_max hc, sc_maxL, bt_max, by decide, by decide⟩
theorem nb_minL (hc : X.calm = true) : NB X A m false true "min" (.builtin "min") (rMin X.K) dMinL := ⟨cr_min hc, sc_minL, bt_min, by decide, by decide⟩
theorem nb_sum (hc : X.calm = true) : NB X A m false true "sum" (.builtin "sum") (rSum X.K) dSum := ⟨cr_sum hc, sc_sum, bt_sum, by decide, by decide⟩
theorem nb_all (hc : X.calm = true) : NB X A m false true "all" (.builtin "all") (rAll X.K) dAll := ⟨cr_all hc, sc_all, bt_all, by decide, by decide⟩
theorem nb_any (hc : X.calm = true) : NB X A m false true "any" (.builtin "any") (rAny X.K) dAny := ⟨cr_any hc, sc_any, bt_any, by decide, by decide⟩
theorem nb_len : NB X A m false true "len" (.builtin "len") (rLenA X.K) dLen := ⟨call_lenA, sc_len, bt_len, by decide, by decide⟩
theorem nb_sorted : NB X A m false true "sorted" (.builtin "sorted") (rSortedI X.K) dSorted := ⟨cr_sortedI, sc_sorted, bt_sorted, by decide, by decide⟩
theorem nb_int : NB X A m false true "int" (.type "int") rIntA dInt := ⟨call_int1, sc_int, bt_int, by decide, by decide⟩
theorem nb_str : NB X A m false true "str" (.type "str") rStrA dStr := ⟨call_str_int, sc_str, bt_str, by decide, by decide⟩
theorem nb_list : NB X A m m true "list" (.type "list") (rListA X.K) dList := ⟨call_list_of, sc_list, bt_list, by decide, by decide⟩
theorem nb_tuple : NB X A m m true "tuple" (.type "tuple") (rTupA X.K) dTuple := ⟨call_tuple_of, sc_tuple, bt_tuple, by decide, by decide⟩
theorem q_nb {x : Str} {id : String} {r : List V → Hp → VK → Prop} {op : List D → (D → Prop) → Prop} {m1 sh1 : Bool} (B : NB X A m m1 sh1 x (.builtin id) r op) (hm : X.mg x = none) (ha : QL X A m1 sh1 n (e :: es) t f) (hg : Gl X x := by rfl) (he : starEach (e :: es) X.env = (false, eval e X.env) :: starEach es X.env := by rfl) (hpl : (backTo pos (starEach es X.env)).any (·.1) = false := by rfl) :
    QE X A m sh (.Call (.Name x p) (e :: es) [] pos) (tCB r t) (fCB op f) := ⟨pe_callB B.hc hg hm B.hv ha.pa B.hn B.hd he hpl, sd_cb B.hs ha.sd⟩
theorem q_nt {x : Str} {id : String} {r : List V → Hp → VK → Prop} {op : List D → (D → Prop) → Prop} {m1 sh1 : Bool} (B : NB X A m m1 sh1 x (.type id) r op) (hm : X.mg x = none) (ha : QL X A m1 sh1 n (e :: es) t f) (hg : Gl X x := by rfl) (he : starEach (e :: es) X.env = (false, eval e X.env) :: starEach es X.env := by rfl) (hpl : (backTo pos (starEach es X.env)).any (·.1) = false := by rfl) :
    QE X A m sh (.Call (.Name x p) (e :: es) [] pos) (tCB r t) (fCB op f) := ⟨pe_callTy B.hc hg hm B.hv ha.pa B.hn B.hd he hpl, sd_cb B.hs ha.sd⟩
/-! list(range(..)), tuple(range(..)) -/
theorem q_lrg1 (hc : X.calm = true) (hm : X.mg "list" = none) (hr : X.mg "range" = none) (ha : QE X A false true a ta fa) (hg : Gl X "list" := by rfl) (hgr : Gl X "range" := by rfl) (na : starEach [a] X.env = (false, eval a X.env) :: starEach [] X.env := by rfl) {p2 q2 : Pos} (ne : starEach [.Call (.Name "range" p2) [a] [] q2] X.env = (false, eval (.Call (.Name "range" p2) [a] [] q2) X.env) :: starEach [] X.env := by rfl) :
    QE X A m sh (.Call (.Name "list" p) [.Call (.Name "range" p2) [a] [] q2] [] pos) (tLstRg (tRg1 ta)) (fLstRg (fR1 fa)) := ⟨pe_listRg hc hg hm (prg_1 hgr hr ha.pe na) ne, sd_lstRg (sr_1 ha.sd)⟩
theorem q_lrg2 (hc : X.calm = true) (hm : X.mg "list" = none) (hr : X.mg "range" = none) (ha : QE X A false true a ta fa) (hb : QE X A false true b tb fb) (hg : Gl X "list" := by rfl) (hgr : Gl X "range" := by rfl) (na : starEach [a, b] X.env = (false, eval a X.env) :: starEach [b] X.env := by rfl) (nb : starEach [b] X.env = (false, eval b X.env) :: starEach [] X.env := by rfl) {p2 q2 : Pos} (ne : starEach [.Call (.Name "range" p2) [a, b] [] q2] X.env = (false, eval (.Call (.Name "range" p2) [a, b] [] q2) X.env) :: starEach [] X.env := by rfl) (hp : (backTo q2 (starEach [b] X.env)).any (·.1) = false := by rfl) :
    QE X A m sh (.Call (.Name "list" p) [.Call (.Name "range" p2) [a, b] [] q2] [] pos) (tLstRg (tRg2 ta tb)) (fLstRg (fR2 fa fb)) := ⟨pe_listRg hc hg hm (prg_2 hgr hr ha.pe hb.pe na nb hp) ne, sd_lstRg (sr_2 ha.sd hb.sd)⟩
end
/-! ### statements -/
section
variable {X : Cx} {A : Amb} {m sh : Bool} {n i j k : Nat} {a b c e : Expr} {es : List Expr} {t : TA} {f : FA A} {ta tb te : TE} {fa fb fe : FE A} {fo : FO A} {fx : FX A} {p q pos px py pz pt : Pos} {x y z : Str} {st : Stmt} {sts : List Stmt} {s1 s2 : TS} {g1 g2 : FS A} {tt : TT} {ft : FT A}
theorem z_set (i : Nat) (hN : X.N.Nodup) (he : QE X A true false e te fe) (hi : X.N[i]? = some x := by rfl) (hx : Loc X.env.scope x := by first | exact Or.inl rfl | exact Or.inr rfl) (hs : swapsWith e (some (.Name x p)) pos.line X.env = pure false := by rfl) (hf : X.fn x = true ∨ X.env.scope.names.lookup x = some .local := by first | exact .inl rfl | exact .inr rfl) :
    QS X A (.Assign [.Name x p] e pos) (tAsg te (gName i)) (fSet i fe) := ⟨ps_set hN hi hx he.pe hs hf, ss_set i he.sd⟩
theorem z_setO (i : Nat) (hN : X.N.Nodup) (he : QO X A e te fo) (hi : X.N[i]? = some x := by rfl) (hx : Loc X.env.scope x := by first | exact Or.inl rfl | exact Or.inr rfl) (hs : swapsWith e (some (.Name x p)) pos.line X.env = pure false := by rfl) (hf : X.fn x = true ∨ X.env.scope.names.lookup x = some .local := by first | exact .inl rfl | exact .inr rfl) :
    QS X A (.Assign [.Name x p] e pos) (tAsg te (gName i)) (fSetO i fo) := ⟨ps_set hN hi hx he.pe hs hf, ss_setO i he.sd⟩
theorem z_par (i j : Nat) (hN : X.N.Nodup) (hc : X.calm = true) (ha : QX X A 2 [a, b] t fx) {kt k2 : Nat} {pt2 : Pos} (hij : i ≠ j := by decide) (hi : X.N[i]? = some x := by rfl) (hj : X.N[j]? = some y := by rfl) (hx : X.env.scope.names.lookup x = some .local := by rfl) (hy : X.env.scope.names.lookup y = some .local := by rfl)
    (hw : swappedStores [.Tuple [.Name x px, .Name y py] kt pt] (.Tuple [a, b] k2 pt2) X.env = pure (some [x, y]) := by rfl) (hs : swapsWithSole [.Tuple [.Name x px, .Name y py] kt pt] (.Tuple [a, b] k2 pt2) pos.line X.env = pure false := by rfl) :
    QS X A (.Assign [.Tuple [.Name x px, .Name y py] kt pt] (.Tuple [a, b] k2 pt2) pos) (tPar i j t) (fPar [i, j] fx) := ⟨ps_par hc hN hi hj hij hx hy ha.pa hw hs, ss_par i j ha.sd⟩
theorem z_par3 (i j k : Nat) (hN : X.N.Nodup) (hc : X.calm = true) (ha : QX X A 3 [a, b, c] t fx) {kt k2 : Nat} {pt2 : Pos} (hij : i ≠ j := by decide) (hik : i ≠ k := by decide) (hjk : j ≠ k := by decide) (hi : X.N[i]? = some x := by rfl) (hj : X.N[j]? = some y := by rfl) (hk : X.N[k]? = some z := by rfl) (hx : X.env.scope.names.lookup x = some .local := by rfl) (hy : X.env.scope.names.lookup y = some .local := by rfl) (hz : X.env.scope.names.lookup z = some .local := by rfl)
    (hw : swappedStores [.Tuple [.Name x px, .Name y py, .Name z pz] kt pt] (.Tuple [a, b, c] k2 pt2) X.env = pure (some [x, y, z]) := by rfl) (hs : swapsWithSole [.Tuple [.Name x px, .Name y py, .Name z pz] kt pt] (.Tuple [a, b, c] k2 pt2) pos.line X.env = pure false := by rfl) :
    QS X A (.Assign [.Tuple [.Name x px, .Name y py, .Name z pz] kt pt] (.Tuple [a, b, c] k2 pt2) pos) (tPar3 i j k t) (fPar [i, j, k] fx) := ⟨ps_par3 hc hN hi hj hk hij hik hjk hx hy hz ha.pa hw hs, ss_par3 i j k ha.sd⟩
/-- names, by a tuple made and taken apart -/
structure QNs (X : Cx) (es : List Expr) (is : List Nat) : Prop where
  pg : PGs X es (gNames is)
theorem qn_nil : QNs X [] [] := ⟨pgs_nil⟩
theorem qn_cons {is : List Nat} (i : Nat) (hN : X.N.Nodup) (h : QNs X es is) (hi : X.N[i]? = some x := by rfl) (hx : Loc X.env.scope x := by first | exact Or.inl rfl | exact Or.inr rfl) (hf : X.fn x = true ∨ X.env.scope.names.lookup x = some .local := by first | exact .inl rfl | exact .inr rfl)
    (hs : (assignEach (.Name x p :: es) X.env).map (·.2) = assign (.Name x p) X.env :: (assignEach es X.env).map (·.2) := by rfl) : QNs X (.Name x p :: es) (i :: is) := ⟨pgs_cons (pg_name hN hi hx hf) h.pg hs⟩
theorem z_parT {is : List Nat} {ns : List Expr} {kt k2 : Nat} {pt2 : Pos} (hc : X.calm = true) (hg : QNs X ns is) (ha : QX X A n es t fx) (hn : is.length = n := by rfl) (hk : n ≤ 1000 := by decide) (hl : (assignEach ns X.env).length = n := by rfl) (hst : (assignEach ns X.env).findIdx? (·.1) = none := by rfl)
    (hs : swapsWithSole [.Tuple ns kt pt] (.Tuple es k2 pt2) pos.line X.env = pure false := by rfl) (hw : swappedStores [.Tuple ns kt pt] (.Tuple es k2 pt2) X.env = pure none := by rfl) (h1 : (assignEach [.Tuple ns kt pt] X.env).map (·.2) = [assign (.Tuple ns kt pt) X.env] := by rfl) :
    QS X A (.Assign [.Tuple ns kt pt] (.Tuple es k2 pt2) pos) (tAsg (tTup t) (gTup X.K n (gNames is))) (fPar is fx) := ⟨ps_asg (pe_tup ha.pa) (pg_tup hc hg.pg hl hst) hs hw h1, ss_parT is hn hk ha.sd⟩
variable {vs ws : List Nat} {tg : Expr} {gg : TG} {ggs : TGs} {hh : FG} {hhs : FGs}
theorem qg_name (i : Nat) (hN : X.N.Nodup) (hi : X.N[i]? = some x := by rfl) (hx : Loc X.env.scope x := by first | exact Or.inl rfl | exact Or.inr rfl) (hf : X.fn x = true ∨ X.env.scope.names.lookup x = some .local := by first | exact .inl rfl | exact .inr rfl) : QG X A [i] (.Name x p) (gName i) (hName i) := ⟨pg_name hN hi hx hf, sg_name i⟩
theorem qgs_nil : QGs X A [] [] gNil hNil := ⟨pgs_nil, sg_nil⟩
theorem qgs_cons (h1 : QG X A vs e gg hh) (h2 : QGs X A ws es ggs hhs) (hs : (assignEach (e :: es) X.env).map (·.2) = assign e X.env :: (assignEach es X.env).map (·.2) := by rfl) : QGs X A (vs ++ ws) (e :: es) (gCons gg ggs) (hCons hh hhs) := ⟨pgs_cons h1.pg h2.pg hs, sg_cons h1.sd h2.sd⟩
theorem qg_tup {kt : Nat} (hc : X.calm = true) (h : QGs X A vs es ggs hhs) (hn : (assignEach es X.env).length = n := by rfl) (hst : (assignEach es X.env).findIdx? (·.1) = none := by rfl) : QG X A vs (.Tuple es kt pos) (gSeq X.K n ggs) (hTup n hhs) := ⟨pg_seq hc h.pg hn hst, sg_tup h.sd⟩
theorem z_asg (he : QE X A true false e te fe) (hg : QG X A vs tg gg hh) (hs : swapsWithSole [tg] e pos.line X.env = pure false := by rfl) (hw : swappedStores [tg] e X.env = pure none := by rfl) (h1 : (assignEach [tg] X.env).map (·.2) = [assign tg X.env] := by rfl) :
    QS X A (.Assign [tg] e pos) (tAsg te gg) (fAsg fe hh) := ⟨ps_asg he.pe hg.pg hs hw h1, ss_asg he.sd hg.sd⟩
theorem z_do (he : QE X A false true e te fe) (hs : swapsWith e none pos.line X.env = pure false := by rfl) : QS X A (.Expr e pos) (tDrop te) (fDo fe) := ⟨ps_expr he.pe hs, ss_do he.sd⟩
theorem z_ret (he : QE X A false true e te fe) : QS X A (.Return (some e) pos) (tRet te) (fRet fe) := ⟨ps_ret he.pe, ss_ret he.sd⟩
theorem z_retW (he : QO X A e te fo) : QS X A (.Return (some e) pos) (tRet te) (fRetW fo) := ⟨ps_ret he.pe, ss_retW he.sd⟩
theorem z_retO (i : Nat) (hN : X.N[i]? = some x := by rfl) (hv : Vis X.env.scope x := by first | exact Or.inl rfl | exact Or.inr (Or.inl rfl) | exact Or.inr (Or.inr rfl)) (hd : (x == ("__debug__" : Str)) = false := by decide) (hcd : (x == ("__classdict__" : Str)) = false := by decide) : QS X A (.Return (some (.Name x p)) pos) (tRet (tVar i)) (fRetO i) := ⟨ps_ret (pe_var hN hv hd hcd), ss_retO i⟩
theorem z_retN : QS X A (.Return none pos) tRetN fRetN := ⟨ps_retN, ss_retN⟩
theorem z_pass : QS X A (.Pass pos) tNext fNext := ⟨ps_pass, ss_next⟩
theorem z_break : QS X A (.Break pos) tBreak fBreak := ⟨ps_break, ss_break⟩
theorem z_cont : QS X A (.Continue pos) tCont fCont := ⟨ps_continue, ss_cont⟩
theorem z_never : QS X A st tNever fNever := ⟨ps_never, ss_never⟩
theorem zs_nil : QSs X A [] tNext fNext := ⟨pss_nil, ss_next⟩
theorem zs_one (h : QS X A st s1 g1) : QSs X A [st] s1 g1 := ⟨pss_one h.ps, h.sd⟩
theorem zs_cons (h : QS X A st s1 g1) (hr : QSs X A sts s2 g2) : QSs X A (st :: sts) (tSeq s1 s2) (fSeq g1 g2) := ⟨pss_cons h.ps hr.ps, ss_seq h.sd hr.sd⟩
theorem zs_frz (i : Nat) (h : QSs X A sts s1 g1) : QSs X A sts s1 (fFrz i g1) := ⟨h.ps, ss_frz i h.sd⟩
theorem zs_drop (i : Nat) (h : QSs X A sts s1 g1) : QSs X A sts s1 (fDrop i g1) := ⟨h.ps, ss_drop i h.sd⟩
theorem z_if {aa bb : List Stmt} (hc : QT X A c tt ft) (ha : QSs X A aa s1 g1) (hb : QSs X A bb s2 g2) : QS X A (.If c aa bb pos) (tIfS tt s1 s2) (fIfS ft g1 g2) := ⟨ps_if hc.pt ha.ps hb.ps, ss_if hc.sd ha.sd hb.sd⟩
theorem z_app (i : Nat) {p2 p3 : Pos} (he : QE X A true false e te fe) (hN : X.N[i]? = some x := by rfl) (hv : Vis X.env.scope x := by first | exact Or.inl rfl | exact Or.inr (Or.inl rfl) | exact Or.inr (Or.inr rfl)) (hd : (x == ("__debug__" : Str)) = false := by decide) (hcd : (x == ("__classdict__" : Str)) = false := by decide)
    (hs : swapsWith (.Call (.Attribute (.Name x p) "append" p2) [e] [] p3) none pos.line X.env = pure false := by rfl)
    (hbase : attributeBase (.Name x p) "append" X.env (eval (.Name x p) X.env) = eval (.Name x p) X.env := by rfl)
    (hfew : ((backTo p3 (starEach [e] X.env)).all (fun x => !x.1) && (backToKw p3 (keywordEach [] X.env)).all (fun x => x.1.isSome) && decide ([e].length + ([] : List Keyword).length + (if ([] : List Keyword).isEmpty then 0 else 1) < 30)) = true := by rfl)
    (hline : (p2.endLine == p3.line) = true := by rfl) (hs1 : starEach [e] X.env = (false, eval e X.env) :: starEach [] X.env := by rfl) :
    QS X A (.Expr (.Call (.Attribute (.Name x p) "append" p2) [e] [] p3) pos) (tDrop (tBM X.K "list" rAppend (tVar i) (tCons te tNil))) (fApp i fe) :=
  ⟨ps_expr (pe_bm PySem.F.plainAttrs_list PySem.F.slot_list_append PySem.F.type_list_append mt_append (pe_var hN hv hd hcd) (pa_cons he.pe pa_nil hs1) hbase hfew hline hs1 (by rfl)) hs, ss_app i he.sd⟩
theorem z_ext (i : Nat) {p2 p3 : Pos} (he : QE X A true true e te fe) (hN : X.N[i]? = some x := by rfl) (hv : Vis X.env.scope x := by first | exact Or.inl rfl | exact Or.inr (Or.inl rfl) | exact Or.inr (Or.inr rfl)) (hd : (x == ("__debug__" : Str)) = false := by decide) (hcd : (x == ("__classdict__" : Str)) = false := by decide)
    (hs : swapsWith (.Call (.Attribute (.Name x p) "extend" p2) [e] [] p3) none pos.line X.env = pure false := by rfl)
    (hbase : attributeBase (.Name x p) "extend" X.env (eval (.Name x p) X.env) = eval (.Name x p) X.env := by rfl)
    (hfew : ((backTo p3 (starEach [e] X.env)).all (fun x => !x.1) && (backToKw p3 (keywordEach [] X.env)).all (fun x => x.1.isSome) && decide ([e].length + ([] : List Keyword).length + (if ([] : List Keyword).isEmpty then 0 else 1) < 30)) = true := by rfl)
    (hline : (p2.endLine == p3.line) = true := by rfl) (hs1 : starEach [e] X.env = (false, eval e X.env) :: starEach [] X.env := by rfl) :
    QS X A (.Expr (.Call (.Attribute (.Name x p) "extend" p2) [e] [] p3) pos) (tDrop (tBM X.K "list" rExtend (tVar i) (tCons te tNil))) (fExt i fe) :=
  ⟨ps_expr (pe_bm PySem.F.plainAttrs_list PySem.F.slot_list_extend PySem.F.type_list_extend mt_extend (pe_var hN hv hd hcd) (pa_cons he.pe pa_nil hs1) hbase hfew hline hs1 (by rfl)) hs, ss_ext i he.sd⟩
theorem z_store (i : Nat) (he : QE X A true false e te fe) (ha : QE X A false true a ta fa) (hN : X.N[i]? = some x := by rfl) (hv : Vis X.env.scope x := by first | exact Or.inl rfl | exact Or.inr (Or.inl rfl) | exact Or.inr (Or.inr rfl)) (hd : (x == ("__debug__" : Str)) = false := by decide) (hcd : (x == ("__classdict__" : Str)) = false := by decide) {p2 : Pos}
    (hb : ∀ v, assign (.Subscript (.Name x p) a p2) X.env v = (do
      let ov ← holding [v] (eval (.Name x p) X.env)
      let iv ← holding [v, ov] (eval a X.env)
      standAt p2
      holding [v, ov, iv] (setItem ov iv v)
      release [v, ov, iv] []) := by intro _; rfl)
    (hs : swapsWithSole [.Subscript (.Name x p) a p2] e pos.line X.env = pure false := by rfl) (hw : swappedStores [.Subscript (.Name x p) a p2] e X.env = pure none := by rfl) (h1 : (assignEach [.Subscript (.Name x p) a p2] X.env).map (·.2) = [assign (.Subscript (.Name x p) a p2) X.env] := by rfl) :
    QS X A (.Assign [.Subscript (.Name x p) a p2] e pos) (tAsg te (gSub (tVar i) ta rSetL)) (fStore i fa fe) := ⟨ps_asg he.pe (pg_sub (pe_var hN hv hd hcd) ha.pe set_list hb) hs hw h1, ss_store i he.sd ha.sd⟩
variable {it : Expr} {wi : TI} {fi : FI A} {body : List Stmt}
theorem qi_seq (h : QE X A true false it te fe) : QI X A tg it (iSeq X.K te) (fIt fe) := ⟨pi_seq h.pe, si_it h.sd⟩
theorem qi_rg1 (hm : X.mg "range" = none) (ha : QE X A false true a te fe) (hg : Gl X "range" := by rfl) (hs : starEach [a] X.env = [(false, eval a X.env)] := by rfl) : QI X A tg (.Call (.Name "range" p) [a] [] pos) (iRng1 (tCons te tNil)) (fRg1 (fCons fe fNil)) := ⟨pi_range1 hg hm (pa_cons ha.pe pa_nil hs) hs, si_rg1 (sd_cons ha.sd sd_nil)⟩
theorem qi_rg2 (hm : X.mg "range" = none) (ha : QE X A false true a ta fa) (hb : QE X A false true b tb fb) (hg : Gl X "range" := by rfl) (hs : starEach [a, b] X.env = [(false, eval a X.env), (false, eval b X.env)] := by rfl) (hs2 : starEach [b] X.env = [(false, eval b X.env)] := by rfl) : QI X A tg (.Call (.Name "range" p) [a, b] [] pos) (iRng2 (tCons ta (tCons tb tNil))) (fRg2 (fCons fa (fCons fb fNil))) :=
  ⟨pi_range2 hg hm (pa_cons ha.pe (pa_cons hb.pe pa_nil hs2) (by rw [hs, hs2])) hs hs2, si_rg2 (sd_cons ha.sd (sd_cons hb.sd sd_nil))⟩
theorem z_for (hp : PassesOwn (model X.prog X.w) X.A X.env X.xe) (hc : X.calm = true) (hi : QI X A tg it wi fi) (hg : QG X A vs tg gg hh) (hb : QSs X A body s1 g1) (hs : ∀ x, foldedSetIterable it X.env x = pure x := by intro _; rfl) : QS X A (.For tg it body [] pos) (tFor wi gg s1) (fFor fi hh g1) := ⟨ps_for hp hc hi.pi hg.pg hb.ps hs, ss_for hi.sd hg.sd hb.sd⟩
theorem z_while (hp : PassesOwn (model X.prog X.w) X.A X.env X.xe) (hc : QT X A c tt ft) (hb : QSs X A body s1 g1) : QS X A (.While c body [] pos) (tWhile tt s1) (fWhile ft g1) := ⟨ps_while hp hc.pt hb.ps, ss_while hc.sd hb.sd⟩
/-! comprehensions -/
variable {elt : Expr} {ifs : List Expr} {scope : Scope} {own : List (Str × Nat)}
theorem qts_nil : QTs X A [] tYes (fun _ s Φ => Φ true s) := ⟨pts_nil, st_yes⟩
theorem qts_one (h : QT X A c tt ft) : QTs X A [c] tt ft := ⟨pts_one h.pt, h.sd⟩
abbrev Blk5 (α : Type) := Shared → Hp → Addr → List (Str × Addr) → List Addr → α
abbrev at5 {α : Type} (f : Blk5 α) : α := f {} (fun _ => none) 0 [] []
theorem qo_lc {gg : Blk5 TG} {tt : Blk5 TT} {te : Blk5 TE} (own : List (Str × Nat)) (hc : X.calm = true) (hN : X.N.Nodup) (hi : QI X A tg it wi fi) (ok : BlkOk X.N X.env.scope scope own)
    (hg : ∀ (s : Shared) (H : Hp) (C : Addr) (cl : List (Str × Addr)) (fp : List Addr), QG (X.blk s H scope (compEnvC scope cl C X.env) fp) A ws tg (gg s H C cl fp) hh) (ht : ∀ (s : Shared) (H : Hp) (C : Addr) (cl : List (Str × Addr)) (fp : List Addr), QTs (X.blk s H scope (compEnvC scope cl C X.env) fp) A ifs (tt s H C cl fp) ft)
    (he : ∀ (s : Shared) (H : Hp) (C : Addr) (cl : List (Str × Addr)) (fp : List Addr), QE (X.blk s H scope (compEnvC scope cl C X.env) fp) A true false elt (te s H C cl fp) fe) (hw : ∀ i ∈ ws, i ∈ own.map (·.2) := by decide) (hs : ∀ x, foldedSetIterable it X.env x = pure x := by intro _; rfl)
    (eg : ∀ s H C cl fp, gg s H C cl fp = at5 gg := by intros; rfl) (et : ∀ s H C cl fp, tt s H C cl fp = at5 tt := by intros; rfl) (ee : ∀ s H C cl fp, te s H C cl fp = at5 te := by intros; rfl) :
    QO X A (.ListComp elt [⟨tg, it, ifs, 0⟩] scope pos) (tLc wi (at5 gg) (at5 tt) (at5 te) (own.map (·.2))) (fLc fi (own.map (·.2)) hh ft fe) := by
  have hg' : ∀ s H C cl fp, QG (X.blk s H scope (compEnvC scope cl C X.env) fp) A ws tg (at5 gg) hh := fun s H C cl fp => eg s H C cl fp ▸ hg s H C cl fp
  have ht' : ∀ s H C cl fp, QTs (X.blk s H scope (compEnvC scope cl C X.env) fp) A ifs (at5 tt) ft := fun s H C cl fp => et s H C cl fp ▸ ht s H C cl fp
  have he' : ∀ s H C cl fp, QE (X.blk s H scope (compEnvC scope cl C X.env) fp) A true false elt (at5 te) fe := fun s H C cl fp => ee s H C cl fp ▸ he s H C cl fp
  refine ⟨pe_lc hc hN hi.pi ok (fun s H C cl fp => (hg' s H C cl fp).pg) (fun s H C cl fp => (ht' s H C cl fp).pt) (fun s H C cl fp => (he' s H C cl fp).pe) hs, ?_⟩
  exact so_lc hi.sd (hg' {} (fun _ => none) 0 [] []).sd hw (ht' {} (fun _ => none) 0 [] []).sd (he' {} (fun _ => none) 0 [] []).sd
end
end Pd

set_option maxHeartbeats 4000000
/-! list(reversed(a list)) -/
namespace Pd
open PySem PySem.Spec PyProof.Rows L2
section
variable {prog : Program} {w : World} {A : Around} {E : Value → Shared → Prop} {s : Shared}
abbrev RevP (xs : Array Value) : Nat → Value → Prop := fun i v => xs[xs.size - 1 - i]? = some v
theorem rev_into {R : Result → Shared → Prop} (hh : A.handled = none) {it l S : Addr} {xs : Array Value}
    (hit : s.heap.IsRevIter it l ((xs.size : Int) - 1)) (hl : s.heap.IsList l xs) (hne : l ≠ it) (hn : xs.size ≤ sizeLine) (hSi : S ≠ it) (hSl : S ≠ l) (res : Value) (c0 : Nat)
    (hS : s.heap.get? S = some { cls := .type "list", data := .seq #[] c0 })
    (hR : ∀ h' tk acc c', (∀ b o, b ≠ S → b ≠ it → s.heap.get? b = some o → h'.get? b = some o) → h'.get? S = some { cls := .type "list", dict := none, data := .seq acc c', slots := #[] } →
      ItemsOf (RevP xs) acc xs.size → R (.ok (.ret res)) { s with heap := h', toks := tk }) :
    wpAny (model prog w) A.in1 (Builtin.List.listExtendWith (.ref S) (.ref it) res)
      (fun fin s' => match fin with
        | .done f => R (.ok f) s'
        | .again c' => c'.quiet = true ∧ codeAny (model prog w) A c' R s')
      (fun e s' => R (.error e) s') s := by
  have Wk := (Walks.listRev (prog := prog) (w := w) (A := A.in1) hh it l hne xs).toS
  have notin : S ∉ [it, l] := by
    intro z
    rcases List.mem_cons.mp z with z | z
    · exact hSi z
    · exact hSl (List.mem_singleton.mp z)
  have ty : s.TypeIs (.ref it) "list_reverseiterator" := hit.typeIs
  have nosame : Builtin.List.listSameRef (.ref S) (.ref it) = false := by simp [Builtin.List.listSameRef, hSi]
  have z0 : ((xs.size : Nat) : Int) - 1 - ((0 : Nat) : Int) = (xs.size : Int) - 1 := by omega
  unfold Builtin.List.listExtendWith
  apply wpAny_bind
  apply wpAny_typeOf ty
  rw [if_neg (by rw [nosame]; decide)]
  apply wpAny_bind
  apply wpAny_pyIter_revIter hit
  apply wpAny_bind
  apply wpAny_holding
  unfold Builtin.List.listLengthHint
  apply wpAny_bind
  apply wpAny_specialOf ty RT.nolen_lri
  show wpAny _ A.in1 (specialOf (Value.ref it) (Str.ofString "__length_hint__") >>= _) _ _ _
  apply wpAny_bind
  apply wpAny_specialOf ty RT.hint_lri
  generalize hid : ("list_reverseiterator.__length_hint__" : String) = nm
  wp_delta
  rw [show splitId nm = some ("list_reverseiterator", "__length_hint__") from by subst hid; decide +kernel]
  subst hid
  apply wpAny_bind
  apply wpAny_isInstance (b := true) ty (by rw [isSubtype_type]; kernel_rfl)
  apply wpAny_pure
  rw [if_neg (by decide)]
  apply wpAny_pure
  refine ⟨plainId_quiet F.plain_extend_loop _, ?_⟩
  refine codeAny_extend_loopS Wk hn _ notin _ xs.size 0 _ _ _ rfl (Nat.zero_le _) ⟨Nat.zero_le _, by rw [z0]; exact hit, hl⟩ hS (ItemsOf.nil _) ?_
  intro s2 acc c' hm hS2 hacc
  rw [Moved.eq_with hm]
  refine hR s2.heap s2.toks acc c' (fun b o hb hb2 e => hm.heap b o (fun z => ?_) e) hS2 hacc
  rcases List.mem_cons.mp z with z | z
  · exact hb z
  · exact hb2 (List.mem_singleton.mp z)
theorem rev_list {it l : Addr} {xs : Array Value} {Q : Value → Shared → Prop} (hh : A.handled = none)
    (hit : s.heap.IsRevIter it l ((xs.size : Int) - 1)) (hl : s.heap.IsList l xs) (hne : l ≠ it) (hn : xs.size ≤ sizeLine)
    (hQ : ∀ h' tk acc c', (∀ b o, b ≠ it → s.heap.get? b = some o → h'.get? b = some o) → h'.get? s.heap.objs.size = some { cls := .type "list", dict := none, data := .seq acc c', slots := #[] } →
      ItemsOf (RevP xs) acc xs.size → Q (.ref s.heap.objs.size) { s with heap := h', toks := tk }) :
    wpAny (model prog w) A (call (.type "list") [.ref it]) Q E s := by
  have lit : it < s.heap.objs.size := by obtain ⟨_, h, _⟩ := id hit; exact Heap.lt_size h
  have ll : l < s.heap.objs.size := by obtain ⟨_, h, _⟩ := id hl; exact Heap.lt_size h
  refine callType_codes (Q₁ := fun obj s1 => obj = .ref s.heap.objs.size ∧ s1 = { s with heap := s.heap.push { cls := .type "list", data := .seq #[] } })
    F.called_list (F.typeCall_list_1 _) F.entry_list_init (code_list_new _ ⟨rfl, rfl⟩) ?_
  rintro obj s1 ⟨rfl, rfl⟩
  have hS : (s.heap.push { cls := .type "list", data := .seq #[] }).get? s.heap.objs.size = some { cls := .type "list", data := .seq #[] } := Heap.get?_push_size _ rfl
  refine ⟨⟨_, hS, rfl⟩, F.args_list_init_2 _ _, ?_⟩
  show wpAny _ _ (do
    let old ← Builtin.List.listItems (.ref s.heap.objs.size)
    Builtin.List.listUpdate (.ref s.heap.objs.size) (fun _ => #[])
    letGo old.toList.reverse
    Builtin.List.listExtendWith (.ref s.heap.objs.size) (.ref it) .none) _ _ _
  apply wpAny_bind
  unfold Builtin.List.listItems
  apply wpAny_bind
  apply wpAny_seqItems hS rfl
  apply wpAny_pure
  show wpAny _ _ (updateSeq s.heap.objs.size (fun _ => #[]) >>= fun _ => letGo (#[] : Array Value).toList.reverse >>= fun _ => Builtin.List.listExtendWith _ _ .none) _ _ _
  apply wpAny_bind
  refine wpAny_updateSeq hS rfl ?_
  have hS2 := Heap.get?_update_self (Obj.mapSeq (fun _ => (#[] : Array Value))) hS rfl
  have stay : ∀ b o, b ≠ s.heap.objs.size → s.heap.get? b = some o → ((s.heap.push { cls := .type "list", data := .seq #[] }).update s.heap.objs.size (Obj.mapSeq (fun _ => (#[] : Array Value)))).get? b = some o :=
    fun b o hb e => (Heap.get?_update_other _ _ (Ne.symm hb)).trans (Heap.get?_push_of_some _ e)
  apply wpAny_bind
  apply wpAny_letGo
  refine rev_into (A := A.in1) hh (hit.at fun o e => stay it o (Nat.ne_of_lt lit) e) (hl.at fun o e => stay l o (Nat.ne_of_lt ll) e) hne hn (Nat.ne_of_gt lit) (Nat.ne_of_gt ll) .none _ hS2 ?_
  intro h' tk acc c' hk hS3 hacc
  refine ⟨rfl, hQ h' tk acc c' (fun b o hb e => hk b o (Nat.ne_of_lt (Heap.lt_size e)) hb (stay b o (Nat.ne_of_lt (Heap.lt_size e)) e)) hS3 hacc⟩
end
def tLstRev (K : Fg) (te : TE) : TE := fun σ H Q => te σ H fun v H1 => ∃ (a : Addr) (xs : List V), v = .ref a ∧ SqL K H1 a xs ∧ ∀ q, H1 q = none → Q (.ref q) (upd H1 q (.lst xs.reverse))
section
variable {X : Cx}
theorem pe_lstRev {e : Expr} {te : TE} {p p2 pos pos2 : Pos} (hc : X.calm = true) (hg : Gl X "list") (hm : X.mg "list" = none) (hg2 : Gl X "reversed") (hm2 : X.mg "reversed" = none) (he : PE X e te)
    (n1 : starEach [e] X.env = (false, eval e X.env) :: starEach [] X.env := by rfl)
    (n2 : starEach [.Call (.Name "reversed" p2) [e] [] pos2] X.env = (false, eval (.Call (.Name "reversed" p2) [e] [] pos2) X.env) :: starEach [] X.env := by rfl) :
    PE X (.Call (.Name "list" p) [.Call (.Name "reversed" p2) [e] [] pos2] [] pos) (tLstRev X.K te) := by
  constructor
  intro pins s σ H Q J h
  have inner : ∀ {Q2 : Value → Shared → Prop}, (∀ u s1 v H1, Inv X pins σ H1 s1 → RelV v u → (∃ (a : Addr) (xs : List V), v = .ref a ∧ SqL X.K H1 a xs ∧ ∀ q, H1 q = none → Q (.ref q) (upd H1 q (.lst xs.reverse))) → wpAny (model X.prog X.w) X.A (call (.type "reversed") [u]) Q2 X.xe s1) →
      wpAny (model X.prog X.w) X.A (eval (.Call (.Name "reversed" p2) [e] [] pos2) X.env) Q2 X.xe s := fun {Q2} k =>
    Call_ (ld_blt J hg2 hm2 PyProof.Rows.boot_reversed (PyProof.Rows.callWith_type1 (args_cons (thn (he.run pins s σ H _ J h) fun u s1 ⟨v, H1, J1, r1, q1⟩ => args_nil (k u s1 v H1 J1 r1 q1)) n1) n1 rfl))
  refine Call_ (ld_blt J hg hm bt_list (PyProof.Rows.callWith_type1 (args_cons (inner fun u s1 v H1 J1 r1 q1 => ?_) n2) n2 rfl))
  obtain ⟨a, xs, rfl, hq, q⟩ := q1
  obtain rfl : u = Value.ref a := r1
  obtain ⟨its, rv, pl, hz⟩ := J1.list hq
  refine call_reversed_list pl.isList (args_nil ?_)
  have J2 : Inv X pins σ H1 { s1 with heap := s1.heap.push (revObj a ((its.toArray.size : Int) - 1)) } := J1.kept (t' := s1.toks) fun b o e => Heap.get?_push_of_some _ e
  have fp := J1.fpOk (H' := H1) (b := s1.heap.objs.size) (Nat.le_refl _) (J1.hok.fresh (Nat.le_refl _))
  obtain ⟨ol, hol, _⟩ := id pl.isList
  have hn : its.toArray.size ≤ sizeLine := by rw [List.size_toArray, ← rv.length]; exact hz
  refine rev_list (s := { s1 with heap := s1.heap.push (revObj a ((its.toArray.size : Int) - 1)) }) (J1.ok.hd hc) ⟨_, Heap.get?_push_size _ rfl, rfl, rfl⟩ (pl.isList.push _) (Nat.ne_of_lt (Heap.lt_size hol)) hn ?_
  intro h' tk acc c' hk hS hi
  have fresh : H1 (s1.heap.push (revObj a ((its.toArray.size : Int) - 1))).objs.size = none := J2.hok.fresh (Nat.le_refl _)
  refine ⟨.ref _, upd H1 _ (.lst xs.reverse), ?_, rfl, q _ fresh⟩
  have vr : Vals xs.reverse acc.toList := RT.vals_rev rv hi
  have ok : ObjOk X.prog X.w (upd H1 (s1.heap.push (revObj a ((its.toArray.size : Int) - 1))).objs.size (.lst xs.reverse)) h' (s1.heap.push (revObj a ((its.toArray.size : Int) - 1))).objs.size (.lst xs.reverse) :=
    ⟨by rw [List.length_reverse]; exact hz, acc.toList, c', vr, by rw [Array.toArray_toList]; exact hS⟩
  refine J2.turnedNew (ch := [s1.heap.objs.size]) (fun b o hb e => hk b o (fun z => hb (List.mem_singleton.mpr z)) e) (fun b hb => ?_) (Nat.le_refl _) ok
  obtain rfl := List.mem_singleton.mp hb
  exact fp
end
end Pd

set_option maxHeartbeats 4000000
namespace Pd
open PySem PySem.Spec PyProof.Rows L2
/-! ### the script and the bag of draws -/
/-- a field of an instance: a value, a list of its own -/
inductive FV where
  | v (d : D)
  | l (ds : List D)
/-- an object that many hold: an instance (its class's name, the names of its fields, the fields), a list -/
inductive OC where
  | ins (c : Str) (ns : List Str) (vs : List FV)
  | lst (l : List D)
abbrev OM := Addr → Option OC
/-- the list of the bag's cells, the objects, where their own lists lie -/
structure LO where
  l : Addr
  o : OM
  p : Addr → Nat → Addr
theorem lookup_at {f : Str} {v : V} : ∀ {fs : List (Str × V)} {i : Nat}, (fs.map (·.1)).Nodup → fs[i]? = some (f, v) → fs.lookup f = some v
  | [], _, _, e => by simp at e
  | (g, x) :: r, 0, _, e => by
    have e : (g, x) = (f, v) := by simpa using e
    cases e
    simp [List.lookup]
  | (g, x) :: r, i + 1, n, e => by
    have e : r[i]? = some (f, v) := by simpa using e
    rw [List.map_cons, List.nodup_cons] at n
    have ne : f ≠ g := fun z => n.1 (z ▸ List.mem_map.mpr ⟨_, List.mem_of_getElem? e, rfl⟩)
    have hb : (f == g) = false := beq_eq_false_iff_ne.mpr ne
    simp only [List.lookup, hb]
    exact lookup_at n.2 e
theorem lookup_off {f : Str} : ∀ {fs : List (Str × V)}, f ∉ fs.map (·.1) → fs.lookup f = none
  | [], _ => rfl
  | (g, x) :: r, n => by
    rw [List.map_cons, List.mem_cons, not_or] at n
    have hb : (f == g) = false := beq_eq_false_iff_ne.mpr n.1
    simp only [List.lookup, hb]
    exact lookup_off n.2
theorem putF_at {f : Str} {v0 v : V} : ∀ {fs : List (Str × V)} {i : Nat}, (fs.map (·.1)).Nodup → fs[i]? = some (f, v0) → putF f v fs = fs.set i (f, v)
  | [], _, _, e => by simp at e
  | (g, x) :: r, 0, _, e => by
    have e : (g, x) = (f, v0) := by simpa using e
    cases e
    show (if f = f then (f, v) :: r else _) = _
    rw [if_pos rfl]
    rfl
  | (g, x) :: r, i + 1, n, e => by
    have e : r[i]? = some (f, v0) := by simpa using e
    rw [List.map_cons, List.nodup_cons] at n
    have ne : ¬ g = f := fun z => n.1 (z ▸ List.mem_map.mpr ⟨_, List.mem_of_getElem? e, rfl⟩)
    show (if g = f then _ else (g, x) :: putF f v r) = _
    rw [if_neg ne, putF_at n.2 e]
    rfl
theorem putF_off {f : Str} {v : V} : ∀ {fs : List (Str × V)}, f ∉ fs.map (·.1) → putF f v fs = fs ++ [(f, v)]
  | [], _ => rfl
  | (g, x) :: r, n => by
    rw [List.map_cons, List.mem_cons, not_or] at n
    show (if g = f then _ else (g, x) :: putF f v r) = _
    rw [if_neg fun z => n.1 z.symm, putF_off n.2]
    rfl
inductive BS where
  | scr (real : Bool) (a : Addr) (ns : List Int)
  | bag (b : Addr) (l : LO)
/-- where an object's own lists lie -/
def OC.own (p : Nat → Addr) : OC → Ad
  | .ins _ _ vs => fun x => ∃ i ds, vs[i]? = some (.l ds) ∧ x = p i
  | .lst _ => fun _ => False
/-- x is an own list of the object at a -/
def ownAt (L : LO) (a : Addr) : Ad := fun x => ∃ oc, L.o a = some oc ∧ oc.own (L.p a) x
def bsB : BS → Ad
  | .scr r a _ => fun x => r = true ∧ x = a
  | .bag b l => fun x => x = b ∨ x = l.l ∨ l.o x ≠ none ∨ ∃ a, ownAt l a x
def BagI (b l : Addr) (H : Hp) (cs : List Int) (dg mx : Int) : Prop :=
  H b = some (.lst [.ref l, .int dg, .int mx]) ∧ H l = some (.lst (cs.map V.int)) ∧ (∀ c ∈ cs, 0 ≤ c) ∧ 0 ≤ dg ∧ 0 ≤ mx ∧ mx < 2147483647
def FvOk (R : Ad) (H : Hp) (p : Addr) : FV → V → Prop
  | .v d, v => Rs R H d v
  | .l ds, v => v = .ref p ∧ ∃ xs, H p = some (.lst xs) ∧ RsL R H ds xs
def OcOk (mg : Str → Option Value) (p : Nat → Addr) (R : Ad) (H : Hp) (a : Addr) : OC → Prop
  | .ins c ns vs => ns.Nodup ∧ vs.length = ns.length ∧ (∃ C dx fs, mg c = some (.ref C) ∧ H a = some (.ins C dx fs) ∧ fs.map (·.1) = ns ∧ ∀ i fv, vs[i]? = some fv → ∃ n v, fs[i]? = some (n, v) ∧ FvOk R H (p i) fv v) ∧
    ∀ i j ds es, vs[i]? = some (.l ds) → vs[j]? = some (.l es) → p i = p j → i = j
  | .lst l => ∃ xs, H a = some (.lst xs) ∧ RsL R H l xs
/-- the objects, as the names of classes stand -/
structure OJ (mg : Str → Option Value) (b : Addr) (L : LO) (R : Ad) (H : Hp) : Prop where
  ok : ∀ a oc, L.o a = some oc → OcOk mg (L.p a) R H a oc
  nb : L.o b = none
  nl : L.o L.l = none
  pv : ∀ a x, ownAt L a x → x ≠ b ∧ x ≠ L.l ∧ L.o x = none
  dj : ∀ a a' x, ownAt L a x → ownAt L a' x → a = a'
/-- none: there are no objects -/
def OI : Option (Str → Option Value) → Addr → LO → Ad → Hp → Prop
  | none, _, L, _, _ => ∀ a, L.o a = none
  | some mg, b, L, R, H => OJ mg b L R H
theorem FvOk.go {R R' : Ad} {H H' : Hp} {p : Addr} {fv : FV} {v : V} (h : FvOk R H p fv v) (hR : ∀ a, R' a → R a ∨ H a = none) (hA : Agr R H H') (e : ∀ ds, fv = .l ds → H' p = H p) : FvOk R' H' p fv v := by
  cases fv with
  | v d => exact Rs.go hR hA h
  | l ds => obtain ⟨h1, xs, h2, h3⟩ := h; exact ⟨h1, xs, (e ds rfl).trans h2, h3.go hR hA⟩
theorem OcOk.go {mg : Str → Option Value} {p : Nat → Addr} {R R' : Ad} {H H' : Hp} {a : Addr} {oc : OC} (h : OcOk mg p R H a oc) (hR : ∀ a, R' a → R a ∨ H a = none) (hA : Agr R H H') (e : H' a = H a) (eo : ∀ x, oc.own p x → H' x = H x) : OcOk mg p R' H' a oc := by
  cases oc with
  | ins c ns vs =>
    obtain ⟨n1, n2, ⟨C, dx, fs, h1, h2, h3, h4⟩, h5⟩ := h
    refine ⟨n1, n2, ⟨C, dx, fs, h1, e.trans h2, h3, fun i fv hf => ?_⟩, h5⟩
    obtain ⟨n, v, k1, k2⟩ := h4 i fv hf
    exact ⟨n, v, k1, k2.go hR hA fun ds z => by subst z; exact eo _ ⟨i, ds, hf, rfl⟩⟩
  | lst l => obtain ⟨xs, h1, h2⟩ := h; exact ⟨xs, e.trans h1, h2.go hR hA⟩
theorem OcOk.here {mg : Str → Option Value} {p : Nat → Addr} {R : Ad} {H : Hp} {a : Addr} {oc : OC} (h : OcOk mg p R H a oc) : H a ≠ none := by
  cases oc with
  | ins c ns vs => obtain ⟨_, _, ⟨C, dx, fs, h1, h2, _⟩, _⟩ := h; rw [h2]; simp
  | lst l => obtain ⟨xs, h1, h2⟩ := h; rw [h1]; simp
theorem OcOk.own_here {mg : Str → Option Value} {p : Nat → Addr} {R : Ad} {H : Hp} {a x : Addr} {oc : OC} (h : OcOk mg p R H a oc) (hx : oc.own p x) : ∃ xs, H x = some (.lst xs) := by
  cases oc with
  | ins c ns vs =>
    obtain ⟨_, _, ⟨C, dx, fs, h1, h2, h3, h4⟩, _⟩ := h
    obtain ⟨i, ds, hf, rfl⟩ := hx
    obtain ⟨n, v, _, _, xs, k, _⟩ := h4 i _ hf
    exact ⟨xs, k⟩
  | lst l => exact hx.elim
theorem OI.go {M : Option (Str → Option Value)} {b : Addr} {L : LO} {R R' : Ad} {H H' : Hp} (h : OI M b L R H) (hR : ∀ a, R' a → R a ∨ H a = none) (hA : Agr R H H') (e : ∀ a, L.o a ≠ none → H' a = H a) (eo : ∀ a x, ownAt L a x → H' x = H x) : OI M b L R' H' := by
  cases M with
  | none => exact h
  | some mg => exact ⟨fun a oc k => (h.ok a oc k).go hR hA (e a (by rw [k]; simp)) fun x z => eo a x ⟨oc, k, z⟩, h.nb, h.nl, h.pv, h.dj⟩
theorem OI.here {M : Option (Str → Option Value)} {b : Addr} {L : LO} {R : Ad} {H : Hp} (h : OI M b L R H) {a : Addr} (e : L.o a ≠ none) : H a ≠ none := by
  cases M with
  | none => exact (e (h a)).elim
  | some mg =>
    cases k : L.o a with
    | none => exact (e k).elim
    | some oc => exact (h.ok a oc k).here
theorem OI.own_here {M : Option (Str → Option Value)} {b : Addr} {L : LO} {R : Ad} {H : Hp} (h : OI M b L R H) {a x : Addr} (e : ownAt L a x) : H x ≠ none := by
  obtain ⟨oc, k, z⟩ := e
  cases M with
  | none => rw [h a] at k; cases k
  | some mg => obtain ⟨xs, q⟩ := (h.ok a oc k).own_here z; rw [q]; simp
theorem OI.off {M : Option (Str → Option Value)} {b : Addr} {L : LO} {R : Ad} {H : Hp} (h : OI M b L R H) : L.o b = none ∧ L.o L.l = none ∧ ∀ a x, ownAt L a x → x ≠ b ∧ x ≠ L.l := by
  cases M with
  | none => exact ⟨h _, h _, fun a x ⟨oc, k, _⟩ => (by rw [h a] at k; cases k)⟩
  | some mg => exact ⟨h.nb, h.nl, fun a x z => ⟨(h.pv a x z).1, (h.pv a x z).2.1⟩⟩
def bsI (K : Fg) (M : Option (Str → Option Value)) : BS → Ad → Hp → Prop
  | .scr true a ns, _, H => Rd H a (.lst (ns.map V.int))
  | .scr false a ns, _, _ => SqL K (fun _ => none) a (ns.map V.int)
  | .bag b l, R, H => b ≠ l.l ∧ OI M b l R H ∧ ∃ cs dg mx, BagI b l.l H cs dg mx
/-- nothing in the objects -/
def bsC : Option (Str → Option Value) → BS → Prop
  | none, _ => True
  | some _, .bag _ l => ∀ a, l.o a = none
  | some _, .scr _ _ _ => True
abbrev BM (K : Fg) (M : Option (Str → Option Value)) : Amb where
  S := BS
  B := bsB
  I := bsI K M
  dom := fun {s R H a} i h => by
    cases s with
    | scr r x ns =>
      obtain ⟨rfl, rfl⟩ := h
      rcases i with i | ⟨o, i⟩ <;> rw [i] <;> simp
    | bag b l =>
      obtain ⟨_, hO, cs, dg, mx, h1, h2, _⟩ := i
      rcases h with rfl | rfl | h | ⟨a, h⟩
      · rw [h1]; simp
      · rw [h2]; simp
      · exact hO.here h
      · exact hO.own_here h
  loc := fun {s R R' H H'} i hR hA h => by
    cases s with
    | scr r x ns =>
      cases r with
      | true => exact i.imp (fun e => (h x ⟨rfl, rfl⟩).trans e) fun ⟨o, e⟩ => ⟨o, (h x ⟨rfl, rfl⟩).trans e⟩
      | false => exact i
    | bag b l =>
      obtain ⟨n, hO, cs, dg, mx, h1, h2, h3⟩ := i
      exact ⟨n, hO.go hR hA (fun a z => h a (.inr (.inr (.inl z)))) (fun a x z => h x (.inr (.inr (.inr ⟨a, z⟩)))), cs, dg, mx, (h b (.inl rfl)).trans h1, (h l.l (.inr (.inl rfl))).trans h2, h3⟩
  cl := bsC M
  cln := fun {s R R' H} c i => by
    cases s with
    | scr r x ns => cases r <;> exact i
    | bag b l =>
      obtain ⟨n, hO, i⟩ := i
      refine ⟨n, ?_, i⟩
      cases M with
      | none => exact hO
      | some mg => exact ⟨fun a oc k => (by rw [c a] at k; cases k), hO.nb, hO.nl, hO.pv, hO.dj⟩
abbrev BA (K : Fg) : Amb := BM K none
theorem scr_seq {K : Fg} {r : Bool} {a : Addr} {ns : List Int} {H : Hp} {M : Option (Str → Option Value)} {R : Ad} (h : bsI K M (.scr r a ns) R H) : SqL K H a (ns.map V.int) := by
  cases r with
  | true => exact .inl h
  | false =>
    rcases h with (h | ⟨o, h⟩) | h
    · cases h
    · cases h
    · exact .inr h
/-- script[:k] -/
def fScr (i : Nat) (hi : FP BS) : FE BS := fun ρ s Φ => match ρ[i]? with
  | some (.v (.any (.ref a))) => (match s with
    | .scr r a' ns => a' = a ∧ hi ρ s fun u s1 => s1 = s ∧ Φ (.lst ((cutL ns none u).map D.int)) s
    | _ => False)
  | _ => False
section
variable {K : Fg} {M : Option (Str → Option Value)} {m sh : Bool} {th : TO} {fh : FP BS}
theorem cut_map {α β : Type} (f : α → β) (l : List α) (lo hi : Option Int) : cutL (l.map f) lo hi = (cutL l lo hi).map f := by
  unfold cutL
  rw [List.length_map, List.map_take, List.map_drop]
theorem sd_scr (i : Nat) (hh : SdP (BM K M) th fh) : SdE (BM K M) m sh (tSl (rSlX K) (tVar i) tNoPart th) (fScr i fh) := fun W s0 H0 s σ H ρ Φ Q R hp q => by
  unfold fScr at hp
  split at hp
  · rename_i a e
    split at hp
    · rename_i r a' ns
      obtain ⟨rfl, hp⟩ := hp
      obtain ⟨v, h1, h2⟩ := R.vals i _ e
      obtain rfl : v = .ref a' := by cases h2; rfl
      refine ⟨.ref a', h1, ?_⟩
      refine hh W s0 H0 _ σ H ρ _ _ R hp fun u s1 H1 ⟨es, hq⟩ R1 st1 => ?_
      subst es
      refine .inl ⟨a', ns.map V.int, rfl, scr_seq R1.amb, fun p hn => q _ _ _ _ hq (R1.alloc hn _) (st1.trans (Stp.fresh hn)) (RV.newL R1 hn ?_)⟩
      have e2 : cutV (ns.map V.int) none u = (cutL ns none u).map V.int := (cut_map V.int ns none u)
      rw [e2]
      exact RsL.ofInts _
    · exact hp.elim
  · exact hp.elim
end
/-- return of the bag -/
def fRetBag (f : FX BS) : FS BS := fun P ρ s => f ρ s fun ds s1 => (∃ r a ns, s1 = .scr r a ns) ∧ ∃ (cs : List Int) (dg mx : Int), ds = [.o (.lst (cs.map D.int)), .v (.int dg), .v (.int mx)] ∧ (∀ c ∈ cs, (0 : Int) ≤ c) ∧ 0 ≤ dg ∧ 0 ≤ mx ∧ mx < 2147483647 ∧ ∀ b l, P.rt (.d (.any (.ref b))) (.bag b l)
/-- list(reversed(list)), xs[::-1], as a new thing of one's own -/
def fRevO {S : Type} (f : FE S) : FO S := fun ρ s Φ => f ρ s fun d s1 => match d with
  | .lst l => Φ (.lst l.reverse) s1
  | _ => False
theorem RsL.reverse {B : Ad} {H : Hp} : ∀ {l : List D} {xs : List V}, RsL B H l xs → RsL B H l.reverse xs.reverse
  | _, _, .nil => .nil
  | _, _, .cons h r => by
    rw [List.reverse_cons, List.reverse_cons]
    exact r.reverse.append (RsL.one h)
theorem none_back {A : Amb} {s s1 : A.S} {H H1 : Hp} {p : Addr} (st : Stp A s s1 H H1) (hp : H1 p = none) : H p = none := by
  cases e : H p with
  | none => rfl
  | some o => exact (st.dom p (by rw [e]; simp) hp).elim
section
variable {A : Amb} {m sh sh1 : Bool} {te : TE} {fe : FE A} {K : Fg}
theorem so_new {W : Ot} {s0 s s1 : A.S} {H0 H H1 : Hp} {σ : Sg} {ρ : List Sl} {Φ : Mo → A.S → Prop} {Q : VK} {l : List D} {xs : List V} (R1 : ER A W s0 H0 s1 σ H1 ρ) (st1 : Stp A s s1 H H1) (k2 : RsL (om true A W s1 σ ρ) H1 l xs) (h1 : Φ (.lst l) s1) (p : Addr) (hp : H1 p = none)
    (q : ∀ mo s' p H', Φ mo s' → ER A (W.add p) s0 H0 s' σ H' ρ → Stp A s s' H H' → H p = none → MoAt (om true A (W.add p) s' σ ρ) H' p mo → ¬ W.w p → ¬ A.B s' p → Q (.ref p) H') : Q (.ref p) (upd H1 p (.lst xs)) :=
  q _ s1 p _ h1 (R1.wide hp _) (st1.trans (Stp.fresh hp)) (none_back st1 hp) ⟨xs, upd_same, RsL.wide hp _ k2⟩ (fun z => R1.wd p z hp) (fun z => A.dom R1.amb z hp)
theorem so_lstRev (h : SdE A true sh1 te fe) : SdO A (tLstRev K te) (fRevO fe) := fun W s0 H0 s σ H ρ Φ Q R hp q => h W s0 H0 s σ H ρ _ _ R hp fun d s1 v H1 h1 R1 st1 r1 => by
  cases d with
  | lst l =>
    obtain ⟨a, xs, rfl, k1, k2, _⟩ := r1.lst
    exact ⟨a, xs, rfl, .of k1, fun p hp => so_new R1 st1 k2.reverse h1 p hp q⟩
  | _ => exact h1.elim
theorem so_revL (h : SdE A true sh1 te fe) : SdO A (tRevL K te) (fRevO fe) := fun W s0 H0 s σ H ρ Φ Q R hp q => h W s0 H0 s σ H ρ _ _ R hp fun d s1 v H1 h1 R1 st1 r1 => by
  cases d with
  | lst l =>
    obtain ⟨a, xs, rfl, k1, k2, _⟩ := r1.lst
    exact ⟨a, xs, rfl, .of k1, fun p hp => so_new R1 st1 k2.reverse h1 p hp q⟩
  | _ => exact h1.elim
end
theorem ints_of {B : Ad} {H : Hp} {cs : List Int} {xs : List V} (h : RsL B H (cs.map D.int) xs) : xs = cs.map V.int := h.ints
section
variable {K : Fg} {M : Option (Str → Option Value)}
theorem ss_retBag {t : TA} {f : FX BS} (h : SdX (BM K M) 3 t f) : SdS (BM K M) (tRet (tLst t)) (fRetBag f) := fun W s0 H0 s σ H ρ P D R hp _ _ _ rt => by
  refine h W s0 H0 s σ H ρ _ _ R hp fun l s1 vs H1 ps hq R1 st1 rx nd hf hl => ?_
  obtain ⟨⟨r, a, ns, rfl⟩, cs, dg, mx, rfl, c1, c2, c3, c4, hrt⟩ := hq
  have e3 : vs.length = 3 := by rw [rx.len]; rfl
  refine ⟨by rw [e3, line_eq]; omega, fun b hb => ?_⟩
  cases rx with
  | @o ps' mo p l' vs2 hm rx =>
    cases rx with
    | v r1 rx =>
      cases rx with
      | v r2 rx =>
        cases rx with
        | nil =>
          cases r1
          cases r2
          obtain ⟨xs, e1, e2⟩ := hm
          obtain rfl := ints_of e2
          obtain ⟨pn, pw, pb⟩ := hf p (List.mem_singleton.mpr rfl)
          have bp : b ≠ p := fun z => by
            subst z
            rw [hb] at e1
            cases e1
          have hb0 : H0 b = none := R.fresh0 (none_back st1 hb)
          have hp0 : H0 p = none := R.fresh0 pn
          have sg := R1.stp
          have st2 : Stp (BM K M) s0 (BS.bag b ⟨p, fun _ => none, fun _ _ => 0⟩) H0 (upd H1 b (.lst [.ref p, .int dg, .int mx])) := {
            agr := fun x u e n => by
              have k := sg.agr x u e n
              rw [upd_ne (ne_of_none k hb)]
              exact k
            new := fun x z => by
              rcases z with rfl | rfl | z | ⟨_, _, z, _⟩
              · exact .inr hb0
              · exact .inr hp0
              · exact (z rfl).elim
              · cases z
            dom := fun x e => by
              by_cases z : x = b
              · subst z; rw [upd_same]; simp
              · rw [upd_ne z]; exact sg.dom x e }
          have oi : ∀ R H, OI M b ⟨p, fun _ => none, fun _ _ => 0⟩ R H := fun R H => by
            cases M with
            | none => exact fun _ => rfl
            | some mg => exact ⟨fun _ _ z => (by cases z), rfl, rfl, fun _ _ ⟨_, z, _⟩ => (by cases z), fun _ _ _ ⟨_, z, _⟩ => (by cases z)⟩
          refine rt _ _ _ _ (hrt b ⟨p, fun _ => none, fun _ _ => 0⟩) ⟨bp, oi _ _, cs, dg, mx, upd_same, ?_, c1, c2, c3, c4⟩ st2 (fun a z => ?_) (.any _)
          · rw [upd_ne bp.symm]; exact e1
          · by_cases z2 : a = b
            · subst z2; rw [upd_same]; simp
            · rw [upd_ne z2]
              exact R1.wd a ((adds_w _ _ _).mpr (.inl z))
end
section
variable {K : Fg}
/-! ### the draw -/
abbrev tRd (K : Fg) (i k : Nat) : TE := tOp (rIx K) (tVar i) (tC (.int k))
theorem t_rd {i k : Nat} {σ : Sg} {H : Hp} {Q : VK} {b : Addr} {xs : List V} {v : V} (h0 : σ[i]? = some (some (.ref b))) (hb : H b = some (.lst xs)) (hk : L2.atI xs k = some v) (q : Q v H) : tRd K i k σ H Q :=
  ⟨.ref b, h0, .inl ⟨b, xs, k, v, rfl, rfl, .inl (.inl hb), hk, q⟩⟩
abbrev tDrawCell (K : Fg) : TS := tAsg (tBM0 K "list" rPop (tRd K 0 0)) (gName 2)
abbrev tDrawLoop (K : Fg) : TS := tWhile (tAnd (tTest (tOp rEq (tRd K 0 1) (tC (.int 0)))) (tTest (tOp (rNeD K) (tRd K 0 0) (tLst tNil))))
  (tSeq (tDrawCell K) (tAsg (tIf (tTest (tOp (rI0 fun i j => .bl (decide (j < i))) (tVar 2) (tOp (rI CPow fun i j => .int (i ^ j.toNat)) (tC (.int 10)) (tC (.int 9))))) (tVar 2) (tC (.int 0))) (gSub (tVar 0) (tC (.int 1)) rSetL)))
abbrev tInt1 (t : TE) : TE := tCB rIntA (tCons t tNil)
abbrev tDrawTake (K : Fg) : TS := tIfS (tTest (tOp (rI0 fun i j => .bl (decide (j < i))) (tRd K 0 1) (tC (.int 0))))
  (tSeq (tAsg (tOp (rI (fun _ j => 0 < j) fun i j => .int (i % j)) (tInt1 (tRd K 0 1)) (tVar 1)) (gName 3))
  (tSeq (tAsg (tOp (rI CDivW fun i j => .int (i / j)) (tRd K 0 1) (tVar 1)) (gSub (tVar 0) (tC (.int 1)) rSetL)) (tRet (tVar 3)))) tNext
abbrev tDrawMix (K : Fg) : TS := tAsg (tOp (rI (fun _ j => 0 < j) fun i j => .int (i % j)) (tInt1 (tOp (rAddA K) (tOp rMulA (tRd K 0 2) (tC (.int 48271))) (tC (.int 11)))) (tC (.int 2147483647))) (gSub (tVar 0) (tC (.int 2)) rSetL)
/-- the square of the mixed number, by int(..) or as it is -/
abbrev tDrawSq (K : Fg) : Bool → TE
  | false => tInt1 (tOp rMulA (tRd K 0 2) (tRd K 0 2))
  | true => tOp rMulA (tRd K 0 2) (tRd K 0 2)
abbrev tDrawEnd (K : Fg) (v : Bool) : TS := tRet (tOp (rI (fun _ j => 0 < j) fun i j => .int (i % j)) (tInt1 (tOp (rI CDivW fun i j => .int (i / j)) (tOp (rI (fun _ j => 0 < j) fun i j => .int (i % j)) (tDrawSq K v) (tC (.int 2147483629))) (tC (.int 7)))) (tVar 1))
abbrev tDraw (K : Fg) (v : Bool := false) : TS := tSeq (tDrawLoop K) (tSeq (tDrawTake K) (tSeq (tDrawMix K) (tDrawEnd K v)))
def fDraw : FS BS := fun P ρ s => ∃ b l n, ρ = [.v (.any (.ref b)), .v (.int n), .e, .e] ∧ s = .bag b l ∧ 0 < n ∧ n.natAbs.log2 < 9000 ∧ ∀ r, 0 ≤ r → r < n → P.rt (.d (.int r)) s
theorem shaped_ints : ∀ cs : List Int, SeqAt.shaped (.list (cs.map PyData.int)) = true := fun cs => by
  have h1 : ∀ l : List Int, PyData.canLayAll0 (l.map PyData.int) = true := fun l => by
    induction l with
    | nil => rfl
    | cons x r ih =>
      rw [List.map_cons, PyData.canLayAll0, ih, PyData.canLay0, Bool.and_self]
  have h2 : ∀ l : List Int, PyData.depthAll (l.map PyData.int) ≤ 1 := fun l => by
    induction l with
    | nil => simp [PyData.depthAll]
    | cons x r ih =>
      simp only [List.map_cons, PyData.depthAll, PyData.depth]
      omega
  unfold SeqAt.shaped
  rw [Bool.and_eq_true, decide_eq_true_eq]
  refine ⟨by rw [PyData.canLay0]; exact h1 cs, ?_⟩
  have := h2 cs
  simp only [PyData.depth]
  omega
theorem dp_ints {K : Fg} {H : Hp} : ∀ cs : List Int, DpAll K H (cs.map V.int) (cs.map PyData.int)
  | [] => .nil
  | c :: cs => .cons (.int c) (dp_ints cs)
theorem eqv_ints : ∀ cs : List Int, PyData.eqv (.list (cs.map PyData.int)) (.list []) = decide (cs = []) := fun cs => by
  cases cs with
  | nil => rfl
  | cons c r => rfl
theorem ite_t {c : Bool} {p q : Prop} (h : c = true) (x : p) : if c = true then p else q := by rw [if_pos h]; exact x
theorem ite_f {c : Bool} {p q : Prop} (h : c = false) (x : q) : if c = true then p else q := by rw [h, if_neg (by decide)]; exact x
variable {M : Option (Str → Option Value)}
theorem sd_draw {v : Bool} : SdS (BM K M) (tDraw K v) fDraw := fun W s0 H0 s σ H ρ P D R hp _ _ _ rt => by
  obtain ⟨b, ⟨l, om, pp⟩, n, rfl, rfl, hn, hl, hP⟩ := hp
  obtain ⟨v0, e0, r0⟩ := R.vals 0 _ rfl
  obtain ⟨v1, e1, r1⟩ := R.vals 1 _ rfl
  cases r0
  cases r1
  have hlen : σ.length = 4 := R.len
  obtain ⟨bl, hO, i0⟩ := Amb.sub R.amb om_low
  obtain ⟨ob, ol, op⟩ := hO.off
  dsimp only at bl ob ol i0
  have fin : ∀ r H', 0 ≤ r → r < n → (∀ a o, a ≠ b → a ≠ l → H a = some o → H' a = some o) → (∃ cs dg mx, BagI b l H' cs dg mx) → D.rt (.int r) H' := fun r H' h0 h1 h2 h3 => by
    have st : Stp (BM K M) (BS.bag b ⟨l, om, pp⟩) (BS.bag b ⟨l, om, pp⟩) H H' := {
      agr := fun a o e z => by
        exact h2 a o (fun y => z (.inl y)) (fun y => z (.inr (.inl y))) e
      new := fun a z => .inl z
      dom := fun a z => by
        obtain ⟨cs, dg, mx, k1, k2, _⟩ := h3
        by_cases y : a = b
        · subst y; rw [k1]; simp
        · by_cases y2 : a = l
          · subst y2; rw [k2]; simp
          · cases q : H a with
            | none => exact (z q).elim
            | some o => rw [h2 a o y y2 q]; simp }
    have ho : ∀ a, om a ≠ none → H' a = H a := fun a z => by
      have k := hO.here z
      cases q : H a with
      | none => exact (k q).elim
      | some o => exact h2 a o (fun y => by subst y; exact z ob) (fun y => by subst y; exact z ol) q
    have ho2 : ∀ a x, ownAt ⟨l, om, pp⟩ a x → H' x = H x := fun a x z => by
      have k := hO.own_here z
      cases q : H x with
      | none => exact (k q).elim
      | some o => exact h2 x o (op a x z).1 (op a x z).2 q
    have hA : Agr (fun a => W.w a ∨ bsB (.bag b ⟨l, om, pp⟩) a) H H' := fun a o e z => h2 a o (fun y => z (.inr (.inl y))) (fun y => z (.inr (.inr (.inl y)))) e
    exact rt (.d (.int r)) (.bag b ⟨l, om, pp⟩) (.int r) H' (hP r h0 h1) ⟨bl, hO.go (fun a z => .inl z) hA ho ho2, h3⟩ (R.stp.trans st) (fun a w => st.dom a (R.wd a w)) (.int r)
  have rest : ∀ (σ' : Sg) (H' : Hp) (cs : List Int) (dg mx : Int), σ'[0]? = some (some (.ref b)) → σ'[1]? = some (some (.int n)) → σ'.length = 4 → (∀ a o, a ≠ b → a ≠ l → H a = some o → H' a = some o) → BagI b l H' cs dg mx → (tSeq (tDrawTake K) (tSeq (tDrawMix K) (tDrawEnd K v))) D σ' H' := by
    intro σ' H' cs dg mx f0 f1 fl far ⟨k1, k2, k3, k4, k5, k6⟩
    refine t_rd f0 k1 rfl ⟨dg, 0, rfl, rfl, _, rfl, ?_⟩
    by_cases hd : (0 : Int) < dg
    · refine ite_t (decide_eq_true hd) ?_
      refine t_rd f0 k1 rfl (.inl ⟨dg, rfl, .int n, f1, dg, n, rfl, rfl, hn, ?_⟩)
      have g0 : (σ'.set 3 (some (V.int (dg % n))))[0]? = some (some (.ref b)) := by rw [List.getElem?_set_ne (by decide)]; exact f0
      have g1 : (σ'.set 3 (some (V.int (dg % n))))[1]? = some (some (.int n)) := by rw [List.getElem?_set_ne (by decide)]; exact f1
      have g3 : (σ'.set 3 (some (V.int (dg % n))))[3]? = some (some (.int (dg % n))) := List.getElem?_set_self (by omega)
      refine t_rd g0 k1 rfl ⟨.int n, g1, dg, n, rfl, rfl, ⟨hn, hl⟩, ?_⟩
      refine ⟨.ref b, g0, b, _, 1, 1, rfl, rfl, k1, rfl, ?_⟩
      refine ⟨.int (dg % n), g3, ?_⟩
      refine fin _ _ (Int.emod_nonneg _ (by omega)) (Int.emod_lt_of_pos _ hn) (fun a o y y2 e => by rw [upd_ne y]; exact far a o y y2 e) ⟨cs, dg / n, mx, upd_same, ?_, k3, Int.ediv_nonneg k4 (by omega), k5, k6⟩
      rw [upd_ne bl.symm]
      exact k2
    · refine ite_f (decide_eq_false hd) ?_
      have cm : CMulW mx 48271 := wide_mul (a := 31) (b := 16) (by omega) (by decide) (by decide) (by decide) (by decide)
      refine t_rd f0 k1 rfl (.inl ⟨mx, 48271, rfl, rfl, cm, .inl ⟨mx * 48271, 11, rfl, rfl, .inl ⟨_, rfl, _, _, rfl, rfl, (show (0 : Int) < 2147483647 by decide), ?_⟩⟩⟩)
      refine ⟨.ref b, f0, b, _, 2, 2, rfl, rfl, k1, rfl, ?_⟩
      have hm0 : 0 ≤ (mx * 48271 + 11) % 2147483647 := Int.emod_nonneg _ (by decide)
      have hm1 : (mx * 48271 + 11) % 2147483647 < 2147483647 := Int.emod_lt_of_pos _ (by decide)
      obtain ⟨my, hmy⟩ : ∃ my, my = (mx * 48271 + 11) % 2147483647 := ⟨_, rfl⟩
      rw [← hmy] at hm0 hm1
      have k1' : (upd H' b (.lst ([V.ref l, V.int dg, V.int mx].set 2 (V.int ((mx * 48271 + 11) % 2147483647))))) b = some (.lst [.ref l, .int dg, .int my]) := by
        rw [hmy]
        exact upd_same
      have cm2 : CMulW my my := wide_mul (a := 31) (b := 31) (by omega) (by omega) (by decide) (by decide) (by decide)
      cases v with
      | false =>
        refine t_rd f0 k1' rfl (t_rd f0 k1' rfl (.inl ⟨my, my, rfl, rfl, cm2, .inl ⟨_, rfl, _, _, rfl, rfl, (show (0 : Int) < 2147483629 by decide), _, _, rfl, rfl, ⟨by decide, by decide⟩, .inl ⟨_, rfl, .int n, f1, _, _, rfl, rfl, hn, ?_⟩⟩⟩))
        refine fin _ _ (Int.emod_nonneg _ (by omega)) (Int.emod_lt_of_pos _ hn) (fun a o y y2 e => by rw [upd_ne y]; exact far a o y y2 e) ⟨cs, dg, my, k1', ?_, k3, k4, hm0, hm1⟩
        rw [upd_ne bl.symm]
        exact k2
      | true =>
        refine t_rd f0 k1' rfl (t_rd f0 k1' rfl (.inl ⟨my, my, rfl, rfl, cm2, _, _, rfl, rfl, (show (0 : Int) < 2147483629 by decide), _, _, rfl, rfl, ⟨by decide, by decide⟩, .inl ⟨_, rfl, .int n, f1, _, _, rfl, rfl, hn, ?_⟩⟩))
        refine fin _ _ (Int.emod_nonneg _ (by omega)) (Int.emod_lt_of_pos _ hn) (fun a o y y2 e => by rw [upd_ne y]; exact far a o y y2 e) ⟨cs, dg, my, k1', ?_, k3, k4, hm0, hm1⟩
        rw [upd_ne bl.symm]
        exact k2
  refine ⟨fun m σ' H' => σ'[0]? = some (some (.ref b)) ∧ σ'[1]? = some (some (.int n)) ∧ σ'.length = 4 ∧ (∀ a o, a ≠ b → a ≠ l → H a = some o → H' a = some o) ∧ ∃ cs dg mx, cs.length = m ∧ BagI b l H' cs dg mx, ?_, fun m σ' H' h => ?_⟩
  · obtain ⟨cs, dg, mx, i1⟩ := i0
    exact ⟨cs.length, e0, e1, hlen, fun _ _ _ _ e => e, cs, dg, mx, rfl, i1⟩
  obtain ⟨f0, f1, fl, far, cs, dg, mx, rfl, k1, k2, k3, k4, k5, k6⟩ := h
  refine t_rd f0 k1 rfl ⟨rfl, _, rfl, ?_⟩
  by_cases hd : dg = 0
  · subst hd
    refine ite_t (decide_eq_true rfl) ?_
    refine t_rd f0 k1 rfl ⟨Nat.zero_le _, fun p hp => ?_⟩
    have pb : b ≠ p := fun z => by subst z; rw [k1] at hp; cases hp
    have pl : l ≠ p := fun z => by subst z; rw [k2] at hp; cases hp
    have q1 : (upd H' p (.lst [])) b = some (.lst [.ref l, .int 0, .int mx]) := by rw [upd_ne pb]; exact k1
    have q2 : (upd H' p (.lst [])) l = some (.lst (cs.map V.int)) := by rw [upd_ne pl]; exact k2
    refine ⟨_, _, .lst (.inl (.inl q2)) (dp_ints cs), .lst (.inl (.inl upd_same)) .nil, shaped_ints cs, rfl, ?_⟩
    refine ⟨_, rfl, ?_⟩
    rw [eqv_ints]
    by_cases hc : cs = []
    · subst hc
      refine ite_f rfl ?_
      exact (rest _ _ [] 0 mx f0 f1 fl (fun a o y y2 e => by rw [upd_ne (ne_of_none (far a o y y2 e) hp)]; exact far a o y y2 e) ⟨q1, q2, k3, k4, k5, k6⟩)
    · refine ite_t (by simp [hc]) ?_
      rcases List.eq_nil_or_concat cs with hc' | ⟨r, c, rfl⟩
      · exact (hc hc').elim
      refine ⟨fun σ2 H2 => σ2[0]? = some (some (.ref b)) ∧ σ2[1]? = some (some (.int n)) ∧ σ2.length = 4 ∧ (∀ a o, a ≠ b → a ≠ l → H a = some o → H2 a = some o) ∧ ∃ cs2 dg2 mx2, cs2.length < (r.concat c).length ∧ BagI b l H2 cs2 dg2 mx2, ?_, ?_⟩
      · rintro σ2 H2 ⟨z0, z1, z2, z3, cs2, dg2, mx2, z4, z5⟩
        exact ⟨_, z4, z0, z1, z2, z3, cs2, dg2, mx2, rfl, z5⟩
      rw [List.concat_eq_append] at q2 k3 ⊢
      have c0 : 0 ≤ c := k3 c (List.mem_append_right _ (List.mem_singleton.mpr rfl))
      rw [List.map_append] at q2
      have hlast : ((r.map V.int) ++ [c].map V.int)[((r.map V.int) ++ [c].map V.int).length - 1]? = some (V.int c) := by
        rw [List.length_append, List.length_map, List.length_map, List.length_singleton, Nat.add_sub_cancel, List.getElem?_append_right (by rw [List.length_map]; exact Nat.le_refl _), List.length_map, Nat.sub_self]
        rfl
      refine t_rd f0 q1 rfl ⟨.inl ⟨rfl, _, .inl (.inl q2)⟩, l, _, .int c, rfl, rfl, q2, hlast, ?_⟩
      have hdl : ((r.map V.int) ++ [c].map V.int).dropLast = r.map V.int := by
        show ((r.map V.int) ++ [V.int c]).dropLast = r.map V.int
        exact List.dropLast_concat
      rw [hdl]
      have q3 : (upd (upd H' p (.lst [])) l (.lst (r.map V.int))) b = some (.lst [.ref l, .int 0, .int mx]) := by rw [upd_ne bl]; exact q1
      have q4 : (upd (upd H' p (.lst [])) l (.lst (r.map V.int))) l = some (.lst (r.map V.int)) := upd_same
      have g0 : (σ'.set 2 (some (V.int c)))[0]? = some (some (.ref b)) := by rw [List.getElem?_set_ne (by decide)]; exact f0
      have g1 : (σ'.set 2 (some (V.int c)))[1]? = some (some (.int n)) := by rw [List.getElem?_set_ne (by decide)]; exact f1
      have g2 : (σ'.set 2 (some (V.int c)))[2]? = some (some (.int c)) := List.getElem?_set_self (by omega)
      have gl : (σ'.set 2 (some (V.int c))).length = 4 := by rw [List.length_set]; exact fl
      have put : ∀ d : Int, 0 ≤ d → ∀ (σ2 : Sg), σ2 = σ'.set 2 (some (V.int c)) → gSub (tVar 0) (tC (.int 1)) rSetL (.int d) σ2 (upd (upd H' p (.lst [])) l (.lst (r.map V.int))) (fun σ2 H2 => σ2[0]? = some (some (.ref b)) ∧ σ2[1]? = some (some (.int n)) ∧ σ2.length = 4 ∧ (∀ a o, a ≠ b → a ≠ l → H a = some o → H2 a = some o) ∧ ∃ cs2 dg2 mx2, cs2.length < (r ++ [c]).length ∧ BagI b l H2 cs2 dg2 mx2) := by
        rintro d hd0 _ rfl
        refine ⟨.ref b, g0, b, _, 1, 1, rfl, rfl, q3, rfl, g0, g1, gl, fun a o y y2 e => ?_, r, d, mx, by rw [List.length_append, List.length_singleton]; exact Nat.lt_succ_self _, upd_same, ?_, fun x hx => k3 x (List.mem_append_left _ hx), hd0, k5, k6⟩
        · rw [upd_ne y, upd_ne y2, upd_ne (ne_of_none (far a o y y2 e) hp)]
          exact far a o y y2 e
        · rw [upd_ne bl.symm]
          exact q4
      refine ⟨.int c, g2, 10, 9, rfl, rfl, ⟨by decide, by decide, by decide⟩, c, _, rfl, rfl, _, rfl, ?_⟩
      by_cases hc9 : (10 : Int) ^ (9 : Int).toNat < c
      · exact ite_t (decide_eq_true hc9) ⟨.int c, g2, put c c0 _ rfl⟩
      · exact ite_f (decide_eq_false hc9) (put 0 (by decide) _ rfl)
  · exact ite_f (decide_eq_false (fun z => hd (by cases z; rfl))) (ite_f rfl (rest _ _ cs dg mx f0 f1 fl far ⟨k1, k2, k3, k4, k5, k6⟩))
end
end Pd

set_option maxHeartbeats 4000000
namespace Pd
open PySem PySem.Spec PyProof.Rows L2
section
variable {X : Cx} {m sh sh1 : Bool} {e : Expr} {te : TE} {x : Str} {p p2 pos pos2 : Pos} {hi : Option Expr} {th : TO}
theorem q_scr {M : Option (Str → Option Value)} {fh : FP BS} (i : Nat) (hh : QP X (BM X.K M) hi th fh) (hN : X.N[i]? = some x := by rfl) (hv : Vis X.env.scope x := by first | exact Or.inl rfl | exact Or.inr (Or.inl rfl) | exact Or.inr (Or.inr rfl)) (hd : (x == ("__debug__" : Str)) = false := by decide) (hcd : (x == ("__classdict__" : Str)) = false := by decide) :
    QE X (BM X.K M) m sh (.Subscript (.Name x p) (.Slice none hi none p2) pos) (tSl (rSlX X.K) (tVar i) tNoPart th) (fScr i fh) := ⟨pe_slice sl_x (pe_var hN hv hd hcd) po_none hh.po, sd_scr i hh.sd⟩
theorem qo_lrev {A : Amb} {fe : FE A} (hc : X.calm = true) (hm : X.mg "list" = none) (hm2 : X.mg "reversed" = none) (he : QE X A true true e te fe) (hg : Gl X "list" := by rfl) (hg2 : Gl X "reversed" := by rfl)
    (n1 : starEach [e] X.env = (false, eval e X.env) :: starEach [] X.env := by rfl)
    (n2 : starEach [.Call (.Name "reversed" p2) [e] [] pos2] X.env = (false, eval (.Call (.Name "reversed" p2) [e] [] pos2) X.env) :: starEach [] X.env := by rfl) :
    QO X A (.Call (.Name "list" p) [.Call (.Name "reversed" p2) [e] [] pos2] [] pos) (tLstRev X.K te) (fRevO fe) := ⟨pe_lstRev hc hg hm hg2 hm2 he.pe n1 n2, so_lstRev he.sd⟩
theorem qo_revL {A : Amb} {fe : FE A} {k : Nat} {p1 p3 : Pos} (he : QE X A true true e te fe) : QO X A (.Subscript e (.Slice none none (some (.UnaryOp .USub (.Constant (.int 1) k p1) p2)) p3) pos) (tRevL X.K te) (fRevO fe) := ⟨pe_revL he.pe, so_revL he.sd⟩
theorem z_retBag {M : Option (Str → Option Value)} {es : List Expr} {t : TA} {f : FX BS} (h : QX X (BM X.K M) 3 es t f) : QS X (BM X.K M) (.Return (some (.List es p)) pos) (tRet (tLst t)) (fRetBag f) := ⟨ps_ret (pe_lst h.pa), ss_retBag h.sd⟩
end
section
variable {X : Cx} {A : Amb} {tg it elt : Expr} {wi : TI} {fi : FI A} {ifs : List Expr} {scope : Scope} {ws : List Nat} {gg : Blk5 TG} {hh : FG} {tt : Blk5 TT} {ft : FT A} {te : Blk5 TE} {fe : FE A} {py pos spos : Pos} {y : Str}
theorem z_setLc (i : Nat) (hN : X.N.Nodup) (own : List (Str × Nat)) (hc : X.calm = true) (_ : X.N.Nodup) (hi : QI X A tg it wi fi) (ok : BlkOk X.N X.env.scope scope own)
    (hg : ∀ (s : Shared) (H : Hp) (C : Addr) (cl : List (Str × Addr)) (fp : List Addr), QG (X.blk s H scope (compEnvC scope cl C X.env) fp) A ws tg (gg s H C cl fp) hh) (ht : ∀ (s : Shared) (H : Hp) (C : Addr) (cl : List (Str × Addr)) (fp : List Addr), QTs (X.blk s H scope (compEnvC scope cl C X.env) fp) A ifs (tt s H C cl fp) ft)
    (he : ∀ (s : Shared) (H : Hp) (C : Addr) (cl : List (Str × Addr)) (fp : List Addr), QE (X.blk s H scope (compEnvC scope cl C X.env) fp) A true false elt (te s H C cl fp) fe) (hw : ∀ i ∈ ws, i ∈ own.map (·.2) := by decide) (hy : X.N[i]? = some y := by rfl) (hyl : X.env.scope.names.lookup y = some .local := by rfl)
    (hk : X.env.scope.kind = .function := by rfl) (hl : (py.line == pos.line) = true := by rfl) (ha : (scope.names.any fun (n, k) => n == y && (k == .local || k == .cell)) = false := by decide +kernel) (hs : ∀ x, foldedSetIterable it X.env x = pure x := by intro _; rfl)
    (eg : ∀ s H C cl fp, gg s H C cl fp = at5 gg := by intros; rfl) (et : ∀ s H C cl fp, tt s H C cl fp = at5 tt := by intros; rfl) (ee : ∀ s H C cl fp, te s H C cl fp = at5 te := by intros; rfl) :
    QS X A (.Assign [.Name y py] (.ListComp elt [⟨tg, it, ifs, 0⟩] scope pos) spos) (tAsg (tLc wi (at5 gg) (at5 tt) (at5 te) (own.map (·.2))) (gName i)) (fSet i (fOV (fLc fi (own.map (·.2)) hh ft fe))) := by
  have hg' : ∀ s H C cl fp, QG (X.blk s H scope (compEnvC scope cl C X.env) fp) A ws tg (at5 gg) hh := fun s H C cl fp => eg s H C cl fp ▸ hg s H C cl fp
  have ht' : ∀ s H C cl fp, QTs (X.blk s H scope (compEnvC scope cl C X.env) fp) A ifs (at5 tt) ft := fun s H C cl fp => et s H C cl fp ▸ ht s H C cl fp
  have he' : ∀ s H C cl fp, QE (X.blk s H scope (compEnvC scope cl C X.env) fp) A true false elt (at5 te) fe := fun s H C cl fp => ee s H C cl fp ▸ he s H C cl fp
  have key := ps_setLc (spos := spos) hc hN hy hyl (sw_true hk hyl hl ha) hi.pi ok (fun s H C cl fp => (hg' s H C cl fp).pg) (fun s H C cl fp => (ht' s H C cl fp).pt) (fun s H C cl fp => (he' s H C cl fp).pe) hs
  have so := so_lc hi.sd (hg' {} (fun _ => none) 0 [] []).sd hw (ht' {} (fun _ => none) 0 [] []).sd (he' {} (fun _ => none) 0 [] []).sd
  exact ⟨key, ss_set i (sd_ov so)⟩
theorem z_setLcO (i : Nat) (hN : X.N.Nodup) (own : List (Str × Nat)) (hc : X.calm = true) (_ : X.N.Nodup) (hi : QI X A tg it wi fi) (ok : BlkOk X.N X.env.scope scope own)
    (hg : ∀ (s : Shared) (H : Hp) (C : Addr) (cl : List (Str × Addr)) (fp : List Addr), QG (X.blk s H scope (compEnvC scope cl C X.env) fp) A ws tg (gg s H C cl fp) hh) (ht : ∀ (s : Shared) (H : Hp) (C : Addr) (cl : List (Str × Addr)) (fp : List Addr), QTs (X.blk s H scope (compEnvC scope cl C X.env) fp) A ifs (tt s H C cl fp) ft)
    (he : ∀ (s : Shared) (H : Hp) (C : Addr) (cl : List (Str × Addr)) (fp : List Addr), QE (X.blk s H scope (compEnvC scope cl C X.env) fp) A true false elt (te s H C cl fp) fe) (hw : ∀ i ∈ ws, i ∈ own.map (·.2) := by decide) (hy : X.N[i]? = some y := by rfl) (hyl : X.env.scope.names.lookup y = some .local := by rfl)
    (hk : X.env.scope.kind = .function := by rfl) (hl : (py.line == pos.line) = true := by rfl) (ha : (scope.names.any fun (n, k) => n == y && (k == .local || k == .cell)) = false := by decide +kernel) (hs : ∀ x, foldedSetIterable it X.env x = pure x := by intro _; rfl)
    (eg : ∀ s H C cl fp, gg s H C cl fp = at5 gg := by intros; rfl) (et : ∀ s H C cl fp, tt s H C cl fp = at5 tt := by intros; rfl) (ee : ∀ s H C cl fp, te s H C cl fp = at5 te := by intros; rfl) :
    QS X A (.Assign [.Name y py] (.ListComp elt [⟨tg, it, ifs, 0⟩] scope pos) spos) (tAsg (tLc wi (at5 gg) (at5 tt) (at5 te) (own.map (·.2))) (gName i)) (fSetO i (fLc fi (own.map (·.2)) hh ft fe)) := by
  have hg' : ∀ s H C cl fp, QG (X.blk s H scope (compEnvC scope cl C X.env) fp) A ws tg (at5 gg) hh := fun s H C cl fp => eg s H C cl fp ▸ hg s H C cl fp
  have ht' : ∀ s H C cl fp, QTs (X.blk s H scope (compEnvC scope cl C X.env) fp) A ifs (at5 tt) ft := fun s H C cl fp => et s H C cl fp ▸ ht s H C cl fp
  have he' : ∀ s H C cl fp, QE (X.blk s H scope (compEnvC scope cl C X.env) fp) A true false elt (at5 te) fe := fun s H C cl fp => ee s H C cl fp ▸ he s H C cl fp
  have key := ps_setLc (spos := spos) hc hN hy hyl (sw_true hk hyl hl ha) hi.pi ok (fun s H C cl fp => (hg' s H C cl fp).pg) (fun s H C cl fp => (ht' s H C cl fp).pt) (fun s H C cl fp => (he' s H C cl fp).pe) hs
  have so := so_lc hi.sd (hg' {} (fun _ => none) 0 [] []).sd hw (ht' {} (fun _ => none) 0 [] []).sd (he' {} (fun _ => none) 0 [] []).sd
  exact ⟨key, ss_setO i so⟩
end
section
variable {X : Cx} {A : Amb} {m sh : Bool}
/-- a ** b, both written -/
theorem q_pw {a b c : Int} {ja jb : Nat} {pa pb pos : Pos} (h0 : 0 ≤ b := by decide) (h1 : b ≤ 1000000 := by decide) (h2 : a.natAbs < 2 ^ 64 := by decide) (h3 : a ^ b.toNat = c := by decide +kernel) :
    QE X A m sh (.BinOp (.Constant (.int a) ja pa) .Pow (.Constant (.int b) jb pb) pos) (tOp (rI CPow fun i j => .int (i ^ j.toNat)) (tC (.int a)) (tC (.int b))) (fC (.int c)) :=
  ⟨pe_op op_pow pe_int pe_int, fun W s0 H0 s σ H ρ Φ Q R hp q => ⟨a, b, rfl, rfl, ⟨h0, h1, h2⟩, q _ s _ H hp R Stp.refl (by rw [← h3]; exact .inl (.int _))⟩⟩
end
/-! ### a cut: what stands behind a statement, told once -/
structure CutP {S : Type} (g h : FS S) (P : PEnds S) (ρ : List Sl) (s : S) : Prop where
  ex : ∃ J : List Sl → S → Prop, g { P with nx := J } ρ s ∧ ∀ ρ' s', J ρ' s' → h P ρ' s'
def fCut {S : Type} (g h : FS S) : FS S := fun P ρ s => CutP g h P ρ s
theorem cut_go {A : Amb} {g h : FS A} {P : PEnds A} {ρ : List Sl} {s : A.S} {T : Type} (enc : T → List Sl) (J : T → Prop) (h1 : g { P with nx := fun ρ' s' => s' = s ∧ ∃ t, enc t = ρ' ∧ J t } ρ s) (h2 : ∀ t, J t → h P (enc t) s) : CutP g h P ρ s :=
  ⟨_, h1, fun ρ' s' ⟨e, t, e2, j⟩ => by rw [e, ← e2]; exact h2 t j⟩
section
variable {X : Cx} {A : Amb} {st : Stmt} {sts : List Stmt} {s1 s2 : TS} {g1 g2 : FS A}
theorem ss_cut (h1 : SdS A s1 g1) (h2 : SdS A s2 g2) : SdS A (tSeq s1 s2) (fCut g1 g2) := fun W s0 H0 s σ H ρ P D R hp nx bk ct rt => by
  obtain ⟨J, a, b⟩ := hp.ex
  exact h1 W s0 H0 s σ H ρ _ _ R a (fun ρ' s' σ' H' q R' => h2 W s0 H0 s' σ' H' ρ' P D R' (b ρ' s' q) nx bk ct rt) bk ct rt
theorem zs_cut (h : QS X A st s1 g1) (hr : QSs X A sts s2 g2) : QSs X A (st :: sts) (tSeq s1 s2) (fCut g1 g2) := ⟨pss_cons h.ps hr.ps, ss_cut h.sd hr.sd⟩
end
end Pd

set_option maxHeartbeats 4000000
namespace Pd
open PySem PySem.Spec PyProof.Rows L2
/-! ### the top, the end -/
section
variable {K : Fg} {h : Heap} {mg : Str → Option Value}
theorem dfn_mk {x : Str} {st : Stmt} {f : Addr} {oc : Value} {od an : Option Addr} {osl : Array (Option Value)} {kV doc pm cdv ct : Value} (ps : List Str) (X : K.In h) (G : h.Ns mainGlobals mg)
    (hb : ∀ (kV doc pm : Value) (an : Option Addr) (cdv ct : Value) (us : List Value), us.length = ps.length → bindArgs (PySem.W.fnOf x x (defArgs st) (defBody st) (defScope st) .none kV doc pm an cdv ct) ⟨us, []⟩ = pure (ps.zip us))
    (a : PySem.W.nsIn K mainGlobals x = some (some (.ref f))) (l : K.lookup f = some ⟨oc, od, .func (PySem.W.fnOf x x (defArgs st) (defBody st) (defScope st) .none kV doc pm an cdv ct), osl⟩)
    (c : PySem.W.codeIn K cdv x = true) (k : PySem.W.keepIn K (.ref f) = true) : Dfn K mg x st ps :=
  have F := fun_mk (st := st) l c k
  ⟨f, _, F, PySem.W.mg_of X G a, F.binds hb⟩
end
def sp_law : Pg BS := fun ds s Ψ => ∃ r a ns, ds = [.any (.ref a)] ∧ s = .scr r a ns ∧ ns.length ≤ 63 ∧ ∀ s', Ψ (.d (.bl true)) s'
theorem end_call {P : Program} {w : World} {K : Fg} {mg mb : Str → Option Value} {k : Nat} {fa a : Addr} {x : Str} {s₁ : Shared} {vs : List Value} {ns : List Int} {M : Option (Str → Option Value)}
    (KX : K.In s₁.heap) (hns : s₁.heap.Ns mainGlobals mg) (hb : s₁.heap.Ns builtinsNs mb) (hbb : ∀ x : Str, x ≠ "__name__" → mb x = bootBuiltins x) (hlim : s₁.heap.NoLimit) (hg : s₁.gens = #[])
    (ha : s₁.heap.get? a = some { cls := .type "list", data := .seq vs.toArray }) (hi : IntsAre vs ns) (hl : ns.length ≤ 63) (hr : Room k callerA) (hmg : mg x = some (.ref fa))
    (F : ∀ base : Heap, K.In base → base.Ns mainGlobals mg → Cal P w K mg base (BM K M) k x 1 sp_law) :
    codeAny (model P w) callerA (.call (.ref fa) ⟨[.ref a], []⟩) (fun r s' => r = .ok (.ret (.bool true)) ∧ OldK s₁.heap s'.heap ∧ s'.os = s₁.os ∧ AllBare s'.gens) s₁ := by
  have rv := vals_ints hi
  have lenV := hi.length
  have hl2 : ns.length ≤ sizeLine := Nat.le_trans hl (by decide)
  have core : ∀ (r : Bool) (H : Hp), Only H → (∀ R, bsI K M (.scr r a ns) R H) → HOk P w H s₁.heap → (∀ b, H b ≠ none → b = a) → (H a ≠ none → K.lookup a = none) →
      codeAny (model P w) callerA (.call (.ref fa) ⟨[.ref a], []⟩) (fun r s' => r = .ok (.ret (.bool true)) ∧ OldK s₁.heap s'.heap ∧ s'.os = s₁.os ∧ AllBare s'.gens) s₁ := by
    intro r H hO hS hok hA hK
    have base_of : ∀ {b : Addr} {o : Obj}, s₁.heap.get? b = some o → H b = none → (hidT s₁.heap H).get? b = some o := fun e n => hidT_get e n
    have noA : ∀ {b : Addr} {o : Obj} {es : Array DictEntry} {ep : Nat}, s₁.heap.get? b = some o → o.data = .dict es ep → H b = none := fun {b o es ep} e d => by
      cases q : H b with
      | none => rfl
      | some u =>
        have e' : b = a := hA b (by rw [q]; simp)
        subst e'
        rw [ha] at e
        cases e
        have d' : Data.seq vs.toArray _ = Data.dict es ep := d
        cases d'
    have nsK : ∀ {b : Addr} {m : Str → Option Value}, s₁.heap.Ns b m → (hidT s₁.heap H).Ns b m := fun {b m} ⟨o, es, ep, e, d, z⟩ => ⟨o, es, ep, base_of e (noA e d), d, z⟩
    have hKb : K.In (hidT s₁.heap H) := fun b o e => base_of (KX b o e) (by
      cases q : H b with
      | none => rfl
      | some u =>
        have e' : b = a := hA b (by rw [q]; simp)
        subst e'
        rw [hK (by rw [q]; simp)] at e
        cases e)
    have hM : Mod K mg (hidT s₁.heap H) := ⟨hKb, nsK hns, ⟨mb, nsK hb, hbb⟩, let ⟨mc, h1, h2⟩ := hlim; ⟨mc, nsK h1, h2⟩⟩
    have e0 : Env0 P w K mg (hidT s₁.heap H) callerA [] s₁ H := ⟨rfl, hM, fun b o e => of_hidT e, Nat.le_of_eq (hidT_size _ _), trivial, fun b hb => absurd (show b ∈ ([] : List Addr) from hb) (by simp), hok, .of_eq hg⟩
    obtain ⟨f, fd, ps, FG, hm, kp, bi⟩ := F _ hKb (nsK hns)
    obtain rfl : fa = f := by
      have z := hmg.symm.trans hm
      cases z
      rfl
    have spx : spOf (BM K M) 1 sp_law [.ref a] H (fun v _ => v = .bl true) (fun _ _ _ => False) := by
      refine ⟨fun _ => False, .scr r a ns, [.any (.ref a)], fun q _ => q = .d (.bl true), fun _ z => z.elim, hS _, .cons (.any _) .nil, rfl, ⟨r, a, ns, rfl, rfl, hl, fun _ => rfl⟩, ?_⟩
      rintro q s' v H' rfl _ _ _ h
      cases h
      rfl
    have hp1 := FG.len _ _ _ _ spx
    refine codeAny_mono (FG.run callerA [] s₁ H ⟨[.ref a], []⟩ [.ref a] [.ref a] _ _ rfl hr e0 ?_ (.cons rfl .nil) spx) fun z s' h => ?_
    · have z := bi s₁ [.ref a] KX (by rw [List.append_nil]; exact hp1)
      rw [List.append_nil] at z
      exact z
    cases z with
    | error e => exact h.elim
    | ok fl =>
      cases fl with
      | next => exact False.elim h
      | brk => exact False.elim h
      | cont => exact False.elim h
      | ret u =>
        obtain ⟨v, H', os, bare, un, hok', r', q⟩ := h
        have q' : v = .bl true := q
        subst q'
        obtain rfl : u = Value.bool true := r'
        refine ⟨rfl, OldK.of_keep fun b o e => ?_, os, bare⟩
        cases q : H b with
        | none => exact un.keep b o e q (by intro z; exact absurd (show b ∈ ([] : List Addr) from z) (by simp)) (by simp)
        | some u =>
          rcases hO b with z | ⟨ob, xs, z⟩
          · rw [q] at z
            cases z
          · have z2 := un.frzs b ob _ z
            obtain ⟨e1, _⟩ := hok b _ z
            obtain ⟨e2, _⟩ := hok' b _ z2
            rw [e] at e1
            cases e1
            exact e2
  cases hk : K.lookup a with
  | some o =>
    have e := KX a o hk
    rw [ha] at e
    cases e
    exact core false (fun _ => none) (fun _ => .inl rfl) (fun _ => .inr ⟨_, vs.toArray, _, hk, rfl, rfl, rfl, by rw [List.size_toArray, lenV]; exact hl2, by simpa using rv⟩) (fun b u z => by have z' : (none : Option HO) = some u := z; cases z') (fun b z => absurd rfl z) fun z => absurd rfl z
  | none =>
    refine core true (fun b => if b = a then some (.frz { cls := .type "list", data := .seq vs.toArray } (.lst (ns.map V.int))) else none) (fun b => ?_) (fun _ => .inr ⟨{ cls := .type "list", data := .seq vs.toArray }, if_pos rfl⟩) (fun b u z => ?_) (fun b z => ?_) fun _ => hk
    · by_cases hb : b = a
      · exact .inr ⟨_, _, if_pos hb⟩
      · exact .inl (if_neg hb)
    · by_cases hb : b = a
      · have z' := (if_pos hb).symm.trans z
        cases z'
        subst hb
        exact ⟨ha, by rw [List.length_map]; exact hl2, vs, _, rv, ha⟩
      · have z' := (if_neg hb).symm.trans z
        cases z'
    · by_cases hb : b = a
      · exact hb
      · exact absurd (if_neg hb) z
theorem walk_bagM {Mf : (Str → Option Value) → Option (Str → Option Value)} {l : PySem.W.OpenLaw} {k : Nat} {q : Program} {loose : List Str} {XP : (Str → Option Value) → Heap → Prop} {YP : World → Heap → Prop} {d : DefRec} {K : Params → Fg}
    (hn : l.most = some 63) (hdf : d.params.defaults = []) (hr : Room k callerA) (hY : ∀ (w : World) (h : Heap), YP w h → (K w.params).In h)
    (F : ∀ (w : World) (mg : Str → Option Value) (base : Heap), (K w.params).In base → base.Ns mainGlobals mg → Cal l.prog w (K w.params) mg base (BM (K w.params) (Mf mg)) k d.name 1 sp_law) :
    PySem.W.WalkO q loose XP YP l.row.toRowW d [] (fun f vs => PySem.call f vs) := by
  refine Att.attach_callB hn hdf fun w s₀ s₁ mg mb fa o pm cd doc a vs ns G Y ho hd hcd hmg hobj hints hlen hbits hg => ?_
  exact end_call (hY w _ Y) G.T.g G.T.b G.T.builtins G.T.nolimit hg hobj hints hlen hr hmg fun base => F w mg base
theorem walk_bag {l : PySem.W.OpenLaw} {k : Nat} {q : Program} {loose : List Str} {XP : (Str → Option Value) → Heap → Prop} {YP : World → Heap → Prop} {d : DefRec} {K : Params → Fg}
    (hn : l.most = some 63) (hdf : d.params.defaults = []) (hr : Room k callerA) (hY : ∀ (w : World) (h : Heap), YP w h → (K w.params).In h)
    (F : ∀ (w : World) (mg : Str → Option Value) (base : Heap), (K w.params).In base → base.Ns mainGlobals mg → Cal l.prog w (K w.params) mg base (BA (K w.params)) k d.name 1 sp_law) :
    PySem.W.WalkO q loose XP YP l.row.toRowW d [] (fun f vs => PySem.call f vs) := walk_bagM (Mf := fun _ => none) hn hdf hr hY F
/-! ### the draw, the pick: what they promise -/
section
variable {b : Addr} {l : LO} {n : Int} {Ψ : Ret → BS → Prop}
def sp_draw : Pg BS := fun ds s Ψ => ∃ b l n, ds = [.any (.ref b), .int n] ∧ s = .bag b l ∧ 0 < n ∧ n.natAbs.log2 < 9000 ∧ ∀ r, 0 ≤ r → r < n → Ψ (.d (.int r)) s
theorem small_log {n : Int} (h0 : 0 < n) (h : n < 2 ^ 60) : n.natAbs.log2 < 9000 := Nat.lt_of_lt_of_le (PySem.Flt.log2_lt_of (k := 60) (by decide) (by omega)) (by decide)
theorem draw_go (h0 : 0 < n) (h : n < 2 ^ 60) (q : ∀ r, 0 ≤ r → r < n → Ψ (.d (.int r)) (.bag b l)) : Sp (sp_draw) [.any (.ref b), .int n] (.bag b l) Ψ := ⟨b, l, n, rfl, rfl, h0, small_log h0 h, q⟩
theorem draw_pure (ds : List D) (s : BS) (Ψ : Ret → BS → Prop) (_ : ds.length = 2) (h : sp_draw ds s Ψ) : fDraw { nx := fun _ s => Ψ (.d .non) s, rt := Ψ } (startR ["bag", "below", "cell", "found"] ds) s := by
  obtain ⟨b, l, n, rfl, rfl, h0, h1, q⟩ := h
  exact ⟨b, l, n, rfl, rfl, h0, h1, q⟩
def sp_pick : Pg BS := fun ds s Ψ => ∃ b l ds', (ds = [.any (.ref b), .lst ds'] ∨ ds = [.any (.ref b), .tup ds']) ∧ s = .bag b l ∧ ds' ≠ [] ∧ ds'.length < 2 ^ 60 ∧ ∀ d ∈ ds', Ψ (.d d) s
theorem pick_go {ds : List D} (h0 : ds ≠ []) (h : ds.length < 2 ^ 60) (q : ∀ d ∈ ds, Ψ (.d d) (.bag b l)) : Sp (sp_pick) [.any (.ref b), .lst ds] (.bag b l) Ψ := ⟨b, l, ds, .inl rfl, rfl, h0, h, q⟩
theorem pick_goT {ds : List D} (h0 : ds ≠ []) (h : ds.length < 2 ^ 60) (q : ∀ d ∈ ds, Ψ (.d d) (.bag b l)) : Sp (sp_pick) [.any (.ref b), .tup ds] (.bag b l) Ψ := ⟨b, l, ds, .inr rfl, rfl, h0, h, q⟩
theorem pick_pure (ds : List D) (s : BS) (Ψ : Ret → BS → Prop) (_ : ds.length = 2) (h : sp_pick ds s Ψ) :
    fRet (fBin dIx (fV 1) (fCall sp_draw (fCons (fV 0) (fCons (fCB dLen (fCons (fV 1) fNil)) fNil)))) { nx := fun _ s => Ψ (.d .non) s, rt := Ψ } (startR ["bag", "some"] ds) s := by
  obtain ⟨b, l, ds', e, rfl, h0, h1, q⟩ := h
  have hp : 0 < (ds'.length : Int) := by
    cases ds' with
    | nil => exact (h0 rfl).elim
    | cons d r => simp
  rcases e with rfl | rfl
  · refine draw_go hp (by omega) fun r r0 r1 => ?_
    exact ix_go r0 r1 fun d hd => q d (List.mem_of_getElem? hd)
  · refine draw_go hp (by omega) fun r r0 r1 => ?_
    exact ix_go r0 r1 fun d hd => q d (List.mem_of_getElem? hd)
theorem rangeD_len (lo : Int) (n : Nat) : (rangeD lo n).length = n := by simp [rangeD]
theorem rangeD_at {lo : Int} {n i : Nat} {d : D} (h : (rangeD lo n)[i]? = some d) : d = .int (lo + (i : Nat)) ∧ i < n := by
  rw [rangeD_get] at h
  by_cases hi : i < n
  · rw [if_pos hi] at h
    cases h
    exact ⟨rfl, hi⟩
  · rw [if_neg hi] at h
    cases h
theorem rangeD_mem {lo : Int} {n : Nat} {d : D} (h : d ∈ rangeD lo n) : ∃ i : Nat, i < n ∧ d = .int (lo + i) := by
  obtain ⟨i, hi, e⟩ := List.mem_iff_getElem.mp h
  have := rangeD_at (List.getElem?_eq_getElem hi)
  exact ⟨i, this.2, e ▸ this.1⟩
theorem range0_at {n i : Nat} {d : D} (h : (rangeD 0 n)[i]? = some d) : d = .int (i : Nat) ∧ i < n := by
  obtain ⟨e, hi⟩ := rangeD_at h
  rw [Int.zero_add] at e
  exact ⟨e, hi⟩
abbrev AllInt (l : List D) : Prop := ∃ ns : List Int, l = ns.map D.int
theorem AllInt.nil : AllInt [] := ⟨[], rfl⟩
theorem AllInt.app {l : List D} (h : AllInt l) (x : Int) : AllInt (l ++ [.int x]) := by
  obtain ⟨ns, rfl⟩ := h
  exact ⟨ns ++ [x], by rw [List.map_append]; rfl⟩
theorem int_at {ns : List Int} {k : Nat} {d : D} (h : (ns.map D.int)[k]? = some d) : ∃ x, ns[k]? = some x ∧ d = .int x := by
  rw [List.getElem?_map] at h
  cases e : ns[k]? with
  | none => rw [e] at h; cases h
  | some x => rw [e] at h; cases h; exact ⟨x, rfl, rfl⟩
def sp_bag : Pg BS := fun ds s Ψ => ∃ r a ns, ds = [.any (.ref a)] ∧ s = .scr r a ns ∧ ns.length ≤ 63 ∧ ∀ b l, Ψ (.d (.any (.ref b))) (.bag b l)
end
end Pd

set_option maxHeartbeats 4000000
namespace Pd
open PySem PySem.Spec PyProof.Rows L2
/-! ### zip of two, each a list or a tuple (t: a tuple) -/
def ItS (t : Bool) (h : Heap) (it a : Addr) (i : Nat) : Prop := match t with
  | true => h.IsTupleIter it a i
  | false => h.IsListIter it a i
def SqS (K : Fg) (t : Bool) (H : Hp) (a : Addr) (xs : List V) : Prop := match t with
  | true => SqT K H a xs
  | false => SqL K H a xs
def HsS (t : Bool) (h : Heap) (a : Addr) (its : Array Value) : Prop := match t with
  | true => h.IsTuple a its
  | false => h.IsList a its
def obS (t : Bool) (a : Addr) : Obj := match t with
  | true => { cls := .type "tuple_iterator", data := .fields #[.ref a, .int 0 0] }
  | false => { cls := .type "list_iterator", data := .fields #[.ref a, .int 0 0] }
section
variable {X : Cx} {pins : List (Addr × Obj)} {σ : Sg} {H : Hp} {s : Shared} {t : Bool} {a : Addr} {xs ys : List V}
theorem inv_sqs (I : Inv X pins σ H s) (h : SqS X.K t H a xs) : ∃ its : List Value, Vals xs its ∧ HsS t s.heap a its.toArray ∧ a < s.heap.objs.size := by
  cases t with
  | true =>
    obtain ⟨its, rv, p, _⟩ := I.tuple h
    obtain ⟨o, ho, _⟩ := id p
    exact ⟨its, rv, show s.heap.IsTuple a its.toArray from p, Heap.lt_size ho⟩
  | false =>
    obtain ⟨its, rv, p, _⟩ := I.list h
    exact ⟨its, rv, p.isList, p.lt⟩
theorem inv_sqs_inj (I : Inv X pins σ H s) (h : SqS X.K t H a xs) (h' : SqS X.K t H a ys) : xs = ys := by
  cases t with
  | true => exact I.tuple_inj h h'
  | false => exact I.list_inj h h'
theorem dr_s {prog : Program} {w : World} {A : Around} (hh : A.handled = none) (t : Bool) (it l : Addr) (hne : l ≠ it) (its : Array Value) :
    Draws prog w A it [it, l] its.size (fun i v => its[i]? = some v) (fun i h => ItS t h it l i ∧ HsS t h l its) := by
  cases t with
  | true => exact Draws.tuple hh it l hne its
  | false => exact Draws.list hh it l hne its
theorem beg_s (t : Bool) (l : Addr) (its : Array Value) : Begins (.ref l) (obS t l) fun h => HsS t h l its := by
  cases t with
  | true => exact begins_tuple l its
  | false => exact begins_list l its
theorem it_new {h : Heap} {it a : Addr} (e : h.get? it = some (obS t a)) : ItS t h it a 0 := by
  cases t with
  | true => exact ⟨_, e, rfl, rfl⟩
  | false => exact ⟨_, e, rfl, rfl⟩
theorem it_obj {h : Heap} {it a : Addr} {i : Nat} (e : ItS t h it a i) : ∃ o, h.get? it = some o ∧ ∀ v, o.data ≠ .cell v := by
  cases t with
  | true => obtain ⟨o, e1, _, d⟩ := e; exact ⟨o, e1, fun v q => by rw [d] at q; cases q⟩
  | false => obtain ⟨o, e1, _, d⟩ := e; exact ⟨o, e1, fun v q => by rw [d] at q; cases q⟩
theorem it_at {h h' : Heap} {it a : Addr} {i : Nat} (e : ItS t h it a i) (k : ∀ o, h.get? it = some o → h'.get? it = some o) : ItS t h' it a i := by
  cases t with
  | true => exact Heap.IsTupleIter.at e k
  | false => exact Heap.IsListIter.at e k
end
def Itm (K : Fg) (t1 t2 : Bool) (n1 n2 : Nat) (a b : Addr) : It :=
  ⟨fun i H => ∃ (xs ys : List V) (x y : V), SqS K t1 H a xs ∧ SqS K t2 H b ys ∧ xs.length = n1 ∧ ys.length = n2 ∧ xs[i]? = some x ∧ ys[i]? = some y,
    fun i H v H' => ∃ T x y, v = .ref T ∧ H T = none ∧ H' = upd H T (.tup [x, y]) ∧ (∀ xs, SqS K t1 H a xs → xs[i]? = some x) ∧ ∀ ys, SqS K t2 H b ys → ys[i]? = some y,
    fun i H => ∃ xs ys : List V, SqS K t1 H a xs ∧ SqS K t2 H b ys ∧ xs.length = n1 ∧ ys.length = n2 ∧ (n1 ≤ i ∨ n2 ≤ i)⟩
abbrev ZSt (t1 t2 : Bool) (n1 n2 : Nat) (a b z TI TO i1 i2 : Addr) (i : Nat) (h : Heap) : Prop := IsZip h z TI TO .none ∧ IsTupOf2 h TI (.ref i1) (.ref i2) ∧ (∃ x y, IsTupOf2 h TO x y) ∧ ItS t1 h i1 a i ∧ ItS t2 h i2 b i ∧ i ≤ n1 ∧ i ≤ n2
theorem turn_zipM {P : Program} {w : World} {K : Fg} {elts : List Expr} {kk : Nat} {tpos : Pos} {t1 t2 : Bool} {n1 n2 : Nat} {a b z TI TO i1 i2 : Addr} (S : ZipSep2 z TI TO i1 i2 [i1, a] [i2, b]) (na : a ≠ i1) (nb : b ≠ i2) :
    Turn P w K (.Tuple elts kk tpos) (Itm K t1 t2 n1 n2 a b) [z, TI, TO, i1, i2] z (ZSt t1 t2 n1 n2 a b z TI TO i1 i2) where
  mem := by simp
  obj := fun i h st c hc => by
    obtain ⟨hz, hTI, ⟨x, y, hTO⟩, h1, h2, _⟩ := st
    simp only [List.mem_cons, List.not_mem_nil, or_false] at hc
    rcases hc with rfl | rfl | rfl | rfl | rfl
    · exact ⟨_, hz, fun v q => nomatch q⟩
    · exact ⟨_, hTI, fun v q => nomatch q⟩
    · exact ⟨_, hTO, fun v q => nomatch q⟩
    · exact it_obj h1
    · exact it_obj h2
  keep := fun i h h' st k => by
    obtain ⟨hz, hTI, ⟨x, y, hTO⟩, h1, h2, h3⟩ := st
    exact ⟨k z (by simp) _ hz, k TI (by simp) _ hTI, ⟨x, y, k TO (by simp) _ hTO⟩, it_at h1 fun o q => k i1 (by simp) o q, it_at h2 fun o q => k i2 (by simp) o q, h3⟩
  item := by
    intro X hP hw hK hc i pins s σ H E I hf st hg
    subst hP hw hK
    obtain ⟨hz, hTI, ⟨x0, y0, hTO⟩, h1, h2, l1, l2⟩ := st
    obtain ⟨xs, ys, x, y, hqx, hqy, e1, e2, hx, hy⟩ := hg
    obtain ⟨its, rv, p, _⟩ := inv_sqs I hqx
    obtain ⟨its2, rv2, p2, _⟩ := inv_sqs I hqy
    obtain ⟨u, hu, ru⟩ := rv.get hx
    obtain ⟨u2, hu2, ru2⟩ := rv2.get hy
    have hzl : z < s.heap.objs.size := Heap.lt_size hz
    have m1 : i < its.toArray.size := by simpa using (List.getElem?_eq_some_iff.mp hu).1
    have m2 : i < its2.toArray.size := by simpa using (List.getElem?_eq_some_iff.mp hu2).1
    have b1 : i < n1 := by rw [← e1]; exact (List.getElem?_eq_some_iff.mp hx).1
    have b2 : i < n2 := by rw [← e2]; exact (List.getElem?_eq_some_iff.mp hy).1
    have hh : X.A.in1.handled = none := I.ok.hd hc
    refine wpAny_pyNext_zipD2_item S (dr_s hh t1 i1 a na its.toArray) (dr_s hh t2 i2 b nb its2.toArray) hz hTI hTO ⟨h1, p⟩ ⟨h2, p2⟩ m1 m2 ?_
    intro v1 v2 h' tk hv1 hv2 z' TO' q1 q2 hT hsz hk
    have ev1 : v1 = u := by
      have : its[i]? = some v1 := by simpa using hv1
      exact Option.some.inj (this.symm.trans hu)
    have ev2 : v2 = u2 := by
      have : its2[i]? = some v2 := by simpa using hv2
      exact Option.some.inj (this.symm.trans hu2)
    subst ev1 ev2
    refine ⟨_, rfl, wpAny_letOwnedTupleGo_zip (s := { s with heap := h', toks := tk }) z' fun h'' z'' sb => ?_⟩
    have hT2 : h''.get? s.heap.objs.size = some { cls := .type "tuple", data := .seq #[v1, v2] } := (sb.2 _ (Nat.ne_of_gt hzl)).trans hT
    have new : ObjOk X.prog X.w (upd H s.heap.objs.size (.tup [x, y])) h'' s.heap.objs.size (.tup [x, y]) :=
      ⟨by show 2 ≤ sizeLine; decide, [v1, v2], .cons ru (.cons ru2 .nil), ⟨_, hT2, rfl, _, rfl⟩⟩
    have I1 : Inv X pins σ (upd H s.heap.objs.size (.tup [x, y])) { s with heap := h'', toks := tk } :=
      I.turnedNew (t' := tk) (ch := [z, TI, TO, i1, i2]) (fun c o hb q => (sb.2 c (fun q' => hb (by simp [q']))).trans (hk c o (fun q' => hb (by simp [q'])) (fun q' => hb (by simp [q'])) (fun q' => hb (by simp [q'])) (fun q' => hb (by simp [q'])) q)) hf (Nat.le_refl _) new
    have nz1 : i1 ≠ z := fun e => S.zf1 (by rw [← e]; exact S.mem1)
    have nz2 : i2 ≠ z := fun e => S.zf2 (by rw [← e]; exact S.mem2)
    refine ⟨.ref s.heap.objs.size, _, I1, rfl, ⟨_, x, y, rfl, I.hok.fresh (Nat.le_refl _), rfl, fun l hl => by rw [inv_sqs_inj I hl hqx]; exact hx, fun l hl => by rw [inv_sqs_inj I hl hqy]; exact hy⟩, ⟨z'', ?_, ⟨v1, v2, ?_⟩, ?_, ?_, b1, b2⟩, fun c hcm => ?_⟩
    · exact (sb.2 _ S.TIz).trans (hk _ _ S.TIz S.TITO S.TIi1 S.TIi2 hTI)
    · exact (sb.2 _ S.TOz).trans TO'
    · exact it_at q1.1 fun o q => (sb.2 _ nz1).trans q
    · exact it_at q2.1 fun o q => (sb.2 _ nz2).trans q
    · have hlt : c < s.heap.objs.size := by
        simp only [List.mem_cons, List.not_mem_nil, or_false] at hcm
        rcases hcm with rfl | rfl | rfl | rfl | rfl
        · exact hzl
        · exact Heap.lt_size hTI
        · exact Heap.lt_size hTO
        · obtain ⟨_, e, _⟩ := it_obj h1; exact Heap.lt_size e
        · obtain ⟨_, e, _⟩ := it_obj h2; exact Heap.lt_size e
      rw [upd_ne (Nat.ne_of_lt hlt)]
      exact (hf c hcm).1
  done := by
    intro X hP hw hK hc i pins s σ H E I hf st hg
    subst hP hw hK
    obtain ⟨hz, hTI, ⟨x0, y0, hTO⟩, h1, h2, l1, l2⟩ := st
    obtain ⟨xs, ys, hqx, hqy, e1, e2, hend⟩ := hg
    obtain ⟨its, rv, p, _⟩ := inv_sqs I hqx
    obtain ⟨its2, rv2, p2, _⟩ := inv_sqs I hqy
    have hh : X.A.in1.handled = none := I.ok.hd hc
    have s1 : its.toArray.size = n1 := by rw [List.size_toArray, ← rv.length, e1]
    have s2 : its2.toArray.size = n2 := by rw [List.size_toArray, ← rv2.length, e2]
    exact wpAny_pyNext_zipD2_end S (dr_s hh t1 i1 a na its.toArray) (dr_s hh t2 i2 b nb its2.toArray) hz hTI hTO ⟨h1, p⟩ ⟨h2, p2⟩ (by omega) (by omega) (by omega) fun h' tk hk => ⟨rfl, I.turnedL (t' := tk) (ch := [z, TI, TO, i1, i2]) (fun c o hb q =>
      hk c o (fun q' => hb (by simp [q'])) (fun q' => hb (by simp [q'])) (fun q' => hb (by simp [q'])) (fun q' => hb (by simp [q'])) q) hf⟩
  self := fun A i s Q E st h => wpAny_pyIter_zip st.1 h
def iZipM (K : Fg) (ta : TA) : TI := fun σ H R => ta σ H fun vs H1 => ∃ t1 t2 a b xs ys, vs = [.ref a, .ref b] ∧ SqS K t1 H1 a xs ∧ SqS K t2 H1 b ys ∧ R (Itm K t1 t2 xs.length ys.length a b) H1
theorem pi_zipM {X : Cx} {e e2 : Expr} {ta : TA} {p pos tpos : Pos} {elts : List Expr} {kk : Nat} (hg : Gl X "zip") (hm : X.mg "zip" = none) (ha : PA X [e, e2] ta)
    (hs : starEach [e, e2] X.env = (false, eval e X.env) :: starEach [e2] X.env := by rfl) (hpl : (backTo pos (starEach [e2] X.env)).any (·.1) = false := by rfl) :
    PI X (.Tuple elts kk tpos) (.Call (.Name "zip" p) [e, e2] [] pos) (iZipM X.K ta) := by
  constructor
  intro pins s σ H R I h
  refine Call_ (ld_blt I hg hm PyProof.Rows.boot_zip (PyProof.Rows.callWith_type1 (thn (ha.run pos pins s σ H _ I h) fun us s1 ⟨vs, H1, I1, r1, q1⟩ => ?_) hs hpl))
  obtain ⟨t1, t2, a, b, xs, ys, rfl, hqx, hqy, q⟩ := q1
  cases r1 with
  | cons r rr =>
    cases rr with
    | cons r' rr =>
      cases rr
      cases r
      cases r'
      obtain ⟨its, rv, p1, la⟩ := inv_sqs I1 hqx
      obtain ⟨its2, rv2, p2, lb⟩ := inv_sqs I1 hqy
      refine zip_begins2 (beg_s t1 a its.toArray) (beg_s t2 b its2.toArray) p1 p2 fun h' hz hTI hTO h1 h2 hsz hk => wpAny_pyIter_zip hz ?_
      have I2 : Inv X pins σ H1 { s1 with heap := h' } := I1.kept (t' := s1.toks) hk
      refine ⟨s1.heap.objs.size + 4, [s1.heap.objs.size + 4, s1.heap.objs.size + 2, s1.heap.objs.size + 3, s1.heap.objs.size, s1.heap.objs.size + 1], _, _, H1, rfl, I2, turn_zipM (zip_sep2 (fp1 := [a]) (fp2 := [b]) (fun x hx => ?_) fun x hx => ?_) (Nat.ne_of_lt la) (Nat.ne_of_lt (Nat.lt_succ_of_lt lb)), ⟨hz, hTI, ⟨_, _, hTO⟩, it_new h1, it_new h2, Nat.zero_le _, Nat.zero_le _⟩, fun c hcm => ?_, q⟩
      · rw [List.mem_singleton.mp hx]; exact la
      · rw [List.mem_singleton.mp hx]; exact lb
      · have hle : s1.heap.objs.size ≤ c := by
          simp only [List.mem_cons, List.not_mem_nil, or_false] at hcm
          rcases hcm with rfl | rfl | rfl | rfl | rfl
          · exact Nat.le_add_right _ _
          · exact Nat.le_add_right _ _
          · exact Nat.le_add_right _ _
          · exact Nat.le_refl _
          · exact Nat.le_add_right _ _
        exact I1.fpOk hle (I1.hok.fresh hle)
/-- what two sources yield together -/
def zipD : List D → List D → List D
  | x :: xs, y :: ys => .tup [x, y] :: zipD xs ys
  | _, _ => []
theorem zipD_at {x y : D} : ∀ {xs ys : List D} {i : Nat}, xs[i]? = some x → ys[i]? = some y → (zipD xs ys)[i]? = some (.tup [x, y])
  | [], _, _, h, _ => by simp at h
  | _ :: _, [], _, _, h => by simp at h
  | a :: xs, b :: ys, 0, h, h2 => by
    simp at h h2
    subst h h2
    rfl
  | a :: xs, b :: ys, i + 1, h, h2 => by
    have := zipD_at (xs := xs) (ys := ys) (i := i) (by simpa using h) (by simpa using h2)
    simpa [zipD] using this
theorem zipD_len : ∀ (xs ys : List D), (zipD xs ys).length = min xs.length ys.length
  | [], _ => by simp [zipD]
  | _ :: _, [] => by simp [zipD]
  | a :: xs, b :: ys => by
    have := zipD_len xs ys
    simp only [zipD, List.length_cons, this]
    omega
theorem zipD_of {xs ys : List D} {i : Nat} {d : D} (h : (zipD xs ys)[i]? = some d) : ∃ x y, xs[i]? = some x ∧ ys[i]? = some y ∧ d = .tup [x, y] := by
  have hl := (List.getElem?_eq_some_iff.mp h).1
  rw [zipD_len] at hl
  have h1 := List.getElem?_eq_getElem (l := xs) (i := i) (by omega)
  have h2 := List.getElem?_eq_getElem (l := ys) (i := i) (by omega)
  have h3 := zipD_at h1 h2
  rw [h] at h3
  exact ⟨_, _, h1, h2, Option.some.inj h3⟩
def seqOf (d : D) (Φ : List D → Prop) : Prop := match d with
  | .lst l => Φ l
  | .tup l => Φ l
  | _ => False
def fZip {S : Type} (fa fb : FE S) : FI S := fun ρ s Φ => fa ρ s fun x s1 => fb ρ s1 fun y s2 => seqOf x fun xs => seqOf y fun ys => Φ (zipD xs ys) s2
theorem rs_sqs {B : Ad} {H : Hp} {K : Fg} {d : D} {v : V} {Ψ : List D → Prop} (r : Rs B H d v) (h : seqOf d Ψ) : ∃ t a xs l, v = .ref a ∧ SqS K t H a xs ∧ RsL B H l xs ∧ Ψ l ∧ ((t = false ∧ d = .lst l) ∨ (t = true ∧ d = .tup l)) := by
  cases r with
  | lst g1 g2 g3 => exact ⟨false, _, _, _, rfl, .of g1, g3, h, .inl ⟨rfl, rfl⟩⟩
  | tup g1 g2 g3 => exact ⟨true, _, _, _, rfl, .of g1, g3, h, .inr ⟨rfl, rfl⟩⟩
  | _ => exact h.elim
theorem sqs_rs {B : Ad} {H : Hp} {K : Fg} {t : Bool} {d : D} {a : Addr} {l : List D} (r : Rs B H d (.ref a)) (h : (t = false ∧ d = .lst l) ∨ (t = true ∧ d = .tup l)) : ∃ xs, SqS K t H a xs ∧ RsL B H l xs := by
  rcases h with ⟨rfl, rfl⟩ | ⟨rfl, rfl⟩
  · cases r with
    | lst g1 g2 g3 => exact ⟨_, .of g1, g3⟩
  · cases r with
    | tup g1 g2 g3 => exact ⟨_, .of g1, g3⟩
section
variable {A : Amb} {ta tb : TE} {fa fb : FE A} {K : Fg}
theorem si_zip (ha : SdE A true false ta fa) (hb : SdE A true false tb fb) : SdI A (iZipM K (tCons ta (tCons tb tNil))) (fZip fa fb) := fun W s0 H0 s σ H ρ Φ Rr R hp q =>
  ha W s0 H0 s σ H ρ _ _ R hp fun x s1 v H1 h1 R1 st1 r1 => hb W s0 H0 s1 σ H1 ρ _ _ R1 h1 fun y s2 w H2 h2 R2 st2 r2 => by
    have r1' := (r1.stp st2).rs
    have r2' := r2.rs
    obtain ⟨t1, a, xs, l, rfl, q1, rl1, h3, c1⟩ := rs_sqs (K := K) r1' h2
    obtain ⟨t2, b, ys, l2, rfl, q2, rl2, h4, c2⟩ := rs_sqs (K := K) r2' h3
    refine ⟨t1, t2, a, b, xs, ys, rfl, q1, q2, q _ s2 _ H2 h4 R2 (st1.trans st2) ⟨[(x, .ref a), (y, .ref b)], fun p hp => ?_, fun B' H3 i hp => ?_⟩⟩
    · simp only [List.mem_cons, List.not_mem_nil, or_false] at hp
      rcases hp with rfl | rfl
      · exact r1'
      · exact r2'
    · obtain ⟨xs', k1, g1⟩ := sqs_rs (K := K) (hp (x, .ref a) (by simp)) c1
      obtain ⟨ys', k2, g2⟩ := sqs_rs (K := K) (hp (y, .ref b) (by simp)) c2
      have e1 : xs'.length = xs.length := g1.length.trans rl1.length.symm
      have e2 : ys'.length = ys.length := g2.length.trans rl2.length.symm
      refine ⟨fun e => ⟨xs', ys', k1, k2, e1, e2, ?_⟩, fun d e => ?_⟩
      · have := List.getElem?_eq_none_iff.mp e
        rw [zipD_len] at this
        have f1 := rl1.length
        have f2 := rl2.length
        omega
      · obtain ⟨dx, dy, f1, f2, rfl⟩ := zipD_of e
        obtain ⟨vx, m1, n1⟩ := g1.get f1
        obtain ⟨vy, m2, n2⟩ := g2.get f2
        refine ⟨⟨xs', ys', vx, vy, k1, k2, e1, e2, m1, m2⟩, ?_⟩
        rintro _ H4 ⟨T, z1, z2, rfl, hT, rfl, p1, p2⟩
        have ez1 : z1 = vx := Option.some.inj ((p1 _ k1).symm.trans m1)
        have ez2 : z2 = vy := Option.some.inj ((p2 _ k2).symm.trans m2)
        subst ez1 ez2
        exact .inr ⟨T, [z1, z2], [dx, dy], rfl, hT, rfl, rfl, .cons n1 (.cons n2 .nil)⟩
/-- a new list from + or * as a thing of one's own -/
def oAdd (x y : D) (Φ : Mo → Prop) : Prop := match x, y with
  | .lst a, .lst b => a.length + b.length ≤ 16777216 ∧ Φ (.lst (a ++ b))
  | _, _ => False
def fBinO {S : Type} (op : D → D → (Mo → Prop) → Prop) (fa fb : FE S) : FO S := fun ρ s Φ => fa ρ s fun x s1 => fb ρ s1 fun y s2 => op x y fun m => Φ m s2
theorem so_add (ha : SdE A true true ta fa) (hb : SdE A true true tb fb) : SdO A (tOp (rAddA K) ta tb) (fBinO oAdd fa fb) := fun W s0 H0 s σ H ρ Φ Q R hp q =>
  ha W s0 H0 s σ H ρ _ _ R hp fun x s1 v H1 h1 R1 st1 r1 => hb W s0 H0 s1 σ H1 ρ _ _ R1 h1 fun y s2 w H2 h2 R2 st2 r2 => by
    have rx := r1.stp st2
    unfold oAdd at h2
    split at h2
    · rename_i a b
      obtain ⟨p, xs, rfl, k1, k2, _⟩ := rx.lst
      obtain ⟨p', xs', rfl, k1', k2', _⟩ := r2.lst
      refine .inr (.inr (.inl ⟨p, p', xs, xs', rfl, rfl, k1, k1', by rw [line_eq, k2.length, k2'.length]; exact h2.1, fun n hn => ?_⟩))
      exact so_new R2 (st1.trans st2) (k2.append k2') h2.2 n hn q
    · exact h2.elim
end
section
variable {X : Cx} {A : Amb} {a b : Expr} {ta tb : TE} {fa fb : FE A} {p pos tpos : Pos} {elts : List Expr} {kk : Nat}
theorem qi_zip (hm : X.mg "zip" = none) (ha : QE X A true false a ta fa) (hb : QE X A true false b tb fb) (hg : Gl X "zip" := by rfl) (hs : starEach [a, b] X.env = (false, eval a X.env) :: starEach [b] X.env := by rfl) (hs2 : starEach [b] X.env = (false, eval b X.env) :: starEach [] X.env := by rfl) (hpl : (backTo pos (starEach [b] X.env)).any (·.1) = false := by rfl) :
    QI X A (.Tuple elts kk tpos) (.Call (.Name "zip" p) [a, b] [] pos) (iZipM X.K (tCons ta (tCons tb tNil))) (fZip fa fb) := ⟨pi_zipM hg hm (pa_cons ha.pe (pa_cons hb.pe pa_nil hs2) hs) hs hpl, si_zip ha.sd hb.sd⟩
theorem qo_add (ha : QE X A true true a ta fa) (hb : QE X A true true b tb fb) : QO X A (.BinOp a .Add b pos) (tOp (rAddA X.K) ta tb) (fBinO oAdd fa fb) := ⟨pe_op op_addA ha.pe hb.pe, so_add ha.sd hb.sd⟩
end
end Pd

set_option maxHeartbeats 4000000
namespace Pd
open PySem PySem.Spec PyProof.Rows L2
/-! ### repr of small data -/
mutual
def D.rok : Nat → D → Bool
  | _, .non => true
  | _, .bl _ => true
  | _, .int i => decide (i.natAbs < 10 ^ 18)
  | _, .str x => decide ((reprText x).length ≤ 64)
  | 0, .tup _ => false
  | n + 1, .tup l => rokL n l
  | 0, .lst _ => false
  | n + 1, .lst l => rokL n l
  | _, _ => false
def rokL : Nat → List D → Bool
  | _, [] => true
  | n, d :: l => d.rok n && rokL n l
end
mutual
def D.rw : D → Nat
  | .tup l => 3 + rwL l
  | .lst l => 3 + rwL l
  | _ => 64
def rwL : List D → Nat
  | [] => 0
  | d :: l => d.rw + 2 + rwL l
end
mutual
theorem rok_all : ∀ (d : D) (n : Nat), d.rok n = true → d.plain = true ∧ d.py.showable = true ∧ d.py.hasDict = false ∧ d.py.depth ≤ n + 1 ∧ d.py.shown.length ≤ d.rw
  | .non, n, _ => ⟨rfl, by simp [D.py, PyData.showable], by simp [D.py, PyData.hasDict], by simp [D.py, PyData.depth], by simp only [D.py, PyData.shown, D.rw]; decide⟩
  | .bl b, n, _ => ⟨rfl, by simp [D.py, PyData.showable], by simp [D.py, PyData.hasDict], by simp [D.py, PyData.depth], by cases b <;> simp only [D.py, PyData.shown, D.rw] <;> decide⟩
  | .int i, n, h => by
    have h' : i.natAbs < 10 ^ 18 := by simpa [D.rok] using h
    refine ⟨rfl, ?_, by simp [D.py, PyData.hasDict], by simp [D.py, PyData.depth], ?_⟩
    · simp only [D.py, PyData.showable, decide_eq_true_eq]
      exact Nat.lt_of_lt_of_le (PySem.Flt.log2_lt_of (k := 60) (by decide) (by omega)) (by decide)
    · have l2 := int_text_length_le10 (k := 18) (by decide) h'
      simp only [D.py, PyData.shown, D.rw]
      show (Str.ofString (toString i)).length ≤ 64
      rw [PySem.ofString_length]
      omega
  | .str x, n, h => by
    have h' : (reprText x).length ≤ 64 := by simpa [D.rok] using h
    exact ⟨rfl, by simp [D.py, PyData.showable], by simp [D.py, PyData.hasDict], by simp [D.py, PyData.depth], by simp only [D.py, PyData.shown, D.rw]; exact h'⟩
  | .tup l, 0, h => by simp [D.rok] at h
  | .tup l, n + 1, h => by
    have h' : rokL n l = true := by simpa [D.rok] using h
    obtain ⟨a, b, c, e, f, g⟩ := rokL_all l n h'
    refine ⟨by simpa [D.plain] using a, by simpa [D.py, PyData.showable] using b, by simpa [D.py, PyData.hasDict] using c, by simp only [D.py, PyData.depth]; omega, ?_⟩
    simp only [D.py, PyData.shown, D.rw]
    have := tupleText_len_le (PyData.shownAll (pyL l))
    omega
  | .lst l, 0, h => by simp [D.rok] at h
  | .lst l, n + 1, h => by
    have h' : rokL n l = true := by simpa [D.rok] using h
    obtain ⟨a, b, c, e, f, g⟩ := rokL_all l n h'
    refine ⟨by simpa [D.plain] using a, by simpa [D.py, PyData.showable] using b, by simpa [D.py, PyData.hasDict] using c, by simp only [D.py, PyData.depth]; omega, ?_⟩
    simp only [D.py, PyData.shown, D.rw]
    have := listText_len_le (PyData.shownAll (pyL l))
    omega
  | .dct _ _, _, h => by simp [D.rok] at h
  | .dtt _ _, _, h => by simp [D.rok] at h
  | .xdt _ _, _, h => by simp [D.rok] at h
  | .any _, _, h => by simp [D.rok] at h
theorem rokL_all : ∀ (l : List D) (n : Nat), rokL n l = true → plainL l = true ∧ PyData.showableAll (pyL l) = true ∧ PyData.hasDictAll (pyL l) = false ∧ PyData.depthAll (pyL l) ≤ n + 1 ∧ ((PyData.shownAll (pyL l)).map (·.length)).sum + 2 * (PyData.shownAll (pyL l)).length ≤ rwL l ∧ True
  | [], n, _ => ⟨rfl, by simp [pyL, PyData.showableAll], by simp [pyL, PyData.hasDictAll], by simp [pyL, PyData.depthAll], by simp [pyL, PyData.shownAll, rwL], trivial⟩
  | d :: l, n, h => by
    have h' : d.rok n = true ∧ rokL n l = true := by simpa [rokL] using h
    obtain ⟨a, b, c, e, f⟩ := rok_all d n h'.1
    obtain ⟨a2, b2, c2, e2, f2, _⟩ := rokL_all l n h'.2
    refine ⟨by simp [plainL, a, a2], by simp [pyL, PyData.showableAll, b, b2], by simp [pyL, PyData.hasDictAll, c, c2], by simp only [pyL, PyData.depthAll]; omega, ?_, trivial⟩
    simp only [pyL, PyData.shownAll, rwL, List.map_cons, List.sum_cons, List.length_cons]
    omega
end
def rReprD (K : Fg) : List V → Hp → VK → Prop := fun xs H Q => ∃ a d, xs = [.ref a] ∧ Dp K H (.ref a) d ∧ d.showable = true ∧ d.hasDict = false ∧ d.depth ≤ 32 ∧ d.shown.length ≤ sizeLine ∧ Q (.str d.shown) H
theorem call_reprD {X : Cx} (hg : X.A.guards = some []) (hu : X.A.units + 64 < cLine) : CallR X (.builtin "repr") (rReprD X.K) := by
  intro pins s σ H xs us Q J rv h
  obtain ⟨a, d, rfl, hd, h1, h2, h3, h4, q⟩ := h
  cases rv with
  | cons r rr =>
    cases rr
    cases r
    obtain ⟨as, hr⟩ := hd.reads J _ _ _ rfl
    refine repr_of_reads' hr h1 (fun z => by rw [h2] at z; cases z) hg (by omega) (fun _ _ e => e) (fun h' u tk hk => ?_) h4
    exact ⟨.str d.shown, H, J.kept (t' := tk) hk, ⟨u, rfl⟩, q⟩
structure RpP (x : D) (Φ : D → Prop) : Prop where
  ok : x.rok 8 = true
  seq : (∃ l, x = .lst l) ∨ ∃ l, x = .tup l
  len : x.rw ≤ 16777216
  go : Φ (.str x.py.shown)
def dRepr (ds : List D) (Φ : D → Prop) : Prop := match ds with
  | [x] => RpP x Φ
  | _ => False
section
variable {X : Cx} {A : Amb} {m : Bool}
theorem sc_repr {K : Fg} : SdC A m false true (rReprD K) dRepr := sdc_same fun ds vs H Φ Q W s σ ρ rv ho q => by
  unfold dRepr at ho
  split at ho
  · cases rv with
    | cons a b =>
      cases b
      obtain ⟨o1, o2, o3, o4⟩ := ho
      obtain ⟨p1, p2, p3, p4, p5⟩ := rok_all _ _ o1
      have dp := Rs.dp (K := K) a.low p1
      rcases o2 with ⟨l, rfl⟩ | ⟨l, rfl⟩
      · obtain ⟨ad, xs, rfl, _⟩ := a.lst
        exact ⟨ad, _, rfl, dp, p2, p3, by omega, by rw [line_eq]; omega, q _ _ o4 fun B => .str _⟩
      · obtain ⟨ad, xs, rfl, _⟩ := a.tup
        exact ⟨ad, _, rfl, dp, p2, p3, by omega, by rw [line_eq]; omega, q _ _ o4 fun B => .str _⟩
  · exact ho.elim
theorem bt_repr : bootBuiltins "repr" = some (.builtin "repr") := by decide +kernel
theorem nb_repr (hg : X.A.guards = some []) (hu : X.A.units + 64 < cLine) : NB X A m false true "repr" (.builtin "repr") (rReprD X.K) dRepr := ⟨call_reprD hg hu, sc_repr, bt_repr, by decide, by decide⟩
end
/-! ### a tuple times an int -/
def dMulT (x y : D) (Φ : D → Prop) : Prop := match x, y with
  | .tup a, .int k => (a ≠ [] ∧ 2 ≤ k ∧ k ≤ 1000 ∧ a.length ≤ 1000) ∧ Φ (.tup (List.replicate k.toNat a).flatten)
  | _, _ => False
section
variable {A : Amb} {m m2 sh1 sh2 : Bool} {K : Fg}
theorem sdr_mulT : SdR A m m sh1 m2 sh2 (rRepT K) dMulT := by
  intro W s0 H0 s σ H ρ x y v w Φ Q R rx ry h q
  unfold dMulT at h
  split at h
  · rename_i a k
    obtain ⟨p, xs, rfl, h1, h2⟩ := rx.tup
    obtain rfl := ry.int
    have e := h2.length
    refine ⟨p, k, xs, rfl, rfl, .of h1, fun z => ?_, h.1.2.1, h.1.2.2.1, by rw [e]; exact h.1.2.2.2, fun n hn => ?_⟩
    · rw [z] at e
      exact h.1.1 (List.eq_nil_of_length_eq_zero e.symm)
    · exact q _ _ _ h.2 (R.alloc hn _) (Stp.fresh hn) (RV.newT R hn (h2.rep _))
  · exact h.elim
end
theorem bo_mulT {X : Cx} {A : Amb} {m : Bool} : BO X A m .Mult (rRepT X.K) dMulT := ⟨op_repT, sdr_mulT⟩
end Pd

set_option maxHeartbeats 4000000
namespace Pd
open PySem PySem.Spec PyProof.Rows L2
/-! ### enumerate of a list -/
def enumD : Nat → List D → List D
  | _, [] => []
  | n, x :: xs => .tup [.int (n : Nat), x] :: enumD (n + 1) xs
theorem enumD_len : ∀ (n : Nat) (l : List D), (enumD n l).length = l.length
  | _, [] => rfl
  | n, x :: xs => by rw [enumD, List.length_cons, List.length_cons, enumD_len (n + 1) xs]
theorem enumD_at : ∀ {l : List D} {n i : Nat} {d : D}, (enumD n l)[i]? = some d → ∃ x, l[i]? = some x ∧ d = .tup [.int ((n + i : Nat) : Int), x]
  | [], _, _, _, h => by simp [enumD] at h
  | x :: xs, n, 0, d, h => by
    simp [enumD] at h
    exact ⟨x, rfl, by rw [← h]; rfl⟩
  | x :: xs, n, i + 1, d, h => by
    obtain ⟨y, h1, h2⟩ := enumD_at (l := xs) (n := n + 1) (i := i) (by simpa [enumD] using h)
    exact ⟨y, by simpa using h1, by rw [h2, show n + 1 + i = n + (i + 1) by omega]⟩
def fEnum {S : Type} (f : FE S) : FI S := fun ρ s Φ => f ρ s fun d s1 => match d with
  | .lst l => Φ (enumD 0 l) s1
  | _ => False
section
variable {A : Amb} {te : TE} {fe : FE A} {K : Fg}
theorem si_enum (h : SdE A true false te fe) : SdI A (iEnum K (tCons te tNil)) (fEnum fe) := fun W s0 H0 s σ H ρ Φ Rr R hp q =>
  h W s0 H0 s σ H ρ _ _ R hp fun d s1 v H1 h1 R1 st1 r1 => by
    have r := r1.rs
    cases d with
    | lst l =>
      have r0 := r
      cases r with
      | lst g1 g2 g3 =>
        rename_i a xs
        refine ⟨a, xs, rfl, .of g1, q (enumD 0 l) s1 _ H1 h1 R1 st1 ⟨[(.lst l, .ref a)], fun p hp => ?_, fun B' H2 i hp => ?_⟩⟩
        · obtain rfl : p = (.lst l, .ref a) := by simpa using hp
          exact r0
        · have r2 := hp _ (List.mem_singleton.mpr rfl)
          cases r2 with
          | lst k1 k2 k3 =>
            rename_i ys
            refine ⟨fun e => ⟨ys, .of k1, ?_⟩, fun d e => ?_⟩
            · rw [k3.length]
              have := List.getElem?_eq_none_iff.mp e
              rw [enumD_len] at this
              exact this
            · obtain ⟨x, e1, rfl⟩ := enumD_at e
              obtain ⟨y, e2, e3⟩ := k3.get e1
              refine ⟨⟨ys, y, .of k1, e2⟩, ?_⟩
              rintro _ H3 ⟨T, z, rfl, hT, rfl, hz⟩
              have ez : z = y := Option.some.inj ((hz ys (.of k1)).symm.trans e2)
              subst ez
              refine .inr ⟨T, [.int (i : Nat), z], [.int ((0 + i : Nat) : Int), x], rfl, hT, rfl, rfl, .cons ?_ (.cons e3 .nil)⟩
              rw [Nat.zero_add]
              exact .int _
    | _ => exact h1.elim
end
section
variable {X : Cx} {A : Amb} {a : Expr} {ta : TE} {fa : FE A} {p pos tpos : Pos} {elts : List Expr} {kk : Nat}
theorem qi_enum (hm : X.mg "enumerate" = none) (ha : QE X A true false a ta fa) (hg : Gl X "enumerate" := by rfl) (hs : starEach [a] X.env = [(false, eval a X.env)] := by rfl) :
    QI X A (.Tuple elts kk tpos) (.Call (.Name "enumerate" p) [a] [] pos) (iEnum X.K (tCons ta tNil)) (fEnum fa) := ⟨pi_enum hg hm (pa_cons ha.pe pa_nil hs) hs, si_enum ha.sd⟩
end
/-! ### reversed(list or tuple) in a loop -/
theorem rev_get {α : Type} {l : List α} {i : Nat} {x : α} (h : l.reverse[i]? = some x) : i < l.length ∧ l[l.length - 1 - i]? = some x := by
  have hi := (List.getElem?_eq_some_iff.mp h).1
  rw [List.length_reverse] at hi
  rw [List.getElem?_reverse hi] at h
  exact ⟨hi, h⟩
def fRev {S : Type} (f : FE S) : FI S := fun ρ s Φ => f ρ s fun d s1 => seqOf d fun l => Φ l.reverse s1
section
variable {A : Amb} {te : TE} {fe : FE A} {K : Fg}
theorem si_rev (h : SdE A true false te fe) : SdI A (RT.iRevA K te) (fRev fe) := fun W s0 H0 s σ H ρ Φ Rr R hp q =>
  h W s0 H0 s σ H ρ _ _ R hp fun d s1 v H1 h1 R1 st1 r1 => by
    have r := r1.rs
    have r0 := r
    obtain ⟨t, a, xs, l, rfl, q1, rl, h2, c⟩ := rs_sqs (K := K) r h1
    have lx := rl.length
    rcases c with ⟨rfl, rfl⟩ | ⟨rfl, rfl⟩
    · refine ⟨a, xs, rfl, .inl ⟨q1, q l.reverse s1 _ H1 h2 R1 st1 ⟨[(.lst l, .ref a)], fun p hp => ?_, fun B' H2 i hp => ?_⟩⟩⟩
      · obtain rfl : p = (.lst l, .ref a) := by simpa using hp
        exact r0
      · obtain ⟨ys, k1, g1⟩ := sqs_rs (K := K) (t := false) (l := l) (hp _ (List.mem_singleton.mpr rfl)) (.inl ⟨rfl, rfl⟩)
        refine ⟨fun e => ?_, fun d e => ?_⟩
        · have := List.getElem?_eq_none_iff.mp e
          rw [List.length_reverse] at this
          show xs.length ≤ i
          omega
        · obtain ⟨hi, e1⟩ := rev_get e
          obtain ⟨y, e2, e3⟩ := g1.get e1
          rw [← lx] at e2
          refine ⟨⟨by omega, ys, y, k1, e2⟩, ?_⟩
          rintro x H3 ⟨rfl, hz⟩
          have ez : x = y := Option.some.inj ((hz ys k1).symm.trans e2)
          subst ez
          exact .inl ⟨rfl, e3⟩
    · refine ⟨a, xs, rfl, .inr ⟨q1, q l.reverse s1 _ H1 h2 R1 st1 ⟨[(.tup l, .ref a)], fun p hp => ?_, fun B' H2 i hp => ?_⟩⟩⟩
      · obtain rfl : p = (.tup l, .ref a) := by simpa using hp
        exact r0
      · obtain ⟨ys, k1, g1⟩ := sqs_rs (K := K) (t := true) (l := l) (hp _ (List.mem_singleton.mpr rfl)) (.inr ⟨rfl, rfl⟩)
        refine ⟨fun e => ?_, fun d e => ?_⟩
        · have := List.getElem?_eq_none_iff.mp e
          rw [List.length_reverse] at this
          show xs.length ≤ i
          omega
        · obtain ⟨hi, e1⟩ := rev_get e
          obtain ⟨y, e2, e3⟩ := g1.get e1
          rw [← lx] at e2
          refine ⟨⟨by omega, ys, y, k1, e2⟩, ?_⟩
          rintro x H3 ⟨rfl, hz⟩
          have ez : x = y := Option.some.inj ((hz ys k1).symm.trans e2)
          subst ez
          exact .inl ⟨rfl, e3⟩
end
section
variable {X : Cx} {A : Amb} {tg a : Expr} {ta : TE} {fa : FE A} {p pos : Pos}
theorem qi_rev (hm : X.mg "reversed" = none) (ha : QE X A true false a ta fa) (hg : Gl X "reversed" := by rfl) (hs : starEach [a] X.env = (false, eval a X.env) :: starEach [] X.env := by rfl) :
    QI X A tg (.Call (.Name "reversed" p) [a] [] pos) (RT.iRevA X.K ta) (fRev fa) := ⟨RT.pi_revA hg hm ha.pe hs, si_rev ha.sd⟩
end
end Pd

set_option maxHeartbeats 4000000
namespace Pd
open PySem PySem.Spec PyProof.Rows L2
/-! ### a dict display with one key, a new thing of one's own -/
def keyD (k : D) (Φ : L2.Key → Prop) : Prop := match k with
  | .int i => Φ (.inl i)
  | .str x => Φ (.inr x)
  | _ => False
def fDisp1 {S : Type} (fk fv : FE S) : FO S := fun ρ s Φ => fk ρ s fun k s1 => keyD k fun key => fv ρ s1 fun d s2 => Φ (.dk [key] [d]) s2
section
variable {A : Amb} {tk tv : TE} {fk fv : FE A}
theorem key_rv {W : Ot} {s : A.S} {σ : Sg} {ρ : List Sl} {H : Hp} {m sh : Bool} {k : D} {x : V} {Φ : L2.Key → Prop} (r : RV A W s σ ρ H m sh k x) (h : keyD k Φ) : ∃ key, x = L2.kV key ∧ Φ key := by
  unfold keyD at h
  split at h
  · obtain rfl := r.int
    exact ⟨.inl _, rfl, h⟩
  · obtain rfl := r.str
    exact ⟨.inr _, rfl, h⟩
  · exact h.elim
theorem so_disp1 (hk : SdE A false true tk fk) (hv : SdE A true false tv fv) : SdO A (tDisp [(tk, tv)]) (fDisp1 fk fv) := fun W s0 H0 s σ H ρ Φ Q R hp q p hpn => by
  have bD0 : ¬ A.B s p := fun z => A.dom R.amb z hpn
  have R1 := R.wide hpn (.dK [])
  have hp0 := R.fresh0 hpn
  refine hk (W.add p) s0 H0 s σ _ ρ _ _ R1 hp fun k s1 x H1 h1 R2 st1 r1 => ?_
  obtain ⟨key, rfl, h1⟩ := key_rv r1 h1
  refine hv (W.add p) s0 H0 s1 σ H1 ρ _ _ R2 h1 fun d s2 y H2 h2 R3 st2 r2 => ?_
  have st := st1.trans st2
  obtain ⟨k1, k2⟩ := keep_at st (by rw [upd_same]; simp) bD0
  rw [upd_same] at k1
  refine ⟨k1, [(key, y)], rfl, (by show 1 ≤ 15; decide), ?_⟩
  have ek : mergeK [] [(key, y)] = [(key, y)] := rfl
  rw [ek]
  have R4 := R3.oth hp0 k2 (.dK [(key, y)])
  refine q (.dk [key] [d]) s2 p _ h2 R4 ?_ hpn ⟨[(key, y)], upd_same, rfl, ?_⟩ (fun z => R.wd p z hpn) k2
  · refine ⟨fun a o e n => ?_, fun a z => ?_, fun a e => ?_⟩
    · have np : a ≠ p := ne_of_none e hpn
      rw [upd_ne np]
      exact st.agr a o (by rw [upd_ne np]; exact e) n
    · rcases st.new a z with z | z
      · exact .inl z
      · by_cases ap : a = p
        · subst ap; rw [upd_same] at z; cases z
        · rw [upd_ne ap] at z; exact .inr z
    · by_cases ap : a = p
      · subst ap; rw [upd_same]; simp
      · rw [upd_ne ap]
        exact st.dom a (by rw [upd_ne ap]; exact e)
  · refine RsL.go (fun a z => .inl z) (fun a o e n => ?_) (RsL.one r2.rs)
    have ap : a ≠ p := fun z => by
      subst z
      exact n (.inl (.inr rfl))
    rw [upd_ne ap]
    exact e
end
section
variable {X : Cx} {A : Amb} {k v : Expr} {tk tv : TE} {fk fv : FE A} {pos : Pos}
theorem qo_disp1 (hk : QE X A false true k tk fk) (hv : QE X A true false v tv fv) : QO X A (.Dict [some k] [v] pos) (tDisp [(tk, tv)]) (fDisp1 fk fv) :=
  ⟨pe_disp (pps_cons hk.pe hv.pe pps_nil) rfl rfl (by simp) (by show 1 ≤ 15; decide), so_disp1 hk.sd hv.sd⟩
end
/-! ### d[k] = v, d the frame's own -/
def putVs (key : L2.Key) (d : D) : List L2.Key → List D → List D
  | k :: ks, x :: xs => (if k = key then d else x) :: putVs key d ks xs
  | _, _ => []
def putMo (ks : List L2.Key) (vs : List D) (key : L2.Key) (d : D) : Mo := if (ks.any fun k => decide (k = key)) = true then .dk ks (putVs key d ks vs) else .dk (ks ++ [key]) (vs ++ [d])
theorem put_rs {B : Ad} {H : Hp} {key : L2.Key} {d : D} {v : V} (hd : Rs B H d v) : ∀ {kvs : List (L2.Key × V)} {vs : List D}, RsL B H vs (kvs.map (·.2)) →
    RsL B H (putVs key d (kvs.map (·.1)) vs) ((kvs.map fun kv => if kv.1 = key then (kv.1, v) else kv).map (·.2)) ∧ ((kvs.map fun kv => if kv.1 = key then (kv.1, v) else kv).map (·.1)) = kvs.map (·.1)
  | [], _, .nil => ⟨.nil, rfl⟩
  | p :: kvs, _, .cons h r => by
    obtain ⟨a, b⟩ := put_rs hd (kvs := kvs) r
    by_cases e : p.1 = key
    · refine ⟨?_, ?_⟩
      · simp only [List.map_cons, putVs, if_pos e]
        exact .cons hd a
      · simp only [List.map_cons, if_pos e, b]
    · refine ⟨?_, ?_⟩
      · simp only [List.map_cons, putVs, if_neg e]
        exact .cons h a
      · simp only [List.map_cons, if_neg e, b]
theorem put_at {B : Ad} {H : Hp} {a : Addr} {key : L2.Key} {d : D} {v : V} {kvs : List (L2.Key × V)} {vs : List D} (hd : Rs B H d v) (r : RsL B H vs (kvs.map (·.2))) (e : H a = some (.dK (putK kvs key v))) : MoAt B H a (putMo (kvs.map (·.1)) vs key d) := by
  unfold putMo
  have ec : ((kvs.map (·.1)).any fun k => decide (k = key)) = (kvs.any fun kv => decide (kv.1 = key)) := by
    rw [List.any_map]
    rfl
  rw [ec]
  by_cases c : (kvs.any fun kv => decide (kv.1 = key)) = true
  · rw [if_pos c]
    have e2 : putK kvs key v = kvs.map (fun kv => if kv.1 = key then (kv.1, v) else kv) := by
      unfold putK
      rw [if_pos c]
    obtain ⟨h1, h2⟩ := put_rs (key := key) hd r
    exact ⟨_, e, by rw [e2, h2], by rw [e2]; exact h1⟩
  · rw [if_neg c]
    have e2 : putK kvs key v = kvs ++ [(key, v)] := by
      unfold putK
      rw [if_neg c]
    exact ⟨_, e, by rw [e2, List.map_append]; rfl, by rw [e2, List.map_append]; exact r.append (RsL.one hd)⟩
def fDput {S : Type} (i : Nat) (fk f : FE S) : FS S := fun P ρ s => match ρ[i]? with
  | some (.o (.dk ks vs)) => f ρ s fun d s1 => fk ρ s1 fun k s2 => keyD k fun key => ks.length < 16777216 ∧ P.nx (ρ.set i (.o (putMo ks vs key d))) s2
  | _ => False
section
variable {A : Amb} {tk te : TE} {fk fe : FE A}
theorem ss_dput (i : Nat) (h : SdE A true false te fe) (hk : SdE A false true tk fk) : SdS A (sDPut (tVar i) tk te) (fDput i fk fe) := fun W s0 H0 s σ H ρ P D R hp nx _ _ _ => by
  unfold fDput at hp
  split at hp
  · rename_i ks vs e
    obtain ⟨a, h1, ⟨kvs, h2, rfl, h3⟩, h4, h5, h6⟩ := R.own i _ e
    refine h W s0 H0 s σ H ρ _ _ R hp fun d s1 v H1 hd R1 st1 r1 => ⟨.ref a, h1, hk W s0 H0 s1 σ H1 ρ _ _ R1 hd fun k s2 y H2 hk2 R2 st2 r2 => ?_⟩
    have st := st1.trans st2
    obtain ⟨k1, k2⟩ := keep_at st (by rw [h2]; simp) h6
    obtain ⟨key, rfl, hk3⟩ := key_rv r2 hk2
    refine ⟨a, _, rfl, DPut.k (k1.trans h2) (by have := hk3.1; rw [List.length_map] at this; rw [line_eq]; omega), nx _ s2 _ _ hk3.2 (R2.mut e h1 ?_)⟩
    have go : ∀ {l : List Pd.D} {xs : List V}, RsL (om true A W s2 σ ρ) H2 l xs → RsL (om true A W s2 σ ρ) (upd H2 a (.dK (putK kvs key v))) l xs := fun r => r.go (fun b z => .inl z) fun b o eb nb => by
      rw [upd_ne fun z => ?_]
      · exact eb
      · subst z; exact nb (.inr (.inr ⟨rfl, i, _, e, h1⟩))
    have rd : Rs (om true A W s2 σ ρ) (upd H2 a (.dK (putK kvs key v))) d v := by
      have := go (RsL.one (r1.stp st2).rs)
      cases this with
      | cons x _ => exact x
    exact put_at rd (go (h3.stp st)) upd_same
  · exact hp.elim
end
section
variable {X : Cx} {A : Amb} {a e : Expr} {ta te : TE} {fa fe : FE A} {p p2 pos : Pos} {x : Str}
theorem z_dput (i : Nat) (hu : X.A.units + 64 < cLine) (he : QE X A true false e te fe) (ha : QE X A false true a ta fa) (hN : X.N[i]? = some x := by rfl) (hv : Vis X.env.scope x := by first | exact Or.inl rfl | exact Or.inr (Or.inl rfl) | exact Or.inr (Or.inr rfl)) (hd : (x == ("__debug__" : Str)) = false := by decide) (hcd : (x == ("__classdict__" : Str)) = false := by decide)
    (hs : swapsWith e (some (.Subscript (.Name x p) a p2)) pos.line X.env = pure false := by rfl) : QS X A (.Assign [.Subscript (.Name x p) a p2] e pos) (sDPut (tVar i) ta te) (fDput i fa fe) :=
  ⟨ps_dput (by omega) (pe_var hN hv hd hcd) ha.pe he.pe hs, ss_dput i he.sd ha.sd⟩
end
/-! ### sorted of a dict with int keys -/
def rSortKI : List V → Hp → VK → Prop := fun xs H Q => ∃ (a : Addr) (kvs : List (L2.Key × V)) (ks : List Int), xs = [.ref a] ∧ Rd H a (.dK kvs) ∧ kvs.map (·.1) = ks.map Sum.inl ∧ ks.length < 64 ∧ ∀ (ys : List Int) (p : Addr), ys.Perm ks → ys.Pairwise (· ≤ ·) → H p = none → Q (.ref p) (upd H p (.lst (ys.map V.int)))
structure SkP (ks : List L2.Key) (Φ : D → Prop) : Prop where
  ex : ∃ ns : List Int, ks = ns.map Sum.inl ∧ ns.length < 64 ∧ ∀ ys : List Int, ys.Perm ns → ys.Pairwise (· ≤ ·) → Φ (.lst (ys.map D.int))
def dSortedK (ds : List D) (Φ : D → Prop) : Prop := match ds with
  | [.dct ks _] => SkP ks Φ
  | _ => False
section
variable {X : Cx} {A : Amb} {m : Bool}
theorem sc_sortedK : SdC A m false true rSortKI dSortedK := fun W s0 H0 s σ H ρ ds vs Φ Q R rv h q => by
  unfold dSortedK at h
  split at h
  · obtain ⟨v, rfl, r⟩ := rv.one
    obtain ⟨⟨ns, rfl, hl, h⟩⟩ := h
    have r2 := r.low
    cases r2 with
    | dct h1 n k r3 =>
      exact ⟨_, _, ns, rfl, .inl h1, k, hl, fun ys p hp hs hn => q _ _ _ (h ys hp hs) (R.alloc hn _) (Stp.fresh hn) (RV.newL R hn (RsL.ofInts _))⟩
  · exact h.elim
theorem nb_sortedK (hc : X.calm = true) : NB X A m false true "sorted" (.builtin "sorted") rSortKI dSortedK := ⟨call_sortedDI hc, sc_sortedK, bt_sorted, by decide, by decide⟩
end
end Pd

set_option maxHeartbeats 4000000
namespace Pd
open PySem PySem.Spec PyProof.Rows L2
/-! ### steps for the walk by rows (mac.lean) -/
theorem br_dt {c : Prop} [Decidable c] {p q : Prop} (h : c) (x : p) : Br (decide c) p q := ⟨fun _ => x, fun z => absurd h (of_decide_eq_false z)⟩
theorem br_df {c : Prop} [Decidable c] {p q : Prop} (h : ¬ c) (x : q) : Br (decide c) p q := ⟨fun z => absurd (of_decide_eq_true z) h, fun _ => x⟩
theorem br_ndt {c : Prop} [Decidable c] {p q : Prop} (h : ¬ c) (x : p) : Br (!decide c) p q := ⟨fun _ => x, fun z => absurd (by simpa using z) h⟩
theorem br_ndf {c : Prop} [Decidable c] {p q : Prop} (h : c) (x : q) : Br (!decide c) p q := ⟨fun z => absurd h (by simpa using z), fun _ => x⟩
/-- a bool that is not looked into -/
theorem br_any {b : Bool} {p q : Prop} (h1 : b = true → p) (h2 : b = false → q) : Br b p q := ⟨h1, h2⟩
def intsOf : List D → List Int
  | .int x :: l => x :: intsOf l
  | _ => []
def strsOf : List D → List Str
  | .str x :: l => x :: strsOf l
  | _ => []
section
variable {b : Addr} {l : LO} {Ψ : Ret → BS → Prop}
theorem pick_ints {ds : List D} (h : (intsOf ds).map D.int = ds) (h0 : ds ≠ []) (hl : ds.length < 2 ^ 60) (q : ∀ x ∈ intsOf ds, Ψ (.d (.int x)) (.bag b l)) : Sp (sp_pick) [.any (.ref b), .lst ds] (.bag b l) Ψ := by
  refine pick_go h0 hl fun d hd => ?_
  rw [← h] at hd
  obtain ⟨x, hx, rfl⟩ := List.mem_map.mp hd
  exact q x hx
theorem pick_on (q : ∀ o : Bool, Ψ (.d (.str (if o then "on" else "off"))) (.bag b l)) : Sp (sp_pick) [.any (.ref b), .lst [.str "on", .str "off"]] (.bag b l) Ψ := by
  refine pick_go (by simp) (by simp) fun d hd => ?_
  simp only [List.mem_cons, List.not_mem_nil, or_false] at hd
  rcases hd with rfl | rfl
  · exact q true
  · exact q false
/-- every item as p says -/
inductive AllP (p : D → Prop) : List D → Prop
  | nil : AllP p []
  | cons {d : D} {l : List D} : p d → AllP p l → AllP p (d :: l)
theorem AllP.mem {p : D → Prop} : ∀ {l : List D}, AllP p l → ∀ d ∈ l, p d
  | _, .cons h r, d, hd => (List.mem_cons.mp hd).elim (fun e => e ▸ h) fun hd => r.mem d hd
theorem pick_all (p : D → Prop) {ds : List D} (h : AllP p ds) (h0 : ds ≠ []) (hl : ds.length < 2 ^ 60) (q : ∀ d, p d → Ψ (.d d) (.bag b l)) : Sp (sp_pick) [.any (.ref b), .lst ds] (.bag b l) Ψ :=
  pick_go h0 hl fun d hd => q d (h.mem d hd)
end
/-! comprehensions: all items kept -/
theorem lc_map {A : Amb} {l : List D} {g : FG} {fe : FE A} {ρ : List Sl} {s : A.S} {Φ : Mo → A.S → Prop} (p : Nat → D → Prop) (hl : l.length ≤ 16777216)
    (step : ∀ i d (C : D → A.S → Prop), l[i]? = some d → (∀ y, p i y → C y s) → g d ρ fun ρ' => fe ρ' s C)
    (fin : ∀ acc : List D, acc.length = l.length → (∀ i y, acc[i]? = some y → p i y) → Φ (.lst acc) s) : LcP l g (fun _ s Φ => Φ true s) fe ρ s Φ := by
  refine lc_go (fun i acc => acc.length = i ∧ ∀ j y, acc[j]? = some y → p j y) hl ⟨rfl, fun j y h => by simp at h⟩ ?_ fun acc h => fin acc h.1 h.2
  rintro i d acc hd ⟨h1, h2⟩
  have e : (fun ρ' => (fun (_ : List Sl) (s : A.S) (Φ : Bool → A.S → Prop) => Φ true s) ρ' s fun b s2 => Br b (fe ρ' s2 fun y s3 => s3 = s ∧ (acc ++ [y]).length = i + 1 ∧ ∀ j z, (acc ++ [y])[j]? = some z → p j z) (s2 = s ∧ acc.length = i + 1 ∧ ∀ j z, acc[j]? = some z → p j z)) = fun ρ' => fe ρ' s fun y s3 => s3 = s ∧ (acc ++ [y]).length = i + 1 ∧ ∀ j z, (acc ++ [y])[j]? = some z → p j z := by
    funext ρ'
    exact propext ⟨fun h => h.t rfl, fun h => br_t rfl h⟩
  rw [e]
  refine step i d _ hd fun y hy => ⟨rfl, by rw [List.length_append, h1]; rfl, fun j z hz => ?_⟩
  rw [List.getElem?_append] at hz
  split at hz
  · exact h2 j z hz
  · have hj : j - acc.length = 0 := by
      cases q : j - acc.length with
      | zero => rfl
      | succ n => rw [q] at hz; simp at hz
    have : j = i := by omega
    subst this
    rw [hj] at hz
    simp at hz
    exact hz ▸ hy
/-- a comprehension over ts.map enc that keeps what p says -/
theorem lc_filtT {T : Type} {A : Amb} {l : List D} {g : FG} {tt : FT A} {fe : FE A} {ρ : List Sl} {s : A.S} {Φ : Mo → A.S → Prop} (enc : T → D) (p : T → Bool) (f : T → D) (ts : List T) (e : l = ts.map enc) (hl : ts.length ≤ 16777216)
    (step : ∀ t (C : D → A.S → Prop) (N : A.S → Prop), t ∈ ts → (p t = true → C (f t) s) → (p t = false → N s) → g (enc t) ρ fun ρ' => tt ρ' s fun b s2 => Br b (fe ρ' s2 C) (N s2))
    (fin : Φ (.lst ((ts.filter p).map f)) s) : LcP l g tt fe ρ s Φ := by
  subst e
  refine lc_go (fun i acc => acc = ((ts.take i).filter p).map f) (by rw [List.length_map]; exact hl) rfl ?_ ?_
  · rintro i d _ hd rfl
    rw [List.getElem?_map] at hd
    cases e : ts[i]? with
    | none => rw [e] at hd; cases hd
    | some t =>
      rw [e] at hd
      cases hd
      refine step t _ _ (List.mem_of_getElem? e) (fun h => ⟨rfl, ?_⟩) (fun h => ⟨rfl, ?_⟩)
      · rw [List.take_add_one, e]
        simp [List.filter_append, h]
      · rw [List.take_add_one, e]
        simp [List.filter_append, h]
  · rintro _ rfl
    rw [List.length_map, List.take_length]
    exact fin
/-- .. that keeps all -/
theorem lc_mapT {T : Type} {A : Amb} {l : List D} {g : FG} {fe : FE A} {ρ : List Sl} {s : A.S} {Φ : Mo → A.S → Prop} (enc : T → D) (f : T → D) (ts : List T) (e : l = ts.map enc) (hl : ts.length ≤ 16777216)
    (step : ∀ t (C : D → A.S → Prop), t ∈ ts → C (f t) s → g (enc t) ρ fun ρ' => fe ρ' s C) (fin : Φ (.lst (ts.map f)) s) : LcP l g (fun _ s Φ => Φ true s) fe ρ s Φ := by
  refine lc_filtT enc (fun _ => true) f ts e hl (fun t C N ht h1 _ => ?_) ?_
  · have e : (fun ρ' => (fun (_ : List Sl) (s : A.S) (Φ : Bool → A.S → Prop) => Φ true s) ρ' s fun b s2 => Br b (fe ρ' s2 C) (N s2)) = fun ρ' => fe ρ' s C := by
      funext ρ'
      exact propext ⟨fun h => h.t rfl, fun h => br_t rfl h⟩
    rw [e]
    exact step t C ht (h1 rfl)
  · have e : ts.filter (fun _ => true) = ts := List.filter_eq_self.mpr fun _ _ => rfl
    rw [e]
    exact fin
/-- a loop over ts.map enc; the slots told by a state, the state by the part that is taken -/
theorem for_goT {A : Amb} {l : List D} {g : FG} {b : FS A} {P : PEnds A} {ρ : List Sl} {s : A.S} {T U : Type} (enc : T → D) (ts : List T) (e : l = ts.map enc) (encU : U → List Sl) (Inv : List T → U → Prop) (u0 : U) (h0 : encU u0 = ρ) (i0 : Inv [] u0)
    (step : ∀ pre t post u, ts = pre ++ t :: post → Inv pre u → g (enc t) (encU u) fun ρ' => b { P with nx := fun ρ s' => s' = s ∧ ∃ u', encU u' = ρ ∧ Inv (pre ++ [t]) u', ct := fun ρ s' => s' = s ∧ ∃ u', encU u' = ρ ∧ Inv (pre ++ [t]) u', bk := P.nx } ρ' s)
    (fin : ∀ u, Inv ts u → P.nx (encU u) s) : ForP l g b P ρ s := by
  subst e
  refine for_go encU (fun i u => Inv (ts.take i) u) u0 h0 i0 ?_ ?_
  · intro i d u hd hI
    rw [List.getElem?_map] at hd
    cases e : ts[i]? with
    | none => rw [e] at hd; cases hd
    | some t =>
      rw [e] at hd
      cases hd
      have e2 : ts.take (i + 1) = ts.take i ++ [t] := by rw [List.take_add_one, e]; rfl
      rw [e2]
      refine step (ts.take i) t (ts.drop (i + 1)) u ?_ hI
      have hi := (List.getElem?_eq_some_iff.mp e).1
      have e3 : ts[i] = t := (List.getElem?_eq_some_iff.mp e).2
      rw [← e3, List.getElem_cons_drop, List.take_append_drop]
  · intro u hI
    rw [List.length_map, List.take_length] at hI
    exact fin u hI
theorem ix_at {α : Type} {l : List α} {i : Int} {k : Nat} {d : α} {Φ : α → Prop} (e : i = (k : Int)) (h : l[k]? = some d) (q : Φ d) : Ix l i Φ := by
  subst e
  exact ix_nat h q
theorem ix_last {α : Type} {l : List α} {d : α} {Φ : α → Prop} (h : l.getLast? = some d) (q : Φ d) : Ix l (-1) Φ := by
  refine ⟨d, ?_, q⟩
  have hn : l ≠ [] := fun e => by subst e; cases h
  have hl : 0 < l.length := List.length_pos_iff.mpr hn
  unfold L2.atI ixN
  rw [if_neg (by decide), if_pos (by omega)]
  have e : ((-1 : Int) + (l.length : Int)).toNat = l.length - 1 := by omega
  show Option.bind (some _) (fun k => l[k]?) = some d
  simp only [Option.bind_some]
  rw [List.getLast?_eq_getElem?] at h
  rw [← h]
  congr 1
theorem set_last {n : Nat} {Φ : Nat → Prop} (h : 0 < n) (q : Φ (n - 1)) : SetP n (-1) Φ := by
  refine ⟨n - 1, ?_, q⟩
  unfold ixN
  rw [if_neg (by decide), if_pos (by omega)]
  congr 1
  omega
theorem set_dropLast {α : Type} {l : List α} {d : α} (h : l ≠ []) : l.set (l.length - 1) d = l.dropLast ++ [d] := by
  rcases List.eq_nil_or_concat l with e | ⟨r, x, rfl⟩
  · exact (h e).elim
  · rw [List.concat_eq_append, List.dropLast_concat, List.length_append, List.length_singleton, Nat.add_sub_cancel, List.set_append]
    simp
/-! data that == looks through: nested at most n deep -/
mutual
def D.lay : Nat → D → Bool
  | _, .non => true
  | _, .bl _ => true
  | _, .int _ => true
  | _, .str x => PyData.canLay0 (.str x)
  | 0, .tup _ => false
  | n + 1, .tup l => layL n l
  | 0, .lst _ => false
  | n + 1, .lst l => layL n l
  | _, _ => false
def layL : Nat → List D → Bool
  | _, [] => true
  | n, d :: l => d.lay n && layL n l
end
mutual
theorem lay_all : ∀ (d : D) (n : Nat), d.lay n = true → d.plain = true ∧ d.py.canLay0 = true ∧ d.py.depth ≤ n + 1
  | .non, n, _ => ⟨rfl, by simp [D.py, PyData.canLay0], by simp [D.py, PyData.depth]⟩
  | .bl b, n, _ => ⟨rfl, by simp [D.py, PyData.canLay0], by simp [D.py, PyData.depth]⟩
  | .int i, n, _ => ⟨rfl, by simp [D.py, PyData.canLay0], by simp [D.py, PyData.depth]⟩
  | .str x, n, h => ⟨rfl, by simpa [D.lay, D.py] using h, by simp [D.py, PyData.depth]⟩
  | .tup l, 0, h => by simp [D.lay] at h
  | .tup l, n + 1, h => by
    obtain ⟨a, b, c⟩ := layL_all l n (by simpa [D.lay] using h)
    exact ⟨by simpa [D.plain] using a, by simpa [D.py, PyData.canLay0] using b, by simp only [D.py, PyData.depth]; omega⟩
  | .lst l, 0, h => by simp [D.lay] at h
  | .lst l, n + 1, h => by
    obtain ⟨a, b, c⟩ := layL_all l n (by simpa [D.lay] using h)
    exact ⟨by simpa [D.plain] using a, by simpa [D.py, PyData.canLay0] using b, by simp only [D.py, PyData.depth]; omega⟩
  | .dct _ _, _, h => by simp [D.lay] at h
  | .dtt _ _, _, h => by simp [D.lay] at h
  | .xdt _ _, _, h => by simp [D.lay] at h
  | .any _, _, h => by simp [D.lay] at h
theorem layL_all : ∀ (l : List D) (n : Nat), layL n l = true → plainL l = true ∧ PyData.canLayAll0 (pyL l) = true ∧ PyData.depthAll (pyL l) ≤ n + 1
  | [], n, _ => ⟨rfl, by simp [pyL, PyData.canLayAll0], by simp [pyL, PyData.depthAll]⟩
  | d :: l, n, h => by
    have h' : d.lay n = true ∧ layL n l = true := by simpa [layL] using h
    obtain ⟨a, b, c⟩ := lay_all d n h'.1
    obtain ⟨a2, b2, c2⟩ := layL_all l n h'.2
    exact ⟨by simp [plainL, a, a2], by simp [pyL, PyData.canLayAll0, b, b2], by simp only [pyL, PyData.depthAll]; omega⟩
end
theorem lay_dok {d : D} (h : d.lay 32 = true) : DOk d := by
  obtain ⟨a, b, c⟩ := lay_all d 32 h
  exact ⟨a, by unfold SeqAt.shaped; rw [Bool.and_eq_true, decide_eq_true_eq]; exact ⟨b, by omega⟩⟩
theorem layL_mem {n : Nat} : ∀ {l : List D}, (∀ d ∈ l, d.lay n = true) → layL n l = true
  | [], _ => rfl
  | d :: l, h => by rw [layL, h d List.mem_cons_self, layL_mem fun d hd => h d (List.mem_cons_of_mem _ hd)]; rfl
theorem layL_map {T : Type} {n : Nat} {enc : T → D} {l : List T} (h : ∀ t, (enc t).lay n = true) : layL n (l.map enc) = true := layL_mem fun d hd => by
  obtain ⟨t, _, rfl⟩ := List.mem_map.mp hd
  exact h t
theorem dok_lst {l : List D} (h : layL 31 l = true) : DOk (.lst l) := lay_dok (by rw [D.lay]; exact h)
theorem dok_tup {l : List D} (h : layL 31 l = true) : DOk (.tup l) := lay_dok (by rw [D.lay]; exact h)
theorem eqv_lnil : ∀ l : List D, PyData.eqv (D.lst l).py (D.lst []).py = l.isEmpty := fun l => by
  cases l with
  | nil => simp [D.py, pyL, PyData.eqv, PyData.eqvAll]
  | cons d l => simp [D.py, pyL, PyData.eqv, PyData.eqvAll]
theorem eqv_tnil : ∀ l : List D, PyData.eqv (D.tup l).py (D.tup []).py = l.isEmpty := fun l => by
  cases l with
  | nil => simp [D.py, pyL, PyData.eqv, PyData.eqvAll]
  | cons d l => simp [D.py, pyL, PyData.eqv, PyData.eqvAll]
theorem rep_true {l : List D} (h : ∀ d ∈ l, d = .bl true) : [D.lst l] = [D.lst ((List.replicate l.length true).map D.bl)] := by
  rw [List.map_replicate]
  exact congrArg (fun x => [D.lst x]) (List.eq_replicate_iff.mpr ⟨rfl, h⟩)
theorem rep_all (n : Nat) : (List.replicate n true).all id = true := by
  rw [List.all_eq_true]
  intro x hx
  rw [(List.mem_replicate.mp hx).2]
  rfl
theorem bl_rep {n : Nat} {P : D → Prop} (h : P (.bl true)) : P (.bl ((List.replicate n true).all id)) := by
  rw [rep_all]
  exact h
theorem lst1 {l m : List D} (h : l = m) : [D.lst l] = [D.lst m] := by rw [h]
/-- an index into a list of ints -/
theorem ix_int {ns : List Int} {i : Int} {Φ : D → Prop} (h0 : 0 ≤ i) (h1 : i < ns.length) (q : ∀ x, Φ (.int x)) : Ix (ns.map D.int) i Φ := ix_go h0 (by rw [List.length_map]; exact h1) fun d hd => by
  rw [List.getElem?_map] at hd
  cases e : ns[i.toNat]? with
  | none => rw [e] at hd; cases hd
  | some x => rw [e] at hd; cases hd; exact q x
end Pd

set_option maxHeartbeats 4000000
/-! list(zip(a list, a list)) -/
namespace Pd
open PySem PySem.Spec PyProof.Rows L2
theorem zip_nolen : typeLookup (.type "zip") "__len__" = pure none := am_miss_of_fast (by decide +kernel)
theorem zip_nohint : typeLookup (.type "zip") "__length_hint__" = pure none := am_miss_of_fast (by decide +kernel)
def ZSl (z TI TO i1 i2 l1 l2 S : Addr) (a b : Array Value) (i : Nat) (h : Heap) : Prop :=
  IsPair h TI (.ref i1) (.ref i2) ∧ h.IsListIter i1 l1 i ∧ h.IsListIter i2 l2 i ∧ h.IsList l1 a ∧ h.IsList l2 b ∧
    ((IsZip h z TI TO .none ∧ ∃ p q, IsPair h TO p q) ∨ ∃ T f oT, IsZipHeld h z TI TO T f ∧ h.get? T = some oT ∧ T ≠ z ∧ T ≠ i1 ∧ T ≠ i2 ∧ T ≠ S)
theorem ZSl.at {z TI TO i1 i2 l1 l2 S : Addr} {a b : Array Value} {i : Nat} {h h' : Heap} (x : ZSl z TI TO i1 i2 l1 l2 S a b i h) (d : S ≠ z ∧ S ≠ TI ∧ S ≠ TO ∧ S ≠ i1 ∧ S ≠ i2 ∧ S ≠ l1 ∧ S ≠ l2) (k : ∀ b o, b ≠ S → h.get? b = some o → h'.get? b = some o) : ZSl z TI TO i1 i2 l1 l2 S a b i h' := by
  obtain ⟨hTI, h1, h2, hl1, hl2, hz⟩ := x
  obtain ⟨dz, dTI, dTO, di1, di2, dl1, dl2⟩ := d
  refine ⟨k _ _ (Ne.symm dTI) hTI, h1.at fun o e => k _ o (Ne.symm di1) e, h2.at fun o e => k _ o (Ne.symm di2) e, hl1.at fun o e => k _ o (Ne.symm dl1) e, hl2.at fun o e => k _ o (Ne.symm dl2) e, ?_⟩
  rcases hz with ⟨hz, p, q, hTO⟩ | ⟨T, f, oT, hz, hT, r1, r2, r3, r4⟩
  · exact .inl ⟨k _ _ (Ne.symm dz) hz, p, q, k _ _ (Ne.symm dTO) hTO⟩
  · exact .inr ⟨T, f, oT, k _ _ (Ne.symm dz) hz, k _ _ r4 hT, r1, r2, r3, r4⟩
section
variable {X : Cx} {pins : List (Addr × Obj)} {σ : Sg} {A : Around} {R : Result → Shared → Prop} {z TI TO i1 i2 l1 l2 S : Addr}
theorem zip_loop (hh : A.in1.handled = none) (D : ZipApart z TI TO i1 i2 l1 l2) (d : S ≠ z ∧ S ≠ TI ∧ S ≠ TO ∧ S ≠ i1 ∧ S ≠ i2 ∧ S ≠ l1 ∧ S ≠ l2) {xs ys : List V} {a b : List Value} (ra : Vals xs a) (rb : Vals ys b) (hn : xs.length ≤ sizeLine) (H0 : Hp) (h0S : H0 S = none) (res : Value) :
    ∀ (k i : Nat) (s : Shared) (H : Hp) (acc : Array Value) (accV : List V) (c : Nat), min xs.length ys.length - i = k → i ≤ min xs.length ys.length → Inv X pins σ H s → ZSl z TI TO i1 i2 l1 l2 S a.toArray b.toArray i s.heap →
      s.heap.get? S = some { cls := .type "list", dict := none, data := .seq acc c, slots := #[] } → H S = some (.lst accV) → Vals accV acc.toList → accV.length = i →
      (∀ (j : Nat) (x y : V), j < i → xs[j]? = some x → ys[j]? = some y → ∃ T, accV[j]? = some (V.ref T) ∧ H T = some (.tup [x, y]) ∧ H0 T = none) → (∀ b o, H0 b = some o → H b = some o) → (∀ c ∈ [z, TO, i1, i2], FpOk X pins H c ∧ c < s.heap.objs.size) →
      (∀ (s' : Shared) (H' : Hp) (accV' : List V), Inv X pins σ H' s' → H' S = some (.lst accV') → accV'.length = min xs.length ys.length →
        (∀ (j : Nat) (x y : V), xs[j]? = some x → ys[j]? = some y → ∃ T, accV'[j]? = some (V.ref T) ∧ H' T = some (.tup [x, y]) ∧ H0 T = none) → (∀ b o, H0 b = some o → H' b = some o) → R (.ok (.ret res)) s') →
      codeAny (model X.prog X.w) A (.builtin "list.extend.loop" ⟨[Value.ref S, Value.ref z, res], []⟩) R s := by
  obtain ⟨dz, dTI, dTO, di1, di2, dl1, dl2⟩ := id d
  have nS : S ∉ [z, TO, i1, i2] := by
    intro m
    simp only [List.mem_cons, List.not_mem_nil, or_false] at m
    rcases m with m | m | m | m
    · exact dz m
    · exact dTO m
    · exact di1 m
    · exact di2 m
  have la := ra.length
  have lb := rb.length
  intro k
  induction k with
  | zero =>
    intro i s H acc accV c hk hi I st hS hHS hv hl ht hb hf hR
    have hin : i = min xs.length ys.length := by omega
    have fin : ∀ h' tk, (∀ c o, c ∉ [z, TO, i1, i2] → s.heap.get? c = some o → h'.get? c = some o) → wpAny (model X.prog X.w) A.in1 (pure (Fin.done (.ret res))) (fun fin s' => match fin with
        | .done f => R (.ok f) s'
        | .again c' => c'.quiet = true ∧ codeAny (model X.prog X.w) A c' R s') (fun e s' => R (.error e) s') { s with heap := h', toks := tk } := fun h' tk hk =>
      wpAny_pure (hR _ H accV (I.turnedL (t' := tk) hk fun b hb => (hf b hb).1) hHS (by rw [hl, hin]) (fun j x y e1 e2 => ht j x y (by have := (List.getElem?_eq_some_iff.mp e1).1; have := (List.getElem?_eq_some_iff.mp e2).1; omega) e1 e2) hb)
    refine codeAny_builtin F.entry_extend_loop ?_
    rw [Around.under_plainId F.plain_extend_loop _]
    show wpAny _ A.in1 (pyNext (Value.ref z) >>= _) _ _ s
    obtain ⟨hTI, h1, h2, hl1, hl2, hz⟩ := st
    have hend : a.toArray[i]? = none ∨ b.toArray[i]? = none := by
      rcases Nat.le_total xs.length ys.length with h | h
      · exact .inl (Array.getElem?_eq_none (by rw [List.size_toArray, ← la]; omega))
      · exact .inr (Array.getElem?_eq_none (by rw [List.size_toArray, ← lb]; omega))
    refine wpAny_bind ?_
    rcases hz with ⟨hz, p, q, hTO⟩ | ⟨T, f, oT, hz, hT, r1, r2, r3, r4⟩
    · exact wpAny_pyNext_zip_end hh D hz hTI hTO h1 h2 hl1 hl2 hend fun h' hk => fin h' s.toks fun c o hc e => hk c o (fun x => hc (by simp [x])) (fun x => hc (by simp [x])) (fun x => hc (by simp [x])) (fun x => hc (by simp [x])) e
    · exact wpAny_pyNext_zip_end_held hh D hz hT hTI h1 h2 hl1 hl2 hend fun h' hk => fin h' s.toks fun c o hc e => hk c o (fun x => hc (by simp [x])) (fun x => hc (by simp [x])) (fun x => hc (by simp [x])) e
  | succ k ih =>
    intro i s H acc accV c hk hi I st hS hHS hv hl ht hb hf hR
    have hix : i < xs.length := by omega
    have hiy : i < ys.length := by omega
    have ex := List.getElem?_eq_getElem hix
    have ey := List.getElem?_eq_getElem hiy
    generalize xs[i] = x at ex
    generalize ys[i] = y at ey
    obtain ⟨u, eu, ru⟩ := ra.get ex
    obtain ⟨v, ev, rv⟩ := rb.get ey
    have eu' : a.toArray[i]? = some u := by simpa using eu
    have ev' : b.toArray[i]? = some v := by simpa using ev
    refine codeAny_builtin F.entry_extend_loop ?_
    rw [Around.under_plainId F.plain_extend_loop _]
    show wpAny _ A.in1 (pyNext (Value.ref z) >>= _) _ _ s
    have next : ∀ h' tk, h'.objs.size = s.heap.objs.size + 1 → IsPair h' s.heap.objs.size u v → ZSl z TI TO i1 i2 l1 l2 S a.toArray b.toArray (i + 1) h' → (∀ c o, c ∉ [z, TO, i1, i2] → s.heap.get? c = some o → h'.get? c = some o) →
        wpAny (model X.prog X.w) A.in1 (updateSeq S (·.push (.ref s.heap.objs.size)) >>= fun _ => again (.builtin "list.extend.loop" ⟨[Value.ref S, Value.ref z, res], []⟩)) (fun fin s' => match fin with
        | .done f => R (.ok f) s'
        | .again c' => c'.quiet = true ∧ codeAny (model X.prog X.w) A c' R s') (fun e s' => R (.error e) s') { s with heap := h', toks := tk } := by
      intro h' tk hsz hT st' hk'
      have nT : H s.heap.objs.size = none := I.hok.fresh (Nat.le_refl _)
      have I1 : Inv X pins σ (upd H s.heap.objs.size (.tup [x, y])) { s with heap := h', toks := tk } :=
        I.turnedNew (t' := tk) hk' (fun b hb => (hf b hb).1) (Nat.le_refl _) ⟨by show 2 ≤ sizeLine; decide, [u, v], .cons ru (.cons rv .nil), ⟨_, hT, rfl, _, rfl⟩⟩
      have neST : S ≠ s.heap.objs.size := Nat.ne_of_lt (Heap.lt_size hS)
      have hS' := hk' S _ nS hS
      refine wpAny_bind ?_
      have hacc : acc.size = i := by rw [← hl, hv.length, Array.length_toList]
      refine wpAny_updateSeq hS' rfl (wpAny_pure ⟨plainId_quiet F.plain_extend_loop _, ?_⟩) (by rw [hacc]; omega) (by show (acc.push _).size ≤ sizeLine + 1; rw [Array.size_push, hacc]; omega)
      have hS2 := Heap.get?_update_self (Obj.mapSeq (·.push (Value.ref s.heap.objs.size))) hS' rfl
      have stay : ∀ b o, b ≠ S → h'.get? b = some o → (h'.update S (Obj.mapSeq (·.push (Value.ref s.heap.objs.size)))).get? b = some o := fun b o hb e => (Heap.get?_update_other _ _ (Ne.symm hb)).trans e
      have hv2 : Vals (accV ++ [V.ref s.heap.objs.size]) (acc.push (.ref s.heap.objs.size)).toList := by
        rw [Array.toList_push]
        exact hv.append (.cons rfl .nil)
      have I2 := I1.write (x := S) (e := S) (o := .lst (accV ++ [V.ref s.heap.objs.size])) (t' := tk) (by rw [upd_ne neST, hHS]; trivial) (.inl rfl) stay ⟨_, hS2⟩ ⟨by rw [List.length_append, hl]; show i + 1 ≤ _; omega, _, _, hv2, by rw [Array.toArray_toList]; exact hS2⟩
      refine ih (i + 1) _ _ _ _ _ (by omega) (by omega) I2 (st'.at d stay) hS2 upd_same hv2 (by rw [List.length_append, hl]; rfl) ?_ ?_ ?_ hR
      · intro j x' y' hj e1 e2
        by_cases hji : j < i
        · obtain ⟨T, t1, t2, t3⟩ := ht j x' y' hji e1 e2
          refine ⟨T, ?_, ?_, t3⟩
          · rw [List.getElem?_append, if_pos (by omega)]; exact t1
          · rw [upd_ne (ne_of t2 hHS (by intro z; cases z)), upd_ne (ne_of_none t2 nT)]
            exact t2
        · obtain rfl : j = i := by omega
          rw [ex] at e1
          rw [ey] at e2
          cases e1
          cases e2
          refine ⟨s.heap.objs.size, ?_, ?_, ?_⟩
          · rw [List.getElem?_append_right (by omega), hl, Nat.sub_self]; rfl
          · rw [upd_ne (Ne.symm neST), upd_same]
          · cases q : H0 s.heap.objs.size with
            | none => rfl
            | some o => rw [hb _ _ q] at nT; cases nT
      · intro b o e
        have e1 := hb b o e
        have nb : b ≠ s.heap.objs.size := ne_of_none e1 nT
        by_cases hbS : b = S
        · subst hbS
          rw [h0S] at e
          cases e
        · rw [upd_ne hbS, upd_ne nb]; exact e1
      · intro c hc
        obtain ⟨f, lt⟩ := hf c hc
        refine ⟨⟨?_, f.2⟩, ?_⟩
        · rw [upd_ne (fun e : c = S => nS (by rw [← e]; exact hc)), upd_ne (Nat.ne_of_lt lt)]
          exact f.1
        · show c < (h'.update S (Obj.mapSeq (·.push (Value.ref s.heap.objs.size)))).objs.size
          rw [(Heap.SameBut.update ..).1, hsz]
          exact Nat.lt_succ_of_lt lt
    obtain ⟨hTI, h1, h2, hl1, hl2, hz⟩ := st
    have lt : ∀ {c o}, s.heap.get? c = some o → s.heap.objs.size ≠ c := fun e => Nat.ne_of_gt (Heap.lt_size e)
    have n1 : s.heap.objs.size ≠ i1 := let ⟨_, e, _⟩ := h1; lt e
    have n2 : s.heap.objs.size ≠ i2 := let ⟨_, e, _⟩ := h2; lt e
    refine wpAny_bind ?_
    rcases hz with ⟨hz, p, q, hTO⟩ | ⟨T, f, oT, hz, hT, r1, r2, r3, r4⟩
    · refine wpAny_pyNext_zip_item D hz hTI hTO h1 h2 hl1 hl2 eu' ev' fun h' a1 a2 a3 a4 a5 a6 hk => ?_
      exact next h' s.toks a6 a5 ⟨hk _ _ D.TIz D.TITO D.TIi1 D.TIi2 hTI, a3, a4, hl1.at fun o e => hk _ o D.l1z D.l1TO D.l1i1 D.l1i2 e, hl2.at fun o e => hk _ o D.l2z D.l2TO D.l2i1 D.l2i2 e,
          .inr ⟨s.heap.objs.size, false, _, a1, a5, lt hz, n1, n2, lt hS⟩⟩ fun c o hc e => hk c o (fun x => hc (by simp [x])) (fun x => hc (by simp [x])) (fun x => hc (by simp [x])) (fun x => hc (by simp [x])) e
    · refine wpAny_pyNext_zip_item_held D hz hT hTI h1 h2 hl1 hl2 eu' ev' fun h' a1 a3 a4 a5 a6 hk => ?_
      exact next h' s.toks a6 a5 ⟨hk _ _ D.TIz D.TIi1 D.TIi2 hTI, a3, a4, hl1.at fun o e => hk _ o D.l1z D.l1i1 D.l1i2 e, hl2.at fun o e => hk _ o D.l2z D.l2i1 D.l2i2 e,
          .inr ⟨T, true, oT, a1, hk _ _ r1 r2 r3 hT, r1, r2, r3, r4⟩⟩ fun c o hc e => hk c o (fun x => hc (by simp [x])) (fun x => hc (by simp [x])) (fun x => hc (by simp [x])) e
theorem zip_list {s : Shared} {H : Hp} {Q : Value → Shared → Prop} {E : Value → Shared → Prop} (hh : A.handled = none) (D : ZipApart z TI TO i1 i2 l1 l2) {xs ys : List V} {a b : List Value} (ra : Vals xs a) (rb : Vals ys b) (hn : xs.length ≤ sizeLine) (I : Inv X pins σ H s)
    (hz : IsZip s.heap z TI TO .none) (hTI : IsPair s.heap TI (.ref i1) (.ref i2)) (hTO : ∃ p q, IsPair s.heap TO p q) (h1 : s.heap.IsListIter i1 l1 0) (h2 : s.heap.IsListIter i2 l2 0) (hl1 : s.heap.IsList l1 a.toArray) (hl2 : s.heap.IsList l2 b.toArray) (hf : ∀ c ∈ [z, TO, i1, i2], FpOk X pins H c)
    (hQ : ∀ (s' : Shared) (H' : Hp) (S : Addr) (accV' : List V), Inv X pins σ H' s' → H S = none → H' S = some (.lst accV') → accV'.length = min xs.length ys.length →
        (∀ (j : Nat) (x y : V), xs[j]? = some x → ys[j]? = some y → ∃ T, accV'[j]? = some (V.ref T) ∧ H' T = some (.tup [x, y]) ∧ H T = none) → (∀ b o, H b = some o → H' b = some o) → Q (.ref S) s') :
    wpAny (model X.prog X.w) A (call (.type "list") [.ref z]) Q E s := by
  have lz : z < s.heap.objs.size := Heap.lt_size hz
  have lTI : TI < s.heap.objs.size := Heap.lt_size hTI
  have lTO : TO < s.heap.objs.size := by obtain ⟨_, _, h⟩ := id hTO; exact Heap.lt_size h
  have li1 : i1 < s.heap.objs.size := by obtain ⟨_, h, _⟩ := id h1; exact Heap.lt_size h
  have li2 : i2 < s.heap.objs.size := by obtain ⟨_, h, _⟩ := id h2; exact Heap.lt_size h
  have ll1 : l1 < s.heap.objs.size := by obtain ⟨_, h, _⟩ := id hl1; exact Heap.lt_size h
  have ll2 : l2 < s.heap.objs.size := by obtain ⟨_, h, _⟩ := id hl2; exact Heap.lt_size h
  refine callType_codes (Q₁ := fun obj s1 => obj = .ref s.heap.objs.size ∧ s1 = { s with heap := s.heap.push { cls := .type "list", data := .seq #[] } })
    F.called_list (F.typeCall_list_1 _) F.entry_list_init (code_list_new _ ⟨rfl, rfl⟩) ?_
  rintro obj s1 ⟨rfl, rfl⟩
  have hS : (s.heap.push { cls := .type "list", data := .seq #[] }).get? s.heap.objs.size = some { cls := .type "list", data := .seq #[] } := Heap.get?_push_size _ rfl
  refine ⟨⟨_, hS, rfl⟩, F.args_list_init_2 _ _, ?_⟩
  show wpAny _ _ (do
    let old ← Builtin.List.listItems (.ref s.heap.objs.size)
    Builtin.List.listUpdate (.ref s.heap.objs.size) (fun _ => #[])
    letGo old.toList.reverse
    Builtin.List.listExtendWith (.ref s.heap.objs.size) (.ref z) .none) _ _ _
  apply wpAny_bind
  unfold Builtin.List.listItems
  apply wpAny_bind
  apply wpAny_seqItems hS rfl
  apply wpAny_pure
  show wpAny _ _ (updateSeq s.heap.objs.size (fun _ => #[]) >>= fun _ => letGo (#[] : Array Value).toList.reverse >>= fun _ => Builtin.List.listExtendWith _ _ .none) _ _ _
  apply wpAny_bind
  refine wpAny_updateSeq hS rfl ?_
  have hS2 := Heap.get?_update_self (Obj.mapSeq (fun _ => (#[] : Array Value))) hS rfl
  have stay : ∀ b o, b ≠ s.heap.objs.size → s.heap.get? b = some o → ((s.heap.push { cls := .type "list", data := .seq #[] }).update s.heap.objs.size (Obj.mapSeq (fun _ => (#[] : Array Value)))).get? b = some o :=
    fun b o hb e => (Heap.get?_update_other _ _ (Ne.symm hb)).trans (Heap.get?_push_of_some _ e)
  have keep : ∀ b o, s.heap.get? b = some o → ((s.heap.push { cls := .type "list", data := .seq #[] }).update s.heap.objs.size (Obj.mapSeq (fun _ => (#[] : Array Value)))).get? b = some o := fun b o e => stay b o (Nat.ne_of_lt (Heap.lt_size e)) e
  apply wpAny_bind
  apply wpAny_letGo
  -- the walk into the list
  have hzz : ∀ {h' : Heap}, (∀ b o, s.heap.get? b = some o → h'.get? b = some o) → IsZip h' z TI TO .none := fun k => k _ _ hz
  have Sz : s.heap.objs.size ≠ z := Nat.ne_of_gt lz
  have ty : ∀ {h' : Heap} {t : Nat}, (∀ b o, s.heap.get? b = some o → h'.get? b = some o) → Shared.TypeIs { s with heap := h', toks := t } (.ref z) "zip" := fun k => ⟨_, hzz k, rfl⟩
  have nosame : Builtin.List.listSameRef (.ref s.heap.objs.size) (.ref z) = false := by simp [Builtin.List.listSameRef, Sz]
  unfold Builtin.List.listExtendWith
  apply wpAny_bind
  apply wpAny_typeOf (ty keep)
  rw [if_neg (by rw [nosame]; decide)]
  apply wpAny_bind
  refine wpAny_pyIter_zip (hzz keep) ?_
  apply wpAny_bind
  apply wpAny_holding
  unfold Builtin.List.listLengthHint
  apply wpAny_bind
  apply wpAny_specialOf (ty keep) zip_nolen
  show wpAny _ _ (specialOf (Value.ref z) (Str.ofString "__length_hint__") >>= _) _ _ _
  apply wpAny_bind
  apply wpAny_specialOf (ty keep) zip_nohint
  apply wpAny_pure
  show wpAny _ _ (rule "list.extend.makes-room" >>= fun _ => Builtin.List.listTouch (.ref s.heap.objs.size) >>= fun _ => again (.builtin "list.extend.loop" ⟨[.ref s.heap.objs.size, .ref z, .none], []⟩)) _ _ _
  refine wpAny_bind (wpAny_rule ?_)
  refine wpAny_bind ?_
  show wpAny _ _ (updateSeq s.heap.objs.size (·.push .none) >>= fun _ => updateSeq s.heap.objs.size (·.pop)) _ _ _
  refine wpAny_bind (wpAny_updateSeq hS2 rfl ?_)
  have hS3 := Heap.get?_update_self (Obj.mapSeq (·.push Value.none)) hS2 rfl
  refine wpAny_updateSeq hS3 rfl ?_
  have hS4 := Heap.get?_update_self (Obj.mapSeq (·.pop)) hS3 rfl
  have oth : ∀ b o, b ≠ s.heap.objs.size → s.heap.get? b = some o → ((((s.heap.push { cls := .type "list", data := .seq #[] }).update s.heap.objs.size (Obj.mapSeq (fun _ => (#[] : Array Value)))).update s.heap.objs.size (Obj.mapSeq (·.push Value.none))).update s.heap.objs.size (Obj.mapSeq (·.pop))).get? b = some o :=
    fun b o hb e => (Heap.get?_update_other _ _ (Ne.symm hb)).trans ((Heap.get?_update_other _ _ (Ne.symm hb)).trans (stay b o hb e))
  have keep4 : ∀ b o, s.heap.get? b = some o → _ := fun b o e => oth b o (Nat.ne_of_lt (Heap.lt_size e)) e
  refine wpAny_pure ⟨plainId_quiet F.plain_extend_loop _, ?_⟩
  have nS : H s.heap.objs.size = none := I.hok.fresh (Nat.le_refl _)
  have I2 := I.laid (t' := s.toks) (a := s.heap.objs.size) (o := .lst []) keep4 (Nat.le_refl _) ⟨Nat.zero_le _, [], _, .nil, hS4⟩
  refine zip_loop (A := A.in1) (R := _) hh D ⟨Sz, Nat.ne_of_gt lTI, Nat.ne_of_gt lTO, Nat.ne_of_gt li1, Nat.ne_of_gt li2, Nat.ne_of_gt ll1, Nat.ne_of_gt ll2⟩ ra rb hn H nS .none _ 0 _ _ _ [] _ rfl (Nat.zero_le _) I2
    ⟨keep4 _ _ hTI, h1.at fun o e => keep4 _ o e, h2.at fun o e => keep4 _ o e, hl1.at fun o e => keep4 _ o e, hl2.at fun o e => keep4 _ o e, .inl ⟨keep4 _ _ hz, let ⟨p, q, e⟩ := hTO; ⟨p, q, keep4 _ _ e⟩⟩⟩ hS4 upd_same .nil rfl (fun j x y hj => absurd hj (Nat.not_lt_zero _)) (fun b o e => by rw [upd_ne (ne_of_none e nS)]; exact e) (fun c hc => ?_) ?_
  · have lt : c < s.heap.objs.size := by
      simp only [List.mem_cons, List.not_mem_nil, or_false] at hc
      rcases hc with rfl | rfl | rfl | rfl <;> assumption
    refine ⟨⟨?_, (hf c hc).2⟩, ?_⟩
    · rw [upd_ne (Nat.ne_of_lt lt)]; exact (hf c hc).1
    · show c < ((((s.heap.push { cls := .type "list", data := .seq #[] }).update s.heap.objs.size (Obj.mapSeq (fun _ => (#[] : Array Value)))).update s.heap.objs.size (Obj.mapSeq (·.push Value.none))).update s.heap.objs.size (Obj.mapSeq (·.pop))).objs.size
      rw [(Heap.SameBut.update ..).1, (Heap.SameBut.update ..).1, (Heap.SameBut.update ..).1, Heap.size_push]
      exact Nat.lt_succ_of_lt lt
  · intro s' H' accV' I' e1 e2 e3 e4
    exact ⟨rfl, hQ s' H' _ accV' I' nS e1 e2 e3 e4⟩
end

def tLstZip (K : Fg) (ta : TA) : TE := fun σ H Q => ta σ H fun vs H2 => ∃ (a b : Addr) (xs ys : List V), vs = [.ref a, .ref b] ∧ SqL K H2 a xs ∧ SqL K H2 b ys ∧ ∀ (H' : Hp) (p : Addr) (l : List V), H2 p = none → H' p = some (.lst l) → l.length = min xs.length ys.length →
  (∀ (j : Nat) (x y : V), xs[j]? = some x → ys[j]? = some y → ∃ T, l[j]? = some (V.ref T) ∧ H' T = some (.tup [x, y]) ∧ H2 T = none) → (∀ b o, H2 b = some o → H' b = some o) → Q (.ref p) H'
section
variable {X : Cx}
theorem pe_lstZip {e e2 : Expr} {ta : TA} {p p2 pos pos2 : Pos} (hc : X.calm = true) (hg : Gl X "list") (hm : X.mg "list" = none) (hg2 : Gl X "zip") (hm2 : X.mg "zip" = none) (ha : PA X [e, e2] ta)
    (hs : starEach [e, e2] X.env = (false, eval e X.env) :: starEach [e2] X.env := by rfl) (hpl : (backTo pos2 (starEach [e2] X.env)).any (·.1) = false := by rfl)
    (n2 : starEach [.Call (.Name "zip" p2) [e, e2] [] pos2] X.env = (false, eval (.Call (.Name "zip" p2) [e, e2] [] pos2) X.env) :: starEach [] X.env := by rfl) :
    PE X (.Call (.Name "list" p) [.Call (.Name "zip" p2) [e, e2] [] pos2] [] pos) (tLstZip X.K ta) := by
  constructor
  intro pins s σ H Q J h
  have inner : ∀ {Q2 : Value → Shared → Prop}, (∀ us s1 vs H1, Inv X pins σ H1 s1 → Vals vs us → (∃ (a b : Addr) (xs ys : List V), vs = [.ref a, .ref b] ∧ SqL X.K H1 a xs ∧ SqL X.K H1 b ys ∧ ∀ (H' : Hp) (p : Addr) (l : List V), H1 p = none → H' p = some (.lst l) → l.length = min xs.length ys.length →
  (∀ (j : Nat) (x y : V), xs[j]? = some x → ys[j]? = some y → ∃ T, l[j]? = some (V.ref T) ∧ H' T = some (.tup [x, y]) ∧ H1 T = none) → (∀ b o, H1 b = some o → H' b = some o) → Q (.ref p) H') → wpAny (model X.prog X.w) X.A (call (.type "zip") us) Q2 X.xe s1) →
      wpAny (model X.prog X.w) X.A (eval (.Call (.Name "zip" p2) [e, e2] [] pos2) X.env) Q2 X.xe s := fun {Q2} k =>
    Call_ (ld_blt J hg2 hm2 PyProof.Rows.boot_zip (PyProof.Rows.callWith_type1 (thn (ha.run pos2 pins s σ H _ J h) fun us s1 ⟨vs, H1, J1, r1, q1⟩ => k us s1 vs H1 J1 r1 q1) hs hpl))
  refine Call_ (ld_blt J hg hm bt_list (PyProof.Rows.callWith_type1 (args_cons (inner fun us s1 vs H1 J1 r1 q1 => ?_) n2) n2 rfl))
  obtain ⟨a, b, xs, ys, rfl, hq1, hq2, q⟩ := q1
  cases r1 with
  | cons r rr =>
    cases rr with
    | cons r' rr =>
      cases rr
      cases r
      cases r'
      obtain ⟨its, rv, pl, hz⟩ := J1.list hq1
      obtain ⟨its2, rv2, pl2, hz2⟩ := J1.list hq2
      have la := pl.lt
      have lb := pl2.lt
      refine call_zip_2 pl.isList pl2.isList fun h' hzz hTI hTO h1 h2 hsz hk => args_nil ?_
      have J2 : Inv X pins σ H1 { s1 with heap := h' } := J1.kept (t' := s1.toks) hk
      have hh := J1.ok.hd hc
      refine zip_list (s := { s1 with heap := h' }) (H := H1) hh (zipApart_new la lb) rv rv2 hz J2 hzz hTI ⟨_, _, hTO⟩ h1 h2 (pl.isList.at fun o e => hk _ o e) (pl2.isList.at fun o e => hk _ o e) (fun c hcm => ?_) ?_
      · have hle : s1.heap.objs.size ≤ c := by
          simp only [List.mem_cons, List.not_mem_nil, or_false] at hcm
          rcases hcm with rfl | rfl | rfl | rfl
          · exact Nat.le_add_right _ _
          · exact Nat.le_add_right _ _
          · exact Nat.le_refl _
          · exact Nat.le_add_right _ _
        exact J1.fpOk hle (J1.hok.fresh hle)
      · intro s' H' S l I' e1 e2 e3 e4 e5
        exact ⟨.ref S, H', I', rfl, q H' S l e1 e2 e3 e4 e5⟩
end
def fLstZip {S : Type} (fa fb : FE S) : FO S := fun ρ s Φ => fa ρ s fun x s1 => fb ρ s1 fun y s2 => match x, y with
  | .lst a, .lst b => Φ (.lst (zipD a b)) s2
  | _, _ => False
theorem zip_rs {B : Ad} {H : Hp} {p : Addr} (hp : ∀ T, H T ≠ none → T ≠ p → True) : ∀ {l m : List D} {xs ys us : List V}, RsL B H l xs → RsL B H m ys → us.length = min xs.length ys.length →
    (∀ (j : Nat) (x y : V), xs[j]? = some x → ys[j]? = some y → ∃ T, us[j]? = some (V.ref T) ∧ H T = some (.tup [x, y]) ∧ ¬ B T) → RsL B H (zipD l m) us
  | [], m, _, ys, us, .nil, _, h, _ => by
    have : us = [] := List.eq_nil_of_length_eq_zero (by simpa using h)
    subst this
    simp only [zipD]
    exact .nil
  | _ :: _, [], _, _, us, .cons _ _, .nil, h, _ => by
    have : us = [] := List.eq_nil_of_length_eq_zero (by simpa using h)
    subst this
    simp only [zipD]
    exact .nil
  | _ :: _, _ :: _, _, _, us, .cons a r, .cons b t, h, q => by
    match us, h, q with
    | [], h, _ =>
      simp only [List.length_nil, List.length_cons] at h
      omega
    | u :: us, h, q =>
      obtain ⟨T, e1, e2, e3⟩ := q 0 _ _ rfl rfl
      simp at e1
      subst e1
      refine .cons (.tup e2 e3 (.cons a (.cons b .nil))) (zip_rs hp r t (by simp at h; omega) fun j x y f1 f2 => ?_)
      obtain ⟨T2, g1, g2, g3⟩ := q (j + 1) x y (by simpa using f1) (by simpa using f2)
      exact ⟨T2, by simpa using g1, g2, g3⟩
section
variable {A : Amb} {ta tb : TE} {fa fb : FE A} {K : Fg}
theorem so_lstZip (ha : SdE A true false ta fa) (hb : SdE A true false tb fb) : SdO A (tLstZip K (tCons ta (tCons tb tNil))) (fLstZip fa fb) := fun W s0 H0 s σ H ρ Φ Q R hp q =>
  ha W s0 H0 s σ H ρ _ _ R hp fun x s1 v H1 h1 R1 st1 r1 => hb W s0 H0 s1 σ H1 ρ _ _ R1 h1 fun y s2 w H2 h2 R2 st2 r2 => by
    have r1' := r1.stp st2
    cases x with
    | lst a =>
      cases y with
      | lst b =>
        obtain ⟨p1, xs, rfl, k1, k2, _⟩ := r1'.lst
        obtain ⟨p2, ys, rfl, g1, g2, _⟩ := r2.lst
        refine ⟨p1, p2, xs, ys, rfl, .of k1, .of g1, fun H' p l hp hp' hl ht hk => ?_⟩
        have stn : Stp A s2 s2 H2 H' := ⟨fun a o e _ => hk a o e, fun _ z => .inl z, fun a e => by
          cases q : H2 a with
          | none => exact (e q).elim
          | some o => rw [hk a o q]; simp⟩
        have am : A.I s2 (om true A (W.add p) s2 σ ρ) H' := A.loc R2.amb (fun a z => (om_wide a z).imp id fun e => by subst e; exact hp) (fun a o e _ => hk a o e) fun a z => by
          cases q : H2 a with
          | none => exact (A.dom R2.amb z q).elim
          | some o => exact hk a o q
        have R3 := R2.goAdd stn am hp (by rw [hp']; simp)
        refine q (.lst (zipD a b)) s2 p H' h2 R3 ((st1.trans st2).trans stn) (none_back (st1.trans st2) hp) ⟨l, hp', ?_⟩ (fun z => R2.wd p z hp) (fun z => A.dom R2.amb z hp)
        have hB : ∀ a, om true A (W.add p) s2 σ ρ a → om true A W s2 σ ρ a ∨ H2 a = none := fun a z => (om_wide a z).imp id fun e => by subst e; exact hp
        have hA : Agr (om true A W s2 σ ρ) H2 H' := fun a o e _ => hk a o e
        refine zip_rs (p := p) (fun _ _ _ => trivial) (k2.go hB hA) (g2.go hB hA) hl fun j x y e1 e2 => ?_
        obtain ⟨T, t1, t2, t3⟩ := ht j x y e1 e2
        refine ⟨T, t1, t2, fun z => ?_⟩
        rcases om_wide T z with z | z
        · exact R2.fresh t3 z
        · subst z
          rw [hp'] at t2
          cases t2
      | _ => exact h2.elim
    | _ => exact h2.elim
end
section
variable {X : Cx} {A : Amb} {a b : Expr} {ta tb : TE} {fa fb : FE A} {p p2 pos pos2 : Pos}
theorem qo_lzip (hc : X.calm = true) (hm : X.mg "list" = none) (hm2 : X.mg "zip" = none) (ha : QE X A true false a ta fa) (hb : QE X A true false b tb fb) (hg : Gl X "list" := by rfl) (hg2 : Gl X "zip" := by rfl)
    (hs : starEach [a, b] X.env = (false, eval a X.env) :: starEach [b] X.env := by rfl) (hs2 : starEach [b] X.env = (false, eval b X.env) :: starEach [] X.env := by rfl) (hpl : (backTo pos2 (starEach [b] X.env)).any (·.1) = false := by rfl)
    (n2 : starEach [.Call (.Name "zip" p2) [a, b] [] pos2] X.env = (false, eval (.Call (.Name "zip" p2) [a, b] [] pos2) X.env) :: starEach [] X.env := by rfl) :
    QO X A (.Call (.Name "list" p) [.Call (.Name "zip" p2) [a, b] [] pos2] [] pos) (tLstZip X.K (tCons ta (tCons tb tNil))) (fLstZip fa fb) :=
  ⟨pe_lstZip hc hg hm hg2 hm2 (pa_cons ha.pe (pa_cons hb.pe pa_nil hs2) hs) hs hpl n2, so_lstZip ha.sd hb.sd⟩
end
end Pd

set_option maxHeartbeats 4000000
/-! set(a list of ints), sorted(set(..)) -/
namespace Pd
open PySem PySem.Spec PyProof.Rows L2
section
variable {prog : Program} {w : World} {A : Around} {E : Value → Shared → Prop} {R : Result → Shared → Prop} {s : Shared}
abbrev MetR (w : World) (h : Heap) (S : Addr) (val : Nat → Int) (i : Nat) : Prop := SetR w h S (fun k => (firstMet val i).any (· == k)) (firstMet val i).length
theorem MetR.next {h h' : Heap} {S : Addr} {val : Nat → Int} {i : Nat} (r : SetR w h' S (fun j => ((firstMet val i).any (· == j)) || decide (j = val i)) (if (firstMet val i).any (· == val i) = true then (firstMet val i).length else (firstMet val i).length + 1)) : MetR w h' S val (i + 1) := by
  have e1 : (fun j => ((firstMet val i).any (· == j)) || decide (j = val i)) = fun k => (firstMet val (i + 1)).any (· == k) := by
    funext k
    rw [firstMet_succ, step_any]
  have e2 : (if (firstMet val i).any (· == val i) = true then (firstMet val i).length else (firstMet val i).length + 1) = (firstMet val (i + 1)).length := by rw [firstMet_succ, step_length]
  rw [e1, e2] at r
  exact r
theorem met_loop {I : Addr} {fp : List Addr} {n : Nat} {St : Nat → Heap → Prop} {vs : Array Value} (W : Walks prog w A.in1 I fp [I] n (fun i v => vs[i]? = some v) St) (S : Addr) (hSf : S ∉ fp) (hIf : I ∈ fp)
    (val : Nat → Int) (hval : ∀ (i : Nat) (v : Value), vs[i]? = some v → ∃ t, v = .int (val i) t) (hb : n + 1 < scanBound) : ∀ (k i : Nat) (s : Shared), n - i = k → i ≤ n → St i s.heap → MetR w s.heap S val i →
      (∀ h' tk, (∀ b o, b ≠ S → b ≠ I → s.heap.get? b = some o → h'.get? b = some o) → MetR w h' S val n → R (.ok (.ret .none)) { s with heap := h', toks := tk }) →
      codeAny (model prog w) A (.builtin "set.update.loop" ⟨[.ref S, .ref I], []⟩) R s := by
  have hSI : S ≠ I := fun e => hSf (by rw [e]; exact hIf)
  have WS := W.toS
  intro k
  induction k with
  | zero =>
    intro i s hk hi st hS hR
    obtain rfl : i = n := by omega
    refine codeAny_builtin F.entry_set_update_loop ?_
    rw [Around.under_plainId F.plain_set_update_loop _]
    show wpAny _ A.in1 (pyNext (Value.ref I) >>= _) _ _ s
    refine wpAny_bind (WS.done s _ _ st fun s' hm => ?_)
    show wpAny _ A.in1 (ret Value.none) _ _ s'
    have kp : ∀ b o, b ≠ S → b ≠ I → s.heap.get? b = some o → s'.heap.get? b = some o := fun b o _ h2 e => hm.heap b o (fun z => h2 (List.mem_singleton.mp z)) e
    have rr := hR s'.heap s'.toks kp (hS.at fun o e => hm.heap S o (fun z => hSI (List.mem_singleton.mp z)) e)
    have es : s' = { s with heap := s'.heap, toks := s'.toks } := by
      obtain ⟨h, g, d, t, os⟩ := s'
      have e1 : g = s.gens := hm.gens
      have e2 : d = s.drawn := hm.drawn
      have e3 : os = s.os := hm.os
      subst e1 e2 e3
      rfl
    rw [es]
    exact wpAny_pure rr
  | succ k ih =>
    intro i s hk hi st hS hR
    have hlt : i < n := by omega
    refine codeAny_builtin F.entry_set_update_loop ?_
    rw [Around.under_plainId F.plain_set_update_loop _]
    show wpAny _ A.in1 (pyNext (Value.ref I) >>= _) _ _ s
    refine wpAny_bind (WS.item i s _ _ hlt st fun v s1 hP st1 hm => ?_)
    obtain ⟨t, rfl⟩ := hval i v hP
    have hS1 := hS.at (h' := s1.heap) fun o e => hm.heap S o (fun z => hSI (List.mem_singleton.mp z)) e
    have room : (firstMet val i).length + 1 < scanBound := by have := firstMet_length_le val i; omega
    show wpAny _ A.in1 (holding [Value.int (val i) t] (setAdd S (.int (val i) t)) >>= _) _ _ s1
    refine wpAny_bind (wpAny_holding ?_)
    unfold setAdd
    refine wpAny_holding (wpAny_bind ((intKind prog w).pyHash (k := val i) (intKind_is _ _ _ _) ?_))
    refine setR_add_hashed (s := { s1 with toks := s1.toks + 1 }) hS1 room fun h2 sb r => ?_
    have k1 : ∀ b o, b ≠ S → b ≠ I → s.heap.get? b = some o → h2.get? b = some o := fun b o n1 n2 e => (sb.2 b n1).trans (hm.heap b o (fun z => n2 (List.mem_singleton.mp z)) e)
    refine wpAny_pure ⟨plainId_quiet F.plain_set_update_loop _, ih (i + 1) _ (by omega) hlt (W.frame _ s1.heap _ st1 fun b hb o e => (sb.2 b fun z => hSf (by rw [← z]; exact hb)).trans e) (MetR.next (h := s1.heap) r) fun h3 tk k3 r3 => ?_⟩
    have rr := hR h3 tk (fun b o n1 n2 e => k3 b o n1 n2 (k1 b o n1 n2 e)) r3
    have es : (⟨h3, s1.gens, s1.drawn, tk, s1.os⟩ : Shared) = { s with heap := h3, toks := tk } := by
      have e1 : s1.gens = s.gens := hm.gens
      have e2 : s1.drawn = s.drawn := hm.drawn
      have e3 : s1.os = s.os := hm.os
      rw [e1, e2, e3]
    show R _ (⟨h3, s1.gens, s1.drawn, tk, s1.os⟩ : Shared)
    rw [es]
    exact rr
theorem code_set_arg (a : Value) {Q₁ : Value → Shared → Prop} (h : Q₁ (.ref s.heap.objs.size) { s with heap := s.heap.push { cls := .type "set", dict := none, data := .set #[] 0 (.fresh 0 0 (!w.params.followText "set-order")) } }) :
    codeAny (model prog w) A (.call (.builtin "set.__new__") ⟨[.type "set", a], []⟩) (wants Q₁ E) s := by
  refine codeAny_of_tree ?_
  show wpAny _ A.in1 (do checkBuiltinCall "set.__new__" ⟨[.type "set", a], []⟩; again (.builtin "set.__new__" ⟨[.type "set", a], []⟩)) _ _ s
  refine wpAny_bind (wpAny_of_eq (F.newCall_set_1 a) (wpAny_pure ⟨plainId_quiet F.plain_set_new _, codeAny_builtin F.entry_set_new ?_⟩))
  rw [Around.under_plainId F.plain_set_new _]
  unfold Builtin.«set.__new__» Builtin.Frozenset.newClass
  have hsub := sub_set_self
  obtain ⟨hp, g, d, tk, os⟩ := s
  dsimp only
  wp_walk
  refine wpAny_askSetting (wpAny_pure ?_)
  dsimp only
  simp only [newObj]
  exact wpAny_bind (wpAny_alloc (wpAny_pure (wpAny_pure h)))
set_option maxHeartbeats 8000000 in
theorem set_of_list {l : Addr} {items : Array Value} {ns : List Int} {Q : Value → Shared → Prop} (hh : A.handled = none) (hl : s.heap.IsList l items) (hi : IntsAre items.toList ns) (hb : items.size + 1 < scanBound)
    (hQ : ∀ h' tk, MetR w h' s.heap.objs.size (fun i => ns.getD i 0) items.size → (∀ b o, b < s.heap.objs.size → s.heap.get? b = some o → h'.get? b = some o) → Q (.ref s.heap.objs.size) { s with heap := h', toks := tk }) :
    wpAny (model prog w) A (call (.type "set") [.ref l]) Q E s := by
  obtain ⟨c, tl, hmro⟩ := F.called_set.mro
  have hmade := F.called_set.made
  have hsub := F.called_set.sub
  refine wpAny_call (codeAny_of_tree ?_)
  show wpAny _ _ (callAny (.type "set") _) _ _ _
  refine wpAny_pure ⟨Code.quiet_builtin _ (by decide +kernel), codeAny_builtin F.entry_type_call ?_⟩
  rw [Around.under_plain (weight_type_call_type "set" [.ref l] []) rfl]
  have h1 := F.called_set.notType
  have h2 := F.called_set.canCreate
  have hct := F.typeCall_set_1 (.ref l)
  repeat (any_goals (first | assumption | wp_step))
  refine codeAny_mono (code_set_arg (.ref l) (E := E) (Q₁ := fun obj s₁ => obj = .ref s.heap.objs.size ∧ s₁ = { s with heap := s.heap.push { cls := .type "set", dict := none, data := .set #[] 0 (.fresh 0 0 (!w.params.followText "set-order")) } }) ⟨rfl, rfl⟩) fun r s₁ hr => ?_
  have fr := setR_fresh (h := s.heap) w
  generalize hnw : s.heap.push { cls := .type "set", dict := none, data := .set #[] 0 (.fresh 0 0 (!w.params.followText "set-order")) } = h0 at hr fr
  have sz0 : h0.objs.size = s.heap.objs.size + 1 := by rw [← hnw, Heap.size_push]
  have up0 : ∀ b o, s.heap.get? b = some o → h0.get? b = some o := fun b o e => by rw [← hnw]; exact Heap.get?_push_of_some _ e
  have hS : h0.get? s.heap.objs.size = some { cls := .type "set", dict := none, data := .set #[] 0 (.fresh 0 0 (!w.params.followText "set-order")) } := by rw [← hnw]; exact Heap.get?_push_size _ rfl
  have hT : Shared.TypeIs { s with heap := h0 } (.ref s.heap.objs.size) "set" := by rw [← hnw]; exact ⟨_, Heap.get?_push_size _ rfl, rfl⟩
  cases r with
  | error e => exact hr
  | ok fl =>
    cases fl with
    | ret obj =>
      obtain ⟨rfl, rfl⟩ := hr
      have hli := F.called_set.init.lookup
      have hbi := F.called_set.init.bind (.ref s.heap.objs.size)
      repeat (any_goals (first | assumption | wp_step))
      refine codeAny_mono (codeAny_call_builtin (R := wants (fun r s₂ => r = .none ∧ ∃ h' tk, s₂ = { s with heap := h', toks := tk } ∧ MetR w h' s.heap.objs.size (fun i => ns.getD i 0) items.size ∧ (∀ b o, b < s.heap.objs.size → s.heap.get? b = some o → h'.get? b = some o)) E)
        F.called_set.init.plain F.entry_set_init (check_set_init_1 hT ?_)) fun r₂ s₂ hr₂ => ?_
      · obtain ⟨ol, hol, hcl, nl, hdl⟩ := hl
        obtain ⟨ocls, odict, odata, oslots⟩ := ol
        simp only at hcl hdl
        subst hcl; subst hdl
        have hol' := up0 _ _ hol
        have hsls := F.sub_list_set
        have hslf := F.sub_list_frozenset
        have hne : (Value.type "list" == Value.type "dict") = false := by decide
        have hl1 : h0.IsList l items := ⟨_, hol', rfl, nl, rfl⟩
        unfold Builtin.«set.__init__» noKeywords Builtin.Frozenset.updateFrom
        generalize hPI : pyIter = PI
        wp_walk
        subst hPI
        refine wpAny_pyIter_list (s := { s with heap := h0 }) hl1 ?_
        refine wpAny_bind (wpAny_runValue ?_)
        have lS : l < s.heap.objs.size := Heap.lt_size hol
        have lI : l ≠ h0.objs.size := by rw [sz0]; exact Nat.ne_of_lt (Nat.lt_succ_of_lt lS)
        have hSf : s.heap.objs.size ∉ [h0.objs.size, l] := by
          rw [sz0]
          simp only [List.mem_cons, List.not_mem_nil, or_false, not_or]
          exact ⟨Nat.ne_of_lt (Nat.lt_succ_self _), Nat.ne_of_gt lS⟩
        refine met_loop (Walks.list (by simp [hh]) _ l lI items) s.heap.objs.size hSf List.mem_cons_self (fun i => ns.getD i 0) (fun i v hv => IntsAre.int_at hi i v (by rw [Array.getElem?_toList]; exact hv)) hb (items.size - 0) 0 _ (by omega) (Nat.zero_le _)
          ⟨⟨_, Heap.get?_push_size _ rfl, rfl, rfl⟩, hl1.push _⟩ (fr.at fun o e => Heap.get?_push_of_some _ e) ?_
        intro h' tk hk hm
        show wpAny _ _ _ _ _ _
        refine wpAny_pure ?_
        show wpAny _ _ (ret Value.none) _ _ _
        refine wpAny_pure ⟨rfl, h', tk, rfl, hm, fun b o hb e => hk b o (Nat.ne_of_lt hb) ?_ (Heap.get?_push_of_some _ (up0 b o e))⟩
        rw [sz0]
        exact Nat.ne_of_lt (Nat.lt_succ_of_lt hb)
      · cases r₂ with
        | error e => exact hr₂
        | ok fl₂ =>
          cases fl₂ with
          | ret r =>
            obtain ⟨rfl, h', tk, rfl, hm, hk⟩ := hr₂
            repeat (any_goals (first | assumption | wp_step))
            exact hQ _ _ hm hk
          | _ => exact hr₂.elim
    | _ => exact hr.elim
end
def tSortSet (K : Fg) (te : TE) : TE := fun σ H Q => te σ H fun x H1 => ∃ (l : Addr) (ns : List Int), x = .ref l ∧ SqL K H1 l (ns.map V.int) ∧ ns.length < 64 ∧
  ∀ (ys : List Int) (p : Addr), ys.Pairwise (· < ·) → (∀ k : Int, k ∈ ys ↔ k ∈ ns) → H1 p = none → Q (.ref p) (upd H1 p (.lst (ys.map V.int)))
theorem met_mem {ns : List Int} (k : Int) : (firstMet (fun i => ns.getD i 0) ns.length).any (· == k) = true ↔ k ∈ ns := by
  rw [firstMet_any]
  have e : (List.range ns.length).map (fun i => ns.getD i 0) = ns := by
    apply List.ext_getElem (by simp)
    intro i h1 h2
    simp [List.getD_eq_getElem?_getD, List.getElem?_eq_getElem h2]
  rw [e, List.any_eq_true]
  constructor
  · rintro ⟨x, hx, e⟩
    rw [← eq_of_beq e]
    exact hx
  · intro h
    exact ⟨k, h, by simp⟩
theorem pe_sortSet {X : Cx} {e : Expr} {te : TE} {p p2 q pos : Pos} (hc : X.calm = true) (hg : Gl X "sorted") (hm : X.mg "sorted" = none) (hg2 : Gl X "set") (hm2 : X.mg "set" = none) (he : PE X e te)
    (na : starEach [e] X.env = (false, eval e X.env) :: starEach [] X.env := by rfl) (nb : starEach [.Call (.Name "set" p2) [e] [] q] X.env = (false, eval (.Call (.Name "set" p2) [e] [] q) X.env) :: starEach [] X.env := by rfl) :
    PE X (.Call (.Name "sorted" p) [.Call (.Name "set" p2) [e] [] q] [] pos) (tSortSet X.K te) := by
  refine ⟨fun pins s σ H Q I h => ?_⟩
  refine Call_ (ld_blt I hg hm bt_sorted ?_)
  refine PyProof.Rows.callWith_builtin1 (PyProof.Rows.args_cons ?_ nb) nb rfl
  refine Call_ (ld_blt I hg2 hm2 boot_set ?_)
  refine PyProof.Rows.callWith_type1 (PyProof.Rows.args_cons (thn (he.run pins s σ H _ I h) fun v s1 ⟨x, H1, I1, r1, q1⟩ => PyProof.Rows.args_nil ?_) na) na rfl
  obtain ⟨l, ns, rfl, hq, hl, q1⟩ := q1
  cases r1
  obtain ⟨its, r, pl, hz⟩ := I1.list hq
  have hlen : its.toArray.size = ns.length := by rw [List.size_toArray, ← r.length, List.length_map]
  refine set_of_list (I1.ok.hd hc) pl.isList (by simpa using intsAre_of r) (by rw [hlen]; unfold scanBound; omega) fun h' tk hS hk => ?_
  refine PyProof.Rows.args_nil ?_
  rw [hlen] at hS
  have I2 : Inv X pins σ H1 { s1 with heap := h', toks := tk } := I1.kept (t' := tk) fun b o e => hk b o (Heap.lt_size e) e
  have h64 : (firstMet (fun i => ns.getD i 0) ns.length).length < 64 := Nat.lt_of_le_of_lt (firstMet_length_le _ _) hl
  refine sorted_set (s := { s1 with heap := h', toks := tk }) hS (I1.ok.hd hc) h64 fun s' p out c ys k g o hp hg hi hs hmm hl => ?_
  have hln : (ys.map V.int).length ≤ sizeLine := by rw [List.length_map, hl, line_eq]; omega
  have hn : H1 p = none := I2.hok.fresh hp
  have J : Inv X pins σ (upd H1 p (.lst (ys.map V.int))) { { s1 with heap := h', toks := tk } with heap := s'.heap, gens := s'.gens, drawn := s'.drawn, toks := s'.toks } :=
    I2.call (ch := []) (Un.laid k hp hn) (I2.hok.laid k hp ⟨hln, out.toList, c, vals_of_ints hi, hg⟩) (by rw [g]; exact I2.bare) (fun _ z => nomatch z)
  have es : s' = { { s1 with heap := h', toks := tk } with heap := s'.heap, gens := s'.gens, drawn := s'.drawn, toks := s'.toks } := by
    cases s'
    cases o
    rfl
  rw [es]
  exact ⟨.ref p, _, J, rfl, q1 ys p hs (fun k => (hmm k).trans (met_mem k)) hn⟩
structure SsP (ns : List Int) (Φ : D → Prop) : Prop where
  len : ns.length < 64
  go : ∀ ys : List Int, ys.Pairwise (· < ·) → (∀ k : Int, k ∈ ys ↔ k ∈ ns) → Φ (.lst (ys.map D.int))
def fSortSet {S : Type} (f : FE S) : FE S := fun ρ s Φ => f ρ s fun d s1 => ∃ ns : List Int, d = .lst (ns.map D.int) ∧ SsP ns fun d => Φ d s1
theorem sd_sortSet {A : Amb} {m sh : Bool} {K : Fg} {te : TE} {fe : FE A} (h : SdE A m true te fe) : SdE A m sh (tSortSet K te) (fSortSet fe) := fun W s0 H0 s σ H ρ Φ Q R hp q =>
  h W s0 H0 s σ H ρ _ _ R hp fun d s1 v H1 h1 R1 st1 r1 => by
    obtain ⟨ns, rfl, hl, hgo⟩ := h1
    obtain ⟨a, xs, rfl, k1, k2, _⟩ := r1.lst
    obtain rfl := k2.ints
    exact ⟨a, ns, rfl, .of k1, hl, fun ys p hs hm hn => q _ s1 _ _ (hgo ys hs hm) (R1.alloc hn _) (st1.trans (Stp.fresh hn)) (RV.newL R1 hn (RsL.ofInts _))⟩
theorem q_sortSet {X : Cx} {A : Amb} {m sh : Bool} {e : Expr} {te : TE} {fe : FE A} {p p2 q pos : Pos} (hc : X.calm = true) (hm : X.mg "sorted" = none) (hm2 : X.mg "set" = none) (he : QE X A m true e te fe) (hg : Gl X "sorted" := by rfl) (hg2 : Gl X "set" := by rfl)
    (na : starEach [e] X.env = (false, eval e X.env) :: starEach [] X.env := by rfl) (nb : starEach [.Call (.Name "set" p2) [e] [] q] X.env = (false, eval (.Call (.Name "set" p2) [e] [] q) X.env) :: starEach [] X.env := by rfl) :
    QE X A m sh (.Call (.Name "sorted" p) [.Call (.Name "set" p2) [e] [] q] [] pos) (tSortSet X.K te) (fSortSet fe) := ⟨pe_sortSet hc hg hm hg2 hm2 he.pe na nb, sd_sortSet he.sd⟩
end Pd

set_option maxHeartbeats 4000000
/-! texts: join, f-strings of two parts and more, repr of a text -/
namespace Pd
open PySem PySem.Spec PyProof.Rows L2
section
variable {X : Cx} {A : Amb} {m sh : Bool} {a b e : Expr} {ta tb te : TE} {fa fb fe : FE A} {pos apos p2 : Pos}
structure JoinP (sep : Str) (d : D) (Φ : D → Prop) : Prop where
  go : ∃ ys : List Str, (d = .lst (ys.map D.str) ∨ d = .tup (ys.map D.str)) ∧ (ys.map (·.length)).sum + ys.length * sep.length ≤ 16777216 ∧ Φ (.str (Txt.join sep ys))
def fJoin {S : Type} (fa fb : FE S) : FE S := fun ρ s Φ => fa ρ s fun x s1 => match x with
  | .str sep => fb ρ s1 fun d s2 => JoinP sep d fun r => Φ r s2
  | _ => False
theorem q_join (ha : QE X A false true a ta fa) (hb : QE X A false true b tb fb) (hs : starEach [b] X.env = [(false, eval b X.env)] := by rfl) (hbase : attributeBase a "join" X.env (eval a X.env) = eval a X.env := by rfl) (hline : (apos.endLine == pos.line) = true := by rfl) :
    QE X A m sh (.Call (.Attribute a "join" apos) [b] [] pos) (tM1 (fun x xs H Q => ∃ a p, ∃ ys : List Str, x = .str a ∧ xs = [.ref p] ∧ (SqL X.K H p (ys.map V.str) ∨ SqT X.K H p (ys.map V.str)) ∧ (ys.map (·.length)).sum + ys.length * a.length ≤ 16777216 ∧ Q (.str (Txt.join a ys)) H) ta tb) (fJoin fa fb) :=
  ⟨pe_join ha.pe hb.pe hs hbase hline, fun W s0 H0 s σ H ρ Φ Q R hp q => ha.sd W s0 H0 s σ H ρ _ _ R hp fun x s1 v H1 h1 R1 st1 r1 => by
    cases x with
    | str sep =>
      obtain rfl := r1.str
      refine ⟨⟨_, rfl⟩, hb.sd W s0 H0 s1 σ H1 ρ _ _ R1 h1 fun d s2 w H2 h2 R2 st2 r2 => ?_⟩
      obtain ⟨ys, hd, hl, h3⟩ := h2.go
      rcases hd with rfl | rfl
      · obtain ⟨p, xs, rfl, k1, k2, _⟩ := r2.lst
        obtain rfl := k2.strs
        exact ⟨sep, p, ys, rfl, rfl, .inl (.of k1), hl, q _ s2 _ H2 h3 R2 (st1.trans st2) (.inl (.str _))⟩
      · obtain ⟨p, xs, rfl, k1, k2⟩ := r2.tup
        obtain rfl := k2.strs
        exact ⟨sep, p, ys, rfl, rfl, .inr (.of k1), hl, q _ s2 _ H2 h3 R2 (st1.trans st2) (.inl (.str _))⟩
    | _ => exact h1.elim⟩
/-! f-strings -/
def fFmt {S : Type} (fe : FE S) : FE S := fun ρ s Φ => fe ρ s fun x s1 => match x with
  | .str y => y.length ≤ 16777216 ∧ Φ (.str y) s1
  | .int i => i.natAbs.log2 < 1920 ∧ Φ (.str (toString i)) s1
  | _ => False
theorem q_fmt (he : QE X A false true e te fe) : QE X A m sh (.FormattedValue e (-1) none pos) (tFmt te) (fFmt fe) :=
  ⟨pe_fmt he.pe, fun W s0 H0 s σ H ρ Φ Q R hp q => he.sd W s0 H0 s σ H ρ _ _ R hp fun x s1 v H1 h1 R1 st1 r1 => by
    cases x with
    | str y => obtain rfl := r1.str; exact .inl ⟨y, rfl, by rw [line_eq]; exact h1.1, q _ s1 _ H1 h1.2 R1 st1 (.inl (.str _))⟩
    | int i => obtain rfl := r1.int; exact .inr ⟨i, rfl, h1.1, q _ s1 _ H1 h1.2 R1 st1 (.inl (.str _))⟩
    | _ => exact h1.elim⟩
abbrev FJ (S : Type) := Str → List Sl → S → (Str → S → Prop) → Prop
def SdJ (A : Amb) (ts : List TE) (f : FJ A) : Prop := ∀ W s0 H0 s σ H ρ acc Φ Q, ER A W s0 H0 s σ H ρ → f acc ρ s Φ → (∀ y s' H', Φ y s' → ER A W s0 H0 s' σ H' ρ → Stp A s s' H H' → Q y H') → tJs ts acc σ H Q
structure QJ (X : Cx) (A : Amb) (es : List Expr) (ts : List TE) (f : FJ A) : Prop where
  pj : PJ X es ts
  sd : SdJ A ts f
def fJn {S : Type} : FJ S := fun acc _ s Φ => Φ acc s
def fJc {S : Type} (fe : FE S) (f : FJ S) : FJ S := fun acc ρ s Φ => fe ρ s fun x s1 => match x with
  | .str y => acc.length + y.length ≤ 16777216 ∧ f (acc ++ y) ρ s1 Φ
  | _ => False
theorem qj_nil : QJ X A [] [] fJn := ⟨.nil, fun W s0 H0 s σ H ρ acc Φ Q R hp q => q acc s H hp R Stp.refl⟩
theorem qj_cons {es : List Expr} {ts : List TE} {f : FJ A} (he : QE X A false true e te fe) (h : QJ X A es ts f) : QJ X A (e :: es) (te :: ts) (fJc fe f) :=
  ⟨.cons he.pe h.pj, fun W s0 H0 s σ H ρ acc Φ Q R hp q => he.sd W s0 H0 s σ H ρ _ _ R hp fun x s1 v H1 h1 R1 st1 r1 => by
    cases x with
    | str y =>
      obtain rfl := r1.str
      exact ⟨y, rfl, by rw [line_eq, PySem.Str.length_append]; exact h1.1, h.sd W s0 H0 s1 σ H1 ρ _ Φ Q R1 h1.2 fun y s2 H2 h2 R2 st2 => q y s2 H2 h2 R2 (st1.trans st2)⟩
    | _ => exact h1.elim⟩
def fFs {S : Type} (f : FJ S) : FE S := fun ρ s Φ => f "" ρ s fun y s1 => Φ (.str y) s1
theorem q_fs {v1 v2 : Expr} {rest : List Expr} {ts : List TE} {f : FJ A} (h : QJ X A (v1 :: v2 :: rest) ts f) : QE X A m sh (.JoinedStr (v1 :: v2 :: rest) pos) (fun σ H Q => tJs ts Str.empty σ H fun out H1 => Q (.str out) H1) (fFs f) :=
  ⟨pe_joined h.pj, fun W s0 H0 s σ H ρ Φ Q R hp q => h.sd W s0 H0 s σ H ρ _ _ _ R hp fun y s1 H1 h1 R1 st1 => q _ s1 _ H1 h1 R1 st1 (.inl (.str _))⟩
end
/-! repr of a text -/
def rReprS : List V → Hp → VK → Prop := fun xs H Q => ∃ x, xs = [.str x] ∧ (reprText x).length ≤ sizeLine ∧ Q (.str (reprText x)) H
theorem call_reprS {X : Cx} : CallR X (.builtin "repr") rReprS := by
  intro pins s σ H xs us Q J rv h
  obtain ⟨x, rfl, hl, q⟩ := h
  cases rv with
  | cons r rr =>
    cases rr
    obtain ⟨t, rfl⟩ := r
    exact PySem.P.repr_of_str ⟨.str _, H, J.tok _, ⟨_, rfl⟩, q⟩ hl
def dReprS (ds : List D) (Φ : D → Prop) : Prop := match ds with
  | [.str x] => (reprText x).length ≤ 16777216 ∧ Φ (.str (reprText x))
  | _ => False
section
variable {X : Cx} {A : Amb} {m m1 sh1 : Bool}
theorem sc_reprS : SdC A m m1 sh1 rReprS dReprS := sdc_same fun ds vs H Φ Q W s σ ρ rv h q => by
  unfold dReprS at h
  split at h
  · obtain ⟨v, rfl, r⟩ := rv.one
    obtain rfl := r.str
    exact ⟨_, rfl, by rw [line_eq]; exact h.1, q _ _ h.2 fun B => .str _⟩
  · exact h.elim
theorem nb_reprS : NB X A m false true "repr" (.builtin "repr") rReprS dReprS := ⟨call_reprS, sc_reprS, bt_repr, by decide, by decide⟩
end
/-! lengths, signs of texts -/
section
open TL PySem.StrLaws
abbrev Okc (x : Str) : Prop := ∀ c ∈ tl x, c < 16 ^ 8
theorem okc_of (x : String) : Okc (Str.ofString x) := by
  intro c hc
  rw [PySem.Str.ofString_eq_toList] at hc
  rw [tl_mk] at hc
  obtain ⟨ch, _, rfl⟩ := List.mem_map.mp hc
  have : ch.toNat < 1114112 := by
    have := ch.valid
    rcases this with h | h
    · exact Nat.lt_of_lt_of_le h (by decide)
    · exact h.2
  exact Nat.lt_trans this (by decide)
theorem okc_app {x y : Str} (hx : Okc x) (hy : Okc y) : Okc (x ++ y) := by
  intro c hc
  rw [tl_append] at hc
  rcases List.mem_append.mp hc with h | h
  · exact hx c h
  · exact hy c h
theorem joinL_len (S : List Nat) : ∀ l : List (List Nat), (joinL S l).length ≤ (l.map (·.length)).sum + l.length * S.length
  | [] => by simp [joinL]
  | [p] => by simp [joinL]
  | p :: q :: r => by
    have ih := joinL_len S (q :: r)
    simp only [joinL, List.length_append, List.map_cons, List.sum_cons, List.length_cons] at ih ⊢
    rw [Nat.add_mul, Nat.one_mul]
    omega
theorem joinL_mem {S : List Nat} : ∀ {l : List (List Nat)} {c : Nat}, c ∈ joinL S l → c ∈ S ∨ ∃ p ∈ l, c ∈ p
  | [], c, h => by simp [joinL] at h
  | [p], c, h => .inr ⟨p, by simp, by simpa [joinL] using h⟩
  | p :: q :: r, c, h => by
    simp only [joinL, List.mem_append] at h
    rcases h with h | h | h
    · exact .inr ⟨p, by simp, h⟩
    · exact .inl h
    · rcases joinL_mem h with h | ⟨x, hx, h⟩
      · exact .inl h
      · exact .inr ⟨x, List.mem_cons_of_mem _ hx, h⟩
theorem okc_join {sep : Str} {l : List Str} (hs : Okc sep) (h : ∀ x ∈ l, Okc x) : Okc (Txt.join sep l) := by
  intro c hc
  rw [join_eq, tl_join] at hc
  rcases joinL_mem hc with hc | ⟨p, hp, hc⟩
  · exact hs c hc
  · obtain ⟨x, hx, rfl⟩ := List.mem_map.mp hp
    exact h x hx c hc
theorem sum_le {k : Nat} : ∀ {l : List Str}, (∀ x ∈ l, x.length ≤ k) → (l.map (·.length)).sum ≤ k * l.length
  | [], _ => by simp
  | x :: l, h => by
    have h1 := h x List.mem_cons_self
    have h2 := sum_le (l := l) fun y hy => h y (List.mem_cons_of_mem _ hy)
    rw [List.map_cons, List.sum_cons, List.length_cons, Nat.mul_succ]
    omega
theorem join_len {sep : Str} {l : List Str} {k : Nat} (h : ∀ x ∈ l, x.length ≤ k) : (Txt.join sep l).length ≤ k * l.length + l.length * sep.length := by
  rw [len_tl, join_eq, tl_join]
  have h1 := joinL_len (tl sep) (l.map tl)
  have h2 := sum_le h
  have e : (l.map tl).map (·.length) = l.map (·.length) := by
    rw [List.map_map]
    exact List.map_congr_left fun x _ => (len_tl x).symm
  rw [e, List.length_map, ← len_tl] at h1
  omega
theorem empty_app (x : Str) : ("" : Str) ++ x = x := by
  apply ext_tl
  rw [tl_append]
  rfl
theorem repr_len {x : Str} (h : Okc x) : (reprText x).length ≤ 10 * x.length + 2 := reprText_len x h
end
end Pd

set_option maxHeartbeats 4000000
/-! x = own.pop(i); dict displays, dict lookups; is True, is not False -/
namespace Pd
open PySem PySem.Spec PyProof.Rows L2
section
variable {A : Amb} {m sh m1 sh1 : Bool} {te : TE} {fe : FE A} {K : Fg}
theorem RsL.erase {B : Ad} {H : Hp} : ∀ {l : List D} {xs : List V} (i : Nat), RsL B H l xs → RsL B H (l.eraseIdx i) (xs.eraseIdx i)
  | _, _, _, .nil => .nil
  | _, _, 0, .cons _ r => r
  | _, _, i + 1, .cons g r => .cons g (RsL.erase i r)
/-- pop at a place counted from the front -/
structure PopP (l : List D) (i : Int) (Φ : D → List D → Prop) : Prop where
  h0 : 0 ≤ i
  h1 : i < l.length
  h2 : l.length < 2 ^ 60
  go : ∀ d, l[i.toNat]? = some d → Φ d (l.eraseIdx i.toNat)
def fPopAt {S : Type} (i j : Nat) (fe : FE S) : FS S := fun P ρ s => match ρ[i]? with
  | some (.o (.lst l)) => fe ρ s fun k s1 => (match k with
    | .int k => PopP l k fun d l' => P.nx ((ρ.set i (.o (.lst l'))).set j (.v d)) s1
    | _ => False)
  | _ => False
theorem ss_popAt (i j : Nat) (h : SdE A false true te fe) : SdS A (tAsg (tBM K "list" rPopAt (tVar i) (tCons te tNil)) (gName j)) (fPopAt i j fe) := fun W s0 H0 s σ H ρ P D R hp nx _ _ _ => by
  unfold fPopAt at hp
  split at hp
  · rename_i l e
    obtain ⟨a, h1, ⟨xs, h2, h3⟩, h4, h5, h6⟩ := R.own i _ e
    refine ⟨.ref a, h1, .inl ⟨rfl, xs, .of h2⟩, h W s0 H0 s σ H ρ _ _ R hp fun d s1 v H1 hd R1 st1 r1 => ?_⟩
    obtain ⟨k1, k2⟩ := keep_at st1 (by rw [h2]; simp) h6
    cases d with
    | int k =>
      obtain rfl := r1.int
      obtain ⟨q0, q1, q2, q3⟩ := hd
      have h3' := h3.stp st1
      have hl : k.toNat < l.length := by omega
      have hd := List.getElem?_eq_getElem hl
      generalize l[k.toNat] = d at hd
      obtain ⟨y, hy, ry⟩ := h3'.get hd
      have ix : PySem.seqIndex? k xs.length = some k.toNat := by
        rw [h3.length]
        unfold PySem.seqIndex?
        rw [if_neg (show ¬ k < 0 by omega)]
        rw [if_pos (by rw [Bool.and_eq_true, decide_eq_true_eq, decide_eq_true_eq]; exact ⟨q0, q1⟩)]
      have ag : Agr (om true A W s1 σ ρ) H1 (upd H1 a (.lst (xs.eraseIdx k.toNat))) := fun b o eb nb => by
        rw [upd_ne fun z => ?_]
        · exact eb
        · subst z; exact nb (.inr (.inr ⟨rfl, i, _, e, h1⟩))
      refine ⟨a, xs, k, k.toNat, y, rfl, rfl, k1.trans h2, by omega, by omega, ix, hy, ?_⟩
      have R2 := R1.mut (m' := .lst (l.eraseIdx k.toNat)) e h1 ⟨xs.eraseIdx k.toNat, upd_same, (h3'.erase k.toNat).go (fun b z => .inl z) ag⟩
      have r2 : Rs (om true A W s1 σ (ρ.set i (.o (.lst (l.eraseIdx k.toNat))))) (upd H1 a (.lst (xs.eraseIdx k.toNat))) d y := ry.go (fun b z => .inl (om_mut e b z)) ag
      exact nx _ s1 _ _ (q3 d hd) (R2.setV j r2)
    | _ => exact hd.elim
  · exact hp.elim
theorem z_popAt {X : Cx} {A : Amb} {e : Expr} {te : TE} {fe : FE A} {x y : Str} {p py : Pos} {pos : Pos} (i j : Nat) {p2 p3 : Pos} (he : QE X A false true e te fe) (hNd : X.N.Nodup) (hN : X.N[i]? = some x := by rfl) (hv : Vis X.env.scope x := by first | exact Or.inl rfl | exact Or.inr (Or.inl rfl) | exact Or.inr (Or.inr rfl)) (hd : (x == ("__debug__" : Str)) = false := by decide) (hcd : (x == ("__classdict__" : Str)) = false := by decide)
    (hi : X.N[j]? = some y := by rfl) (hx : Loc X.env.scope y := by first | exact Or.inl rfl | exact Or.inr rfl) (hf : X.fn y = true ∨ X.env.scope.names.lookup y = some .local := by first | exact .inl rfl | exact .inr rfl)
    (hs : swapsWithSole [.Name y py] (.Call (.Attribute (.Name x p) "pop" p2) [e] [] p3) pos.line X.env = pure false := by rfl) (hw : swappedStores [.Name y py] (.Call (.Attribute (.Name x p) "pop" p2) [e] [] p3) X.env = pure none := by rfl) (ht : (assignEach [.Name y py] X.env).map (·.2) = [assign (.Name y py) X.env] := by rfl)
    (hbase : attributeBase (.Name x p) "pop" X.env (eval (.Name x p) X.env) = eval (.Name x p) X.env := by rfl)
    (hfew : ((backTo p3 (starEach [e] X.env)).all (fun x => !x.1) && (backToKw p3 (keywordEach [] X.env)).all (fun x => x.1.isSome) && decide ([e].length + ([] : List Keyword).length + (if ([] : List Keyword).isEmpty then 0 else 1) < 30)) = true := by rfl)
    (hline : (p2.endLine == p3.line) = true := by rfl) (hs1 : starEach [e] X.env = (false, eval e X.env) :: starEach [] X.env := by rfl) :
    QS X A (.Assign [.Name y py] (.Call (.Attribute (.Name x p) "pop" p2) [e] [] p3) pos) (tAsg (tBM X.K "list" rPopAt (tVar i) (tCons te tNil)) (gName j)) (fPopAt i j fe) :=
  ⟨ps_asg (pe_bm PySem.F.plainAttrs_list PySem.F.slot_list_pop PySem.F.type_list_pop mt_popAt (pe_var hN hv hd hcd) (pa_cons he.pe pa_nil hs1) hbase hfew hline hs1 (by rfl)) (pg_name hNd hi hx hf) hs hw ht, ss_popAt i j he.sd⟩
end
/-! is True, is not False -/
def isBl (b : Bool) : D → Bool
  | .bl a => decide (a = b)
  | _ => false
def dIsB (x y : D) (Φ : D → Prop) : Prop := match y with
  | .bl b => (match x with
    | .any _ => False
    | x => Φ (.bl (isBl b x)))
  | _ => False
def dNotB (x y : D) (Φ : D → Prop) : Prop := match y with
  | .bl b => (match x with
    | .any _ => False
    | x => Φ (.bl (!isBl b x)))
  | _ => False
def rIsBA (neg : Bool) : R2 := fun x y H Q => ∃ b c : Bool, y = .bl b ∧ (∀ u, RelV x u → PySem.plainIs u (.bool b) = true ∧ (u == Value.bool b) = c) ∧ Q (.bl (c != neg)) H
section
variable {X : Cx}
theorem op_isBA : OpR X (compareOp .Is) (rIsBA false) := by
  intro pins s σ H x y v u Q I rx ry h
  obtain ⟨b, c, rfl, hc, q⟩ := h
  cases (show u = Value.bool b from ry)
  obtain ⟨h1, h2⟩ := hc v rx
  refine wpAny_is_plain h1 ⟨.bl c, H, I, by rw [h2]; rfl, by simpa using q⟩
theorem op_notBA : OpR X (compareOp .IsNot) (rIsBA true) := by
  intro pins s σ H x y v u Q I rx ry h
  obtain ⟨b, c, rfl, hc, q⟩ := h
  cases (show u = Value.bool b from ry)
  obtain ⟨h1, h2⟩ := hc v rx
  refine wpAny_isNot_plain h1 ⟨.bl (!c), H, I, by rw [h2]; rfl, by simpa using q⟩
theorem isBl_ok {B : Ad} {H : Hp} {d : D} {v : V} (r : Rs B H d v) (hn : ∀ u, d ≠ .any u) (b : Bool) : ∀ u, RelV v u → PySem.plainIs u (.bool b) = true ∧ (u == Value.bool b) = isBl b d := by
  intro u ru
  cases r with
  | non => cases ru; exact ⟨rfl, rfl⟩
  | bl a => cases ru; exact ⟨rfl, by cases a <;> cases b <;> rfl⟩
  | int i => obtain ⟨t, rfl⟩ := ru; exact ⟨rfl, rfl⟩
  | str i => obtain ⟨t, rfl⟩ := ru; exact ⟨rfl, rfl⟩
  | any v => exact absurd rfl (hn v)
  | tup h n r => cases ru; exact ⟨rfl, rfl⟩
  | lst h n r => cases ru; exact ⟨rfl, rfl⟩
  | dct h n k r => cases ru; exact ⟨rfl, rfl⟩
  | dtt h n k r => cases ru; exact ⟨rfl, rfl⟩
  | xdt h n r => cases ru; exact ⟨rfl, rfl⟩
end
section
variable {X : Cx} {A : Amb} {m m1 m2 sh1 sh2 : Bool}
theorem sdr_isB : SdR A m m1 sh1 m2 true (rIsBA false) dIsB := sdr_same fun x y v w H Φ Q W s σ ρ rx ry h q => by
  unfold dIsB at h
  split at h
  · obtain rfl := ry.bl
    rename_i b
    split at h
    · exact h.elim
    · rename_i hn
      exact ⟨b, _, rfl, isBl_ok rx.low (fun u e => hn u e) b, q _ _ (by rw [show (isBl b x != false) = isBl b x by cases isBl b x <;> rfl]; exact h) fun B => .bl _⟩
  · exact h.elim
theorem sdr_notB : SdR A m m1 sh1 m2 true (rIsBA true) dNotB := sdr_same fun x y v w H Φ Q W s σ ρ rx ry h q => by
  unfold dNotB at h
  split at h
  · obtain rfl := ry.bl
    rename_i b
    split at h
    · exact h.elim
    · rename_i hn
      exact ⟨b, _, rfl, isBl_ok rx.low (fun u e => hn u e) b, q _ _ (by rw [show (isBl b x != true) = !isBl b x by cases isBl b x <;> rfl]; exact h) fun B => .bl _⟩
  · exact h.elim
theorem co_isb : CO X A .Is (rIsBA false) dIsB := ⟨op_isBA, fun _ => sdr_isB⟩
theorem co_isnb : CO X A .IsNot (rIsBA true) dNotB := ⟨op_notBA, fun _ => sdr_notB⟩
end
/-! dict displays -/
abbrev FPs (S : Type) := List Sl → S → (List (L2.Key × D) → S → Prop) → Prop
def fDn {S : Type} : FPs S := fun _ s Φ => Φ [] s
def fDc {S : Type} (fk fv : FE S) (f : FPs S) : FPs S := fun ρ s Φ => fk ρ s fun k s1 => keyD k fun key => fv ρ s1 fun d s2 => f ρ s2 fun r s3 => Φ ((key, d) :: r) s3
def SdPs (A : Amb) (trs : List (TE × TE)) (f : FPs A) : Prop := ∀ W s0 H0 s σ H ρ Φ Q, ER A W s0 H0 s σ H ρ → f ρ s Φ →
  (∀ kds s' H' (kvs : List (L2.Key × V)), Φ kds s' → ER A W s0 H0 s' σ H' ρ → Stp A s s' H H' → kvs.map (·.1) = kds.map (·.1) → RsL (om true A W s' σ ρ) H' (kds.map (·.2)) (kvs.map (·.2)) → Q (kvs.map fun kv => (L2.kV kv.1, kv.2)) H') → tPairs trs σ H Q
theorem mergeK_new : ∀ {more acc : List (L2.Key × V)}, ((acc ++ more).map (·.1)).Nodup → mergeK acc more = acc ++ more
  | [], acc, _ => (List.append_nil acc).symm
  | p :: r, acc, h => by
    have hn : valV acc p.1 = none := by
      cases e : valV acc p.1 with
      | none => rfl
      | some v =>
        have := valV_in e
        rw [List.map_append, List.map_cons] at h
        exact absurd rfl ((List.nodup_append.mp h).2.2 p.1 this p.1 List.mem_cons_self)
    have e : mergeK acc (p :: r) = mergeK (putK acc p.1 p.2) r := rfl
    rw [e, putK_new p.2 hn]
    have h2 : ((acc ++ [(p.1, p.2)] ++ r).map (·.1)).Nodup := by
      rw [List.append_assoc]
      exact h
    rw [mergeK_new h2, List.append_assoc]
    rfl
section
variable {A : Amb} {tk tv : TE} {fk fv : FE A} {trs : List (TE × TE)} {f : FPs A}
theorem sd_dn : SdPs A [] fDn := fun W s0 H0 s σ H ρ Φ Q R hp q => q [] s H [] hp R Stp.refl rfl .nil
theorem sd_dc (hk : SdE A false true tk fk) (hv : SdE A true false tv fv) (h : SdPs A trs f) : SdPs A ((tk, tv) :: trs) (fDc fk fv f) := fun W s0 H0 s σ H ρ Φ Q R hp q =>
  hk W s0 H0 s σ H ρ _ _ R hp fun k s1 x H1 h1 R1 st1 r1 => by
    obtain ⟨key, rfl, h1⟩ := key_rv r1 h1
    refine hv W s0 H0 s1 σ H1 ρ _ _ R1 h1 fun d s2 y H2 h2 R2 st2 r2 => ?_
    refine h W s0 H0 s2 σ H2 ρ _ _ R2 h2 fun kds s3 H3 kvs h3 R3 st3 e3 r3 => ?_
    have := q ((key, d) :: kds) s3 H3 ((key, y) :: kvs) h3 R3 ((st1.trans st2).trans st3) (by rw [List.map_cons, List.map_cons, e3]) (.cons (r2.rs.stp st3) r3)
    exact this
def fDisp {S : Type} (f : FPs S) : FO S := fun ρ s Φ => f ρ s fun kds s2 => ((kds.map (·.1)).Nodup ∧ kds.length ≤ 15) ∧ Φ (.dk (kds.map (·.1)) (kds.map (·.2))) s2
theorem so_disp (h : SdPs A trs f) : SdO A (tDisp trs) (fDisp f) := fun W s0 H0 s σ H ρ Φ Q R hp q p hpn => by
  have bD0 : ¬ A.B s p := fun z => A.dom R.amb z hpn
  have R1 := R.wide hpn (.dK [])
  have hp0 := R.fresh0 hpn
  refine h (W.add p) s0 H0 s σ _ ρ _ _ R1 hp fun kds s2 H2 kvs h2 R3 st e2 r2 => ?_
  obtain ⟨k1, k2⟩ := keep_at st (by rw [upd_same]; simp) bD0
  rw [upd_same] at k1
  have el : kvs.length = kds.length := by have := congrArg List.length e2; rwa [List.length_map, List.length_map] at this
  refine ⟨k1, kvs, rfl, by rw [el]; exact h2.1.2, ?_⟩
  have ek : mergeK [] kvs = kvs := mergeK_new (by rw [List.nil_append, e2]; exact h2.1.1)
  rw [ek]
  have R4 := R3.oth hp0 k2 (.dK kvs)
  refine q _ s2 p _ h2.2 R4 ?_ hpn ⟨kvs, upd_same, e2, ?_⟩ (fun z => R.wd p z hpn) k2
  · refine ⟨fun a o e n => ?_, fun a z => ?_, fun a e => ?_⟩
    · have np : a ≠ p := ne_of_none e hpn
      rw [upd_ne np]
      exact st.agr a o (by rw [upd_ne np]; exact e) n
    · rcases st.new a z with z | z
      · exact .inl z
      · by_cases ap : a = p
        · subst ap; rw [upd_same] at z; cases z
        · rw [upd_ne ap] at z; exact .inr z
    · by_cases ap : a = p
      · subst ap; rw [upd_same]; simp
      · rw [upd_ne ap]
        exact st.dom a (by rw [upd_ne ap]; exact e)
  · refine RsL.go (fun a z => .inl z) (fun a o e n => ?_) r2
    have ap : a ≠ p := fun z => by
      subst z
      exact n (.inl (.inr rfl))
    rw [upd_ne ap]
    exact e
end
structure QPs (X : Cx) (A : Amb) (pos : Pos) (ks : List (Option Expr)) (vs : List Expr) (trs : List (TE × TE)) (f : FPs A) : Prop where
  pp : PPs X pos ks vs trs
  sd : SdPs A trs f
section
variable {X : Cx} {A : Amb} {m sh : Bool} {k v a b : Expr} {ks : List (Option Expr)} {vs : List Expr} {trs : List (TE × TE)} {tk tv ta tb : TE} {fk fv fa fb : FE A} {f : FPs A} {pos : Pos}
theorem qps_nil : QPs X A pos [] [] [] fDn := ⟨pps_nil, sd_dn⟩
theorem qps_cons (hk : QE X A false true k tk fk) (hv : QE X A true false v tv fv) (h : QPs X A pos ks vs trs f) : QPs X A pos (some k :: ks) (v :: vs) ((tk, tv) :: trs) (fDc fk fv f) := ⟨pps_cons hk.pe hv.pe h.pp, sd_dc hk.sd hv.sd h.sd⟩
theorem qo_disp (h : QPs X A pos ks vs trs f) (hall : ks.all (·.isSome) = true := by rfl) (hl : ks.length = vs.length := by rfl) (h0 : ks ≠ [] := by simp) (h15 : ks.length ≤ 15 := by decide) : QO X A (.Dict ks vs pos) (tDisp trs) (fDisp f) := ⟨pe_disp h.pp hall hl h0 h15, so_disp h.sd⟩
/-! a dict's value at a key -/
def lookD (key : L2.Key) : List L2.Key → List D → Option D
  | k :: ks, d :: ds => if k = key then some d else lookD key ks ds
  | _, _ => none
structure GetP (ks : List L2.Key) (vs : List D) (key : L2.Key) (Φ : D → Prop) : Prop where
  go : ∃ d, lookD key ks vs = some d ∧ Φ d
def dGet (x y : D) (Φ : D → Prop) : Prop := match x with
  | .dct ks vs => keyD y fun key => GetP ks vs key Φ
  | _ => False
theorem look_rs {B : Ad} {H : Hp} {key : L2.Key} {d : D} : ∀ {kvs : List (L2.Key × V)} {vs : List D}, RsL B H vs (kvs.map (·.2)) → lookD key (kvs.map (·.1)) vs = some d → ∃ v, valV kvs key = some v ∧ Rs B H d v
  | [], _, .nil, h => by cases h
  | p :: kvs, _, .cons g r, h => by
    rw [List.map_cons, lookD] at h
    split at h
    · rename_i e
      cases h
      exact ⟨_, valV_pos e, g⟩
    · rename_i e
      obtain ⟨v, h1, h2⟩ := look_rs r h
      exact ⟨v, by rw [valV_neg e]; exact h1, h2⟩
theorem RV.dct {W : Ot} {s : A.S} {σ : Sg} {ρ : List Sl} {H : Hp} {ks : List L2.Key} {vs : List D} {v : V} (r : RV A W s σ ρ H m sh (.dct ks vs) v) : ∃ a kvs, v = .ref a ∧ H a = some (.dK kvs) ∧ kvs.map (·.1) = ks ∧ RsL (om m A W s σ ρ) H vs (kvs.map (·.2)) := by
  rcases r with r | r
  · cases r with
    | dct h n k r => exact ⟨_, _, rfl, h, k, r⟩
  · obtain ⟨_, l, a, xs, q, _⟩ := r
    cases q
theorem q_dget (hu : X.A.units + 64 < cLine) (ha : QE X A m true a ta fa) (hb : QE X A false true b tb fb) (hs : NoSl b := by exact fun _ _ => rfl) : QE X A m sh (.Subscript a b pos) (tDGet ta tb) (fBin dGet fa fb) :=
  ⟨pe_dget (by omega) ha.pe hb.pe hs, fun W s0 H0 s σ H ρ Φ Q R hp q => ha.sd W s0 H0 s σ H ρ _ _ R hp fun x s1 v H1 h1 R1 st1 r1 => hb.sd W s0 H0 s1 σ H1 ρ _ _ R1 h1 fun y s2 w H2 h2 R2 st2 r2 => by
    cases x with
    | dct ks vs =>
      have h2 : keyD y fun key => GetP ks vs key fun d => Φ d s2 := h2
      obtain ⟨key, rfl, h3⟩ := key_rv r2 h2
      obtain ⟨d, e, h4⟩ := h3.go
      obtain ⟨p, kvs, rfl, k1, rfl, k3⟩ := (r1.stp st2).dct
      obtain ⟨u, g1, g2⟩ := look_rs k3 e
      refine ⟨p, u, rfl, ?_, q d s2 u H2 h4 R2 (st1.trans st2) (.inl g2)⟩
      have := DGet.k (k := key) k1
      rw [g1] at this
      exact this
    | _ => exact h2.elim⟩
end

theorem eqv_self {d : D} {n : Nat} (h : d.lay n = true) : PyData.eqv d.py d.py = true := by
  obtain ⟨_, b, _⟩ := lay_all d n h
  exact PySem.SeqAt.eqv_refl _ b
end Pd

set_option maxHeartbeats 4000000
/-! repr of any data: dicts, scalars, deep things -/
namespace Pd
open PySem PySem.Spec PyProof.Rows L2
def keyPy : L2.Key → PyData
  | .inl i => .int i
  | .inr x => .str x
mutual
def D.pg : D → PyData
  | .non => .none
  | .bl b => .bool b
  | .int i => .int i
  | .str x => .str x
  | .tup l => .tuple (pgL l)
  | .lst l => .list (pgL l)
  | .dct ks vs => .dict ((ks.map keyPy).zip (pgL vs))
  | .dtt _ _ => .none
  | .xdt _ _ => .none
  | .any _ => .none
def pgL : List D → List PyData
  | [] => []
  | d :: l => d.pg :: pgL l
end
mutual
def D.pok : D → Bool
  | .tup l => pokL l
  | .lst l => pokL l
  | .dct _ vs => pokL vs
  | .dtt _ _ => false
  | .xdt _ _ => false
  | .any _ => false
  | _ => true
def pokL : List D → Bool
  | [] => true
  | d :: l => d.pok && pokL l
end
theorem pgL_len : ∀ l : List D, (pgL l).length = l.length
  | [] => rfl
  | d :: l => by rw [pgL, List.length_cons, List.length_cons, pgL_len l]
section
variable {X : Cx} {pins : List (Addr × Obj)} {σ : List (Option V)} {H : Hp} {s : Shared} {B : Ad}
abbrev SysB (base : Heap) : Prop := ∃ o, base.get? sysModules = some o
theorem sys_free (I : Inv X pins σ H s) (S : SysB X.base) {a : Addr} {o : HO} (h : H a = some o) : a ≠ sysModules := by
  intro e
  subst e
  obtain ⟨o2, h2⟩ := S
  rw [(I.bs _ _ h2).2] at h
  cases h
theorem key_reads {h : Heap} {k : L2.Key} {v : Value} (e : L2.keyIs k v = true) : Reads h v (keyPy k) [] := by
  rcases L2.keyIs_shape e with ⟨i, t, rfl, rfl⟩ | ⟨x, t, rfl, rfl⟩
  · exact Reads.int i t
  · exact Reads.str x t
theorem pairs_keys {P : Program} {w : World} {h : Heap} : ∀ {es : List DictEntry} {ws : List (L2.Key × Value)}, Pairs (L2.mixKind P w) es ws → ReadsAll h (es.map (·.key)) (ws.map fun p => keyPy p.1) []
  | _, _, .nil => ReadsAll.nil
  | _, _, .cons h1 _ r => ReadsAll.cons (as := []) (bs := []) (key_reads h1) (pairs_keys r)
theorem pairs_vals {P : Program} {w : World} : ∀ {es : List DictEntry} {ws : List (L2.Key × Value)}, Pairs (L2.mixKind P w) es ws → es.map (·.val) = ws.map (·.2)
  | _, _, .nil => rfl
  | _, _, .cons _ h2 r => by rw [List.map_cons, List.map_cons, h2, pairs_vals r]
theorem kv_parts : ∀ {kvs : List (L2.Key × V)} {ws : List (L2.Key × Value)}, L2.KV kvs ws → kvs.map (·.1) = ws.map (·.1) ∧ Vals (kvs.map (·.2)) (ws.map (·.2))
  | _, _, .nil => ⟨rfl, .nil⟩
  | _, _, .cons h r => by
    obtain ⟨a, b⟩ := kv_parts r
    exact ⟨by rw [List.map_cons, List.map_cons, a, h.1], .cons h.2 b⟩
mutual
theorem Rs.readsG (I : Inv X pins σ H s) (S : SysB X.base) : ∀ {d : D} {v : V} {u : Value}, Rs B H d v → d.pok = true → RelV v u → ∃ as, Reads s.heap u d.pg as ∧ sysModules ∉ as
  | _, _, _, .non, _, r => by cases r; exact ⟨[], by simp only [D.pg]; exact Reads.none, by simp⟩
  | _, _, _, .bl b, _, r => by cases r; exact ⟨[], by simp only [D.pg]; exact Reads.bool b, by simp⟩
  | _, _, _, .int i, _, r => by obtain ⟨t, rfl⟩ := r; exact ⟨[], by simp only [D.pg]; exact Reads.int i t, by simp⟩
  | _, _, _, .str x, _, r => by obtain ⟨t, rfl⟩ := r; exact ⟨[], by simp only [D.pg]; exact Reads.str x t, by simp⟩
  | _, _, _, .any v, h, _ => by simp [D.pok] at h
  | _, _, _, .dtt _ _ _ _, h, _ => by simp [D.pok] at h
  | _, _, _, .xdt _ _ _, h, _ => by simp [D.pok] at h
  | _, _, _, .tup h n r, p, q => by
    cases q
    obtain ⟨_, its, rv, o, ho, hc, k, hd⟩ := I.hok _ _ h
    obtain ⟨as, h1, h2⟩ := RsL.readsG I S r (by simpa [D.pok] using p) rv
    exact ⟨as, by simp only [D.pg]; exact Reads.tuple ho hc hd h1, h2⟩
  | _, _, _, .lst h n r, p, q => by
    cases q
    obtain ⟨_, its, k, rv, ho⟩ := I.hok _ _ h
    obtain ⟨as, h1, h2⟩ := RsL.readsG I S r (by simpa [D.pok] using p) rv
    exact ⟨_ :: as, by simp only [D.pg]; exact Reads.list ho rfl rfl h1, fun z => (List.mem_cons.mp z).elim (fun e => sys_free I S h e.symm) h2⟩
  | .dct ks vs, _, _, .dct h n k r, p, q => by
    cases q
    obtain ⟨_, hne, ws, rk, o, es, ep, ho, ex, hd, _, pr, _⟩ := I.hok _ _ h
    obtain ⟨e1, e2⟩ := kv_parts rk
    obtain ⟨bs, b1, b2⟩ := RsL.readsG I S r (by simpa [D.pok] using p) e2
    have el : (ks.map keyPy).length = (pgL vs).length := by
      rw [List.length_map, pgL_len, ← k, ← r.length, List.length_map, List.length_map]
    refine ⟨_ :: [] ++ bs, ?_, fun z => (List.mem_cons.mp z).elim (fun e => sys_free I S h e.symm) b2⟩
    simp only [D.pg]
    refine Reads.dict ho ex.1 hd ?_ ?_
    · rw [List.map_fst_zip (by omega), ← k, e1, List.map_map]
      exact pairs_keys pr
    · rw [List.map_snd_zip (by omega), pairs_vals pr]
      exact b1
theorem RsL.readsG (I : Inv X pins σ H s) (S : SysB X.base) : ∀ {l : List D} {xs : List V} {us : List Value}, RsL B H l xs → pokL l = true → Vals xs us → ∃ as, ReadsAll s.heap us (pgL l) as ∧ sysModules ∉ as
  | _, _, _, .nil, _, r => by cases r; exact ⟨[], by simp only [pgL]; exact ReadsAll.nil, by simp⟩
  | _, _, _, .cons h r, p, q => by
    cases q with
    | cons q1 q2 =>
      rw [pokL, Bool.and_eq_true] at p
      obtain ⟨as, a1, a2⟩ := Rs.readsG I S h p.1 q1
      obtain ⟨bs, b1, b2⟩ := RsL.readsG I S r p.2 q2
      exact ⟨as ++ bs, by simp only [pgL]; exact ReadsAll.cons a1 b1, fun z => (List.mem_append.mp z).elim a2 b2⟩
end
end
def rReprG : List V → Hp → VK → Prop := fun xs H Q => ∃ v d, xs = [v] ∧ Rs (fun _ => False) H d v ∧ d.pok = true ∧ d.pg.showable = true ∧ d.pg.depth ≤ 60 ∧ d.pg.shown.length ≤ sizeLine ∧ Q (.str d.pg.shown) H
theorem call_reprG {X : Cx} (hg : X.A.guards = some []) (hu : X.A.units + 64 < cLine) (S : SysB X.base) : CallR X (.builtin "repr") rReprG := by
  intro pins s σ H xs us Q J rv h
  obtain ⟨v, d, rfl, r, h0, h1, h2, h3, q⟩ := h
  obtain ⟨u, rfl, rr⟩ := L2.Vals.one rv
  · have big : ∀ a, v = .ref a → wpAny (model X.prog X.w) X.A (call (.builtin "repr") [u]) (EP X pins σ Q) X.xe s := fun a e => by
      subst e
      cases rr
      obtain ⟨as, hr, hs⟩ := r.readsG J S h0 rfl
      exact repr_of_reads' hr h1 (fun _ => hs) hg (by omega) (fun _ _ e => e) (fun h' u tk hk => ⟨.str _, H, J.kept (t' := tk) hk, ⟨u, rfl⟩, q⟩) h3
    cases r with
    | non =>
      cases rr
      simp only [D.pg, PyData.shown] at q
      exact PySem.P.repr_of_none ⟨.str _, H, J.tok _, ⟨_, rfl⟩, q⟩
    | bl b =>
      cases rr
      simp only [D.pg, PyData.shown] at q
      exact PySem.P.repr_of_bool ⟨.str _, H, J.tok _, ⟨_, rfl⟩, q⟩
    | int i =>
      obtain ⟨t, rfl⟩ := rr
      simp only [D.pg, PyData.shown, PyData.showable, decide_eq_true_eq] at q h1
      exact PySem.P.repr_of_int h1 ⟨.str _, H, J.tok _, ⟨_, rfl⟩, q⟩
    | str x =>
      obtain ⟨t, rfl⟩ := rr
      simp only [D.pg, PyData.shown] at q h3
      exact PySem.P.repr_of_str ⟨.str _, H, J.tok _, ⟨_, rfl⟩, q⟩ h3
    | any v => simp [D.pok] at h0
    | dtt => simp [D.pok] at h0
    | xdt => simp [D.pok] at h0
    | tup => exact big _ rfl
    | lst => exact big _ rfl
    | dct => exact big _ rfl
/-! the measures over trees -/
mutual
def D.dp : D → Nat
  | .tup l => dpL l + 1
  | .lst l => dpL l + 1
  | .dct _ vs => dpL vs + 1
  | _ => 0
def dpL : List D → Nat
  | [] => 0
  | d :: l => max d.dp (dpL l)
end
def keyW : L2.Key → Nat
  | .inl i => (Str.ofString (toString i)).length
  | .inr x => (reprText x).length
def keyOk : L2.Key → Bool
  | .inl i => decide (i.natAbs.log2 < 1920)
  | .inr _ => true
mutual
def D.shw : D → Bool
  | .int i => decide (i.natAbs.log2 < 1920)
  | .tup l => shwL l
  | .lst l => shwL l
  | .dct ks vs => ks.all keyOk && shwL vs
  | .dtt _ _ => false
  | .xdt _ _ => false
  | .any _ => false
  | _ => true
def shwL : List D → Bool
  | [] => true
  | d :: l => d.shw && shwL l
end
mutual
def D.wid : D → Nat
  | .int i => (Str.ofString (toString i)).length
  | .str x => (reprText x).length
  | .tup l => widL l + 3
  | .lst l => widL l + 3
  | .dct ks vs => (ks.map fun k => keyW k + 2).sum + widL vs + 3
  | _ => 5
def widL : List D → Nat
  | [] => 0
  | d :: l => d.wid + 2 + widL l
end
structure RpG (x : D) (Φ : D → Prop) : Prop where
  shw : x.shw = true
  dp : x.dp ≤ 60
  wid : x.wid ≤ 16777216
  go : Φ (.str x.pg.shown)
def dReprG (ds : List D) (Φ : D → Prop) : Prop := match ds with
  | [x] => RpG x Φ
  | _ => False
theorem key_all (k : L2.Key) (h : keyOk k = true) : (keyPy k).showable = true ∧ (keyPy k).depth = 0 ∧ (keyPy k).shown.length = keyW k := by
  cases k with
  | inl i => exact ⟨by simpa [keyPy, PyData.showable, keyOk] using h, by simp [keyPy, PyData.depth], by simp [keyPy, PyData.shown, keyW]⟩
  | inr x => exact ⟨by simp [keyPy, PyData.showable], by simp [keyPy, PyData.depth], by simp [keyPy, PyData.shown, keyW]⟩
mutual
theorem shw_all : ∀ d : D, d.shw = true → d.pok = true ∧ d.pg.showable = true ∧ d.pg.depth ≤ d.dp ∧ d.pg.shown.length ≤ d.wid
  | .non, _ => ⟨rfl, by simp [D.pg, PyData.showable], by simp [D.pg, PyData.depth], by simp only [D.pg, PyData.shown, D.wid]; decide⟩
  | .bl b, _ => ⟨rfl, by simp [D.pg, PyData.showable], by simp [D.pg, PyData.depth], by cases b <;> simp only [D.pg, PyData.shown, D.wid] <;> decide⟩
  | .int i, h => ⟨rfl, by simpa [D.pg, PyData.showable, D.shw] using h, by simp [D.pg, PyData.depth], by simp only [D.pg, PyData.shown, D.wid]; exact Nat.le_refl _⟩
  | .str x, _ => ⟨rfl, by simp [D.pg, PyData.showable], by simp [D.pg, PyData.depth], by simp only [D.pg, PyData.shown, D.wid]; exact Nat.le_refl _⟩
  | .any v, h => by simp [D.shw] at h
  | .dtt _ _, h => by simp [D.shw] at h
  | .xdt _ _, h => by simp [D.shw] at h
  | .tup l, h => by
    obtain ⟨a, b, c, d⟩ := shwL_all l (by simpa [D.shw] using h)
    refine ⟨by simpa [D.pok] using a, by simpa [D.pg, PyData.showable] using b, by simp only [D.pg, PyData.depth, D.dp]; omega, ?_⟩
    simp only [D.pg, PyData.shown, D.wid]
    have := tupleText_len_le (PyData.shownAll (pgL l))
    omega
  | .lst l, h => by
    obtain ⟨a, b, c, d⟩ := shwL_all l (by simpa [D.shw] using h)
    refine ⟨by simpa [D.pok] using a, by simpa [D.pg, PyData.showable] using b, by simp only [D.pg, PyData.depth, D.dp]; omega, ?_⟩
    simp only [D.pg, PyData.shown, D.wid]
    have := listText_len_le (PyData.shownAll (pgL l))
    omega
  | .dct ks vs, h => by
    rw [D.shw, Bool.and_eq_true] at h
    obtain ⟨a, _, _, _⟩ := shwL_all vs h.2
    obtain ⟨b, c, d⟩ := shwK_all vs ks h.1 h.2
    refine ⟨by simpa [D.pok] using a, by simpa [D.pg, PyData.showable] using b, by simp only [D.pg, PyData.depth, D.dp]; omega, ?_⟩
    simp only [D.pg, PyData.shown, D.wid]
    have := dictText_len_le (PyData.shownKv ((ks.map keyPy).zip (pgL vs)))
    omega
theorem shwL_all : ∀ l : List D, shwL l = true → pokL l = true ∧ PyData.showableAll (pgL l) = true ∧ PyData.depthAll (pgL l) ≤ dpL l ∧ ((PyData.shownAll (pgL l)).map (·.length)).sum + 2 * (PyData.shownAll (pgL l)).length ≤ widL l
  | [], _ => ⟨rfl, by simp [pgL, PyData.showableAll], by simp [pgL, PyData.depthAll], by simp [pgL, PyData.shownAll, widL]⟩
  | d :: l, h => by
    rw [shwL, Bool.and_eq_true] at h
    obtain ⟨a, b, c, e⟩ := shw_all d h.1
    obtain ⟨a2, b2, c2, e2⟩ := shwL_all l h.2
    refine ⟨by simp [pokL, a, a2], by simp [pgL, PyData.showableAll, b, b2], by simp only [pgL, PyData.depthAll, dpL]; omega, ?_⟩
    simp only [pgL, PyData.shownAll, widL, List.map_cons, List.sum_cons, List.length_cons]
    omega
theorem shwK_all : ∀ (vs : List D) (ks : List L2.Key), ks.all keyOk = true → shwL vs = true → PyData.showableKv ((ks.map keyPy).zip (pgL vs)) = true ∧ PyData.depthKv ((ks.map keyPy).zip (pgL vs)) ≤ dpL vs ∧ ((PyData.shownKv ((ks.map keyPy).zip (pgL vs))).map (·.length)).sum + 2 * (PyData.shownKv ((ks.map keyPy).zip (pgL vs))).length ≤ (ks.map fun k => keyW k + 2).sum + widL vs
  | [], ks, _, _ => by
    have e : (ks.map keyPy).zip (pgL []) = [] := by simp [pgL]
    rw [e]
    exact ⟨by simp [PyData.showableKv], by simp [PyData.depthKv], by simp [PyData.shownKv]⟩
  | _ :: _, [], _, _ => ⟨by simp [PyData.showableKv], by simp [PyData.depthKv], by simp [PyData.shownKv]⟩
  | v :: vs, k :: ks, hk, h => by
    rw [shwL, Bool.and_eq_true] at h
    rw [List.all_cons, Bool.and_eq_true] at hk
    obtain ⟨_, b, c, e⟩ := shw_all v h.1
    obtain ⟨b2, c2, e2⟩ := shwK_all vs ks hk.2 h.2
    obtain ⟨k1, k2, k3⟩ := key_all k hk.1
    have es : (": " : Str).length = 2 := by decide +kernel
    refine ⟨by simp [pgL, PyData.showableKv, k1, b, b2], by simp only [pgL, List.map_cons, List.zip_cons_cons, PyData.depthKv, dpL]; omega, ?_⟩
    simp only [pgL, List.map_cons, List.zip_cons_cons, PyData.shownKv, widL, List.sum_cons, List.length_cons, PySem.Str.length_append]
    omega
end
section
variable {X : Cx} {A : Amb} {m m1 sh1 : Bool}
theorem sc_reprG : SdC A m m1 sh1 rReprG dReprG := sdc_same fun ds vs H Φ Q W s σ ρ rv h q => by
  unfold dReprG at h
  split at h
  · obtain ⟨v, rfl, r⟩ := rv.one
    obtain ⟨h1, h2, h3, h4⟩ := h
    obtain ⟨a, b, c, e⟩ := shw_all _ h1
    exact ⟨v, _, rfl, r.low.weak (fun _ z => z.elim), a, b, by omega, by rw [line_eq]; omega, q _ _ h4 fun B => .str _⟩
  · exact h.elim
theorem nb_reprG (hg : X.A.guards = some []) (hu : X.A.units + 64 < cLine) (S : SysB X.base) : NB X A m false true "repr" (.builtin "repr") rReprG dReprG := ⟨call_reprG hg hu S, sc_reprG, bt_repr, by decide, by decide⟩
end
/-! the end, with sys.modules' object in the base -/
theorem end_callS {P : Program} {w : World} {K : Fg} {mg mb : Str → Option Value} {k : Nat} {fa a : Addr} {x : Str} {s₁ : Shared} {vs : List Value} {ns : List Int} {M : Option (Str → Option Value)}
    (KX : K.In s₁.heap) (hns : s₁.heap.Ns mainGlobals mg) (hb : s₁.heap.Ns builtinsNs mb) (hbb : ∀ x : Str, x ≠ "__name__" → mb x = bootBuiltins x) (hlim : s₁.heap.NoLimit) (hg : s₁.gens = #[])
    (ha : s₁.heap.get? a = some { cls := .type "list", data := .seq vs.toArray }) (hi : IntsAre vs ns) (hl : ns.length ≤ 63) (hr : Room k callerA) (hmg : mg x = some (.ref fa))
    (hsys : ∃ mm, s₁.heap.Ns sysModules mm) (F : ∀ base : Heap, K.In base → base.Ns mainGlobals mg → SysB base → Cal P w K mg base (BM K M) k x 1 sp_law) :
    codeAny (model P w) callerA (.call (.ref fa) ⟨[.ref a], []⟩) (fun r s' => r = .ok (.ret (.bool true)) ∧ OldK s₁.heap s'.heap ∧ s'.os = s₁.os ∧ AllBare s'.gens) s₁ := by
  have rv := vals_ints hi
  have lenV := hi.length
  have hl2 : ns.length ≤ sizeLine := Nat.le_trans hl (by decide)
  have core : ∀ (r : Bool) (H : Hp), Only H → (∀ R, bsI K M (.scr r a ns) R H) → HOk P w H s₁.heap → (∀ b, H b ≠ none → b = a) → (H a ≠ none → K.lookup a = none) →
      codeAny (model P w) callerA (.call (.ref fa) ⟨[.ref a], []⟩) (fun r s' => r = .ok (.ret (.bool true)) ∧ OldK s₁.heap s'.heap ∧ s'.os = s₁.os ∧ AllBare s'.gens) s₁ := by
    intro r H hO hS hok hA hK
    have base_of : ∀ {b : Addr} {o : Obj}, s₁.heap.get? b = some o → H b = none → (hidT s₁.heap H).get? b = some o := fun e n => hidT_get e n
    have noA : ∀ {b : Addr} {o : Obj} {es : Array DictEntry} {ep : Nat}, s₁.heap.get? b = some o → o.data = .dict es ep → H b = none := fun {b o es ep} e d => by
      cases q : H b with
      | none => rfl
      | some u =>
        have e' : b = a := hA b (by rw [q]; simp)
        subst e'
        rw [ha] at e
        cases e
        have d' : Data.seq vs.toArray _ = Data.dict es ep := d
        cases d'
    have nsK : ∀ {b : Addr} {m : Str → Option Value}, s₁.heap.Ns b m → (hidT s₁.heap H).Ns b m := fun {b m} ⟨o, es, ep, e, d, z⟩ => ⟨o, es, ep, base_of e (noA e d), d, z⟩
    have hKb : K.In (hidT s₁.heap H) := fun b o e => base_of (KX b o e) (by
      cases q : H b with
      | none => rfl
      | some u =>
        have e' : b = a := hA b (by rw [q]; simp)
        subst e'
        rw [hK (by rw [q]; simp)] at e
        cases e)
    have hM : Mod K mg (hidT s₁.heap H) := ⟨hKb, nsK hns, ⟨mb, nsK hb, hbb⟩, let ⟨mc, h1, h2⟩ := hlim; ⟨mc, nsK h1, h2⟩⟩
    have e0 : Env0 P w K mg (hidT s₁.heap H) callerA [] s₁ H := ⟨rfl, hM, fun b o e => of_hidT e, Nat.le_of_eq (hidT_size _ _), trivial, fun b hb => absurd (show b ∈ ([] : List Addr) from hb) (by simp), hok, .of_eq hg⟩
    obtain ⟨f, fd, ps, FG, hm, kp, bi⟩ := F _ hKb (nsK hns) (let ⟨_, h1⟩ := hsys; let ⟨o, _, _, e, _⟩ := nsK h1; ⟨o, e⟩)
    obtain rfl : fa = f := by
      have z := hmg.symm.trans hm
      cases z
      rfl
    have spx : spOf (BM K M) 1 sp_law [.ref a] H (fun v _ => v = .bl true) (fun _ _ _ => False) := by
      refine ⟨fun _ => False, .scr r a ns, [.any (.ref a)], fun q _ => q = .d (.bl true), fun _ z => z.elim, hS _, .cons (.any _) .nil, rfl, ⟨r, a, ns, rfl, rfl, hl, fun _ => rfl⟩, ?_⟩
      rintro q s' v H' rfl _ _ _ h
      cases h
      rfl
    have hp1 := FG.len _ _ _ _ spx
    refine codeAny_mono (FG.run callerA [] s₁ H ⟨[.ref a], []⟩ [.ref a] [.ref a] _ _ rfl hr e0 ?_ (.cons rfl .nil) spx) fun z s' h => ?_
    · have z := bi s₁ [.ref a] KX (by rw [List.append_nil]; exact hp1)
      rw [List.append_nil] at z
      exact z
    cases z with
    | error e => exact h.elim
    | ok fl =>
      cases fl with
      | next => exact False.elim h
      | brk => exact False.elim h
      | cont => exact False.elim h
      | ret u =>
        obtain ⟨v, H', os, bare, un, hok', r', q⟩ := h
        have q' : v = .bl true := q
        subst q'
        obtain rfl : u = Value.bool true := r'
        refine ⟨rfl, OldK.of_keep fun b o e => ?_, os, bare⟩
        cases q : H b with
        | none => exact un.keep b o e q (by intro z; exact absurd (show b ∈ ([] : List Addr) from z) (by simp)) (by simp)
        | some u =>
          rcases hO b with z | ⟨ob, xs, z⟩
          · rw [q] at z
            cases z
          · have z2 := un.frzs b ob _ z
            obtain ⟨e1, _⟩ := hok b _ z
            obtain ⟨e2, _⟩ := hok' b _ z2
            rw [e] at e1
            cases e1
            exact e2
  cases hk : K.lookup a with
  | some o =>
    have e := KX a o hk
    rw [ha] at e
    cases e
    exact core false (fun _ => none) (fun _ => .inl rfl) (fun _ => .inr ⟨_, vs.toArray, _, hk, rfl, rfl, rfl, by rw [List.size_toArray, lenV]; exact hl2, by simpa using rv⟩) (fun b u z => by have z' : (none : Option HO) = some u := z; cases z') (fun b z => absurd rfl z) fun z => absurd rfl z
  | none =>
    refine core true (fun b => if b = a then some (.frz { cls := .type "list", data := .seq vs.toArray } (.lst (ns.map V.int))) else none) (fun b => ?_) (fun _ => .inr ⟨{ cls := .type "list", data := .seq vs.toArray }, if_pos rfl⟩) (fun b u z => ?_) (fun b z => ?_) fun _ => hk
    · by_cases hb : b = a
      · exact .inr ⟨_, _, if_pos hb⟩
      · exact .inl (if_neg hb)
    · by_cases hb : b = a
      · have z' := (if_pos hb).symm.trans z
        cases z'
        subst hb
        exact ⟨ha, by rw [List.length_map]; exact hl2, vs, _, rv, ha⟩
      · have z' := (if_neg hb).symm.trans z
        cases z'
    · by_cases hb : b = a
      · exact hb
      · exact absurd (if_neg hb) z
theorem walk_bagSM {Mf : (Str → Option Value) → Option (Str → Option Value)} {l : PySem.W.OpenLaw} {k : Nat} {q : Program} {loose : List Str} {XP : (Str → Option Value) → Heap → Prop} {YP : World → Heap → Prop} {d : DefRec} {K : Params → Fg}
    (hi : importsNone q = true) (hn : l.most = some 63) (hdf : d.params.defaults = []) (hr : Room k callerA) (hY : ∀ (w : World) (h : Heap), YP w h → (K w.params).In h)
    (F : ∀ (w : World) (mg : Str → Option Value) (base : Heap), (K w.params).In base → base.Ns mainGlobals mg → SysB base → Cal l.prog w (K w.params) mg base (BM (K w.params) (Mf mg)) k d.name 1 sp_law) :
    PySem.W.WalkO q loose XP YP l.row.toRowW d [] (fun f vs => PySem.call f vs) := by
  refine Att.attach_callB hn hdf fun w s₀ s₁ mg mb fa o pm cd doc a vs ns G Y ho hd hcd hmg hobj hints hlen hbits hg => ?_
  exact end_callS (hY w _ Y) G.T.g G.T.b G.T.builtins G.T.nolimit hg hobj hints hlen hr hmg (let ⟨mm, h1, _⟩ := (G.T.seer hi).mods; ⟨mm, h1⟩) fun base => F w mg base
theorem walk_bagS {l : PySem.W.OpenLaw} {k : Nat} {q : Program} {loose : List Str} {XP : (Str → Option Value) → Heap → Prop} {YP : World → Heap → Prop} {d : DefRec} {K : Params → Fg}
    (hi : importsNone q = true) (hn : l.most = some 63) (hdf : d.params.defaults = []) (hr : Room k callerA) (hY : ∀ (w : World) (h : Heap), YP w h → (K w.params).In h)
    (F : ∀ (w : World) (mg : Str → Option Value) (base : Heap), (K w.params).In base → base.Ns mainGlobals mg → SysB base → Cal l.prog w (K w.params) mg base (BA (K w.params)) k d.name 1 sp_law) :
    PySem.W.WalkO q loose XP YP l.row.toRowW d [] (fun f vs => PySem.call f vs) := walk_bagSM (Mf := fun _ => none) hi hn hdf hr hY F
/-! a call without arguments -/
section
variable {X : Cx} {x : Str} {p pos : Pos} {A : Amb} {m sh : Bool}
theorem pe_calG0 {k np : Nat} {g : Pg A} (C : Cal X.prog X.w X.K X.mg X.base A k x np g) (hgd : X.A.guards = some []) (hr : Room k X.A) (hg : Gl X x := by rfl) (hdb : (x == ("__debug__" : Str)) = false := by decide) : PE X (.Call (.Name x p) [] [] pos) (tCall (spOf A np g) [] E0 tNil) := by
  obtain ⟨f, fd, ps, F, hm, hk, bi⟩ := C.ex
  refine ⟨fun pins s σ H Q I h => ?_⟩
  refine wpAny_Call_Name_kw (ld_glob I hg hm ?_ hdb)
  exact PySem.W.callWith_K0 I.kIn hk (run_gn (us := []) F hgd hr bi .nil pass0 I .nil h)
theorem q_call0 {k : Nat} {g : Pg A} (C : Cal X.prog X.w X.K X.mg X.base A k x 0 g) (hgd : X.A.guards = some []) (hr : Room k X.A) (hg : Gl X x := by rfl) (hdb : (x == ("__debug__" : Str)) = false := by decide) (hcl : m = true ∨ ∀ s, A.cl s := by first | exact .inl rfl | exact .inr fun _ => trivial) : QE X A m sh (.Call (.Name x p) [] [] pos) (tCall (spOf A 0 g) [] E0 tNil) (fCall g fNil) :=
  ⟨pe_calG0 C hgd hr hg hdb, sd_call (ql_nil (X := X)).sd hcl⟩
end
end Pd

set_option maxHeartbeats 4000000
/-! enumerate(list or tuple) in a loop -/
namespace PySem
set_option maxHeartbeats 1000000 in
theorem meets_enumerate_new1 {v : Value} {o : Obj} {H : Heap → Prop} (B : Begins v o H) :
    Meets (Builtin.«enumerate.__new__» ⟨[.type "enumerate", v], []⟩) (fun _ R s => H s.heap ∧
      R (.ok (.ret (.ref (s.heap.push o).objs.size))) { s with heap := (s.heap.push o).push { cls := .type "enumerate", data := .fields #[.none, .bool false, .ref s.heap.objs.size, rawInt 0, .none, .none] } }) :=
  .of_wp fun prog w A R s h => by
    obtain ⟨hp, g, d, tk, os⟩ := s; obtain ⟨h1, h⟩ := h
    have hsub := sub_enumerate
    have q1 : ∀ {A' : Around} {E : Value → Shared → Prop} {Q : Value → Shared → Prop}, Q (.ref hp.objs.size) ⟨hp.push o, g, d, tk, os⟩ → wpAny (model prog w) A' (pyIter v) Q E ⟨hp, g, d, tk, os⟩ :=
      fun q => B.iter prog w _ _ ⟨hp, g, d, tk, os⟩ _ h1 q
    wp_walk using q1
    refine wpAny_stack_any fun st => wpAny_pure ?_
    split
    · rename_i c _ _ _ _ _
      cases (c == Value.type "enumerate")
      · wp_walk using q1
        exact ⟨_, rfl, h⟩
      · wp_walk using q1
        exact ⟨_, rfl, h⟩
    · wp_walk using q1
      exact ⟨_, rfl, h⟩
theorem enum_begins1 {prog : Program} {w : World} {A : Around} {E : Value → Shared → Prop} {s : Shared} {v : Value} {o : Obj} {H : Heap → Prop} {Q : Value → Shared → Prop} (B : Begins v o H) (h1 : H s.heap)
    (h : ∀ h', IsEnum h' (s.heap.objs.size + 1) s.heap.objs.size 0 .none → h'.get? s.heap.objs.size = some o → h'.objs.size = s.heap.objs.size + 2 →
      (∀ b o, s.heap.get? b = some o → h'.get? b = some o) → Q (.ref (s.heap.objs.size + 1)) { s with heap := h' }) :
    wpAny (model prog w) A (call (.type "enumerate") [v]) Q E s := by
  refine callType_new F.called_enumerate (by decide) (F.typeCall_enumerate_1 _) (F.newCall_enumerate_1 _) (fun obj => F.args_object_init_2 obj _) F.entry_enumerate_new
    (meets_enumerate_new1 B) ⟨h1, ?_⟩
  have hz : (s.heap.push o).objs.size = s.heap.objs.size + 1 := Heap.size_push ..
  show _ ∧ _
  rw [hz]
  have he : IsEnum ((s.heap.push o).push { cls := .type "enumerate", data := .fields #[.none, .bool false, .ref s.heap.objs.size, rawInt 0, .none, .none] }) (s.heap.objs.size + 1) s.heap.objs.size 0 .none := by
    have := Heap.get?_push_size (s.heap.push o) (o := { cls := .type "enumerate", data := .fields #[.none, .bool false, .ref s.heap.objs.size, rawInt 0, .none, .none] }) rfl
    rw [hz] at this; exact this
  refine ⟨⟨_, he, rfl⟩, h _ he (Heap.get?_push_of_some _ (Heap.get?_push_size _ B.free)) (by rw [Heap.size_push, hz]) fun b o x => Heap.get?_push_of_some _ (Heap.get?_push_of_some _ x)⟩
end PySem
namespace Pd
open PySem PySem.Spec PyProof.Rows L2
def Itn (K : Fg) (t : Bool) (n : Nat) (a : Addr) : It :=
  ⟨fun i H => ∃ (xs : List V) (x : V), SqS K t H a xs ∧ xs.length = n ∧ xs[i]? = some x,
    fun i H v H' => ∃ T x, v = .ref T ∧ H T = none ∧ H' = upd H T (.tup [.int (i : Nat), x]) ∧ ∀ xs, SqS K t H a xs → xs[i]? = some x,
    fun i H => ∃ xs : List V, SqS K t H a xs ∧ xs.length = n ∧ n ≤ i⟩
theorem turn_enumM {P : Program} {w : World} {K : Fg} {elts : List Expr} {kk : Nat} {tpos : Pos} {t : Bool} {n : Nat} {a e it : Addr} (ne : e ≠ it) (na : a ≠ it) (nae : a ≠ e) :
    Turn P w K (.Tuple elts kk tpos) (Itn K t n a) [e, it] e (fun i h => (∃ old, IsEnum h e it ((i : Nat) : Int) old) ∧ ItS t h it a i ∧ i ≤ n) where
  mem := by simp
  obj := fun i h st b hb => by
    obtain ⟨⟨old, he⟩, h1, _⟩ := st
    have e' : b = e ∨ b = it := by simpa using hb
    rcases e' with z | z
    · rw [z]; exact ⟨_, he, fun v q => nomatch q⟩
    · rw [z]; exact it_obj h1
  keep := fun i h h' st k => let ⟨⟨old, he⟩, hi, hl⟩ := st; ⟨⟨old, k e (by simp) _ he⟩, it_at hi fun o q => k it (by simp) o q, hl⟩
  item := by
    intro X hP hw hK hc i pins s σ H E I hf st hg
    subst hP hw hK
    obtain ⟨⟨old, he⟩, hit, hl⟩ := st
    obtain ⟨xs, x, hq, e1, hx⟩ := hg
    obtain ⟨its, rv, p, _⟩ := inv_sqs I hq
    obtain ⟨u, hu, ru⟩ := rv.get hx
    have hel : e < s.heap.objs.size := Heap.lt_size he
    have hil : it < s.heap.objs.size := by obtain ⟨_, q, _⟩ := it_obj hit; exact Heap.lt_size q
    have m1 : i < its.toArray.size := by simpa using (List.getElem?_eq_some_iff.mp hu).1
    have b1 : i < n := by rw [← e1]; exact (List.getElem?_eq_some_iff.mp hx).1
    have hh : X.A.in1.handled = none := I.ok.hd hc
    refine wpAny_pyNext_enum_itemC (dr_s hh t it a na its.toArray) he ⟨hit, p⟩ m1 ne (fun z => by
      have z' : e = it ∨ e = a := by simpa using z
      rcases z' with z' | z'
      · exact ne z'
      · exact nae z'.symm) ?_
    intro v h' tk hv ho q1 hT hsz hk
    have ev : v = u := by
      have : its[i]? = some v := by simpa using hv
      exact Option.some.inj (this.symm.trans hu)
    subst ev
    refine ⟨_, rfl, wpAny_letOwnedTupleGo_enum (s := { s with heap := h', toks := tk + 1 }) ho fun h'' he' sb => ?_⟩
    have hT2 : h''.get? s.heap.objs.size = some { cls := .type "tuple", data := .seq #[.int i tk, v] } := (sb.2 _ (Nat.ne_of_gt hel)).trans hT
    have new : ObjOk X.prog X.w (upd H s.heap.objs.size (.tup [.int (i : Nat), x])) h'' s.heap.objs.size (.tup [.int (i : Nat), x]) :=
      ⟨by show 2 ≤ sizeLine; decide, [.int i tk, v], .cons ⟨_, rfl⟩ (.cons ru .nil), ⟨_, hT2, rfl, _, rfl⟩⟩
    have I1 : Inv X pins σ (upd H s.heap.objs.size (.tup [.int (i : Nat), x])) { s with heap := h'', toks := tk + 1 } :=
      I.turnedNew (t' := tk + 1) (ch := [e, it]) (fun b ob hb q => (sb.2 b (fun z => hb (by simp [z]))).trans (hk b ob (fun z => hb (by simp [z])) (fun z => hb (by simp [z])) q)) hf (Nat.le_refl _) new
    refine ⟨.ref s.heap.objs.size, _, I1, rfl, ⟨_, x, rfl, I.hok.fresh (Nat.le_refl _), rfl, fun ys hy => by rw [inv_sqs_inj I hy hq]; exact hx⟩, ⟨⟨v, ?_⟩, it_at q1.1 fun o q => (sb.2 it (Ne.symm ne)).trans q, b1⟩, fun b hb => ?_⟩
    · have e1 : ((i + 1 : Nat) : Int) = (i : Int) + 1 := by omega
      rw [e1]; exact he'
    · have hb' : b < s.heap.objs.size := by
        have e' : b = e ∨ b = it := by simpa using hb
        rcases e' with z | z
        · rw [z]; exact hel
        · rw [z]; exact hil
      rw [upd_ne (Nat.ne_of_lt hb')]
      exact (hf b hb).1
  done := by
    intro X hP hw hK hc i pins s σ H E I hf st hg
    subst hP hw hK
    obtain ⟨⟨old, he⟩, hit, hl⟩ := st
    obtain ⟨xs, hq, e1, hx⟩ := hg
    obtain ⟨its, rv, p, _⟩ := inv_sqs I hq
    have s1 : its.toArray.size = n := by rw [List.size_toArray, ← rv.length, e1]
    have hh : X.A.in1.handled = none := I.ok.hd hc
    obtain rfl : i = n := by omega
    exact wpAny_pyNext_enum_endD (dr_s hh t it a na its.toArray) he ⟨by rw [s1]; exact hit, p⟩ fun h' eb => ⟨rfl, I.turnedL (t' := s.toks) (ch := [e, it]) (fun b o hb q => eb b o (fun z => hb (by simp [z])) q) hf⟩
  self := fun A i s Q E st h => let ⟨⟨_, he⟩, _⟩ := st; wpAny_pyIter_enum he h
def iEnumM (K : Fg) (ta : TA) : TI := fun σ H R => ta σ H fun vs H1 => ∃ t a xs, vs = [.ref a] ∧ SqS K t H1 a xs ∧ R (Itn K t xs.length a) H1
theorem pi_enumM {X : Cx} {e : Expr} {ta : TA} {p pos tpos : Pos} {elts : List Expr} {kk : Nat} (hg : Gl X "enumerate") (hm : X.mg "enumerate" = none) (ha : PA X [e] ta) (hs : starEach [e] X.env = [(false, eval e X.env)] := by rfl) :
    PI X (.Tuple elts kk tpos) (.Call (.Name "enumerate" p) [e] [] pos) (iEnumM X.K ta) := by
  refine ⟨fun pins s σ H R I h => ?_⟩
  refine Call_ (ld_blt I hg hm boot_enumerate (PyProof.Rows.callWith_type1 (thn (ha.run pos pins s σ H _ I h) fun us s1 ⟨vs, H1, I1, r1, q1⟩ => ?_) hs rfl))
  obtain ⟨t, a, xs, rfl, hq, q⟩ := q1
  cases r1 with
  | cons r rr =>
    cases rr
    cases r
    obtain ⟨its, rv, p', la⟩ := inv_sqs I1 hq
    refine enum_begins1 (beg_s t a its.toArray) p' fun h' he hit hsz hk => wpAny_pyIter_enum he ?_
    have I2 : Inv X pins σ H1 { s1 with heap := h' } := I1.kept (t' := s1.toks) hk
    refine ⟨s1.heap.objs.size + 1, [s1.heap.objs.size + 1, s1.heap.objs.size], _, _, H1, rfl, I2, turn_enumM (Nat.succ_ne_self _) (Nat.ne_of_lt la) (Nat.ne_of_lt (Nat.lt_succ_of_lt la)), ⟨⟨.none, he⟩, it_new hit, Nat.zero_le _⟩, fun b hb => ?_, q⟩
    have e' : b = s1.heap.objs.size + 1 ∨ b = s1.heap.objs.size := by simpa using hb
    have hle : s1.heap.objs.size ≤ b := by
      rcases e' with z | z
      · rw [z]; exact Nat.le_add_right _ _
      · rw [z]; exact Nat.le_refl _
    exact I1.fpOk hle (I1.hok.fresh hle)
def fEnumM {S : Type} (f : FE S) : FI S := fun ρ s Φ => f ρ s fun d s1 => seqOf d fun l => Φ (enumD 0 l) s1
section
variable {A : Amb} {te : TE} {fe : FE A} {K : Fg}
theorem si_enumM (h : SdE A true false te fe) : SdI A (iEnumM K (tCons te tNil)) (fEnumM fe) := fun W s0 H0 s σ H ρ Φ Rr R hp q =>
  h W s0 H0 s σ H ρ _ _ R hp fun d s1 v H1 h1 R1 st1 r1 => by
    have r := r1.rs
    have r0 := r
    obtain ⟨t, a, xs, l, rfl, q1, rl, h2, c⟩ := rs_sqs (K := K) r h1
    refine ⟨t, a, xs, rfl, q1, q (enumD 0 l) s1 _ H1 h2 R1 st1 ⟨[(d, .ref a)], fun p hp => ?_, fun B' H2 i hp => ?_⟩⟩
    · obtain rfl : p = (d, .ref a) := by simpa using hp
      exact r0
    · obtain ⟨ys, k1, g1⟩ := sqs_rs (K := K) (hp _ (List.mem_singleton.mpr rfl)) c
      have e1 : ys.length = xs.length := g1.length.trans rl.length.symm
      refine ⟨fun e => ⟨ys, k1, e1, ?_⟩, fun d e => ?_⟩
      · have := List.getElem?_eq_none_iff.mp e
        rw [enumD_len] at this
        have := rl.length
        omega
      · obtain ⟨x, e2, rfl⟩ := enumD_at e
        obtain ⟨y, e3, e4⟩ := g1.get e2
        refine ⟨⟨ys, y, k1, e1, e3⟩, ?_⟩
        rintro _ H3 ⟨T, z, rfl, hT, rfl, hz⟩
        have ez : z = y := Option.some.inj ((hz ys k1).symm.trans e3)
        subst ez
        refine .inr ⟨T, [.int (i : Nat), z], [.int ((0 + i : Nat) : Int), x], rfl, hT, rfl, rfl, .cons ?_ (.cons e4 .nil)⟩
        rw [Nat.zero_add]
        exact .int _
end
section
variable {X : Cx} {A : Amb} {a : Expr} {ta : TE} {fa : FE A} {p pos tpos : Pos} {elts : List Expr} {kk : Nat}
theorem qi_enumM (hm : X.mg "enumerate" = none) (ha : QE X A true false a ta fa) (hg : Gl X "enumerate" := by rfl) (hs : starEach [a] X.env = [(false, eval a X.env)] := by rfl) :
    QI X A (.Tuple elts kk tpos) (.Call (.Name "enumerate" p) [a] [] pos) (iEnumM X.K (tCons ta tNil)) (fEnumM fa) := ⟨pi_enumM hg hm (pa_cons ha.pe pa_nil hs) hs, si_enumM ha.sd⟩
end
/-! a text times an int -/
def repS (n : Nat) (x : Str) : Str := ⟨(List.replicate n x.cps).foldl (· ++ ·) #[]⟩
def rRepS : R2 := fun x y H Q => ∃ z k, x = .str z ∧ y = .int k ∧ 2 ≤ k ∧ k ≤ 100000 ∧ 0 < z.length ∧ z.length * k.toNat ≤ 16777216 ∧ Q (.str (repS k.toNat z)) H
theorem foldl_sz : ∀ (n : Nat) (a b : Array Nat), ((List.replicate n a).foldl (· ++ ·) b).size = b.size + n * a.size
  | 0, a, b => by simp
  | n + 1, a, b => by
    rw [List.replicate_succ, List.foldl_cons, foldl_sz n a (b ++ a), Array.size_append, Nat.succ_mul]
    omega
theorem repS_len (n : Nat) (x : Str) : (repS n x).length = n * x.length := by
  have := foldl_sz n x.cps #[]
  show ((List.replicate n x.cps).foldl (· ++ ·) #[]).size = _
  rw [this]
  show 0 + n * x.cps.size = n * x.cps.size
  omega
theorem op_repS {X : Cx} : OpR X (binaryOp .Mult) rRepS := by
  intro pins s σ H x y v u Q I rx ry h
  obtain ⟨z, k, rfl, rfl, h2, h3, h0, hz, q⟩ := h
  obtain ⟨t, rfl⟩ := rx
  obtain ⟨t2, rfl⟩ := ry
  have e1 : (k == 1 || z.length == 0) = false := by
    rw [Bool.or_eq_false_iff]
    exact ⟨by simpa using (by omega : k ≠ 1), by simpa using (by omega : z.length ≠ 0)⟩
  refine PySem.P.mul_str ?_ ?_ ?_ ?_
  · rw [decide_eq_false (by omega), decide_eq_false (by omega)]; rfl
  · intro _ _ hc
    have h4 : ((z.length : Int) * k) ≤ 16777216 := by
      have e : ((z.length * k.toNat : Nat) : Int) = (z.length : Int) * k := by rw [Int.natCast_mul, Int.toNat_of_nonneg (by omega)]
      omega
    have h5 : (z.length : Int) ≤ (2 ^ 63 - 1) / k := Int.le_ediv_of_mul_le (by omega) (by omega)
    omega
  · intro _ _
    simp only [Builtin.Str.tooLong, decide_eq_false_iff_not]
    have := line_eq
    omega
  · rw [if_neg (by omega), e1, if_neg (by decide)]
    refine ⟨?_, ⟨.str _, H, I.tok _, ⟨_, rfl⟩, q⟩⟩
    have := repS_len k.toNat z
    rw [line_eq]
    show (repS k.toNat z).length ≤ _
    rw [this, Nat.mul_comm]
    exact hz
def dMulS (x y : D) (Φ : D → Prop) : Prop := match x, y with
  | .str a, .int k => (2 ≤ k ∧ k ≤ 100000 ∧ 0 < a.length ∧ a.length * k.toNat ≤ 16777216) ∧ Φ (.str (repS k.toNat a))
  | _, _ => False
section
variable {A : Amb} {m m1 m2 sh1 sh2 : Bool}
theorem sdr_mulS : SdR A m m1 sh1 m2 sh2 rRepS dMulS := sdr_same fun x y v w H Φ Q W s σ ρ rx ry h q => by
  unfold dMulS at h
  split at h
  · rename_i a k
    obtain rfl := rx.str
    obtain rfl := ry.int
    exact ⟨a, k, rfl, rfl, h.1.1, h.1.2.1, h.1.2.2.1, h.1.2.2.2, q _ _ h.2 fun B => .str _⟩
  · exact h.elim
end
theorem bo_mulS {X : Cx} {A : Amb} {m : Bool} : BO X A m .Mult rRepS dMulS := ⟨op_repS, sdr_mulS⟩
theorem foldl_mem : ∀ (n : Nat) (a b : Array Nat) (c : Nat), c ∈ (List.replicate n a).foldl (· ++ ·) b → c ∈ a ∨ c ∈ b
  | 0, a, b, c, h => .inr (by simpa using h)
  | n + 1, a, b, c, h => by
    rw [List.replicate_succ, List.foldl_cons] at h
    rcases foldl_mem n a (b ++ a) c h with h | h
    · exact .inl h
    · rcases Array.mem_append.mp h with h | h
      · exact .inr h
      · exact .inl h
theorem okc_rep {x : Str} {n : Nat} (h : Okc x) : Okc (repS n x) := by
  intro c hc
  have hc : c ∈ (repS n x).cps.toList := hc
  rcases foldl_mem n x.cps #[] c (Array.mem_toList_iff.mp hc) with h1 | h1
  · exact h c (Array.mem_toList_iff.mpr h1)
  · simp at h1
end Pd

set_option maxHeartbeats 4000000
namespace Pd
open PySem PySem.Spec PyProof.Rows L2
/-! three comparisons -/
section
variable {X : Cx} {a b c d : Expr} {ta tb tc td : TE} {pos : Pos} {op op' op2 : CmpOp} {r r' r2 : R2}
def tChain3 (r r' r2 : R2) (ta tb tc td : TE) : TE := fun σ H Q => ta σ H fun x H1 => tb σ H1 fun y H2 => r x y H2 fun z H3 => ∃ k, z = .bl k ∧
  (if k = true then tc σ H3 fun w' H4 => r' y w' H4 fun z' H5 => ∃ k', z' = .bl k' ∧ (if k' = true then td σ H5 fun u' H6 => r2 w' u' H6 Q else Q (.bl false) H5) else Q (.bl false) H3)
theorem pe_chain3 (ho : OpR X (compareOp op) r) (ho' : OpR X (compareOp op') r') (ho2 : OpR X (compareOp op2) r2) (ha : PE X a ta) (hb : PE X b tb) (hc : PE X c tc) (hd : PE X d td)
    (hm : lastMarks [op, op', op2] [b, c, d] = false := by with_unfolding_all rfl) : PE X (.Compare a [op, op', op2] [b, c, d] pos) (tChain3 r r' r2 ta tb tc td) := by
  refine ⟨fun pins s σ H Q I h => ?_⟩
  refine Compare_chain (thn (ha.run pins s σ H _ I h) fun v s1 ⟨x, H1, I1, r1, q1⟩ => chain_link (thn (hb.run pins s1 σ H1 _ I1 q1) fun u s2 ⟨y, H2, I2, r2, q2⟩ =>
    thn (ho pins s2 σ H2 x y v u _ I2 r1 r2 q2) fun d s3 ⟨z, H3, I3, r3, k, e, q3⟩ => ?_)) hm
  subst e
  cases r3
  refine wpAny_truthy_bool ?_
  cases k with
  | false => exact ite_ff ⟨.bl false, H3, I3, rfl, q3⟩
  | true =>
    refine ite_tt (chain_link (thn (hc.run pins s3 σ H3 _ I3 q3) fun w' s4 ⟨z', H4, I4, r4, q4⟩ => thn (ho' pins s4 σ H4 y z' u w' _ I4 r2 r4 q4) fun d' s5 ⟨z2, H5, I5, r5, k2, e2, q5⟩ => ?_))
    subst e2
    cases r5
    refine wpAny_truthy_bool ?_
    cases k2 with
    | false => exact ite_ff ⟨.bl false, H5, I5, rfl, q5⟩
    | true => exact ite_tt (chain_last (thn (hd.run pins s5 σ H5 _ I5 q5) fun w2 s6 ⟨z6, H6, I6, r6, q6⟩ => ho2 pins s6 σ H6 z' z6 w' w2 Q I6 r4 r6 q6))
end
def fChain3 {S : Type} (op op' op2 : D → D → (D → Prop) → Prop) (fa fb fc fd : FE S) : FE S := fun ρ s Φ => fa ρ s fun x s1 => fb ρ s1 fun y s2 => op x y fun z => match z with
  | .bl k => Br k (fc ρ s2 fun w s3 => op' y w fun z2 => match z2 with
    | .bl k2 => Br k2 (fd ρ s3 fun u s4 => op2 w u fun d => Φ d s4) (Φ (.bl false) s3)
    | _ => False) (Φ (.bl false) s2)
  | _ => False
section
variable {A : Amb} {m sh m1 sh1 m2 sh2 m3 sh3 m4 sh4 : Bool} {ta tb tc td : TE} {fa fb fc fd : FE A} {r r' r2 : R2} {op op' op2 : D → D → (D → Prop) → Prop}
theorem sd_chain3 (hr : SdR A m m1 sh1 m2 sh2 r op) (hr' : SdR A m m2 sh2 m3 sh3 r' op') (hr2 : SdR A m m3 sh3 m4 sh4 r2 op2) (ha : SdE A m1 sh1 ta fa) (hb : SdE A m2 sh2 tb fb) (hc : SdE A m3 sh3 tc fc) (hd : SdE A m4 sh4 td fd) :
    SdE A m sh (tChain3 r r' r2 ta tb tc td) (fChain3 op op' op2 fa fb fc fd) :=
  fun W s0 H0 s σ H ρ Φ Q R h q => ha W s0 H0 s σ H ρ _ _ R h fun x s1 v H1 h1 R1 st1 r1 => hb W s0 H0 s1 σ H1 ρ _ _ R1 h1 fun y s2 w H2 h2 R2 st2 r2 =>
    hr W s0 H0 s2 σ H2 ρ x y v w _ _ R2 (r1.stp st2) r2 h2 fun d u H3 hd3 R3 st3 r3 => by
      cases d with
      | bl k =>
        obtain rfl := r3.bl
        refine ⟨k, rfl, ?_⟩
        have hb3 := hd3
        cases k with
        | false =>
          rw [if_neg (by decide)]
          exact q _ s2 _ H3 (hb3.f rfl) R3 ((st1.trans st2).trans st3) (.inl (.bl _))
        | true =>
          rw [if_pos rfl]
          exact hc W s0 H0 s2 σ H3 ρ _ _ R3 (hb3.t rfl) fun w' s4 v4 H4 h4 R4 st4 r4 => hr' W s0 H0 s4 σ H4 ρ y w' w v4 _ _ R4 ((r2.stp st3).stp st4) r4 h4 fun d5 u5 H5 hd5 R5 st5 r5 => by
            cases d5 with
            | bl k2 =>
              obtain rfl := r5.bl
              refine ⟨k2, rfl, ?_⟩
              cases k2 with
              | false =>
                rw [if_neg (by decide)]
                exact q _ s4 _ H5 (hd5.f rfl) R5 ((((st1.trans st2).trans st3).trans st4).trans st5) (.inl (.bl _))
              | true =>
                rw [if_pos rfl]
                exact hd W s0 H0 s4 σ H5 ρ _ _ R5 (hd5.t rfl) fun w6 s6 v6 H6 h6 R6 st6 r6 => hr2 W s0 H0 s6 σ H6 ρ w' w6 v4 v6 _ _ R6 ((r4.stp st5).stp st6) r6 h6 fun d7 u7 H7 hd7 R7 st7 r7 =>
                  q _ s6 _ H7 hd7 R7 ((((((st1.trans st2).trans st3).trans st4).trans st5).trans st6).trans st7) r7.up
            | _ => exact hd5.elim
      | _ => exact hd3.elim
end
section
variable {X : Cx} {A : Amb} {m sh : Bool} {a b c d : Expr} {ta tb tc td : TE} {fa fb fc fd : FE A} {pos : Pos}
theorem q_chain3 {op op' op2 : CmpOp} {r r' r2 : R2} {d1 d2 d3 : D → D → (D → Prop) → Prop} (B : CO X A op r d1) (B' : CO X A op' r' d2) (B2 : CO X A op2 r2 d3) (ha : QE X A false true a ta fa) (hb : QE X A false true b tb fb) (hc : QE X A false true c tc fc) (hd : QE X A false true d td fd) (hm : lastMarks [op, op', op2] [b, c, d] = false := by with_unfolding_all rfl) :
    QE X A m sh (.Compare a [op, op', op2] [b, c, d] pos) (tChain3 r r' r2 ta tb tc td) (fChain3 d1 d2 d3 fa fb fc fd) := ⟨pe_chain3 B.ho B'.ho B2.ho ha.pe hb.pe hc.pe hd.pe hm, sd_chain3 (B.hs m) (B'.hs m) (B2.hs m) ha.sd hb.sd hc.sd hd.sd⟩
end
/-! sorted(list of ints), list(list or tuple): a list of the frame's own -/
def oSorted (ds : List D) (Φ : Mo → Prop) : Prop := ∃ ns : List Int, ds = [.lst (ns.map D.int)] ∧ ∀ ns' : List Int, ns'.Perm ns → ns'.Pairwise (· ≤ ·) → Φ (.lst (ns'.map D.int))
def oList (ds : List D) (Φ : Mo → Prop) : Prop := match ds with
  | [.lst l] => Φ (.lst l)
  | [.tup l] => Φ (.lst l)
  | _ => False
def fCBO {S : Type} (op : List D → (Mo → Prop) → Prop) (fa : FA S) : FO S := fun ρ s Φ => fa ρ s fun ds s1 => op ds fun m => Φ m s1
section
variable {A : Amb} {m sh1 : Bool} {K : Fg} {ta : TA} {fa : FA A} {n : Nat}
theorem so_sorted (h : SdL A true sh1 n ta fa) : SdO A (tCB (rSortedI K) ta) (fCBO oSorted fa) := fun W s0 H0 s σ H ρ Φ Q R hp q =>
  h W s0 H0 s σ H ρ _ _ R hp fun ds s1 vs H1 h1 R1 st1 rv hn => by
    obtain ⟨ns, rfl, h⟩ := h1
    obtain ⟨v, rfl, r⟩ := rv.one
    obtain ⟨a, xs, rfl, k1, k2, _⟩ := r.lst
    obtain rfl := k2.ints
    exact ⟨a, ns, rfl, .of k1, fun ns' p hp' hs hn => so_new R1 st1 (RsL.ofInts _) (h ns' hp' hs) p hn q⟩
theorem so_list (h : SdL A true sh1 n ta fa) : SdO A (tCB (rListA K) ta) (fCBO oList fa) := fun W s0 H0 s σ H ρ Φ Q R hp q =>
  h W s0 H0 s σ H ρ _ _ R hp fun ds s1 vs H1 h1 R1 st1 rv hn => by
    unfold oList at h1
    split at h1
    · obtain ⟨v, rfl, r⟩ := rv.one
      obtain ⟨a, xs, rfl, k1, k2, _⟩ := r.lst
      exact ⟨a, xs, rfl, .inl (.of k1), fun p hn => so_new R1 st1 k2 h1 p hn q⟩
    · obtain ⟨v, rfl, r⟩ := rv.one
      obtain ⟨a, xs, rfl, k1, k2⟩ := r.tup
      exact ⟨a, xs, rfl, .inr (.of k1), fun p hn => so_new R1 st1 k2 h1 p hn q⟩
    · exact h1.elim
end
section
variable {X : Cx} {A : Amb} {e : Expr} {es : List Expr} {t : TA} {f : FA A} {p pos : Pos} {n : Nat}
theorem qo_sorted (hm : X.mg "sorted" = none) (ha : QL X A true true n (e :: es) t f) (hg : Gl X "sorted" := by rfl) (he : starEach (e :: es) X.env = (false, eval e X.env) :: starEach es X.env := by rfl) (hpl : (backTo pos (starEach es X.env)).any (·.1) = false := by rfl) :
    QO X A (.Call (.Name "sorted" p) (e :: es) [] pos) (tCB (rSortedI X.K) t) (fCBO oSorted f) := ⟨pe_callB cr_sortedI hg hm bt_sorted ha.pa (by decide) (by decide) he hpl, so_sorted ha.sd⟩
theorem qo_list (hm : X.mg "list" = none) (ha : QL X A true true n (e :: es) t f) (hg : Gl X "list" := by rfl) (he : starEach (e :: es) X.env = (false, eval e X.env) :: starEach es X.env := by rfl) (hpl : (backTo pos (starEach es X.env)).any (·.1) = false := by rfl) :
    QO X A (.Call (.Name "list" p) (e :: es) [] pos) (tCB (rListA X.K) t) (fCBO oList f) := ⟨pe_callTy call_list_of hg hm bt_list ha.pa (by decide) (by decide) he hpl, so_list ha.sd⟩
end
/-! tuple(range(..)) -/
section
variable {X : Cx} {A : Amb} {m sh : Bool} {a b : Expr} {ta tb : TE} {fa fb : FE A} {p pos : Pos}
theorem q_trg1 (hc : X.calm = true) (hm : X.mg "tuple" = none) (hr : X.mg "range" = none) (ha : QE X A false true a ta fa) (hg : Gl X "tuple" := by rfl) (hgr : Gl X "range" := by rfl) (na : starEach [a] X.env = (false, eval a X.env) :: starEach [] X.env := by rfl) {p2 q2 : Pos} (ne : starEach [.Call (.Name "range" p2) [a] [] q2] X.env = (false, eval (.Call (.Name "range" p2) [a] [] q2) X.env) :: starEach [] X.env := by rfl) :
    QE X A m sh (.Call (.Name "tuple" p) [.Call (.Name "range" p2) [a] [] q2] [] pos) (tTupRg (tRg1 ta)) (fTupRg (fR1 fa)) := ⟨pe_tupRg hc hg hm (prg_1 hgr hr ha.pe na) ne, sd_tupRg (sr_1 ha.sd)⟩
end
/-! tuple(reversed(list)) -/
def fTupRev {S : Type} (f : FE S) : FE S := fun ρ s Φ => f ρ s fun d s1 => match d with
  | .lst l => Φ (.tup l.reverse) s1
  | _ => False
section
variable {X : Cx} {A : Amb} {m sh sh1 : Bool} {e : Expr} {te : TE} {fe : FE A} {p p2 pos pos2 : Pos} {K : Fg}
theorem sd_tupRev (h : SdE A m sh1 te fe) : SdE A m sh (RT.tTupRev K te) (fTupRev fe) := fun W s0 H0 s σ H ρ Φ Q R hp q => h W s0 H0 s σ H ρ _ _ R hp fun d s1 v H1 h1 R1 st1 r1 => by
  cases d with
  | lst l =>
    obtain ⟨a, xs, rfl, k1, k2, _⟩ := r1.lst
    exact ⟨a, xs, rfl, .of k1, fun p hn => q _ s1 _ _ h1 (R1.alloc hn _) (st1.trans (Stp.fresh hn)) (RV.newT R1 hn k2.reverse)⟩
  | _ => exact h1.elim
theorem q_trev (hc : X.calm = true) (hm : X.mg "tuple" = none) (hm2 : X.mg "reversed" = none) (he : QE X A m true e te fe) (hg : Gl X "tuple" := by rfl) (hg2 : Gl X "reversed" := by rfl)
    (n1 : starEach [e] X.env = (false, eval e X.env) :: starEach [] X.env := by rfl)
    (n2 : starEach [.Call (.Name "reversed" p2) [e] [] pos2] X.env = (false, eval (.Call (.Name "reversed" p2) [e] [] pos2) X.env) :: starEach [] X.env := by rfl) :
    QE X A m sh (.Call (.Name "tuple" p) [.Call (.Name "reversed" p2) [e] [] pos2] [] pos) (RT.tTupRev X.K te) (fTupRev fe) := ⟨RT.pe_tupRev hc hg hm hg2 hm2 he.pe n1 n2, sd_tupRev he.sd⟩
end
end Pd

set_option maxHeartbeats 4000000
/-! exceptions of own classes over trees -/
namespace Pd
open PySem PySem.Spec PyProof.Rows L2
/-- an exception: its class's name, its one field, if it has one -/
structure XD where
  nm : Str
  val : Option (Str × D) := none
def XdOk (mg : Str → Option Value) (B : Ad) (H : Hp) (x : XD) (cls : Value) (d : Option Addr) : Prop :=
  mg x.nm = some cls ∧ match x.val with
    | none => d = none
    | some (f, t) => ∃ dd v, d = some dd ∧ H dd = some (.xd [(f, v)]) ∧ ¬ B dd ∧ Rs B H t v
theorem XdOk.weak {mg : Str → Option Value} {B B' : Ad} {H : Hp} {x : XD} {cls : Value} {d : Option Addr} (h : XdOk mg B H x cls d) (w : ∀ a, B' a → B a) : XdOk mg B' H x cls d := by
  obtain ⟨nm, val⟩ := x
  obtain ⟨h1, h2⟩ := h
  refine ⟨h1, ?_⟩
  cases val with
  | none => exact h2
  | some p =>
    obtain ⟨dd, v, e1, e2, e3, e4⟩ := h2
    exact ⟨dd, v, e1, e2, fun z => e3 (w _ z), e4.weak w⟩
/-- the surroundings with a wish -/
abbrev Amb.wish (A : Amb) (w0 : Ad) (g0 : List (D × V)) (Lk : A.S → Hp → Prop) : Amb := { A with w0 := w0, g0 := g0, Lk := Lk }
section
variable {A : Amb} {w0 : Ad} {g0 : List (D × V)} {Lk : A.S → Hp → Prop} {s s' : A.S} {H H' : Hp}
theorem Stp.on (h : Stp A s s' H H') : Stp (A.wish w0 g0 Lk) s s' H H' := ⟨h.agr, h.new, h.dom⟩
theorem Stp.off (h : Stp (A.wish w0 g0 Lk) s s' H H') : Stp A s s' H H' := ⟨h.agr, h.new, h.dom⟩
end
abbrev XiT (S : Type) := XD → List Sl → S → Prop
/-- what the code lets out is wished for -/
def Wish (mg : Str → Option Value) (A : Amb) (Wx : WX) (Xi : XiT A) : Prop := ∀ W s0 H0 s σ H ρ x cls d, ER A W s0 H0 s σ H ρ → XdOk mg (om true A W s σ ρ) H x cls d → Xi x ρ s → Wx cls d σ H
theorem wish_none {mg : Str → Option Value} {A : Amb} {Wx : WX} : Wish mg A Wx (fun _ _ _ => False) := fun _ _ _ _ _ _ _ _ _ _ _ _ z => z.elim
/-! ### a def that may raise -/
abbrev PgX (S : Type) := List D → S → (Ret → S → Prop) → (XD → S → Prop) → Prop
def spOfX (mg : Str → Option Value) (A : Amb) (np : Nat) (g : PgX A) : L2.Sp := fun vs H Q E => ∃ (W : Ad) (s : A.S) (ds : List D) (Ψ : Ret → A.S → Prop) (Ξ : XD → A.S → Prop), (∀ a, W a → H a ≠ none) ∧ A.I s (fun a => W a ∨ A.B s a) H ∧ RsL (fun a => W a ∨ A.B s a) H ds vs ∧ ds.length = np ∧ g ds s Ψ Ξ ∧
  (∀ r s' v H', Ψ r s' → A.I s' (fun a => W a ∨ A.B s' a) H' → Stp A s s' H H' → (∀ a, W a → H' a ≠ none) → RetOk A ⟨W, []⟩ s H s' H' v r → Q v H') ∧
  ∀ x s' cls d H', Ξ x s' → A.I s' (fun a => W a ∨ A.B s' a) H' → Stp A s s' H H' → (∀ a, W a → H' a ≠ none) → XdOk mg (fun a => W a ∨ A.B s' a) H' x cls d → E cls d H'
structure CalX (P : Program) (w : World) (K : Fg) (mg : Str → Option Value) (base : Heap) (A : Amb) (k : Nat) (x : Str) (np : Nat) (g : PgX A) : Prop where
  ex : ∃ (f : Addr) (fd : FuncData) (ps : List Str), FnG P w K mg base (L2N.CX P w) k f fd ps (spOfX mg A np g) ∧ mg x = some (.ref f) ∧ PySem.W.keepIn K (.ref f) = true ∧ Binds K fd ps []
section
variable {P : Program} {w : World} {K : Fg} {mg : Str → Option Value} {base : Heap} {k : Nat} {A : Amb}
theorem cal_ofX {x : Str} {st : Stmt} {N ps : List Str} {np : Nat} {g : PgX A} {ff : (XD → A.S → Prop) → FS A} (F : Dfn K mg x st ps) (S : FnScope N ps (defScope st)) (hnp : ps.length = np) (hN : np ≤ N.length)
    (hb : ∀ (f : Addr) (cdv : Value) (Ar : Around) (out : List Env) (s : Shared) (H : Hp) (E : XK), (Ar.deeper (envOfC x (defScope st) s.heap.objs.size f cdv)).guards = some [] → Room k (Ar.deeper (envOfC x (defScope st) s.heap.objs.size f cdv)) →
      ∀ (Wx : WX) (w0 : Ad) (g0 : List (D × V)) (Lk : A.S → Hp → Prop) (Ξ : XD → A.S → Prop), L2N.Takes (cxOf (L2N.CX P w) P w K mg base N x (defScope st) f cdv Ar out s H E) Wx → Wish mg (A.wish w0 g0 Lk) Wx (fun x _ s => Ξ x s) →
      ∃ t, QSs (cxOf (L2N.CX P w) P w K mg base N x (defScope st) f cdv Ar out s H E) (A.wish w0 g0 Lk) (defBody st) t (ff Ξ))
    (hp : ∀ (ds : List D) (s : A.S) (Ψ : Ret → A.S → Prop) (Ξ : XD → A.S → Prop), ds.length = np → g ds s Ψ Ξ → ff Ξ { nx := fun _ s => Ψ (.d .non) s, rt := Ψ } (startR N ds) s) : CalX P w K mg base A (k + 1) x np g := by
  obtain ⟨f, fd, F, hm, bi⟩ := F.ex
  refine ⟨f, fd, ps, gn_of F S (fun vs H Q E h => ?_) (fun cdv Ar out s H vs Q E hgd hr h => ?_), hm, F.kp, bi⟩
  · obtain ⟨W, s, ds, Ψ, Ξ, _, _, r, e, _⟩ := h
    rw [r.length, e, hnp]
  · obtain ⟨W, sa, ds, Ψ, Ξ, hw, hi, r, e, hg, q, qx⟩ := h
    let Lk : A.S → Hp → Prop := fun s0 H0 => ∀ x s' cls d H', A.I s' (fun a => W a ∨ A.B s' a) H' → Stp A s0 s' H0 H' → (∀ a, W a → H' a ≠ none) → XdOk mg (fun a => W a ∨ A.B s' a) H' x cls d → Ξ x s' → E cls d H'
    have tk : L2N.Takes (cxOf (L2N.CX P w) P w K mg base N x (defScope st) f cdv Ar out s H E) (fun cls d _ H => E cls d H) := L2N.takes_of rfl rfl rfl rfl
    have wi : Wish mg (A.wish W [] Lk) (fun cls d _ H => E cls d H) (fun x _ s => Ξ x s) := fun W2 s0 H0 s2 σ2 H2 ρ2 x cls d R hx hxi =>
      R.lk x s2 cls d H2 (Amb.sub R.amb fun a z => z.imp (R.w0 a) .inl) R.stp.off (fun a z => R.wd a (R.w0 a z)) (hx.weak fun a z => z.imp (R.w0 a) .inl) hxi
    obtain ⟨t, hq⟩ := hb f cdv Ar out s H E hgd hr _ W [] Lk Ξ tk wi
    refine ⟨t, hq.ps, hq.sd ⟨W, []⟩ sa H sa _ H _ _ _ (start_er (by rw [r.length, e]; exact hN) hw hi r (fun a z => z) rfl (fun x s' cls d H' h1 h2 h3 h4 h5 => qx x s' cls d H' h5 h1 h2 h3 h4)) (hp ds sa Ψ Ξ e hg) (fun ρ' s' σ' H' h R => ?_) (fun _ _ _ _ h => h.elim) (fun _ _ _ _ h => h.elim) fun rr s' v H' h1 h2 h3 h4 h5 => q rr s' v H' h1 h2 h3.off h4 (by cases rr <;> exact h5)⟩
    exact q _ s' .non H' h (Amb.sub R.amb (om_low (A := A.wish _ _ _) (W := ⟨W, []⟩))) R.stp.off R.wd .non
end
/-- a def that raises nothing, in surroundings with a wish -/
theorem spOf_wish {A : Amb} {w0 : Ad} {g0 : List (D × V)} {Lk : A.S → Hp → Prop} {np : Nat} {g : Pg A} {vs : List V} {H : Hp} {Q : VK} {E : XK} (h : spOf (A.wish w0 g0 Lk) np g vs H Q E) : spOf A np g vs H Q E := by
  obtain ⟨W, s, ds, Ψ, h1, h2, h3, h4, h5, h6⟩ := h
  exact ⟨W, s, ds, Ψ, h1, h2, h3, h4, h5, fun r s' v H' a b c d e => h6 r s' v H' a b c.on d (by cases r <;> exact e)⟩
theorem Cal.wish {P : Program} {w : World} {K : Fg} {mg : Str → Option Value} {base : Heap} {k : Nat} {A : Amb} {x : Str} {np : Nat} {g : Pg A} {w0 : Ad} {g0 : List (D × V)} {Lk : A.S → Hp → Prop} (C : Cal P w K mg base A k x np g) : Cal P w K mg base (A.wish w0 g0 Lk) k x np g := by
  obtain ⟨f, fd, ps, F, a, b, c⟩ := C.ex
  exact ⟨f, fd, ps, ⟨fun vs H Q E h => F.len vs H Q E (spOf_wish h), fun Ar out s H ag us vs Q E h1 h2 h3 h4 h5 h6 => F.run Ar out s H ag us vs Q E h1 h2 h3 h4 h5 (spOf_wish h6)⟩, a, b, c⟩
/-! ### calls that may raise -/
structure SpX {S : Type} (g : PgX S) (ds : List D) (s : S) (Ψ : Ret → S → Prop) (Ξ : XD → S → Prop) : Prop where
  go : g ds s Ψ Ξ
def fCallX {S : Type} (Xi : XiT S) (g : PgX S) (fa : FA S) : FE S := fun ρ s Φ => fa ρ s fun ds s1 => SpX g ds s1 (fun r s2 => match r with
  | .d d => Φ d s2
  | .o (.lst l) => Φ (.lst l) s2
  | .o (.dk ks vs) => Φ (.dct ks vs) s2
  | .o (.dt ks vs) => Φ (.dtt ks vs) s2) fun x s2 => Xi x ρ s2
section
variable {X : Cx} {k : Nat} {f : Addr} {fd : FuncData} {ps : List Str} {sp : L2.Sp} {E : Sg → XK} {x : Str} {p pos : Pos} {e : Expr} {es : List Expr} {t : TA} {CX : CXT}
theorem run_gnS {pins : List (Addr × Obj)} {σ : Sg} {H : Hp} {s : Shared} {Q : VK} {us : List Value} {vs : List V} (F : FnG X.prog X.w X.K X.mg X.base CX k f fd ps sp) (hgd : X.A.guards = some []) (hr : Room k X.A) (hb : Binds X.K fd ps []) (hx : PassesAt CX X σ (E σ))
    (J : Inv X pins σ H s) (rv : Vals vs us) (h : sp vs H Q (E σ)) : wpAny (model X.prog X.w) X.A (call (.ref f) us) (EP X pins σ Q) X.xe s := by
  have hsz : (us ++ ([] : List Value)).length = ps.length := by rw [List.append_nil, ← rv.length]; exact F.len _ _ _ _ h
  have b := hb s us J.kIn hsz
  rw [List.append_nil] at b
  refine wpAny_call (codeAny_mono (F.run X.A X.stack s H ⟨us, []⟩ us vs Q (E σ) hgd hr J.env0 b rv h) fun res s' hq => ?_)
  match res, hq with
  | .error er, hq => exact hx pins H s er s' J hq
  | .ok (.ret u), hq => exact J.after hq
  | .ok .next, hq => exact hq.elim
  | .ok .brk, hq => exact hq.elim
  | .ok .cont, hq => exact hq.elim
theorem pe_gnS (F : FnG X.prog X.w X.K X.mg X.base CX k f fd ps sp) (hgd : X.A.guards = some []) (hr : Room k X.A) (hg : Gl X x) (hm : X.mg x = some (.ref f)) (hk : PySem.W.keepIn X.K (.ref f) = true) (hb : Binds X.K fd ps []) (hx : ∀ σ, PassesAt CX X σ (E σ))
    (ha : PA X (e :: es) t) (hdb : (x == ("__debug__" : Str)) = false := by decide) (he : starEach (e :: es) X.env = (false, eval e X.env) :: starEach es X.env := by rfl) (hpl : (backTo pos (starEach es X.env)).any (·.1) = false := by rfl) :
    PE X (.Call (.Name x p) (e :: es) [] pos) (tCallS sp E t) := by
  constructor
  intro pins s σ H Q J h
  apply wpAny_Call_Name_kw
  apply ld_glob J hg hm _ hdb
  exact PySem.W.callWith_K (h₀ := X.base) J.ok.mod.kin hk (thn (ha.run pos pins s σ H _ J h) fun us s1 ⟨vs, H1, J1, rv, q⟩ => ⟨J1.kIn, run_gnS F hgd hr hb (hx σ) J1 rv q⟩) he hpl
end
section
variable {A : Amb} {w0 : Ad} {g0 : List (D × V)} {Lk : A.S → Hp → Prop} {mg : Str → Option Value} {Wx : WX} {Xi : XiT A} {m sh : Bool} {np : Nat} {g : PgX A} {ta : TA} {fa : FA A}
theorem sd_callX (wi : Wish mg (A.wish w0 g0 Lk) Wx Xi) (h : SdL (A.wish w0 g0 Lk) true false np ta fa) : SdE (A.wish w0 g0 Lk) m sh (tCallS (spOfX mg A np g) (WE Wx) ta) (fCallX Xi g fa) := fun W s0 H0 s σ H ρ Φ Q R hp q =>
  h W s0 H0 s σ H ρ _ _ R hp fun ds s1 vs H1 hg R1 st1 r1 hl => by
    have wc : ∀ a, (W.w a ∨ ownS σ ρ a) → H1 a ≠ none := fun a z => by
      rcases z with z | ⟨i, mo, e1, e2⟩
      · exact R1.wd a z
      · obtain ⟨b, k1, k2, _⟩ := R1.own i mo e1
        rw [k1] at e2
        cases e2
        exact k2.some
    have r1' : RsL (fun a => (W.w a ∨ ownS σ ρ a) ∨ A.B s1 a) H1 ds vs := by
      refine r1.rs.weak fun a z => ?_
      rcases z with (z | z) | z
      · exact .inl z
      · exact .inr (.inr ⟨rfl, z⟩)
      · exact .inr (.inl z)
    refine ⟨fun a => W.w a ∨ ownS σ ρ a, s1, ds, _, _, wc, reg_in1 R1.amb, r1', hl, hg.go, fun r s2 v H2 hr i2 st2 _ rk => ?_, fun x s2 cls d H2 hx i2 st2 _ hxd => ?_⟩
    · have R2 := ER.go (A := A.wish w0 g0 Lk) R1 (s' := s2) (H' := H2) st2.on (reg_out1 (A := A.wish w0 g0 Lk) i2)
      have ow : ∀ a, om m (A.wish w0 g0 Lk) W s2 σ ρ a → (W.w a ∨ ownS σ ρ a) ∨ A.B s2 a := fun a z => by
        rcases z with z | z | z
        · exact .inl (.inl z)
        · exact .inr z
        · exact .inl (.inr z.2)
      cases r with
      | d d => exact q d s2 v H2 hr R2 (st1.trans st2.on) (.inl (Rs.weak rk ow))
      | o mo =>
        obtain ⟨p, rfl, k1, k2, k3, k4, _⟩ := rk
        have np : ¬ om m (A.wish w0 g0 Lk) W s2 σ ρ p := fun z => (ow p z).elim k2 k3
        have ow2 : ∀ a, om m (A.wish w0 g0 Lk) W s2 σ ρ a → ((W.w a ∨ ownS σ ρ a) ∨ a = p) ∨ A.B s2 a := fun a z => (ow a z).imp .inl id
        cases mo with
        | lst l => obtain ⟨xs, g1, g2⟩ := k4; exact q _ s2 _ H2 hr R2 (st1.trans st2.on) (.inl (.lst g1 np (g2.weak ow2)))
        | dk ks vs => obtain ⟨kvs, g1, g3, g2⟩ := k4; exact q _ s2 _ H2 hr R2 (st1.trans st2.on) (.inl (.dct g1 np g3 (g2.weak ow2)))
        | dt ks vs => obtain ⟨kvs, g1, g3, g2⟩ := k4; exact q _ s2 _ H2 hr R2 (st1.trans st2.on) (.inl (.dtt g1 np g3 (g2.weak ow2)))
    · have R2 := ER.go (A := A.wish w0 g0 Lk) R1 (s' := s2) (H' := H2) st2.on (reg_out1 (A := A.wish w0 g0 Lk) i2)
      exact wi W s0 H0 s2 σ H2 ρ x cls d R2 (hxd.weak fun a z => by
        rcases z with z | z | z
        · exact .inl (.inl z)
        · exact .inr z
        · exact .inl (.inr z.2)) hx
end
section
variable {X : Cx} {A : Amb} {w0 : Ad} {g0 : List (D × V)} {Lk : A.S → Hp → Prop} {Wx : WX} {Xi : XiT A} {m sh : Bool} {np : Nat} {g : PgX A} {ta : TA} {fa : FA A} {k : Nat} {x : Str} {p pos : Pos} {e : Expr} {es : List Expr}
theorem q_callX {mg : Str → Option Value} (tk : L2N.Takes X Wx) (wi : Wish mg (A.wish w0 g0 Lk) Wx Xi) (C : CalX X.prog X.w X.K mg X.base A k x np g) (hgd : X.A.guards = some []) (hr : Room k X.A) (ha : QL X (A.wish w0 g0 Lk) true false np (e :: es) ta fa) (hg : Gl X x := by rfl) (hdb : (x == ("__debug__" : Str)) = false := by decide) (he : starEach (e :: es) X.env = (false, eval e X.env) :: starEach es X.env := by rfl) (hpl : (backTo pos (starEach es X.env)).any (·.1) = false := by rfl) (hmg : X.mg = mg := by rfl) :
    QE X (A.wish w0 g0 Lk) m sh (.Call (.Name x p) (e :: es) [] pos) (tCallS (spOfX mg A np g) (WE Wx) ta) (fCallX Xi g fa) := by
  subst hmg
  obtain ⟨f, fd, ps, F, hm, hk, bi⟩ := C.ex
  exact ⟨pe_gnS F hgd hr hg hm hk bi (fun σ => L2N.passAt tk σ) ha.pa hdb he hpl, sd_callX wi ha.sd⟩
end
/-! ### raise C() -/
/-- what must hold of an own class over ValueError without own __init__ -/
structure ExN (K : Fg) (mg : Str → Option Value) (x : Str) : Prop where
  ex : ∃ C, mg x = some (.ref C) ∧ PySem.W.excIn K C [.type "ValueError", .type "Exception", .type "BaseException", .type "object"] "ValueError.__new__" = true ∧ PySem.W.keepIn K (.ref C) = true ∧
    PySem.W.subIn K (.ref C) (.type "BaseException") = some true ∧ PySem.W.typeIn K (.ref C) = some (.type "type")
theorem pmk_own0 {X : Cx} {C : Addr} {bmB : List Value} {B newId initId : String} {x : Str} {p pos : Pos} (F : ExcBaseFacts B newId initId bmB) (q : PySem.W.excIn X.K C bmB newId = true) (gC : X.mg x = some (.ref C))
    (kC : PySem.W.keepIn X.K (.ref C) = true) (r : Raises X (.ref C)) (hg : Gl X x) (hdb : (x == ("__debug__" : Str)) = false := by decide) :
    L2N.PMk X (.Call (.Name x p) [] [] pos) (fun _ H Q => Q (.ref C) none H) := by
  intro pins s σ H Q I h
  refine wpAny_Call_Name_kw (ld_glob I hg gC ?_ hdb)
  refine PySem.W.callWith_K0 I.kIn kC ?_
  show wpAny _ _ (call (.ref C) []) _ _ _
  obtain ⟨bm, N, nm, qn, bs, hdct, sn, sub, ab, col, dd, k0, k1, k2, k3, k5, mN, hC, hN, hni, T⟩ := exc_obj I.kIn q
  refine wpAny_call_exc_subT F T hC hN hni (fun h' e hm => ?_) (by decide)
  exact L2N.mk_of I hm r h (I.hok.gone hm.new)
def fRaise0 {S : Type} (Xi : XiT S) (x : Str) : FS S := fun _ ρ s => Xi ⟨x, none⟩ ρ s
theorem z_raise0 {X : Cx} {A : Amb} {Wx : WX} {Xi : XiT A} {x : Str} {p pos pos2 : Pos} (hc : X.calm = true) (tk : L2N.Takes X Wx) (wi : Wish X.mg A Wx Xi) (E : ExN X.K X.mg x) (hg : Gl X x := by rfl) (hdb : (x == ("__debug__" : Str)) = false := by decide) :
    QS X A (.Raise (some (.Call (.Name x p) [] [] pos)) none pos2) (fun _ σ H => ∀ C, X.mg x = some (.ref C) → Wx (.ref C) none σ H) (fRaise0 Xi x) := by
  obtain ⟨C, gC, e1, e2, e3, e4⟩ := E.ex
  refine ⟨?_, fun W s0 H0 s σ H ρ P D R hp _ _ _ _ C' hC' => wi W s0 H0 s σ H ρ ⟨x, none⟩ (.ref C') none R ⟨hC', rfl⟩ hp⟩
  have z := L2N.ps_raise (X := X) (pos := pos2) hc tk (pmk_own0 (p := p) (pos := pos) F.excBase_ValueError e1 gC e2 (raises_own e3 e4) hg hdb)
  exact ⟨fun pins s σ H D I h => z.run pins s σ H D I (h C gC)⟩
/-! ### try: .. except C: .. -/
theorem ER.less {A : Amb} {w0 : Ad} {g0 : List (D × V)} {Lk : A.S → Hp → Prop} {W W2 : Ot} {s0 s : A.S} {H0 H : Hp} {σ : Sg} {ρ : List Sl} (R : ER (A.wish w0 g0 Lk) W2 s0 H0 s σ H ρ) (hw : ∀ a, W.w a → W2.w a) (hg : ∀ p ∈ W.g, p ∈ W2.g)
    (k0 : ∀ a, A.w0 a → W.w a) (kg : ∀ p ∈ A.g0, p ∈ W.g) (lk : A.Lk s0 H0) : ER A W s0 H0 s σ H ρ := by
  have wk : ∀ a, om true A W s σ ρ a → om true (A.wish w0 g0 Lk) W2 s σ ρ a := fun a z => by
    rcases z with z | z | z
    · exact .inl (hw a z)
    · exact .inr (.inl z)
    · exact .inr (.inr z)
  exact {
    amb := Amb.sub R.amb wk
    stp := R.stp.off
    wd := fun a z => R.wd a (hw a z)
    len := R.len
    vals := fun i d e => let ⟨v, h1, h2⟩ := R.vals i d e; ⟨v, h1, h2.weak wk⟩
    own := fun i m e => let ⟨a, h1, h2, h3, h4, h5⟩ := R.own i m e; ⟨a, h1, h2.go (fun a z => .inl (wk a z)) Agr.refl rfl, h3, fun z => h4 (hw a z), h5⟩
    gh := fun p hp => (R.gh p (hg p hp)).weak wk
    uniq := R.uniq
    w0 := k0
    g0 := kg
    lk := lk }
theorem ER.more {A : Amb} {w0 : Ad} {g0 : List (D × V)} {Lk : A.S → Hp → Prop} {W : Ot} {s0 s : A.S} {H0 H : Hp} {σ : Sg} {ρ : List Sl} (R : ER A W s0 H0 s σ H ρ)
    (k0 : ∀ a, w0 a → W.w a) (kg : ∀ p ∈ g0, p ∈ W.g) (lk : Lk s0 H0) : ER (A.wish w0 g0 Lk) W s0 H0 s σ H ρ := by
  have wk : ∀ a, om true (A.wish w0 g0 Lk) W s σ ρ a → om true A W s σ ρ a := fun a z => z
  exact {
    amb := Amb.sub R.amb wk
    stp := R.stp.on
    wd := R.wd
    len := R.len
    vals := fun i d e => let ⟨v, h1, h2⟩ := R.vals i d e; ⟨v, h1, h2.weak wk⟩
    own := fun i m e => let ⟨a, h1, h2, h3, h4, h5⟩ := R.own i m e; ⟨a, h1, h2.go (fun a z => .inl (wk a z)) Agr.refl rfl, h3, h4, h5⟩
    gh := fun p hp => (R.gh p hp).weak wk
    uniq := R.uniq
    w0 := k0
    g0 := kg
    lk := lk }
theorem takesN0 {X : Cx} : L2N.Takes X (fun _ _ _ _ => False) := fun _ _ x => by
  obtain ⟨_, _, _, _, _, _, _, _, _, _, _, _, _, _, _, _, z⟩ := x
  exact z.elim
/-! the clauses of a try -/
inductive HdT where
  | nil
  | rest
  | one (c : Value) (ts : Addr → Value → Option Addr → TS) (r : HdT)
  | nam (c : Value) (i : Nat) (ts : Addr → Value → Option Addr → TS) (r : HdT)
abbrev endN (D : Ends) (i : Nat) : Ends := { nx := fun σ' H' => D.nx (σ'.set i none) H', rt := D.rt, bk := fun σ' H' => D.bk (σ'.set i none) H', ct := fun σ' H' => D.ct (σ'.set i none) H' }
def wG (K : Fg) (Wout : WX) (D : Ends) : HdT → WX
  | .nil => Wout
  | .rest => fun _ _ _ _ => False
  | .one c ts r => fun cls d σ H => ∃ b, PySem.W.exmOne K cls c = some b ∧ (b = true → ∀ a, H a = none → ts a cls d D σ H) ∧ (b = false → wG K Wout D r cls d σ H)
  | .nam c i ts r => fun cls d σ H => ∃ b, PySem.W.exmOne K cls c = some b ∧ (b = true → ∀ a, H a = none → ts a cls d (endN D i) (σ.set i (some (.ref a))) H) ∧ (b = false → wG K Wout D r cls d σ H)
/-- a suite under way: its context -/
abbrev SuOk (X : Cx) (b₀ : Stmt) (suite : List Stmt) (ts : Addr → Value → Option Addr → TS) : Prop := ∀ (a : Addr) (oe : Obj) (cls : Value) (d : Option Addr) (pn : List (Addr × Obj)), L2N.Zn cls d oe → (∃ vs, oe.data = .fields vs) → PSs (X.suite a ((a, oe) :: pn)) (b₀ :: suite) (ts a cls d)
inductive HdG (X : Cx) : List ExceptHandler → HdT → Prop
  | nil : HdG X [] .nil
  | rest (hds : List ExceptHandler) : HdG X hds .rest
  | one {x : Str} {c : Value} {ts : Addr → Value → Option Addr → TS} {b₀ : Stmt} {suite : List Stmt} {np pos' : Pos} {hds : List ExceptHandler} {l : HdT} (hc : Names X x c) (hsu : SuOk X b₀ suite ts) (r : HdG X hds l) :
      HdG X (.ExceptHandler (some (.Name x np)) none (b₀ :: suite) pos' :: hds) (.one c ts l)
  | nam {x n : Str} {i : Nat} {c : Value} {ts : Addr → Value → Option Addr → TS} {b₀ : Stmt} {suite : List Stmt} {np pos' : Pos} {hds : List ExceptHandler} {l : HdT} (hc : Names X x c) (hi : X.N[i]? = some n) (hln : X.env.kindOf n = some .local) (hsu : SuOk X b₀ suite ts) (r : HdG X hds l) :
      HdG X (.ExceptHandler (some (.Name x np)) (some n) (b₀ :: suite) pos' :: hds) (.nam c i ts l)
section
variable {X : Cx} {body : List Stmt} {h₀ : ExceptHandler} {hds : List ExceptHandler} {l : HdT} {pos : Pos} {tb : WX → TS} {Wout : WX}
/-- try: .. with any number of clauses, each with a name or without one -/
theorem ps_tryG (hs : X.stack = X.env :: X.outer) (hf : X.env.frame = some X.env.locals) (hN : X.N.Nodup) (tk : L2N.Takes X Wout)
    (hb : ∀ (W : WX) (pn : List (Addr × Obj)) (xe : Value → Shared → Prop), L2N.Takes (X.tr pn xe) W → PassesOwn (model X.prog X.w) X.A X.env xe → PSs (X.tr pn xe) body (tb W))
    (hh : HdG X (h₀ :: hds) l) : PS X (.Try body (h₀ :: hds) [] [] pos) (fun D σ H => tb (wG X.K Wout D l) D σ H) := by
  constructor
  intro pins s σ H D J h
  have ok := J.ok
  have hfr : X.A.frames = some (X.env :: X.outer) := ok.frames.trans (by rw [hs])
  apply wpAny_Try_except
  refine wpAny_mono ((hb (wG X.K Wout D l) (X.pn ++ pins) (fun e t1 => wpAny (model X.prog X.w) X.A (noteFrame e X.env) (fun _ t2 => wpAny (model X.prog X.w) X.A (setFlight e none) (fun _ t3 =>
    wpAny (model X.prog X.w) X.A (handleBy e X.env (h₀ :: hds)) (SP X pins D) X.xe t3) X.xe t2) X.xe t1) (fun u s' xx => ?_) PassesOwn.looking).run [] s σ H D (J.toTry _) h) (fun f t1 hsp => ?_) (fun _ _ z => z)
  · obtain ⟨a, B, sI, pins', σ', H', cls, d, rfl, J0, nb, up, sky, na, os, ag, w⟩ := xx
    have J1 : Inv X pins σ' H' sI := J0.ofTry ok
    rw [hs] at sky
    show wpAny (model X.prog X.w) X.A (noteFrame (.ref a) X.env) _ _ _
    refine L2N.Sky.land L2N.Zn.steady hfr hf sky fun h3 fl up3 => ?_
    have J3 : Inv X pins σ' H' { s' with heap := h3 } := J1.landed nb fl.1 (up.trans up3) os ag
    obtain ⟨o3, v3, g3, z3, d3⟩ := fl.there
    have off : a ∉ frs (X.env :: X.outer) := fun hm => by
      obtain ⟨_, o', e', hnf⟩ := fl.2.2.1.mem hm
      rw [g3] at e'
      cases e'
      exact hnf _ d3
    have nL : a ≠ X.env.locals := fun z => off (List.mem_filterMap.mpr ⟨X.env, List.mem_cons_self, by rw [hf, z]⟩)
    have nF : a ∉ X.fs := fun hm => by
      obtain ⟨e, he, q⟩ := List.mem_filterMap.mp hm
      exact off (List.mem_filterMap.mpr ⟨e, List.mem_cons_of_mem _ he, q⟩)
    have S3 := J3.suite g3 d3 na nL nF
    have LT : PySem.W.Looks (model X.prog X.w) h3 (typeOf (.ref a)) cls := fun A Q E s k q => wpAny_typeOf_ref (k _ _ g3) (by rw [z3.1]; exact q)
    have test : ∀ {x : Str} {c : Value} {np : Pos} {Q : Value → Shared → Prop} {E : Value → Shared → Prop}, Names X x c → Q c { s' with heap := h3 } → wpAny (model X.prog X.w) (X.A.mark (some (.ref a))) (eval (.Name x np) X.env) Q E { s' with heap := h3 } := fun {x c np Q E} hc q => by
      obtain ⟨hg, hdbg, hm | ⟨hm, hv, hnn⟩⟩ := hc
      · exact ld_glob (X := X.suite a ((a, o3) :: (X.pn ++ pins))) S3 hg hm q hdbg
      · exact ld_blt (X := X.suite a ((a, o3) :: (X.pn ++ pins))) S3 hg hm hv q hnn hdbg
    have walk : ∀ {hds' : List ExceptHandler} {l' : HdT}, HdG X hds' l' → wG X.K Wout D l' cls d σ' H' → wpAny (model X.prog X.w) X.A (handleBy (.ref a) X.env hds') (SP X pins D) X.xe { s' with heap := h3 } := by
      intro hds' l' hk
      induction hk with
      | nil =>
        intro w
        apply wpAny_handleBy_nil
        obtain ⟨_, _, _, oe, vs, T, oT, ts', he, hz, hd, h1, hr⟩ := id fl
        unfold PySem.passOn
        refine wpAny_bind (wpAny_field he hd h1 ?_)
        rw [if_neg (show ¬ ((Value.ref T == Value.none) = true) from by simp)]
        have go : wpAny (model X.prog X.w) X.A (setFlight (.ref a) X.env.frame) (fun _ t4 => wpAny (model X.prog X.w) X.A (throw (.ref a) : Sem Flow) (SP X pins D) X.xe t4) X.xe { s' with heap := h3 } := by
          rw [hf]
          exact HandSPX.setFlight_upZ fl fun h4 hh4 up4 => wpAny_throw (tk _ _ ⟨a, B, sI, pins, σ', H', cls, d, rfl, J1, nb, (up.trans up3).trans up4, .inr (.inr (by rw [hs]; exact hh4)), na, os, ag, w⟩)
        first
          | exact wpAny_bind (wpAny_pure (wpAny_bind go))
          | exact wpAny_bind go
      | rest hds => intro w; exact w.elim
      | @one x c ts b₀ suite np pos' hds2 l2 hc hsu r ih =>
        intro w
        obtain ⟨b, hb1, hyes, hno⟩ := w
        refine wpAny_handleBy_cons (codeAny_handlers_test ?_) (by intro q; cases q)
        refine test hc ((PySem.W.exm_one (M := model X.prog X.w) J3.kIn LT hb1).here ?_)
        cases b with
        | true =>
          refine codeAny_handlers_suite (HandSPX.lands_againZ fl fun h4 fl4 up4 => ?_)
          have J4 : Inv X pins σ' H' { s' with heap := h4 } := J1.landed nb fl4.1 ((up.trans up3).trans up4) os ag
          obtain ⟨o4, v4, g4, z4, d4⟩ := fl4.there
          refine wpAny_mono ((hsu a o4 cls d (X.pn ++ pins) z4 ⟨_, d4⟩).run [] _ _ H' _ (J4.suite g4 d4 na nL nF) (hyes rfl a na)) (fun f t6 hsp => ?_) (fun _ _ z => False.elim z)
          cases f with
          | ret u =>
            obtain ⟨v6, σ6, H6, S6, r6, q6⟩ := hsp
            exact ⟨_, _, _, S6.unsuite ok, r6, q6⟩
          | _ =>
            obtain ⟨σ6, H6, S6, q6⟩ := hsp
            exact ⟨_, _, S6.unsuite ok, q6⟩
        | false => exact ih (hno rfl)
      | @nam x n i c ts b₀ suite np pos' hds2 l2 hc hi hln hsu r ih =>
        intro w
        obtain ⟨b, hb1, hyes, hno⟩ := w
        refine wpAny_handleBy_cons (codeAny_handlers_test ?_) (by intro q; cases q)
        refine test hc ((PySem.W.exm_one (M := model X.prog X.w) J3.kIn LT hb1).here ?_)
        cases b with
        | true =>
          refine codeAny_handlers_suite_as (HandSPX.lands_againZ fl fun h4 fl4 up4 => ?_)
          have J4 : Inv X pins σ' H' { s' with heap := h4 } := J1.landed nb fl4.1 ((up.trans up3).trans up4) os ag
          obtain ⟨o4, v4, g4, z4, d4⟩ := fl4.there
          refine store_ok (X := X.suite a ((a, o4) :: (X.pn ++ pins))) (v := .ref a) (J4.suite g4 d4 na nL nF) hN hi (.inl hln) rfl (fun t5 S5 => ?_) (.inr hln)
          refine wpAny_mono ((hsu a o4 cls d (X.pn ++ pins) z4 ⟨_, d4⟩).run [] t5 _ H' _ S5 (hyes rfl a na)) (fun f t6 hsp => ?_) (fun _ _ z => False.elim z)
          have off6 : ∀ {σ6 : Sg} {H6 : Hp} {Q : Shared → Prop}, Inv (X.suite a ((a, o4) :: (X.pn ++ pins))) [] σ6 H6 t6 → (∀ t7, Inv X pins (σ6.set i none) H6 t7 → Q t7) →
              wpAny (model X.prog X.w) X.A (do bindName X.env n .none; unbindBehindTheSuite X.env n pos') (fun _ t7 => Q t7) X.xe t6 := fun {σ6 H6 Q} S6 hq => gone_ok (S6.unsuite ok) hN hi hln hq
          cases f with
          | ret u =>
            obtain ⟨v6, σ6, H6, S6, r6, q6⟩ := hsp
            exact off6 S6 fun t7 J7 => ⟨_, _, _, J7, r6, q6⟩
          | _ =>
            obtain ⟨σ6, H6, S6, q6⟩ := hsp
            exact off6 S6 fun t7 J7 => ⟨_, _, J7, q6⟩
        | false => exact ih (hno rfl)
    exact walk hh w
  · cases f with
    | next =>
      obtain ⟨σ', H', J', q⟩ := hsp
      exact wpAny_execs_nil ⟨σ', H', J'.ofTry ok, q⟩
    | ret u =>
      obtain ⟨v, σ', H', J', r, q⟩ := hsp
      exact ⟨v, σ', H', J'.ofTry ok, r, q⟩
    | _ =>
      obtain ⟨σ', H', J', q⟩ := hsp
      exact ⟨σ', H', J'.ofTry ok, q⟩
end
end Pd

set_option maxHeartbeats 4000000
/-! dict comprehensions, d.update(d2), d == {}, list(d), len(d) -/
namespace Pd
open PySem PySem.Spec PyProof.Rows L2
structure DcP {S : Type} (l : List D) (g : FG) (tt : FT S) (fk fv : FE S) (ρ : List Sl) (s : S) (Φ : Mo → S → Prop) : Prop where
  len : l.length ≤ 16777215
  ex : ∃ Iv : Nat → Mo → S → Prop, Iv 0 (.dk [] []) s ∧ ∀ i ks vs s, Iv i (.dk ks vs) s → match l[i]? with
    | none => Φ (.dk ks vs) s
    | some d => g d ρ fun ρ' => tt ρ' s fun b s2 => Br b (fk ρ' s2 fun k s3 => keyD k fun key => fv ρ' s3 fun y s4 => Iv (i + 1) (putMo ks vs key y) s4) (Iv (i + 1) (.dk ks vs) s2)
def fDcm {S : Type} (fi : FI S) (vs : List Nat) (g : FG) (tt : FT S) (fk fv : FE S) : FO S := fun ρ s Φ => vs.all (notOwn ρ) = true ∧ fi ρ s fun l s1 => DcP l g tt fk fv (wipeR ρ vs) s1 Φ
theorem putMo_dk (ks : List L2.Key) (vs : List D) (key : L2.Key) (d : D) : ∃ ks' vs', putMo ks vs key d = .dk ks' vs' ∧ ks'.length ≤ ks.length + 1 := by
  unfold putMo
  split
  · exact ⟨_, _, rfl, Nat.le_succ _⟩
  · exact ⟨_, _, rfl, by rw [List.length_append, List.length_singleton]; exact Nat.le_refl _⟩
section
variable {A : Amb} {wi : TI} {fi : FI A} {vs ws : List Nat} {tg : TG} {g : FG} {tt : TT} {ft : FT A} {tk tv : TE} {fk fv : FE A}
theorem so_dc (hi : SdI A wi fi) (hg : SdG A ws tg g) (hw : ∀ i ∈ ws, i ∈ vs) (ht : SdT A tt ft) (hk : SdE A false true tk fk) (he : SdE A true false tv fv) : SdO A (tDc wi tg tt tk tv vs) (fDcm fi vs g ft fk fv) := fun W s0 H0 s σ H ρ Φ Q R hp q => by
  obtain ⟨ho, hp⟩ := hp
  refine hi W s0 H0 s σ H ρ _ _ R hp fun l s1 J H1 ⟨hlen, ⟨Iv, i0, step⟩⟩ R1 st1 ⟨γ, hγ, ok⟩ => ?_
  intro D hD
  have hD0 : H D = none := by
    cases e : H D with
    | none => rfl
    | some o => exact (st1.dom D (by rw [e]; simp) hD).elim
  have hD00 := R.fresh0 hD0
  have bD1 : ¬ A.B s1 D := fun z => A.dom R1.amb z hD
  have wD1 : ¬ W.w D := fun z => R1.wd D z hD
  refine ⟨fun i m H2 => i + m = l.length + 1 ∧ ∃ ks acc kvs s2, Iv i (.dk ks acc) s2 ∧ ks.length ≤ i ∧ ER A ((W.keep γ).add D) s0 H0 s2 σ H2 ρ ∧ Stp A s s2 H H2 ∧ H2 D = some (.dK kvs) ∧ kvs.map (·.1) = ks ∧ RsL (om true A ((W.keep γ).add D) s2 σ ρ) H2 acc (kvs.map (·.2)) ∧ ¬ A.B s2 D,
    ⟨l.length + 1, by omega, [], [], [], s1, i0, Nat.zero_le _, (R1.keep hγ).wide hD _, st1.trans (Stp.fresh hD), upd_same, rfl, .nil, bD1⟩, fun i m H2 h => ?_⟩
  obtain ⟨hm, ks, acc, kvs, s2, hI, ha, R2, st2, eD, ek, rA, bD⟩ := h
  have gh : ∀ p ∈ γ, Rs (om true A ((W.keep γ).add D) s2 σ ρ) H2 p.1 p.2 := fun p hp => R2.gh p (List.mem_append_right _ hp)
  obtain ⟨o1, o2⟩ := ok _ H2 i gh
  have st := step i ks acc s2 hI
  cases e : l[i]? with
  | none =>
    rw [e] at st
    exact .inl ⟨o1 e, q _ s2 D H2 st (ER.lose (W := W.add D) (γ := γ) R2 R.g0) st2 hD0 ⟨kvs, eD, ek, rA⟩ wD1 bD⟩
  | some d =>
    rw [e] at st
    obtain ⟨go, yl⟩ := o2 d e
    have hl : i < l.length := (List.getElem?_eq_some_iff.mp e).1
    refine .inr ⟨go, fun H3 => ∃ ks acc kvs s2, Iv (i + 1) (.dk ks acc) s2 ∧ ks.length ≤ i + 1 ∧ ER A ((W.keep γ).add D) s0 H0 s2 σ H3 ρ ∧ Stp A s s2 H H3 ∧ H3 D = some (.dK kvs) ∧ kvs.map (·.1) = ks ∧ RsL (om true A ((W.keep γ).add D) s2 σ ρ) H3 acc (kvs.map (·.2)) ∧ ¬ A.B s2 D, fun H' h => ⟨m - 1, by omega, by omega, h⟩, fun x H3 y => ?_⟩
    have key : ∃ (R3 : ER A ((W.keep γ).add D) s0 H0 s2 σ H3 ρ) (st : Stp A s2 s2 H2 H3), Rs (om true A ((W.keep γ).add D) s2 σ ρ) H3 d x := by
      rcases yl x H3 y with ⟨rfl, r⟩ | ⟨T, xs, ds, rfl, hT, rfl, rfl, r⟩
      · exact ⟨R2, Stp.refl, r⟩
      · exact ⟨R2.alloc hT _, Stp.fresh hT, .tup upd_same (R2.fresh hT) (r.stp (Stp.fresh hT))⟩
    obtain ⟨R3, st3, r3⟩ := key
    have wk : ∀ a, om true A ((W.keep γ).add D) s2 (L2.wipe σ vs) (wipeR ρ vs) a → om true A ((W.keep γ).add D) s2 σ ρ a := fun a z => by
      rcases z with z | z | ⟨_, j, mj, e1, e2⟩
      · exact .inl z
      · exact .inr (.inl z)
      · have nj : j ∉ vs := fun h => by
          rw [wipe_in h] at e2
          split at e2 <;> cases e2
        rw [wipeR_out nj] at e1
        rw [wipe_out nj] at e2
        exact .inr (.inr ⟨rfl, j, mj, e1, e2⟩)
    refine hg _ s0 H0 s2 _ H3 _ d x _ _ (R3.wipe vs) (r3.weak wk) st fun ρ' σ' hb R4 p1 p2 _ => ?_
    have p1' := p1.mono hw
    have p2' := p2.mono hw
    refine ⟨wipe_back p1', ht _ s0 H0 s2 σ' H3 ρ' _ _ R4 hb fun b s4 H4 hb4 R5 st5 => ?_⟩
    have R3' := R3.go st5 (Amb.sub R5.amb (om_blk ho p1' p2'))
    have eD4 : H4 D = some (.dK kvs) ∧ ¬ A.B s4 D := by
      obtain ⟨k1, k2⟩ := keep_at (st3.trans st5) (by rw [eD]; simp) bD
      exact ⟨k1.trans eD, k2⟩
    have rA4 := rA.stp (st3.trans st5)
    have hb4 := Br.ite hb4
    cases b with
    | false =>
      rw [if_neg (by decide)] at hb4 ⊢
      exact ⟨ks, acc, kvs, s4, hb4, Nat.le_succ_of_le ha, R3', (st2.trans st3).trans st5, eD4.1, ek, rA4, eD4.2⟩
    | true =>
      rw [if_pos rfl] at hb4 ⊢
      refine hk _ s0 H0 s4 σ' H4 ρ' _ _ R5 hb4 fun kd s5 vk H5 h5 R6 st6 r6 => ?_
      obtain ⟨key, rfl, h5⟩ := key_rv r6 h5
      refine he _ s0 H0 s5 σ' H5 ρ' _ _ R6 h5 fun y s6 v H6 h6 R7 st7 r7 => ?_
      obtain ⟨k1, k2⟩ := keep_at (st6.trans st7) (by rw [eD4.1]; simp) eD4.2
      have rA6 := rA4.stp (st6.trans st7)
      have ry := r7.rs.weak (om_blk ho p1' p2')
      have lk : kvs.length = ks.length := by rw [← ek, List.length_map]
      have agr : ∀ {l : List Pd.D} {xs : List V}, RsL (om true A ((W.keep γ).add D) s6 σ ρ) H6 l xs → RsL (om true A ((W.keep γ).add D) s6 σ ρ) (upd H6 D (.dK (putK kvs key v))) l xs := fun r => r.go (fun b z => .inl z) fun b o eb nb => by
        rw [upd_ne fun z => nb (.inl (.inr z))]
        exact eb
      have rd : Rs (om true A ((W.keep γ).add D) s6 σ ρ) (upd H6 D (.dK (putK kvs key v))) y v := by
        have := agr (RsL.one ry)
        cases this with
        | cons x _ => exact x
      have mo := put_at (a := D) rd (agr rA6) upd_same
      obtain ⟨ks', vs', em, el⟩ := putMo_dk ks acc key y
      rw [ek, em] at mo
      rw [em] at h6
      obtain ⟨kvs', f1, f2, f3⟩ := mo
      have ekv : putK kvs key v = kvs' := by
        rw [upd_same] at f1
        cases f1
        rfl
      subst ekv
      refine ⟨kvs, key, rfl, k1.trans eD4.1, by rw [line_eq, lk]; omega, ks', vs', _, s6, h6, by omega, (R3'.go (st6.trans st7) (Amb.sub R7.amb (om_blk ho p1' p2'))).oth hD00 k2 _, ?_, upd_same, f2, f3, k2⟩
      have s7 := (((st2.trans st3).trans st5).trans st6).trans st7
      exact ⟨fun a u ea na => by rw [upd_ne (ne_of_none ea hD0)]; exact s7.agr a u ea na, s7.new, fun a z => by
        by_cases qa : a = D
        · subst qa; rw [upd_same]; simp
        · rw [upd_ne qa]; exact s7.dom a z⟩
end
section
variable {X : Cx} {A : Amb} {kx vx tg it : Expr} {ifs : List Expr} {scope : Scope} {wi : TI} {fi : FI A} {ws : List Nat} {hh : FG} {ft : FT A} {fk fv : FE A} {pos : Pos}
theorem qo_dc {gg : Blk5 TG} {tt : Blk5 TT} {tk tv : Blk5 TE} (own : List (Str × Nat)) (hc : X.calm = true) (hN : X.N.Nodup) (hi : QI X A tg it wi fi) (ok : BlkOk X.N X.env.scope scope own)
    (hg : ∀ (s : Shared) (H : Hp) (C : Addr) (cl : List (Str × Addr)) (fp : List Addr), QG (X.blk s H scope (compEnvC scope cl C X.env) fp) A ws tg (gg s H C cl fp) hh) (ht : ∀ (s : Shared) (H : Hp) (C : Addr) (cl : List (Str × Addr)) (fp : List Addr), QTs (X.blk s H scope (compEnvC scope cl C X.env) fp) A ifs (tt s H C cl fp) ft)
    (hk : ∀ (s : Shared) (H : Hp) (C : Addr) (cl : List (Str × Addr)) (fp : List Addr), QE (X.blk s H scope (compEnvC scope cl C X.env) fp) A false true kx (tk s H C cl fp) fk)
    (he : ∀ (s : Shared) (H : Hp) (C : Addr) (cl : List (Str × Addr)) (fp : List Addr), QE (X.blk s H scope (compEnvC scope cl C X.env) fp) A true false vx (tv s H C cl fp) fv) (hw : ∀ i ∈ ws, i ∈ own.map (·.2) := by decide) (hs : ∀ x, foldedSetIterable it X.env x = pure x := by intro _; rfl)
    (eg : ∀ s H C cl fp, gg s H C cl fp = at5 gg := by intros; rfl) (et : ∀ s H C cl fp, tt s H C cl fp = at5 tt := by intros; rfl) (ek : ∀ s H C cl fp, tk s H C cl fp = at5 tk := by intros; rfl) (ee : ∀ s H C cl fp, tv s H C cl fp = at5 tv := by intros; rfl) :
    QO X A (.DictComp kx vx [⟨tg, it, ifs, 0⟩] scope pos) (tDc wi (at5 gg) (at5 tt) (at5 tk) (at5 tv) (own.map (·.2))) (fDcm fi (own.map (·.2)) hh ft fk fv) := by
  have hg' : ∀ s H C cl fp, QG (X.blk s H scope (compEnvC scope cl C X.env) fp) A ws tg (at5 gg) hh := fun s H C cl fp => eg s H C cl fp ▸ hg s H C cl fp
  have ht' : ∀ s H C cl fp, QTs (X.blk s H scope (compEnvC scope cl C X.env) fp) A ifs (at5 tt) ft := fun s H C cl fp => et s H C cl fp ▸ ht s H C cl fp
  have hk' : ∀ s H C cl fp, QE (X.blk s H scope (compEnvC scope cl C X.env) fp) A false true kx (at5 tk) fk := fun s H C cl fp => ek s H C cl fp ▸ hk s H C cl fp
  have he' : ∀ s H C cl fp, QE (X.blk s H scope (compEnvC scope cl C X.env) fp) A true false vx (at5 tv) fv := fun s H C cl fp => ee s H C cl fp ▸ he s H C cl fp
  refine ⟨pe_dc hc hN hi.pi ok (fun s H C cl fp => (hg' s H C cl fp).pg) (fun s H C cl fp => (ht' s H C cl fp).pt) (fun s H C cl fp => (hk' s H C cl fp).pe) (fun s H C cl fp => (he' s H C cl fp).pe) hs, ?_⟩
  exact so_dc hi.sd (hg' {} (fun _ => none) 0 [] []).sd hw (ht' {} (fun _ => none) 0 [] []).sd (hk' {} (fun _ => none) 0 [] []).sd (he' {} (fun _ => none) 0 [] []).sd
end
/-! d.update(d2) -/
def rUpd : V → List V → Hp → VK → Prop := fun x vs H Q => ∃ (a b : Addr) (kvs more : List (L2.Key × V)), x = .ref a ∧ vs = [.ref b] ∧ a ≠ b ∧ H a = some (.dK kvs) ∧ H b = some (.dK more) ∧ kvs.length + more.length ≤ sizeLine ∧ Q .non (upd H a (.dK (mergeK kvs more)))
theorem merge_len : ∀ (more kvs : List (L2.Key × V)), (mergeK kvs more).length ≤ kvs.length + more.length
  | [], kvs => by simp [mergeK]
  | p :: more, kvs => by
    have h := merge_len more (putK kvs p.1 p.2)
    have h2 := length_putK kvs p.1 p.2
    have e : mergeK kvs (p :: more) = mergeK (putK kvs p.1 p.2) more := rfl
    rw [e, List.length_cons]
    omega
theorem mtd_update {X : Cx} : MtR X "dict.update" rUpd := by
  intro pins s σ H x vs v us Q I rx rv h
  obtain ⟨a, b, kvs, more, rfl, rfl, ne, ea, eb, hl, q⟩ := h
  obtain rfl : v = Value.ref a := rx
  cases rv with
  | cons r rr =>
    cases rr
    cases r
    obtain ⟨za, ya, va, ra, da⟩ := dk_of I.hok ea
    obtain ⟨zb, yb, vb, rb, db⟩ := dk_of I.hok eb
    have hz : va.length + vb.length ≤ sizeLine := by rw [← ra.length, ← rb.length]; exact hl
    refine call_meetsIn F.slot_dict_update da.typeIs F.entry_dict_update (F.args_dict_update_2 _ _) (meets_dict_update (mixKind X.prog X.w) a b ne yb) ⟨va, vb, da, db, hz, fun h' dd' _ hs => ?_⟩
    have he : ∃ q, h'.get? a = some q := let ⟨q, _, _, hq, _⟩ := dd'; ⟨q, hq⟩
    exact ⟨.non, _, d_write (t' := s.toks) I (by rw [ea]; exact True.intro) hs he (dk_new (Nat.le_trans (merge_len more kvs) hl) ya (KV.merge rb ra) dd'), rfl, q⟩
def mergeD (ks : List L2.Key) (vs : List D) : List L2.Key → List D → Mo
  | k :: ks2, v :: vs2 => match putMo ks vs k v with
    | .dk ks' vs' => mergeD ks' vs' ks2 vs2
    | m => m
  | _, _ => .dk ks vs
def fUpd {S : Type} (i : Nat) (fe : FE S) : FS S := fun P ρ s => match ρ[i]? with
  | some (.o (.dk ks vs)) => fe ρ s fun d s1 => match d with
    | .dct ks2 vs2 => ks.length + ks2.length ≤ 16777216 ∧ P.nx (ρ.set i (.o (mergeD ks vs ks2 vs2))) s1
    | _ => False
  | _ => False
theorem put_pair {B : Ad} {H : Hp} {key : L2.Key} {d : D} {v : V} {kvs : List (L2.Key × V)} {vs : List D} (hd : Rs B H d v) (r : RsL B H vs (kvs.map (·.2))) :
    ∃ ks' vs', putMo (kvs.map (·.1)) vs key d = .dk ks' vs' ∧ (putK kvs key v).map (·.1) = ks' ∧ RsL B H vs' ((putK kvs key v).map (·.2)) := by
  unfold putMo
  have ec : ((kvs.map (·.1)).any fun k => decide (k = key)) = (kvs.any fun kv => decide (kv.1 = key)) := by
    rw [List.any_map]
    rfl
  rw [ec]
  by_cases c : (kvs.any fun kv => decide (kv.1 = key)) = true
  · rw [if_pos c]
    have e2 : putK kvs key v = kvs.map (fun kv => if kv.1 = key then (kv.1, v) else kv) := by
      unfold putK
      rw [if_pos c]
    obtain ⟨h1, h2⟩ := put_rs (key := key) hd r
    exact ⟨_, _, rfl, by rw [e2, h2], by rw [e2]; exact h1⟩
  · rw [if_neg c]
    have e2 : putK kvs key v = kvs ++ [(key, v)] := by
      unfold putK
      rw [if_neg c]
    exact ⟨_, _, rfl, by rw [e2, List.map_append]; rfl, by rw [e2, List.map_append]; exact r.append (RsL.one hd)⟩
theorem merge_pair {B : Ad} {H : Hp} : ∀ {more kvs : List (L2.Key × V)} {vs vs2 : List D}, RsL B H vs (kvs.map (·.2)) → RsL B H vs2 (more.map (·.2)) →
    ∃ ks' vs', mergeD (kvs.map (·.1)) vs (more.map (·.1)) vs2 = .dk ks' vs' ∧ (mergeK kvs more).map (·.1) = ks' ∧ RsL B H vs' ((mergeK kvs more).map (·.2))
  | [], kvs, vs, _, r, .nil => ⟨kvs.map (·.1), vs, by simp [mergeD], rfl, r⟩
  | p :: more, kvs, vs, _, r, .cons h t => by
    obtain ⟨ks', vs', e1, e2, e3⟩ := put_pair (key := p.1) h r
    have ih := merge_pair (more := more) (kvs := putK kvs p.1 p.2) e3 t
    rw [e2] at ih
    rw [List.map_cons, mergeD, e1]
    exact ih
section
variable {A : Amb} {te : TE} {fe : FE A} {K : Fg}
theorem ss_upd (i : Nat) (h : SdE A true false te fe) : SdS A (tDrop (tBM K "dict" rUpd (tVar i) (tCons te tNil))) (fUpd i fe) := fun W s0 H0 s σ H ρ P D R hp nx _ _ _ => by
  unfold fUpd at hp
  split at hp
  · rename_i ks vs e
    obtain ⟨a, h1, ⟨kvs, h2, rfl, h3⟩, h4, h5, h6⟩ := R.own i _ e
    refine ⟨.ref a, h1, .inr (.inr (.inl ⟨rfl, .inl ⟨kvs, h2⟩⟩)), h W s0 H0 s σ H ρ _ _ R hp fun d s1 v H1 hd R1 st1 r1 => ?_⟩
    obtain ⟨k1, k2⟩ := keep_at st1 (by rw [h2]; simp) h6
    cases d with
    | dct ks2 vs2 =>
      have r := r1.rs
      cases r with
      | dct g1 n gk r2 =>
        rename_i b more
        have nb : a ≠ b := fun z => n (.inr (.inr ⟨rfl, i, _, e, by rw [h1, z]⟩))
        subst gk
        have hl : kvs.length + more.length ≤ sizeLine := by have := hd.1; rw [List.length_map, List.length_map] at this; rw [line_eq]; exact this
        obtain ⟨ks', vs', e1, e2, e3⟩ := merge_pair (h3.stp st1) r2
        refine ⟨a, b, kvs, more, rfl, rfl, nb, k1.trans h2, g1, hl, nx _ s1 _ _ hd.2 (R1.mut e h1 ?_)⟩
        rw [e1]
        refine ⟨_, upd_same, e2, e3.go (fun b z => .inl z) fun b2 o eb nb2 => ?_⟩
        rw [upd_ne fun z => ?_]
        · exact eb
        · exact nb2 (.inr (.inr ⟨rfl, i, _, e, by rw [h1, z]⟩))
    | _ => exact hd.elim
  · exact hp.elim
end
section
variable {X : Cx} {A : Amb} {e : Expr} {te : TE} {fe : FE A} {x : Str} {p pos : Pos}
theorem z_upd (i : Nat) {p2 p3 : Pos} (he : QE X A true false e te fe) (hN : X.N[i]? = some x := by rfl) (hv : Vis X.env.scope x := by first | exact Or.inl rfl | exact Or.inr (Or.inl rfl) | exact Or.inr (Or.inr rfl)) (hd : (x == ("__debug__" : Str)) = false := by decide) (hcd : (x == ("__classdict__" : Str)) = false := by decide)
    (hs : swapsWith (.Call (.Attribute (.Name x p) "update" p2) [e] [] p3) none pos.line X.env = pure false := by rfl)
    (hbase : attributeBase (.Name x p) "update" X.env (eval (.Name x p) X.env) = eval (.Name x p) X.env := by rfl)
    (hfew : ((backTo p3 (starEach [e] X.env)).all (fun x => !x.1) && (backToKw p3 (keywordEach [] X.env)).all (fun x => x.1.isSome) && decide ([e].length + ([] : List Keyword).length + (if ([] : List Keyword).isEmpty then 0 else 1) < 30)) = true := by rfl)
    (hline : (p2.endLine == p3.line) = true := by rfl) (hs1 : starEach [e] X.env = (false, eval e X.env) :: starEach [] X.env := by rfl) :
    QS X A (.Expr (.Call (.Attribute (.Name x p) "update" p2) [e] [] p3) pos) (tDrop (tBM X.K "dict" rUpd (tVar i) (tCons te tNil))) (fUpd i fe) :=
  ⟨ps_expr (pe_bm PySem.F.plainAttrs_dict PySem.F.slot_dict_update PySem.F.type_dict_update mtd_update (pe_var hN hv hd hcd) (pa_cons he.pe pa_nil hs1) hbase hfew hline hs1 (by rfl)) hs, ss_upd i he.sd⟩
end
/-! d == {} -/
def rEqD0 : R2 := fun x y H Q => ∃ a b kvs, x = .ref a ∧ y = .ref b ∧ H a = some (.dK kvs) ∧ H b = some (.dK []) ∧ Q (.bl kvs.isEmpty) H
theorem op_eq_d0 {X : Cx} (hu : X.A.units < cLine) : OpR X (compareOp .Eq) rEqD0 := by
  intro pins s σ H x y v u Q I rx ry h
  obtain ⟨a, b, kvs, rfl, rfl, ea, eb, q⟩ := h
  obtain rfl : v = Value.ref a := rx
  obtain rfl : u = Value.ref b := ry
  obtain ⟨_, ya, va, ra, da⟩ := dk_of I.hok ea
  obtain ⟨_, yb, vb, rb, db⟩ := dk_of I.hok eb
  have hb : vb.length = 0 := rb.length.symm
  have ha : va.length = kvs.length := ra.length.symm
  refine PySem.W.keq_eq (knd := mixKind X.prog X.w) (r := true) ya yb da db hu (fun hl => ?_) (fin_bl I q ?_)
  · have : kvs = [] := List.eq_nil_of_length_eq_zero (by omega)
    subst this
    exact hits_all rb ra fun p hp => nomatch hp
  · cases kvs with
    | nil => simp at ha; simp [ha, hb]
    | cons p r => simp [ha, hb]
def dEqD0 (x y : D) (Φ : D → Prop) : Prop := match x, y with
  | .dct ks _, .dct [] [] => Φ (.bl ks.isEmpty)
  | _, _ => False
section
variable {A : Amb} {m m1 m2 sh1 sh2 : Bool}
theorem sdr_eqD0 : SdR A m m1 sh1 m2 sh2 rEqD0 dEqD0 := sdr_same fun x y v w H Φ Q W s σ ρ rx ry h q => by
  unfold dEqD0 at h
  split at h
  · have r1 := rx.low
    have r2 := ry.low
    cases r1 with
    | dct g1 n1 k1 r1 =>
      cases r2 with
      | dct g2 n2 k2 r2 =>
        rename_i a kvs b kvs2
        have e2 : kvs2 = [] := List.map_eq_nil_iff.mp k2
        subst e2
        refine ⟨_, _, kvs, rfl, rfl, g1, g2, q _ _ ?_ fun B => .bl _⟩
        rw [← k1] at h
        simpa using h
  · exact h.elim
theorem co_eqD0 {X : Cx} (hu : X.A.units < cLine) : CO X A .Eq rEqD0 dEqD0 := ⟨op_eq_d0 hu, fun m => sdr_eqD0⟩
end
/-! list(d) -/
def kyD : L2.Key → D
  | .inl i => .int i
  | .inr x => .str x
def rListK : List V → Hp → VK → Prop := fun xs H Q => ∃ (a : Addr) (kvs : List (L2.Key × V)), xs = [.ref a] ∧ Rd H a (.dK kvs) ∧ ∀ p, H p = none → Q (.ref p) (upd H p (.lst (kvs.map fun kv => kV kv.1)))
def dListK (ds : List D) (Φ : D → Prop) : Prop := match ds with
  | [.dct ks _] => Φ (.lst (ks.map kyD))
  | _ => False
theorem keys_rs {B : Ad} {H : Hp} : ∀ kvs : List (L2.Key × V), RsL B H ((kvs.map (·.1)).map kyD) (kvs.map fun kv => kV kv.1)
  | [] => .nil
  | (.inl i, v) :: r => .cons (.int i) (keys_rs r)
  | (.inr x, v) :: r => .cons (.str x) (keys_rs r)
section
variable {X : Cx} {A : Amb} {m : Bool}
theorem sc_listK : SdC A m false true rListK dListK := fun W s0 H0 s σ H ρ ds vs Φ Q R rv h q => by
  unfold dListK at h
  split at h
  · obtain ⟨v, rfl, r⟩ := rv.one
    have r2 := r.low
    cases r2 with
    | dct h1 n k r3 =>
      subst k
      exact ⟨_, _, rfl, .inl h1, fun p hn => q _ _ _ h (R.alloc hn _) (Stp.fresh hn) (RV.newL R hn (keys_rs _))⟩
  · exact h.elim
theorem nb_listK (hc : X.calm = true) : NB X A m false true "list" (.type "list") rListK dListK := ⟨call_listD hc, sc_listK, bt_list, by decide, by decide⟩
end
end Pd

set_option maxHeartbeats 4000000
/-! dicts with tuple keys: displays, lookups, d[i, j] = v -/
namespace Pd
open PySem PySem.Spec PyProof.Rows L2
abbrev TK := List L2.Key
/-- a key that is a tuple of ints and texts -/
structure KeyT (l : List D) (Φ : TK → Prop) : Prop where
  ex : ∃ ks : TK, l = ks.map kyD ∧ Φ ks
def keyT (k : D) (Φ : TK → Prop) : Prop := match k with
  | .tup l => KeyT l Φ
  | _ => False
theorem kyD_rs {B : Ad} {H : Hp} : ∀ {ks : TK} {xs : List V}, RsL B H (ks.map kyD) xs → xs = ks.map L2.kV
  | [], _, .nil => rfl
  | k :: ks, _, .cons h r => by
    rw [List.map_cons, ← kyD_rs r]
    cases k with
    | inl i => cases h; rfl
    | inr x => cases h; rfl
theorem keyT_rs {B : Ad} {H : Hp} {ks : TK} {v : V} (r : Rs B H (.tup (ks.map kyD)) v) : ∃ b, v = .ref b ∧ H b = some (.tup (ks.map L2.kV)) := by
  cases r with
  | tup h n r => exact ⟨_, rfl, by rw [h, kyD_rs r]⟩
section
variable {A : Amb}
theorem keyT_rv {W : Ot} {s : A.S} {σ : Sg} {ρ : List Sl} {H : Hp} {m sh : Bool} {k : D} {x : V} {Φ : TK → Prop} (r : RV A W s σ ρ H m sh k x) (h : keyT k Φ) : ∃ key, Rs (om m A W s σ ρ) H (.tup (key.map kyD)) x ∧ Φ key := by
  unfold keyT at h
  split at h
  · obtain ⟨⟨ks, rfl, h⟩⟩ := h
    exact ⟨ks, r.rsT, h⟩
  · exact h.elim
end
/-! ### displays -/
def tDispT (trs : List (TE × TE)) : TE := fun σ H Q => ∀ p, H p = none → tPairs trs σ (upd H p (.dT [])) fun ps H2 => H2 p = some (.dT []) ∧ ∃ kbs : List (TK × Addr × V), ps = kbs.map (fun q => (V.ref q.2.1, q.2.2)) ∧
  (∀ q ∈ kbs, H2 q.2.1 = some (.tup (q.1.map L2.kV))) ∧ (kbs.map (·.1)).Nodup ∧ kbs.length ≤ 15 ∧ Q (.ref p) (upd H2 p (.dT (kbs.map fun q => (q.1, q.2.2))))
theorem carriesT {P : Program} {w : World} {H : Hp} {h : Heap} (ok : HOk P w H h) : ∀ {kbs : List (TK × Addr × V)} {ws : List (Value × Value)}, VV (kbs.map fun q => (V.ref q.2.1, q.2.2)) ws → (∀ q ∈ kbs, H q.2.1 = some (.tup (q.1.map L2.kV))) →
    ∃ rs, CarriesH (tupleKind (mixKind P w)) h ws rs ∧ KT H (kbs.map fun q => (q.1, q.2.2)) rs
  | [], _, r, _ => by rw [List.map_nil] at r; cases r; exact ⟨[], True.intro, .nil⟩
  | p :: kbs, _, r, hk => by
    rw [List.map_cons] at r
    cases r with
    | @cons a b as bs h1 t =>
      obtain ⟨rs, c, q⟩ := carriesT ok t fun q hq => hk q (List.mem_cons_of_mem _ hq)
      obtain ⟨b1, b2⟩ := b
      have e1 : b1 = Value.ref p.2.1 := h1.1
      have hp := hk p List.mem_cons_self
      exact ⟨(p.1, p.2.1, b2) :: rs, ⟨e1, rfl, key_of ok hp, c⟩, .cons ⟨rfl, hp, h1.2⟩ q⟩
theorem pe_dispT {X : Cx} {pos : Pos} {keys : List (Option Expr)} {values : List Expr} {trs : List (TE × TE)} (hu : X.A.units + 64 < cLine) (h : PPs X pos keys values trs) (hall : keys.all (·.isSome) = true) (hl : keys.length = values.length) (h0 : keys ≠ [])
    (h15 : keys.length ≤ 15) : PE X (.Dict keys values pos) (tDispT trs) := by
  refine ⟨fun pins s σ H Q I q => ?_⟩
  have hn := I.hok.fresh (Nat.le_refl s.heap.objs.size)
  have I1 := I.laid (a := s.heap.objs.size) (o := .dT []) (h' := s.heap.push { cls := .type "dict", data := .dict #[] }) (t' := s.toks) (fun _ _ q => Heap.get?_push_of_some _ q) (Nat.le_refl _) (dt_empty s.heap I.big)
  have hpl := pairTrees_length keys values X.env pos hall hl
  have hp0 : pairTrees keys values X.env pos ≠ [] := fun he => by
    rw [he] at hpl
    exact h0 (List.length_eq_zero_iff.mp hpl.symm)
  rw [arm_eval_Dict, zip_pairTrees keys values X.env pos hall hl, dictDisplay_pairs _ hp0 (by omega)]
  refine wpAny_bind (wpAny_standAt (wpAny_bind (wpAny_subDictH (knd := tupleKind (mixKind X.prog X.w)) (Q := fun d s' => wpAny (model X.prog X.w) X.A (pure (Value.ref d)) (EP X pins σ Q) X.xe s') (show X.A.units < cLine by omega) (by omega) (thn (h.run pins _ σ _ _ I1 (q _ hn)) fun ws s2 ⟨ps, H2, I2, rel, e, kbs, ep, hk, hnd, lk, q2⟩ => ?_))))
  subst ep
  obtain ⟨rs, c, rk⟩ := carriesT I2.hok rel hk
  obtain ⟨z, hd, xs, r0, dd⟩ := dt_of I2.hok e
  cases r0
  have ekeys : rs.map (·.1) = kbs.map (·.1) := by
    clear c dd q2 rel
    generalize hm : (kbs.map fun q => (q.1, q.2.2)) = l at rk
    have e1 : kbs.map (·.1) = l.map (·.1) := by rw [← hm, List.map_map]; rfl
    rw [e1]
    clear hm e1 hk hnd lk
    induction rk with
    | nil => rfl
    | cons a b ih => rw [List.map_cons, List.map_cons, ih, a.1]
  refine ⟨rs, c, dd, fun h' tk dd' hs => wpAny_pure ⟨.ref s.heap.objs.size, _, ?_, rfl, q2⟩⟩
  rw [storedAllH_nil_of_nodup _ (by rw [ekeys]; exact hnd)] at dd'
  obtain ⟨o, es, ep, hq, h2, h3, h4, _, h5⟩ := dd'
  refine d_write I2 (by rw [e]; exact True.intro) hs ⟨o, hq⟩ ⟨by rw [List.length_map, sizeLine_eq]; omega, hd, _, rk.keeps fun b ys eb => ?_, o, es, ep, hq, h2, h3, h4, h5⟩
  rw [upd_ne (ne_of eb e (fun z => nomatch z))]
  exact eb
abbrev FPT (S : Type) := List Sl → S → (List (TK × D) → S → Prop) → Prop
def fDnT {S : Type} : FPT S := fun _ s Φ => Φ [] s
def fDcT {S : Type} (fk fv : FE S) (f : FPT S) : FPT S := fun ρ s Φ => fk ρ s fun k s1 => keyT k fun key => fv ρ s1 fun d s2 => f ρ s2 fun r s3 => Φ ((key, d) :: r) s3
def SdPT (A : Amb) (trs : List (TE × TE)) (f : FPT A) : Prop := ∀ W s0 H0 s σ H ρ Φ Q, ER A W s0 H0 s σ H ρ → f ρ s Φ →
  (∀ kds s' H' (kbs : List (TK × Addr × V)), Φ kds s' → ER A W s0 H0 s' σ H' ρ → Stp A s s' H H' → kbs.map (·.1) = kds.map (·.1) → RsL (om true A W s' σ ρ) H' (kds.map (·.2)) (kbs.map (·.2.2)) → (∀ q ∈ kbs, Rs (om true A W s' σ ρ) H' (.tup (q.1.map kyD)) (.ref q.2.1)) →
    Q (kbs.map fun q => (V.ref q.2.1, q.2.2)) H') → tPairs trs σ H Q
section
variable {A : Amb} {tk tv : TE} {fk fv : FE A} {trs : List (TE × TE)} {f : FPT A}
theorem sd_dnT : SdPT A [] fDnT := fun W s0 H0 s σ H ρ Φ Q R hp q => q [] s H [] hp R Stp.refl rfl .nil (fun _ h => nomatch h)
theorem sd_dcT (hk : SdE A true false tk fk) (hv : SdE A true false tv fv) (h : SdPT A trs f) : SdPT A ((tk, tv) :: trs) (fDcT fk fv f) := fun W s0 H0 s σ H ρ Φ Q R hp q =>
  hk W s0 H0 s σ H ρ _ _ R hp fun k s1 x H1 h1 R1 st1 r1 => by
    obtain ⟨key, rk, h1⟩ := keyT_rv r1 h1
    refine hv W s0 H0 s1 σ H1 ρ _ _ R1 h1 fun d s2 y H2 h2 R2 st2 r2 => ?_
    refine h W s0 H0 s2 σ H2 ρ _ _ R2 h2 fun kds s3 H3 kbs h3 R3 st3 e3 r3 k3 => ?_
    have rk3 := rk.stp (st2.trans st3)
    obtain ⟨b, rfl, _⟩ := keyT_rs rk3
    exact q ((key, d) :: kds) s3 H3 ((key, b, y) :: kbs) h3 R3 ((st1.trans st2).trans st3) (by rw [List.map_cons, List.map_cons, e3]) (.cons (r2.rs.stp st3) r3) fun z hz => by
      rcases List.mem_cons.mp hz with e | hz
      · subst e; exact rk3
      · exact k3 z hz
def fDispT {S : Type} (f : FPT S) : FO S := fun ρ s Φ => f ρ s fun kds s2 => ((kds.map (·.1)).Nodup ∧ kds.length ≤ 15) ∧ Φ (.dt (kds.map (·.1)) (kds.map (·.2))) s2
theorem so_dispT (h : SdPT A trs f) : SdO A (tDispT trs) (fDispT f) := fun W s0 H0 s σ H ρ Φ Q R hp q p hpn => by
  have bD0 : ¬ A.B s p := fun z => A.dom R.amb z hpn
  have R1 := R.wide hpn (.dT [])
  have hp0 := R.fresh0 hpn
  refine h (W.add p) s0 H0 s σ _ ρ _ _ R1 hp fun kds s2 H2 kbs h2 R3 st e2 r2 k2' => ?_
  obtain ⟨k1, k2⟩ := keep_at st (by rw [upd_same]; simp) bD0
  rw [upd_same] at k1
  have el : kbs.length = kds.length := by have := congrArg List.length e2; rwa [List.length_map, List.length_map] at this
  refine ⟨k1, kbs, rfl, fun z hz => ?_, by rw [e2]; exact h2.1.1, by rw [el]; exact h2.1.2, ?_⟩
  · obtain ⟨b, eb, hb⟩ := keyT_rs (k2' z hz)
    cases eb
    exact hb
  have R4 := R3.oth hp0 k2 (.dT (kbs.map fun q => (q.1, q.2.2)))
  refine q _ s2 p _ h2.2 R4 ?_ hpn ⟨_, upd_same, by rw [← e2, List.map_map]; rfl, ?_⟩ (fun z => R.wd p z hpn) k2
  · refine ⟨fun a o e n => ?_, fun a z => ?_, fun a e => ?_⟩
    · have np : a ≠ p := ne_of_none e hpn
      rw [upd_ne np]
      exact st.agr a o (by rw [upd_ne np]; exact e) n
    · rcases st.new a z with z | z
      · exact .inl z
      · by_cases ap : a = p
        · subst ap; rw [upd_same] at z; cases z
        · rw [upd_ne ap] at z; exact .inr z
    · by_cases ap : a = p
      · subst ap; rw [upd_same]; simp
      · rw [upd_ne ap]
        exact st.dom a (by rw [upd_ne ap]; exact e)
  · have e3 : (kbs.map fun q => (q.1, q.2.2)).map (·.2) = kbs.map (·.2.2) := by rw [List.map_map]; rfl
    rw [e3]
    refine RsL.go (fun a z => .inl z) (fun a o e n => ?_) r2
    have ap : a ≠ p := fun z => by
      subst z
      exact n (.inl (.inr rfl))
    rw [upd_ne ap]
    exact e
end
structure QPT (X : Cx) (A : Amb) (pos : Pos) (ks : List (Option Expr)) (vs : List Expr) (trs : List (TE × TE)) (f : FPT A) : Prop where
  pp : PPs X pos ks vs trs
  sd : SdPT A trs f
/-! ### lookups, writes -/
def lookT (key : TK) : List TK → List D → Option D
  | k :: ks, d :: ds => if k = key then some d else lookT key ks ds
  | _, _ => none
structure GetT (ks : List TK) (vs : List D) (key : TK) (Φ : D → Prop) : Prop where
  go : ∃ d, lookT key ks vs = some d ∧ Φ d
def dGetT (x y : D) (Φ : D → Prop) : Prop := match x with
  | .dtt ks vs => keyT y fun key => GetT ks vs key Φ
  | _ => False
theorem lookT_rs {B : Ad} {H : Hp} {key : TK} {d : D} : ∀ {kvs : List (TK × V)} {vs : List D}, RsL B H vs (kvs.map (·.2)) → lookT key (kvs.map (·.1)) vs = some d → ∃ v, valV kvs key = some v ∧ Rs B H d v
  | [], _, .nil, h => by cases h
  | p :: kvs, _, .cons g r, h => by
    rw [List.map_cons, lookT] at h
    split at h
    · rename_i e
      cases h
      exact ⟨_, valV_pos e, g⟩
    · rename_i e
      obtain ⟨v, h1, h2⟩ := lookT_rs r h
      exact ⟨v, by rw [valV_neg e]; exact h1, h2⟩
section
variable {A : Amb} {m sh : Bool}
theorem RV.dtt {W : Ot} {s : A.S} {σ : Sg} {ρ : List Sl} {H : Hp} {ks : List TK} {vs : List D} {v : V} (r : RV A W s σ ρ H m sh (.dtt ks vs) v) : ∃ a kvs, v = .ref a ∧ H a = some (.dT kvs) ∧ kvs.map (·.1) = ks ∧ RsL (om m A W s σ ρ) H vs (kvs.map (·.2)) := by
  rcases r with r | r
  · cases r with
    | dtt h n k r => exact ⟨_, _, rfl, h, k, r⟩
  · obtain ⟨_, l, a, xs, q, _⟩ := r
    cases q
end
section
variable {X : Cx} {A : Amb} {m sh : Bool} {k v a b : Expr} {ks : List (Option Expr)} {vs : List Expr} {trs : List (TE × TE)} {tk tv ta tb : TE} {fk fv fa fb : FE A} {f : FPT A} {pos : Pos}
theorem qpt_nil : QPT X A pos [] [] [] fDnT := ⟨pps_nil, sd_dnT⟩
theorem qpt_cons (hk : QE X A true false k tk fk) (hv : QE X A true false v tv fv) (h : QPT X A pos ks vs trs f) : QPT X A pos (some k :: ks) (v :: vs) ((tk, tv) :: trs) (fDcT fk fv f) := ⟨pps_cons hk.pe hv.pe h.pp, sd_dcT hk.sd hv.sd h.sd⟩
theorem qo_dispT (hu : X.A.units + 64 < cLine) (h : QPT X A pos ks vs trs f) (hall : ks.all (·.isSome) = true := by rfl) (hl : ks.length = vs.length := by rfl) (h0 : ks ≠ [] := by simp) (h15 : ks.length ≤ 15 := by decide) : QO X A (.Dict ks vs pos) (tDispT trs) (fDispT f) := ⟨pe_dispT hu h.pp hall hl h0 h15, so_dispT h.sd⟩
theorem q_dgetT (hu : X.A.units + 64 < cLine) (ha : QE X A m true a ta fa) (hb : QE X A false true b tb fb) (hs : NoSl b := by exact fun _ _ => rfl) : QE X A m sh (.Subscript a b pos) (tDGet ta tb) (fBin dGetT fa fb) :=
  ⟨pe_dget (by omega) ha.pe hb.pe hs, fun W s0 H0 s σ H ρ Φ Q R hp q => ha.sd W s0 H0 s σ H ρ _ _ R hp fun x s1 v H1 h1 R1 st1 r1 => hb.sd W s0 H0 s1 σ H1 ρ _ _ R1 h1 fun y s2 w H2 h2 R2 st2 r2 => by
    cases x with
    | dtt ks vs =>
      have h2 : keyT y fun key => GetT ks vs key fun d => Φ d s2 := h2
      obtain ⟨key, rk, h3⟩ := keyT_rv r2 h2
      obtain ⟨b, rfl, hb⟩ := keyT_rs rk
      obtain ⟨d, e, h4⟩ := h3.go
      obtain ⟨p, kvs, rfl, k1, rfl, k3⟩ := (r1.stp st2).dtt
      obtain ⟨u, g1, g2⟩ := lookT_rs k3 e
      refine ⟨p, u, rfl, ?_, q d s2 u H2 h4 R2 (st1.trans st2) (.inl g2)⟩
      have := DGet.t (k := key) k1 hb
      rw [g1] at this
      exact this
    | _ => exact h2.elim⟩
end
def putVsT (key : TK) (d : D) : List TK → List D → List D
  | k :: ks, x :: xs => (if k = key then d else x) :: putVsT key d ks xs
  | _, _ => []
def putMoT (ks : List TK) (vs : List D) (key : TK) (d : D) : Mo := if (ks.any fun k => decide (k = key)) = true then .dt ks (putVsT key d ks vs) else .dt (ks ++ [key]) (vs ++ [d])
theorem putT_rs {B : Ad} {H : Hp} {key : TK} {d : D} {v : V} (hd : Rs B H d v) : ∀ {kvs : List (TK × V)} {vs : List D}, RsL B H vs (kvs.map (·.2)) →
    RsL B H (putVsT key d (kvs.map (·.1)) vs) ((kvs.map fun kv => if kv.1 = key then (kv.1, v) else kv).map (·.2)) ∧ ((kvs.map fun kv => if kv.1 = key then (kv.1, v) else kv).map (·.1)) = kvs.map (·.1)
  | [], _, .nil => ⟨.nil, rfl⟩
  | p :: kvs, _, .cons h r => by
    obtain ⟨a, b⟩ := putT_rs hd (kvs := kvs) r
    by_cases e : p.1 = key
    · refine ⟨?_, ?_⟩
      · simp only [List.map_cons, putVsT, if_pos e]
        exact .cons hd a
      · simp only [List.map_cons, if_pos e, b]
    · refine ⟨?_, ?_⟩
      · simp only [List.map_cons, putVsT, if_neg e]
        exact .cons h a
      · simp only [List.map_cons, if_neg e, b]
theorem putT_at {B : Ad} {H : Hp} {a : Addr} {key : TK} {d : D} {v : V} {kvs : List (TK × V)} {vs : List D} (hd : Rs B H d v) (r : RsL B H vs (kvs.map (·.2))) (e : H a = some (.dT (putK kvs key v))) : MoAt B H a (putMoT (kvs.map (·.1)) vs key d) := by
  unfold putMoT
  have ec : ((kvs.map (·.1)).any fun k => decide (k = key)) = (kvs.any fun kv => decide (kv.1 = key)) := by
    rw [List.any_map]
    rfl
  rw [ec]
  by_cases c : (kvs.any fun kv => decide (kv.1 = key)) = true
  · rw [if_pos c]
    have e2 : putK kvs key v = kvs.map (fun kv => if kv.1 = key then (kv.1, v) else kv) := by
      unfold putK
      rw [if_pos c]
    obtain ⟨h1, h2⟩ := putT_rs (key := key) hd r
    exact ⟨_, e, by rw [e2, h2], by rw [e2]; exact h1⟩
  · rw [if_neg c]
    have e2 : putK kvs key v = kvs ++ [(key, v)] := by
      unfold putK
      rw [if_neg c]
    exact ⟨_, e, by rw [e2, List.map_append]; rfl, by rw [e2, List.map_append]; exact r.append (RsL.one hd)⟩
def fDputT {S : Type} (i : Nat) (fk f : FE S) : FS S := fun P ρ s => match ρ[i]? with
  | some (.o (.dt ks vs)) => f ρ s fun d s1 => fk ρ s1 fun k s2 => keyT k fun key => ks.length < 16777216 ∧ P.nx (ρ.set i (.o (putMoT ks vs key d))) s2
  | _ => False
section
variable {A : Amb} {tk te : TE} {fk fe : FE A}
theorem ss_dputT (i : Nat) (h : SdE A true false te fe) (hk : SdE A false true tk fk) : SdS A (sDPut (tVar i) tk te) (fDputT i fk fe) := fun W s0 H0 s σ H ρ P D R hp nx _ _ _ => by
  unfold fDputT at hp
  split at hp
  · rename_i ks vs e
    obtain ⟨a, h1, ⟨kvs, h2, rfl, h3⟩, h4, h5, h6⟩ := R.own i _ e
    refine h W s0 H0 s σ H ρ _ _ R hp fun d s1 v H1 hd R1 st1 r1 => ⟨.ref a, h1, hk W s0 H0 s1 σ H1 ρ _ _ R1 hd fun k s2 y H2 hk2 R2 st2 r2 => ?_⟩
    have st := st1.trans st2
    obtain ⟨k1, k2⟩ := keep_at st (by rw [h2]; simp) h6
    obtain ⟨key, rk, hk3⟩ := keyT_rv r2 hk2
    obtain ⟨b, rfl, hb⟩ := keyT_rs rk
    refine ⟨a, _, rfl, DPut.t (k1.trans h2) hb (by have := hk3.1; rw [List.length_map] at this; rw [line_eq]; omega), nx _ s2 _ _ hk3.2 (R2.mut e h1 ?_)⟩
    have go : ∀ {l : List Pd.D} {xs : List V}, RsL (om true A W s2 σ ρ) H2 l xs → RsL (om true A W s2 σ ρ) (upd H2 a (.dT (putK kvs key v))) l xs := fun r => r.go (fun b z => .inl z) fun b o eb nb => by
      rw [upd_ne fun z => ?_]
      · exact eb
      · subst z; exact nb (.inr (.inr ⟨rfl, i, _, e, h1⟩))
    have rd : Rs (om true A W s2 σ ρ) (upd H2 a (.dT (putK kvs key v))) d v := by
      have := go (RsL.one (r1.stp st2).rs)
      cases this with
      | cons x _ => exact x
    exact putT_at rd (go (h3.stp st)) upd_same
  · exact hp.elim
end
section
variable {X : Cx} {A : Amb} {a e : Expr} {ta te : TE} {fa fe : FE A} {p p2 pos : Pos} {x : Str}
theorem z_dputT (i : Nat) (hu : X.A.units + 64 < cLine) (he : QE X A true false e te fe) (ha : QE X A false true a ta fa) (hN : X.N[i]? = some x := by rfl) (hv : Vis X.env.scope x := by first | exact Or.inl rfl | exact Or.inr (Or.inl rfl) | exact Or.inr (Or.inr rfl)) (hd : (x == ("__debug__" : Str)) = false := by decide) (hcd : (x == ("__classdict__" : Str)) = false := by decide)
    (hs : swapsWith e (some (.Subscript (.Name x p) a p2)) pos.line X.env = pure false := by rfl) : QS X A (.Assign [.Subscript (.Name x p) a p2] e pos) (sDPut (tVar i) ta te) (fDputT i fa fe) :=
  ⟨ps_dput (by omega) (pe_var hN hv hd hcd) ha.pe he.pe hs, ss_dputT i he.sd ha.sd⟩
end
end Pd

set_option maxHeartbeats 4000000
/-! errors with a field: raise C(v), except C as e, isinstance(e, C), e.f -/
namespace Pd
open PySem PySem.Spec PyProof.Rows L2
/-! ### classes by their names -/
def clV : Value → V
  | .ref a => .ref a
  | .type b => .ty b
  | _ => .non
def isCl : Value → Bool
  | .ref _ => true
  | .type _ => true
  | _ => false
theorem clV_rel {v : Value} (h : isCl v = true) : RelV (clV v) v := by
  cases v <;> first | rfl | (cases h)
theorem clV_only {v u : Value} (h : isCl v = true) (r : RelV (clV v) u) : u = v := by
  cases v <;> first | exact r | (cases h)
/-- a class that stands under its name -/
def ClsV (mg : Str → Option Value) (c : Str) (v : Value) : Prop := (mg c = some v ∨ (mg c = none ∧ bootBuiltins c = some v ∧ c ≠ "__name__")) ∧ isCl v = true
def clN (mg : Str → Option Value) (c : Str) : Value := (mg c).getD ((bootBuiltins c).getD .none)
theorem clN_of {mg : Str → Option Value} {c : Str} {v : Value} (h : ClsV mg c v) : clN mg c = v := by
  unfold clN
  rcases h.1 with e | ⟨e, e2, _⟩
  · rw [e]; rfl
  · rw [e, e2]; rfl
/-- is an error of the class a one of c? -/
structure IsT (K : Fg) (mg : Str → Option Value) (a c : Str) (b : Bool) : Prop where
  ex : ∃ C vc, mg a = some (.ref C) ∧ ExcC K C ∧ ClsV mg c vc ∧ PySem.W.kitOne K (.ref C) vc = some b
/-- errors of the class a have a field f to be read -/
structure FdT (K : Fg) (mg : Str → Option Value) (a f : Str) : Prop where
  ex : ∃ C, mg a = some (.ref C) ∧ XfC K C ∧ PySem.W.findIn K (.ref C) f = some none
theorem is_nil {K : Fg} {mg : Str → Option Value} : ∀ t ∈ ([] : List (Str × Str × Bool)), IsT K mg t.1 t.2.1 t.2.2 := fun _ h => nomatch h
theorem is_cons {K : Fg} {mg : Str → Option Value} {a c : Str} {b : Bool} {l : List (Str × Str × Bool)} (h : IsT K mg a c b) (r : ∀ t ∈ l, IsT K mg t.1 t.2.1 t.2.2) : ∀ t ∈ (a, c, b) :: l, IsT K mg t.1 t.2.1 t.2.2 := fun t ht => by
  rcases List.mem_cons.mp ht with e | ht
  · subst e; exact h
  · exact r t ht
theorem fd_nil {K : Fg} {mg : Str → Option Value} : ∀ t ∈ ([] : List (Str × Str)), FdT K mg t.1 t.2 := fun _ h => nomatch h
theorem fd_cons {K : Fg} {mg : Str → Option Value} {a c : Str} {l : List (Str × Str)} (h : FdT K mg a c) (r : ∀ t ∈ l, FdT K mg t.1 t.2) : ∀ t ∈ (a, c) :: l, FdT K mg t.1 t.2 := fun t ht => by
  rcases List.mem_cons.mp ht with e | ht
  · subst e; exact h
  · exact r t ht
/-! ### the error that is handled -/
structure ExD (mg : Str → Option Value) (cls : Value) (d : Option Addr) (x : XD) (g : List (D × V)) : Prop where
  nm : mg x.nm = some cls
  no : x.val = none → d = none
  so : ∀ f t, x.val = some (f, t) → ∃ dd, d = some dd ∧ (D.xdt f t, V.ref dd) ∈ g
structure Exn (Y : Cx) (K0 : Fg) (mg0 : Str → Option Value) (A : Amb) (a : Addr) (oe : Obj) (cls : Value) (d : Option Addr) (x : XD) : Prop where
  hK : Y.K = K0
  hmg : Y.mg = mg0
  mem : (a, oe) ∈ Y.pn
  zc : Zc cls d oe
  hf : ∃ vs, oe.data = .fields vs
  hot : L2H.Hot1 Y.A (a, oe)
  lk : ∀ s H, A.Lk s H → ExD mg0 cls d x A.g0
theorem Exn.dict {Y : Cx} {K0 : Fg} {mg0 : Str → Option Value} {A : Amb} {a : Addr} {oe : Obj} {cls : Value} {d : Option Addr} {x : XD} (E : Exn Y K0 mg0 A a oe cls d x) {W : Ot} {s0 s : A.S} {H0 H : Hp} {σ : Sg} {ρ : List Sl} (R : ER A W s0 H0 s σ H ρ) : d = none ∨ ∃ dd fs, d = some dd ∧ H dd = some (.xd fs) := by
  have E := E.lk _ _ R.lk
  cases e : x.val with
  | none => exact .inl (E.no e)
  | some p =>
    obtain ⟨f, t⟩ := p
    obtain ⟨dd, e1, e2⟩ := E.so f t e
    have r := R.gh _ (R.g0 _ e2)
    cases r with
    | xdt h n r => exact .inr ⟨dd, _, e1, h⟩
section
variable {Y : Cx}
theorem inst_at {pins : List (Addr × Obj)} {σ : Sg} {H : Hp} {s : Shared} {a D : Addr} {oe : Obj} {d : Option Addr} (J : Inv Y pins σ H s) (hm : (a, oe) ∈ Y.pn) (hz : Zc (.ref D) d oe) (hf : ∃ vs, oe.data = .fields vs) (hd : d = none ∨ ∃ dd fs, d = some dd ∧ H dd = some (.xd fs)) :
    ∃ od, PySem.W.InstAt s.heap a oe D od := by
  obtain ⟨ha, _⟩ := J.pin (a, oe) (List.mem_append_left _ hm)
  obtain ⟨vs, hv⟩ := hf
  have nc : PySem.W.notCls oe = true := by unfold PySem.W.notCls; rw [hv] <;> rfl
  rcases hd with e | ⟨dd, fs, e, ed⟩
  · subst e
    exact ⟨none, ha, hz.1, nc, by rw [hz.2]; trivial⟩
  · subst e
    have ho : ObjOk Y.prog Y.w H s.heap dd (.xd fs) := J.hok dd _ ed
    obtain ⟨mA, hns, _⟩ := ho
    obtain ⟨od, h1, _⟩ := lookIn_ns hns
    exact ⟨some od, ha, hz.1, nc, by rw [hz.2]; exact h1⟩
def rIsX (K : Fg) (cls : Value) (a : Addr) (d : Option Addr) : List V → Hp → VK → Prop := fun xs H Q => ∃ (D : Addr) (c : V) (b : Bool), cls = .ref D ∧ ExcC K D ∧ xs = [.ref a, c] ∧ (d = none ∨ ∃ dd fs, d = some dd ∧ H dd = some (.xd fs)) ∧
  ((∃ cv, (∀ u, RelV c u → u = cv) ∧ PySem.W.kitOne K (.ref D) cv = some b) ∨ (∃ tp vs cvs, c = .ref tp ∧ H tp = some (.tup vs) ∧ (∀ us, Vals vs us → us = cvs) ∧ PySem.W.kitAny K (.ref D) cvs = some b)) ∧ Q (.bl b) H
theorem call_isX {a : Addr} {oe : Obj} {cls : Value} {d : Option Addr} (hm : (a, oe) ∈ Y.pn) (hz : Zc cls d oe) (hf : ∃ vs, oe.data = .fields vs) : CallR Y (.builtin "isinstance") (rIsX Y.K cls a d) := by
  intro pins s σ H xs us Q J r h
  obtain ⟨D, c, b, rfl, C, rfl, hd, hc, q⟩ := h
  obtain ⟨od, I⟩ := inst_at J hm hz hf hd
  obtain ⟨cd, hcd, _⟩ := PySem.W.any_some C.hd
  have kx := PySem.W.kitx_exc (x := a) (ox := oe) (od := od) (by rw [hcd]; rfl) C.hg C.hk C.hs C.ha C.hn C.ht C.hm
  cases r with
  | cons rx rr =>
    cases rr with
    | cons rt rr =>
      cases rr
      cases rx
      rcases hc with ⟨cv, h1, h2⟩ | ⟨tp, vs, cvs, rfl, h1, h2, h3⟩
      · have ec := h1 _ rt
        subst ec
        exact PySem.W.kia_one kx J.kIn I h2 (fun z => nomatch z) fun tk => ⟨.bl b, H, J.kept (t' := tk) fun _ _ z => z, rfl, q⟩
      · cases rt
        obtain ⟨_, its, rv, ⟨cls2, dd2, data2, sl2⟩, ho, hc2, n2, hd2⟩ := (show ObjOk Y.prog Y.w H s.heap tp (.tup vs) from J.hok tp _ h1)
        simp only at hc2 hd2
        subst hc2 hd2
        have e := h2 _ rv
        subst e
        exact PySem.W.kia_tup kx J.kIn I ho h3 (fun z => nomatch z) fun tk => ⟨.bl b, H, J.kept (t' := tk) fun _ _ z => z, rfl, q⟩
end
/-- what the rows say of an error of the class nm and the classes cs -/
def isTb (tab : List (Str × Str × Bool)) (nm : Str) : List Str → Bool → Prop
  | [], b => b = false
  | c :: r, b => ((nm, c, true) ∈ tab ∧ b = true) ∨ ((nm, c, false) ∈ tab ∧ isTb tab nm r b)
def fIsX {S : Type} (tab : List (Str × Str × Bool)) (a : Addr) (x : XD) (cs : List Str) (f : FE S) : FE S := fun ρ s Φ => f ρ s fun d s1 => d = .any (.ref a) ∧ ∃ b, isTb tab x.nm cs b ∧ Φ (.bl b) s1
/-- the names of some classes, one behind another -/
inductive QCs (Y : Cx) : List Expr → List Str → Prop
  | nil : QCs Y [] []
  | cons {c : Str} {p : Pos} {es : List Expr} {cs : List Str} (h : ∃ v, ClsV Y.mg c v) (r : QCs Y es cs) (hg : Gl Y c := by rfl) (hdb : (c == ("__debug__" : Str)) = false := by decide) (he : starEach (.Name c p :: es) Y.env = (false, eval (.Name c p) Y.env) :: starEach es Y.env := by rfl) :
      QCs Y (.Name c p :: es) (c :: cs)
def tCs (mg : Str → Option Value) : List Str → TA
  | [] => tNil
  | c :: r => tCons (tC (clV (clN mg c))) (tCs mg r)
section
variable {Y : Cx}
theorem pe_cls {c : Str} {p : Pos} (h : ∃ v, ClsV Y.mg c v) (hg : Gl Y c) (hdb : (c == ("__debug__" : Str)) = false) : PE Y (.Name c p) (tC (clV (clN Y.mg c))) := by
  obtain ⟨v, h⟩ := h
  rw [clN_of h]
  rcases h.1 with e | ⟨e, e2, e3⟩
  · exact pe_glob hg e (clV_rel h.2) hdb
  · exact pe_bltn hg e e2 (clV_rel h.2) e3 hdb
theorem QCs.pa {es : List Expr} {cs : List Str} (h : QCs Y es cs) : PA Y es (tCs Y.mg cs) := by
  induction h with
  | nil => exact pa_nil
  | cons h r hg hdb he ih => exact pa_cons (pe_cls h hg hdb) ih he
theorem tCs_go {mg : Str → Option Value} {σ : Sg} {H : Hp} : ∀ {cs : List Str} {Q : List V → Hp → Prop}, Q (cs.map fun c => clV (clN mg c)) H → tCs mg cs σ H Q
  | [], _, q => q
  | c :: r, _, q => tCs_go (cs := r) q
theorem vals_cl {K : Fg} {mg : Str → Option Value} {tab : List (Str × Str × Bool)} {nm : Str} {D : Addr} (tk : ∀ t ∈ tab, IsT K mg t.1 t.2.1 t.2.2) (hD : mg nm = some (.ref D)) {cs : List Str} {b : Bool} : (∀ c ∈ cs, ∃ v, ClsV mg c v) → isTb tab nm cs b →
    (∀ us, Vals (cs.map fun c => clV (clN mg c)) us → us = cs.map (clN mg)) ∧ PySem.W.kitAny K (.ref D) (cs.map (clN mg)) = some b := by
  intro hcs h
  refine ⟨?_, ?_⟩
  · clear h
    induction cs with
    | nil => intro us r; cases r; rfl
    | cons c cs ih =>
      intro us r
      cases r with
      | cons r1 r2 =>
        obtain ⟨v, hv⟩ := hcs c List.mem_cons_self
        have e := ih (fun c hc => hcs c (List.mem_cons_of_mem _ hc)) _ r2
        rw [e, List.map_cons]
        have r1 : RelV (clV (clN mg c)) _ := r1
        rw [clN_of hv] at r1 ⊢
        rw [clV_only hv.2 r1]
  · induction cs with
    | nil => have h : b = false := h; subst h; rfl
    | cons c cs ih =>
      rcases h with ⟨h1, rfl⟩ | ⟨h1, h2⟩
      · obtain ⟨C, vc, e1, _, e2, e3⟩ := (tk _ h1).ex
        have eC : D = C := Value.ref.inj (Option.some.inj (hD.symm.trans e1))
        subst eC
        rw [List.map_cons, clN_of e2]
        unfold PySem.W.kitAny
        rw [show PySem.W.kitOne K (.ref D) vc = some true from e3]
      · obtain ⟨C, vc, e1, _, e2, e3⟩ := (tk _ h1).ex
        have eC : D = C := Value.ref.inj (Option.some.inj (hD.symm.trans e1))
        subst eC
        rw [List.map_cons, clN_of e2]
        unfold PySem.W.kitAny
        rw [show PySem.W.kitOne K (.ref D) vc = some false from e3]
        exact ih (fun c hc => hcs c (List.mem_cons_of_mem _ hc)) h2
theorem QCs.all {es : List Expr} {cs : List Str} (h : QCs Y es cs) : ∀ c ∈ cs, ∃ v, ClsV Y.mg c v := by
  induction h with
  | nil => intro c hc; cases hc
  | cons h r hg hdb he ih =>
    intro c hc
    rcases List.mem_cons.mp hc with e | hc
    · subst e; exact h
    · exact ih c hc
end
theorem isTb_row {K : Fg} {mg : Str → Option Value} {tab : List (Str × Str × Bool)} {nm c : Str} {cs : List Str} {b : Bool} (tk : ∀ t ∈ tab, IsT K mg t.1 t.2.1 t.2.2) (h : isTb tab nm (c :: cs) b) : ∃ C, mg nm = some (.ref C) ∧ ExcC K C := by
  rcases h with ⟨h1, _⟩ | ⟨h1, _⟩
  · obtain ⟨C, _, e1, e2, _⟩ := (tk _ h1).ex; exact ⟨C, e1, e2⟩
  · obtain ⟨C, _, e1, e2, _⟩ := (tk _ h1).ex; exact ⟨C, e1, e2⟩
theorem bt_isI : bootBuiltins "isinstance" = some (.builtin "isinstance") := by decide +kernel
section
variable {Y : Cx} {K0 : Fg} {mg0 : Str → Option Value} {A : Amb} {m sh : Bool} {a : Addr} {oe : Obj} {cls : Value} {d : Option Addr} {x : XD} {tab : List (Str × Str × Bool)} {e : Expr} {te : TE} {fe : FE A} {p pos : Pos}
theorem q_isX {c : Str} {q : Pos} (Ex : Exn Y K0 mg0 A a oe cls d x) (tk : ∀ t ∈ tab, IsT K0 mg0 t.1 t.2.1 t.2.2) (hm : mg0 "isinstance" = none) (he : QE Y A false true e te fe) (hc : QCs Y [.Name c q] [c]) (hg : Gl Y "isinstance" := by rfl)
    (hs : starEach [e, .Name c q] Y.env = (false, eval e Y.env) :: starEach [.Name c q] Y.env := by rfl) (hpl : (backTo pos (starEach [.Name c q] Y.env)).any (·.1) = false := by rfl) :
    QE Y A m sh (.Call (.Name "isinstance" p) [e, .Name c q] [] pos) (tCB (rIsX K0 cls a d) (tCons te (tCs mg0 [c]))) (fIsX tab a x [c] fe) := by
  obtain rfl := Ex.hK
  obtain rfl := Ex.hmg
  refine ⟨pe_callB (call_isX Ex.mem Ex.zc Ex.hf) hg hm bt_isI (pa_cons he.pe hc.pa hs) (by decide) (by decide) hs hpl, fun W s0 H0 s σ H ρ Φ Q R hp q => ?_⟩
  refine he.sd W s0 H0 s σ H ρ _ _ R hp fun t s1 v H1 ht R1 st1 r1 => ?_
  obtain ⟨rfl, b, hb, hq⟩ := ht
  obtain rfl := r1.any
  refine tCs_go (cs := [c]) ?_
  obtain ⟨D, eD, EC⟩ := isTb_row tk hb
  have nm := (Ex.lk _ _ R1.lk).nm
  obtain rfl : cls = .ref D := Option.some.inj (nm.symm.trans eD)
  obtain ⟨h1, h2⟩ := vals_cl tk nm hc.all hb
  obtain ⟨v, hv⟩ := hc.all c List.mem_cons_self
  refine ⟨D, _, b, rfl, EC, rfl, Ex.dict R1, .inl ⟨clN Y.mg c, fun u ru => ?_, ?_⟩, q _ s1 _ H1 hq R1 st1 (.inl (.bl b))⟩
  · have ru : RelV (clV (clN Y.mg c)) u := ru
    rw [clN_of hv] at ru ⊢
    exact clV_only hv.2 ru
  · have h2 : PySem.W.kitAny Y.K (.ref D) [clN Y.mg c] = some b := h2
    unfold PySem.W.kitAny at h2
    split at h2
    · rename_i h3; rw [h3, ← h2]
    · rename_i h3
      unfold PySem.W.kitAny at h2
      rw [h3, ← h2]
    · cases h2
theorem q_isXT {es : List Expr} {c0 : Str} {cs : List Str} {k : Nat} {pt : Pos} (Ex : Exn Y K0 mg0 A a oe cls d x) (tk : ∀ t ∈ tab, IsT K0 mg0 t.1 t.2.1 t.2.2) (hm : mg0 "isinstance" = none) (he : QE Y A false true e te fe) (hc : QCs Y es (c0 :: cs)) (hn : (c0 :: cs).length ≤ 1000 := by decide) (hg : Gl Y "isinstance" := by rfl)
    (hs : starEach [e, .Tuple es k pt] Y.env = (false, eval e Y.env) :: starEach [.Tuple es k pt] Y.env := by rfl) (hs2 : starEach [.Tuple es k pt] Y.env = (false, eval (.Tuple es k pt) Y.env) :: starEach [] Y.env := by rfl) (hpl : (backTo pos (starEach [.Tuple es k pt] Y.env)).any (·.1) = false := by rfl) :
    QE Y A m sh (.Call (.Name "isinstance" p) [e, .Tuple es k pt] [] pos) (tCB (rIsX K0 cls a d) (tCons te (tCons (tTup (tCs mg0 (c0 :: cs))) tNil))) (fIsX tab a x (c0 :: cs) fe) := by
  obtain rfl := Ex.hK
  obtain rfl := Ex.hmg
  refine ⟨pe_callB (call_isX Ex.mem Ex.zc Ex.hf) hg hm bt_isI (pa_cons he.pe (pa_cons (pe_tup hc.pa) pa_nil hs2) hs) (by decide) (by decide) hs hpl, fun W s0 H0 s σ H ρ Φ Q R hp q => ?_⟩
  refine he.sd W s0 H0 s σ H ρ _ _ R hp fun t s1 v H1 ht R1 st1 r1 => ?_
  obtain ⟨rfl, b, hb, hq⟩ := ht
  obtain rfl := r1.any
  show tCs Y.mg (c0 :: cs) σ H1 fun xs H2 => xs.length ≤ sizeLine ∧ ∀ p, H2 p = none → rIsX Y.K cls a d [V.ref a, V.ref p] (upd H2 p (.tup xs)) Q
  refine tCs_go (cs := c0 :: cs) ?_
  refine ⟨by rw [List.length_map, line_eq]; omega, fun p hp => ?_⟩
  obtain ⟨D, eD, EC⟩ := isTb_row tk hb
  have nm := (Ex.lk _ _ R1.lk).nm
  obtain rfl : cls = .ref D := Option.some.inj (nm.symm.trans eD)
  obtain ⟨h1, h2⟩ := vals_cl tk nm hc.all hb
  have R2 := R1.alloc hp (.tup ((c0 :: cs).map fun c => clV (clN Y.mg c)))
  exact ⟨D, _, b, rfl, EC, rfl, Ex.dict R2, .inr ⟨p, _, _, rfl, upd_same, h1, h2⟩, q _ s1 _ _ hq R2 (st1.trans (Stp.fresh hp)) (.inl (.bl b))⟩
end
/-! ### e.f -/
def tXfG (K : Fg) (cls : Value) (a : Addr) (d : Option Addr) (f : Str) (te : TE) : TE := fun σ H Q => te σ H fun x H1 => x = .ref a ∧ ∃ (C dd : Addr) (fs : List (Str × V)) (v : V), cls = .ref C ∧ XfC K C ∧ PySem.W.findIn K (.ref C) f = some none ∧ d = some dd ∧ H1 dd = some (.xd fs) ∧ fs.lookup f = some v ∧ Q v H1
theorem pe_xfG {Y : Cx} {a : Addr} {oe : Obj} {cls : Value} {d : Option Addr} {e : Expr} {te : TE} {pos : Pos} {n : Str} (hm : (a, oe) ∈ Y.pn) (hz : Zc cls d oe) (hf : ∃ vs, oe.data = .fields vs)
    (he : PE Y e te) (hb : attributeBase e n Y.env (eval e Y.env) = eval e Y.env) : PE Y (.Attribute e n pos) (tXfG Y.K cls a d n te) := by
  refine ⟨fun pins s σ H Q I h => ?_⟩
  refine attr_of hb (thn (he.run pins s σ H _ I h) fun u s1 hh => ?_)
  obtain ⟨x, H1, I1, rx, ex, C, dd, fs, v, ec, T, hno, ed, ea, l, q⟩ := hh
  subst ex ec
  cases rx
  subst ed
  obtain ⟨ha, _⟩ := I1.pin (a, oe) (List.mem_append_left _ hm)
  obtain ⟨vs, hd⟩ := hf
  obtain ⟨mA, hns, hr⟩ := (show ObjOk Y.prog Y.w H1 s1.heap dd (.xd fs) from I1.hok dd _ ea)
  obtain ⟨od, ho, hl⟩ := lookIn_ns hns
  obtain ⟨u, hu, ru⟩ := RelO.some_of (v := v) (o := mA n) (by rw [← l]; exact hr n)
  exact HandSPX.exc_get I1.kIn (⟨ha, hz.1, by unfold PySem.W.notCls; rw [hd] <;> rfl, by rw [hz.2]; exact ho⟩ : PySem.W.InstAt s1.heap a oe C (some od)) T.ga T.gg T.exC (PySem.W.findObj_own T.hdC hno rfl (by rw [hl, hu])) (handed_of ru) ⟨v, H1, I1.tok _, ru, q⟩
def fXf {S : Type} (tab : List (Str × Str)) (a : Addr) (x : XD) (n : Str) (f : FE S) : FE S := fun ρ s Φ => f ρ s fun d s1 => d = .any (.ref a) ∧ (x.nm, n) ∈ tab ∧ match x.val with
  | some (g, t) => g = n ∧ Φ t s1
  | none => False
section
variable {Y : Cx} {K0 : Fg} {mg0 : Str → Option Value} {A : Amb} {m sh : Bool} {a : Addr} {oe : Obj} {cls : Value} {d : Option Addr} {x : XD} {tab : List (Str × Str)} {e : Expr} {te : TE} {fe : FE A} {pos : Pos} {n : Str}
theorem q_xf (Ex : Exn Y K0 mg0 A a oe cls d x) (fk : ∀ t ∈ tab, FdT K0 mg0 t.1 t.2) (he : QE Y A false true e te fe) (hb : attributeBase e n Y.env (eval e Y.env) = eval e Y.env := by rfl) : QE Y A m sh (.Attribute e n pos) (tXfG K0 cls a d n te) (fXf tab a x n fe) := by
  obtain rfl := Ex.hK
  obtain rfl := Ex.hmg
  refine ⟨pe_xfG Ex.mem Ex.zc Ex.hf he.pe hb, fun W s0 H0 s σ H ρ Φ Q R hp q => ?_⟩
  refine he.sd W s0 H0 s σ H ρ _ _ R hp fun t s1 v H1 ht R1 st1 r1 => ?_
  obtain ⟨rfl, hmem, ht⟩ := ht
  obtain rfl := r1.any
  obtain ⟨C, eC, T, hno⟩ := (fk _ hmem).ex
  have E := Ex.lk _ _ R1.lk
  obtain rfl : cls = .ref C := Option.some.inj (E.nm.symm.trans eC)
  refine ⟨rfl, ?_⟩
  cases ev : x.val with
  | none => rw [ev] at ht; exact ht.elim
  | some pr =>
    obtain ⟨g, t⟩ := pr
    rw [ev] at ht
    obtain ⟨rfl, ht⟩ := ht
    obtain ⟨dd, e1, e2⟩ := E.so g t ev
    have r := R1.gh _ (R1.g0 _ e2)
    cases r with
    | xdt h n r => exact ⟨C, dd, _, _, rfl, T, hno, e1, h, by simp [List.lookup], q t s1 _ H1 ht R1 st1 (.inl (r.weak ER.weakT))⟩
end
end Pd

set_option maxHeartbeats 4000000
/-! raise C(v), C an own class over ValueError or LookupError with __init__(self, v): self.f = v; try: .. except C as n: .. -/
namespace Pd
open PySem PySem.Spec PyProof.Rows L2
/-! ### own classes over ValueError (b = false) or LookupError (b = true) -/
def tlB : Bool → List Value
  | false => [.type "ValueError", .type "Exception", .type "BaseException", .type "object"]
  | true => [.type "LookupError", .type "Exception", .type "BaseException", .type "object"]
def nmB : Bool → String
  | false => "ValueError"
  | true => "LookupError"
def nwB : Bool → String
  | false => "ValueError.__new__"
  | true => "LookupError.__new__"
def inB : Bool → String
  | false => "ValueError.__init__"
  | true => "LookupError.__init__"
def refsB (b : Bool) : List Value → Bool
  | .ref _ :: r => refsB b r
  | l => l == tlB b
theorem refsB_cases (b : Bool) : ∀ l : List Value, refsB b l = true → (∃ c r, l = .ref c :: r ∧ refsB b r = true) ∨ l = tlB b := fun l e => by
  unfold refsB at e
  split at e
  · exact .inl ⟨_, _, rfl, e⟩
  · exact .inr (beq_iff_eq.mp e)
theorem excB (b : Bool) : ExcBaseFacts (nmB b) (nwB b) (inB b) (tlB b) := by
  cases b with
  | false => exact F.excBase_ValueError
  | true => exact F.excBase_LookupError
theorem refsB_pass (b : Bool) (self : Value) : ∀ l : List Value, refsB b l = true → refuseLoop self "__setattr__" l = pure () := by
  intro l
  induction l with
  | nil => intro e; cases b <;> exact absurd e (by decide)
  | cons a r ih =>
    intro e
    rcases refsB_cases b (a :: r) e with ⟨c, r', q, h⟩ | q
    · obtain ⟨rfl, rfl⟩ := List.cons.inj q
      rw [refuseLoop_ref]
      exact ih h
    · rw [q]
      cases b with
      | false => exact F.store_ValueError.passes self
      | true => kernel_rfl
theorem refsB_has (b : Bool) (Y : String) : ∀ l : List Value, refsB b l = true → l.contains (.type Y) = (tlB b).contains (.type Y) := by
  intro l
  induction l with
  | nil => intro e; cases b <;> exact absurd e (by decide)
  | cons a r ih =>
    intro e
    rcases refsB_cases b (a :: r) e with ⟨c, r', q, h⟩ | q
    · obtain ⟨rfl, rfl⟩ := List.cons.inj q
      rw [List.contains_cons, ih h]
      rfl
    · rw [q]
theorem refsB_ne {b : Bool} {l : List Value} (e : refsB b l = true) : l.isEmpty = false := by
  cases l with
  | nil => cases b <;> exact absurd e (by decide)
  | cons _ _ => rfl
structure OexB (K : Fg) (b : Bool) (C : Addr) : Prop where
  cls : ∃ nm q N bs bm sn sub ab col dd k0 k1 k2 k3 k5, K.lookup C = some (excClassObj nm q C N bs bm true sn sub ab col dd k0 k1 k2 k3 k5 (nwB b)) ∧ refsB b bm = true
  sa : PySem.W.findIn K (.ref C) "__setattr__" = some (some (.builtin "object.__setattr__"))
  exC : PySem.W.subIn K (.ref C) (.type "BaseException") = some true
  tyC : PySem.W.typeIn K (.ref C) = some (.type "type")
  kC : PySem.W.keepIn K (.ref C) = true
section
variable {prog : Program} {w : World} {A : Around} {E : Value → Shared → Prop} {R : Result → Shared → Prop} {hp : Heap} {g : Array GenState} {d : Drawn} {t : Nat} {os : OsState}
theorem osaB {K : PySem.W.Frag} {b : Bool} {name : Str} {tk : Tok} {v : Value} {x C : Addr} {fv : Array Value} {cd : ClassData}
    (X : K.In hp) (hx : hp.get? x = some { cls := .ref C, data := .fields fv }) (hcd : PySem.W.clsIn K C = some cd) (hm : refsB b cd.mro = true) (hh : cd.hasDict = true) (ha : PySem.W.findIn K (.ref C) name = some none)
    (hq : ∀ h' tk' dx, (∀ b o, b ≠ x → hp.get? b = some o → h'.get? b = some o) → hp.objs.size ≤ dx → dx ≠ x → h'.get? x = some { cls := .ref C, dict := some dx, data := .fields fv } →
      h'.Ns1 dx (fun y => if y = name then some v else none) → R (.ok (.ret .none)) ⟨h', g, d, tk', os⟩) :
    codeAny (model prog w) A (.call (.builtin "object.__setattr__") ⟨[.ref x, .str name tk, v], []⟩) R ⟨hp, g, d, t, os⟩ := by
  have Ia : PySem.W.InstAt hp x { cls := .ref C, data := .fields fv } C none := ⟨hx, rfl, rfl, trivial⟩
  have S := F.store_object
  have hne := refsB_ne hm
  have ho : cd.mro.contains (.type "object") = true := (refsB_has b "object" _ hm).trans (by cases b <;> decide +kernel)
  have fresh : x ≠ hp.objs.size := Nat.ne_of_lt (Heap.lt_size hx)
  have L0 : PySem.W.Looks (model prog w) hp (isInstance (.ref x) (.type "object")) true := Ia.type.andThen (PySem.W.looks_mroIn X (by unfold PySem.W.mroIn; rw [hcd, Option.bind_some, if_neg (by rw [hne]; decide), ho]))
  refine codeAny_call_builtin S.slot.plain S.entry (@PySem.W.check_slot (model prog w) _ _ ⟨hp, g, d, t, os⟩ "object.__setattr__" "object" "__setattr__" (.ref x) [.str name tk, v] [] _ S.kind S.split L0 (S.args (.ref x) (.str name tk) v) ?_)
  have L1 : PySem.W.Looks (model prog w) hp (mroOf (.ref C)) cd.mro := (PySem.W.looks_clsIn X hcd).andThen .now
  have L2 : PySem.W.Looks (model prog w) hp (Builtin.ObjectAttr.storeTaker? none) none := .now
  have L3 : PySem.W.Looks (model prog w) hp (classData C) cd := PySem.W.looks_clsIn X hcd
  rw [PySem.W.osa_eq, refuse_eq]
  refine wpAny_bind (wpAny_bind (Ia.type.at (wpAny_bind (L1.at ?_))))
  rw [refsB_pass b _ _ hm]
  refine wpAny_pure (wpAny_bind (Ia.type.at (wpAny_bind ((PySem.W.looks_findIn X ha).at (wpAny_bind (L2.at ?_))))))
  show wpAny _ _ (Builtin.ObjectAttr.storeInOwnDict (.ref x) (.ref C) (.str name tk) name v false) _ _ _
  obtain ⟨_, _, _, _, _, hd, _, _, _, _, _⟩ := cd
  dsimp only at hh
  subst hh
  unfold Builtin.ObjectAttr.storeInOwnDict Builtin.ObjectAttr.ownDictForStores
  repeat (first | with_reducible refine HandSPX.store_in_new ?_ ?_ | with_reducible refine wpAny_loadPart_at hx ?_ | with_reducible refine L3.at ?_ | wp_step)
  · exact ⟨_, #[], _, (Heap.get?_update_ne _ _ _ _ fresh.symm).trans (Heap.get?_push_at rfl rfl), rfl, fun e he => absurd he (by simp), fun _ => rfl⟩
  · intro h' tk' hn' hs
    have hx2 : (hp.push { cls := .type "dict", data := .dict #[] }).get? x = some { cls := .ref C, data := .fields fv } := Heap.get?_push_of_some _ hx
    exact hq h' tk' hp.objs.size (fun b o hb ho => (hs.2 b (Nat.ne_of_lt (Heap.lt_size ho))).trans ((Heap.get?_update_ne _ _ _ _ hb).trans (Heap.get?_push_of_some _ ho))) (Nat.le_refl _) fresh.symm ((hs.2 x fresh).trans (Heap.get?_update_self _ hx2 rfl)) hn'
end
section
variable {X : Cx} {A : Around} {E : Value → Shared → Prop} {pins : List (Addr × Obj)} {σ : Sg} {H : Hp} {s : Shared} {a C : Addr} {f : Str} {y : V} {u : Value} {b : Bool}
theorem ost_newB {Q : Unit → Shared → Prop} (T : OexB X.K b C) (J : Inv X pins σ H s) (e : H a = some (exo a C none)) (hno : PySem.W.findIn X.K (.ref C) f = some none) (ry : RelV y u)
    (h : ∀ dx s', H dx = none → dx ≠ a → Inv X pins σ (upd (upd H dx (exd dx [(f, y)])) a (exo a C (some dx))) s' → Q () s') : wpAny (model X.prog X.w) A (setAttr (.ref a) f u) Q E s := by
  obtain ⟨nm, q, N, bs, bm, sn, sub, ab, col, dd, k0, k1, k2, k3, k5, hC, hbm⟩ := T.cls
  have hcl : PySem.W.clsIn X.K C = some { name := nm, bases := bs, mro := .ref C :: bm, ns := N, qualname := q, hasDict := true, slotNames := sn, subclasses := sub, abstract := ab, collection := col, hasDel := false } := by unfold PySem.W.clsIn; rw [hC] <;> rfl
  obtain ⟨t1, ho⟩ := exo_at J.hok e
  obtain ⟨hp, g, d, t, os⟩ := s
  refine PySem.W.set_plain J.kIn (ox := { cls := .ref C, dict := none, data := .fields #[.ref t1, .none, .none, .none, .bool false, .none] }) (od := none) ⟨ho, rfl, rfl, trivial⟩ T.sa ?_
  refine osaB J.kIn ho hcl (show refsB b (.ref C :: bm) = true from hbm) rfl hno fun h' tk' dx k dn dne hx hn => ?_
  have hnd : H dx = none := J.hok.fresh dn
  have nd : ∀ {b : Addr} {o : Obj}, hp.get? b = some o → b ≠ dx := fun {b o} q => Nat.ne_of_lt (Nat.lt_of_lt_of_le (Heap.lt_size q) dn)
  have na : ∀ {b : Addr}, H b = none → b ≠ a := fun {b} n z => by rw [z, e] at n; cases n
  have U : Un X.fs [] H (upd (upd H dx (exd dx [(f, y)])) a (exo a C (some dx))) hp h' := by
    refine ⟨fun b o q n _ _ => k b o (na n) q, fun b o q n _ _ => ⟨o.slots, k b o (na n) q⟩, fun b o q n _ => ?_, fun b o q _ => ?_, fun b xs q => ?_, fun b o v q => ?_, fun b ps q => ⟨#[], ?_⟩⟩
    · rw [upd_ne (na n), upd_ne (nd q)]; exact n
    · by_cases hb : b = a
      · subst hb; exact ⟨_, hx⟩
      · exact ⟨o, k b o hb q⟩
    · rw [upd_ne (at_ne e q exo_tup), upd_ne (ne_of_none q hnd)]; exact q
    · rw [upd_ne (at_ne e q exo_frz), upd_ne (ne_of_none q hnd)]; exact q
    · rw [upd_ne (at_ne e q exo_tbl), upd_ne (ne_of_none q hnd), q]; simp
  refine h dx _ hnd dne (J.un (t' := tk') U fun b o q => ?_)
  by_cases hb : b = a
  · subst hb
    rw [upd_same] at q
    cases q
    exact exo_ok hx
  · rw [upd_ne hb] at q
    by_cases hd : b = dx
    · subst hd
      rw [upd_same] at q
      cases q
      exact exd_ok hn (relO_put (fs := []) ry fun g => True.intro)
    · rw [upd_ne hd] at q
      refine (J.hok b o q).stay (fun c v hc z => k c v ?_ z) (fun c hc => ?_) fun c xs hc => ?_
      · rcases hc with hc | hc
        · rw [hc]; exact hb
        · exact at_ne e hc exo_own
      · rw [upd_ne (at_ne e hc exo_own), upd_ne (ne_of_none hc hnd)]; exact hc
      · rw [upd_ne (at_ne e hc exo_tup), upd_ne (ne_of_none hc hnd)]; exact hc
end
def tOstB (K : Fg) (f : Str) (to te : TE) : TS := fun D σ H => te σ H fun y H1 => to σ H1 fun x H2 => ∃ (b : Bool) (a C : Addr), x = .ref a ∧ OexB K b C ∧ PySem.W.findIn K (.ref C) f = some none ∧
  H2 a = some (exo a C none) ∧ ∀ dx, H2 dx = none → dx ≠ a → D.nx σ (upd (upd H2 dx (exd dx [(f, y)])) a (exo a C (some dx)))
theorem ps_ostB {X : Cx} {o e : Expr} {to te : TE} {f : Str} {p' pos : Pos} (ho : PE X o to) (he : PE X e te) (hs : swapsWith e (some (.Attribute o f p')) pos.line X.env = pure false := by rfl) : PS X (.Assign [.Attribute o f p'] e pos) (tOstB X.K f to te) := by
  constructor
  intro pins s σ H D J h
  refine plainObj_wpAny_Assign_Attribute (thn (he.run pins s σ H _ J h) fun v s1 ⟨y, H1, J1, r1, q1⟩ => thn (ho.run pins s1 σ H1 _ J1 q1) fun u s2 ⟨x, H2, J2, r2, b, a, C, ex, T, hno, ea, q⟩ => ?_) hs
  subst ex
  obtain rfl : u = Value.ref a := r2
  exact ost_newB T J2 ea hno r1 fun dx s' n ne J => ⟨σ, _, J, q dx n ne⟩
/-- the first def of a class -/
def initOf (s : Stmt) : Stmt := match s with
  | .ClassDef _ _ _ (b :: _) _ _ _ _ _ _ _ => b
  | s => s
/-- the text of such an __init__ -/
structure InitT (st : Stmt) (f y : Str) (q1 q2 q3 q4 : Pos) : Prop where
  sc : FnScope ["self", y] ["self", y] (defScope st)
  body : defBody st = [.Assign [.Attribute (.Name "self" q1) f q2] (.Name y q3) q4]
  ls : (defScope st).names.lookup ("self" : Str) = some .local
  ly : (defScope st).names.lookup y = some .local
  dy : (y == ("__debug__" : Str)) = false
  cy : (y == ("__classdict__" : Str)) = false
  sw : ∀ env : Env, swapsWith (.Name y q3) (some (.Attribute (.Name "self" q1) f q2)) q4.line env = pure false
def InitE (st : Stmt) (f y : Str) : Prop := ∃ q1 q2 q3 q4, InitT st f y q1 q2 q3 q4
structure ExV (K : Fg) (mg : Str → Option Value) (x f : Str) : Prop where
  ex : ∃ (b : Bool) (C fI : Addr) (fd : FuncData) (qual y : Str) (st : Stmt), mg x = some (.ref C) ∧ OexB K b C ∧ PySem.W.findIn K (.ref C) "__init__" = some (some (.ref fI)) ∧ PySem.W.typeIn K (.ref fI) = some (.type "function") ∧
    PySem.W.findIn K (.ref C) f = some none ∧ Fun K "__init__" qual st fI fd ∧ Binds K fd ["self", y] [] ∧ InitE st f y
def spInit (K : Fg) (b : Bool) (C : Addr) (f : Str) : L2.Sp := fun vs H Q _ => ∃ a y, vs = [.ref a, y] ∧ H a = some (exo a C none) ∧ OexB K b C ∧ PySem.W.findIn K (.ref C) f = some none ∧
  ∀ dx, H dx = none → dx ≠ a → Q .non (upd (upd H dx (exd dx [(f, y)])) a (exo a C (some dx)))
theorem init_fn {P : Program} {w : World} {K : Fg} {mg : Str → Option Value} {base : Heap} {b : Bool} {C fI : Addr} {fd : FuncData} {qual y f : Str} {st : Stmt} {q1 q2 q3 q4 : Pos} (F : Fun K "__init__" qual st fI fd) (T : InitT st f y q1 q2 q3 q4) :
    FnOk P w K mg base CX0 1 fI fd ["self", y] (spInit K b C f) := by
  refine F.ok (N := ["self", y]) (k := 0) T.sc (fun vs H Q E h => ?_) fun cdv Ar outer s H vs Q E hr h => ⟨tOstB K f (tVar 0) (tVar 1), ?_, ?_⟩
  · obtain ⟨a, y, rfl, _⟩ := h
    rfl
  · rw [T.body]
    exact pss_one (ps_ostB (pe_var (i := 0) rfl (.inl T.ls) (by decide) (by decide)) (pe_var (i := 1) rfl (.inl T.ly) T.dy T.cy) (T.sw _))
  · obtain ⟨a, v, rfl, e, TC, hno, q⟩ := h
    exact ⟨v, rfl, .ref a, rfl, b, a, C, rfl, TC, hno, e, fun dx h1 h2 => q dx h1 h2⟩
/-- C(e), nothing handled: the exception's context is None -/
theorem pmk_oexB {X : Cx} {CX : CXT} {x : Str} {b : Bool} {C fI : Addr} {k : Nat} {fd : FuncData} {ps : List Str} {sp : L2.Sp} {e : Expr} {es : List Expr} {ta : TA} {p pos : Pos} (T : OexB X.K b C) (iC : PySem.W.findIn X.K (.ref C) "__init__" = some (some (.ref fI))) (tI : PySem.W.typeIn X.K (.ref fI) = some (.type "function"))
    (F1 : FnOk X.prog X.w X.K X.mg X.base CX k fI fd ps sp) (hr : Room (k + 1) X.A) (hb : Binds X.K fd ps []) (hx : Passes CX X (fun _ _ _ => False)) (hg : Gl X x) (hm : X.mg x = some (.ref C)) (ha : PA X (e :: es) ta)
    (hdb : (x == ("__debug__" : Str)) = false := by decide) (he : starEach (e :: es) X.env = (false, eval e X.env) :: starEach es X.env := by rfl) (hpl : (backTo pos (starEach es X.env)).any (·.1) = false := by rfl) :
    L2N.PMk X (.Call (.Name x p) (e :: es) [] pos) (tMkO C sp [] ta) := by
  intro pins s σ H Q J h
  obtain ⟨nm, q, N, bs, bm, sn, sub, ab, col, dd, k0, k1, k2, k3, k5, hC, hbm⟩ := T.cls
  apply wpAny_Call_Name_kw
  refine ld_glob J hg hm (PySem.W.callWith_K (h₀ := X.base) J.ok.mod.kin T.kC (thn (ha.run pos pins s σ H _ J h) fun us s1 ⟨vs, H1, J1, r1, hz, q1⟩ => ⟨J1.kIn, ?_⟩) he hpl) hdb
  show wpAny _ _ (call (.ref C) us) _ _ _
  obtain ⟨hp, g, dr, tk, os⟩ := s1
  generalize ha0 : hp.objs.size + 1 = a
  have hle : hp.objs.size ≤ a := by omega
  have hq := q1 a (J1.hok.fresh hle)
  rw [List.append_nil] at hq
  have kk : ∀ b o, hp.get? b = some o → ((hp.push (PySem.W.kdv_tup us)).push (HandSPX.excO C hp.objs.size)).get? b = some o := fun b o e => Heap.get?_push_of_some _ (Heap.get?_push_of_some _ e)
  have hget : ((hp.push (PySem.W.kdv_tup us)).push (HandSPX.excO C hp.objs.size)).get? a = some (HandSPX.excO C hp.objs.size) := by subst ha0; heap_get
  have J2 : Inv X pins σ (upd H1 a (exo a C none)) ⟨(hp.push (PySem.W.kdv_tup us)).push (HandSPX.excO C hp.objs.size), g, dr, tk, os⟩ :=
    J1.laid (t' := tk) (a := a) (o := exo a C none) (h' := (hp.push (PySem.W.kdv_tup us)).push (HandSPX.excO C hp.objs.size)) kk hle (exo_ok hget)
  have r2 : Vals (V.ref a :: vs) (Value.ref a :: us) := .cons rfl r1
  have hl : (Value.ref a :: us ++ []).length = ps.length := by
    rw [List.append_nil, ← r2.length]
    exact F1.len _ _ _ _ hq
  have hus : us.length ≤ sizeLine := by
    have := Paired.length r1
    rw [sizeLine_eq]
    omega
  have b2 := hb _ (Value.ref a :: us) J2.kIn hl
  rw [List.append_nil] at b2
  have T2 := fun (R' : Result → Shared → Prop) => codeAny_mono (R' := R') (F1.run _ X.stack _ _ ⟨Value.ref a :: us, []⟩ (Value.ref a :: us) _ _ (fun _ _ _ => False) (hr.make C us []) (J2.env0.make C us []) b2 r2 hq)
  subst ha0
  refine wpAny_call (HandSPX.call_own (excB b) (fun Y => refsB_has b Y bm hbm) (J1.kIn _ _ hC) (PySem.W.looks_findIn J1.kIn iC) (fun self => PySem.W.bind_fn J1.kIn self tI) hus (T2 _ fun r s' hq' => ?_))
  match r, hq' with
  | .error er, hq' => exact hx pins σ _ _ er s' J2 hq'
  | .ok (.ret u), hq' =>
    obtain ⟨v, H2, os2, bare2, un2, hok2, rv, ev, d, fs, ea, ed, hd1, q2⟩ := hq'
    subst ev
    obtain ⟨h2, g2, d2, t2, os'⟩ := s'
    obtain ⟨t0, G, J3, kG, ge, hoe, na⟩ := mk_end0 (d2 := d2) (t2 := t2) J1 hle kk un2 hok2 os2 bare2 ea ed hd1
    exact ⟨rv, ⟨hp.objs.size + 1, _, _, ⟨G, g2, d2, t2, os'⟩, _, .ref C, some d, rfl, J3, kG, ge, hoe, ⟨rfl, rfl, fun vs hv => by cases hv; rfl⟩, rfl, rfl, na, rfl, bare2, raises_own T.exC T.tyC, q2⟩⟩
  | .ok .next, hq' => exact hq'.elim
  | .ok .brk, hq' => exact hq'.elim
  | .ok .cont, hq' => exact hq'.elim
def fRaiseV {S : Type} (Xi : XiT S) (x f : Str) (fe : FE S) : FS S := fun _ ρ s => fe ρ s fun t s1 => Xi ⟨x, some (f, t)⟩ ρ s1
theorem made_heap {H1 : Hp} {a dx : Addr} {o1 o2 o3 u : HO} (h1 : H1 a = none) (h2 : dx ≠ a) : upd (del (upd (upd (upd H1 a o1) dx o2) a o3) a) dx u = upd H1 dx u := by
  funext b
  by_cases e : b = dx
  · subst e; rw [upd_same, upd_same]
  · rw [upd_ne e, upd_ne e]
    by_cases e2 : b = a
    · subst e2; rw [del_same, h1]
    · rw [del_ne e2, upd_ne e2, upd_ne e, upd_ne e2]
theorem z_raiseV {X : Cx} {A : Amb} {Wx : WX} {Xi : XiT A} {x f : Str} {e : Expr} {te : TE} {fe : FE A} {p pos pos2 : Pos} (hc : X.calm = true) (hr : Room 2 X.A) (tk : L2N.Takes X Wx) (wi : Wish X.mg A Wx Xi) (E : ExV X.K X.mg x f) (he : QE X A true false e te fe) (hg : Gl X x := by rfl) (hdb : (x == ("__debug__" : Str)) = false := by decide)
    (hs : starEach [e] X.env = (false, eval e X.env) :: starEach [] X.env := by rfl) (hpl : (backTo pos (starEach [] X.env)).any (·.1) = false := by rfl) :
    QS X A (.Raise (some (.Call (.Name x p) [e] [] pos)) none pos2) (fun _ σ H => ∀ b C, OexB X.K b C → X.mg x = some (.ref C) → tMkO C (spInit X.K b C f) [] (tCons te tNil) σ H fun cls d H' => Wx cls d σ H') (fRaiseV Xi x f fe) := by
  obtain ⟨b, C, fI, fd, qual, y, st, gC, TC, iC, tI, hno, F, bi, q1, q2, q3, q4, IT⟩ := E.ex
  refine ⟨?_, fun W s0 H0 s σ H ρ P D R hp _ _ _ _ b' C' TC' hC' => ?_⟩
  · have F1 : FnOk X.prog X.w X.K X.mg X.base CX0 1 fI fd ["self", y] (spInit X.K b C f) := init_fn F IT
    have z := L2N.ps_raise (X := X) (pos := pos2) hc tk (pmk_oexB (p := p) (pos := pos) TC iC tI F1 hr bi pass0 hg gC (pa_cons he.pe pa_nil hs) hdb hs hpl)
    exact ⟨fun pins s σ H D I h => z.run pins s σ H D I (h b C TC gC)⟩
  · have eC : C' = C := Value.ref.inj (Option.some.inj (hC'.symm.trans gC))
    subst eC
    refine he.sd W s0 H0 s σ H ρ _ _ R hp fun t s1 v H1 ht R1 st1 r1 => ?_
    refine ⟨(show 1 ≤ 1000 by decide), fun a ha => ⟨a, v, rfl, upd_same, TC', hno, fun dx h1 h2 => ⟨rfl, dx, [(f, v)], upd_same, by rw [upd_ne h2, upd_same], ?_, ?_⟩⟩⟩
    · rw [upd_ne h2] at h1; exact h1
    · rw [upd_ne h2] at h1
      rw [made_heap ha h2]
      exact wi W s0 H0 s1 σ _ ρ ⟨x, some (f, t)⟩ (.ref C') (some dx) (R1.alloc h1 _) ⟨gC, dx, v, rfl, upd_same, R1.fresh h1, r1.rs.stp (Stp.fresh h1)⟩ ht
/-! ### try: .. except C as n: .. -/
def gx (x : XD) (d : Option Addr) : List (D × V) := match x.val, d with
  | some (f, t), some dd => [(.xdt f t, .ref dd)]
  | _, _ => []
/-- the surroundings of the suite -/
abbrev suA (A : Amb) (mg : Str → Option Value) (cls : Value) (d : Option Addr) (x : XD) : Amb := A.wish A.w0 (gx x d ++ A.g0) (fun s H => A.Lk s H ∧ ExD mg cls d x (gx x d ++ A.g0))
theorem exn_su {X : Cx} {A : Amb} {a : Addr} {oe : Obj} {cls : Value} {d : Option Addr} {x : XD} {pn : List (Addr × Obj)} (hz : L2N.Zn cls d oe) (hf : ∃ vs, oe.data = .fields vs) : Exn (X.suite a ((a, oe) :: pn)) X.K X.mg (suA A X.mg cls d x) a oe cls d x :=
  ⟨rfl, rfl, List.mem_cons_self, hz.zc, hf, ⟨rfl, hf.elim fun vs e => ⟨vs, e, hz.2.2 vs e⟩⟩, fun _ _ h => h.2⟩
/-- the clauses over trees -/
inductive HF (S : Type) where
  | nil
  | rest
  | one (c : Str) (f : FS S) (r : HF S)
  | nam (c : Str) (i : Nat) (f : Addr → XD → FS S) (r : HF S)
def fHand {S : Type} (tab : List (Str × Str × Bool)) (Xo : XiT S) : HF S → PEnds S → XD → List Sl → S → Prop
  | .nil, _, x, ρ, s => Xo x ρ s
  | .rest, _, _, _, _ => False
  | .one c f r, P, x, ρ, s => ∃ b, (x.nm, c, b) ∈ tab ∧ (b = true → f P ρ s) ∧ (b = false → fHand tab Xo r P x ρ s)
  | .nam c i f r, P, x, ρ, s => ∃ b, (x.nm, c, b) ∈ tab ∧
    (b = true → ∀ a, f a x { nx := fun ρ2 s2 => P.nx (ρ2.set i .e) s2, rt := P.rt, bk := fun ρ2 s2 => P.bk (ρ2.set i .e) s2, ct := fun ρ2 s2 => P.ct (ρ2.set i .e) s2 } (ρ.set i (.v (.any (.ref a)))) s) ∧ (b = false → fHand tab Xo r P x ρ s)
def fTry {S : Type} (tab : List (Str × Str × Bool)) (Xo : XiT S) (fb : XiT S → FS S) (hs : HF S) : FS S := fun P ρ s => fb (fun x ρ' s' => fHand tab Xo hs P x ρ' s') P ρ s
inductive QHd (X : Cx) (A : Amb) : List ExceptHandler → HdT → HF A.S → Prop
  | nil : QHd X A [] .nil .nil
  | rest (hds : List ExceptHandler) : QHd X A hds .rest .rest
  | one {x : Str} {ts : TS} {f : FS A.S} {b₀ : Stmt} {suite : List Stmt} {np pos' : Pos} {hds : List ExceptHandler} {l : HdT} {hs : HF A.S} (hm : ∃ v, ClsV X.mg x v)
      (hsu : ∀ (a : Addr) (oe : Obj) (cls : Value) (d : Option Addr) (pn : List (Addr × Obj)), L2N.Zn cls d oe → (∃ vs, oe.data = .fields vs) → QSs (X.suite a ((a, oe) :: pn)) A (b₀ :: suite) ts f) (r : QHd X A hds l hs)
      (hg : Gl X x := by rfl) (hdb : (x == ("__debug__" : Str)) = false := by decide) :
      QHd X A (.ExceptHandler (some (.Name x np)) none (b₀ :: suite) pos' :: hds) (.one (clN X.mg x) (fun _ _ _ => ts) l) (.one x f hs)
  | nam {x n : Str} (i : Nat) {ts : Addr → Value → Option Addr → TS} {f : Addr → XD → FS A.S} {b₀ : Stmt} {suite : List Stmt} {np pos' : Pos} {hds : List ExceptHandler} {l : HdT} {hs : HF A.S} (hm : ∃ v, ClsV X.mg x v)
      (hsu : ∀ (a : Addr) (oe : Obj) (cls : Value) (d : Option Addr) (pn : List (Addr × Obj)) (x : XD), L2N.Zn cls d oe → (∃ vs, oe.data = .fields vs) → Exn (X.suite a ((a, oe) :: pn)) X.K X.mg (suA A X.mg cls d x) a oe cls d x → QSs (X.suite a ((a, oe) :: pn)) (suA A X.mg cls d x) (b₀ :: suite) (ts a cls d) (f a x))
      (r : QHd X A hds l hs) (hi : X.N[i]? = some n := by rfl) (hln : X.env.kindOf n = some .local := by rfl) (hg : Gl X x := by rfl) (hdb : (x == ("__debug__" : Str)) = false := by decide) :
      QHd X A (.ExceptHandler (some (.Name x np)) (some n) (b₀ :: suite) pos' :: hds) (.nam (clN X.mg x) i ts l) (.nam x i f hs)
theorem names_cl {X : Cx} {x : Str} (hm : ∃ v, ClsV X.mg x v) (hg : Gl X x) (hdb : (x == ("__debug__" : Str)) = false) : Names X x (clN X.mg x) := by
  obtain ⟨v, h⟩ := hm
  rw [clN_of h]
  exact ⟨hg, hdb, h.1⟩
theorem QHd.ok {X : Cx} {A : Amb} {hds : List ExceptHandler} {l : HdT} {hs : HF A.S} (h : QHd X A hds l hs) : HdG X hds l := by
  induction h with
  | nil => exact .nil
  | rest hds => exact .rest hds
  | one hm hsu r hg hdb ih => exact .one (names_cl hm hg hdb) (fun a oe cls d pn h1 h2 => (hsu a oe cls d pn h1 h2).ps) ih
  | nam i hm hsu r hi hln hg hdb ih => exact .nam (names_cl hm hg hdb) hi hln (fun a oe cls d pn h1 h2 => (hsu a oe cls d pn ⟨"", none⟩ h1 h2 (exn_su h1 h2)).ps) ih
/-- is an exception of the class a taken by the clause c? -/
structure HnT (K : Fg) (mg : Str → Option Value) (a c : Str) (b : Bool) : Prop where
  ex : ∃ va vc, mg a = some va ∧ ClsV mg c vc ∧ PySem.W.exmOne K va vc = some b
theorem tab_nil {K : Fg} {mg : Str → Option Value} : ∀ t ∈ ([] : List (Str × Str × Bool)), HnT K mg t.1 t.2.1 t.2.2 := fun _ h => nomatch h
theorem tab_cons {K : Fg} {mg : Str → Option Value} {a c : Str} {b : Bool} {l : List (Str × Str × Bool)} (h : HnT K mg a c b) (r : ∀ t ∈ l, HnT K mg t.1 t.2.1 t.2.2) : ∀ t ∈ (a, c, b) :: l, HnT K mg t.1 t.2.1 t.2.2 := fun t ht => by
  rcases List.mem_cons.mp ht with e | ht
  · subst e; exact h
  · exact r t ht
theorem ExD.of {mg : Str → Option Value} {B : Ad} {H : Hp} {x : XD} {cls : Value} {d : Option Addr} (h : XdOk mg B H x cls d) (g : List (D × V)) : (∀ p ∈ gx x d, Rs B H p.1 p.2) ∧ ExD mg cls d x (gx x d ++ g) := by
  obtain ⟨nm, val⟩ := x
  cases val with
  | none => exact ⟨fun p hp => (by cases hp), h.1, fun _ => h.2, fun f t z => (by cases z)⟩
  | some pr =>
    obtain ⟨f, t⟩ := pr
    obtain ⟨h0, dd, v, rfl, h1, h2, h3⟩ := h
    refine ⟨fun p hp => ?_, h0, fun z => (by cases z), fun f' t' z => ⟨dd, rfl, ?_⟩⟩
    · obtain rfl := List.mem_singleton.mp hp
      exact .xdt h1 h2 h3
    · cases z
      exact List.mem_append_left _ List.mem_cons_self
section
variable {X : Cx} {A : Amb} {Wo : WX} {Xo : XiT A} {body : List Stmt} {h₀ : ExceptHandler} {hds : List ExceptHandler} {l : HdT} {hs : HF A.S} {tb : WX → TS} {fb : XiT A → FS A} {tab : List (Str × Str × Bool)} {pos : Pos}
theorem try_key {hds : List ExceptHandler} {W : Ot} {s0 : A.S} {H0 : Hp} {P : PEnds A} {D : Ends} (tabOk : ∀ t ∈ tab, HnT X.K X.mg t.1 t.2.1 t.2.2) (wo : Wish X.mg A Wo Xo)
    (nx : ∀ ρ' s' σ' H', P.nx ρ' s' → ER A W s0 H0 s' σ' H' ρ' → D.nx σ' H') (bk : ∀ ρ' s' σ' H', P.bk ρ' s' → ER A W s0 H0 s' σ' H' ρ' → D.bk σ' H') (ct : ∀ ρ' s' σ' H', P.ct ρ' s' → ER A W s0 H0 s' σ' H' ρ' → D.ct σ' H')
    (rt : ∀ r s' v H', P.rt r s' → A.I s' (fun a => W.w a ∨ A.B s' a) H' → Stp A s0 s' H0 H' → (∀ a, W.w a → H' a ≠ none) → RetOk A W s0 H0 s' H' v r → D.rt v H') (hk : QHd X A hds l hs) :
    ∀ {s2 : A.S} {σ2 : Sg} {H2 : Hp} {ρ2 : List Sl} {x : XD} {cls : Value} {d : Option Addr}, ER A W s0 H0 s2 σ2 H2 ρ2 → XdOk X.mg (om true A W s2 σ2 ρ2) H2 x cls d → fHand tab Xo hs P x ρ2 s2 → wG X.K Wo D l cls d σ2 H2 := by
  induction hk with
  | nil =>
    intro s2 σ2 H2 ρ2 x cls d R3 hx h
    exact wo W s0 H0 s2 σ2 H2 ρ2 x cls d R3 hx h
  | rest hds => intro s2 σ2 H2 ρ2 x cls d R3 hx h; exact h
  | one hm hsu r hg hdb ih =>
    intro s2 σ2 H2 ρ2 x cls d R3 hx h
    obtain ⟨b, hmem, hy, hn⟩ := h
    obtain ⟨va, vc, e1, e2, e3⟩ := (tabOk _ hmem).ex
    obtain rfl : cls = va := Option.some.inj (hx.1.symm.trans e1)
    refine ⟨b, by rw [clN_of e2]; exact e3, fun hb a ha => ?_, fun hb => ih R3 hx (hn hb)⟩
    exact (hsu a { cls := cls, dict := d, data := .fields #[.none, .none, .none] } cls d [] ⟨rfl, rfl, fun vs e => by cases e; rfl⟩ ⟨_, rfl⟩).sd W s0 H0 s2 σ2 H2 ρ2 P D R3 (hy hb) nx bk ct rt
  | nam i hm hsu r hi hln hg hdb ih =>
    intro s2 σ2 H2 ρ2 x cls d R3 hx h
    obtain ⟨b, hmem, hy, hn⟩ := h
    obtain ⟨va, vc, e1, e2, e3⟩ := (tabOk _ hmem).ex
    obtain rfl : cls = va := Option.some.inj (hx.1.symm.trans e1)
    refine ⟨b, by rw [clN_of e2]; exact e3, fun hb a ha => ?_, fun hb => ih R3 hx (hn hb)⟩
    obtain ⟨hgh, hD⟩ := ExD.of hx A.g0
    have R4 : ER A (W.keep (gx x d)) s0 H0 s2 (σ2.set i (some (.ref a))) H2 (ρ2.set i (.v (.any (.ref a)))) := (R3.keep hgh).setV i (.any _)
    have R5 : ER (suA A X.mg cls d x) (W.keep (gx x d)) s0 H0 s2 (σ2.set i (some (.ref a))) H2 (ρ2.set i (.v (.any (.ref a)))) :=
      R4.more R4.w0 (fun p hp => (List.mem_append.mp hp).elim (fun z => List.mem_append_right _ z) fun z => List.mem_append_left _ (R3.g0 p z)) ⟨R3.lk, hD⟩
    have off : ∀ {s5 : A.S} {σ5 : Sg} {H5 : Hp} {ρ5 : List Sl}, ER (suA A X.mg cls d x) (W.keep (gx x d)) s0 H0 s5 σ5 H5 ρ5 → ER A W s0 H0 s5 (σ5.set i none) H5 (ρ5.set i .e) := fun {s5 σ5 H5 ρ5} R6 =>
      (show ER A W s0 H0 s5 σ5 H5 ρ5 from R6.less (fun a z => z) (fun p hp => List.mem_append_left _ hp) R3.w0 R3.g0 R3.lk).setN i (x := none) (sl := .e) (fun m z => nomatch z) (fun d z => nomatch z)
    exact (hsu a { cls := cls, dict := d, data := .fields #[.none, .none, .none] } cls d [] x ⟨rfl, rfl, fun vs e => by cases e; rfl⟩ ⟨_, rfl⟩ (exn_su ⟨rfl, rfl, fun vs e => by cases e; rfl⟩ ⟨_, rfl⟩)).sd (W.keep (gx x d)) s0 H0 s2 _ H2 _ _ _ R5 (hy hb a)
      (fun ρ' s' σ' H' h R6 => nx _ _ _ _ h (off R6)) (fun ρ' s' σ' H' h R6 => bk _ _ _ _ h (off R6)) (fun ρ' s' σ' H' h R6 => ct _ _ _ _ h (off R6))
      fun r s' v H' h1 h2 h3 h4 h5 => rt r s' v H' h1 h2 h3.off h4 (by cases r <;> exact h5)
theorem ss_try (tabOk : ∀ t ∈ tab, HnT X.K X.mg t.1 t.2.1 t.2.2) (wo : Wish X.mg A Wo Xo)
    (hb : ∀ (Wx : WX) (w0 : Ad) (g0 : List (D × V)) (Lk : A.S → Hp → Prop) (Xi : XiT A), Wish X.mg (A.wish w0 g0 Lk) Wx Xi → SdS (A.wish w0 g0 Lk) (tb Wx) (fb Xi))
    (hh : QHd X A hds l hs) : SdS A (fun D σ H => tb (wG X.K Wo D l) D σ H) (fTry tab Xo fb hs) := fun W s0 H0 s σ H ρ P D R hp nx bk ct rt => by
  let Lk' : A.S → Hp → Prop := fun s0' H0' => s0 = s0' ∧ H0 = H0'
  have back : ∀ {s5 : A.S} {σ5 : Sg} {H5 : Hp} {ρ5 : List Sl} {W2 : Ot}, ER (A.wish W.w W.g Lk') W2 s0 H0 s5 σ5 H5 ρ5 → ER A W s0 H0 s5 σ5 H5 ρ5 := fun R5 => R5.less R5.w0 R5.g0 R.w0 R.g0 R.lk
  have wi : Wish X.mg (A.wish W.w W.g Lk') (wG X.K Wo D l) (fun x ρ s => fHand tab Xo hs P x ρ s) := fun W2 s0' H0' s2 σ2 H2 ρ2 x cls d R2 hx hxi => by
    obtain ⟨es, eH⟩ := R2.lk
    subst es eH
    exact try_key tabOk wo nx bk ct rt hh (back R2) (hx.weak fun a z => z.imp (R2.w0 a) id) hxi
  refine hb _ W.w W.g Lk' _ wi W s0 H0 s σ H ρ P D (R.more (fun a z => z) (fun p hp => hp) ⟨rfl, rfl⟩) hp (fun ρ' s' σ' H' h R5 => nx ρ' s' σ' H' h (back R5)) (fun ρ' s' σ' H' h R5 => bk ρ' s' σ' H' h (back R5)) (fun ρ' s' σ' H' h R5 => ct ρ' s' σ' H' h (back R5)) fun r s' v H' h1 h2 h3 h4 h5 => rt r s' v H' h1 h2 h3.off h4 (by cases r <;> exact h5)
theorem z_try (hs0 : X.stack = X.env :: X.outer) (hf : X.env.frame = some X.env.locals) (hN : X.N.Nodup) (tko : L2N.Takes X Wo) (wo : Wish X.mg A Wo Xo) (tabOk : ∀ t ∈ tab, HnT X.K X.mg t.1 t.2.1 t.2.2)
    (hb : ∀ (Wx : WX) (pn : List (Addr × Obj)) (xe : Value → Shared → Prop), L2N.Takes (X.tr pn xe) Wx → ∀ (w0 : Ad) (g0 : List (D × V)) (Lk : A.S → Hp → Prop) (Xi : XiT A), Wish X.mg (A.wish w0 g0 Lk) Wx Xi → QSs (X.tr pn xe) (A.wish w0 g0 Lk) body (tb Wx) (fb Xi))
    (hh : QHd X A (h₀ :: hds) l hs) : QS X A (.Try body (h₀ :: hds) [] [] pos) (fun D σ H => tb (wG X.K Wo D l) D σ H) (fTry tab Xo fb hs) :=
  ⟨ps_tryG hs0 hf hN tko (fun Wx pn xe tk _ => (hb Wx pn xe tk (fun _ => False) [] (fun _ _ => True) (fun _ _ _ => False) wish_none).ps) hh.ok,
    ss_try tabOk wo (fun Wx w0 g0 Lk Xi wi => (hb Wx X.pn (fun _ _ => True) (fun _ _ _ => trivial) w0 g0 Lk Xi wi).sd) hh⟩
end
end Pd

set_option maxHeartbeats 4000000
/-! defs that fill tables: lists of rows of ints, rows written in place. Rows are raw addresses while the def runs; its answer is told with the rows' contents. -/
namespace Pd
open PySem PySem.Spec PyProof.Rows L2
abbrev MS := Addr → Option (List Int)
def mset (s : MS) (a : Addr) (row : List Int) : MS := fun b => if b = a then some row else s b
theorem mset_same {s : MS} {a : Addr} {row : List Int} : mset s a row a = some row := if_pos rfl
theorem mset_ne {s : MS} {a b : Addr} {row : List Int} (h : b ≠ a) : mset s a row b = s b := if_neg h
abbrev TM : Amb where
  S := MS
  B := fun s a => s a ≠ none
  I := fun s _ H => ∀ a row, s a = some row → H a = some (.lst (row.map V.int))
  dom := fun {s _ H a} i b e => by
    cases q : s a with
    | none => exact b q
    | some row => rw [i a row q] at e; cases e
  loc := fun {s _ _ H H'} i _ _ e a row q => (e a (by rw [q]; simp)).trans (i a row q)
  cl := fun _ => True
  cln := fun _ i => i
theorem tm_new {s : MS} {H : Hp} {p : Addr} {row : List Int} {R : Ad} (i : TM.I s R H) (hp : H p = none) : TM.I (mset s p row) R (upd H p (.lst (row.map V.int))) ∧ Stp TM s (mset s p row) H (upd H p (.lst (row.map V.int))) := by
  refine ⟨fun a r q => ?_, ⟨fun a o e n => ?_, fun a z => ?_, fun a e => ?_⟩⟩
  · by_cases h : a = p
    · subst h; rw [mset_same] at q; cases q; exact upd_same
    · rw [mset_ne h] at q; rw [upd_ne h]; exact i a r q
  · rw [upd_ne (ne_of_none e hp)]; exact e
  · by_cases h : a = p
    · subst h; exact .inr hp
    · have z : mset s p row a ≠ none := z
      rw [mset_ne h] at z; exact .inl z
  · by_cases h : a = p
    · subst h; rw [upd_same]; simp
    · rw [upd_ne h]; exact e
theorem tm_put {s : MS} {H : Hp} {p : Addr} {row row0 : List Int} {R : Ad} (i : TM.I s R H) (hp : s p = some row0) : TM.I (mset s p row) R (upd H p (.lst (row.map V.int))) ∧ Stp TM s (mset s p row) H (upd H p (.lst (row.map V.int))) := by
  refine ⟨fun a r q => ?_, ⟨fun a o e n => ?_, fun a z => ?_, fun a e => ?_⟩⟩
  · by_cases h : a = p
    · subst h; rw [mset_same] at q; cases q; exact upd_same
    · rw [mset_ne h] at q; rw [upd_ne h]; exact i a r q
  · rw [upd_ne fun h => ?_]
    · exact e
    · subst h; exact n (by show s a ≠ none; rw [hp]; simp)
  · by_cases h : a = p
    · subst h; exact .inl (by show s a ≠ none; rw [hp]; simp)
    · have z : mset s p row a ≠ none := z
      rw [mset_ne h] at z; exact .inl z
  · by_cases h : a = p
    · subst h; rw [upd_same]; simp
    · rw [upd_ne h]; exact e
structure MRow (s : MS) (c : Addr) (Φ : List Int → Prop) : Prop where
  ex : ∃ row, s c = some row ∧ Φ row
/-- [z] * n: a new row -/
def fRowM (fa fb : FE MS) : FE MS := fun ρ s Φ => fa ρ s fun x s1 => fb ρ s1 fun y s2 => match x, y with
  | .lst [.int z], .int n => (-(2 ^ 63) ≤ n ∧ n < 2 ^ 63 ∧ n.toNat ≤ 16777216) ∧ ∀ p, s2 p = none → Φ (.any (.ref p)) (mset s2 p (List.replicate n.toNat z))
  | _, _ => False
def fIxM (fa fb : FE MS) : FE MS := fun ρ s Φ => fa ρ s fun x s1 => fb ρ s1 fun y s2 => match x, y with
  | .any (.ref c), .int j => MRow s2 c fun row => Ix row j fun z => Φ (.int z) s2
  | _, _ => False
def fStoreM (fo fi f : FE MS) : FS MS := fun P ρ s => f ρ s fun d s1 => fo ρ s1 fun x s2 => fi ρ s2 fun k s3 => match d, x, k with
  | .int z, .any (.ref c), .int j => MRow s3 c fun row => SetP row.length j fun n => P.nx ρ (mset s3 c (row.set n z))
  | _, _, _ => False
theorem rep_map (k : Nat) (z : Int) : (List.replicate k [V.int z]).flatten = (List.replicate k z).map V.int := by
  induction k with
  | zero => rfl
  | succ k ih => rw [List.replicate_succ, List.flatten_cons, ih, List.replicate_succ]; rfl
theorem atI_map {row : List Int} {j z : Int} (h : L2.atI row j = some z) : L2.atI (row.map V.int) j = some (V.int z) := by
  unfold L2.atI at h ⊢
  rw [List.length_map]
  cases e : ixN row.length j with
  | none => rw [e] at h; cases h
  | some n =>
    rw [e] at h
    have h : row[n]? = some z := h
    show (row.map V.int)[n]? = some (V.int z)
    rw [List.getElem?_map, h]
    rfl
section
variable {X : Cx} {m sh : Bool} {a b e o i : Expr} {ta tb te to ti : TE} {fa fb fe fo fi : FE MS} {pos p2 : Pos}
theorem q_rowM (ha : QE X TM true true a ta fa) (hb : QE X TM false true b tb fb) : QE X TM m sh (.BinOp a .Mult b pos) (tOp rMulA ta tb) (fRowM fa fb) := by
  refine ⟨pe_op op_mulA ha.pe hb.pe, fun W s0 H0 s σ H ρ Φ Q R hp q => ?_⟩
  refine ha.sd W s0 H0 s σ H ρ _ _ R hp fun x s1 v H1 h1 R1 st1 r1 => hb.sd W s0 H0 s1 σ H1 ρ _ _ R1 h1 fun y s2 w H2 h2 R2 st2 r2 => ?_
  split at h2
  · rename_i z n
    obtain ⟨p, xs, rfl, k1, k2, _⟩ := (r1.stp st2).lst
    obtain rfl := r2.int
    obtain ⟨h3, h4⟩ := h2
    have ex : xs = [V.int z] := RsL.ints (ns := [z]) k2
    subst ex
    refine .inr ⟨p, n, _, rfl, rfl, k1, h3.1, h3.2.1, by rw [line_eq]; show 1 * n.toNat ≤ 16777216; omega, fun p hp => ?_⟩
    rw [rep_map]
    have s2n : s2 p = none := by
      cases q : s2 p with
      | none => rfl
      | some row => exact absurd hp (TM.dom R2.amb (by show s2 p ≠ none; rw [q]; simp))
    obtain ⟨i2, st3⟩ := tm_new (row := List.replicate n.toNat z) R2.amb hp
    exact q _ _ _ _ (h4 p s2n) (R2.go st3 i2) ((st1.trans st2).trans st3) (.inl (.any _))
  · exact h2.elim
theorem q_ixM (ha : QE X TM m true a ta fa) (hb : QE X TM false true b tb fb) (hs : PlainIx b := by exact fun _ _ => rfl) : QE X TM m sh (.Subscript a b pos) (tOp (rIx X.K) ta tb) (fIxM fa fb) := by
  refine ⟨pe_ix ix_seq ha.pe hb.pe hs, fun W s0 H0 s σ H ρ Φ Q R hp q => ?_⟩
  refine ha.sd W s0 H0 s σ H ρ _ _ R hp fun x s1 v H1 h1 R1 st1 r1 => hb.sd W s0 H0 s1 σ H1 ρ _ _ R1 h1 fun y s2 w H2 h2 R2 st2 r2 => ?_
  split at h2
  · rename_i c j
    obtain rfl := r1.any
    obtain rfl := r2.int
    obtain ⟨⟨row, hr, ⟨z, hz, h3⟩⟩⟩ := h2
    exact .inl ⟨c, _, j, _, rfl, rfl, .of (R2.amb c row hr), atI_map hz, q _ s2 _ H2 h3 R2 (st1.trans st2) (.inl (.int z))⟩
  · exact h2.elim
theorem z_storeM (he : QE X TM true false e te fe) (ho : QE X TM true true o to fo) (hi : QE X TM false true i ti fi)
    (hb : ∀ v, assign (.Subscript o i p2) X.env v = (do
      let ov ← holding [v] (eval o X.env)
      let iv ← holding [v, ov] (eval i X.env)
      standAt p2
      holding [v, ov, iv] (setItem ov iv v)
      release [v, ov, iv] []) := by intro _; rfl)
    (hs : swapsWithSole [.Subscript o i p2] e pos.line X.env = pure false := by rfl) (hw : swappedStores [.Subscript o i p2] e X.env = pure none := by rfl) (h1 : (assignEach [.Subscript o i p2] X.env).map (·.2) = [assign (.Subscript o i p2) X.env] := by rfl) :
    QS X TM (.Assign [.Subscript o i p2] e pos) (tAsg te (gSub to ti rSetL)) (fStoreM fo fi fe) := by
  refine ⟨ps_asg he.pe (pg_sub ho.pe hi.pe set_list hb) hs hw h1, fun W s0 H0 s σ H ρ P D R hp nx _ _ _ => ?_⟩
  refine he.sd W s0 H0 s σ H ρ _ _ R hp fun d s1 v H1 hd R1 st1 r1 => ho.sd W s0 H0 s1 σ H1 ρ _ _ R1 hd fun x s2 w H2 h2 R2 st2 r2 => hi.sd W s0 H0 s2 σ H2 ρ _ _ R2 h2 fun k s3 u H3 h3 R3 st3 r3 => ?_
  split at h3
  · rename_i z c j
    obtain rfl := r1.int
    obtain rfl := r2.any
    obtain rfl := r3.int
    obtain ⟨⟨row, hr, ⟨n, en, h4⟩⟩⟩ := h3
    obtain ⟨i2, st4⟩ := tm_put (row := row.set n z) R3.amb hr
    refine ⟨c, _, j, n, rfl, rfl, R3.amb c row hr, by rw [List.length_map]; exact en, nx _ _ _ _ h4 ?_⟩
    have e2 : (row.map V.int).set n (V.int z) = (row.set n z).map V.int := (List.map_set).symm
    rw [e2]
    exact R3.go st4 i2
  · exact h3.elim
end
/-! ### the def as a whole -/
mutual
def cnv (s : MS) : D → D
  | .any v => match v with
    | .ref c => match s c with
      | some row => .lst (row.map D.int)
      | none => .any (.ref c)
    | v => .any v
  | .tup l => .tup (cnvL s l)
  | .lst l => .lst (cnvL s l)
  | .non => .non
  | .bl b => .bl b
  | .int i => .int i
  | .str x => .str x
  | .dct ks vs => .dct ks vs
  | .dtt ks vs => .dtt ks vs
  | .xdt f t => .xdt f t
def cnvL (s : MS) : List D → List D
  | [] => []
  | d :: l => cnv s d :: cnvL s l
end
section
variable {B B' : Ad} {s : MS} {H : Hp}
mutual
theorem cnv_rs {R : Ad} (i : TM.I s R H) (hB : ∀ a, B' a → B a) (hs : ∀ a, s a ≠ none → ¬ B' a) : ∀ {d : D} {v : V}, Rs B H d v → Rs B' H (cnv s d) v
  | _, _, .non => .non
  | _, _, .bl b => .bl b
  | _, _, .int i => .int i
  | _, _, .str x => .str x
  | _, _, .any v => by
    cases v with
    | ref c =>
      unfold cnv
      cases e : s c with
      | none => simp only [e]; exact .any _
      | some row => simp only [e]; exact .lst (i c row e) (hs c (by rw [e]; simp)) (RsL.ofInts row)
    | _ => exact .any _
  | _, _, .tup h n r => .tup h (fun z => n (hB _ z)) (cnvL_rs i hB hs r)
  | _, _, .lst h n r => .lst h (fun z => n (hB _ z)) (cnvL_rs i hB hs r)
  | _, _, .dct h n k r => .dct h (fun z => n (hB _ z)) k (r.weak hB)
  | _, _, .dtt h n k r => .dtt h (fun z => n (hB _ z)) k (r.weak hB)
  | _, _, .xdt h n r => .xdt h (fun z => n (hB _ z)) (r.weak hB)
theorem cnvL_rs {R : Ad} (i : TM.I s R H) (hB : ∀ a, B' a → B a) (hs : ∀ a, s a ≠ none → ¬ B' a) : ∀ {l : List D} {xs : List V}, RsL B H l xs → RsL B' H (cnvL s l) xs
  | _, _, .nil => .nil
  | _, _, .cons h r => .cons (cnv_rs i hB hs h) (cnvL_rs i hB hs r)
end
end
section
variable {P : Program} {w : World} {K : Fg} {mg : Str → Option Value} {base : Heap} {k : Nat} {A : Amb}
theorem cal_ofM {x : Str} {st : Stmt} {N ps : List Str} {np : Nat} {g : Pg A} {ff : FS MS} (F : Dfn K mg x st ps) (S : FnScope N ps (defScope st)) (hnp : ps.length = np) (hN : np ≤ N.length)
    (hb : ∀ (f : Addr) (cdv : Value) (Ar : Around) (out : List Env) (s : Shared) (H : Hp) (E : XK), (Ar.deeper (envOfC x (defScope st) s.heap.objs.size f cdv)).guards = some [] → Room k (Ar.deeper (envOfC x (defScope st) s.heap.objs.size f cdv)) →
      ∃ t, QSs (cxOf CX0 P w K mg base N x (defScope st) f cdv Ar out s H E).nox TM (defBody st) t ff)
    (hp : ∀ (ds : List D) (s : A.S) (Ψ : Ret → A.S → Prop), ds.length = np → g ds s Ψ → ff { nx := fun _ _ => Ψ (.d .non) s, rt := fun r sM => match r with
      | .d d => Ψ (.d (cnv sM d)) s
      | .o _ => False } (startR N ds) (fun _ => none)) : Cal P w K mg base A (k + 1) x np g := by
  obtain ⟨f, fd, F, hm, bi⟩ := F.ex
  refine ⟨f, fd, ps, gn_of F S (fun vs H Q E h => ?_) (fun cdv Ar out s H vs Q E hgd hr h => ?_), hm, F.kp, bi⟩
  · obtain ⟨W, s, ds, Ψ, _, _, r, e, _⟩ := h
    rw [r.length, e, hnp]
  · obtain ⟨W, sa, ds, Ψ, hw, hi, r, e, hg, q⟩ := h
    obtain ⟨t, hq⟩ := hb f cdv Ar out s H E hgd hr
    have w2 : ∀ a, (W a ∨ A.B sa a) → H a ≠ none := fun a z => z.elim (hw a) fun z => A.dom hi z
    have i0 : TM.I (fun _ => none) (fun a => (W a ∨ A.B sa a) ∨ TM.B (fun _ => none) a) H := fun a row z => by cases z
    have stA : ∀ {sM : MS} {H' : Hp}, Stp TM (fun _ => none) sM H H' → Stp A sa sa H H' ∧ A.I sa (fun a => W a ∨ A.B sa a) H' := fun {sM H'} st => by
      have ag : ∀ a o, H a = some o → H' a = some o := fun a o z => st.agr a o z fun n => n rfl
      refine ⟨⟨fun a o z _ => ag a o z, fun a z => .inl z, st.dom⟩, A.loc hi (fun a z => .inl z) (fun a o z _ => ag a o z) fun a z => ?_⟩
      cases q : H a with
      | none => exact (A.dom hi z q).elim
      | some o => exact ag a o q
    refine ⟨t, hq.ps.nox, hq.sd ⟨fun a => W a ∨ A.B sa a, []⟩ (fun _ => none) H (fun _ => none) _ H _ _ _ (start_er (A := TM) (by rw [r.length, e]; exact hN) w2 i0 (r.weak fun a z => z.elim id fun n => (n rfl).elim) (fun a z => z.elim) rfl trivial) (hp ds sa Ψ e hg) (fun ρ' s' σ' H' h R => ?_) (fun _ _ _ _ h => h.elim) (fun _ _ _ _ h => h.elim) fun rr s' v H' h1 h2 h3 h4 h5 => ?_⟩
    · obtain ⟨a1, a2⟩ := stA R.stp
      exact q _ sa .non H' h a2 a1 (fun a z => R.wd a (.inl z)) .non
    · obtain ⟨a1, a2⟩ := stA h3
      cases rr with
      | o _ => exact h1.elim
      | d d =>
        have h5 : Rs (fun a => (W a ∨ A.B sa a) ∨ TM.B s' a) H' d v := h5
        refine q (.d (cnv s' d)) sa v H' h1 a2 a1 (fun a z => h4 a (.inl z)) (cnv_rs h2 (fun a z => .inl z) (fun a n z => ?_) h5)
        exact (h3.new a n).elim (fun z => z rfl) fun e => w2 a z e
end
end Pd

set_option maxHeartbeats 4000000
/-! where an error is handled: iterators' ends, unpacking, loops, comprehensions, calls of defs -/
namespace Pd
open PySem PySem.Spec PyProof.Rows L2 L2H HotX
/-! ### the heap alone -/
section
variable {prog : Program} {w : World} {A : Around} {E : Value → Shared → Prop} {s : Shared}
/-- the exception that is handled, told by its object -/
structure HdAt (A : Around) (x1 : Addr) (o1 : Obj) : Prop where
  hh : A.handled = some (.ref x1)
  ex : ∃ vs : Array Value, o1.data = .fields vs ∧ vs[2]? = some .none
theorem HdAt.hot {x1 : Addr} {o1 : Obj} {h : Heap} (H : HdAt A x1 o1) (e : h.get? x1 = some o1) : HotAt A x1 h := let ⟨vs, h1, h2⟩ := H.ex; ⟨H.hh, o1, vs, e, h1, h2⟩
theorem stop_hot {α : Type} {x1 : Addr} {Q : α → Shared → Prop} (hot : HotAt A x1 s.heap) (hE : ∀ h' e, (∀ b o, s.heap.get? b = some o → h'.get? b = some o) → (∃ o, h'.get? e = some o ∧ o.cls = .type "StopIteration") → E (.ref e) { s with heap := h' }) :
    wpAny (model prog w) A (newExc (.type "StopIteration") [] >>= fun e => (raiseNew e : Sem α)) Q E s := by
  obtain ⟨hh, o1, vs1, h1, d1, c1⟩ := hot
  refine wpAny_bind ?_
  simp only [newExc, newTuple]
  refine wpAny_bind (wpAny_newObj_type ?_ (by size_fits))
  refine wpAny_bind (m := firstArgMember _ _) (wpAny_of_eq (a := Value.none) (by first | rfl | (simp only [firstArgMember]; rfl)) ?_)
  refine wpAny_newObj_type ?_ (by size_fits)
  refine raiseNew_hot ⟨hh, o1, vs1, Heap.get?_push_of_some _ (Heap.get?_push_of_some _ h1), d1, c1⟩ (Nat.ne_of_lt (Heap.lt_size (Heap.get?_push_of_some _ h1))) (Heap.get?_push_size _ rfl) rfl (by first | (simp; done) | (simp; omega) | (simp only [Array.size_append]; simp; omega)) ?_
  refine hE _ _ (fun b u e => ?_) ⟨_, Heap.get?_update_self _ (Heap.get?_push_size _ rfl) rfl, rfl⟩
  have e2 := Heap.get?_push_of_some ({ cls := .type "tuple", data := .seq #[] } : Obj) e
  rw [Heap.get?_update_other _ _ (Nat.ne_of_gt (Heap.lt_size e2))]
  exact Heap.get?_push_of_some _ e2
theorem hot_ne {x1 it : Addr} {o : Obj} {a b : Value} (hot : HotAt A x1 s.heap) (ho : s.heap.get? it = some o) (hd : o.data = .fields #[a, b]) : x1 ≠ it := fun e => by
  obtain ⟨hh, o1, vs1, h1, d1, c1⟩ := hot
  subst e
  rw [ho] at h1
  cases h1
  rw [hd] at d1
  cases d1
  simp at c1
theorem hot_upd {x1 it : Addr} {f : Obj → Obj} (hot : HotAt A x1 s.heap) (hne : x1 ≠ it) : HotAt A x1 (s.heap.update it f) := by
  obtain ⟨hh, o1, vs1, h1, d1, c1⟩ := hot
  exact ⟨hh, o1, vs1, (Heap.get?_update_other _ _ (Ne.symm hne)).trans h1, d1, c1⟩
theorem cs_endH {t : Bool} {it l x1 : Addr} {i : Nat} {its : Array Value} {Q : Option Value → Shared → Prop} (hot : HotAt A x1 s.heap) (hit : ItS t s.heap it l i) (hl : HsS t s.heap l its) (hx : its[i]? = none)
    (hE : ∀ h' e, Heap.ExtBut it s.heap h' → (∃ o, h'.get? e = some o ∧ o.cls = .type "StopIteration") → E (.ref e) { s with heap := h' }) : wpAny (model prog w) A (callSpecial? (.ref it) "__next__") Q E s := by
  cases t with
  | false =>
    obtain ⟨o, ho, hc, hd⟩ := id hit
    obtain ⟨ol, hol, _, nl, hdl⟩ := hl
    refine wpAny_callSpecial?_slot (name := Str.ofString "__next__") (Heap.IsListIter.typeIs hit) slot_listiter_next (wpAny_call_entry slot_listiter_next (Heap.IsListIter.typeIs hit) entry_listiter_next ?_ (args_listiter_next _))
    show wpAny _ _ (field (.ref it) 0 >>= _) _ _ s
    refine wpAny_bind (wpAny_field ho hd (x := .ref l) rfl ?_)
    show wpAny _ _ (if (Value.ref l == Value.none) = true then _ else _) _ _ s
    rw [if_neg (show ¬ ((Value.ref l == Value.none) = true) from Bool.false_ne_true)]
    show wpAny _ _ (field (.ref it) 1 >>= _) _ _ s
    refine wpAny_bind (wpAny_field ho hd (x := .int i 0) rfl ?_)
    show wpAny _ _ (seqItems? (.ref l) >>= _) _ _ s
    refine wpAny_bind (wpAny_seqItems hol hdl ?_)
    simp only [Int.toNat_natCast, hx]
    refine wpAny_bind (wpAny_rule (wpAny_bind (wpAny_setField ho hd (by simp) ?_)))
    exact stop_hot (A := A.in1) (hot_upd hot (hot_ne hot ho hd)) fun h' e k he => hE h' e (fun b u hb eb => k b u ((Heap.get?_update_other _ _ (Ne.symm hb)).trans eb)) he
  | true =>
    obtain ⟨o, ho, hc, hd⟩ := id hit
    obtain ⟨ol, hol, _, nl, hdl⟩ := hl
    refine wpAny_callSpecial?_slot (name := Str.ofString "__next__") (Heap.IsTupleIter.typeIs hit) F.slot_tuple_iterator_next (wpAny_call_entry F.slot_tuple_iterator_next (Heap.IsTupleIter.typeIs hit) F.entry_tuple_iterator_next ?_ (F.args_tuple_iterator_next_1 _))
    show wpAny _ _ (field (.ref it) 0 >>= _) _ _ s
    refine wpAny_bind (wpAny_field ho hd (x := .ref l) rfl ?_)
    show wpAny _ _ (if (Value.ref l == Value.none) = true then _ else _) _ _ s
    rw [if_neg (show ¬ ((Value.ref l == Value.none) = true) from Bool.false_ne_true)]
    show wpAny _ _ (field (.ref it) 1 >>= _) _ _ s
    refine wpAny_bind (wpAny_field ho hd (x := .int i 0) rfl ?_)
    show wpAny _ _ (seqItems? (.ref l) >>= _) _ _ s
    refine wpAny_bind (wpAny_seqItems hol hdl ?_)
    simp only [Int.toNat_natCast, hx]
    refine wpAny_bind (wpAny_rule (wpAny_bind (wpAny_setField ho hd (by simp) ?_)))
    exact stop_hot (A := A.in1) (hot_upd hot (hot_ne hot ho hd)) fun h' e k he => hE h' e (fun b u hb eb => k b u ((Heap.get?_update_other _ _ (Ne.symm hb)).trans eb)) he
theorem nof_endH {t : Bool} {it l x1 : Addr} {i : Nat} {its : Array Value} {Q : Value → Shared → Prop} (hot : HotAt A x1 s.heap) (hit : ItS t s.heap it l i) (hl : HsS t s.heap l its) (hx : its[i]? = none)
    (hE : ∀ h' e, Heap.ExtBut it s.heap h' → (∃ o, h'.get? e = some o ∧ o.cls = .type "StopIteration") → E (.ref e) { s with heap := h' }) : wpAny (model prog w) A (Builtin.SmallTypes.nextOf (.ref it)) Q E s := by
  unfold Builtin.SmallTypes.nextOf
  exact wpAny_bind (cs_endH hot hit hl hx hE)
/-- the iterator has come to its end -/
theorem nx_endH {t : Bool} {it l x1 : Addr} {i : Nat} {its : Array Value} {Q : Option Value → Shared → Prop} (hot : HotAt A x1 s.heap) (hit : ItS t s.heap it l i) (hl : HsS t s.heap l its) (hx : its[i]? = none)
    (hQ : ∀ h', Heap.ExtBut it s.heap h' → Q none { s with heap := h' }) : wpAny (model prog w) A (pyNext (.ref it)) Q E s := by
  unfold pyNext
  exact wpAny_bind (wpAny_attempt (cs_endH hot hit hl hx fun h' e k he => wpAny_bind (let ⟨_, h1, h2⟩ := he; wpAny_isInstance (T := "StopIteration") (b := true) ⟨_, h1, h2⟩ isSubtype_stop (wpAny_pure (hQ h' k)))))
/-- what an iterator of a list or a tuple draws -/
theorem dr_sH {x1 : Addr} {o1 : Obj} (D : HdAt A x1 o1) (t : Bool) (it l : Addr) (hne : l ≠ it) (hx : x1 ≠ it) (its : Array Value) :
    Draws prog w A it [it, l, x1] its.size (fun i v => its[i]? = some v) (fun i h => (ItS t h it l i ∧ HsS t h l its) ∧ h.get? x1 = some o1) where
  live := fun i h st => by
    obtain ⟨⟨h1, _⟩, _⟩ := st
    cases t with
    | true => obtain ⟨o, e, _⟩ := h1; exact ⟨o, e⟩
    | false => obtain ⟨o, e, _⟩ := h1; exact ⟨o, e⟩
  frame := fun i h h' st k => by
    obtain ⟨⟨h1, h2⟩, h3⟩ := st
    refine ⟨⟨it_at h1 fun o e => k it (by simp) o e, ?_⟩, k x1 (by simp) _ h3⟩
    cases t with
    | true => exact Heap.IsTuple.at h2 fun o e => k l (by simp) o e
    | false => exact Heap.IsList.at h2 fun o e => k l (by simp) o e
  item := fun i s Q E hi st hQ => by
    obtain ⟨⟨h1, h2⟩, h3⟩ := st
    cases t with
    | true =>
      refine wpAny_nextOf_tuple_item h1 h2 (x := its[i]) (by simp [hi]) fun h' hit' hs' => ?_
      exact hQ _ h' s.toks (by simp [hi]) ⟨⟨hit', Heap.IsTuple.extBut h2 hs'.extBut hne⟩, hs'.extBut _ _ hx h3⟩ hs'
    | false =>
      refine wpAny_nextOf_list_item h1 h2 (x := its[i]) (by simp [hi]) fun h' hit' hs' => ?_
      exact hQ _ h' s.toks (by simp [hi]) ⟨⟨hit', Heap.IsList.extBut h2 hs'.extBut hne⟩, hs'.extBut _ _ hx h3⟩ hs'
  done := fun s Q E st hE => by
    obtain ⟨⟨h1, h2⟩, h3⟩ := st
    exact nof_endH (D.hot h3) h1 h2 (by simp) hE
/-- a walk through a list -/
theorem walks_listH {x1 : Addr} {o1 : Obj} (D : HdAt A x1 o1) (it l : Addr) (hne : l ≠ it) (hx : x1 ≠ it) (its : Array Value) :
    Walks prog w A it [it, l, x1] [it] its.size (fun i v => its[i]? = some v) (fun i h => (h.IsListIter it l i ∧ h.IsList l its) ∧ h.get? x1 = some o1) where
  sub := fun b hb => by simp at hb; simp [hb]
  frame := fun _ _ _ st k => ⟨⟨st.1.1.at fun o e => k it (by simp) o e, st.1.2.at fun o e => k l (by simp) o e⟩, k x1 (by simp) _ st.2⟩
  item := fun i s Q E hi st hQ => by
    refine wpAny_pyNext_list_item st.1.1 st.1.2 (x := its[i]) (by simp [hi]) fun h' hit' hs' => ?_
    exact hQ _ h' s.toks (by simp [hi]) ⟨⟨hit', st.1.2.extBut hs'.extBut hne⟩, hs'.extBut _ _ hx st.2⟩ fun b o hb e => hs'.extBut b o (fun h => hb (by simp [h])) e
  done := fun s Q E st hQ => nx_endH (t := false) (D.hot st.2) st.1.1 st.1.2 (by simp) fun h' he' => hQ h' s.toks fun b o hb e => he' b o (fun h => hb (by simp [h])) e
  self := fun _ _ _ _ st hQ => wpAny_pyIter_listiter st.1.1 hQ
/-! unpacking -/
theorem unp_tupH {x1 a : Addr} {its : Array Value} {Q : List Value → Shared → Prop} (hot : HotAt A x1 s.heap) (ht : IsTup s.heap a its)
    (hQ : ∀ h', Heap.ExtBut s.heap.objs.size s.heap h' → Q its.toList { s with heap := h' }) : wpAny (model prog w) A (unpackItems (.ref a) its.size none) Q E s := by
  have fr : a ≠ s.heap.objs.size := by obtain ⟨o, ho, _⟩ := ht; exact Nat.ne_of_lt (Heap.lt_size ho)
  have x1f : x1 ≠ s.heap.objs.size := by obtain ⟨_, o, vs, ho, _⟩ := hot; exact Nat.ne_of_lt (Heap.lt_size ho)
  unfold unpackItems
  refine wpAny_bind ?_
  unfold notIterableAtAll
  refine wpAny_bind (wpAny_specialOf ht.typeIs slot_tuple_iter.lookup (wpAny_pure ?_))
  simp only [Bool.false_eq_true, if_false]
  refine wpAny_bind (wpAny_holding (iter_tuple ht (wpAny_bind (wpAny_holding (draw_tuple fr its.size 0 _ _ ⟨_, Heap.get?_push_size _ rfl, rfl, rfl⟩ (ht.push _) (by omega) fun h1 it1 sb1 => ?_)))))
  rw [show List.take its.size (List.drop 0 its.toList) = its.toList by rw [List.drop_zero]; exact List.take_of_length_le (by simp), if_neg (by simp)]
  have ht1 : IsTup h1 a its := (ht.push _).extBut sb1.extBut fr
  have hot1 : HotAt A x1 h1 := by
    obtain ⟨hh, o, vs, e1, e2, e3⟩ := hot
    exact ⟨hh, o, vs, sb1.extBut _ _ x1f (Heap.get?_push_of_some _ e1), e2, e3⟩
  refine wpAny_bind (wpAny_holding (nx_endH (t := true) hot1 it1 ht1 (by simp) fun h2 ex2 => ?_))
  simp only [Option.isSome_none, Bool.false_eq_true, if_false]
  exact wpAny_pure (hQ h2 fun b o hb e => ex2 b o hb (sb1.extBut b o hb (Heap.get?_push_of_some _ e)))
theorem unp_lstH {x1 a : Addr} {its : Array Value} {Q : List Value → Shared → Prop} (hot : HotAt A x1 s.heap) (ht : s.heap.IsList a its)
    (hQ : ∀ h', Heap.ExtBut s.heap.objs.size s.heap h' → Q its.toList { s with heap := h' }) : wpAny (model prog w) A (unpackItems (.ref a) its.size none) Q E s := by
  have fr : a ≠ s.heap.objs.size := by obtain ⟨o, ho, _⟩ := ht; exact Nat.ne_of_lt (Heap.lt_size ho)
  have x1f : x1 ≠ s.heap.objs.size := by obtain ⟨_, o, vs, ho, _⟩ := hot; exact Nat.ne_of_lt (Heap.lt_size ho)
  unfold unpackItems
  refine wpAny_bind ?_
  unfold notIterableAtAll
  refine wpAny_bind (wpAny_specialOf ht.typeIs slot_list_iter.lookup (wpAny_pure ?_))
  simp only [Bool.false_eq_true, if_false]
  refine wpAny_bind (wpAny_holding (wpAny_pyIter_list ht (wpAny_bind (wpAny_holding (PySem.W.kun_draw fr its.size 0 _ _ ⟨_, Heap.get?_push_size _ rfl, rfl, rfl⟩ (ht.push _) (by omega) fun h1 it1 sb1 => ?_)))))
  rw [show List.take its.size (List.drop 0 its.toList) = its.toList by rw [List.drop_zero]; exact List.take_of_length_le (by simp), if_neg (by simp)]
  have ht1 : h1.IsList a its := (ht.push _).extBut sb1.extBut fr
  have hot1 : HotAt A x1 h1 := by
    obtain ⟨hh, o, vs, e1, e2, e3⟩ := hot
    exact ⟨hh, o, vs, sb1.extBut _ _ x1f (Heap.get?_push_of_some _ e1), e2, e3⟩
  refine wpAny_bind (wpAny_holding (nx_endH (t := false) hot1 it1 ht1 (by simp) fun h2 ex2 => ?_))
  simp only [Option.isSome_none, Bool.false_eq_true, if_false]
  exact wpAny_pure (hQ h2 fun b o hb e => ex2 b o hb (sb1.extBut b o hb (Heap.get?_push_of_some _ e)))
end
end Pd

set_option maxHeartbeats 4000000
/-! where an error is handled: rules of the hand layer -/
namespace Pd
open PySem PySem.Spec PyProof.Rows L2 L2H HotX
section
variable {X : Cx}
theorem hot_pin (hc : HotC X) : ∃ p : Addr × Obj, p ∈ X.pn ∧ HdAt X.A p.1 p.2 := let ⟨p, ⟨h1, h2⟩, h3⟩ := hc; ⟨p, h3, h1, h2⟩
theorem hot_at {pins : List (Addr × Obj)} {σ : Sg} {H : Hp} {s : Shared} {p : Addr × Obj} (hp : p ∈ X.pn) (J : Inv X pins σ H s) : s.heap.get? p.1 = some p.2 := (J.pin p (List.mem_append_left _ hp)).1
end
theorem turn_listH {P : Program} {w : World} {K : Fg} {tg : Expr} (a it : Addr) : TurnH P w K tg (Itl K a) [it] it (fun i h => h.IsListIter it a i) where
  mem := by simp
  obj := (turn_list (P := P) (w := w) (K := K) (tg := tg) a it).obj
  keep := (turn_list (P := P) (w := w) (K := K) (tg := tg) a it).keep
  item := by
    intro X hP hw hK hc i pins s σ H E J hf st hg
    subst hP hw hK
    obtain ⟨xs, x, hq, hx⟩ := hg
    obtain ⟨its, rv, p, hz⟩ := J.list hq
    obtain ⟨u, hu, ru⟩ := rv.get hx
    obtain ⟨n0, n1, n2, n3, n4, n5⟩ := hf it (by simp)
    refine wpAny_pyNext_list_item st p.isList (x := u) (by simpa using hu) fun h' st' sb => ?_
    have J1 : Inv X pins σ H { s with heap := h' } := J.turned (t' := s.toks) (fun b o hb e => (sb.2 b hb).trans e) n0 n1 n3 n4 n5
    obtain ⟨o, e, c, d⟩ := id st'
    exact ⟨u, rfl, go_of (s := { s with heap := h' }) e c d (by decide) ⟨x, H, J1, ru, ⟨rfl, fun ys hy => by rw [J.list_inj hy hq]; exact hx⟩, st', fun b hb => (hf b hb).1⟩⟩
  done := by
    intro X hP hw hK hc i pins s σ H E J hf st hg
    subst hP hw hK
    obtain ⟨xs, hq, hx⟩ := hg
    obtain ⟨its, rv, p, hz⟩ := J.list hq
    obtain ⟨n0, n1, n2, n3, n4, n5⟩ := hf it (by simp)
    obtain ⟨x1, hot⟩ := hc.at J
    have hl := rv.length
    exact nx_endH (t := false) hot st p.isList (by simp; omega) fun h' eb => ⟨rfl, J.turned (t' := s.toks) (fun b o hb e => eb b o hb e) n0 n1 n3 n4 n5⟩
  self := fun _ _ _ _ _ st h => wpAny_pyIter_listiter st h
theorem turn_tupH {P : Program} {w : World} {K : Fg} {tg : Expr} (a it : Addr) : TurnH P w K tg (Itt K a) [it] it (fun i h => h.IsTupleIter it a i) where
  mem := by simp
  obj := (turn_tuple (P := P) (w := w) (K := K) (tg := tg) a it).obj
  keep := (turn_tuple (P := P) (w := w) (K := K) (tg := tg) a it).keep
  item := by
    intro X hP hw hK hc i pins s σ H E J hf st hg
    subst hP hw hK
    obtain ⟨xs, x, hq, hx⟩ := hg
    obtain ⟨its, rv, p, hz⟩ := J.tuple hq
    obtain ⟨u, hu, ru⟩ := rv.get hx
    obtain ⟨n0, n1, n2, n3, n4, n5⟩ := hf it (by simp)
    refine wpAny_pyNext_tuple_item st (show s.heap.IsTuple a its.toArray from p) (x := u) (by simpa using hu) fun h' st' sb => ?_
    have J1 : Inv X pins σ H { s with heap := h' } := J.turned (t' := s.toks) (fun b o hb e => (sb.2 b hb).trans e) n0 n1 n3 n4 n5
    obtain ⟨o, e, c, d⟩ := id st'
    exact ⟨u, rfl, go_of (s := { s with heap := h' }) e c d (by decide) ⟨x, H, J1, ru, ⟨rfl, fun ys hy => by rw [J.tuple_inj hy hq]; exact hx⟩, st', fun b hb => (hf b hb).1⟩⟩
  done := by
    intro X hP hw hK hc i pins s σ H E J hf st hg
    subst hP hw hK
    obtain ⟨xs, hq, hx⟩ := hg
    obtain ⟨its, rv, p, hz⟩ := J.tuple hq
    obtain ⟨n0, n1, n2, n3, n4, n5⟩ := hf it (by simp)
    obtain ⟨x1, hot⟩ := hc.at J
    have hl := rv.length
    exact nx_endH (t := true) hot st (show s.heap.IsTuple a its.toArray from p) (by simp; omega) fun h' eb => ⟨rfl, J.turned (t' := s.toks) (fun b o hb e => eb b o hb e) n0 n1 n3 n4 n5⟩
  self := fun _ _ _ _ _ st h => wpAny_pyIter_tupleiter st h
theorem turn_zipH {P : Program} {w : World} {K : Fg} {elts : List Expr} {kk : Nat} {tpos : Pos} {t1 t2 : Bool} {n1 n2 : Nat} {a b z TI TO i1 i2 : Addr} (S : ZipSep2 z TI TO i1 i2 [i1, a] [i2, b]) (na : a ≠ i1) (nb : b ≠ i2) :
    TurnH P w K (.Tuple elts kk tpos) (Itm K t1 t2 n1 n2 a b) [z, TI, TO, i1, i2] z (ZSt t1 t2 n1 n2 a b z TI TO i1 i2) where
  mem := by simp
  obj := (turn_zipM (P := P) (w := w) (K := K) (elts := elts) (kk := kk) (tpos := tpos) (t1 := t1) (t2 := t2) (n1 := n1) (n2 := n2) S na nb).obj
  keep := (turn_zipM (P := P) (w := w) (K := K) (elts := elts) (kk := kk) (tpos := tpos) (t1 := t1) (t2 := t2) (n1 := n1) (n2 := n2) S na nb).keep
  item := by
    intro X hP hw hK hc i pins s σ H E J hf st hg
    subst hP hw hK
    obtain ⟨hz, hTI, ⟨x0, y0, hTO⟩, h1, h2, l1, l2⟩ := st
    obtain ⟨xs, ys, x, y, hqx, hqy, e1, e2, hx, hy⟩ := hg
    obtain ⟨its, rv, p, _⟩ := inv_sqs J hqx
    obtain ⟨its2, rv2, p2, _⟩ := inv_sqs J hqy
    obtain ⟨u, hu, ru⟩ := rv.get hx
    obtain ⟨u2, hu2, ru2⟩ := rv2.get hy
    have hzl : z < s.heap.objs.size := Heap.lt_size hz
    have m1 : i < its.toArray.size := by simpa using (List.getElem?_eq_some_iff.mp hu).1
    have m2 : i < its2.toArray.size := by simpa using (List.getElem?_eq_some_iff.mp hu2).1
    have b1 : i < n1 := by rw [← e1]; exact (List.getElem?_eq_some_iff.mp hx).1
    have b2 : i < n2 := by rw [← e2]; exact (List.getElem?_eq_some_iff.mp hy).1
    obtain ⟨pp, hpp, hd⟩ := hot_pin hc
    have gp := hot_at hpp J
    have fp : ∀ c ∈ [z, TI, TO, i1, i2], pp.1 ≠ c := fun c hcm => (hf c hcm).2.2.2.2.2 pp (List.mem_append_left _ hpp)
    have S' : ZipSep2 z TI TO i1 i2 [i1, a, pp.1] [i2, b, pp.1] := {
      TIz := S.TIz, TOz := S.TOz, TITO := S.TITO, TIi1 := S.TIi1, TIi2 := S.TIi2, mem1 := by simp, mem2 := by simp
      zf1 := fun q => by
        simp only [List.mem_cons, List.not_mem_nil, or_false] at q
        rcases q with q | q | q
        · exact S.zf1 (by simp [q])
        · exact S.zf1 (by simp [q])
        · exact fp z (by simp) q.symm
      Tf1 := fun q => by
        simp only [List.mem_cons, List.not_mem_nil, or_false] at q
        rcases q with q | q | q
        · exact S.Tf1 (by simp [q])
        · exact S.Tf1 (by simp [q])
        · exact fp TO (by simp) q.symm
      zf2 := fun q => by
        simp only [List.mem_cons, List.not_mem_nil, or_false] at q
        rcases q with q | q | q
        · exact S.zf2 (by simp [q])
        · exact S.zf2 (by simp [q])
        · exact fp z (by simp) q.symm
      Tf2 := fun q => by
        simp only [List.mem_cons, List.not_mem_nil, or_false] at q
        rcases q with q | q | q
        · exact S.Tf2 (by simp [q])
        · exact S.Tf2 (by simp [q])
        · exact fp TO (by simp) q.symm
      sep1_2 := fun q => by
        simp only [List.mem_cons, List.not_mem_nil, or_false] at q
        rcases q with q | q | q
        · exact S.sep1_2 (by simp [q])
        · exact S.sep1_2 (by simp [q])
        · exact fp i1 (by simp) q.symm
      sep2_1 := fun q => by
        simp only [List.mem_cons, List.not_mem_nil, or_false] at q
        rcases q with q | q | q
        · exact S.sep2_1 (by simp [q])
        · exact S.sep2_1 (by simp [q])
        · exact fp i2 (by simp) q.symm }
    have hd' : HdAt X.A.in1 pp.1 pp.2 := ⟨hd.hh, hd.ex⟩
    refine wpAny_pyNext_zipD2_item S' (dr_sH hd' t1 i1 a na (fp i1 (by simp)) its.toArray) (dr_sH hd' t2 i2 b nb (fp i2 (by simp)) its2.toArray) hz hTI hTO ⟨⟨h1, p⟩, gp⟩ ⟨⟨h2, p2⟩, gp⟩ m1 m2 ?_
    intro v1 v2 h' tk hv1 hv2 z' TO' q1 q2 hT hsz hk
    have ev1 : v1 = u := by
      have : its[i]? = some v1 := by simpa using hv1
      exact Option.some.inj (this.symm.trans hu)
    have ev2 : v2 = u2 := by
      have : its2[i]? = some v2 := by simpa using hv2
      exact Option.some.inj (this.symm.trans hu2)
    subst ev1 ev2
    refine ⟨_, rfl, wpAny_letOwnedTupleGo_zip (s := { s with heap := h', toks := tk }) z' fun h'' z'' sb => ?_⟩
    have hT2 : h''.get? s.heap.objs.size = some { cls := .type "tuple", data := .seq #[v1, v2] } := (sb.2 _ (Nat.ne_of_gt hzl)).trans hT
    have new : ObjOk X.prog X.w (upd H s.heap.objs.size (.tup [x, y])) h'' s.heap.objs.size (.tup [x, y]) :=
      ⟨by show 2 ≤ sizeLine; decide, [v1, v2], .cons ru (.cons ru2 .nil), ⟨_, hT2, rfl, _, rfl⟩⟩
    have J1 : Inv X pins σ (upd H s.heap.objs.size (.tup [x, y])) { s with heap := h'', toks := tk } :=
      J.turnedNew (t' := tk) (ch := [z, TI, TO, i1, i2]) (fun c o hb q => (sb.2 c (fun q' => hb (by simp [q']))).trans (hk c o (fun q' => hb (by simp [q'])) (fun q' => hb (by simp [q'])) (fun q' => hb (by simp [q'])) (fun q' => hb (by simp [q'])) q)) hf (Nat.le_refl _) new
    have nz1 : i1 ≠ z := fun e => S.zf1 (by rw [← e]; exact S.mem1)
    have nz2 : i2 ≠ z := fun e => S.zf2 (by rw [← e]; exact S.mem2)
    refine ⟨.ref s.heap.objs.size, _, J1, rfl, ⟨_, x, y, rfl, J.hok.fresh (Nat.le_refl _), rfl, fun l hl => by rw [inv_sqs_inj J hl hqx]; exact hx, fun l hl => by rw [inv_sqs_inj J hl hqy]; exact hy⟩, ⟨z'', ?_, ⟨v1, v2, ?_⟩, ?_, ?_, b1, b2⟩, fun c hcm => ?_⟩
    · exact (sb.2 _ S.TIz).trans (hk _ _ S.TIz S.TITO S.TIi1 S.TIi2 hTI)
    · exact (sb.2 _ S.TOz).trans TO'
    · exact it_at q1.1.1 fun o q => (sb.2 _ nz1).trans q
    · exact it_at q2.1.1 fun o q => (sb.2 _ nz2).trans q
    · have hlt : c < s.heap.objs.size := by
        simp only [List.mem_cons, List.not_mem_nil, or_false] at hcm
        rcases hcm with rfl | rfl | rfl | rfl | rfl
        · exact hzl
        · exact Heap.lt_size hTI
        · exact Heap.lt_size hTO
        · obtain ⟨_, e, _⟩ := it_obj h1; exact Heap.lt_size e
        · obtain ⟨_, e, _⟩ := it_obj h2; exact Heap.lt_size e
      rw [upd_ne (Nat.ne_of_lt hlt)]
      exact (hf c hcm).1
  done := by
    intro X hP hw hK hc i pins s σ H E J hf st hg
    subst hP hw hK
    obtain ⟨hz, hTI, ⟨x0, y0, hTO⟩, h1, h2, l1, l2⟩ := st
    obtain ⟨xs, ys, hqx, hqy, e1, e2, hend⟩ := hg
    obtain ⟨its, rv, p, _⟩ := inv_sqs J hqx
    obtain ⟨its2, rv2, p2, _⟩ := inv_sqs J hqy
    obtain ⟨pp, hpp, hd⟩ := hot_pin hc
    have gp := hot_at hpp J
    have fp : ∀ c ∈ [z, TI, TO, i1, i2], pp.1 ≠ c := fun c hcm => (hf c hcm).2.2.2.2.2 pp (List.mem_append_left _ hpp)
    have no : ∀ {c : Addr} {l : List Addr}, c ∈ [z, TI, TO, i1, i2] → c ∉ l → c ∉ l ++ [pp.1] := fun {c l} hcm hn q => by
      rcases List.mem_append.mp q with q | q
      · exact hn q
      · exact fp c hcm (List.mem_singleton.mp q).symm
    have S' : ZipSep2 z TI TO i1 i2 ([i1, a] ++ [pp.1]) ([i2, b] ++ [pp.1]) :=
      { TIz := S.TIz, TOz := S.TOz, TITO := S.TITO, TIi1 := S.TIi1, TIi2 := S.TIi2, mem1 := by simp, mem2 := by simp, zf1 := no (by simp) S.zf1, Tf1 := no (by simp) S.Tf1, zf2 := no (by simp) S.zf2, Tf2 := no (by simp) S.Tf2, sep1_2 := no (by simp) S.sep1_2, sep2_1 := no (by simp) S.sep2_1 }
    have hd' : HdAt X.A.in1 pp.1 pp.2 := ⟨hd.hh, hd.ex⟩
    have z1 : its.toArray.size = n1 := by rw [List.size_toArray, ← rv.length, e1]
    have z2 : its2.toArray.size = n2 := by rw [List.size_toArray, ← rv2.length, e2]
    exact wpAny_pyNext_zipD2_end S' (dr_sH hd' t1 i1 a na (fp i1 (by simp)) its.toArray) (dr_sH hd' t2 i2 b nb (fp i2 (by simp)) its2.toArray) hz hTI hTO ⟨⟨h1, p⟩, gp⟩ ⟨⟨h2, p2⟩, gp⟩ (by omega) (by omega) (by omega) fun h' tk hk => ⟨rfl, J.turnedL (t' := tk) (ch := [z, TI, TO, i1, i2]) (fun c o hb q =>
      hk c o (fun q' => hb (by simp [q'])) (fun q' => hb (by simp [q'])) (fun q' => hb (by simp [q'])) (fun q' => hb (by simp [q'])) q) hf⟩
  self := fun A i s Q E st h => wpAny_pyIter_zip st.1 h
section
variable {X : Cx} {tg : Expr}
theorem pi_seqH {l : Expr} {tl : TE} (hl : PE X l tl) : PIH X tg l (iSeq X.K tl) := by
  constructor
  intro pins s σ H R J h
  refine thn (hl.run pins s σ H _ J h) fun v s1 ⟨x, H1, J1, r1, q1⟩ => ?_
  have fr : ∀ b ∈ [s1.heap.objs.size], FpOk X pins H1 b := fun b hb => by
    obtain rfl : b = s1.heap.objs.size := by simpa using hb
    exact J1.fpOk (Nat.le_refl _) (J1.hok.fresh (Nat.le_refl _))
  rcases q1 with ⟨a, rfl, ⟨xs, hq⟩, q⟩ | ⟨a, rfl, ⟨xs, hq⟩, q⟩
  · cases r1
    obtain ⟨its, rv, p, hz⟩ := J1.list hq
    exact wpAny_pyIter_list p.isList ⟨s1.heap.objs.size, [s1.heap.objs.size], _, _, H1, rfl, J1.kept (t' := s1.toks) fun b o e => Heap.get?_push_of_some _ e, turn_listH a _, ⟨_, Heap.get?_push_size _ rfl, rfl, rfl⟩, fr, q⟩
  · cases r1
    obtain ⟨its, rv, p, hz⟩ := J1.tuple hq
    exact iter_tuple p ⟨s1.heap.objs.size, [s1.heap.objs.size], _, _, H1, rfl, J1.kept (t' := s1.toks) fun b o e => Heap.get?_push_of_some _ e, turn_tupH a _, ⟨_, Heap.get?_push_size _ rfl, rfl, rfl⟩, fr, q⟩
theorem pi_zipH {e e2 : Expr} {ta : TA} {p pos tpos : Pos} {elts : List Expr} {kk : Nat} (hg : Gl X "zip") (hm : X.mg "zip" = none) (ha : PA X [e, e2] ta)
    (hs : starEach [e, e2] X.env = (false, eval e X.env) :: starEach [e2] X.env := by rfl) (hpl : (backTo pos (starEach [e2] X.env)).any (·.1) = false := by rfl) :
    PIH X (.Tuple elts kk tpos) (.Call (.Name "zip" p) [e, e2] [] pos) (iZipM X.K ta) := by
  constructor
  intro pins s σ H R J h
  refine Call_ (ld_blt J hg hm PyProof.Rows.boot_zip (PyProof.Rows.callWith_type1 (thn (ha.run pos pins s σ H _ J h) fun us s1 ⟨vs, H1, J1, r1, q1⟩ => ?_) hs hpl))
  obtain ⟨t1, t2, a, b, xs, ys, rfl, hqx, hqy, q⟩ := q1
  cases r1 with
  | cons r rr =>
    cases rr with
    | cons r' rr =>
      cases rr
      cases r
      cases r'
      obtain ⟨its, rv, p1, la⟩ := inv_sqs J1 hqx
      obtain ⟨its2, rv2, p2, lb⟩ := inv_sqs J1 hqy
      refine zip_begins2 (beg_s t1 a its.toArray) (beg_s t2 b its2.toArray) p1 p2 fun h' hz hTI hTO h1 h2 hsz hk => wpAny_pyIter_zip hz ?_
      have J2 : Inv X pins σ H1 { s1 with heap := h' } := J1.kept (t' := s1.toks) hk
      refine ⟨s1.heap.objs.size + 4, [s1.heap.objs.size + 4, s1.heap.objs.size + 2, s1.heap.objs.size + 3, s1.heap.objs.size, s1.heap.objs.size + 1], _, _, H1, rfl, J2, turn_zipH (zip_sep2 (fp1 := [a]) (fp2 := [b]) (fun x hx => ?_) fun x hx => ?_) (Nat.ne_of_lt la) (Nat.ne_of_lt (Nat.lt_succ_of_lt lb)), ⟨hz, hTI, ⟨_, _, hTO⟩, it_new h1, it_new h2, Nat.zero_le _, Nat.zero_le _⟩, fun c hcm => ?_, q⟩
      · rw [List.mem_singleton.mp hx]; exact la
      · rw [List.mem_singleton.mp hx]; exact lb
      · have hle : s1.heap.objs.size ≤ c := by
          simp only [List.mem_cons, List.not_mem_nil, or_false] at hcm
          rcases hcm with rfl | rfl | rfl | rfl | rfl <;> omega
        exact J1.fpOk hle (J1.hok.fresh hle)
/-! a, b = v -/
theorem pg_seqH {pos : Pos} {es : List Expr} {k : Nat} {t : TGs} {n : Nat} (hc : HotC X) (h : PGs X es t)
    (hn : (assignEach es X.env).length = n := by rfl) (hst : (assignEach es X.env).findIdx? (·.1) = none := by rfl) : PG X (.Tuple es k pos) (gSeq X.K n t) := by
  constructor
  intro pins s σ H v u Q J r hw
  obtain ⟨x1, hot⟩ := hc.at J
  rw [PyProof.Rows.assign_Tuple]
  refine wpAny_bind (wpAny_standAt ?_)
  unfold unpack
  rcases hw with ⟨a, xs, rfl, hq, hl, hw⟩ | ⟨a, xs, rfl, hq, hl, hw⟩
  · cases r
    obtain ⟨its, rv, ht, hz⟩ := J.tuple hq
    have hn' : (assignEach es X.env).length = its.toArray.size := hn.trans (hl.symm.trans (rv.length.trans (by simp)))
    rw [hn', hst]
    refine wpAny_bind (wpAny_holding (unp_tupH hot ht fun h' hx => ?_))
    have J1 : Inv X pins σ H { s with heap := h' } := J.kept (t' := s.toks) fun b o e => hx b o (Nat.ne_of_lt (Heap.lt_size e)) e
    exact h.run pins _ σ H xs _ Q J1 (by simpa using rv) hw
  · cases r
    obtain ⟨its, rv, pl, hz⟩ := J.list hq
    have hn' : (assignEach es X.env).length = its.toArray.size := hn.trans (hl.symm.trans (rv.length.trans (by simp)))
    rw [hn', hst]
    refine wpAny_bind (wpAny_holding (unp_lstH hot pl.isList fun h' hx => ?_))
    have J1 : Inv X pins σ H { s with heap := h' } := J.kept (t' := s.toks) fun b o e => hx b o (Nat.ne_of_lt (Heap.lt_size e)) e
    exact h.run pins _ σ H xs _ Q J1 (by simpa using rv) hw
theorem cr_allH (hc : HotC X) : CallR X (.builtin "all") (rAll X.K) := by
  intro pins s σ H vs us Q J r h
  obtain ⟨a, bs, rfl, hs, q⟩ := h
  obtain ⟨its, rv, hl, _⟩ := J.list hs
  rw [Vals.ref1 r]
  have hb := rv.bls
  obtain ⟨pp, hpp, hd⟩ := hot_pin hc
  have gp := hot_at hpp J
  refine call_all_walk (iter_any hl.isList fun s2 e2 st hne => ?_)
  subst e2
  have lp : pp.1 < s.heap.objs.size := Heap.lt_size gp
  refine ⟨_, _, _, _, _, _, _, rfl, walks_listH (A := X.A.in1) (x1 := pp.1) (o1 := pp.2) ⟨hd.hh, hd.ex⟩ _ a hne (Nat.ne_of_lt lp) its.toArray, ⟨st, Heap.get?_push_of_some _ gp⟩, truth_bools hb, fun h' tk hk => ?_⟩
  refine ⟨.bl _, H, J.kept fun b o eo => hk b o (fun hmem => ?_) (Heap.get?_push_of_some _ eo), ?_, q⟩
  · obtain rfl := List.mem_singleton.mp hmem
    exact absurd (Heap.lt_size eo) (Nat.lt_irrefl _)
  · show Value.bool _ = Value.bool _
    rw [← L2.all_range, hb, List.size_toArray, List.length_map]
end
end Pd

set_option maxHeartbeats 4000000
/-! where an error is handled: comprehensions, calls of defs; the tree rules -/
namespace Pd
open PySem PySem.Spec PyProof.Rows L2 L2H HotX
abbrev blkH (X : Cx) (s : Shared) (H : Hp) (scope : Scope) (cenv : Env) (fp : List Addr) : Cx := { X.blk s H scope cenv fp with pn := X.pn }
theorem hot_blk {X : Cx} {s : Shared} {H : Hp} {scope : Scope} {cenv : Env} {fp : List Addr} (hc : HotC X) : HotC (blkH X s H scope cenv fp) := hc
section
variable {X : Cx} {pins : List (Addr × Obj)} {σ : Sg} {H : Hp} {s : Shared}
theorem blkH_start {scope : Scope} {own : List (Str × Nat)} {fp : List Addr} (J : Inv X pins σ H s) (ok : BlkOk X.N X.env.scope scope own) (hN : X.N.Nodup) (hfp : ∀ b ∈ fp, FpOk X pins H b ∧ b < s.heap.objs.size) :
    Inv (blkH X s H scope (compEnvC scope (cellsFrom (s.heap.objs.size + 1) scope.names (cloFrom X.env.cells scope.names [])) s.heap.objs.size X.env) fp) [] (wipe σ (own.map (·.2))) H { s with heap := pushCells (s.heap.push { cls := .type "dict", data := .dict #[] }) scope.names } := by
  have B := block_start J ok hN hfp
  have k := B.ok
  refine ⟨⟨k.mod, k.kind, k.glob, k.blt, k.above, k.inj, k.has, k.cab, k.hd, k.frames, k.stk, k.exf, k.bs, k.bsz, k.noex, k.exfs, k.funs, k.frf⟩, B.os, B.bare, B.base, B.loc, B.cell, B.free, B.freeC, fun p hp => ?_, B.hok, B.len⟩
  have hp' : p ∈ X.pn := by rw [List.append_nil] at hp; exact hp
  obtain ⟨g, n, nl, nf, nc⟩ := J.pin p (List.mem_append_left _ hp')
  refine ⟨pushCells_keeps _ _ _ _ (Heap.get?_push_of_some _ g), n, Nat.ne_of_lt (Heap.lt_size g), fun hm => ?_, nc⟩
  rcases List.mem_cons.mp (J.stkSub p.1 hm) with z | z
  · exact nl z
  · exact nf z
theorem lcH_core {Q : VK} {elt tg iter : Expr} {ifs : List Expr} {scope : Scope} {own : List (Str × Nat)} {pos pos' : Pos} {wi : TI} {g : TG} {tt : TT} {te : TE} {use : Option (Value → Sem Unit)} {Qf : Value → Shared → Prop}
    (hc : HotC X) (hN : X.N.Nodup) (J : Inv X pins σ H s) (hi : PIH X tg iter wi) (ok : BlkOk X.N X.env.scope scope own)
    (hg : ∀ (s : Shared) (H : Hp) (C : Addr) (cl : List (Str × Addr)) (fp : List Addr), PG (blkH X s H scope (compEnvC scope cl C X.env) fp) tg g) (ht : ∀ (s : Shared) (H : Hp) (C : Addr) (cl : List (Str × Addr)) (fp : List Addr), PTs (blkH X s H scope (compEnvC scope cl C X.env) fp) ifs tt)
    (he : ∀ (s : Shared) (H : Hp) (C : Addr) (cl : List (Str × Addr)) (fp : List Addr), PE (blkH X s H scope (compEnvC scope cl C X.env) fp) elt te) (hs : ∀ x, foldedSetIterable iter X.env x = pure x)
    (h : tLc wi g tt te (own.map (·.2)) σ H Q)
    (hRR : ∀ D C s' m H', Inv X pins σ H' s' → Q (.ref D) H' → s'.heap.Ns C m → FpOk X pins H' C → compPost (model X.prog X.w) X.A X.xe use Qf (.ref D) C (.ok .next) s') :
    wpAny (model X.prog X.w) X.A (comprehension (.ListComp elt [⟨tg, iter, ifs, 0⟩] scope pos) scope X.env pos' (newList []) false (eval iter X.env) use) Qf X.xe s := by
  have hfree : ∀ y ∈ scope.names, y.2 = .free → ∃ c, X.env.cells.lookup y.1 = some c := fun y hy e => (ok.free y hy e).elim (fun k => J.ok.has _ (.inl k)) fun k => J.ok.has _ (.inr k)
  refine wpAny_comprehension_free (use := use) rfl hs (closure_ok hfree) ok.kind (fun y hy e => by rw [ok.uniq y hy, e]) (thn (hi.run pins s σ H _ J h) fun xv s1 hx => thn hx fun itv s2 h2 => ?_)
  obtain ⟨it, fp, tn, It0, H2, e, J2, T, st2, f2, q⟩ := h2
  subst e
  refine wpAny_newObj_type (newEnv_comp ?_) (by show 0 ≤ sizeLine; decide)
  generalize eD : s2.heap.objs.size = D
  obtain ⟨W, ⟨m0, w0⟩, turn⟩ := q D (J2.hok.fresh (Nat.le_of_eq eD))
  generalize e3 : ({ s2 with heap := s2.heap.push { cls := .type "list", data := .seq ([] : List Value).toArray } } : Shared) = s3
  have h3 : s3.heap = s2.heap.push { cls := .type "list", data := .seq ([] : List Value).toArray } := by rw [← e3]
  have J3 : Inv X pins σ (upd H2 D (.lst [])) s3 := by
    rw [← e3]
    exact J2.laid (t' := s2.toks) (fun b o e => Heap.get?_push_of_some _ e) (Nat.le_of_eq eD) ⟨Nat.zero_le _, [], 0, .nil, by rw [← eD]; exact Heap.get?_push_size _ rfl⟩
  have f3 : ∀ b ∈ fp, FpOk X pins (upd H2 D (.lst [])) b ∧ b < s3.heap.objs.size := fun b hb => by
    obtain ⟨o, e, _⟩ := T.obj _ _ st2 b hb
    have hlt := Heap.lt_size e
    refine ⟨⟨?_, (f2 b hb).2⟩, by rw [h3, Heap.size_push]; exact Nat.lt_succ_of_lt hlt⟩
    rw [upd_ne (by rw [← eD]; exact Nat.ne_of_lt hlt)]
    exact (f2 b hb).1
  have st3 : tn 0 s3.heap := T.keep _ _ _ st2 fun b _ o e => by rw [h3]; exact Heap.get?_push_of_some _ e
  have J4 := blkH_start J3 ok hN f3
  have qg := hg s3 (upd H2 D (.lst [])) s3.heap.objs.size (cellsFrom (s3.heap.objs.size + 1) scope.names (cloFrom X.env.cells scope.names [])) fp
  have qt := ht s3 (upd H2 D (.lst [])) s3.heap.objs.size (cellsFrom (s3.heap.objs.size + 1) scope.names (cloFrom X.env.cells scope.names [])) fp
  have qe := he s3 (upd H2 D (.lst [])) s3.heap.objs.size (cellsFrom (s3.heap.objs.size + 1) scope.names (cloFrom X.env.cells scope.names [])) fp
  show codeAny _ _ (.compStart (.ListComp elt [⟨tg, iter, ifs, 0⟩] scope pos) 0 (.ref it) (.ref D) (compEnvC scope (cellsFrom (s3.heap.objs.size + 1) scope.names (cloFrom X.env.cells scope.names [])) s3.heap.objs.size X.env)) (compPost (model X.prog X.w) X.A X.xe use Qf (.ref D) s3.heap.objs.size) { s3 with heap := pushCells (s3.heap.push { cls := .type "dict", data := .dict #[] }) scope.names }
  have nfp : ∀ b ∈ fp, (upd H2 D (.lst [])) b = none := fun b hb => (f3 b hb).1.1
  generalize ece : compEnvC scope (cellsFrom (s3.heap.objs.size + 1) scope.names (cloFrom X.env.cells scope.names [])) s3.heap.objs.size X.env = ce at J4 qg qt qe ⊢
  have cL : ce.locals = s3.heap.objs.size := by rw [← ece]; rfl
  generalize eH3 : upd H2 D (.lst []) = H3 at J3 J4 qg qt qe w0 nfp f3
  generalize e4 : ({ s3 with heap := pushCells (s3.heap.push { cls := .type "dict", data := .dict #[] }) scope.names } : Shared) = s4 at J4 ⊢
  have st4 : tn 0 s4.heap := T.keep _ _ _ st3 fun b _ o e => by rw [← e4]; exact pushCells_keeps _ _ _ _ (Heap.get?_push_of_some _ e)
  have hotB : HotC (blkH X s3 H3 scope ce fp) := hc
  have stat : ∀ {σ' : Sg} {H' : Hp} {s' : Shared}, Inv (blkH X s3 H3 scope ce fp) [] σ' H' s' → (∀ b ∈ fp, H' b = none) → ∀ b ∈ fp, FpOk (blkH X s3 H3 scope ce fp) [] H' b := fun {σ' H' s'} J' hn b hb =>
    ⟨hn b hb, (J'.ok.exf b hb).1, J'.ok.exfs b hb, .inl hb, fun x c e => (J'.ok.exf b hb).2 x c e, fun p hp => by
      have hp' : p ∈ X.pn := by rw [List.append_nil] at hp; exact hp
      exact (f3 b hb).1.2.2.2.2.2 p (List.mem_append_left _ hp')⟩
  have loop : codeAny (model X.prog X.w) X.A (.compLoop (.ListComp elt [⟨tg, iter, ifs, 0⟩] scope pos) 0 (.ref it) (.ref D) ce) (compPost (model X.prog X.w) X.A X.xe use Qf (.ref D) s3.heap.objs.size) s4 := by
    refine compLoop_any (fun n s' => ∃ i H', Inv (blkH X s3 H3 scope ce fp) [] (wipe σ (own.map (·.2))) H' s' ∧ tn i s'.heap ∧ (∀ b ∈ fp, H' b = none) ∧ W i n H') ?_ m0 ⟨0, H3, J4, st4, nfp, w0⟩
    rintro n s5 ⟨i, H5, J5, st5, n5, w5⟩
    rcases turn i n H5 w5 with ⟨stop, qq⟩ | ⟨go, Nx, hNx, step⟩
    · refine thnF (T.done (blkH X s3 H3 scope ce fp) rfl rfl rfl hotB i [] s5 _ H5 (fun _ _ => False) J5 (stat J5 n5) st5 stop) fun r s6 ⟨hr, J6⟩ => ?_
      subst hr
      have J7 : Inv X pins σ H5 s6 := J3.call' (ch := fp) J6.os J6.base J6.hok J6.bare fun b hb => ⟨(f3 b hb).1.2.2.2.1, (f3 b hb).1.2.1, (f3 b hb).1.2.2.2.2.1, (f3 b hb).1.2.2.2.2.2⟩
      have nC : H5 s3.heap.objs.size = none := by rw [← cL]; exact J6.free
      obtain ⟨m, hn, _⟩ := J6.loc
      have hn : s6.heap.Ns ce.locals m := hn
      rw [cL] at hn
      exact hRR D s3.heap.objs.size s6 m H5 J7 qq hn (J3.fpOk (Nat.le_refl _) nC)
    · refine thnF (T.item (blkH X s3 H3 scope ce fp) rfl rfl rfl hotB i [] s5 _ H5 (fun _ _ => False) J5 (stat J5 n5) st5 go) fun r s6 ⟨u, hr, h6⟩ => ?_
      subst hr
      refine thnF h6 fun _ s7 ⟨x, H7, J7, r7, y7, st7, n7⟩ => ?_
      have J7' := J7.pinned (stat J7 n7) (T.obj _ _ st7)
      refine thnF (qg.run _ s7 _ H7 x u _ J7' r7 (step x H7 y7)) fun _ s8 ⟨σ8, H8, J8, hw8, q8⟩ => ?_
      refine thnF (qt.run _ s8 σ8 H8 _ J8 q8) fun b s9 ⟨H9, J9, q9⟩ => ?_
      have fin : ∀ {s' : Shared} {H' : Hp}, Inv (blkH X s3 H3 scope ce fp) ([] ++ pinsAt fp s7.heap) σ8 H' s' → Nx H' → ∃ m, m < n ∧ ∃ i H', Inv (blkH X s3 H3 scope ce fp) [] (wipe σ (own.map (·.2))) H' s' ∧ tn i s'.heap ∧ (∀ b ∈ fp, H' b = none) ∧ W i m H' := fun {s' H'} J' nx => by
        obtain ⟨m', hm, w'⟩ := hNx H' nx
        have pin' : ∀ b ∈ fp, ∀ o, s7.heap.get? b = some o → s'.heap.get? b = some o ∧ H' b = none := fun b hb o e =>
          let z := J'.pin (b, o) (List.mem_append_right _ (List.mem_append_right _ (mem_pinsAt hb e)))
          ⟨z.1, z.2.1⟩
        have hl : (wipe σ (own.map (·.2))).length = σ8.length := by rw [← hw8, wipe_length]
        refine ⟨m', hm, i + 1, H', (J'.unpinned (pins := [])).weak hl (fun j v e => ?_), T.keep _ _ _ st7 fun b hb o e => (pin' b hb o e).1, fun b hb => ?_, w'⟩
        · rw [← hw8] at e
          exact (wipe_some e).1
        · obtain ⟨o, e, _⟩ := T.obj _ _ st7 b hb
          exact (pin' b hb o e).2
      cases b with
      | false =>
        simp only [Bool.false_eq_true, if_false] at q9 ⊢
        exact fin J9 q9
      | true =>
        simp only [if_true] at q9 ⊢
        refine thnF (qe.run _ s9 σ8 H9 _ J9 q9) fun z s10 ⟨yv, H10, J10, r10, acc, hD10, hz10, nx⟩ => ?_
        exact app_ok (X := blkH X s3 H3 scope ce fp) J10 hD10 hz10 r10 fun s11 J11 => fin J11 nx
  exact codeAny_compStart_list loop (T.self X.A 0 _ _ _ st4 loop)
end
theorem pe_lcH {X : Cx} {elt tg iter : Expr} {ifs : List Expr} {scope : Scope} {own : List (Str × Nat)} {pos : Pos} {wi : TI} {g : TG} {tt : TT} {te : TE} (hc : HotC X) (hN : X.N.Nodup) (hi : PIH X tg iter wi) (ok : BlkOk X.N X.env.scope scope own)
    (hg : ∀ (s : Shared) (H : Hp) (C : Addr) (cl : List (Str × Addr)) (fp : List Addr), PG (blkH X s H scope (compEnvC scope cl C X.env) fp) tg g) (ht : ∀ (s : Shared) (H : Hp) (C : Addr) (cl : List (Str × Addr)) (fp : List Addr), PTs (blkH X s H scope (compEnvC scope cl C X.env) fp) ifs tt)
    (he : ∀ (s : Shared) (H : Hp) (C : Addr) (cl : List (Str × Addr)) (fp : List Addr), PE (blkH X s H scope (compEnvC scope cl C X.env) fp) elt te) (hs : ∀ x, foldedSetIterable iter X.env x = pure x := by intro _; rfl) :
    PE X (.ListComp elt [⟨tg, iter, ifs, 0⟩] scope pos) (tLc wi g tt te (own.map (·.2))) := by
  constructor
  intro pins s σ H Q J h
  rw [eval_ListComp]
  exact lcH_core hc hN J hi ok hg ht he hs h fun D C s' m H' J' q hn f => ⟨m, hn, fun h'' sb => ⟨.ref D, H', J'.turned (t' := s'.toks) (fun b o hb e => (sb.2 b hb).trans e) f.1 f.2.1 f.2.2.2.1 f.2.2.2.2.1 f.2.2.2.2.2, rfl, q⟩⟩
/-! ### the tree rules -/
structure QIH (X : Cx) (A : Amb) (tg it : Expr) (w : TI) (f : FI A) : Prop where
  pi : PIH X tg it w
  sd : SdI A w f
section
variable {X : Cx} {A : Amb} {tg it : Expr} {wi : TI} {fi : FI A} {e a b elt : Expr} {te ta tb : TE} {fe fa fb : FE A} {p pos tpos : Pos} {elts : List Expr} {kk : Nat} {ifs : List Expr} {scope : Scope} {own : List (Str × Nat)} {hh : FG} {ft : FT A} {ws vs : List Nat} {m : Bool} {body : List Stmt} {s1 : TS} {g1 : FS A} {gg : TG} {ggs : TGs} {hhs : FGs} {es : List Expr} {n : Nat}
theorem qi_seqH (h : QE X A true false it te fe) : QIH X A tg it (iSeq X.K te) (fIt fe) := ⟨pi_seqH h.pe, si_it h.sd⟩
theorem qi_zipH (hm : X.mg "zip" = none) (ha : QE X A true false a ta fa) (hb : QE X A true false b tb fb) (hg : Gl X "zip" := by rfl) (hs : starEach [a, b] X.env = (false, eval a X.env) :: starEach [b] X.env := by rfl) (hs2 : starEach [b] X.env = (false, eval b X.env) :: starEach [] X.env := by rfl) (hpl : (backTo pos (starEach [b] X.env)).any (·.1) = false := by rfl) :
    QIH X A (.Tuple elts kk tpos) (.Call (.Name "zip" p) [a, b] [] pos) (iZipM X.K (tCons ta (tCons tb tNil))) (fZip fa fb) := ⟨pi_zipH hg hm (pa_cons ha.pe (pa_cons hb.pe pa_nil hs2) hs) hs hpl, si_zip ha.sd hb.sd⟩
theorem qi_rg1H (hm : X.mg "range" = none) (ha : QE X A false true a te fe) (hg : Gl X "range" := by rfl) (hs : starEach [a] X.env = [(false, eval a X.env)] := by rfl) : QIH X A tg (.Call (.Name "range" p) [a] [] pos) (iRng1 (tCons te tNil)) (fRg1 (fCons fe fNil)) := ⟨pi_range1H hg hm (pa_cons ha.pe pa_nil hs) hs, si_rg1 (sd_cons ha.sd sd_nil)⟩
theorem qg_tupH {kt : Nat} (hc : HotC X) (h : QGs X A vs es ggs hhs) (hn : (assignEach es X.env).length = n := by rfl) (hst : (assignEach es X.env).findIdx? (·.1) = none := by rfl) : QG X A vs (.Tuple es kt pos) (gSeq X.K n ggs) (hTup n hhs) := ⟨pg_seqH hc h.pg hn hst, sg_tup h.sd⟩
theorem z_forH (hp : PassesOwn (model X.prog X.w) X.A X.env X.xe) (hc : HotC X) (hi : QIH X A tg it wi fi) (hg : QG X A vs tg gg hh) (hb : QSs X A body s1 g1) (hs : ∀ x, foldedSetIterable it X.env x = pure x := by intro _; rfl) : QS X A (.For tg it body [] pos) (tFor wi gg s1) (fFor fi hh g1) := ⟨ps_forH hp hc hi.pi hg.pg hb.ps hs, ss_for hi.sd hg.sd hb.sd⟩
theorem nb_allH (hc : HotC X) : NB X A m false true "all" (.builtin "all") (rAll X.K) dAll := ⟨cr_allH hc, sc_all, bt_all, by decide, by decide⟩
theorem qo_lcH {gg : Blk5 TG} {tt : Blk5 TT} {te : Blk5 TE} (own : List (Str × Nat)) (hc : HotC X) (hN : X.N.Nodup) (hi : QIH X A tg it wi fi) (ok : BlkOk X.N X.env.scope scope own)
    (hg : ∀ (s : Shared) (H : Hp) (C : Addr) (cl : List (Str × Addr)) (fp : List Addr), QG (blkH X s H scope (compEnvC scope cl C X.env) fp) A ws tg (gg s H C cl fp) hh) (ht : ∀ (s : Shared) (H : Hp) (C : Addr) (cl : List (Str × Addr)) (fp : List Addr), QTs (blkH X s H scope (compEnvC scope cl C X.env) fp) A ifs (tt s H C cl fp) ft)
    (he : ∀ (s : Shared) (H : Hp) (C : Addr) (cl : List (Str × Addr)) (fp : List Addr), QE (blkH X s H scope (compEnvC scope cl C X.env) fp) A true false elt (te s H C cl fp) fe) (hw : ∀ i ∈ ws, i ∈ own.map (·.2) := by decide) (hs : ∀ x, foldedSetIterable it X.env x = pure x := by intro _; rfl)
    (eg : ∀ s H C cl fp, gg s H C cl fp = at5 gg := by intros; rfl) (et : ∀ s H C cl fp, tt s H C cl fp = at5 tt := by intros; rfl) (ee : ∀ s H C cl fp, te s H C cl fp = at5 te := by intros; rfl) :
    QO X A (.ListComp elt [⟨tg, it, ifs, 0⟩] scope pos) (tLc wi (at5 gg) (at5 tt) (at5 te) (own.map (·.2))) (fLc fi (own.map (·.2)) hh ft fe) := by
  have hg' : ∀ s H C cl fp, QG (blkH X s H scope (compEnvC scope cl C X.env) fp) A ws tg (at5 gg) hh := fun s H C cl fp => eg s H C cl fp ▸ hg s H C cl fp
  have ht' : ∀ s H C cl fp, QTs (blkH X s H scope (compEnvC scope cl C X.env) fp) A ifs (at5 tt) ft := fun s H C cl fp => et s H C cl fp ▸ ht s H C cl fp
  have he' : ∀ s H C cl fp, QE (blkH X s H scope (compEnvC scope cl C X.env) fp) A true false elt (at5 te) fe := fun s H C cl fp => ee s H C cl fp ▸ he s H C cl fp
  refine ⟨pe_lcH hc hN hi.pi ok (fun s H C cl fp => (hg' s H C cl fp).pg) (fun s H C cl fp => (ht' s H C cl fp).pt) (fun s H C cl fp => (he' s H C cl fp).pe) hs, ?_⟩
  exact so_lc hi.sd (hg' {} (fun _ => none) 0 [] []).sd hw (ht' {} (fun _ => none) 0 [] []).sd (he' {} (fun _ => none) 0 [] []).sd
end
end Pd

set_option maxHeartbeats 4000000
/-! where an error is handled: defs that are called there -/
namespace Pd
open PySem PySem.Spec PyProof.Rows L2 L2H HotX
structure FnGH (P : Program) (w : World) (K : Fg) (mg : Str → Option Value) (base : Heap) (CX : CXT) (k : Nat) (f : Addr) (fd : FuncData) (ps : List Str) (sp : Addr → Value → Option Addr → L2.Sp) : Prop where
  len : ∀ a c d vs H Q E, sp a c d vs H Q E → vs.length = ps.length
  run : ∀ (Ar : Around) (out : List Env) (s : Shared) (H : Hp) (ag : Args) (us : List Value) (vs : List V) (Q : VK) (E : XK) (p : Addr × Obj) (c : Value) (d : Option Addr), Ar.guards = some [] → RoomH k Ar → Hot1 Ar p → Zc c d p.2 → PinOk out H s p → Env0 P w K mg base Ar out s H →
    BindsTo s fd ag (ps.zip us) → Vals vs us → sp p.1 c d vs H Q E → codeAny (model P w) Ar (.call (.ref f) ag) (CR CX out P w H s Q E) s
theorem gnH_of {P : Program} {w : World} {K : Fg} {mg : Str → Option Value} {base : Heap} {CX : CXT} {k : Nat} {x qual : Str} {st : Stmt} {f : Addr} {fd : FuncData} {N ps : List Str} {sp : Addr → Value → Option Addr → L2.Sp} (F : Fun K x qual st f fd) (S : FnScope N ps (defScope st)) (len : ∀ a c d vs H Q E, sp a c d vs H Q E → vs.length = ps.length)
    (hb : ∀ (cdv : Value) (Ar : Around) (out : List Env) (s : Shared) (H : Hp) (vs : List V) (Q : VK) (E : XK) (p : Addr × Obj) (c : Value) (d : Option Addr), (Ar.deeper (envOfC qual (defScope st) s.heap.objs.size f cdv)).guards = some [] → RoomH k (Ar.deeper (envOfC qual (defScope st) s.heap.objs.size f cdv)) → Hot1 Ar p → Zc c d p.2 → sp p.1 c d vs H Q E →
      ∃ t, PSs (cxH CX P w K mg base N qual (defScope st) f cdv Ar out s H E p) (defBody st) t ∧ t { nx := fun _ H' => Q .non H', rt := Q } (L2.start N vs) H) : FnGH P w K mg base CX (k + 1) f fd ps sp := by
  obtain ⟨oc, od, kV, doc, pm, an, cdv, ct, osl, rfl, lk, hcd⟩ := F.ex
  constructor
  · exact len
  · intro Ar out s H ag us vs Q E p c d hgd hr hot hz hpin e0 hbt rv hsp
    have hvl := len _ _ _ _ _ _ _ hsp
    have KX : K.In s.heap := e0.mod.kin.keeps fun b o e => (e0.bs b o e).1
    have nol : s.heap.NoLimit := e0.mod.nolimit.keeps fun b o e => (e0.bs b o e).1
    refine codeAny_call_function hr.depth (KX _ _ lk) rfl S.co S.gen rfl (PySem.W.codeRec_of KX hcd) (hbt _ _ _ _ ?_)
    refine wpAny_newFunctionEnv_cells S.kind (fun y hy => ?_) fun env he s1 inC => ?_
    · rcases S.par y.1 (List.of_mem_zip (show (y.1, y.2) ∈ ps.zip us from hy)).1 with q | q
      · exact Or.inl q
      · exact Or.inr ⟨q, PySem.W.cellsFrom_some _ _ _ (.inl q)⟩
    · subst he
      refine ⟨nol.keeps inC.toInCall.keep, codeAny_func ?_⟩
      obtain ⟨t, ht, hq⟩ := hb cdv Ar out s H vs Q E p c d hgd (hr.deeper _) hot hz hsp
      have J := inv_startH (CX := CX) (E := E) S hpin e0 hvl rv inC
      refine wpAny_mono (ht.run [] s1 (L2.start N vs) H _ J hq) (fun fl s' hs => ?_) fun _ _ z => z
      cases fl with
      | ret u =>
        obtain ⟨v, σ', H', J2, r2, q2⟩ := hs
        exact ⟨v, H', J2.os, J2.bare, J2.base, J2.hok, r2, q2⟩
      | next =>
        obtain ⟨σ', H', J2, q2⟩ := hs
        exact ⟨.non, H', J2.os, J2.bare, J2.base, J2.hok, rfl, q2⟩
      | brk =>
        obtain ⟨_, _, _, q2⟩ := hs
        exact q2.elim
      | cont =>
        obtain ⟨_, _, _, q2⟩ := hs
        exact q2.elim
/-- a def's promise: the error that is handled is told, too -/
abbrev PgH (S : Type) := Addr → XD → List D → S → (Ret → S → Prop) → Prop
def spOfH (mg : Str → Option Value) (A : Amb) (np : Nat) (g : PgH A) : Addr → Value → Option Addr → L2.Sp := fun a cls d vs H Q _ => ∃ (W : Ad) (s : A.S) (ds : List D) (Ψ : Ret → A.S → Prop) (x : XD), (∀ a, W a → H a ≠ none) ∧ A.I s (fun a => W a ∨ A.B s a) H ∧ RsL (fun a => W a ∨ A.B s a) H ds vs ∧ ds.length = np ∧
  XdOk mg (fun a => W a ∨ A.B s a) H x cls d ∧ g a x ds s Ψ ∧
  ∀ r s' v H', Ψ r s' → A.I s' (fun a => W a ∨ A.B s' a) H' → Stp A s s' H H' → (∀ a, W a → H' a ≠ none) → RetOk A ⟨W, []⟩ s H s' H' v r → Q v H'
structure CalH (P : Program) (w : World) (K : Fg) (mg : Str → Option Value) (base : Heap) (A : Amb) (k : Nat) (x : Str) (np : Nat) (g : PgH A) : Prop where
  ex : ∃ (f : Addr) (fd : FuncData) (ps : List Str), FnGH P w K mg base CX0 k f fd ps (spOfH mg A np g) ∧ mg x = some (.ref f) ∧ PySem.W.keepIn K (.ref f) = true ∧ Binds K fd ps []
/-- the surroundings of such a def -/
abbrev suB (A : Amb) (mg : Str → Option Value) (cls : Value) (d : Option Addr) (x : XD) : Amb := A.wish (fun _ => False) (gx x d) (fun _ _ => ExD mg cls d x (gx x d))
theorem start_own {N : List Str} {ds : List D} (j : Nat) (m : Mo) : (startR N ds)[j]? ≠ some (.o m) := fun z => by
  unfold startR at z
  rw [List.getElem?_append] at z
  split at z
  · rw [List.getElem?_map] at z
    cases q : ds[j]? with
    | none => rw [q] at z; cases z
    | some d => rw [q] at z; cases z
  · rw [List.getElem?_replicate] at z
    split at z <;> cases z
section
variable {P : Program} {w : World} {K : Fg} {mg : Str → Option Value} {base : Heap} {k : Nat} {A : Amb}
theorem cal_ofH {x : Str} {st : Stmt} {N ps : List Str} {np : Nat} {g : PgH A} {ff : Addr → XD → FS A} (F : Dfn K mg x st ps) (S : FnScope N ps (defScope st)) (hnp : ps.length = np) (hN : np ≤ N.length)
    (hb : ∀ (f : Addr) (cdv : Value) (Ar : Around) (out : List Env) (s : Shared) (H : Hp) (E : XK) (a : Addr) (oe : Obj) (cls : Value) (d : Option Addr) (xd : XD), (Ar.deeper (envOfC x (defScope st) s.heap.objs.size f cdv)).guards = some [] → RoomH k (Ar.deeper (envOfC x (defScope st) s.heap.objs.size f cdv)) →
      Exn (cxH CX0 P w K mg base N x (defScope st) f cdv Ar out s H E (a, oe)).nox K mg (suB A mg cls d xd) a oe cls d xd → ∃ t, QSs (cxH CX0 P w K mg base N x (defScope st) f cdv Ar out s H E (a, oe)).nox (suB A mg cls d xd) (defBody st) t (ff a xd))
    (hp : ∀ (a : Addr) (xd : XD) (ds : List D) (s : A.S) (Ψ : Ret → A.S → Prop), ds.length = np → g a xd ds s Ψ → ff a xd { nx := fun _ s => Ψ (.d .non) s, rt := Ψ } (startR N ds) s) (pl : A.Plain := by exact ⟨fun _ h => h, rfl, fun _ _ => trivial⟩) : CalH P w K mg base A (k + 1) x np g := by
  obtain ⟨f, fd, F, hm, bi⟩ := F.ex
  refine ⟨f, fd, ps, gnH_of F S (fun a c d vs H Q E h => ?_) (fun cdv Ar out s H vs Q E p cls d hgd hr hot hz h => ?_), hm, F.kp, bi⟩
  · obtain ⟨W, s, ds, Ψ, _, _, _, r, e, _⟩ := h
    rw [r.length, e, hnp]
  · obtain ⟨W, sa, ds, Ψ, xd, hw, hi, r, e, hx, hg, q⟩ := h
    obtain ⟨a, oe⟩ := p
    have Ex : Exn (cxH CX0 P w K mg base N x (defScope st) f cdv Ar out s H E (a, oe)).nox K mg (suB A mg cls d xd) a oe cls d xd :=
      ⟨rfl, rfl, List.mem_cons_self, hz, hot.2.elim fun vs h => ⟨vs, h.1⟩, ⟨hot.1, hot.2⟩, fun _ _ h => h⟩
    obtain ⟨t, hq⟩ := hb f cdv Ar out s H E a oe cls d xd hgd hr Ex
    have R0 := start_er (A := A) (N := N) (W := W) (by rw [r.length, e]; exact hN) hw hi r (fun a z => (pl.w0 a z).elim) pl.g0 (pl.lk _ _)
    obtain ⟨hgh, hD⟩ := ExD.of hx []
    rw [List.append_nil] at hD
    have R1 := R0.keep (γ := gx xd d) fun p hp => (hgh p hp).weak fun a z => by
      rcases z with z | z | ⟨_, j, m, e, _⟩
      · exact .inl z
      · exact .inr z
      · exact (start_own j m e).elim
    have R2 : ER (suB A mg cls d xd) ((⟨W, []⟩ : Ot).keep (gx xd d)) sa H sa (L2.start N vs) H (startR N ds) := R1.more (fun a z => z.elim) (fun p hp => List.mem_append_right _ hp) hD
    refine ⟨t, hq.ps.nox, hq.sd _ sa H sa _ H _ _ _ R2 (hp a xd ds sa Ψ e hg) (fun ρ' s' σ' H' h R => ?_) (fun _ _ _ _ h => h.elim) (fun _ _ _ _ h => h.elim) fun rr s' v H' h1 h2 h3 h4 h5 => q rr s' v H' h1 h2 h3.off h4 (by cases rr <;> exact h5)⟩
    exact q _ s' .non H' h (Amb.sub R.amb fun a z => z.imp id .inl) R.stp.off R.wd .non
end
def fCallH {S : Type} (a : Addr) (x : XD) (g : PgH S) (fa : FA S) : FE S := fun ρ s Φ => fa ρ s fun ds s1 => Sp (g a x) ds s1 fun r s2 => match r with
  | .d d => Φ d s2
  | .o (.lst l) => Φ (.lst l) s2
  | .o (.dk ks vs) => Φ (.dct ks vs) s2
  | .o (.dt ks vs) => Φ (.dtt ks vs) s2
section
variable {Y : Cx} {CX : CXT} {k : Nat} {f : Addr} {fd : FuncData} {ps : List Str} {sp : Addr → Value → Option Addr → L2.Sp} {cls : Value} {d : Option Addr} {E : XK} {x : Str} {q pos : Pos} {e : Expr} {es : List Expr} {t : TA}
theorem pe_gnH {p : Addr × Obj} (F : FnGH Y.prog Y.w Y.K Y.mg Y.base CX k f fd ps sp) (hgd : Y.A.guards = some []) (hr : RoomH k Y.A) (hot : Hot1 Y.A p) (hz : Zc cls d p.2) (hp : p ∈ Y.pn) (hg : Gl Y x) (hm : Y.mg x = some (.ref f)) (hk : PySem.W.keepIn Y.K (.ref f) = true) (hb : Binds Y.K fd ps []) (hx : Passes CX Y E)
    (ha : PA Y (e :: es) t) (hdb : (x == ("__debug__" : Str)) = false := by decide) (he : starEach (e :: es) Y.env = (false, eval e Y.env) :: starEach es Y.env := by rfl) (hpl : (backTo pos (starEach es Y.env)).any (·.1) = false := by rfl) :
    PE Y (.Call (.Name x q) (e :: es) [] pos) (tCall (sp p.1 cls d) [] E t) := by
  constructor
  intro pins s σ H Q J h
  apply wpAny_Call_Name_kw
  refine ld_glob J hg hm ?_ hdb
  refine PySem.W.callWith_K (h₀ := Y.base) J.ok.mod.kin hk (thn (ha.run pos pins s σ H _ J h) fun us s1 ⟨vs, H1, J1, r, h1⟩ => ⟨J1.kIn, ?_⟩) he hpl
  have h1 : sp p.1 cls d (vs ++ []) H1 Q E := h1
  rw [List.append_nil] at h1
  have hl : us.length = ps.length := by rw [← r.length]; exact F.len _ _ _ _ _ _ _ h1
  have b := hb s1 us J1.kIn (by rw [List.append_nil]; exact hl)
  rw [List.append_nil] at b
  have P1 := J1.pin p (List.mem_append_left _ hp)
  have hpin : PinOk Y.stack H1 s1 p := ⟨P1.1, P1.2.1, fun hm => (List.mem_cons.mp (J1.stkSub p.1 hm)).elim P1.2.2.1 P1.2.2.2.1, P1.2.2.2.2⟩
  refine wpAny_call (codeAny_mono (F.run Y.A Y.stack s1 H1 ⟨us, []⟩ us vs Q E p cls d hgd hr hot hz hpin J1.env0 b r h1) fun res s' hq => ?_)
  match res, hq with
  | .error er, hq => exact hx pins σ H1 s1 er s' J1 hq
  | .ok (.ret u), hq => exact J1.after hq
  | .ok .next, hq => exact hq.elim
  | .ok .brk, hq => exact hq.elim
  | .ok .cont, hq => exact hq.elim
end
section
variable {Y : Cx} {K0 : Fg} {mg0 : Str → Option Value} {A : Amb} {w0 : Ad} {g0 : List (D × V)} {Lk : A.S → Hp → Prop} {m sh : Bool} {a : Addr} {oe : Obj} {cls : Value} {d : Option Addr} {xd : XD} {np : Nat} {g : PgH A} {ta : TA} {fa : FA A} {k : Nat} {x : Str} {p pos : Pos} {e : Expr} {es : List Expr}
theorem Exn.xok (Ex : Exn Y K0 mg0 A a oe cls d xd) {W : Ot} {s0 s : A.S} {H0 H : Hp} {σ : Sg} {ρ : List Sl} (R : ER A W s0 H0 s σ H ρ) : XdOk mg0 (om true A W s σ ρ) H xd cls d := by
  have E := Ex.lk _ _ R.lk
  obtain ⟨nm, val⟩ := xd
  refine ⟨E.nm, ?_⟩
  cases val with
  | none => exact E.no rfl
  | some pr =>
    obtain ⟨f, t⟩ := pr
    obtain ⟨dd, e1, e2⟩ := E.so f t rfl
    have r := R.gh _ (R.g0 _ e2)
    cases r with
    | xdt h n r => exact ⟨dd, _, e1, h, n, r⟩
theorem sd_callH (Ex : Exn Y K0 mg0 (A.wish w0 g0 Lk) a oe cls d xd) (h : SdL (A.wish w0 g0 Lk) true false np ta fa) : SdE (A.wish w0 g0 Lk) m sh (tCall (spOfH mg0 A np g a cls d) [] E0 ta) (fCallH a xd g fa) := fun W s0 H0 s σ H ρ Φ Q R hp q =>
  h W s0 H0 s σ H ρ _ _ R hp fun ds s1 vs H1 hg R1 st1 r1 hl => by
    have wc : ∀ a, (W.w a ∨ ownS σ ρ a) → H1 a ≠ none := fun a z => by
      rcases z with z | ⟨i, mo, e1, e2⟩
      · exact R1.wd a z
      · obtain ⟨b, k1, k2, _⟩ := R1.own i mo e1
        rw [k1] at e2
        cases e2
        exact k2.some
    have sub : ∀ a, (W.w a ∨ ownS σ ρ a) ∨ A.B s1 a → om true (A.wish w0 g0 Lk) W s1 σ ρ a := fun a z => by
      rcases z with (z | z) | z
      · exact .inl z
      · exact .inr (.inr ⟨rfl, z⟩)
      · exact .inr (.inl z)
    have r1' : RsL (fun a => (W.w a ∨ ownS σ ρ a) ∨ A.B s1 a) H1 ds (vs ++ []) := by
      rw [List.append_nil]
      exact r1.rs.weak sub
    refine ⟨fun a => W.w a ∨ ownS σ ρ a, s1, ds, _, xd, wc, reg_in1 R1.amb, r1', hl, (Ex.xok R1).weak sub, hg.go, fun r s2 v H2 hr i2 st2 _ rk => ?_⟩
    have R2 := ER.go (A := A.wish w0 g0 Lk) R1 (s' := s2) (H' := H2) st2.on (reg_out1 (A := A.wish w0 g0 Lk) i2)
    have ow : ∀ a, om m (A.wish w0 g0 Lk) W s2 σ ρ a → (W.w a ∨ ownS σ ρ a) ∨ A.B s2 a := fun a z => by
      rcases z with z | z | z
      · exact .inl (.inl z)
      · exact .inr z
      · exact .inl (.inr z.2)
    cases r with
    | d d => exact q d s2 v H2 hr R2 (st1.trans st2.on) (.inl (Rs.weak rk ow))
    | o mo =>
      obtain ⟨p, rfl, k1, k2, k3, k4, _⟩ := rk
      have np : ¬ om m (A.wish w0 g0 Lk) W s2 σ ρ p := fun z => (ow p z).elim k2 k3
      have ow2 : ∀ a, om m (A.wish w0 g0 Lk) W s2 σ ρ a → ((W.w a ∨ ownS σ ρ a) ∨ a = p) ∨ A.B s2 a := fun a z => (ow a z).imp .inl id
      cases mo with
      | lst l => obtain ⟨xs, g1, g2⟩ := k4; exact q _ s2 _ H2 hr R2 (st1.trans st2.on) (.inl (.lst g1 np (g2.weak ow2)))
      | dk ks vs => obtain ⟨kvs, g1, g3, g2⟩ := k4; exact q _ s2 _ H2 hr R2 (st1.trans st2.on) (.inl (.dct g1 np g3 (g2.weak ow2)))
      | dt ks vs => obtain ⟨kvs, g1, g3, g2⟩ := k4; exact q _ s2 _ H2 hr R2 (st1.trans st2.on) (.inl (.dtt g1 np g3 (g2.weak ow2)))
theorem Exn.hotc {Y : Cx} {K0 : Fg} {mg0 : Str → Option Value} {A : Amb} (Ex : Exn Y K0 mg0 A a oe cls d xd) : HotC Y := ⟨(a, oe), Ex.hot, Ex.mem⟩
theorem Exn.blk {Y : Cx} {K0 : Fg} {mg0 : Str → Option Value} {A : Amb} (Ex : Exn Y K0 mg0 A a oe cls d xd) {s : Shared} {H : Hp} {scope : Scope} {cenv : Env} {fp : List Addr} : Exn (blkH Y s H scope cenv fp) K0 mg0 A a oe cls d xd := ⟨Ex.hK, Ex.hmg, Ex.mem, Ex.zc, Ex.hf, Ex.hot, Ex.lk⟩
/-- a call of a def while an error is handled -/
theorem q_callH (Ex : Exn Y K0 mg0 (A.wish w0 g0 Lk) a oe cls d xd) (C : CalH Y.prog Y.w K0 mg0 Y.base A k x np g) (hgd : Y.A.guards = some []) (hr : RoomH k Y.A) (ha : QL Y (A.wish w0 g0 Lk) true false np (e :: es) ta fa) (hg : Gl Y x := by rfl) (hdb : (x == ("__debug__" : Str)) = false := by decide)
    (he : starEach (e :: es) Y.env = (false, eval e Y.env) :: starEach es Y.env := by rfl) (hpl : (backTo pos (starEach es Y.env)).any (·.1) = false := by rfl) :
    QE Y (A.wish w0 g0 Lk) m sh (.Call (.Name x p) (e :: es) [] pos) (tCall (spOfH mg0 A np g a cls d) [] E0 ta) (fCallH a xd g fa) := by
  obtain rfl := Ex.hK
  obtain rfl := Ex.hmg
  obtain ⟨f, fd, ps, F, hm, hk, bi⟩ := C.ex
  exact ⟨pe_gnH (p := (a, oe)) F hgd hr Ex.hot Ex.zc Ex.mem hg hm hk bi pass0 ha.pa hdb he hpl, sd_callH Ex ha.sd⟩
end
end Pd

set_option maxHeartbeats 4000000
/-! objects: instances of own classes, lists that many hold -/
namespace Pd
open PySem PySem.Spec PyProof.Rows L2
def oset (o : OM) (a : Addr) (oc : OC) : OM := fun x => if x = a then some oc else o x
theorem oset_same {o : OM} {a : Addr} {oc : OC} : oset o a oc a = some oc := if_pos rfl
theorem oset_ne {o : OM} {a x : Addr} {oc : OC} (h : x ≠ a) : oset o a oc x = o x := if_neg h
theorem oset_oset {o : OM} {a : Addr} {oc oc' : OC} : oset (oset o a oc) a oc' = oset o a oc' := by
  funext x
  unfold oset
  split <;> rfl
def LO.put (l : LO) (a : Addr) (oc : OC) : LO := ⟨l.l, oset l.o a oc, l.p⟩
abbrev OA (K : Fg) (mg : Str → Option Value) (w0 : Ad) (g0 : List (D × V)) (Lk : BS → Hp → Prop) : Amb := (BM K (some mg)).wish w0 g0 Lk
theorem OcOk.weak {mg : Str → Option Value} {p : Nat → Addr} {R R' : Ad} {H : Hp} {a : Addr} {oc : OC} (h : OcOk mg p R H a oc) (hR : ∀ a, R' a → R a) : OcOk mg p R' H a oc :=
  h.go (fun a z => .inl (hR a z)) Agr.refl rfl fun _ _ => rfl
theorem OJ.put {mg : Str → Option Value} {b a : Addr} {L L' : LO} {oc' : OC} {R R' : Ad} {H H' : Hp} (J : OJ mg b L R H) (hl : L'.l = L.l) (ho : L'.o = oset L.o a oc') (hp : ∀ x, x ≠ a → L'.p x = L.p x)
    (ha : L.o a ≠ none ∨ ¬ bsB (.bag b L) a) (hok : OcOk mg (L'.p a) R' H' a oc') (hN : ∀ x, oc'.own (L'.p a) x → ownAt L a x ∨ (¬ bsB (.bag b L) x ∧ x ≠ a))
    (hR : ∀ x, R' x → R x ∨ H x = none) (hA : Agr R H H') (hK : ∀ x, bsB (.bag b L) x → x ≠ a → ¬ ownAt L a x → H' x = H x) : OJ mg b L' R' H' := by
  have own1 : ∀ {x : Addr}, ownAt L' a x → oc'.own (L'.p a) x := fun {x} ⟨oc, h1, h2⟩ => by
    rw [ho, oset_same] at h1
    cases h1
    exact h2
  have own2 : ∀ {a1 x : Addr}, a1 ≠ a → ownAt L' a1 x → ownAt L a1 x := fun {a1 x} n ⟨oc, h1, h2⟩ => by
    rw [ho, oset_ne n] at h1
    rw [hp _ n] at h2
    exact ⟨oc, h1, h2⟩
  have nea : ∀ {a1 x : Addr}, ownAt L a1 x → x ≠ a := fun {a1 x} h e => by
    subst e
    rcases ha with ha | ha
    · exact ha (J.pv _ _ h).2.2
    · exact ha (.inr (.inr (.inr ⟨a1, h⟩)))
  refine ⟨fun x oc h => ?_, ?_, ?_, fun a1 x h => ?_, fun a1 a2 x h1 h2 => ?_⟩
  · by_cases e : x = a
    · subst e
      rw [ho, oset_same] at h
      cases h
      exact hok
    · rw [ho, oset_ne e] at h
      rw [hp _ e]
      refine (J.ok x oc h).go hR hA (hK x (.inr (.inr (.inl (by rw [h]; simp)))) e fun z => ?_) fun y hy => hK y (.inr (.inr (.inr ⟨x, oc, h, hy⟩))) (nea ⟨oc, h, hy⟩) fun z => e (J.dj x a y ⟨oc, h, hy⟩ z)
      rw [(J.pv _ _ z).2.2] at h
      cases h
  · rw [ho]
    by_cases e : b = a
    · subst e
      rcases ha with ha | ha
      · exact (ha J.nb).elim
      · exact (ha (.inl rfl)).elim
    · rw [oset_ne e]; exact J.nb
  · rw [ho, hl]
    by_cases e : L.l = a
    · subst e
      rcases ha with ha | ha
      · exact (ha J.nl).elim
      · exact (ha (.inr (.inl rfl))).elim
    · rw [oset_ne e]; exact J.nl
  · by_cases e : a1 = a
    · subst e
      rcases hN x (own1 h) with z | ⟨z, n⟩
      · obtain ⟨k1, k2, k3⟩ := J.pv _ _ z
        exact ⟨k1, hl ▸ k2, by rw [ho, oset_ne (nea z)]; exact k3⟩
      · refine ⟨fun e => z (.inl e), fun e => z (.inr (.inl (e.trans hl))), ?_⟩
        rw [ho, oset_ne n]
        cases k : L.o x with
        | none => rfl
        | some oc => exact (z (.inr (.inr (.inl (by rw [k]; simp))))).elim
    · have z := own2 e h
      obtain ⟨k1, k2, k3⟩ := J.pv _ _ z
      exact ⟨k1, hl ▸ k2, by rw [ho, oset_ne (nea z)]; exact k3⟩
  · by_cases e1 : a1 = a
    · subst e1
      by_cases e2 : a2 = a1
      · exact e2.symm
      · rcases hN x (own1 h1) with z | ⟨z, _⟩
        · exact J.dj _ _ _ z (own2 e2 h2)
        · exact (z (.inr (.inr (.inr ⟨a2, own2 e2 h2⟩)))).elim
    · by_cases e2 : a2 = a
      · subst e2
        rcases hN x (own1 h2) with z | ⟨z, _⟩
        · exact J.dj _ _ _ (own2 e1 h1) z
        · exact (z (.inr (.inr (.inr ⟨a1, own2 e1 h1⟩)))).elim
      · exact J.dj _ _ _ (own2 e1 h1) (own2 e2 h2)
section
variable {K : Fg} {mg : Str → Option Value} {w0 : Ad} {g0 : List (D × V)} {Lk : BS → Hp → Prop} {W : Ot} {s0 : BS} {H0 H H' : Hp} {σ : Sg} {ρ : List Sl} {b a : Addr} {L L' : LO} {oc oc' : OC}
theorem ER.oj (R : ER (OA K mg w0 g0 Lk) W s0 H0 (.bag b L) σ H ρ) : OJ mg b L (om true (OA K mg w0 g0 Lk) W (.bag b L) σ ρ) H := R.amb.2.1
theorem ER.bl (R : ER (OA K mg w0 g0 Lk) W s0 H0 (.bag b L) σ H ρ) : b ≠ L.l := R.amb.1
/-- an object that is there is written: it, its own lists -/
theorem ER.ob (R : ER (OA K mg w0 g0 Lk) W s0 H0 (.bag b L) σ H ρ) (hl : L'.l = L.l) (ho : L'.o = oset L.o a oc') (hp : ∀ x, x ≠ a → L'.p x = L.p x) (ha : L.o a ≠ none)
    (hok : OcOk mg (L'.p a) (om true (OA K mg w0 g0 Lk) W (.bag b L) σ ρ) H' a oc') (hN : ∀ x, oc'.own (L'.p a) x → ownAt L a x) (hK : ∀ x, x ≠ a → ¬ ownAt L a x → H' x = H x) (hd : ∀ x, H x ≠ none → H' x ≠ none) :
    ER (OA K mg w0 g0 Lk) W s0 H0 (.bag b L') σ H' ρ ∧ Stp (OA K mg w0 g0 Lk) (.bag b L) (.bag b L') H H' := by
  have J := R.oj
  have inB : ∀ x, bsB (.bag b L') x → bsB (.bag b L) x := fun x z => by
    rcases z with z | z | z | ⟨a1, oc1, z1, z2⟩
    · exact .inl z
    · exact .inr (.inl (z.trans hl))
    · by_cases e : x = a
      · subst e; exact .inr (.inr (.inl ha))
      · rw [ho, oset_ne e] at z
        exact .inr (.inr (.inl z))
    · by_cases e : a1 = a
      · subst e
        rw [ho, oset_same] at z1
        cases z1
        exact .inr (.inr (.inr ⟨a1, hN x z2⟩))
      · rw [ho, oset_ne e] at z1
        rw [hp _ e] at z2
        exact .inr (.inr (.inr ⟨a1, oc1, z1, z2⟩))
  have st : Stp (OA K mg w0 g0 Lk) (.bag b L) (.bag b L') H H' := ⟨fun x o e n => by
    rw [hK x (fun e => n (.inr (.inr (.inl (by rw [e]; exact ha))))) fun z => n (.inr (.inr (.inr ⟨a, z⟩)))]
    exact e, fun x z => .inl (inB x z), hd⟩
  refine ⟨R.go st ⟨hl ▸ R.bl, ?_, ?_⟩, st⟩
  · have hsub : ∀ x, om true (OA K mg w0 g0 Lk) W (.bag b L') σ ρ x → om true (OA K mg w0 g0 Lk) W (.bag b L) σ ρ x := fun x z => by
      rcases z with z | z | z
      · exact .inl z
      · exact .inr (.inl (inB x z))
      · exact .inr (.inr z)
    exact J.put hl ho hp (.inl ha) (hok.weak hsub) (fun x z => .inl (hN x z)) (fun x z => .inl (hsub x z)) (fun x o e n => st.agr x o e fun z => n (.inr (.inl z))) fun x _ n1 n2 => hK x n1 n2
  · obtain ⟨cs, dg, mx, k1, k2, k3⟩ := R.amb.2.2
    have off := J.pv
    have nb : b ≠ a := fun e => by subst e; exact ha J.nb
    have nl : L.l ≠ a := fun e => ha (e ▸ J.nl)
    exact ⟨cs, dg, mx, by rw [hl, hK b nb fun z => (off _ _ z).1 rfl]; exact k1, by rw [hl, hK L.l nl fun z => (off _ _ z).2.1 rfl]; exact k2, k3⟩
/-- a new object, all of it new -/
theorem ER.obNew (R : ER (OA K mg w0 g0 Lk) W s0 H0 (.bag b L) σ H ρ) (ha : H a = none) (hl : L'.l = L.l) (ho : L'.o = oset L.o a oc') (hp : L'.p = L.p)
    (hok : OcOk mg (L'.p a) (om true (OA K mg w0 g0 Lk) W (.bag b L') σ ρ) H' a oc') (hN : ∀ x, ¬ oc'.own (L'.p a) x) (hK : ∀ x o, H x = some o → H' x = some o) :
    ER (OA K mg w0 g0 Lk) W s0 H0 (.bag b L') σ H' ρ ∧ Stp (OA K mg w0 g0 Lk) (.bag b L) (.bag b L') H H' := by
  have J := R.oj
  have naB : ¬ bsB (.bag b L) a := fun z => (OA K mg w0 g0 Lk).dom R.amb z ha
  have keep : ∀ x, bsB (.bag b L) x → H' x = H x := fun x z => by
    cases q : H x with
    | none => exact ((OA K mg w0 g0 Lk).dom R.amb z q).elim
    | some o => exact hK x o q
  have inB : ∀ x, bsB (.bag b L') x → bsB (.bag b L) x ∨ x = a := fun x z => by
    rcases z with z | z | z | ⟨a1, oc1, z1, z2⟩
    · exact .inl (.inl z)
    · exact .inl (.inr (.inl (z.trans hl)))
    · by_cases e : x = a
      · exact .inr e
      · rw [ho, oset_ne e] at z
        exact .inl (.inr (.inr (.inl z)))
    · by_cases e : a1 = a
      · subst e
        rw [ho, oset_same] at z1
        cases z1
        exact (hN x z2).elim
      · rw [ho, oset_ne e] at z1
        rw [hp] at z2
        exact .inl (.inr (.inr (.inr ⟨a1, oc1, z1, z2⟩)))
  have st : Stp (OA K mg w0 g0 Lk) (.bag b L) (.bag b L') H H' := ⟨fun x o e n => hK x o e, fun x z => (inB x z).imp id fun e => by subst e; exact ha, fun x z => by
    cases q : H x with
    | none => exact (z q).elim
    | some o => rw [hK x o q]; simp⟩
  refine ⟨R.go st ⟨hl ▸ R.bl, ?_, ?_⟩, st⟩
  · have hR : ∀ x, om true (OA K mg w0 g0 Lk) W (.bag b L') σ ρ x → om true (OA K mg w0 g0 Lk) W (.bag b L) σ ρ x ∨ H x = none := fun x z => by
      rcases z with z | z | z
      · exact .inl (.inl z)
      · exact (inB x z).imp (fun z => .inr (.inl z)) fun e => by subst e; exact ha
      · exact .inl (.inr (.inr z))
    exact J.put hl ho (fun x _ => by rw [hp]) (.inr naB) hok (fun x z => (hN x z).elim) hR (fun x o e n => hK x o e) fun x z _ _ => keep x z
  · obtain ⟨cs, dg, mx, k1, k2, k3⟩ := R.amb.2.2
    exact ⟨cs, dg, mx, by rw [hl, keep b (.inl rfl)]; exact k1, by rw [hl, keep L.l (.inr (.inl rfl))]; exact k2, k3⟩
/-- a list of one's own (p) becomes an object, or an object's own list; the object at a is written (or is p itself) -/
theorem ER.obShare {p : Addr} (R : ER (OA K mg w0 g0 Lk) (W.add p) s0 H0 (.bag b L) σ H ρ) (k0 : ∀ a, (OA K mg w0 g0 Lk).w0 a → W.w a) (h0 : H0 p = none) (hw : ¬ W.w p) (hb : ¬ bsB (.bag b L) p)
    (hl : L'.l = L.l) (ho : L'.o = oset L.o a oc') (hp : ∀ x, x ≠ a → L'.p x = L.p x) (ha : L.o a ≠ none ∨ a = p)
    (hok : OcOk mg (L'.p a) (om true (OA K mg w0 g0 Lk) (W.add p) (.bag b L) σ ρ) H' a oc') (hN : ∀ x, oc'.own (L'.p a) x → ownAt L a x ∨ (x = p ∧ a ≠ p)) (hK : ∀ x, x ≠ a → ¬ ownAt L a x → H' x = H x) (hd : ∀ x, H x ≠ none → H' x ≠ none) :
    ER (OA K mg w0 g0 Lk) W s0 H0 (.bag b L') σ H' ρ := by
  have J := R.oj
  have inB : ∀ x, bsB (.bag b L') x → bsB (.bag b L) x ∨ x = p := fun x z => by
    rcases z with z | z | z | ⟨a1, oc1, z1, z2⟩
    · exact .inl (.inl z)
    · exact .inl (.inr (.inl (z.trans hl)))
    · by_cases e : x = a
      · subst e; exact ha.imp (fun ha => .inr (.inr (.inl ha))) id
      · rw [ho, oset_ne e] at z
        exact .inl (.inr (.inr (.inl z)))
    · by_cases e : a1 = a
      · subst e
        rw [ho, oset_same] at z1
        cases z1
        exact (hN x z2).imp (fun z => .inr (.inr (.inr ⟨a1, z⟩))) And.left
      · rw [ho, oset_ne e] at z1
        rw [hp _ e] at z2
        exact .inl (.inr (.inr (.inr ⟨a1, oc1, z1, z2⟩)))
  have hsub : ∀ x, om true (OA K mg w0 g0 Lk) W (.bag b L') σ ρ x → om true (OA K mg w0 g0 Lk) (W.add p) (.bag b L) σ ρ x := fun x z => by
    rcases z with z | z | z
    · exact .inl (.inl z)
    · exact (inB x z).elim (fun z => .inr (.inl z)) fun e => .inl (.inr e)
    · exact .inr (.inr z)
  have inA : ∀ x, H' x ≠ H x → om true (OA K mg w0 g0 Lk) (W.add p) (.bag b L) σ ρ x := fun x z => by
    by_cases e : x = a
    · subst e
      exact ha.elim (fun h => .inr (.inl (.inr (.inr (.inl h))))) fun e => .inl (.inr e)
    · by_cases o : ownAt L a x
      · exact .inr (.inl (.inr (.inr (.inr ⟨a, o⟩))))
      · exact (z (hK x e o)).elim
  have hA : Agr (om true (OA K mg w0 g0 Lk) (W.add p) (.bag b L) σ ρ) H H' := fun x o e n => by
    rw [Classical.not_not.mp fun z => n (inA x z)]
    exact e
  have naB : L.o a ≠ none ∨ ¬ bsB (.bag b L) a := ha.imp id fun (e : a = p) => by rw [e]; exact hb
  have nb : b ≠ a := fun e => by
    subst e
    exact ha.elim (fun h => h J.nb) fun e => hb (.inl e.symm)
  have nl : L.l ≠ a := fun e => ha.elim (fun h => h (e ▸ J.nl)) fun e2 => hb (.inr (.inl (e2.symm.trans e.symm)))
  refine ⟨⟨hl ▸ R.bl, ?_, ?_⟩, ⟨fun x o e n => ?_, fun x z => ?_, fun x z => hd x (R.stp.dom x z)⟩, fun x z => hd x (R.wd x (.inl z)), R.len, fun i d e => ?_, fun i m e => ?_, fun q hq => (R.gh q hq).go (fun x z => .inl (hsub x z)) hA, R.uniq, k0, R.g0, R.lk⟩
  · exact J.put hl ho hp naB (hok.weak hsub) (fun x z => (hN x z).imp id fun z => ⟨by rw [z.1]; exact hb, fun h => z.2 (h.symm.trans z.1)⟩) (fun x z => .inl (hsub x z)) hA fun x _ n1 n2 => hK x n1 n2
  · obtain ⟨cs, dg, mx, k1, k2, k3⟩ := R.amb.2.2
    exact ⟨cs, dg, mx, by rw [hl, hK b nb fun z => (J.pv _ _ z).1 rfl]; exact k1, by rw [hl, hK L.l nl fun z => (J.pv _ _ z).2.1 rfl]; exact k2, k3⟩
  · have k := R.stp.agr x o e n
    rw [hK x (fun e2 => ?_) fun z => ?_]
    · exact k
    · subst e2
      rcases ha with ha | ha
      · exact (R.stp.new x (.inr (.inr (.inl ha)))).elim n fun z => by rw [e] at z; cases z
      · subst ha; rw [e] at h0; cases h0
    · exact (R.stp.new x (.inr (.inr (.inr ⟨a, z⟩)))).elim n fun z => by rw [e] at z; cases z
  · rcases inB x z with z | e
    · exact R.stp.new x z
    · subst e; exact .inr h0
  · obtain ⟨v, h1, h2⟩ := R.vals i d e
    exact ⟨v, h1, h2.go (fun x z => .inl (hsub x z)) hA⟩
  · obtain ⟨q, h1, h2, h3, h4, h5⟩ := R.own i m e
    have hq : H' q = H q := hK q (fun e2 => by
      subst e2
      exact ha.elim (fun h => h5 (.inr (.inr (.inl h)))) fun e => h4 (.inr e)) fun z => h5 (.inr (.inr (.inr ⟨a, z⟩)))
    exact ⟨q, h1, h2.go (fun x z => .inl (hsub x z)) hA hq, h3, fun z => h4 (.inl z), fun z => (inB q z).elim h5 fun e => h4 (.inr e)⟩
end
end Pd

set_option maxHeartbeats 4000000
/-! objects: fields, properties, methods, C(..) -/
namespace Pd
open PySem PySem.Spec PyProof.Rows L2
/-! ### the hand layer's rules by FnG -/
section
variable {X : Cx} {CX : CXT} {k : Nat} {C p g f a dx : Addr} {fs : List (Str × V)} {n m x : Str} {fd : FuncData} {ps : List Str} {sp : L2.Sp} {E : Sg → XK} {e o : Expr} {es : List Expr} {pos apos q : Pos} {ta : TE} {t : TA}
theorem run_gnA {Ar : Around} {pins : List (Addr × Obj)} {σ : Sg} {H : Hp} {s : Shared} {Q : VK} {us : List Value} {vs : List V} (F : FnG X.prog X.w X.K X.mg X.base CX k f fd ps sp) (hgd : Ar.guards = some []) (hr : Room k Ar) (hb : Binds X.K fd ps []) (hx : PassesAt CX X σ (E σ))
    (J : Inv X pins σ H s) (J0 : Env0 X.prog X.w X.K X.mg X.base Ar X.stack s H) (rv : Vals vs us) (h : sp vs H Q (E σ)) : codeAny (model X.prog X.w) Ar (.call (.ref f) ⟨us, []⟩) (fun r s' => match r with | .ok (.ret v) => EP X pins σ Q v s' | .ok _ => False | .error e => X.xe e s') s := by
  have hsz : (us ++ ([] : List Value)).length = ps.length := by rw [List.append_nil, ← rv.length]; exact F.len _ _ _ _ h
  have b := hb s us J.kIn hsz
  rw [List.append_nil] at b
  refine codeAny_mono (F.run Ar X.stack s H ⟨us, []⟩ us vs Q (E σ) hgd hr J0 b rv h) fun res s' hq => ?_
  match res, hq with
  | .error er, hq => exact hx pins H s er s' J hq
  | .ok (.ret u), hq => exact J.after hq
  | .ok .next, hq => exact hq.elim
  | .ok .brk, hq => exact hq.elim
  | .ok .cont, hq => exact hq.elim
theorem prop_ok {pins : List (Addr × Obj)} {σ : Sg} {H1 : Hp} {s1 : Shared} {Q : VK} {bb : Bool} (I1 : Inv X pins σ H1 s1) (ea : H1 a = some (.ins C dx fs)) (c : Cls X.K C) (hp : PropOf X.K C n p g) (F : FnG X.prog X.w X.K X.mg X.base CX k g fd ps sp) (hgd : X.A.guards = some []) (hr : Room (k + 1) X.A) (hb : Binds X.K fd ps []) (hx : PassesAt CX X.nox σ (E σ)) (q : sp [.ref a] H1 Q (E σ)) :
    wpAny (model X.prog X.w) X.A (getAttr (.ref a) n bb) (EP X pins σ Q) X.xe s1 := by
  obtain ⟨mA, O, _, _, _, _⟩ := ins_get I1.hok ea
  obtain ⟨od, J, _⟩ := O.look
  obtain ⟨rest, hrec⟩ := hp.rec_
  have I2 := I1.tok (s1.toks + 1)
  have hc : (PySem.W.clsIn X.K C).isSome = true := by
    obtain ⟨cd, hc, _⟩ := PySem.W.any_some c.hd
    rw [hc]
    rfl
  refine PySem.W.get_bind I1.kIn J (PySem.W.plainGet_of (c.get n)).1 (PySem.W.findObj_data hc hp.at_ hp.get hp.tak) (PySem.W.plainGet_of (c.get n)).2 (wpAny_call (PySem.W.prop_get (s := { s1 with toks := s1.toks + 1 }) I1.kIn hrec ?_))
  have hsz : ([Value.ref a] ++ ([] : List Value)).length = ps.length := F.len _ _ _ _ q
  have bt := hb { s1 with toks := s1.toks + 1 } [Value.ref a] I2.kIn hsz
  rw [List.append_nil] at bt
  refine codeAny_mono (F.run X.A.in1 X.stack { s1 with toks := s1.toks + 1 } H1 ⟨[.ref a], []⟩ [.ref a] [.ref a] Q (E σ) hgd hr.in1 I2.env0.in1 bt (.cons rfl .nil) q) fun r s' hq => ?_
  cases r with
  | error er => exact False.elim (hx pins H1 { s1 with toks := s1.toks + 1 } er s' (I2.wish _) hq)
  | ok fl =>
    cases fl with
    | ret u =>
      obtain ⟨v, H', I3, rv, q3⟩ := I2.after hq
      show wpAny _ _ (handedOut u) _ _ _
      rw [PySem.W.handedOut_of (handed_of rv)]
      exact wpAny_pure ⟨v, H', I3, rv, q3⟩
    | next => exact False.elim hq
    | brk => exact False.elim hq
    | cont => exact False.elim hq
/-- how the getters of some classes answer -/
structure PRow0 (X : Cx) (CX : CXT) (k : Nat) (n : Str) (r : Addr × L2.Sp) : Prop where
  c : Cls X.K r.1
  ex : ∃ p g fd ps, PropOf X.K r.1 n p g ∧ FnG X.prog X.w X.K X.mg X.base CX k g fd ps r.2 ∧ Binds X.K fd ps []
/-- e.f, a property -/
def tPropT (rows : List (Addr × L2.Sp)) (E : Sg → XK) (ta : TE) : TE := fun σ H Q => ta σ H fun x H1 => ∃ r, r ∈ rows ∧ ∃ a dx fs, x = .ref a ∧ H1 a = some (.ins r.1 dx fs) ∧ r.2 [x] H1 Q (E σ)
theorem pe_propT {rows : List (Addr × L2.Sp)} (he : PE X e ta) (hrows : ∀ r ∈ rows, PRow0 X CX k n r) (hgd : X.A.guards = some []) (hr : Room (k + 1) X.A) (hx : ∀ σ, PassesAt CX X.nox σ (E σ))
    (hab : attributeBase e n X.env (eval e X.env) = eval e X.env := by rfl) : PE X (.Attribute e n pos) (tPropT rows E ta) := by
  refine ⟨fun pins s σ H Q I h => ?_⟩
  refine attr_of hab (thn (he.run pins s σ H _ I h) fun u s1 ⟨x, H1, I1, rx, r, hr1, a, dx, fs, ex, ea, q⟩ => ?_)
  subst ex
  obtain rfl : u = Value.ref a := rx
  obtain ⟨c, p, g, fd, ps, hp, F, hb⟩ := hrows r hr1
  exact prop_ok I1 ea c hp F hgd hr hb (hx σ) q
/-- how the methods of some classes answer -/
structure MRow0 (X : Cx) (CX : CXT) (k : Nat) (m : Str) (r : Addr × L2.Sp) : Prop where
  c : Cls X.K r.1
  ex : ∃ f fd ps, Meth X.K r.1 m f ∧ FnG X.prog X.w X.K X.mg X.base CX k f fd ps r.2 ∧ Binds X.K fd ps []
/-- o.m(..), o of one of some classes -/
def tMethT (rows : List (Addr × L2.Sp)) (m : Str) (E : Sg → XK) (ta : TE) (t : TA) : TE := fun σ H Q => ta σ H fun x H1 => ∃ r, r ∈ rows ∧ ∃ a dx fs, x = .ref a ∧ H1 a = some (.ins r.1 dx fs) ∧ fs.lookup m = none ∧ t σ H1 fun vs H2 => r.2 (x :: vs) H2 Q (E σ)
theorem pe_methT {rows : List (Addr × L2.Sp)} {pl : Sem Bool} (he : PE X o ta) (hrows : ∀ r ∈ rows, MRow0 X CX k m r) (hgd : X.A.guards = some []) (hr : Room k X.A) (hx : ∀ σ, PassesAt CX X σ (E σ)) (ha : PA X (e :: es) t)
    (hst : starEach (e :: es) X.env = (false, eval e X.env) :: starEach es X.env := by rfl) (hpl : (backTo pos (starEach es X.env)).any (·.1) = false := by rfl)
    (ht : eval (.Call (.Attribute o m apos) (e :: es) [] pos) X.env = (do
      let ov ← eval o X.env
      standAt apos.atName
      let (f, first) ← holding [ov] (getMethod ov m pl)
      callWith pos f first (backTo pos (starEach (e :: es) X.env)) (backToKw pos (keywordEach [] X.env))) := by rfl) :
    PE X (.Call (.Attribute o m apos) (e :: es) [] pos) (tMethT rows m E ta t) := by
  refine ⟨fun pins s σ H Q I h => ?_⟩
  refine PySem.W.methodCall_KW (pl := pl) (thn (he.run pins s σ H _ I h) fun u s1 ⟨x, H1, I1, rx, r, hr1, a, dx, fs, ex, ea, l, q⟩ => ?_) ht
  subst ex
  obtain rfl : u = Value.ref a := rx
  obtain ⟨c, f, fd, ps, hm, F, hb⟩ := hrows r hr1
  refine getmeth_ok I1 ea c hm l ?_
  refine PySem.W.callWith_K (first := [.ref a]) (h₀ := X.base) I1.ok.mod.kin hm.kp (thn (ha.run pos pins s1 σ H1 _ I1 q) fun us s2 ⟨vs, H2, I2, rv, q2⟩ => ⟨I2.kIn, ?_⟩) hst hpl
  exact wpAny_call (run_gnA (us := .ref a :: us) (vs := .ref a :: vs) F hgd hr hb (hx σ) I2 I2.env0 (.cons rfl rv) q2)
theorem pe_methT0 {rows : List (Addr × L2.Sp)} {pl : Sem Bool} (he : PE X o ta) (hrows : ∀ r ∈ rows, MRow0 X CX k m r) (hgd : X.A.guards = some []) (hr : Room k X.A) (hx : ∀ σ, PassesAt CX X σ (E σ))
    (ht : eval (.Call (.Attribute o m apos) [] [] pos) X.env = (do
      let ov ← eval o X.env
      standAt apos.atName
      let (f, first) ← holding [ov] (getMethod ov m pl)
      callWith pos f first (backTo pos (starEach [] X.env)) (backToKw pos (keywordEach [] X.env))) := by rfl) :
    PE X (.Call (.Attribute o m apos) [] [] pos) (tMethT rows m E ta tNil) := by
  refine ⟨fun pins s σ H Q I h => ?_⟩
  refine PySem.W.methodCall_KW (pl := pl) (thn (he.run pins s σ H _ I h) fun u s1 ⟨x, H1, I1, rx, r, hr1, a, dx, fs, ex, ea, l, q⟩ => ?_) ht
  subst ex
  obtain rfl : u = Value.ref a := rx
  obtain ⟨c, f, fd, ps, hm, F, hb⟩ := hrows r hr1
  refine getmeth_ok I1 ea c hm l ?_
  exact PySem.W.callWith_K0 (first := [.ref a]) I1.kIn hm.kp (wpAny_call (run_gnA (us := [.ref a]) (vs := [.ref a]) F hgd hr hb (hx σ) I1 I1.env0 (.cons rfl .nil) q))
/-- C(..) -/
def tMakeG (C : Addr) (sp : L2.Sp) (E : Sg → XK) (t : TA) : TE := fun σ H Q => t σ H fun vs H1 => ∀ x dx, H1 x = none → H1 dx = none → dx ≠ x →
  sp (.ref x :: vs) (upd (upd H1 dx (.own x)) x (.ins C dx [])) (fun v H2 => v = .non ∧ Q (.ref x) H2) (E σ)
theorem make_run {pins : List (Addr × Obj)} {σ : Sg} {H : Hp} {s : Shared} {Q : VK} {us : List Value} {vs : List V} (M : Mk X.K C f) (F : FnG X.prog X.w X.K X.mg X.base CX k f fd ps sp) (hgd : X.A.guards = some []) (hr : Room (k + 1) X.A) (hb : Binds X.K fd ps []) (hx : PassesAt CX X σ (E σ)) (I : Inv X pins σ H s) (rv : Vals vs us)
    (h : ∀ x dx, H x = none → H dx = none → dx ≠ x → sp (.ref x :: vs) (upd (upd H dx (.own x)) x (.ins C dx [])) (fun v H2 => v = .non ∧ Q (.ref x) H2) (E σ)) :
    wpAny (model X.prog X.w) X.A (call (.ref C) us) (EP X pins σ Q) X.xe s := by
  have hq := h (s.heap.objs.size + 1) s.heap.objs.size (I.hok.fresh (Nat.le_succ _)) (I.hok.fresh (Nat.le_refl _)) (Nat.ne_of_lt (Nat.lt_succ_self _))
  have I2 := Inv.made (C := C) I
  refine wpAny_call (make_map (f := f) I.kIn M.makes M.init (beq_iff_eq.mp M.fn) (codeAny_mono (run_gnA (us := Value.ref (s.heap.objs.size + 1) :: us) (vs := V.ref (s.heap.objs.size + 1) :: vs) F (by exact hgd) (hr.make C us []) hb hx I2 (I2.env0.make C us []) (.cons rfl rv) hq) fun r s' hq' => ?_))
  cases r with
  | error e => exact hq'
  | ok fl =>
    cases fl with
    | ret u =>
      obtain ⟨v, H', I3, rv, ev, q3⟩ := hq'
      subst ev
      exact ⟨rv, ⟨V.ref (s.heap.objs.size + 1), H', I3, rfl, q3⟩⟩
    | next => exact False.elim hq'
    | brk => exact False.elim hq'
    | cont => exact False.elim hq'
theorem pe_makeG (M : Mk X.K C f) (F : FnG X.prog X.w X.K X.mg X.base CX k f fd ps sp) (hgd : X.A.guards = some []) (hr : Room (k + 1) X.A) (hg : Gl X x) (hm : X.mg x = some (.ref C)) (hb : Binds X.K fd ps []) (hx : ∀ σ, PassesAt CX X σ (E σ))
    (ha : PA X (e :: es) t) (hdb : (x == ("__debug__" : Str)) = false := by decide) (he : starEach (e :: es) X.env = (false, eval e X.env) :: starEach es X.env := by rfl) (hpl : (backTo pos (starEach es X.env)).any (·.1) = false := by rfl) :
    PE X (.Call (.Name x q) (e :: es) [] pos) (tMakeG C sp E t) := by
  refine ⟨fun pins s σ H Q I h => ?_⟩
  refine wpAny_Call_Name_kw (ld_glob I hg hm ?_ hdb)
  refine PySem.W.callWith_K (h₀ := X.base) I.ok.mod.kin M.kp (thn (ha.run pos pins s σ H _ I h) fun us s1 ⟨vs, H1, I1, r, q⟩ => ⟨I1.kIn, ?_⟩) he hpl
  exact make_run M F hgd hr hb (hx σ) I1 r q
end
end Pd

set_option maxHeartbeats 4000000
/-! objects over trees: fields, properties, methods, C(..) -/
namespace Pd
open PySem PySem.Spec PyProof.Rows L2
/-- d is an instance of one of the classes -/
structure ObP (s : BS) (d : D) (cs : List Str) (Φ : Addr → LO → Addr → Str → List Str → List FV → Prop) : Prop where
  ex : ∃ b l a c ns vs, s = .bag b l ∧ d = .any (.ref a) ∧ l.o a = some (.ins c ns vs) ∧ c ∈ cs ∧ Φ b l a c ns vs
theorem ob_go {b : Addr} {l : LO} {a : Addr} {c : Str} {ns : List Str} {vs : List FV} {cs : List Str} {Φ : Addr → LO → Addr → Str → List Str → List FV → Prop} (h : l.o a = some (.ins c ns vs)) (hc : c ∈ cs) (q : Φ b l a c ns vs) : ObP (.bag b l) (.any (.ref a)) cs Φ := ⟨b, l, a, c, ns, vs, rfl, rfl, h, hc, q⟩
/-- what the top says of a class and a name that is a field -/
structure FldC (K : Fg) (mg : Str → Option Value) (f c : Str) : Prop where
  ex : ∃ C, mg c = some (.ref C) ∧ Cls K C ∧ NoAttr K C f
abbrev retK {S : Type} (Φ : D → S → Prop) : Ret → S → Prop := fun r s2 => match r with
  | .d d => Φ d s2
  | .o (.lst l) => Φ (.lst l) s2
  | .o (.dk ks vs) => Φ (.dct ks vs) s2
  | .o (.dt ks vs) => Φ (.dtt ks vs) s2
section
variable {A : Amb} {w0 : Ad} {g0 : List (D × V)} {Lk : A.S → Hp → Prop} {W : Ot} {s0 s1 : A.S} {H0 H1 : Hp} {σ : Sg} {ρ : List Sl} {np : Nat} {ds : List D} {vs : List V} {Φ : D → A.S → Prop} {Q : VK}
theorem ret_rs {s2 : A.S} {H2 : Hp} {r : Ret} {v : V} (hr : retK Φ r s2) (rk : RetOk A ⟨fun a => W.w a ∨ ownS σ ρ a, []⟩ s1 H1 s2 H2 v r) : ∃ d, Φ d s2 ∧ Rs (om true A W s2 σ ρ) H2 d v := by
  have ow : ∀ a, om true A W s2 σ ρ a → (W.w a ∨ ownS σ ρ a) ∨ A.B s2 a := fun a z => by
    rcases z with z | z | z
    · exact .inl (.inl z)
    · exact .inr z
    · exact .inl (.inr z.2)
  cases r with
  | d d => exact ⟨d, hr, Rs.weak rk ow⟩
  | o mo =>
    obtain ⟨p, rfl, k1, k2, k3, k4, _⟩ := rk
    have np : ¬ om true A W s2 σ ρ p := fun z => (ow p z).elim k2 k3
    have ow2 : ∀ a, om true A W s2 σ ρ a → ((W.w a ∨ ownS σ ρ a) ∨ a = p) ∨ A.B s2 a := fun a z => (ow a z).imp .inl id
    cases mo with
    | lst l => obtain ⟨xs, g1, g2⟩ := k4; exact ⟨_, hr, .lst g1 np (g2.weak ow2)⟩
    | dk ks vs => obtain ⟨kvs, g1, g3, g2⟩ := k4; exact ⟨_, hr, .dct g1 np g3 (g2.weak ow2)⟩
    | dt ks vs => obtain ⟨kvs, g1, g3, g2⟩ := k4; exact ⟨_, hr, .dtt g1 np g3 (g2.weak ow2)⟩
theorem call_w (R1 : ER A W s0 H0 s1 σ H1 ρ) : ∀ a, (W.w a ∨ ownS σ ρ a) → H1 a ≠ none := fun a z => by
  rcases z with z | ⟨i, mo, e1, e2⟩
  · exact R1.wd a z
  · obtain ⟨b, k1, k2, _⟩ := R1.own i mo e1
    rw [k1] at e2
    cases e2
    exact k2.some
theorem call_rs (r1 : RsL (om true A W s1 σ ρ) H1 ds vs) : RsL (fun a => (W.w a ∨ ownS σ ρ a) ∨ A.B s1 a) H1 ds vs := r1.weak fun a z => by
  rcases z with (z | z) | z
  · exact .inl z
  · exact .inr (.inr ⟨rfl, z⟩)
  · exact .inr (.inl z)
theorem core_call {g : Pg A} {E : XK} (R1 : ER (A.wish w0 g0 Lk) W s0 H0 s1 σ H1 ρ) (r1 : RsL (om true (A.wish w0 g0 Lk) W s1 σ ρ) H1 ds vs) (hl : ds.length = np) (hg : g ds s1 (retK Φ))
    (q : ∀ d s2 v H2, Φ d s2 → ER (A.wish w0 g0 Lk) W s0 H0 s2 σ H2 ρ → Stp (A.wish w0 g0 Lk) s1 s2 H1 H2 → Rs (om true (A.wish w0 g0 Lk) W s2 σ ρ) H2 d v → Q v H2) : spOf A np g vs H1 Q E := by
  refine ⟨fun a => W.w a ∨ ownS σ ρ a, s1, ds, _, call_w R1, reg_in1 (A := A.wish w0 g0 Lk) R1.amb, call_rs (A := A.wish w0 g0 Lk) r1, hl, hg, fun r s2 v H2 hr i2 st2 _ rk => ?_⟩
  obtain ⟨d, h1, h2⟩ := ret_rs (A := A.wish w0 g0 Lk) (W := W) (σ := σ) (ρ := ρ) (s1 := s1) (H1 := H1) hr (by cases r <;> exact rk)
  exact q d s2 v H2 h1 (ER.go (A := A.wish w0 g0 Lk) R1 st2.on (reg_out1 (A := A.wish w0 g0 Lk) i2)) st2.on h2
theorem core_callX {mg : Str → Option Value} {Wx : WX} {Xi : XiT A} {g : PgX A} (wi : Wish mg (A.wish w0 g0 Lk) Wx Xi) (R1 : ER (A.wish w0 g0 Lk) W s0 H0 s1 σ H1 ρ) (r1 : RsL (om true (A.wish w0 g0 Lk) W s1 σ ρ) H1 ds vs) (hl : ds.length = np) (hg : g ds s1 (retK Φ) (fun x s2 => Xi x ρ s2))
    (q : ∀ d s2 v H2, Φ d s2 → ER (A.wish w0 g0 Lk) W s0 H0 s2 σ H2 ρ → Stp (A.wish w0 g0 Lk) s1 s2 H1 H2 → Rs (om true (A.wish w0 g0 Lk) W s2 σ ρ) H2 d v → Q v H2) : spOfX mg A np g vs H1 Q (WE Wx σ) := by
  refine ⟨fun a => W.w a ∨ ownS σ ρ a, s1, ds, _, _, call_w R1, reg_in1 (A := A.wish w0 g0 Lk) R1.amb, call_rs (A := A.wish w0 g0 Lk) r1, hl, hg, fun r s2 v H2 hr i2 st2 _ rk => ?_, fun x s2 cls d H2 hx i2 st2 _ hxd => ?_⟩
  · obtain ⟨d, h1, h2⟩ := ret_rs (A := A.wish w0 g0 Lk) (W := W) (σ := σ) (ρ := ρ) (s1 := s1) (H1 := H1) hr (by cases r <;> exact rk)
    exact q d s2 v H2 h1 (ER.go (A := A.wish w0 g0 Lk) R1 st2.on (reg_out1 (A := A.wish w0 g0 Lk) i2)) st2.on h2
  · refine wi W s0 H0 s2 σ H2 ρ x cls d (ER.go (A := A.wish w0 g0 Lk) R1 st2.on (reg_out1 (A := A.wish w0 g0 Lk) i2)) (hxd.weak fun a z => ?_) hx
    rcases z with z | z | z
    · exact .inl (.inl z)
    · exact .inr z
    · exact .inl (.inr z.2)
end
section
variable {K : Fg} {mg : Str → Option Value} {w0 : Ad} {g0 : List (D × V)} {Lk : BS → Hp → Prop} {W : Ot} {s0 s : BS} {H0 H : Hp} {σ : Sg} {ρ : List Sl} {m sh m1 sh1 : Bool} {te to : TE} {fe fo : FE BS} {cs : List Str} {f : Str} {i : Nat}
/-- an instance's place -/
theorem ins_at {b a : Addr} {L : LO} {c : Str} {ns : List Str} {vs : List FV} (R : ER (OA K mg w0 g0 Lk) W s0 H0 (.bag b L) σ H ρ) (h : L.o a = some (.ins c ns vs)) :
    ns.Nodup ∧ vs.length = ns.length ∧ (∃ C dx fs, mg c = some (.ref C) ∧ H a = some (.ins C dx fs) ∧ fs.map (·.1) = ns ∧ ∀ i fv, vs[i]? = some fv → ∃ n v, fs[i]? = some (n, v) ∧ FvOk (om true (OA K mg w0 g0 Lk) W (.bag b L) σ ρ) H (L.p a i) fv v) ∧
    ∀ i j ds es, vs[i]? = some (.l ds) → vs[j]? = some (.l es) → L.p a i = L.p a j → i = j := R.oj.ok a _ h
theorem any_ref {B : Ad} {a : Addr} {v : V} (r : Rs B H (.any (.ref a)) v) : v = .ref a := by cases r; rfl
/-! e.f -/
def fFld (cs : List Str) (f : Str) (i : Nat) (fe : FE BS) : FE BS := fun ρ s Φ => fe ρ s fun d s1 => ObP s1 d cs fun _ _ _ _ ns vs => ns[i]? = some f ∧ match vs[i]? with
  | some (.v v) => Φ v s1
  | _ => False
theorem fld_at {fs : List (Str × V)} {ns : List Str} {n : Str} {v : V} (hn : fs.map (·.1) = ns) (nd : ns.Nodup) (hi : ns[i]? = some f) (hf : fs[i]? = some (n, v)) : n = f ∧ fs.lookup f = some v := by
  have e : n = f := by
    rw [← hn, List.getElem?_map, hf] at hi
    exact Option.some.inj hi
  subst e
  exact ⟨rfl, lookup_at (hn ▸ nd) hf⟩
theorem om_true {A : Amb} {W : Ot} {s : A.S} {σ : Sg} {ρ : List Sl} : ∀ a, om m A W s σ ρ a → om true A W s σ ρ a := ER.weakT
theorem sd_fld (hc : ∀ c ∈ cs, FldC K mg f c) (h : SdE (OA K mg w0 g0 Lk) m1 sh1 te fe) : SdE (OA K mg w0 g0 Lk) m sh (tFld K te f) (fFld cs f i fe) := fun W s0 H0 s σ H ρ Φ Q R hp q =>
  h W s0 H0 s σ H ρ _ _ R hp fun d s1 x H1 ⟨⟨b, L, a, c, ns, vs, es, ed, ho, hcs, hi, hq⟩⟩ R1 st1 r1 => by
    subst es
    subst ed
    obtain rfl := r1.any
    obtain ⟨n1, n2, ⟨C, dx, fs, k1, k2, k3, k4⟩, _⟩ := ins_at R1 ho
    split at hq
    · rename_i v e
      obtain ⟨n, y, g1, g2⟩ := k4 i _ e
      obtain ⟨rfl, g3⟩ := fld_at k3 n1 hi g1
      obtain ⟨⟨C', c1, c2, c3⟩⟩ := hc c hcs
      rw [k1] at c1
      cases c1
      exact ⟨a, C, dx, fs, y, rfl, k2, c2, c3, g3, q _ _ _ _ hq R1 st1 (.inl (Rs.weak g2 om_true))⟩
    · exact hq.elim
/-! e.f = v: a field that is there; a new one -/
def fStF (cs : List Str) (f : Str) (i : Nat) (fo fe : FE BS) : FS BS := fun P ρ s => fe ρ s fun v s1 => fo ρ s1 fun d s2 => ObP s2 d cs fun b l a c ns vs => (ns[i]? = some f ∧ ns.length < 900) ∧ P.nx ρ (.bag b (l.put a (.ins c ns (vs.set i (.v v)))))
def fStN (cs : List Str) (f : Str) (fo fe : FE BS) : FS BS := fun P ρ s => fe ρ s fun v s1 => fo ρ s1 fun d s2 => ObP s2 d cs fun b l a c ns vs => (decide (f ∈ ns) = false ∧ ns.length < 900) ∧ P.nx ρ (.bag b (l.put a (.ins c (ns ++ [f]) (vs ++ [.v v]))))
theorem ns_len {fs : List (Str × V)} {ns : List Str} (h : fs.map (·.1) = ns) : fs.length = ns.length := by rw [← h, List.length_map]
theorem ss_stF (hc : ∀ c ∈ cs, FldC K mg f c) (he : SdE (OA K mg w0 g0 Lk) true false te fe) (h : SdE (OA K mg w0 g0 Lk) m1 sh1 to fo) : SdS (OA K mg w0 g0 Lk) (sFld K to te f) (fStF cs f i fo fe) := fun W s0 H0 s σ H ρ P D R hp nx _ _ _ =>
  he W s0 H0 s σ H ρ _ _ R hp fun v s1 y H1 hp R1 st1 ry => h W s0 H0 s1 σ H1 ρ _ _ R1 hp fun d s2 x H2 ⟨⟨b, L, a, c, ns, vs, es, ed, ho, hcs, ⟨hi, hln⟩, hq⟩⟩ R2 st2 r2 => by
    subst es
    subst ed
    obtain rfl := r2.any
    obtain ⟨n1, n2, ⟨C, dx, fs, k1, k2, k3, k4⟩, k5⟩ := ins_at R2 ho
    obtain ⟨⟨C', c1, c2, c3⟩⟩ := hc c hcs
    rw [k1] at c1
    cases c1
    have hlt : i < ns.length := (List.getElem?_eq_some_iff.mp hi).1
    obtain ⟨n, y0, g1, _⟩ := k4 i vs[i] (List.getElem?_eq_getElem (by omega))
    obtain ⟨rfl, _⟩ := fld_at k3 n1 hi g1
    have ry2 := ry.rs.stp st2
    have hkey : (putF n y fs).map (·.1) = ns := by
      rw [putF_at (k3 ▸ n1) g1, List.map_set, k3]
      exact List.ext_getElem? fun j => by
        by_cases e : i = j
        · subst e; rw [List.getElem?_set_self hlt, hi]
        · rw [List.getElem?_set_ne e]
    have hfree : ∀ x : Addr, H2 x ≠ none → upd H2 a (HO.ins C dx (putF n y fs)) x ≠ none := fun x z => by
      by_cases e : x = a
      · subst e; rw [upd_same]; simp
      · rw [upd_ne e]; exact z
    have own : ∀ (j : Nat) (ds : List Pd.D), (vs.set i (FV.v v))[j]? = some (FV.l ds) → vs[j]? = some (FV.l ds) := fun j ds z => by
      by_cases e : i = j
      · subst e
        rw [List.getElem?_set_self (by omega)] at z
        cases z
      · rw [List.getElem?_set_ne e] at z; exact z
    have na : ∀ (j : Nat) (ds : List Pd.D), vs[j]? = some (FV.l ds) → L.p a j ≠ a := fun j ds z e => by
      have := (R2.oj.pv a _ ⟨_, ho, j, ds, z, rfl⟩).2.2
      rw [e, ho] at this
      cases this
    have ag : Agr (om true (OA K mg w0 g0 Lk) W (.bag b L) σ ρ) H2 (upd H2 a (HO.ins C dx (putF n y fs))) := fun x o e nn => by
      rw [upd_ne fun z => nn (by subst z; exact .inr (.inl (.inr (.inr (.inl (by rw [ho]; simp))))))]
      exact e
    refine ⟨a, C, dx, fs, rfl, k2, c2, c3, ?_, nx _ _ _ _ hq (R2.ob (L' := L.put a _) (oc' := .ins c ns (vs.set i (.v v))) rfl rfl (fun _ _ => rfl) (by rw [ho]; simp) ?_ ?_ (fun x z _ => upd_ne z) hfree).1⟩
    · rw [ns_len k3]; omega
    · refine ⟨n1, by rw [List.length_set]; exact n2, ⟨C, dx, putF n y fs, k1, upd_same, hkey, fun j fv hj => ?_⟩, fun j j' ds es z1 z2 => k5 j j' ds es (own j ds z1) (own j' es z2)⟩
      have hput := putF_at (v := y) (k3 ▸ n1) g1
      by_cases e : i = j
      · subst e
        rw [List.getElem?_set_self (by omega)] at hj
        cases hj
        exact ⟨n, y, by rw [hput, List.getElem?_set_self (by rw [ns_len k3]; exact hlt)], Rs.go (fun x z => .inl z) ag ry2⟩
      · rw [List.getElem?_set_ne e] at hj
        obtain ⟨n', v', q1, q2⟩ := k4 j fv hj
        exact ⟨n', v', by rw [hput, List.getElem?_set_ne e]; exact q1, q2.go (fun x z => .inl z) ag fun ds z => upd_ne (na j ds (z ▸ hj))⟩
    · rintro x ⟨j, ds, z, rfl⟩
      exact ⟨_, ho, j, ds, own j ds z, rfl⟩
theorem ss_stN (hc : ∀ c ∈ cs, FldC K mg f c) (he : SdE (OA K mg w0 g0 Lk) true false te fe) (h : SdE (OA K mg w0 g0 Lk) m1 sh1 to fo) : SdS (OA K mg w0 g0 Lk) (sFld K to te f) (fStN cs f fo fe) := fun W s0 H0 s σ H ρ P D R hp nx _ _ _ =>
  he W s0 H0 s σ H ρ _ _ R hp fun v s1 y H1 hp R1 st1 ry => h W s0 H0 s1 σ H1 ρ _ _ R1 hp fun d s2 x H2 ⟨⟨b, L, a, c, ns, vs, es, ed, ho, hcs, ⟨hi, hln⟩, hq⟩⟩ R2 st2 r2 => by
    subst es
    subst ed
    obtain rfl := r2.any
    obtain ⟨n1, n2, ⟨C, dx, fs, k1, k2, k3, k4⟩, k5⟩ := ins_at R2 ho
    obtain ⟨⟨C', c1, c2, c3⟩⟩ := hc c hcs
    rw [k1] at c1
    cases c1
    have hi := of_decide_eq_false hi
    have ry2 := ry.rs.stp st2
    have hput := putF_off (v := y) (f := f) (fs := fs) (by rw [k3]; exact hi)
    have hfree : ∀ x : Addr, H2 x ≠ none → upd H2 a (HO.ins C dx (putF f y fs)) x ≠ none := fun x z => by
      by_cases e : x = a
      · subst e; rw [upd_same]; simp
      · rw [upd_ne e]; exact z
    have own : ∀ (j : Nat) (ds : List Pd.D), (vs ++ [FV.v v])[j]? = some (FV.l ds) → vs[j]? = some (FV.l ds) := fun j ds z => by
      by_cases e : j < vs.length
      · rw [List.getElem?_append_left e] at z; exact z
      · rw [List.getElem?_append_right (by omega)] at z
        obtain ⟨k, hk⟩ : ∃ k, k = j - vs.length := ⟨_, rfl⟩
        rw [← hk] at z
        cases k with
        | zero => cases z
        | succ k => cases z
    have na : ∀ (j : Nat) (ds : List Pd.D), vs[j]? = some (FV.l ds) → L.p a j ≠ a := fun j ds z e => by
      have := (R2.oj.pv a _ ⟨_, ho, j, ds, z, rfl⟩).2.2
      rw [e, ho] at this
      cases this
    have ag : Agr (om true (OA K mg w0 g0 Lk) W (.bag b L) σ ρ) H2 (upd H2 a (HO.ins C dx (putF f y fs))) := fun x o e nn => by
      rw [upd_ne fun z => nn (by subst z; exact .inr (.inl (.inr (.inr (.inl (by rw [ho]; simp))))))]
      exact e
    refine ⟨a, C, dx, fs, rfl, k2, c2, c3, by rw [ns_len k3]; omega, nx _ _ _ _ hq (R2.ob (L' := L.put a _) (oc' := .ins c (ns ++ [f]) (vs ++ [.v v])) rfl rfl (fun _ _ => rfl) (by rw [ho]; simp) ?_ ?_ (fun x z _ => upd_ne z) hfree).1⟩
    · refine ⟨?_, by rw [List.length_append, List.length_append]; exact congrArg (· + 1) n2, ⟨C, dx, putF f y fs, k1, upd_same, by rw [hput, List.map_append, k3]; rfl, fun j fv hj => ?_⟩, fun j j' ds es z1 z2 => k5 j j' ds es (own j ds z1) (own j' es z2)⟩
      · rw [List.nodup_append]
        exact ⟨n1, by simp, fun x hx y hy => by rw [List.mem_singleton.mp hy]; exact fun e => hi (e ▸ hx)⟩
      · by_cases e : j < vs.length
        · rw [List.getElem?_append_left e] at hj
          obtain ⟨n', v', q1, q2⟩ := k4 j fv hj
          exact ⟨n', v', by rw [hput, List.getElem?_append_left (by rw [ns_len k3]; omega)]; exact q1, q2.go (fun x z => .inl z) ag fun ds z => upd_ne (na j ds (z ▸ hj))⟩
        · rw [List.getElem?_append_right (by omega)] at hj
          have ej : j - vs.length = 0 := by
            rcases Nat.eq_zero_or_pos (j - vs.length) with z | z
            · exact z
            · rw [List.getElem?_eq_none (by rw [List.length_singleton]; omega)] at hj; cases hj
          rw [ej] at hj
          cases hj
          refine ⟨f, y, ?_, Rs.go (fun x z => .inl z) ag ry2⟩
          rw [hput, List.getElem?_append_right (by rw [ns_len k3]; omega), ns_len k3, show j - ns.length = 0 by omega]
          rfl
    · rintro x ⟨j, ds, z, rfl⟩
      exact ⟨_, ho, j, ds, own j ds z, rfl⟩
end
/-! ### what a class's methods promise -/
structure CalM (P : Program) (w : World) (K : Fg) (mg : Str → Option Value) (base : Heap) (A : Amb) (k : Nat) (c m : Str) (np : Nat) (g : Pg A) : Prop where
  ex : ∃ C f fd ps, mg c = some (.ref C) ∧ Cls K C ∧ Meth K C m f ∧ FnG P w K mg base CX0 k f fd ps (spOf A np g) ∧ Binds K fd ps []
structure CalMX (P : Program) (w : World) (K : Fg) (mg : Str → Option Value) (base : Heap) (A : Amb) (k : Nat) (c m : Str) (np : Nat) (g : PgX A) : Prop where
  ex : ∃ C f fd ps, mg c = some (.ref C) ∧ Cls K C ∧ Meth K C m f ∧ FnG P w K mg base (L2N.CX P w) k f fd ps (spOfX mg A np g) ∧ Binds K fd ps []
structure CalP (P : Program) (w : World) (K : Fg) (mg : Str → Option Value) (base : Heap) (A : Amb) (k : Nat) (c m : Str) (g : Pg A) : Prop where
  ex : ∃ C p f fd ps, mg c = some (.ref C) ∧ Cls K C ∧ PropOf K C m p f ∧ FnG P w K mg base CX0 k f fd ps (spOf A 1 g) ∧ Binds K fd ps []
structure CalI (P : Program) (w : World) (K : Fg) (mg : Str → Option Value) (base : Heap) (A : Amb) (k : Nat) (c : Str) (np : Nat) (g : Pg A) : Prop where
  ex : ∃ C f fd ps, mg c = some (.ref C) ∧ Mk K C f ∧ FnG P w K mg base CX0 k f fd ps (spOf A np g) ∧ Binds K fd ps []
structure CalIX (P : Program) (w : World) (K : Fg) (mg : Str → Option Value) (base : Heap) (A : Amb) (k : Nat) (c : Str) (np : Nat) (g : PgX A) : Prop where
  ex : ∃ C f fd ps, mg c = some (.ref C) ∧ Mk K C f ∧ FnG P w K mg base (L2N.CX P w) k f fd ps (spOfX mg A np g) ∧ Binds K fd ps []
def cAd (mg : Str → Option Value) (c : Str) : Addr := match mg c with
  | some (.ref C) => C
  | _ => 0
theorem cAd_of {mg : Str → Option Value} {c : Str} {C : Addr} (h : mg c = some (.ref C)) : cAd mg c = C := by unfold cAd; rw [h]
/-- the promise of the instance's own class -/
structure RowP {α : Type} (tab : List (Str × α)) (c : Str) (Φ : α → Prop) : Prop where
  ex : ∃ g, (c, g) ∈ tab ∧ Φ g
def noF (ns : List Str) (m : Str) : Bool := decide (m ∉ ns)
def fProp (tab : List (Str × Pg BS)) (fe : FE BS) : FE BS := fun ρ s Φ => fe ρ s fun d s1 => ObP s1 d (tab.map (·.1)) fun _ _ _ c _ _ => RowP tab c fun g => Sp g [d] s1 (retK Φ)
def fMeth (tab : List (Str × Pg BS)) (m : Str) (fo : FE BS) (fa : FA BS) : FE BS := fun ρ s Φ => fo ρ s fun d s1 => ObP s1 d (tab.map (·.1)) fun _ _ _ c ns _ => RowP tab c fun g => noF ns m = true ∧ fa ρ s1 fun ds s2 => Sp g (d :: ds) s2 (retK Φ)
def fMethX (Xi : XiT BS) (tab : List (Str × PgX BS)) (m : Str) (fo : FE BS) (fa : FA BS) : FE BS := fun ρ s Φ => fo ρ s fun d s1 => ObP s1 d (tab.map (·.1)) fun _ _ _ c ns _ => RowP tab c fun g => noF ns m = true ∧ fa ρ s1 fun ds s2 => SpX g (d :: ds) s2 (retK Φ) fun x s3 => Xi x ρ s3
/-- C(..): the new instance at a -/
structure NewP (s : BS) (c : Str) (Φ : Addr → LO → Addr → Prop) : Prop where
  ex : ∃ b l, s = .bag b l ∧ ∀ a, l.o a = none → Φ b l a
def fMake (c : Str) (g : Pg BS) (fa : FA BS) : FE BS := fun ρ s Φ => fa ρ s fun ds s1 => NewP s1 c fun b l a => Sp g (.any (.ref a) :: ds) (.bag b (l.put a (.ins c [] []))) (retK fun d s2 => d = .non ∧ Φ (.any (.ref a)) s2)
def fMakeX (Xi : XiT BS) (c : Str) (g : PgX BS) (fa : FA BS) : FE BS := fun ρ s Φ => fa ρ s fun ds s1 => NewP s1 c fun b l a => SpX g (.any (.ref a) :: ds) (.bag b (l.put a (.ins c [] []))) (retK fun d s2 => d = .non ∧ Φ (.any (.ref a)) s2) fun x s3 => Xi x ρ s3
section
variable {P : Program} {w : World} {base : Heap} {K : Fg} {mg : Str → Option Value} {w0 : Ad} {g0 : List (D × V)} {Lk : BS → Hp → Prop} {m sh m1 sh1 : Bool} {te to : TE} {fe fo : FE BS} {ta : TA} {fa : FA BS} {cs : List Str} {f : Str} {i np : Nat} {C : Addr} {c : Str}
theorem lk_none {fs : List (Str × V)} {ns : List Str} (h : fs.map (·.1) = ns) (hn : noF ns f = true) : fs.lookup f = none := lookup_off (by rw [h]; exact of_decide_eq_true hn)
theorem any_rs {B : Ad} {H : Hp} {a : Addr} : Rs B H (.any (.ref a)) (.ref a) := .any _
theorem sd_prop {tab : List (Str × Pg BS)} {E : Sg → XK} (h : SdE (OA K mg w0 g0 Lk) m1 sh1 te fe) : SdE (OA K mg w0 g0 Lk) m sh (tPropT (tab.map fun r => (cAd mg r.1, spOf (BM K (some mg)) 1 r.2)) E te) (fProp tab fe) := fun W s0 H0 s σ H ρ Φ Q R hp q =>
  h W s0 H0 s σ H ρ _ _ R hp fun d s1 x H1 ⟨⟨b, L, a, c, ns, vs, es, ed, ho, hcs, hq⟩⟩ R1 st1 r1 => by
    subst es
    subst ed
    obtain rfl := r1.any
    obtain ⟨n1, n2, ⟨C', dx, fs, k1, k2, k3, k4⟩, _⟩ := ins_at R1 ho
    obtain ⟨⟨g, hg, hq⟩⟩ := hq
    exact ⟨_, List.mem_map.mpr ⟨(c, g), hg, rfl⟩, a, dx, fs, rfl, by rw [cAd_of k1]; exact k2, core_call (E := E σ) R1 (.cons any_rs .nil) rfl hq.go fun d s2 v H2 h2 R2 st2 r2 => q d s2 v H2 h2 R2 (st1.trans st2) (.inl (Rs.weak r2 om_true))⟩
theorem sd_meth {tab : List (Str × Pg BS)} {f : Str} {E : Sg → XK} (h : SdE (OA K mg w0 g0 Lk) m1 sh1 to fo) (ha : SdL (OA K mg w0 g0 Lk) true false np ta fa) :
    SdE (OA K mg w0 g0 Lk) m sh (tMethT (tab.map fun r => (cAd mg r.1, spOf (BM K (some mg)) (np + 1) r.2)) f E to ta) (fMeth tab f fo fa) := fun W s0 H0 s σ H ρ Φ Q R hp q =>
  h W s0 H0 s σ H ρ _ _ R hp fun d s1 x H1 ⟨⟨b, L, a, c, ns, vs, es, ed, ho, hcs, hq⟩⟩ R1 st1 r1 => by
    subst es
    subst ed
    obtain rfl := r1.any
    obtain ⟨n1, n2, ⟨C', dx, fs, k1, k2, k3, k4⟩, _⟩ := ins_at R1 ho
    obtain ⟨⟨g, hg, hn, hq⟩⟩ := hq
    refine ⟨_, List.mem_map.mpr ⟨(c, g), hg, rfl⟩, a, dx, fs, rfl, by rw [cAd_of k1]; exact k2, lk_none k3 hn, ?_⟩
    exact ha W s0 H0 _ σ H1 ρ _ _ R1 hq fun ds s2 us H2 h2 R2 st2 r2 hl => core_call (E := E σ) R2 (.cons any_rs r2.rs) (by rw [List.length_cons, hl]) h2.go fun d s3 v H3 h3 R3 st3 r3 => q d s3 v H3 h3 R3 ((st1.trans st2).trans st3) (.inl (Rs.weak r3 om_true))
theorem sd_methX {tab : List (Str × PgX BS)} {f : Str} {Wx : WX} {Xi : XiT BS} (wi : Wish mg (OA K mg w0 g0 Lk) Wx Xi) (h : SdE (OA K mg w0 g0 Lk) m1 sh1 to fo) (ha : SdL (OA K mg w0 g0 Lk) true false np ta fa) :
    SdE (OA K mg w0 g0 Lk) m sh (tMethT (tab.map fun r => (cAd mg r.1, spOfX mg (BM K (some mg)) (np + 1) r.2)) f (WE Wx) to ta) (fMethX Xi tab f fo fa) := fun W s0 H0 s σ H ρ Φ Q R hp q =>
  h W s0 H0 s σ H ρ _ _ R hp fun d s1 x H1 ⟨⟨b, L, a, c, ns, vs, es, ed, ho, hcs, hq⟩⟩ R1 st1 r1 => by
    subst es
    subst ed
    obtain rfl := r1.any
    obtain ⟨n1, n2, ⟨C', dx, fs, k1, k2, k3, k4⟩, _⟩ := ins_at R1 ho
    obtain ⟨⟨g, hg, hn, hq⟩⟩ := hq
    refine ⟨_, List.mem_map.mpr ⟨(c, g), hg, rfl⟩, a, dx, fs, rfl, by rw [cAd_of k1]; exact k2, lk_none k3 hn, ?_⟩
    exact ha W s0 H0 _ σ H1 ρ _ _ R1 hq fun ds s2 us H2 h2 R2 st2 r2 hl => core_callX wi R2 (.cons any_rs r2.rs) (by rw [List.length_cons, hl]) h2.go fun d s3 v H3 h3 R3 st3 r3 => q d s3 v H3 h3 R3 ((st1.trans st2).trans st3) (.inl (Rs.weak r3 om_true))
theorem new_inst {W : Ot} {s0 : BS} {H0 H1 : Hp} {σ : Sg} {ρ : List Sl} {b x dx : Addr} {L : LO} (R1 : ER (OA K mg w0 g0 Lk) W s0 H0 (.bag b L) σ H1 ρ) (hmg : mg c = some (.ref C)) (hx : H1 x = none) (hdx : H1 dx = none) (ne : dx ≠ x) :
    L.o x = none ∧ ER (OA K mg w0 g0 Lk) W s0 H0 (.bag b (L.put x (.ins c [] []))) σ (upd (upd H1 dx (.own x)) x (.ins C dx [])) ρ ∧ Stp (OA K mg w0 g0 Lk) (.bag b L) (.bag b (L.put x (.ins c [] []))) H1 (upd (upd H1 dx (.own x)) x (.ins C dx [])) := by
  have J := R1.oj
  refine ⟨?_, R1.obNew (a := x) (oc' := .ins c [] []) hx rfl rfl rfl ⟨by simp, rfl, ⟨C, dx, [], hmg, upd_same, rfl, fun i fv z => by simp at z⟩, fun i j ds es z => by simp at z⟩ (fun y z => by obtain ⟨i, ds, z, _⟩ := z; simp at z) fun y o e => ?_⟩
  · cases k : L.o x with
    | none => rfl
    | some oc => exact ((J.ok x oc k).here hx).elim
  · rw [upd_ne (ne_of_none e hx), upd_ne (ne_of_none e hdx)]
    exact e
theorem sd_make {g : Pg BS} {E : Sg → XK} (hmg : mg c = some (.ref C)) (ha : SdL (OA K mg w0 g0 Lk) true false np ta fa) : SdE (OA K mg w0 g0 Lk) m sh (tMakeG C (spOf (BM K (some mg)) (np + 1) g) E ta) (fMake c g fa) := fun W s0 H0 s σ H ρ Φ Q R hp q =>
  ha W s0 H0 s σ H ρ _ _ R hp fun ds s1 us H1 ⟨⟨b, L, es, hq⟩⟩ R1 st1 r1 hl => by
    subst es
    intro x dx hx hdx ne
    obtain ⟨z, R2, st2⟩ := new_inst R1 hmg hx hdx ne
    refine core_call (A := BM K (some mg)) (w0 := w0) (g0 := g0) (Lk := Lk) (E := E σ) (Φ := fun d s2 => d = .non ∧ Φ (.any (.ref x)) s2) R2 (.cons any_rs (r1.rs.stp st2)) (by rw [List.length_cons, hl]) (hq x z).go fun d s3 v H3 h3 R3 st3 r3 => ?_
    obtain ⟨rfl, h3⟩ := h3
    cases r3
    exact ⟨rfl, q _ _ _ _ h3 R3 ((st1.trans st2).trans st3) (.inl any_rs)⟩
theorem sd_makeX {g : PgX BS} {Wx : WX} {Xi : XiT BS} (wi : Wish mg (OA K mg w0 g0 Lk) Wx Xi) (hmg : mg c = some (.ref C)) (ha : SdL (OA K mg w0 g0 Lk) true false np ta fa) : SdE (OA K mg w0 g0 Lk) m sh (tMakeG C (spOfX mg (BM K (some mg)) (np + 1) g) (WE Wx) ta) (fMakeX Xi c g fa) := fun W s0 H0 s σ H ρ Φ Q R hp q =>
  ha W s0 H0 s σ H ρ _ _ R hp fun ds s1 us H1 ⟨⟨b, L, es, hq⟩⟩ R1 st1 r1 hl => by
    subst es
    intro x dx hx hdx ne
    obtain ⟨z, R2, st2⟩ := new_inst R1 hmg hx hdx ne
    refine core_callX (A := BM K (some mg)) (w0 := w0) (g0 := g0) (Lk := Lk) (Φ := fun d s2 => d = .non ∧ Φ (.any (.ref x)) s2) wi R2 (.cons any_rs (r1.rs.stp st2)) (by rw [List.length_cons, hl]) (hq x z).go fun d s3 v H3 h3 R3 st3 r3 => ?_
    obtain ⟨rfl, h3⟩ := h3
    cases r3
    exact ⟨rfl, q _ _ _ _ h3 R3 ((st1.trans st2).trans st3) (.inl any_rs)⟩
end
/-! ### what is printed for a construct -/
section
variable {X : Cx} {K : Fg} {mg : Str → Option Value} {w0 : Ad} {g0 : List (D × V)} {Lk : BS → Hp → Prop} {m sh m1 sh1 : Bool} {te to ti : TE} {fe fo fi : FE BS} {ta : TA} {fa : FA BS} {cs : List Str} {f x : Str} {k i np : Nat} {c : Str} {e o : Expr} {es : List Expr} {pos apos q pos' : Pos} {Wx : WX} {Xi : XiT BS}
theorem cls_nil {P : Str → Prop} : ∀ c ∈ ([] : List Str), P c := fun c h => by cases h
theorem cls_cons {P : Str → Prop} {c : Str} {cs : List Str} (h : P c) (r : ∀ c ∈ cs, P c) : ∀ c' ∈ c :: cs, P c' := fun c' h' => (List.mem_cons.mp h').elim (fun e => e ▸ h) (r c')
theorem q_fld (i : Nat) (hc : ∀ c ∈ cs, FldC K mg f c) (h : QE X (OA K mg w0 g0 Lk) false true e te fe) (hb : attributeBase e f X.env (eval e X.env) = eval e X.env := by rfl) (hK : X.K = K := by rfl) : QE X (OA K mg w0 g0 Lk) m sh (.Attribute e f pos) (tFld K te f) (fFld cs f i fe) := by
  subst hK
  exact ⟨pe_fld h.pe hb, sd_fld hc h.sd⟩
theorem z_stF (i : Nat) (hc : ∀ c ∈ cs, FldC K mg f c) (he : QE X (OA K mg w0 g0 Lk) true false e te fe) (h : QE X (OA K mg w0 g0 Lk) false true o to fo) (hs : swapsWith e (some (.Attribute o f pos')) pos.line X.env = pure false := by rfl) (hK : X.K = K := by rfl) :
    QS X (OA K mg w0 g0 Lk) (.Assign [.Attribute o f pos'] e pos) (sFld K to te f) (fStF cs f i fo fe) := by
  subst hK
  exact ⟨ps_fld h.pe he.pe hs, ss_stF hc he.sd h.sd⟩
theorem z_stN (hc : ∀ c ∈ cs, FldC K mg f c) (he : QE X (OA K mg w0 g0 Lk) true false e te fe) (h : QE X (OA K mg w0 g0 Lk) false true o to fo) (hs : swapsWith e (some (.Attribute o f pos')) pos.line X.env = pure false := by rfl) (hK : X.K = K := by rfl) :
    QS X (OA K mg w0 g0 Lk) (.Assign [.Attribute o f pos'] e pos) (sFld K to te f) (fStN cs f fo fe) := by
  subst hK
  exact ⟨ps_fld h.pe he.pe hs, ss_stN hc he.sd h.sd⟩
theorem passC : ∀ σ, PassesAt CX0 X σ (fun _ _ _ => False) := fun σ pins H s e s' I h => pass0 pins σ H s e s' I h
theorem prows_of {tab : List (Str × Pg BS)} (hC : ∀ r ∈ tab, CalP X.prog X.w X.K X.mg X.base (BM X.K (some X.mg)) k r.1 f r.2) : ∀ r ∈ tab.map fun r => (cAd X.mg r.1, spOf (BM X.K (some X.mg)) 1 r.2), PRow0 X CX0 k f r := fun r hr => by
  obtain ⟨t, ht, rfl⟩ := List.mem_map.mp hr
  obtain ⟨C, p, fa, fd, ps, h1, h2, h3, h4, h5⟩ := (hC t ht).ex
  exact ⟨by rw [cAd_of h1]; exact h2, p, fa, fd, ps, by rw [cAd_of h1]; exact h3, h4, h5⟩
theorem q_prop {tab : List (Str × Pg BS)} (hC : ∀ r ∈ tab, CalP X.prog X.w K mg X.base (BM K (some mg)) k r.1 f r.2) (hgd : X.A.guards = some []) (hr : Room (k + 1) X.A) (h : QE X (OA K mg w0 g0 Lk) false true e te fe) (hb : attributeBase e f X.env (eval e X.env) = eval e X.env := by rfl) (hK : X.K = K := by rfl) (hM : X.mg = mg := by rfl) :
    QE X (OA K mg w0 g0 Lk) m sh (.Attribute e f pos) (tPropT (tab.map fun r => (cAd mg r.1, spOf (BM K (some mg)) 1 r.2)) (fun _ => E0) te) (fProp tab fe) := by
  subst hK
  subst hM
  exact ⟨pe_propT h.pe (prows_of hC) hgd hr (fun _ => passC _) hb, sd_prop h.sd⟩
end
end Pd

set_option maxHeartbeats 4000000
/-! methods, C(..): what is printed; lists that many hold, lists of an instance -/
namespace Pd
open PySem PySem.Spec PyProof.Rows L2
section
variable {P : Program} {w : World} {K : Fg} {mg : Str → Option Value} {base : Heap} {A : Amb} {j k : Nat} {c m f : Str} {np : Nat}
theorem FnG.mono {CX : CXT} {f : Addr} {fd : FuncData} {ps : List Str} {sp : L2.Sp} (F : FnG P w K mg base CX j f fd ps sp) (h : j ≤ k) : FnG P w K mg base CX k f fd ps sp :=
  ⟨F.len, fun Ar out s H ag us vs Q E a r => F.run Ar out s H ag us vs Q E a (r.mono h)⟩
theorem CalM.mono {g : Pg A} (C : CalM P w K mg base A j c m np g) (h : j ≤ k) : CalM P w K mg base A k c m np g := let ⟨a, b, d, e, h1, h2, h3, h4, h5⟩ := C.ex; ⟨a, b, d, e, h1, h2, h3, h4.mono h, h5⟩
theorem CalMX.mono {g : PgX A} (C : CalMX P w K mg base A j c m np g) (h : j ≤ k) : CalMX P w K mg base A k c m np g := let ⟨a, b, d, e, h1, h2, h3, h4, h5⟩ := C.ex; ⟨a, b, d, e, h1, h2, h3, h4.mono h, h5⟩
end
section
variable {X : Cx} {K : Fg} {mg : Str → Option Value} {w0 : Ad} {g0 : List (D × V)} {Lk : BS → Hp → Prop} {m sh m1 sh1 : Bool} {to : TE} {fo : FE BS} {ta : TA} {fa : FA BS} {f x : Str} {k np : Nat} {c : Str} {e o : Expr} {es : List Expr} {pos apos q : Pos} {Wx : WX} {Xi : XiT BS} {pl : Sem Bool}
theorem rows_of {tab : List (Str × Pg BS)} (hC : ∀ r ∈ tab, CalM X.prog X.w X.K X.mg X.base (BM X.K (some X.mg)) k r.1 f np r.2) : ∀ r ∈ tab.map fun r => (cAd X.mg r.1, spOf (BM X.K (some X.mg)) np r.2), MRow0 X CX0 k f r := fun r hr => by
  obtain ⟨t, ht, rfl⟩ := List.mem_map.mp hr
  obtain ⟨C, fa, fd, ps, h1, h2, h3, h4, h5⟩ := (hC t ht).ex
  exact ⟨by rw [cAd_of h1]; exact h2, fa, fd, ps, by rw [cAd_of h1]; exact h3, h4, h5⟩
theorem rows_ofX {tab : List (Str × PgX BS)} (hC : ∀ r ∈ tab, CalMX X.prog X.w X.K X.mg X.base (BM X.K (some X.mg)) k r.1 f np r.2) : ∀ r ∈ tab.map fun r => (cAd X.mg r.1, spOfX X.mg (BM X.K (some X.mg)) np r.2), MRow0 X (L2N.CX X.prog X.w) k f r := fun r hr => by
  obtain ⟨t, ht, rfl⟩ := List.mem_map.mp hr
  obtain ⟨C, fa, fd, ps, h1, h2, h3, h4, h5⟩ := (hC t ht).ex
  exact ⟨by rw [cAd_of h1]; exact h2, fa, fd, ps, by rw [cAd_of h1]; exact h3, h4, h5⟩
theorem mt_nil {α : Type} {P : Str × α → Prop} : ∀ r ∈ ([] : List (Str × α)), P r := fun r h => by cases h
theorem mt_cons {α : Type} {P : Str × α → Prop} {r : Str × α} {l : List (Str × α)} (h : P r) (t : ∀ r ∈ l, P r) : ∀ r' ∈ r :: l, P r' := fun r' h' => (List.mem_cons.mp h').elim (fun e => e ▸ h) (t r')
theorem q_meth {tab : List (Str × Pg BS)} (hC : ∀ r ∈ tab, CalM X.prog X.w K mg X.base (BM K (some mg)) k r.1 f (np + 1) r.2) (hgd : X.A.guards = some []) (hr : Room k X.A) (h : QE X (OA K mg w0 g0 Lk) false true o to fo) (ha : QL X (OA K mg w0 g0 Lk) true false np (e :: es) ta fa)
    (hst : starEach (e :: es) X.env = (false, eval e X.env) :: starEach es X.env := by rfl) (hpl : (backTo pos (starEach es X.env)).any (·.1) = false := by rfl)
    (ht : eval (.Call (.Attribute o f apos) (e :: es) [] pos) X.env = (do
      let ov ← eval o X.env
      standAt apos.atName
      let (f, first) ← holding [ov] (getMethod ov f pl)
      callWith pos f first (backTo pos (starEach (e :: es) X.env)) (backToKw pos (keywordEach [] X.env))) := by rfl) (hK : X.K = K := by rfl) (hM : X.mg = mg := by rfl) :
    QE X (OA K mg w0 g0 Lk) m sh (.Call (.Attribute o f apos) (e :: es) [] pos) (tMethT (tab.map fun r => (cAd mg r.1, spOf (BM K (some mg)) (np + 1) r.2)) f (fun _ => E0) to ta) (fMeth tab f fo fa) := by
  subst hK
  subst hM
  exact ⟨pe_methT h.pe (rows_of hC) hgd hr (fun _ => passC _) ha.pa hst hpl ht, sd_meth h.sd ha.sd⟩
theorem q_meth0 {tab : List (Str × Pg BS)} (hC : ∀ r ∈ tab, CalM X.prog X.w K mg X.base (BM K (some mg)) k r.1 f 1 r.2) (hgd : X.A.guards = some []) (hr : Room k X.A) (h : QE X (OA K mg w0 g0 Lk) false true o to fo)
    (ht : eval (.Call (.Attribute o f apos) [] [] pos) X.env = (do
      let ov ← eval o X.env
      standAt apos.atName
      let (f, first) ← holding [ov] (getMethod ov f pl)
      callWith pos f first (backTo pos (starEach [] X.env)) (backToKw pos (keywordEach [] X.env))) := by rfl) (hK : X.K = K := by rfl) (hM : X.mg = mg := by rfl) :
    QE X (OA K mg w0 g0 Lk) m sh (.Call (.Attribute o f apos) [] [] pos) (tMethT (tab.map fun r => (cAd mg r.1, spOf (BM K (some mg)) (0 + 1) r.2)) f (fun _ => E0) to tNil) (fMeth tab f fo fNil) := by
  subst hK
  subst hM
  exact ⟨pe_methT0 h.pe (rows_of hC) hgd hr (fun _ => passC _) ht, sd_meth h.sd (ql_nil (X := X)).sd⟩
theorem q_methX {tab : List (Str × PgX BS)} (tk : L2N.Takes X Wx) (wi : Wish mg (OA K mg w0 g0 Lk) Wx Xi) (hC : ∀ r ∈ tab, CalMX X.prog X.w K mg X.base (BM K (some mg)) k r.1 f (np + 1) r.2) (hgd : X.A.guards = some []) (hr : Room k X.A) (h : QE X (OA K mg w0 g0 Lk) false true o to fo) (ha : QL X (OA K mg w0 g0 Lk) true false np (e :: es) ta fa)
    (hst : starEach (e :: es) X.env = (false, eval e X.env) :: starEach es X.env := by rfl) (hpl : (backTo pos (starEach es X.env)).any (·.1) = false := by rfl)
    (ht : eval (.Call (.Attribute o f apos) (e :: es) [] pos) X.env = (do
      let ov ← eval o X.env
      standAt apos.atName
      let (f, first) ← holding [ov] (getMethod ov f pl)
      callWith pos f first (backTo pos (starEach (e :: es) X.env)) (backToKw pos (keywordEach [] X.env))) := by rfl) (hK : X.K = K := by rfl) (hM : X.mg = mg := by rfl) :
    QE X (OA K mg w0 g0 Lk) m sh (.Call (.Attribute o f apos) (e :: es) [] pos) (tMethT (tab.map fun r => (cAd mg r.1, spOfX mg (BM K (some mg)) (np + 1) r.2)) f (WE Wx) to ta) (fMethX Xi tab f fo fa) := by
  subst hK
  subst hM
  exact ⟨pe_methT h.pe (rows_ofX hC) hgd hr (fun σ => L2N.passAt tk σ) ha.pa hst hpl ht, sd_methX wi h.sd ha.sd⟩
theorem q_methX0 {tab : List (Str × PgX BS)} (tk : L2N.Takes X Wx) (wi : Wish mg (OA K mg w0 g0 Lk) Wx Xi) (hC : ∀ r ∈ tab, CalMX X.prog X.w K mg X.base (BM K (some mg)) k r.1 f 1 r.2) (hgd : X.A.guards = some []) (hr : Room k X.A) (h : QE X (OA K mg w0 g0 Lk) false true o to fo)
    (ht : eval (.Call (.Attribute o f apos) [] [] pos) X.env = (do
      let ov ← eval o X.env
      standAt apos.atName
      let (f, first) ← holding [ov] (getMethod ov f pl)
      callWith pos f first (backTo pos (starEach [] X.env)) (backToKw pos (keywordEach [] X.env))) := by rfl) (hK : X.K = K := by rfl) (hM : X.mg = mg := by rfl) :
    QE X (OA K mg w0 g0 Lk) m sh (.Call (.Attribute o f apos) [] [] pos) (tMethT (tab.map fun r => (cAd mg r.1, spOfX mg (BM K (some mg)) (0 + 1) r.2)) f (WE Wx) to tNil) (fMethX Xi tab f fo fNil) := by
  subst hK
  subst hM
  exact ⟨pe_methT0 h.pe (rows_ofX hC) hgd hr (fun σ => L2N.passAt tk σ) ht, sd_methX wi h.sd (ql_nil (X := X)).sd⟩
theorem q_make {g : Pg BS} (C : CalI X.prog X.w K mg X.base (BM K (some mg)) k c (np + 1) g) (hgd : X.A.guards = some []) (hr : Room (k + 1) X.A) (ha : QL X (OA K mg w0 g0 Lk) true false np (e :: es) ta fa) (hg : Gl X c := by rfl) (hdb : (c == ("__debug__" : Str)) = false := by decide)
    (he : starEach (e :: es) X.env = (false, eval e X.env) :: starEach es X.env := by rfl) (hpl : (backTo pos (starEach es X.env)).any (·.1) = false := by rfl) (hK : X.K = K := by rfl) (hM : X.mg = mg := by rfl) :
    QE X (OA K mg w0 g0 Lk) m sh (.Call (.Name c q) (e :: es) [] pos) (tMakeG (cAd mg c) (spOf (BM K (some mg)) (np + 1) g) (fun _ => E0) ta) (fMake c g fa) := by
  subst hK
  subst hM
  obtain ⟨Ca, fa, fd, ps, hc, M, F, hb⟩ := C.ex
  rw [cAd_of hc]
  exact ⟨pe_makeG M F hgd hr hg hc hb (fun _ => passC _) ha.pa hdb he hpl, sd_make hc ha.sd⟩
theorem q_makeX {g : PgX BS} (tk : L2N.Takes X Wx) (wi : Wish mg (OA K mg w0 g0 Lk) Wx Xi) (C : CalIX X.prog X.w K mg X.base (BM K (some mg)) k c (np + 1) g) (hgd : X.A.guards = some []) (hr : Room (k + 1) X.A) (ha : QL X (OA K mg w0 g0 Lk) true false np (e :: es) ta fa) (hg : Gl X c := by rfl) (hdb : (c == ("__debug__" : Str)) = false := by decide)
    (he : starEach (e :: es) X.env = (false, eval e X.env) :: starEach es X.env := by rfl) (hpl : (backTo pos (starEach es X.env)).any (·.1) = false := by rfl) (hK : X.K = K := by rfl) (hM : X.mg = mg := by rfl) :
    QE X (OA K mg w0 g0 Lk) m sh (.Call (.Name c q) (e :: es) [] pos) (tMakeG (cAd mg c) (spOfX mg (BM K (some mg)) (np + 1) g) (WE Wx) ta) (fMakeX Xi c g fa) := by
  subst hK
  subst hM
  obtain ⟨Ca, fa, fd, ps, hc, M, F, hb⟩ := C.ex
  rw [cAd_of hc]
  exact ⟨pe_makeG M F hgd hr hg hc hb (fun σ => L2N.passAt tk σ) ha.pa hdb he hpl, sd_makeX wi hc ha.sd⟩
end
/-! ### places of lists -/
inductive LPl where
  | amb (p : Addr)
  | fld (a : Addr) (i : Nat)
def LPl.get (l : LO) : LPl → Option (List D)
  | .amb p => match l.o p with
    | some (.lst ds) => some ds
    | _ => none
  | .fld a i => match l.o a with
    | some (.ins _ _ vs) => (match vs[i]? with
      | some (.l ds) => some ds
      | _ => none)
    | _ => none
def LPl.ad (l : LO) : LPl → Addr
  | .amb p => p
  | .fld a i => l.p a i
def LPl.set (l : LO) (ds : List D) : LPl → LO
  | .amb p => l.put p (.lst ds)
  | .fld a i => match l.o a with
    | some (.ins c ns vs) => l.put a (.ins c ns (vs.set i (.l ds)))
    | _ => l
/-- the list at a place -/
structure LgP (s : BS) (π : LPl) (Φ : Addr → LO → List D → Prop) : Prop where
  ex : ∃ b l ds, s = .bag b l ∧ π.get l = some ds ∧ Φ b l ds
theorem lg_amb {b : Addr} {l : LO} {p : Addr} {ds : List D} {Φ : Addr → LO → List D → Prop} (h : l.o p = some (.lst ds)) (q : Φ b l ds) : LgP (.bag b l) (.amb p) Φ := ⟨b, l, ds, rfl, by simp only [LPl.get, h], q⟩
theorem lg_fld {b : Addr} {l : LO} {a : Addr} {i : Nat} {c : Str} {ns : List Str} {vs : List FV} {ds : List D} {Φ : Addr → LO → List D → Prop} (h : l.o a = some (.ins c ns vs)) (hi : vs[i]? = some (.l ds)) (q : Φ b l ds) : LgP (.bag b l) (.fld a i) Φ := ⟨b, l, ds, rfl, by simp only [LPl.get, h, hi], q⟩
theorem set_fld {l : LO} {a : Addr} {i : Nat} {c : Str} {ns : List Str} {vs : List FV} {ds : List D} (h : l.o a = some (.ins c ns vs)) : LPl.set l ds (.fld a i) = l.put a (.ins c ns (vs.set i (.l ds))) := by simp only [LPl.set, h]
abbrev FLp := List Sl → BS → (LPl → BS → Prop) → Prop
section
variable {K : Fg} {mg : Str → Option Value} {w0 : Ad} {g0 : List (D × V)} {Lk : BS → Hp → Prop} {W : Ot} {s0 s : BS} {H0 H : Hp} {σ : Sg} {ρ : List Sl} {m sh m1 sh1 : Bool} {te to ti : TE} {fe fo fi : FE BS} {cs : List Str} {f : Str} {i : Nat}
structure SdP3 (A : Amb) (t : TE) (f : List Sl → A.S → (LPl → A.S → Prop) → Prop) (ad : A.S → LPl → Addr) : Prop where
  go : ∀ W s0 H0 s σ H ρ Φ Q, ER A W s0 H0 s σ H ρ → f ρ s Φ → (∀ π s' v H', Φ π s' → ER A W s0 H0 s' σ H' ρ → Stp A s s' H H' → v = .ref (ad s' π) → Q v H') → t σ H Q
def adB : BS → LPl → Addr
  | _, .amb p => p
  | .bag _ l, .fld a i => l.p a i
  | _, _ => 0
theorem adB_bag {b : Addr} {l : LO} {π : LPl} : adB (.bag b l) π = π.ad l := by cases π <;> rfl
/-- an object's own field that is a list -/
def fPf (cs : List Str) (f : Str) (i : Nat) (fe : FE BS) : FLp := fun ρ s Φ => fe ρ s fun d s1 => ObP s1 d cs fun _ _ a _ ns vs => ns[i]? = some f ∧ match vs[i]? with
  | some (.l _) => Φ (.fld a i) s1
  | _ => False
/-- a list that many hold -/
def fPa (fe : FE BS) : FLp := fun ρ s Φ => fe ρ s fun d s1 => match d with
  | .any (.ref p) => Φ (.amb p) s1
  | _ => False
theorem sp_fld (hc : ∀ c ∈ cs, FldC K mg f c) (h : SdE (OA K mg w0 g0 Lk) m1 sh1 te fe) : SdP3 (OA K mg w0 g0 Lk) (tFld K te f) (fPf cs f i fe) adB := ⟨fun W s0 H0 s σ H ρ Φ Q R hp q =>
  h W s0 H0 s σ H ρ _ _ R hp fun d s1 x H1 ⟨⟨b, L, a, c, ns, vs, es, ed, ho, hcs, hi, hq⟩⟩ R1 st1 r1 => by
    subst es
    subst ed
    obtain rfl := r1.any
    obtain ⟨n1, n2, ⟨C, dx, fs, k1, k2, k3, k4⟩, _⟩ := ins_at R1 ho
    split at hq
    · rename_i ds e
      obtain ⟨n, y, g1, g2⟩ := k4 i _ e
      obtain ⟨rfl, g3⟩ := fld_at k3 n1 hi g1
      obtain ⟨⟨C', c1, c2, c3⟩⟩ := hc c hcs
      rw [k1] at c1
      cases c1
      obtain ⟨rfl, _⟩ := g2
      exact ⟨a, C, dx, fs, _, rfl, k2, c2, c3, g3, q (.fld a i) _ _ _ hq R1 st1 rfl⟩
    · exact hq.elim⟩
theorem sp_amb (h : SdE (OA K mg w0 g0 Lk) m1 sh1 te fe) : SdP3 (OA K mg w0 g0 Lk) te (fPa fe) adB := ⟨fun W s0 H0 s σ H ρ Φ Q R hp q =>
  h W s0 H0 s σ H ρ _ _ R hp fun d s1 x H1 hq R1 st1 r1 => by
    split at hq
    · obtain rfl := r1.any
      refine q (.amb _) s1 _ _ hq R1 st1 ?_
      cases s1 <;> rfl
    · exact hq.elim⟩
end
end Pd

set_option maxHeartbeats 4000000
/-! lists that many hold, lists of an instance: read, written -/
namespace Pd
open PySem PySem.Spec PyProof.Rows L2
section
variable {K : Fg} {mg : Str → Option Value} {w0 : Ad} {g0 : List (D × V)} {Lk : BS → Hp → Prop} {W : Ot} {s0 s : BS} {H0 H : Hp} {σ : Sg} {ρ : List Sl} {b : Addr} {L : LO} {π : LPl} {ds ds' : List D} {xs' : List V}
theorem get_amb {p : Addr} (h : LPl.get L (.amb p) = some ds) : L.o p = some (.lst ds) := by
  simp only [LPl.get] at h
  split at h
  · rename_i e; cases h; exact e
  · cases h
theorem get_fld {a : Addr} {i : Nat} (h : LPl.get L (.fld a i) = some ds) : ∃ c ns vs, L.o a = some (.ins c ns vs) ∧ vs[i]? = some (.l ds) := by
  simp only [LPl.get] at h
  split at h
  · rename_i c ns vs e
    split at h
    · rename_i e2; cases h; exact ⟨c, ns, vs, e, e2⟩
    · cases h
  · cases h
theorem lp_at (R : ER (OA K mg w0 g0 Lk) W s0 H0 (.bag b L) σ H ρ) (h : π.get L = some ds) : ∃ xs, H (π.ad L) = some (.lst xs) ∧ RsL (om true (OA K mg w0 g0 Lk) W (.bag b L) σ ρ) H ds xs ∧ bsB (.bag b L) (π.ad L) := by
  cases π with
  | amb p =>
    have e := get_amb h
    obtain ⟨xs, k1, k2⟩ := R.oj.ok p _ e
    exact ⟨xs, k1, k2, .inr (.inr (.inl (by rw [show L.o (LPl.ad L (.amb p)) = L.o p from rfl, e]; simp)))⟩
  | fld a i =>
    obtain ⟨c, ns, vs, e, e2⟩ := get_fld h
    obtain ⟨n1, n2, ⟨C, dx, fs, k1, k2, k3, k4⟩, _⟩ := ins_at R e
    obtain ⟨n, v, _, _, xs, k5, k6⟩ := k4 i _ e2
    exact ⟨xs, k5, k6, .inr (.inr (.inr ⟨a, _, e, i, ds, e2, rfl⟩))⟩
theorem lp_set (R : ER (OA K mg w0 g0 Lk) W s0 H0 (.bag b L) σ H ρ) (h : π.get L = some ds) (r : RsL (om true (OA K mg w0 g0 Lk) W (.bag b L) σ ρ) H ds' xs') :
    ER (OA K mg w0 g0 Lk) W s0 H0 (.bag b (π.set L ds')) σ (upd H (π.ad L) (.lst xs')) ρ ∧ Stp (OA K mg w0 g0 Lk) (.bag b L) (.bag b (π.set L ds')) H (upd H (π.ad L) (.lst xs')) := by
  obtain ⟨xs, k1, k2, inB⟩ := lp_at R h
  have hfree : ∀ x : Addr, H x ≠ none → upd H (π.ad L) (HO.lst xs') x ≠ none := fun x z => by
    by_cases e : x = π.ad L
    · subst e; rw [upd_same]; simp
    · rw [upd_ne e]; exact z
  have ag : Agr (om true (OA K mg w0 g0 Lk) W (.bag b L) σ ρ) H (upd H (π.ad L) (HO.lst xs')) := fun x o e nn => by
    rw [upd_ne fun z => nn (by subst z; exact .inr (.inl inB))]
    exact e
  have r' := r.go (fun x z => .inl z) ag
  cases π with
  | amb p =>
    have e := get_amb h
    exact R.ob (L' := L.put p (.lst ds')) (oc' := .lst ds') rfl rfl (fun _ _ => rfl) (by rw [e]; simp) ⟨xs', upd_same, r'⟩ (fun x z => z.elim) (fun x z _ => upd_ne z) hfree
  | fld a i =>
    obtain ⟨c, ns, vs, e, e2⟩ := get_fld h
    obtain ⟨n1, n2, ⟨C, dx, fs, g1, g2, g3, g4⟩, g5⟩ := ins_at R e
    have hlt : i < vs.length := (List.getElem?_eq_some_iff.mp e2).1
    have own : ∀ (j : Nat) (es : List Pd.D), (vs.set i (FV.l ds'))[j]? = some (FV.l es) → ∃ es', vs[j]? = some (FV.l es') := fun j es z => by
      by_cases e : i = j
      · subst e; exact ⟨ds, e2⟩
      · rw [List.getElem?_set_ne e] at z; exact ⟨es, z⟩
    have na : a ≠ LPl.ad L (.fld a i) := fun z => by
      have := (R.oj.pv a _ ⟨_, e, i, ds, e2, rfl⟩).2.2
      rw [show L.p a i = a from z.symm, e] at this
      cases this
    rw [set_fld e]
    refine R.ob (L' := L.put a (.ins c ns (vs.set i (.l ds')))) (oc' := .ins c ns (vs.set i (.l ds'))) rfl rfl (fun _ _ => rfl) (by rw [e]; simp) ?_ ?_ (fun x _ z => upd_ne fun q => z ⟨_, e, i, ds, e2, q⟩) hfree
    · refine ⟨n1, by rw [List.length_set]; exact n2, ⟨C, dx, fs, g1, by rw [upd_ne na]; exact g2, g3, fun j fv hj => ?_⟩, fun j j' es es' z1 z2 => ?_⟩
      · by_cases ej : i = j
        · subst ej
          rw [List.getElem?_set_self hlt] at hj
          cases hj
          obtain ⟨n, v, q1, q2, _⟩ := g4 i _ e2
          exact ⟨n, v, q1, q2, xs', upd_same, r'⟩
        · rw [List.getElem?_set_ne ej] at hj
          obtain ⟨n, v, q1, q2⟩ := g4 j fv hj
          exact ⟨n, v, q1, q2.go (fun x z => .inl z) ag fun es z => upd_ne fun q => ej (g5 i j ds es e2 (z ▸ hj) q.symm)⟩
      · obtain ⟨f1, k1⟩ := own j es z1
        obtain ⟨f2, k2⟩ := own j' es' z2
        exact g5 j j' f1 f2 k1 k2
    · rintro x ⟨j, es, z, rfl⟩
      obtain ⟨f1, k1⟩ := own j es z
      exact ⟨_, e, j, f1, k1, rfl⟩
end
/-! ### what is done with them -/
def fLix (fl : FLp) (fi : FE BS) : FE BS := fun ρ s Φ => fl ρ s fun π s1 => fi ρ s1 fun k s2 => s2 = s1 ∧ match k with
  | .int j => LgP s2 π fun _ _ ds => Ix ds j fun d => Φ d s2
  | _ => False
def fLlen (fl : FLp) : FE BS := fun ρ s Φ => fl ρ s fun π s1 => LgP s1 π fun _ _ ds => Φ (.int ds.length) s1
def fLtup (fl : FLp) : FE BS := fun ρ s Φ => fl ρ s fun π s1 => LgP s1 π fun _ _ ds => Φ (.tup ds) s1
def fLlst (fl : FLp) : FO BS := fun ρ s Φ => fl ρ s fun π s1 => LgP s1 π fun _ _ ds => Φ (.lst ds) s1
def fLapp (fl : FLp) (fe : FE BS) : FE BS := fun ρ s Φ => fl ρ s fun π s1 => LgP s1 π fun b l ds => fe ρ s1 fun d s2 => (s2 = s1 ∧ ds.length < 16777216) ∧ Φ .non (.bag b (π.set l (ds ++ [d])))
/-- the last item -/
structure LastP (ds : List D) (Φ : List D → D → Prop) : Prop where
  ex : ∃ r d, ds = r ++ [d] ∧ Φ r d
def fLpop (fl : FLp) : FE BS := fun ρ s Φ => fl ρ s fun π s1 => LgP s1 π fun b l ds => LastP ds fun r d => Φ d (.bag b (π.set l r))
section
variable {K : Fg} {mg : Str → Option Value} {w0 : Ad} {g0 : List (D × V)} {Lk : BS → Hp → Prop} {m sh m1 sh1 : Bool} {tl te ti : TE} {fl : FLp} {fe fi : FE BS}
theorem sd_lix (hl : SdP3 (OA K mg w0 g0 Lk) tl fl adB) (hi : SdE (OA K mg w0 g0 Lk) m1 sh1 ti fi) : SdE (OA K mg w0 g0 Lk) m sh (tOp (rIx K) tl ti) (fLix fl fi) := fun W s0 H0 s σ H ρ Φ Q R hp q =>
  hl.go W s0 H0 s σ H ρ _ _ R hp fun π s1 v H1 hp R1 st1 ev => hi W s0 H0 s1 σ H1 ρ _ _ R1 hp fun k s2 y H2 ⟨es, hq⟩ R2 st2 ry => by
    subst es
    subst ev
    split at hq
    · rename_i j
      obtain rfl := ry.int
      obtain ⟨⟨b, l, ds, rfl, hg, hix⟩⟩ := hq
      obtain ⟨xs, k1, k2, _⟩ := lp_at R2 hg
      rw [adB_bag]
      obtain ⟨⟨d, e, h⟩⟩ := hix
      obtain ⟨u, h3, h4⟩ := k2.atI e
      exact .inl ⟨_, xs, _, u, rfl, rfl, .of k1, h3, q _ _ _ _ h R2 (st1.trans st2) (.inl (Rs.weak h4 om_true))⟩
    · exact hq.elim
theorem sd_llen (hl : SdP3 (OA K mg w0 g0 Lk) tl fl adB) : SdE (OA K mg w0 g0 Lk) m sh (tCB (rLenA K) (tCons tl tNil)) (fLlen fl) := fun W s0 H0 s σ H ρ Φ Q R hp q =>
  hl.go W s0 H0 s σ H ρ _ _ R hp fun π s1 v H1 ⟨⟨b, l, ds, es, hg, h⟩⟩ R1 st1 ev => by
    subst es
    subst ev
    rw [adB_bag]
    obtain ⟨xs, k1, k2, _⟩ := lp_at R1 hg
    refine .inl ⟨_, ds.length, rfl, ?_, q _ _ _ _ h R1 st1 (.inl (.int _))⟩
    rw [← k2.length]
    exact .inl ⟨xs, .of k1, rfl⟩
theorem sd_ltup (hl : SdP3 (OA K mg w0 g0 Lk) tl fl adB) : SdE (OA K mg w0 g0 Lk) m sh (tCB (rTupA K) (tCons tl tNil)) (fLtup fl) := fun W s0 H0 s σ H ρ Φ Q R hp q =>
  hl.go W s0 H0 s σ H ρ _ _ R hp fun π s1 v H1 ⟨⟨b, l, ds, es, hg, h⟩⟩ R1 st1 ev => by
    subst es
    subst ev
    rw [adB_bag]
    obtain ⟨xs, k1, k2, _⟩ := lp_at R1 hg
    refine ⟨_, xs, rfl, .inl ⟨.of k1, fun p hp => q _ _ _ _ h (R1.alloc hp _) (st1.trans (Stp.fresh hp)) ?_⟩⟩
    exact RV.newT R1 hp (k2.weak om_true)
theorem so_llst (hl : SdP3 (OA K mg w0 g0 Lk) tl fl adB) : SdO (OA K mg w0 g0 Lk) (tCB (rListA K) (tCons tl tNil)) (fLlst fl) := fun W s0 H0 s σ H ρ Φ Q R hp q =>
  hl.go W s0 H0 s σ H ρ _ _ R hp fun π s1 v H1 ⟨⟨b, l, ds, es, hg, h⟩⟩ R1 st1 ev => by
    subst es
    subst ev
    rw [adB_bag]
    obtain ⟨xs, k1, k2, _⟩ := lp_at R1 hg
    exact ⟨_, xs, rfl, .inl (.of k1), fun p hp => so_new R1 st1 k2 h p hp q⟩
theorem sd_lapp (hl : SdP3 (OA K mg w0 g0 Lk) tl fl adB) (he : SdE (OA K mg w0 g0 Lk) true false te fe) : SdE (OA K mg w0 g0 Lk) m sh (tBM K "list" rAppend tl (tCons te tNil)) (fLapp fl fe) := fun W s0 H0 s σ H ρ Φ Q R hp q =>
  hl.go W s0 H0 s σ H ρ _ _ R hp fun π s1 v H1 ⟨⟨b, l, ds, es, hg, h⟩⟩ R1 st1 ev => by
    subst es
    subst ev
    rw [adB_bag]
    obtain ⟨xs1, j1, _, _⟩ := lp_at R1 hg
    refine ⟨.inl ⟨rfl, xs1, .of j1⟩, he W s0 H0 _ σ H1 ρ _ _ R1 h fun d s2 y H2 ⟨⟨es, hlen⟩, hq⟩ R2 st2 ry => ?_⟩
    subst es
    obtain ⟨xs, k1, k2, _⟩ := lp_at R2 hg
    obtain ⟨R3, st3⟩ := lp_set (ds' := ds ++ [d]) (xs' := xs ++ [y]) R2 hg (k2.append (.one ry.rs))
    exact ⟨_, xs, y, rfl, rfl, k1, by rw [line_eq, k2.length]; exact hlen, q _ _ _ _ hq R3 ((st1.trans st2).trans st3) (.inl .non)⟩
theorem sd_lpop (hl : SdP3 (OA K mg w0 g0 Lk) tl fl adB) : SdE (OA K mg w0 g0 Lk) m sh (tBM0 K "list" rPop tl) (fLpop fl) := fun W s0 H0 s σ H ρ Φ Q R hp q =>
  hl.go W s0 H0 s σ H ρ _ _ R hp fun π s1 v H1 ⟨⟨b, l, ds, es, hg, ⟨⟨r, d, ed, h⟩⟩⟩⟩ R1 st1 ev => by
    subst es
    subst ev
    subst ed
    rw [adB_bag]
    obtain ⟨xs, k1, k2, _⟩ := lp_at R1 hg
    have hlen := k2.length
    rw [List.length_append, List.length_singleton] at hlen
    obtain ⟨y, e1, e2⟩ := k2.get (i := r.length) (d := d) (by rw [List.getElem?_append_right (Nat.le_refl _), Nat.sub_self]; rfl)
    have hdl : xs.dropLast = xs.take r.length := by rw [List.dropLast_eq_take, hlen, Nat.add_sub_cancel]
    have hr : RsL (om true (OA K mg w0 g0 Lk) W (.bag b l) σ ρ) H1 r xs.dropLast := by
      have := k2.take r.length
      rw [List.take_left] at this
      rw [hdl]
      exact this
    obtain ⟨R3, st3⟩ := lp_set (ds' := r) (xs' := xs.dropLast) R1 hg hr
    have e2' : Rs (om true (OA K mg w0 g0 Lk) W (.bag b (π.set l r)) σ ρ) (upd H1 (π.ad l) (.lst xs.dropLast)) d y := Rs.stp (m := true) st3 e2
    refine ⟨.inl ⟨rfl, xs, .of k1⟩, _, xs, y, rfl, rfl, k1, by rw [hlen, Nat.add_sub_cancel]; exact e1, q _ _ _ _ h R3 (st1.trans st3) (.inl (Rs.weak e2' om_true))⟩
end
end Pd

set_option maxHeartbeats 4000000
/-! lists that many hold, lists of an instance: what is printed; lists given away -/
namespace Pd
open PySem PySem.Spec PyProof.Rows L2
structure QLp (X : Cx) (K : Fg) (mg : Str → Option Value) (w0 : Ad) (g0 : List (D × V)) (Lk : BS → Hp → Prop) (e : Expr) (te : TE) (fl : FLp) : Prop where
  pe : PE X e te
  sd : SdP3 (OA K mg w0 g0 Lk) te fl adB
section
variable {X : Cx} {K : Fg} {mg : Str → Option Value} {w0 : Ad} {g0 : List (D × V)} {Lk : BS → Hp → Prop} {m sh m1 sh1 : Bool} {te tl ti : TE} {fe fi : FE BS} {fl : FLp} {f x : Str} {cs : List Str} {e o a b : Expr} {es : List Expr} {p pos apos q : Pos}
theorem qlp_fld (i : Nat) (hc : ∀ c ∈ cs, FldC K mg f c) (h : QE X (OA K mg w0 g0 Lk) false true e te fe) (hb : attributeBase e f X.env (eval e X.env) = eval e X.env := by rfl) (hK : X.K = K := by rfl) : QLp X K mg w0 g0 Lk (.Attribute e f pos) (tFld K te f) (fPf cs f i fe) := by
  subst hK
  exact ⟨pe_fld h.pe hb, sp_fld hc h.sd⟩
theorem qlp_amb (h : QE X (OA K mg w0 g0 Lk) false true e te fe) : QLp X K mg w0 g0 Lk e te (fPa fe) := ⟨h.pe, sp_amb h.sd⟩
theorem q_lix (hl : QLp X K mg w0 g0 Lk a tl fl) (hb : QE X (OA K mg w0 g0 Lk) false true b ti fi) (hs : PlainIx b := by exact fun _ _ => rfl) (hK : X.K = K := by rfl) : QE X (OA K mg w0 g0 Lk) m sh (.Subscript a b pos) (tOp (rIx K) tl ti) (fLix fl fi) := by
  subst hK
  exact ⟨pe_ix ix_seq hl.pe hb.pe hs, sd_lix hl.sd hb.sd⟩
theorem q_llen (hl : QLp X K mg w0 g0 Lk a tl fl) (hm : X.mg "len" = none) (hg : Gl X "len" := by rfl) (he : starEach [a] X.env = (false, eval a X.env) :: starEach [] X.env := by rfl) (hpl : (backTo pos (starEach [] X.env)).any (·.1) = false := by rfl) (hK : X.K = K := by rfl) :
    QE X (OA K mg w0 g0 Lk) m sh (.Call (.Name "len" p) [a] [] pos) (tCB (rLenA K) (tCons tl tNil)) (fLlen fl) := by
  subst hK
  exact ⟨pe_callB call_lenA hg hm (by decide +kernel) (pa_cons hl.pe pa_nil he) (by decide) (by decide) he hpl, sd_llen hl.sd⟩
theorem q_ltup (hl : QLp X K mg w0 g0 Lk a tl fl) (hm : X.mg "tuple" = none) (hg : Gl X "tuple" := by rfl) (he : starEach [a] X.env = (false, eval a X.env) :: starEach [] X.env := by rfl) (hpl : (backTo pos (starEach [] X.env)).any (·.1) = false := by rfl) (hK : X.K = K := by rfl) :
    QE X (OA K mg w0 g0 Lk) m sh (.Call (.Name "tuple" p) [a] [] pos) (tCB (rTupA K) (tCons tl tNil)) (fLtup fl) := by
  subst hK
  have B := nb_tuple (X := X) (A := OA X.K mg w0 g0 Lk) (m := true)
  exact ⟨pe_callTy B.hc hg hm B.hv (pa_cons hl.pe pa_nil he) B.hn B.hd he hpl, sd_ltup hl.sd⟩
theorem qo_llst (hl : QLp X K mg w0 g0 Lk a tl fl) (hm : X.mg "list" = none) (hg : Gl X "list" := by rfl) (he : starEach [a] X.env = (false, eval a X.env) :: starEach [] X.env := by rfl) (hpl : (backTo pos (starEach [] X.env)).any (·.1) = false := by rfl) (hK : X.K = K := by rfl) :
    QO X (OA K mg w0 g0 Lk) (.Call (.Name "list" p) [a] [] pos) (tCB (rListA K) (tCons tl tNil)) (fLlst fl) := by
  subst hK
  have B := nb_list (X := X) (A := OA X.K mg w0 g0 Lk) (m := true)
  exact ⟨pe_callTy B.hc hg hm B.hv (pa_cons hl.pe pa_nil he) B.hn B.hd he hpl, so_llst hl.sd⟩
theorem q_lapp (hl : QLp X K mg w0 g0 Lk o tl fl) (he : QE X (OA K mg w0 g0 Lk) true false e te fe) (hbase : attributeBase o "append" X.env (eval o X.env) = eval o X.env := by rfl)
    (hfew : ((backTo pos (starEach [e] X.env)).all (fun x => !x.1) && (backToKw pos (keywordEach [] X.env)).all (fun x => x.1.isSome) && decide ([e].length + ([] : List Keyword).length + (if ([] : List Keyword).isEmpty then 0 else 1) < 30)) = true := by rfl)
    (hline : (apos.endLine == pos.line) = true := by rfl) (hs : starEach [e] X.env = (false, eval e X.env) :: starEach [] X.env := by rfl) (hplain : (backTo pos (starEach [] X.env)).any (·.1) = false := by rfl) (hK : X.K = K := by rfl) :
    QE X (OA K mg w0 g0 Lk) m sh (.Call (.Attribute o "append" apos) [e] [] pos) (tBM K "list" rAppend tl (tCons te tNil)) (fLapp fl fe) := by
  subst hK
  exact ⟨pe_bm PySem.F.plainAttrs_list PySem.F.slot_list_append PySem.F.type_list_append mt_append hl.pe (pa_cons he.pe pa_nil hs) hbase hfew hline hs hplain, sd_lapp hl.sd he.sd⟩
theorem q_lpop (hl : QLp X K mg w0 g0 Lk o tl fl) (hbase : attributeBase o "pop" X.env (eval o X.env) = eval o X.env := by rfl) (hline : (apos.endLine == pos.line) = true := by rfl) (hK : X.K = K := by rfl) :
    QE X (OA K mg w0 g0 Lk) m sh (.Call (.Attribute o "pop" apos) [] [] pos) (tBM0 K "list" rPop tl) (fLpop fl) := by
  subst hK
  exact ⟨pe_bm0 PySem.F.plainAttrs_list PySem.F.slot_list_pop PySem.F.type_list_pop mt_pop hl.pe hbase hline, sd_lpop hl.sd⟩
end
/-! ### lists given away -/
section
variable {A : Amb} {W : Ot} {s0 s : A.S} {H0 H : Hp} {σ : Sg} {ρ : List Sl}
theorem ER.give (R : ER A W s0 H0 s σ H ρ) {k : Nat} {mo : Mo} (hk : ρ[k]? = some (.o mo)) : ∃ p, σ[k]? = some (some (.ref p)) ∧ H0 p = none ∧ ¬ W.w p ∧ ¬ A.B s p ∧ H p ≠ none ∧
    ER A (W.add p) s0 H0 s σ H (ρ.set k .e) ∧ MoAt (om true A (W.add p) s σ (ρ.set k .e)) H p mo := by
  obtain ⟨p, h1, h2, h3, h4, h5⟩ := R.own k mo hk
  have sub : ∀ a, om true A (W.add p) s σ (ρ.set k .e) a → om true A W s σ ρ a := fun a z => by
    rcases z with (z | z) | z | ⟨_, j, m, e1, e2⟩
    · exact .inl z
    · subst z; exact .inr (.inr ⟨rfl, k, mo, hk, h1⟩)
    · exact .inr (.inl z)
    · rcases set_at e1 with ⟨_, q⟩ | ⟨_, q⟩
      · cases q
      · exact .inr (.inr ⟨rfl, j, m, q, e2⟩)
  refine ⟨p, h1, h3, h4, h5, h2.some, ⟨Amb.sub R.amb sub, R.stp, fun a z => ?_, by rw [List.length_set]; exact R.len, fun j d e => ?_, fun j m e => ?_, fun q hq => (R.gh q hq).weak sub, fun i j m m' e1 e2 e3 => ?_, fun a z => .inl (R.w0 a z), R.g0, R.lk⟩, h2.go (fun a z => .inl (sub a z)) Agr.refl rfl⟩
  · rcases z with z | rfl
    · exact R.wd a z
    · exact h2.some
  · rcases set_at e with ⟨_, q⟩ | ⟨_, q⟩
    · cases q
    · obtain ⟨v, k1, k2⟩ := R.vals j d q
      exact ⟨v, k1, k2.weak sub⟩
  · rcases set_at e with ⟨_, q⟩ | ⟨n, q⟩
    · cases q
    · obtain ⟨a, k1, k2, k3, k4, k5⟩ := R.own j m q
      exact ⟨a, k1, k2.go (fun a z => .inl (sub a z)) Agr.refl rfl, k3, fun z => z.elim k4 fun e => n (R.uniq j k m mo q hk (by rw [k1, h1, e])), k5⟩
  · rcases set_at e1 with ⟨_, q⟩ | ⟨_, q1⟩
    · cases q
    · rcases set_at e2 with ⟨_, q⟩ | ⟨_, q2⟩
      · cases q
      · exact R.uniq i j m m' q1 q2 e3
end
/-- o.f = a list of one's own -/
def fStNL (cs : List Str) (f : Str) (fo : FE BS) (fv : FO BS) : FS BS := fun P ρ s => fv ρ s fun mo s1 => match mo with
  | .lst ds => fo ρ s1 fun d s2 => ObP s2 d cs fun b l a c ns vs => (decide (f ∈ ns) = false ∧ ns.length < 900) ∧ ∀ l', l'.l = l.l → l'.o = oset l.o a (.ins c (ns ++ [f]) (vs ++ [.l ds])) → P.nx ρ (.bag b l')
  | _ => False
def fStFL (cs : List Str) (f : Str) (i : Nat) (fo : FE BS) (fv : FO BS) : FS BS := fun P ρ s => fv ρ s fun mo s1 => match mo with
  | .lst ds => fo ρ s1 fun d s2 => ObP s2 d cs fun b l a c ns vs => (ns[i]? = some f ∧ ns.length < 900) ∧ ∀ l', l'.l = l.l → l'.o = oset l.o a (.ins c ns (vs.set i (.l ds))) → P.nx ρ (.bag b l')
  | _ => False
/-- .. that stands in slot k -/
def fStFW (cs : List Str) (f : Str) (i k : Nat) (fo : FE BS) : FS BS := fun P ρ s => match ρ[k]? with
  | some (.o (.lst ds)) => fo (ρ.set k .e) s fun d s2 => ObP s2 d cs fun b l a c ns vs => (ns[i]? = some f ∧ ns.length < 900) ∧ ∀ l', l'.l = l.l → l'.o = oset l.o a (.ins c ns (vs.set i (.l ds))) → P.nx (ρ.set k .e) (.bag b l')
  | _ => False
/-- a new list that many may hold -/
def fShr (fv : FO BS) : FE BS := fun ρ s Φ => fv ρ s fun mo s1 => match mo with
  | .lst ds => NewP s1 "" fun b l a => ∀ l', l'.l = l.l → l'.o = oset l.o a (.lst ds) → Φ (.any (.ref a)) (.bag b l')
  | _ => False
section
variable {K : Fg} {mg : Str → Option Value} {w0 : Ad} {g0 : List (D × V)} {Lk : BS → Hp → Prop} {W : Ot} {s0 : BS} {H0 H : Hp} {σ : Sg} {ρ : List Sl} {m sh m1 sh1 : Bool} {to tv : TE} {fo : FE BS} {fv : FO BS} {cs : List Str} {f c : Str} {i k : Nat} {b a p : Addr} {L : LO} {ns : List Str} {vs : List FV} {ds : List D}
theorem give_new (R : ER (OA K mg w0 g0 Lk) (W.add p) s0 H0 (.bag b L) σ H ρ) (k0 : ∀ a, (OA K mg w0 g0 Lk).w0 a → W.w a) (h0 : H0 p = none) (hw : ¬ W.w p) (hb : ¬ bsB (.bag b L) p) (hm : MoAt (om true (OA K mg w0 g0 Lk) (W.add p) (.bag b L) σ ρ) H p (.lst ds))
    (ho : L.o a = some (.ins c ns vs)) (hf : f ∉ ns) {C dx : Addr} {fs : List (Str × V)} (ha : H a = some (.ins C dx fs)) :
    ER (OA K mg w0 g0 Lk) W s0 H0 (.bag b ⟨L.l, oset L.o a (.ins c (ns ++ [f]) (vs ++ [.l ds])), fun x j => if x = a ∧ j = vs.length then p else L.p x j⟩) σ (upd H a (.ins C dx (putF f (.ref p) fs))) ρ := by
  obtain ⟨n1, n2, ⟨C', dx', fs', k1, k2, k3, k4⟩, k5⟩ := ins_at R ho
  rw [ha] at k2
  cases k2
  have hput := putF_off (v := V.ref p) (f := f) (fs := fs) (by rw [k3]; exact hf)
  have pa : a ≠ p := fun e => by subst e; exact hb (.inr (.inr (.inl (by rw [ho]; simp))))
  have hfree : ∀ x : Addr, H x ≠ none → upd H a (HO.ins C dx (putF f (.ref p) fs)) x ≠ none := fun x z => by
    by_cases e : x = a
    · subst e; rw [upd_same]; simp
    · rw [upd_ne e]; exact z
  have ag : Agr (om true (OA K mg w0 g0 Lk) (W.add p) (.bag b L) σ ρ) H (upd H a (HO.ins C dx (putF f (.ref p) fs))) := fun x o e nn => by
    rw [upd_ne fun z => nn (by subst z; exact .inr (.inl (.inr (.inr (.inl (by rw [ho]; simp))))))]
    exact e
  have own : ∀ (j : Nat) (es : List Pd.D), (vs ++ [FV.l ds])[j]? = some (FV.l es) → vs[j]? = some (FV.l es) ∨ j = vs.length := fun j es z => by
    by_cases e : j < vs.length
    · rw [List.getElem?_append_left e] at z; exact .inl z
    · have hj := (List.getElem?_eq_some_iff.mp z).1
      rw [List.length_append, List.length_singleton] at hj
      exact .inr (by omega)
  have na : ∀ (j : Nat) (es : List Pd.D), vs[j]? = some (FV.l es) → L.p a j ≠ a ∧ L.p a j ≠ p ∧ j ≠ vs.length := fun j es z => by
    have q := R.oj.pv a _ ⟨_, ho, j, es, z, rfl⟩
    refine ⟨fun e => ?_, fun e => hb (.inr (.inr (.inr ⟨a, _, ho, j, es, z, e.symm⟩))), Nat.ne_of_lt (List.getElem?_eq_some_iff.mp z).1⟩
    have q := q.2.2
    rw [e, ho] at q
    cases q
  refine R.obShare (L' := ⟨L.l, oset L.o a (.ins c (ns ++ [f]) (vs ++ [.l ds])), fun x j => if x = a ∧ j = vs.length then p else L.p x j⟩) (a := a) (oc' := .ins c (ns ++ [f]) (vs ++ [.l ds])) k0 h0 hw hb rfl rfl (fun x n => by funext j; exact if_neg fun z => n z.1) (.inl (by rw [ho]; simp)) ?_ ?_ (fun x z _ => upd_ne z) hfree
  · refine ⟨?_, by rw [List.length_append, List.length_append]; exact congrArg (· + 1) n2, ⟨C, dx, _, k1, upd_same, by rw [hput, List.map_append, k3]; rfl, fun j fv hj => ?_⟩, fun j j' es es' z1 z2 e => ?_⟩
    · rw [List.nodup_append]
      exact ⟨n1, by simp, fun x hx y hy => by rw [List.mem_singleton.mp hy]; exact fun e => hf (e ▸ hx)⟩
    · by_cases e : j < vs.length
      · rw [List.getElem?_append_left e] at hj
        obtain ⟨n', v', q1, q2⟩ := k4 j fv hj
        refine ⟨n', v', by rw [hput, List.getElem?_append_left (by rw [ns_len k3]; omega)]; exact q1, ?_⟩
        dsimp only
        rw [if_neg fun z => by omega]
        exact q2.go (fun x z => .inl z) ag fun es z => upd_ne (na j es (z ▸ hj)).1
      · have hj2 := (List.getElem?_eq_some_iff.mp hj).1
        rw [List.length_append, List.length_singleton] at hj2
        obtain rfl : j = vs.length := by omega
        rw [List.getElem?_append_right (Nat.le_refl _), Nat.sub_self] at hj
        cases hj
        refine ⟨f, .ref p, by rw [hput, List.getElem?_append_right (by rw [ns_len k3]; omega), ns_len k3, show vs.length - ns.length = 0 by omega]; rfl, ?_⟩
        dsimp only
        rw [if_pos ⟨rfl, rfl⟩]
        obtain ⟨xs, q1, q2⟩ := hm
        exact ⟨rfl, xs, (upd_ne pa.symm).trans q1, q2.go (fun x z => .inl z) ag⟩
    · dsimp only at e
      rcases own j es z1 with w1 | w1 <;> rcases own j' es' z2 with w2 | w2
      · rw [if_neg fun z => (na j es w1).2.2 z.2, if_neg fun z => (na j' es' w2).2.2 z.2] at e
        exact k5 j j' es es' w1 w2 e
      · rw [if_neg fun z => (na j es w1).2.2 z.2, if_pos ⟨rfl, w2⟩] at e
        exact ((na j es w1).2.1 e).elim
      · rw [if_pos ⟨rfl, w1⟩, if_neg fun z => (na j' es' w2).2.2 z.2] at e
        exact ((na j' es' w2).2.1 e.symm).elim
      · omega
  · rintro x ⟨j, es, z, rfl⟩
    dsimp only
    rcases own j es z with w | w
    · rw [if_neg fun z => (na j es w).2.2 z.2]
      exact .inl ⟨_, ho, j, es, w, rfl⟩
    · rw [if_pos ⟨rfl, w⟩]
      exact .inr ⟨rfl, pa⟩
theorem give_fld (R : ER (OA K mg w0 g0 Lk) (W.add p) s0 H0 (.bag b L) σ H ρ) (k0 : ∀ a, (OA K mg w0 g0 Lk).w0 a → W.w a) (h0 : H0 p = none) (hw : ¬ W.w p) (hb : ¬ bsB (.bag b L) p) (hm : MoAt (om true (OA K mg w0 g0 Lk) (W.add p) (.bag b L) σ ρ) H p (.lst ds))
    (ho : L.o a = some (.ins c ns vs)) (hi : ns[i]? = some f) {C dx : Addr} {fs : List (Str × V)} (ha : H a = some (.ins C dx fs)) :
    ER (OA K mg w0 g0 Lk) W s0 H0 (.bag b ⟨L.l, oset L.o a (.ins c ns (vs.set i (.l ds))), fun x j => if x = a ∧ j = i then p else L.p x j⟩) σ (upd H a (.ins C dx (putF f (.ref p) fs))) ρ := by
  obtain ⟨n1, n2, ⟨C', dx', fs', k1, k2, k3, k4⟩, k5⟩ := ins_at R ho
  rw [ha] at k2
  cases k2
  have hlt : i < ns.length := (List.getElem?_eq_some_iff.mp hi).1
  obtain ⟨n, y0, g1, _⟩ := k4 i vs[i] (List.getElem?_eq_getElem (by omega))
  obtain ⟨rfl, _⟩ := fld_at k3 n1 hi g1
  have hput := putF_at (v := V.ref p) (k3 ▸ n1) g1
  have hkey : (putF n (V.ref p) fs).map (·.1) = ns := by
    rw [hput, List.map_set, k3]
    exact List.ext_getElem? fun j => by
      by_cases e : i = j
      · subst e; rw [List.getElem?_set_self hlt, hi]
      · rw [List.getElem?_set_ne e]
  have pa : a ≠ p := fun e => by subst e; exact hb (.inr (.inr (.inl (by rw [ho]; simp))))
  have hfree : ∀ x : Addr, H x ≠ none → upd H a (HO.ins C dx (putF n (.ref p) fs)) x ≠ none := fun x z => by
    by_cases e : x = a
    · subst e; rw [upd_same]; simp
    · rw [upd_ne e]; exact z
  have ag : Agr (om true (OA K mg w0 g0 Lk) (W.add p) (.bag b L) σ ρ) H (upd H a (HO.ins C dx (putF n (.ref p) fs))) := fun x o e nn => by
    rw [upd_ne fun z => nn (by subst z; exact .inr (.inl (.inr (.inr (.inl (by rw [ho]; simp))))))]
    exact e
  have own : ∀ (j : Nat) (es : List Pd.D), (vs.set i (FV.l ds))[j]? = some (FV.l es) → (vs[j]? = some (FV.l es) ∧ j ≠ i) ∨ j = i := fun j es z => by
    by_cases e : i = j
    · exact .inr e.symm
    · rw [List.getElem?_set_ne e] at z; exact .inl ⟨z, fun q => e q.symm⟩
  have na : ∀ (j : Nat) (es : List Pd.D), vs[j]? = some (FV.l es) → L.p a j ≠ a ∧ L.p a j ≠ p := fun j es z => by
    have q := R.oj.pv a _ ⟨_, ho, j, es, z, rfl⟩
    refine ⟨fun e => ?_, fun e => hb (.inr (.inr (.inr ⟨a, _, ho, j, es, z, e.symm⟩)))⟩
    have q := q.2.2
    rw [e, ho] at q
    cases q
  refine R.obShare (L' := ⟨L.l, oset L.o a (.ins c ns (vs.set i (.l ds))), fun x j => if x = a ∧ j = i then p else L.p x j⟩) (a := a) (oc' := .ins c ns (vs.set i (.l ds))) k0 h0 hw hb rfl rfl (fun x n => by funext j; exact if_neg fun z => n z.1) (.inl (by rw [ho]; simp)) ?_ ?_ (fun x z _ => upd_ne z) hfree
  · refine ⟨n1, by rw [List.length_set]; exact n2, ⟨C, dx, _, k1, upd_same, hkey, fun j fv hj => ?_⟩, fun j j' es es' z1 z2 e => ?_⟩
    · by_cases e : i = j
      · subst e
        rw [List.getElem?_set_self (by omega)] at hj
        cases hj
        refine ⟨n, .ref p, by rw [hput, List.getElem?_set_self (by rw [ns_len k3]; exact hlt)], ?_⟩
        dsimp only
        rw [if_pos ⟨rfl, rfl⟩]
        obtain ⟨xs, q1, q2⟩ := hm
        exact ⟨rfl, xs, (upd_ne pa.symm).trans q1, q2.go (fun x z => .inl z) ag⟩
      · rw [List.getElem?_set_ne e] at hj
        obtain ⟨n', v', q1, q2⟩ := k4 j fv hj
        refine ⟨n', v', by rw [hput, List.getElem?_set_ne e]; exact q1, ?_⟩
        dsimp only
        rw [if_neg fun z => e z.2.symm]
        exact q2.go (fun x z => .inl z) ag fun es z => upd_ne (na j es (z ▸ hj)).1
    · dsimp only at e
      rcases own j es z1 with w1 | w1 <;> rcases own j' es' z2 with w2 | w2
      · rw [if_neg fun z => w1.2 z.2, if_neg fun z => w2.2 z.2] at e
        exact k5 j j' es es' w1.1 w2.1 e
      · rw [if_neg fun z => w1.2 z.2, if_pos ⟨rfl, w2⟩] at e
        exact ((na j es w1.1).2 e).elim
      · rw [if_pos ⟨rfl, w1⟩, if_neg fun z => w2.2 z.2] at e
        exact ((na j' es' w2.1).2 e.symm).elim
      · omega
  · rintro x ⟨j, es, z, rfl⟩
    dsimp only
    rcases own j es z with w | w
    · rw [if_neg fun z => w.2 z.2]
      exact .inl ⟨_, ho, j, es, w.1, rfl⟩
    · rw [if_pos ⟨rfl, w⟩]
      exact .inr ⟨rfl, pa⟩
theorem fld_put {C dx : Addr} {fs : List (Str × V)} {x : V} {D : Ends} (hc : ∀ c ∈ cs, FldC K mg f c) (hcs : c ∈ cs) (hC : mg c = some (.ref C)) : Cls K C ∧ NoAttr K C f := by
  obtain ⟨⟨C', c1, c2, c3⟩⟩ := hc c hcs
  rw [hC] at c1
  cases c1
  exact ⟨c2, c3⟩
theorem ss_stNL (hc : ∀ c ∈ cs, FldC K mg f c) (hv : SdO (OA K mg w0 g0 Lk) tv fv) (h : SdE (OA K mg w0 g0 Lk) m1 sh1 to fo) : SdS (OA K mg w0 g0 Lk) (sFld K to tv f) (fStNL cs f fo fv) := fun W s0 H0 s σ H ρ P D R hp nx _ _ _ =>
  hv W s0 H0 s σ H ρ _ _ R hp fun mo s1 p H1 hp R1 st1 hn hm hw hb => by
    cases mo with
    | lst ds =>
      refine h _ s0 H0 s1 σ H1 ρ _ _ R1 hp fun d s2 x H2 ⟨⟨b, L, a, c, ns, vs, es, ed, ho, hcs, ⟨hi, hln⟩, hq⟩⟩ R2 st2 r2 => ?_
      subst es
      subst ed
      obtain rfl := r2.any
      obtain ⟨n1, n2, ⟨C, dx, fs, k1, k2, k3, k4⟩, k5⟩ := ins_at R2 ho
      obtain ⟨c2, c3⟩ := fld_put (fs := fs) (x := .non) (D := D) (dx := dx) hc hcs k1
      obtain ⟨e1, e2⟩ := keep_at st2 hm.some hb
      have hm2 := hm.go (om_go true st2) (om_agr true st2) e1
      exact ⟨a, C, dx, fs, rfl, k2, c2, c3, by rw [ns_len k3]; omega, by
        have R3 := give_new R2 R.w0 (R.fresh0 hn) hw e2 hm2 ho (of_decide_eq_false hi) k2
        refine nx _ _ _ _ ?_ R3
        exact hq _ rfl rfl⟩
    | dk _ _ => exact hp.elim
    | dt _ _ => exact hp.elim
theorem ss_stFL (hc : ∀ c ∈ cs, FldC K mg f c) (hv : SdO (OA K mg w0 g0 Lk) tv fv) (h : SdE (OA K mg w0 g0 Lk) m1 sh1 to fo) : SdS (OA K mg w0 g0 Lk) (sFld K to tv f) (fStFL cs f i fo fv) := fun W s0 H0 s σ H ρ P D R hp nx _ _ _ =>
  hv W s0 H0 s σ H ρ _ _ R hp fun mo s1 p H1 hp R1 st1 hn hm hw hb => by
    cases mo with
    | lst ds =>
      refine h _ s0 H0 s1 σ H1 ρ _ _ R1 hp fun d s2 x H2 ⟨⟨b, L, a, c, ns, vs, es, ed, ho, hcs, ⟨hi, hln⟩, hq⟩⟩ R2 st2 r2 => ?_
      subst es
      subst ed
      obtain rfl := r2.any
      obtain ⟨n1, n2, ⟨C, dx, fs, k1, k2, k3, k4⟩, k5⟩ := ins_at R2 ho
      obtain ⟨c2, c3⟩ := fld_put (fs := fs) (x := .non) (D := D) (dx := dx) hc hcs k1
      obtain ⟨e1, e2⟩ := keep_at st2 hm.some hb
      have hm2 := hm.go (om_go true st2) (om_agr true st2) e1
      exact ⟨a, C, dx, fs, rfl, k2, c2, c3, by rw [ns_len k3]; omega, by
        have R3 := give_fld R2 R.w0 (R.fresh0 hn) hw e2 hm2 ho hi k2
        refine nx _ _ _ _ ?_ R3
        exact hq _ rfl rfl⟩
    | dk _ _ => exact hp.elim
    | dt _ _ => exact hp.elim
theorem ss_stFW (hc : ∀ c ∈ cs, FldC K mg f c) (h : SdE (OA K mg w0 g0 Lk) m1 sh1 to fo) : SdS (OA K mg w0 g0 Lk) (sFld K to (tVar k) f) (fStFW cs f i k fo) := fun W s0 H0 s σ H ρ P D R hp nx _ _ _ => by
  unfold fStFW at hp
  split at hp
  · rename_i ds hk
    obtain ⟨p, h1, h2, hw, hb, hs, R1, hm⟩ := R.give hk
    refine ⟨.ref p, h1, h _ s0 H0 s σ H _ _ _ R1 hp fun d s2 x H2 ⟨⟨b, L, a, c, ns, vs, es, ed, ho, hcs, ⟨hi, hln⟩, hq⟩⟩ R2 st2 r2 => ?_⟩
    subst es
    subst ed
    obtain rfl := r2.any
    obtain ⟨n1, n2, ⟨C, dx, fs, k1, k2, k3, k4⟩, k5⟩ := ins_at R2 ho
    obtain ⟨c2, c3⟩ := fld_put (fs := fs) (x := .non) (D := D) (dx := dx) hc hcs k1
    obtain ⟨e1, e2⟩ := keep_at st2 hm.some hb
    have hm2 := hm.go (om_go true st2) (om_agr true st2) e1
    exact ⟨a, C, dx, fs, rfl, k2, c2, c3, by rw [ns_len k3]; omega, by
        have R3 := give_fld R2 R.w0 h2 hw e2 hm2 ho hi k2
        refine nx _ _ _ _ ?_ R3
        exact hq _ rfl rfl⟩
  · exact hp.elim
theorem sd_shr (hv : SdO (OA K mg w0 g0 Lk) tv fv) : SdE (OA K mg w0 g0 Lk) m sh tv (fShr fv) := fun W s0 H0 s σ H ρ Φ Q R hp q =>
  hv W s0 H0 s σ H ρ _ _ R hp fun mo s1 p H1 hp R1 st1 hn hm hw hb => by
    cases mo with
    | lst ds =>
      obtain ⟨⟨b, L, rfl, hq⟩⟩ := hp
      have ho : L.o p = none := by
        cases k : L.o p with
        | none => rfl
        | some oc => exact (hb (.inr (.inr (.inl (by rw [k]; simp))))).elim
      have R2 := R1.obShare (L' := ⟨L.l, oset L.o p (.lst ds), L.p⟩) (a := p) (oc' := .lst ds) (H' := H1) R.w0 (R.fresh0 hn) hw hb rfl rfl (fun _ _ => rfl) (.inr rfl) hm (fun x z => z.elim) (fun _ _ _ => rfl) fun _ z => z
      have st2 : Stp (OA K mg w0 g0 Lk) s (.bag b ⟨L.l, oset L.o p (.lst ds), L.p⟩) H H1 := ⟨st1.agr, fun x z => ?_, st1.dom⟩
      · exact q _ _ _ _ (hq p ho ⟨L.l, oset L.o p (.lst ds), L.p⟩ rfl rfl) R2 st2 (.inl any_rs)
      · by_cases e : x = p
        · subst e; exact .inr hn
        · refine st1.new x ?_
          rcases z with z | z | z | ⟨a1, oc1, z1, z2⟩
          · exact .inl z
          · exact .inr (.inl z)
          · rw [show (⟨L.l, oset L.o p (.lst ds), L.p⟩ : LO).o = oset L.o p (.lst ds) from rfl, oset_ne e] at z
            exact .inr (.inr (.inl z))
          · by_cases e2 : a1 = p
            · subst e2
              rw [show (⟨L.l, oset L.o a1 (.lst ds), L.p⟩ : LO).o = oset L.o a1 (.lst ds) from rfl, oset_same] at z1
              cases z1
              exact z2.elim
            · rw [show (⟨L.l, oset L.o p (.lst ds), L.p⟩ : LO).o = oset L.o p (.lst ds) from rfl, oset_ne e2] at z1
              exact .inr (.inr (.inr ⟨a1, oc1, z1, z2⟩))
    | dk _ _ => exact hp.elim
    | dt _ _ => exact hp.elim
end
section
variable {X : Cx} {K : Fg} {mg : Str → Option Value} {w0 : Ad} {g0 : List (D × V)} {Lk : BS → Hp → Prop} {m sh m1 sh1 : Bool} {to tv : TE} {fo : FE BS} {fv : FO BS} {f x : Str} {cs : List Str} {e o : Expr} {p pos pos' : Pos}
theorem z_stNL (hc : ∀ c ∈ cs, FldC K mg f c) (he : QO X (OA K mg w0 g0 Lk) e tv fv) (h : QE X (OA K mg w0 g0 Lk) false true o to fo) (hs : swapsWith e (some (.Attribute o f pos')) pos.line X.env = pure false := by rfl) (hK : X.K = K := by rfl) :
    QS X (OA K mg w0 g0 Lk) (.Assign [.Attribute o f pos'] e pos) (sFld K to tv f) (fStNL cs f fo fv) := by
  subst hK
  exact ⟨ps_fld h.pe he.pe hs, ss_stNL hc he.sd h.sd⟩
theorem z_stFL (i : Nat) (hc : ∀ c ∈ cs, FldC K mg f c) (he : QO X (OA K mg w0 g0 Lk) e tv fv) (h : QE X (OA K mg w0 g0 Lk) false true o to fo) (hs : swapsWith e (some (.Attribute o f pos')) pos.line X.env = pure false := by rfl) (hK : X.K = K := by rfl) :
    QS X (OA K mg w0 g0 Lk) (.Assign [.Attribute o f pos'] e pos) (sFld K to tv f) (fStFL cs f i fo fv) := by
  subst hK
  exact ⟨ps_fld h.pe he.pe hs, ss_stFL hc he.sd h.sd⟩
theorem z_stFW (i k : Nat) (hc : ∀ c ∈ cs, FldC K mg f c) (h : QE X (OA K mg w0 g0 Lk) false true o to fo) (hN : X.N[k]? = some x := by rfl) (hv : Vis X.env.scope x := by first | exact Or.inl rfl | exact Or.inr (Or.inl rfl) | exact Or.inr (Or.inr rfl)) (hd : (x == ("__debug__" : Str)) = false := by decide) (hcd : (x == ("__classdict__" : Str)) = false := by decide)
    (hs : swapsWith (.Name x p) (some (.Attribute o f pos')) pos.line X.env = pure false := by rfl) (hK : X.K = K := by rfl) :
    QS X (OA K mg w0 g0 Lk) (.Assign [.Attribute o f pos'] (.Name x p) pos) (sFld K to (tVar k) f) (fStFW cs f i k fo) := by
  subst hK
  exact ⟨ps_fld h.pe (pe_var (i := k) hN hv hd hcd) hs, ss_stFW hc h.sd⟩
theorem q_shr (he : QO X (OA K mg w0 g0 Lk) e tv fv) : QE X (OA K mg w0 g0 Lk) m sh e tv (fShr fv) := ⟨he.pe, sd_shr he.sd⟩
end
end Pd

set_option maxHeartbeats 4000000
/-! isinstance of any value, own classes among the classes -/
namespace Pd
open PySem PySem.Spec PyProof.Rows L2
/-- an own class of which instances are told apart -/
structure TyC (K : Fg) (C : Addr) : Prop where
  cl : Cls K C
  ha : PySem.W.findIn K (.ref C) "__class__" = some (some (.builtin "object.__class__"))
  hn : PySem.W.specialIn K (.builtin "object.__class__") "__get__" = some (some (.builtin "getset_descriptor.__get__"))
  ht : PySem.W.takesIn K (.builtin "object.__class__") = some true
  hm : PySem.W.mroIn K C (.type "object") = some true
/-- is an instance of the class a one of c? -/
structure IoT (K : Fg) (mg : Str → Option Value) (a c : Str) (b : Bool) : Prop where
  ex : ∃ C vc, mg a = some (.ref C) ∧ TyC K C ∧ Pd.ClsV mg c vc ∧ PySem.W.kitOne K (.ref C) vc = some b
theorem io_nil {K : Fg} {mg : Str → Option Value} : ∀ t ∈ ([] : List (Str × Str × Bool)), IoT K mg t.1 t.2.1 t.2.2 := fun _ h => by cases h
theorem io_cons {K : Fg} {mg : Str → Option Value} {a c : Str} {b : Bool} {l : List (Str × Str × Bool)} (h : IoT K mg a c b) (r : ∀ t ∈ l, IoT K mg t.1 t.2.1 t.2.2) : ∀ t ∈ (a, c, b) :: l, IoT K mg t.1 t.2.1 t.2.2 := fun t ht => (List.mem_cons.mp ht).elim (fun e => e ▸ h) (r t)
/-- a name of a class: of a built-in one, or of an own one -/
structure NmT (K : Fg) (mg : Str → Option Value) (t : Str × Option BT) : Prop where
  ex : match t.2 with
    | some b => clN mg t.1 = .type b.nm
    | none => ∃ C, clN mg t.1 = .ref C ∧ (PySem.W.clsIn K C).isSome = true ∧ PySem.W.typeIn K (.ref C) = some (.type "type")
theorem nm_nil {K : Fg} {mg : Str → Option Value} : ∀ t ∈ ([] : List (Str × Option BT)), NmT K mg t := fun _ h => by cases h
theorem nm_cons {K : Fg} {mg : Str → Option Value} {t : Str × Option BT} {l : List (Str × Option BT)} (h : NmT K mg t) (r : ∀ t ∈ l, NmT K mg t) : ∀ t' ∈ t :: l, NmT K mg t' := fun t' ht => (List.mem_cons.mp ht).elim (fun e => e ▸ h) (r t')
def isK (d : D) (ts : List (Str × Option BT)) : Bool := ts.any fun t => match t.2 with
  | some b => isB b d
  | none => false
def fIsI (tab : List (Str × Str × Bool)) (ts : List (Str × Option BT)) (fe : FE BS) : FE BS := fun ρ s Φ => fe ρ s fun d s1 => match d with
  | .any (.ref _) => ObP s1 d (tab.map (·.1)) fun _ _ _ c _ _ => ∃ b, isTb tab c (ts.map (·.1)) b ∧ Φ (.bl b) s1
  | _ => d.known ∧ Φ (.bl (isK d ts)) s1
theorem kit_own {K : Fg} {C : Addr} {d : D} (h : d.known) (h1 : (PySem.W.clsIn K C).isSome = true) (h2 : PySem.W.typeIn K (.ref C) = some (.type "type")) : PySem.W.kitOne K (.type (tyN d)) (.ref C) = some false := by
  have e : ∀ T : String, PySem.W.subIn K (.type T) (.ref C) = some false → PySem.W.kitOne K (.type T) (.ref C) = some false := fun T hT => by
    unfold PySem.W.kitOne
    rw [if_neg (by simp)]
    show (if ((PySem.W.clsIn K C).isSome && PySem.W.typeIn K (.ref C) == some (.type "type")) = true then PySem.W.subIn K (.type T) (.ref C) else none) = _
    rw [h1, h2, if_pos (by decide), hT]
  cases d with
  | any => exact h.elim
  | xdt => exact h.elim
  | _ => exact e _ rfl
theorem kit_K {K : Fg} {mg : Str → Option Value} {d : D} (h : d.known) : ∀ {ts : List (Str × Option BT)}, (∀ t ∈ ts, NmT K mg t) → PySem.W.kitAny K (.type (tyN d)) (ts.map fun t => clN mg t.1) = some (isK d ts)
  | [], _ => rfl
  | t :: ts, ht => by
    have ih := kit_K h (ts := ts) fun t h => ht t (List.mem_cons_of_mem _ h)
    have one : PySem.W.kitOne K (.type (tyN d)) (clN mg t.1) = some (match t.2 with | some b => isB b d | none => false) := by
      have := (ht t List.mem_cons_self).ex
      obtain ⟨n, o⟩ := t
      cases o with
      | some b => dsimp only at this ⊢; rw [this]; exact isB_kit h
      | none => obtain ⟨C, e, h1, h2⟩ := this; dsimp only at e ⊢; rw [e]; exact kit_own h h1 h2
    rw [List.map_cons]
    refine kitAny_cons one (fun e => ?_) fun e => ?_
    · rw [ih]; unfold isK; rw [List.any_cons, e, Bool.false_or]
    · unfold isK; rw [List.any_cons, e, Bool.true_or]
theorem vals_io {K : Fg} {mg : Str → Option Value} {tab : List (Str × Str × Bool)} {nm : Str} {D : Addr} (tk : ∀ t ∈ tab, IoT K mg t.1 t.2.1 t.2.2) (hD : mg nm = some (.ref D)) {cs : List Str} {b : Bool} : isTb tab nm cs b → PySem.W.kitAny K (.ref D) (cs.map (clN mg)) = some b := by
  intro h
  induction cs with
  | nil => have h : b = false := h; subst h; rfl
  | cons c cs ih =>
    rcases h with ⟨h1, rfl⟩ | ⟨h1, h2⟩
    · obtain ⟨C, vc, e1, _, e2, e3⟩ := (tk _ h1).ex
      have eC : D = C := Value.ref.inj (Option.some.inj (hD.symm.trans e1))
      subst eC
      rw [List.map_cons, clN_of e2]
      exact kitAny_cons e3 (fun z => by cases z) fun _ => rfl
    · obtain ⟨C, vc, e1, _, e2, e3⟩ := (tk _ h1).ex
      have eC : D = C := Value.ref.inj (Option.some.inj (hD.symm.trans e1))
      subst eC
      rw [List.map_cons, clN_of e2]
      exact kitAny_cons e3 (fun _ => ih h2) fun z => by cases z
theorem io_ty {K : Fg} {mg : Str → Option Value} {tab : List (Str × Str × Bool)} {nm : Str} {D : Addr} (tk : ∀ t ∈ tab, IoT K mg t.1 t.2.1 t.2.2) (hD : mg nm = some (.ref D)) (hm : nm ∈ tab.map (·.1)) : TyC K D := by
  obtain ⟨t, ht, rfl⟩ := List.mem_map.mp hm
  obtain ⟨C, vc, e1, e2, _⟩ := (tk t ht).ex
  rw [hD] at e1
  cases e1
  exact e2
theorem cls_all {mg : Str → Option Value} : ∀ {cs : List Str}, (∀ c ∈ cs, ∃ v, Pd.ClsV mg c v) → Paired L2.ClsV (cs.map fun c => clV (clN mg c)) (cs.map (clN mg))
  | [], _ => .nil
  | c :: cs, h => by
    obtain ⟨v, hv⟩ := h c List.mem_cons_self
    refine .cons ?_ (cls_all fun c hc => h c (List.mem_cons_of_mem _ hc))
    show L2.ClsV (clV (clN mg c)) (clN mg c)
    rw [clN_of hv]
    have := hv.2
    cases v with
    | ref C => exact .own C
    | type n => exact .ty n
    | _ => cases this
section
variable {X : Cx} {K : Fg} {mg : Str → Option Value} {w0 : Ad} {g0 : List (D × V)} {Lk : BS → Hp → Prop} {m sh : Bool} {e : Expr} {te : TE} {fe : FE BS} {tab : List (Str × Str × Bool)} {p pos : Pos} {c : Str} {o : Option BT} {q : Pos}
theorem q_isI (tk : ∀ t ∈ tab, IoT K mg t.1 t.2.1 t.2.2) (nk : ∀ t ∈ [(c, o)], NmT K mg t) (hm : mg "isinstance" = none) (he : QE X (OA K mg w0 g0 Lk) false true e te fe) (hc : QCs X [.Name c q] [c]) (hg : Gl X "isinstance" := by rfl)
    (hs : starEach [e, .Name c q] X.env = (false, eval e X.env) :: starEach [.Name c q] X.env := by rfl) (hpl : (backTo pos (starEach [.Name c q] X.env)).any (·.1) = false := by rfl) (hK : X.K = K := by rfl) (hM : X.mg = mg := by rfl) :
    QE X (OA K mg w0 g0 Lk) m sh (.Call (.Name "isinstance" p) [e, .Name c q] [] pos) (tCB (rIsi K) (tCons te (tCs mg [c]))) (fIsI tab [(c, o)] fe) := by
  subst hK
  subst hM
  refine ⟨pe_callB call_isi hg hm bt_isI (pa_cons he.pe hc.pa hs) (by decide) (by decide) hs hpl, fun W s0 H0 s σ H ρ Φ Q R hp q => ?_⟩
  refine he.sd W s0 H0 s σ H ρ _ _ R hp fun d s1 v H1 hd R1 st1 r1 => ?_
  refine tCs_go (cs := [c]) ?_
  have hP := cls_all hc.all
  cases hP with
  | cons hcl _ =>
    have one : ∀ {t : Value} {b : Bool}, PySem.W.kitAny X.K t [clN X.mg c] = some b → PySem.W.kitOne X.K t (clN X.mg c) = some b := fun {t b} h => by
      unfold PySem.W.kitAny at h
      split at h
      · rename_i h3; rw [h3, ← h]
      · rename_i h3
        unfold PySem.W.kitAny at h
        rw [h3, ← h]
      · cases h
    split at hd
    · rename_i a
      obtain rfl := r1.any
      obtain ⟨⟨b, L, a', c', ns, vs, rfl, ed, ho, hcs, k, hk, hq⟩⟩ := hd
      cases ed
      obtain ⟨n1, n2, ⟨C', dx, fs, k1, k2, k3, k4⟩, _⟩ := ins_at R1 ho
      have ty := io_ty tk k1 hcs
      exact ⟨_, _, _, _, k, rfl, hcl, .base (.ins k2 ty.cl ty.ha ty.hn ty.ht ty.hm), one (vals_io tk k1 hk), q _ _ _ H1 hq R1 st1 (.inl (.bl _))⟩
    · exact ⟨_, _, _, _, _, rfl, hcl, r1.low.tyOf hd.1, one (kit_K hd.1 nk), q _ _ _ H1 hd.2 R1 st1 (.inl (.bl _))⟩
theorem q_isIT {es : List Expr} {t0 : Str × Option BT} {ts : List (Str × Option BT)} {k : Nat} {pt : Pos} (tk : ∀ t ∈ tab, IoT K mg t.1 t.2.1 t.2.2) (nk : ∀ t ∈ t0 :: ts, NmT K mg t) (hm : mg "isinstance" = none) (he : QE X (OA K mg w0 g0 Lk) false true e te fe) (hc : QCs X es (t0.1 :: ts.map (·.1)))
    (hn : (t0.1 :: ts.map (·.1)).length ≤ 1000 := by decide) (hg : Gl X "isinstance" := by rfl)
    (hs : starEach [e, .Tuple es k pt] X.env = (false, eval e X.env) :: starEach [.Tuple es k pt] X.env := by rfl) (hs2 : starEach [.Tuple es k pt] X.env = (false, eval (.Tuple es k pt) X.env) :: starEach [] X.env := by rfl) (hpl : (backTo pos (starEach [.Tuple es k pt] X.env)).any (·.1) = false := by rfl) (hK : X.K = K := by rfl) (hM : X.mg = mg := by rfl) :
    QE X (OA K mg w0 g0 Lk) m sh (.Call (.Name "isinstance" p) [e, .Tuple es k pt] [] pos) (tCB (rIsiT K) (tCons te (tCons (tTup (tCs mg (t0.1 :: ts.map (·.1)))) tNil))) (fIsI tab (t0 :: ts) fe) := by
  subst hK
  subst hM
  refine ⟨pe_callB call_isiT hg hm bt_isI (pa_cons he.pe (pa_cons (pe_tup hc.pa) pa_nil hs2) hs) (by decide) (by decide) hs hpl, fun W s0 H0 s σ H ρ Φ Q R hp q => ?_⟩
  refine he.sd W s0 H0 s σ H ρ _ _ R hp fun d s1 v H1 hd R1 st1 r1 => ?_
  show tCs X.mg (t0.1 :: ts.map (·.1)) σ H1 fun xs H2 => xs.length ≤ sizeLine ∧ ∀ p, H2 p = none → rIsiT X.K [v, V.ref p] (upd H2 p (.tup xs)) Q
  refine tCs_go (cs := t0.1 :: ts.map (·.1)) ?_
  refine ⟨by rw [List.length_map, line_eq]; omega, fun tp htp => ?_⟩
  have hP := cls_all hc.all
  have r2 := r1.low
  have stn := Stp.fresh (A := OA X.K X.mg w0 g0 Lk) (s := s1) (o := .tup ((t0.1 :: ts.map (·.1)).map fun c => clV (clN X.mg c))) htp
  have R2 := R1.alloc htp (.tup ((t0.1 :: ts.map (·.1)).map fun c => clV (clN X.mg c)))
  have em : (t0 :: ts).map (fun t => clN X.mg t.1) = (t0.1 :: ts.map (·.1)).map (clN X.mg) := by rw [List.map_cons, List.map_cons, List.map_map]; rfl
  split at hd
  · rename_i a
    obtain rfl := r1.any
    obtain ⟨⟨b, L, a', c', ns, vs, rfl, ed, ho, hcs, k, hk, hq⟩⟩ := hd
    cases ed
    obtain ⟨n1, n2, ⟨C', dx, fs, k1, k2, k3, k4⟩, _⟩ := ins_at R2 ho
    have ty := io_ty tk k1 hcs
    exact ⟨_, tp, _, _, _, k, rfl, upd_same, hP, .base (.ins k2 ty.cl ty.ha ty.hn ty.ht ty.hm), vals_io tk k1 hk, q _ _ _ _ hq R2 (st1.trans stn) (.inl (.bl _))⟩
  · exact ⟨_, tp, _, _, _, _, rfl, upd_same, hP, (r2.stp stn).tyOf hd.1, em ▸ kit_K hd.1 nk, q _ _ _ _ hd.2 R2 (st1.trans stn) (.inl (.bl _))⟩
end
end Pd

set_option maxHeartbeats 4000000
/-! len(o), str(o), o == p, v in o, o[v], o & p, o(v) of own classes -/
namespace Pd
open PySem PySem.Spec PyProof.Rows L2
abbrev InsR (rows : List (Addr × L2.Sp)) (x : V) (H : Hp) (Φ : L2.Sp → Prop) : Prop := ∃ r, r ∈ rows ∧ ∃ a dx fs, x = .ref a ∧ H a = some (.ins r.1 dx fs) ∧ Φ r.2
section
variable {X : Cx} {CX : CXT} {k : Nat} {rows : List (Addr × L2.Sp)} {m : Str} {E : Sg → XK} {pins : List (Addr × Obj)} {s : Shared} {σ : Sg} {H : Hp}
theorem ins_fr (I : Inv X pins σ H s) {a C dx : Addr} {fs : List (Str × V)} (h : H a = some (.ins C dx fs)) : ∃ od mF, PySem.W.InstAt s.heap a (PySem.W.instObj C dx) C (some od) ∧ Fr X.base X.env.locals s.heap mF := by
  obtain ⟨mA, O, _⟩ := ins_get I.hok h
  obtain ⟨od, J, _⟩ := O.look
  obtain ⟨mF, hF⟩ := I.fr
  exact ⟨od, mF, J, hF⟩
theorem call_own {f : Addr} {fd : FuncData} {ps : List Str} {sp : L2.Sp} {Ar : Around} {us : List Value} {vs : List V} {Q : VK} {R : Value → Shared → Prop} (F : FnG X.prog X.w X.K X.mg X.base CX k f fd ps sp) (hgd : Ar.guards = some []) (hr : Room k Ar) (hb : Binds X.K fd ps []) (hx : PassesAt CX X σ (E σ)) (I : Inv X pins σ H s) (e0 : Env0 X.prog X.w X.K X.mg X.base Ar X.stack s H)
    (rv : Vals vs us) (h : sp vs H Q (E σ)) (hR : ∀ u s', EP X pins σ Q u s' → R u s') : wpAny (model X.prog X.w) Ar (call (.ref f) us) R X.xe s := by
  refine wpAny_call (codeAny_mono (run_gnA F hgd hr hb hx I e0 rv h) fun res s' hq => ?_)
  match res, hq with
  | .error er, hq => exact hq
  | .ok (.ret u), hq => exact hR u s' hq
  | .ok .next, hq => exact hq.elim
  | .ok .brk, hq => exact hq.elim
  | .ok .cont, hq => exact hq.elim
/-! len -/
def rLenO (rows : List (Addr × L2.Sp)) : List V → Hp → VK → Prop := fun xs H Q => ∃ x, xs = [x] ∧ InsR rows x H fun sp => sp [x] H (fun v H' => ∃ n : Nat, v = .int n ∧ n < 2 ^ 62 ∧ Q (.int n) H') E0
theorem call_lenO (hrows : ∀ r ∈ rows, MRow0 X CX0 k "__len__" r) (hgd : X.A.guards = some []) (hr : Room (k + 1) X.A) : CallR X (.builtin "len") (rLenO rows) := by
  intro pins s σ H xs us Q I rv h
  obtain ⟨x, rfl, r, hr1, a, dx, fs, rfl, ha, h⟩ := h
  obtain ⟨u1, rfl, ru⟩ := rv.one
  obtain rfl : u1 = Value.ref a := ru
  obtain ⟨c, f, fd, ps, hm, F, hb⟩ := hrows r hr1
  obtain ⟨od, mF, J, hF⟩ := ins_fr I ha
  refine PySem.W.len_K hF I.ok.mod.kin J hm.at_ hm.fn ?_
  refine call_own (E := fun _ => E0) F hgd hr.in1 hb (passC σ) I I.env0.in1 (.cons (show L2.RelV (.ref a) (Value.ref a) from rfl) .nil) h fun u s' hq => ?_
  obtain ⟨v, H', I3, r3, n, rfl, hn, q⟩ := hq
  obtain ⟨t, rfl⟩ := r3
  exact ⟨⟨by omega, by omega⟩, .int n, H', I3.tok _, ⟨_, rfl⟩, q⟩
/-! str -/
def rStrO (rows : List (Addr × L2.Sp)) : List V → Hp → VK → Prop := fun xs H Q => ∃ x, xs = [x] ∧ InsR rows x H fun sp => sp [x] H (fun v H' => ∃ z : Str, v = .str z ∧ Q (.str z) H') E0
theorem call_strO (hrows : ∀ r ∈ rows, MRow0 X CX0 k "__str__" r) (hgd : X.A.guards = some []) (hr : Room (k + 2) X.A) : CallR X (.type "str") (rStrO rows) := by
  intro pins s σ H xs us Q I rv h
  obtain ⟨x, rfl, r, hr1, a, dx, fs, rfl, ha, h⟩ := h
  obtain ⟨u1, rfl, ru⟩ := rv.one
  obtain rfl : u1 = Value.ref a := ru
  obtain ⟨c, f, fd, ps, hm, F, hb⟩ := hrows r hr1
  obtain ⟨od, mF, J, hF⟩ := ins_fr I ha
  have hr2 : Room k X.A.in1.in1 := hr.in1.in1
  refine PySem.W.kso_call hr2.units0 I.kIn J hm.at_ hm.fn ?_
  refine call_own (E := fun _ => E0) F hgd hr2 hb (passC σ) I I.env0.in1.in1 (.cons (show L2.RelV (.ref a) (Value.ref a) from rfl) .nil) h fun u s' hq => ?_
  obtain ⟨v, H', I3, r3, z, rfl, q⟩ := hq
  obtain ⟨t, rfl⟩ := r3
  exact ⟨.str z, H', I3, ⟨_, rfl⟩, q⟩
/-! in -/
def rInO (neg : Bool) (rows : List (Addr × L2.Sp)) : R2 := fun y x H Q => InsR rows x H fun sp => sp [x, y] H (fun v H' => ∃ b : Bool, v = .bl b ∧ Q (.bl (if neg then !b else b)) H') E0
theorem op_inO (hrows : ∀ r ∈ rows, MRow0 X CX0 k "__contains__" r) (hgd : X.A.guards = some []) (hr : Room k X.A) : OpR X (compareOp .In) (rInO false rows) := by
  intro pins s σ H y x v u Q I ry rx h
  obtain ⟨r, hr1, a, dx, fs, rfl, ha, h⟩ := h
  obtain rfl : u = Value.ref a := rx
  obtain ⟨c, f, fd, ps, hm, F, hb⟩ := hrows r hr1
  obtain ⟨od, mF, J, hF⟩ := ins_fr I ha
  refine PySem.W.in_K hF I.ok.mod.kin J hm.at_ hm.fn ?_
  refine call_own (E := fun _ => E0) F hgd hr hb (passC σ) I I.env0 (.cons (show L2.RelV (.ref a) (Value.ref a) from rfl) (.cons ry .nil)) h fun u s' hq => ?_
  obtain ⟨w, H', I3, r3, b, rfl, q⟩ := hq
  cases (show u = Value.bool b from r3)
  exact wpAny_truthy_bool ⟨.bl b, H', I3, rfl, q⟩
theorem op_notInO (hrows : ∀ r ∈ rows, MRow0 X CX0 k "__contains__" r) (hgd : X.A.guards = some []) (hr : Room k X.A) : OpR X (compareOp .NotIn) (rInO true rows) := by
  intro pins s σ H y x v u Q I ry rx h
  obtain ⟨r, hr1, a, dx, fs, rfl, ha, h⟩ := h
  obtain rfl : u = Value.ref a := rx
  obtain ⟨c, f, fd, ps, hm, F, hb⟩ := hrows r hr1
  obtain ⟨od, mF, J, hF⟩ := ins_fr I ha
  refine PySem.W.notIn_K hF I.ok.mod.kin J hm.at_ hm.fn ?_
  refine call_own (E := fun _ => E0) F hgd hr hb (passC σ) I I.env0 (.cons (show L2.RelV (.ref a) (Value.ref a) from rfl) (.cons ry .nil)) h fun u s' hq => ?_
  obtain ⟨w, H', I3, r3, b, rfl, q⟩ := hq
  cases (show u = Value.bool b from r3)
  exact wpAny_truthy_bool ⟨.bl (!b), H', I3, rfl, q⟩
/-! o[v] -/
def rIxO (rows : List (Addr × L2.Sp)) (E : XK) : R2 := fun x y H Q => InsR rows x H fun sp => sp [x, y] H Q E
theorem pe_ixO {a b : Expr} {ta tb : TE} {pos : Pos} (hrows : ∀ r ∈ rows, MRow0 X CX k "__getitem__" r) (hfi : ∀ r ∈ rows, ∀ f, PySem.W.findIn X.K (.ref r.1) "__getitem__" = some (some (.ref f)) → PySem.W.fnIn X.K f = true) (hgd : X.A.guards = some []) (hr : Room (k + 1) X.A) (hx : ∀ σ, PassesAt CX X σ (E σ)) (ha : PE X a ta) (hb : PE X b tb)
    (hs : ∀ (v : Addr) (u : Value), subscripted b true (.ref v) u = runValue (.builtin "lifetime.subscript" ⟨[.ref v, u], []⟩)) : PE X (.Subscript a b pos) (fun σ H Q => ta σ H fun x H1 => tb σ H1 fun y H2 => rIxO rows (E σ) x y H2 Q) := by
  refine ⟨fun pins s σ H Q I h => ?_⟩
  refine Subscript_ (binT ha hb I h fun v u s2 x y H2 I2 rx ry q => ?_)
  obtain ⟨r, hr1, a', dx, fs, rfl, ha', h'⟩ := q
  have e : v = Value.ref a' := rx
  subst e
  obtain ⟨c, f, fd, ps, hm, F, hbd⟩ := hrows r hr1
  obtain ⟨od, mF, J, hF⟩ := ins_fr I2 ha'
  exact PySem.W.sub_K hF I2.ok.mod.kin J hm.at_ (hfi r hr1 f hm.at_) hm.fn (call_own (E := E) F hgd hr.in1 hbd (hx σ) I2 I2.env0.in1 (.cons (show L2.RelV (.ref a') (Value.ref a') from rfl) (.cons ry .nil)) h' fun u s' hq => hq) (hs _ _)
/-! o & p, o | p: both of one class -/
def rBinO (rows : List (Addr × L2.Sp)) (E : XK) : R2 := fun x y H Q => InsR rows x H fun sp => (∃ a b C dx dy fs gs, x = .ref a ∧ y = .ref b ∧ H a = some (.ins C dx fs) ∧ H b = some (.ins C dy gs)) ∧ sp [x, y] H Q E
theorem back_ok {v : V} {u : Value} {s' : Shared} {Q : Value → Shared → Prop} (r : L2.RelV v u) (h : Q u s') : PySem.W.CmpBack Q u s' := by
  cases u with
  | notImplemented =>
    exfalso
    cases v <;> first | (obtain ⟨_, z⟩ := r; cases z; done) | (cases r; done) | exact r
  | _ => exact h
theorem pe_binO {op : Operator} {a b : Expr} {ta tb : TE} {pos : Pos} (hrows : ∀ r ∈ rows, MRow0 X CX k (PySem.dunder op.info.2) r) (hsf : ∀ r ∈ rows, PySem.W.selfFirst X.K r.1 = true) (hgd : X.A.guards = some []) (hr : Room k X.A) (hx : ∀ σ, PassesAt CX X σ (E σ)) (ha : PE X a ta) (hb : PE X b tb) :
    PE X (.BinOp a op b pos) (fun σ H Q => ta σ H fun x H1 => tb σ H1 fun y H2 => rBinO rows (E σ) x y H2 Q) := by
  refine ⟨fun pins s σ H Q I h => ?_⟩
  refine wpAny_BinOp (binT ha hb I h fun v u s2 x y H2 I2 rx ry q => ?_)
  obtain ⟨r, hr1, a', dx, fs, rfl, ha', ⟨a1, b1, C, dx1, dy1, fs1, gs1, e1, rfl, h1, h2⟩, h'⟩ := q
  cases e1
  rw [ha'] at h1
  cases h1
  have e : v = Value.ref a' := rx
  subst e
  have e : u = Value.ref b1 := ry
  subst e
  obtain ⟨c, f, fd, ps, hm, F, hbd⟩ := hrows r hr1
  obtain ⟨od, mF, J, hF⟩ := ins_fr I2 ha'
  obtain ⟨od', _, J', _⟩ := ins_fr I2 h2
  refine PySem.W.binop_K hF I2.ok.mod.kin J J'.type (hsf r hr1) hm.at_ hm.fn ?_
  refine call_own (E := E) F hgd hr hbd (hx σ) I2 I2.env0 (.cons (show L2.RelV (.ref a') (Value.ref a') from rfl) (.cons (show L2.RelV (.ref b1) (Value.ref b1) from rfl) .nil)) h' fun u s' hq => ?_
  obtain ⟨w, H', I3, r3, q⟩ := hq
  exact back_ok r3 ⟨w, H', I3, r3, q⟩
/-! o == p, o != p of instances -/
def rEqO (rows : List (Addr × L2.Sp)) (oks : List (Addr × Addr)) : R2 := fun x y H Q => InsR rows x H fun sp => (∃ a b C C' dx dy fs gs, x = .ref a ∧ y = .ref b ∧ H a = some (.ins C dx fs) ∧ H b = some (.ins C' dy gs) ∧ (C, C') ∈ oks) ∧ sp [x, y] H (fun v H' => ∃ b : Bool, v = .bl b ∧ Q (.bl b) H') E0
theorem op_eqO {oks : List (Addr × Addr)} (hrows : ∀ r ∈ rows, MRow0 X CX0 k "__eq__" r) (hok : ∀ o ∈ oks, PySem.W.notFirst X.K o.1 (.ref o.2) = true) (hgd : X.A.guards = some []) (hr : Room k X.A) : OpR X (compareOp .Eq) (rEqO rows oks) := by
  intro pins s σ H x y v u Q I rx ry h
  obtain ⟨r, hr1, a, dx, fs, rfl, ha, ⟨a1, b1, C, C', dx1, dy1, fs1, gs1, e1, rfl, h1, h2, hin⟩, h'⟩ := h
  cases e1
  rw [ha] at h1
  cases h1
  have e : v = Value.ref a := rx
  subst e
  have e : u = Value.ref b1 := ry
  subst e
  obtain ⟨c, f, fd, ps, hm, F, hbd⟩ := hrows r hr1
  obtain ⟨od, mF, J, hF⟩ := ins_fr I ha
  obtain ⟨od', _, J', _⟩ := ins_fr I h2
  show wpAny _ _ (richCompare .Eq _ _) _ _ _
  refine PySem.W.cmp_K (op := .Eq) hr.units0 hF I.ok.mod.kin J J'.type (hok _ hin) hm.at_ hm.fn ?_
  refine call_own (E := fun _ => E0) F hgd hr hbd (passC σ) I I.env0 (.cons (show L2.RelV (.ref a) (Value.ref a) from rfl) (.cons (show L2.RelV (.ref b1) (Value.ref b1) from rfl) .nil)) h' fun u s' hq => ?_
  obtain ⟨w, H', I3, r3, b, rfl, q⟩ := hq
  cases (show u = Value.bool b from r3)
  exact ⟨.bl b, H', I3, rfl, q⟩
/-! o(v) -/
def tCallI (rows : List (Addr × L2.Sp)) (E : Sg → XK) (tf : TE) (t : TA) : TE := fun σ H Q => tf σ H fun y H1 => ∃ a, y = V.ref a ∧ t σ H1 fun vs H2 => InsR rows (.ref a) H2 fun sp => sp (.ref a :: vs) H2 Q (E σ)
theorem pe_callI {fe e : Expr} {es : List Expr} {tf : TE} {t : TA} {pos : Pos} (hrows : ∀ r ∈ rows, MRow0 X CX k "__call__" r) (hfi : ∀ r ∈ rows, ∀ f, PySem.W.findIn X.K (.ref r.1) "__call__" = some (some (.ref f)) → PySem.W.fnIn X.K f = true) (hgd : X.A.guards = some []) (hr : Room k X.A) (hx : ∀ σ, PassesAt CX X σ (E σ)) (hf : PE X fe tf) (ha : PA X (e :: es) t)
    (ht : eval (.Call fe (e :: es) [] pos) X.env = (do callWith pos (← eval fe X.env) [] (backTo pos (starEach (e :: es) X.env)) (backToKw pos (keywordEach [] X.env))) := by rfl)
    (he : starEach (e :: es) X.env = (false, eval e X.env) :: starEach es X.env := by rfl) (hpl : (backTo pos (starEach es X.env)).any (·.1) = false := by rfl) : PE X (.Call fe (e :: es) [] pos) (tCallI rows E tf t) := by
  refine ⟨fun pins s σ H Q I h => ?_⟩
  refine Call_ (thn (hf.run pins s σ H _ I h) fun u s1 ⟨y, H1, I1, ry, a, ey, q⟩ => ?_) ht
  subst ey
  have e : u = Value.ref a := ry
  subst e
  refine StX.callO_with (thn (ha.run pos pins s1 σ H1 _ I1 q) fun us s2 ⟨vs, H2, I2, rv, hi⟩ => ?_) he hpl
  obtain ⟨r, hr1, a', dx, fs, e1, ha', h'⟩ := hi
  cases e1
  obtain ⟨c, f, fd, ps, hm, F, hbd⟩ := hrows r hr1
  obtain ⟨od, mF, J, hF⟩ := ins_fr I2 ha'
  refine ⟨⟨r.1, _, _, J, rfl⟩, wpAny_call (PySem.W.kco_code I2.kIn J rfl hm.at_ hm.fn (hfi r hr1 f hm.at_) ?_)⟩
  exact run_gnA (us := .ref a :: us) (vs := .ref a :: vs) F hgd hr hbd (hx σ) I2 I2.env0 (.cons (show L2.RelV (.ref a) (Value.ref a) from rfl) rv) h'
end
end Pd

set_option maxHeartbeats 4000000
/-! len(o), str(o), o == p, v in o, o[v], o & p, o(v) over trees -/
namespace Pd
open PySem PySem.Spec PyProof.Rows L2
abbrev tabC {α : Type} (mg : Str → Option Value) (sp : α → L2.Sp) (tab : List (Str × α)) : List (Addr × L2.Sp) := tab.map fun r => (cAd mg r.1, sp r.2)
def fLenO (tab : List (Str × Pg BS)) (fo : FE BS) : FE BS := fun ρ s Φ => fo ρ s fun d s1 => ObP s1 d (tab.map (·.1)) fun _ _ _ c _ _ => RowP tab c fun g => Sp g [d] s1 (retK fun v s2 => ∃ n : Nat, v = .int n ∧ n < 2 ^ 62 ∧ Φ v s2)
def fStrO (tab : List (Str × Pg BS)) (fo : FE BS) : FE BS := fun ρ s Φ => fo ρ s fun d s1 => ObP s1 d (tab.map (·.1)) fun _ _ _ c _ _ => RowP tab c fun g => Sp g [d] s1 (retK fun v s2 => ∃ z : Str, v = .str z ∧ Φ v s2)
def fInO (neg : Bool) (tab : List (Str × Pg BS)) (fy fo : FE BS) : FE BS := fun ρ s Φ => fy ρ s fun y s1 => fo ρ s1 fun d s2 => ObP s2 d (tab.map (·.1)) fun _ _ _ c _ _ => RowP tab c fun g => Sp g [d, y] s2 (retK fun v s3 => ∃ b : Bool, v = .bl b ∧ Φ (.bl (if neg then !b else b)) s3)
def fIxO (Xi : XiT BS) (tab : List (Str × PgX BS)) (fo fi : FE BS) : FE BS := fun ρ s Φ => fo ρ s fun d s1 => fi ρ s1 fun y s2 => ObP s2 d (tab.map (·.1)) fun _ _ _ c _ _ => RowP tab c fun g => SpX g [d, y] s2 (retK Φ) fun x s3 => Xi x ρ s3
def fBiO (Xi : XiT BS) (tab : List (Str × PgX BS)) (fo fi : FE BS) : FE BS := fun ρ s Φ => fo ρ s fun d s1 => fi ρ s1 fun y s2 => ObP s2 d (tab.map (·.1)) fun _ _ _ c _ _ => RowP tab c fun g => ObP s2 y [c] fun _ _ _ _ _ _ => SpX g [d, y] s2 (retK Φ) fun x s3 => Xi x ρ s3
def fEqO (tab : List (Str × Pg BS)) (oks : List (Str × Str)) (fo fi : FE BS) : FE BS := fun ρ s Φ => fo ρ s fun d s1 => fi ρ s1 fun y s2 => ObP s2 d (tab.map (·.1)) fun _ _ _ c _ _ => RowP tab c fun g => ObP s2 y (oks.map (·.2)) fun _ _ _ c' _ _ => (c, c') ∈ oks ∧ Sp g [d, y] s2 (retK fun v s3 => ∃ b : Bool, v = .bl b ∧ Φ (.bl b) s3)
def fCallI (Xi : XiT BS) (tab : List (Str × PgX BS)) (fo : FE BS) (fa : FA BS) : FE BS := fun ρ s Φ => fo ρ s fun d s1 => (∃ a, d = .any (.ref a)) ∧ fa ρ s1 fun ds s2 => ObP s2 d (tab.map (·.1)) fun _ _ _ c _ _ => RowP tab c fun g => SpX g (d :: ds) s2 (retK Φ) fun x s3 => Xi x ρ s3
section
variable {K : Fg} {mg : Str → Option Value} {w0 : Ad} {g0 : List (D × V)} {Lk : BS → Hp → Prop} {m sh m1 sh1 : Bool} {to ty ti : TE} {fo fy fi : FE BS} {ta : TA} {fa : FA BS} {np : Nat} {Wx : WX} {Xi : XiT BS} {neg : Bool}
theorem row_in {α : Type} {sp : α → L2.Sp} {tab : List (Str × α)} {W : Ot} {s0 : BS} {H0 H : Hp} {σ : Sg} {ρ : List Sl} {b a : Addr} {L : LO} {c : Str} {ns : List Str} {vs : List FV} {g : α} (R : ER (OA K mg w0 g0 Lk) W s0 H0 (.bag b L) σ H ρ) (ho : L.o a = some (.ins c ns vs)) (hg : (c, g) ∈ tab) {Ψ : L2.Sp → Prop} (h : Ψ (sp g)) :
    InsR (tabC mg sp tab) (.ref a) H Ψ := by
  obtain ⟨n1, n2, ⟨C', dx, fs, k1, k2, k3, k4⟩, _⟩ := ins_at R ho
  exact ⟨_, List.mem_map.mpr ⟨(c, g), hg, rfl⟩, a, dx, fs, rfl, by rw [cAd_of k1]; exact k2, h⟩
theorem sd_lenO {tab : List (Str × Pg BS)} (h : SdE (OA K mg w0 g0 Lk) m1 sh1 to fo) : SdE (OA K mg w0 g0 Lk) m sh (tCB (rLenO (tabC mg (spOf (BM K (some mg)) 1) tab)) (tCons to tNil)) (fLenO tab fo) := fun W s0 H0 s σ H ρ Φ Q R hp q =>
  h W s0 H0 s σ H ρ _ _ R hp fun d s1 x H1 ⟨⟨b, L, a, c, ns, vs, es, ed, ho, hcs, hq⟩⟩ R1 st1 r1 => by
    subst es
    subst ed
    obtain rfl := r1.any
    obtain ⟨⟨g, hg, hq⟩⟩ := hq
    refine ⟨_, rfl, row_in R1 ho hg (core_call (A := BM K (some mg)) (w0 := w0) (g0 := g0) (Lk := Lk) (Φ := fun v s2 => ∃ n : Nat, v = .int n ∧ n < 2 ^ 62 ∧ Φ v s2) R1 (.cons any_rs .nil) rfl hq.go fun d s2 v H2 h2 R2 st2 r2 => ?_)⟩
    obtain ⟨n, rfl, hn, h2⟩ := h2
    cases r2
    exact ⟨n, rfl, hn, q _ _ _ _ h2 R2 (st1.trans st2) (.inl (.int _))⟩
theorem sd_strO {tab : List (Str × Pg BS)} (h : SdE (OA K mg w0 g0 Lk) m1 sh1 to fo) : SdE (OA K mg w0 g0 Lk) m sh (tCB (rStrO (tabC mg (spOf (BM K (some mg)) 1) tab)) (tCons to tNil)) (fStrO tab fo) := fun W s0 H0 s σ H ρ Φ Q R hp q =>
  h W s0 H0 s σ H ρ _ _ R hp fun d s1 x H1 ⟨⟨b, L, a, c, ns, vs, es, ed, ho, hcs, hq⟩⟩ R1 st1 r1 => by
    subst es
    subst ed
    obtain rfl := r1.any
    obtain ⟨⟨g, hg, hq⟩⟩ := hq
    refine ⟨_, rfl, row_in R1 ho hg (core_call (A := BM K (some mg)) (w0 := w0) (g0 := g0) (Lk := Lk) (Φ := fun v s2 => ∃ z : Str, v = .str z ∧ Φ v s2) R1 (.cons any_rs .nil) rfl hq.go fun d s2 v H2 h2 R2 st2 r2 => ?_)⟩
    obtain ⟨z, rfl, h2⟩ := h2
    cases r2
    exact ⟨z, rfl, q _ _ _ _ h2 R2 (st1.trans st2) (.inl (.str _))⟩
theorem sd_inO {tab : List (Str × Pg BS)} (hy : SdE (OA K mg w0 g0 Lk) true false ty fy) (h : SdE (OA K mg w0 g0 Lk) m1 sh1 to fo) : SdE (OA K mg w0 g0 Lk) m sh (tOp (rInO neg (tabC mg (spOf (BM K (some mg)) 2) tab)) ty to) (fInO neg tab fy fo) := fun W s0 H0 s σ H ρ Φ Q R hp q =>
  hy W s0 H0 s σ H ρ _ _ R hp fun y s1 v1 H1 hp R1 st1 ry => h W s0 H0 s1 σ H1 ρ _ _ R1 hp fun d s2 x H2 ⟨⟨b, L, a, c, ns, vs, es, ed, ho, hcs, hq⟩⟩ R2 st2 r2 => by
    subst es
    subst ed
    obtain rfl := r2.any
    obtain ⟨⟨g, hg, hq⟩⟩ := hq
    show InsR _ _ _ fun sp => sp _ _ (fun v H' => ∃ b : Bool, v = .bl b ∧ Q (.bl (if neg then !b else b)) H') E0
    refine row_in R2 ho hg (core_call (A := BM K (some mg)) (w0 := w0) (g0 := g0) (Lk := Lk) (Φ := fun v s3 => ∃ b : Bool, v = .bl b ∧ Φ (.bl (if neg then !b else b)) s3) R2 (.cons any_rs (.cons (ry.rs.stp st2) .nil)) rfl hq.go fun d s3 v H3 h3 R3 st3 r3 => ?_)
    obtain ⟨b, rfl, h3⟩ := h3
    cases r3
    exact ⟨b, rfl, q _ _ _ _ h3 R3 ((st1.trans st2).trans st3) (.inl (.bl _))⟩
theorem sd_ixO {tab : List (Str × PgX BS)} (wi : Wish mg (OA K mg w0 g0 Lk) Wx Xi) (h : SdE (OA K mg w0 g0 Lk) m1 sh1 to fo) (hi : SdE (OA K mg w0 g0 Lk) true false ti fi) :
    SdE (OA K mg w0 g0 Lk) m sh (fun σ H Q => to σ H fun x H1 => ti σ H1 fun y H2 => rIxO (tabC mg (spOfX mg (BM K (some mg)) 2) tab) (WE Wx σ) x y H2 Q) (fIxO Xi tab fo fi) := fun W s0 H0 s σ H ρ Φ Q R hp q =>
  h W s0 H0 s σ H ρ _ _ R hp fun d s1 x H1 hp R1 st1 r1 => hi W s0 H0 s1 σ H1 ρ _ _ R1 hp fun y s2 v H2 ⟨⟨b, L, a, c, ns, vs, es, ed, ho, hcs, hq⟩⟩ R2 st2 ry => by
    subst es
    subst ed
    obtain rfl := r1.any
    obtain ⟨⟨g, hg, hq⟩⟩ := hq
    show InsR _ _ _ fun sp => sp _ _ Q (WE Wx σ)
    exact row_in R2 ho hg (core_callX (A := BM K (some mg)) (w0 := w0) (g0 := g0) (Lk := Lk) wi R2 (.cons any_rs (.cons ry.rs .nil)) rfl hq.go fun d s3 v H3 h3 R3 st3 r3 => q _ _ _ _ h3 R3 ((st1.trans st2).trans st3) (.inl (Rs.weak r3 om_true)))
theorem sd_biO {tab : List (Str × PgX BS)} (wi : Wish mg (OA K mg w0 g0 Lk) Wx Xi) (h : SdE (OA K mg w0 g0 Lk) m1 sh1 to fo) (hi : SdE (OA K mg w0 g0 Lk) true false ti fi) :
    SdE (OA K mg w0 g0 Lk) m sh (fun σ H Q => to σ H fun x H1 => ti σ H1 fun y H2 => rBinO (tabC mg (spOfX mg (BM K (some mg)) 2) tab) (WE Wx σ) x y H2 Q) (fBiO Xi tab fo fi) := fun W s0 H0 s σ H ρ Φ Q R hp q =>
  h W s0 H0 s σ H ρ _ _ R hp fun d s1 x H1 hp R1 st1 r1 => hi W s0 H0 s1 σ H1 ρ _ _ R1 hp fun y s2 v H2 ⟨⟨b, L, a, c, ns, vs, es, ed, ho, hcs, hq⟩⟩ R2 st2 ry => by
    subst es
    subst ed
    obtain rfl := r1.any
    obtain ⟨⟨g, hg, ⟨⟨b', L', a', c', ns', vs', es, ed, ho', hcs', hq⟩⟩⟩⟩ := hq
    cases es
    subst ed
    obtain rfl := ry.any
    obtain rfl := List.mem_singleton.mp hcs'
    obtain ⟨_, _, ⟨C1, dx1, fs1, k1, k2, _⟩, _⟩ := ins_at R2 ho
    obtain ⟨_, _, ⟨C2, dx2, fs2, j1, j2, _⟩, _⟩ := ins_at R2 ho'
    rw [k1] at j1
    cases j1
    show InsR _ _ _ fun sp => (∃ a b C dx dy fs gs, V.ref _ = .ref a ∧ V.ref _ = .ref b ∧ H2 a = some (.ins C dx fs) ∧ H2 b = some (.ins C dy gs)) ∧ sp _ H2 Q (WE Wx σ)
    exact row_in R2 ho hg ⟨⟨a, a', C1, dx1, dx2, fs1, fs2, rfl, rfl, k2, j2⟩, core_callX (A := BM K (some mg)) (w0 := w0) (g0 := g0) (Lk := Lk) wi R2 (.cons any_rs (.cons any_rs .nil)) rfl hq.go fun d s3 v H3 h3 R3 st3 r3 => q _ _ _ _ h3 R3 ((st1.trans st2).trans st3) (.inl (Rs.weak r3 om_true))⟩
theorem sd_eqO {tab : List (Str × Pg BS)} {oks : List (Str × Str)} (h : SdE (OA K mg w0 g0 Lk) m1 sh1 to fo) (hi : SdE (OA K mg w0 g0 Lk) true false ti fi) :
    SdE (OA K mg w0 g0 Lk) m sh (tOp (rEqO (tabC mg (spOf (BM K (some mg)) 2) tab) (oks.map fun p => (cAd mg p.1, cAd mg p.2))) to ti) (fEqO tab oks fo fi) := fun W s0 H0 s σ H ρ Φ Q R hp q =>
  h W s0 H0 s σ H ρ _ _ R hp fun d s1 x H1 hp R1 st1 r1 => hi W s0 H0 s1 σ H1 ρ _ _ R1 hp fun y s2 v H2 ⟨⟨b, L, a, c, ns, vs, es, ed, ho, hcs, hq⟩⟩ R2 st2 ry => by
    subst es
    subst ed
    obtain rfl := r1.any
    obtain ⟨⟨g, hg, ⟨⟨b', L', a', c', ns', vs', es, ed, ho', hcs', hok, hq⟩⟩⟩⟩ := hq
    cases es
    subst ed
    obtain rfl := ry.any
    obtain ⟨_, _, ⟨C1, dx1, fs1, k1, k2, _⟩, _⟩ := ins_at R2 ho
    obtain ⟨_, _, ⟨C2, dx2, fs2, j1, j2, _⟩, _⟩ := ins_at R2 ho'
    show InsR _ _ _ fun sp => (∃ a b C C' dx dy fs gs, V.ref _ = .ref a ∧ V.ref _ = .ref b ∧ H2 a = some (.ins C dx fs) ∧ H2 b = some (.ins C' dy gs) ∧ (C, C') ∈ _) ∧ sp _ H2 (fun v H' => ∃ b : Bool, v = .bl b ∧ Q (.bl b) H') E0
    refine row_in R2 ho hg ⟨⟨a, a', C1, C2, dx1, dx2, fs1, fs2, rfl, rfl, k2, j2, List.mem_map.mpr ⟨(c, c'), hok, by dsimp only; rw [cAd_of k1, cAd_of j1]⟩⟩, core_call (A := BM K (some mg)) (w0 := w0) (g0 := g0) (Lk := Lk) (Φ := fun v s3 => ∃ b : Bool, v = .bl b ∧ Φ (.bl b) s3) R2 (.cons any_rs (.cons any_rs .nil)) rfl hq.go fun d s3 v H3 h3 R3 st3 r3 => ?_⟩
    obtain ⟨b, rfl, h3⟩ := h3
    cases r3
    exact ⟨b, rfl, q _ _ _ _ h3 R3 ((st1.trans st2).trans st3) (.inl (.bl _))⟩
theorem sd_callI {tab : List (Str × PgX BS)} (wi : Wish mg (OA K mg w0 g0 Lk) Wx Xi) (h : SdE (OA K mg w0 g0 Lk) m1 sh1 to fo) (ha : SdL (OA K mg w0 g0 Lk) true false np ta fa) :
    SdE (OA K mg w0 g0 Lk) m sh (tCallI (tabC mg (spOfX mg (BM K (some mg)) (np + 1)) tab) (WE Wx) to ta) (fCallI Xi tab fo fa) := fun W s0 H0 s σ H ρ Φ Q R hp q =>
  h W s0 H0 s σ H ρ _ _ R hp fun d s1 x H1 ⟨⟨a, ed⟩, hp⟩ R1 st1 r1 => by
    subst ed
    obtain rfl := r1.any
    refine ⟨a, rfl, ha W s0 H0 s1 σ H1 ρ _ _ R1 hp fun ds s2 us H2 ⟨⟨b, L, a', c, ns, vs, es, ed, ho, hcs, hq⟩⟩ R2 st2 r2 hl => ?_⟩
    subst es
    cases ed
    obtain ⟨⟨g, hg, hq⟩⟩ := hq
    exact row_in R2 ho hg (core_callX (A := BM K (some mg)) (w0 := w0) (g0 := g0) (Lk := Lk) wi R2 (.cons any_rs r2.rs) (by rw [List.length_cons, hl]) hq.go fun d s3 v H3 h3 R3 st3 r3 => q _ _ _ _ h3 R3 ((st1.trans st2).trans st3) (.inl (Rs.weak r3 om_true)))
end
/-! ### what is printed -/
section
variable {X : Cx} {K : Fg} {mg : Str → Option Value} {w0 : Ad} {g0 : List (D × V)} {Lk : BS → Hp → Prop} {m sh m1 sh1 : Bool} {to ty ti : TE} {fo fy fi : FE BS} {ta : TA} {fa : FA BS} {np k : Nat} {Wx : WX} {Xi : XiT BS} {e a b o : Expr} {es : List Expr} {p pos : Pos}
theorem q_lenO {tab : List (Str × Pg BS)} (hC : ∀ r ∈ tab, CalM X.prog X.w K mg X.base (BM K (some mg)) k r.1 "__len__" 1 r.2) (hgd : X.A.guards = some []) (hr : Room (k + 1) X.A) (hm : mg "len" = none) (h : QE X (OA K mg w0 g0 Lk) false true a to fo) (hg : Gl X "len" := by rfl) (he : starEach [a] X.env = (false, eval a X.env) :: starEach [] X.env := by rfl) (hpl : (backTo pos (starEach [] X.env)).any (·.1) = false := by rfl) (hK : X.K = K := by rfl) (hM : X.mg = mg := by rfl) :
    QE X (OA K mg w0 g0 Lk) m sh (.Call (.Name "len" p) [a] [] pos) (tCB (rLenO (tabC mg (spOf (BM K (some mg)) 1) tab)) (tCons to tNil)) (fLenO tab fo) := by
  subst hK
  subst hM
  exact ⟨pe_callB (call_lenO (rows_of hC) hgd hr) hg hm (by decide +kernel) (pa_cons h.pe pa_nil he) (by decide) (by decide) he hpl, sd_lenO h.sd⟩
theorem q_strO {tab : List (Str × Pg BS)} (hC : ∀ r ∈ tab, CalM X.prog X.w K mg X.base (BM K (some mg)) k r.1 "__str__" 1 r.2) (hgd : X.A.guards = some []) (hr : Room (k + 2) X.A) (hm : mg "str" = none) (h : QE X (OA K mg w0 g0 Lk) false true a to fo) (hg : Gl X "str" := by rfl) (he : starEach [a] X.env = (false, eval a X.env) :: starEach [] X.env := by rfl) (hpl : (backTo pos (starEach [] X.env)).any (·.1) = false := by rfl) (hK : X.K = K := by rfl) (hM : X.mg = mg := by rfl) :
    QE X (OA K mg w0 g0 Lk) m sh (.Call (.Name "str" p) [a] [] pos) (tCB (rStrO (tabC mg (spOf (BM K (some mg)) 1) tab)) (tCons to tNil)) (fStrO tab fo) := by
  subst hK
  subst hM
  have B := nb_str (X := X) (A := OA X.K X.mg w0 g0 Lk) (m := true)
  exact ⟨pe_callTy (call_strO (rows_of hC) hgd hr) hg hm B.hv (pa_cons h.pe pa_nil he) B.hn B.hd he hpl, sd_strO h.sd⟩
theorem q_inO {tab : List (Str × Pg BS)} (hC : ∀ r ∈ tab, CalM X.prog X.w K mg X.base (BM K (some mg)) k r.1 "__contains__" 2 r.2) (hgd : X.A.guards = some []) (hr : Room k X.A) (hy : QE X (OA K mg w0 g0 Lk) true false b ty fy) (h : QE X (OA K mg w0 g0 Lk) false true a to fo) (h1 : behindInMarks .In a = false := by first | exact nomark _ | rfl) (hK : X.K = K := by rfl) (hM : X.mg = mg := by rfl) :
    QE X (OA K mg w0 g0 Lk) m sh (.Compare b [.In] [a] pos) (tOp (rInO false (tabC mg (spOf (BM K (some mg)) 2) tab)) ty to) (fInO false tab fy fo) := by
  subst hK
  subst hM
  exact ⟨pe_cmpR (op_inO (rows_of hC) hgd hr) hy.pe h.pe h1, sd_inO hy.sd h.sd⟩
theorem q_ninO {tab : List (Str × Pg BS)} (hC : ∀ r ∈ tab, CalM X.prog X.w K mg X.base (BM K (some mg)) k r.1 "__contains__" 2 r.2) (hgd : X.A.guards = some []) (hr : Room k X.A) (hy : QE X (OA K mg w0 g0 Lk) true false b ty fy) (h : QE X (OA K mg w0 g0 Lk) false true a to fo) (h1 : behindInMarks .NotIn a = false := by first | exact nomark _ | rfl) (hK : X.K = K := by rfl) (hM : X.mg = mg := by rfl) :
    QE X (OA K mg w0 g0 Lk) m sh (.Compare b [.NotIn] [a] pos) (tOp (rInO true (tabC mg (spOf (BM K (some mg)) 2) tab)) ty to) (fInO true tab fy fo) := by
  subst hK
  subst hM
  exact ⟨pe_cmpR (op_notInO (rows_of hC) hgd hr) hy.pe h.pe h1, sd_inO hy.sd h.sd⟩
theorem q_eqO {tab : List (Str × Pg BS)} {oks : List (Str × Str)} (hC : ∀ r ∈ tab, CalM X.prog X.w K mg X.base (BM K (some mg)) k r.1 "__eq__" 2 r.2) (hok : ∀ o ∈ oks, PySem.W.notFirst K (cAd mg o.1) (.ref (cAd mg o.2)) = true) (hgd : X.A.guards = some []) (hr : Room k X.A) (h : QE X (OA K mg w0 g0 Lk) false true a to fo) (hi : QE X (OA K mg w0 g0 Lk) true false b ti fi) (h1 : behindInMarks .Eq b = false := by first | exact nomark _ | rfl) (hK : X.K = K := by rfl) (hM : X.mg = mg := by rfl) :
    QE X (OA K mg w0 g0 Lk) m sh (.Compare a [.Eq] [b] pos) (tOp (rEqO (tabC mg (spOf (BM K (some mg)) 2) tab) (oks.map fun p => (cAd mg p.1, cAd mg p.2))) to ti) (fEqO tab oks fo fi) := by
  subst hK
  subst hM
  exact ⟨pe_cmpR (op_eqO (rows_of hC) (fun o ho => by obtain ⟨p, hp, rfl⟩ := List.mem_map.mp ho; exact hok p hp) hgd hr) h.pe hi.pe h1, sd_eqO h.sd hi.sd⟩
/-- the def behind a method's name -/
structure FnC (K : Fg) (mg : Str → Option Value) (m c : Str) : Prop where
  ex : ∀ f, PySem.W.findIn K (.ref (cAd mg c)) m = some (some (.ref f)) → PySem.W.fnIn K f = true
theorem q_ixO {tab : List (Str × PgX BS)} (tk : L2N.Takes X Wx) (wi : Wish mg (OA K mg w0 g0 Lk) Wx Xi) (hC : ∀ r ∈ tab, CalMX X.prog X.w K mg X.base (BM K (some mg)) k r.1 "__getitem__" 2 r.2) (hf : ∀ r ∈ tab, FnC K mg "__getitem__" r.1) (hgd : X.A.guards = some []) (hr : Room (k + 1) X.A) (h : QE X (OA K mg w0 g0 Lk) false true a to fo) (hi : QE X (OA K mg w0 g0 Lk) true false b ti fi)
    (hs : ∀ (v : Addr) (u : Value), subscripted b true (.ref v) u = runValue (.builtin "lifetime.subscript" ⟨[.ref v, u], []⟩) := by intro _ _; with_unfolding_all rfl) (hK : X.K = K := by rfl) (hM : X.mg = mg := by rfl) :
    QE X (OA K mg w0 g0 Lk) m sh (.Subscript a b pos) (fun σ H Q => to σ H fun x H1 => ti σ H1 fun y H2 => rIxO (tabC mg (spOfX mg (BM K (some mg)) 2) tab) (WE Wx σ) x y H2 Q) (fIxO Xi tab fo fi) := by
  subst hK
  subst hM
  exact ⟨pe_ixO (rows_ofX hC) (fun r hr => by obtain ⟨t, ht, rfl⟩ := List.mem_map.mp hr; exact (hf t ht).ex) hgd hr (fun σ => L2N.passAt tk σ) h.pe hi.pe hs, sd_ixO wi h.sd hi.sd⟩
structure SfC (K : Fg) (mg : Str → Option Value) (c : Str) : Prop where
  ex : PySem.W.selfFirst K (cAd mg c) = true
theorem q_biO {op : Operator} {tab : List (Str × PgX BS)} (tk : L2N.Takes X Wx) (wi : Wish mg (OA K mg w0 g0 Lk) Wx Xi) (hC : ∀ r ∈ tab, CalMX X.prog X.w K mg X.base (BM K (some mg)) k r.1 (PySem.dunder op.info.2) 2 r.2) (hf : ∀ r ∈ tab, SfC K mg r.1) (hgd : X.A.guards = some []) (hr : Room k X.A) (h : QE X (OA K mg w0 g0 Lk) false true a to fo) (hi : QE X (OA K mg w0 g0 Lk) true false b ti fi) (hK : X.K = K := by rfl) (hM : X.mg = mg := by rfl) :
    QE X (OA K mg w0 g0 Lk) m sh (.BinOp a op b pos) (fun σ H Q => to σ H fun x H1 => ti σ H1 fun y H2 => rBinO (tabC mg (spOfX mg (BM K (some mg)) 2) tab) (WE Wx σ) x y H2 Q) (fBiO Xi tab fo fi) := by
  subst hK
  subst hM
  exact ⟨pe_binO (rows_ofX hC) (fun r hr => by obtain ⟨t, ht, rfl⟩ := List.mem_map.mp hr; exact (hf t ht).ex) hgd hr (fun σ => L2N.passAt tk σ) h.pe hi.pe, sd_biO wi h.sd hi.sd⟩
theorem q_callI {tab : List (Str × PgX BS)} (tk : L2N.Takes X Wx) (wi : Wish mg (OA K mg w0 g0 Lk) Wx Xi) (hC : ∀ r ∈ tab, CalMX X.prog X.w K mg X.base (BM K (some mg)) k r.1 "__call__" (np + 1) r.2) (hf : ∀ r ∈ tab, FnC K mg "__call__" r.1) (hgd : X.A.guards = some []) (hr : Room k X.A) (h : QE X (OA K mg w0 g0 Lk) false true o to fo) (ha : QL X (OA K mg w0 g0 Lk) true false np (e :: es) ta fa)
    (ht : eval (.Call o (e :: es) [] pos) X.env = (do callWith pos (← eval o X.env) [] (backTo pos (starEach (e :: es) X.env)) (backToKw pos (keywordEach [] X.env))) := by rfl)
    (he : starEach (e :: es) X.env = (false, eval e X.env) :: starEach es X.env := by rfl) (hpl : (backTo pos (starEach es X.env)).any (·.1) = false := by rfl) (hK : X.K = K := by rfl) (hM : X.mg = mg := by rfl) :
    QE X (OA K mg w0 g0 Lk) m sh (.Call o (e :: es) [] pos) (tCallI (tabC mg (spOfX mg (BM K (some mg)) (np + 1)) tab) (WE Wx) to ta) (fCallI Xi tab fo fa) := by
  subst hK
  subst hM
  exact ⟨pe_callI (rows_ofX hC) (fun r hr => by obtain ⟨t, ht, rfl⟩ := List.mem_map.mp hr; exact (hf t ht).ex) hgd hr (fun σ => L2N.passAt tk σ) h.pe ha.pa ht he hpl, sd_callI wi h.sd ha.sd⟩
end
end Pd

set_option maxHeartbeats 4000000
/-! o.f += e; what the top says of classes -/
namespace Pd
open PySem PySem.Spec PyProof.Rows L2
abbrev BZ : Amb where
  S := BS
  B := fun _ _ => False
  I := fun _ _ _ => False
  dom := fun i _ => i.elim
  loc := fun i _ _ _ => i
  cl := fun _ => True
  cln := fun _ i => i
/-- o.f += e of ints -/
def fAugF (cs : List Str) (f : Str) (i : Nat) (fo fe : FE BS) : FS BS := fun P ρ s => fo ρ s fun d s1 => ObP s1 d cs fun _ _ _ _ ns vs => (ns[i]? = some f ∧ ns.length < 900) ∧ match vs[i]? with
  | some (.v (.int x)) => fe ρ s1 fun y s2 => s2 = s1 ∧ match y with
    | .int y => ObP s2 d cs fun b l a c ns vs => P.nx ρ (.bag b (l.put a (.ins c ns (vs.set i (.v (.int (x + y)))))))
    | _ => False
  | _ => False
/-- the j-th statement of a class -/
def methOf (s : Stmt) (j : Nat) : Stmt := match s with
  | .ClassDef _ _ _ b _ _ _ _ _ _ _ => b.getD j (.Pass ⟨0, 0, 0, 0⟩)
  | s => s
section
variable {K : Fg} {mg : Str → Option Value} {h : Heap}
structure MetH (K : Fg) (C : Addr) : Prop where
  pg : PySem.W.plainGet K C Str.empty = true
  hd : PySem.W.hasDictIn K C = true
  po : PySem.W.plainOver K C = true
  sa : PySem.W.findIn K (.ref C) "__setattr__" = some (some (.builtin "object.__setattr__"))
theorem MetH.cls {C : Addr} (h : MetH K C) : Cls K C := ⟨h.pg, h.hd, h.po, h.sa⟩
end
/-- a def of a class: where it stands -/
structure DfnM (K : Fg) (f : Addr) (fd : FuncData) (m qual : Str) (st : Stmt) (ps : List Str) : Prop where
  F : Fun K m qual st f fd
  b : Binds K fd ps []
theorem dfnM_mk {K : Fg} {m qual : Str} {st : Stmt} {f : Addr} {oc : Value} {od an : Option Addr} {osl : Array (Option Value)} {kV doc pm cdv ct : Value} (ps : List Str)
    (hb : ∀ (kV doc pm : Value) (an : Option Addr) (cdv ct : Value) (us : List Value), us.length = ps.length → bindArgs (PySem.W.fnOf m qual (defArgs st) (defBody st) (defScope st) .none kV doc pm an cdv ct) ⟨us, []⟩ = pure (ps.zip us))
    (l : K.lookup f = some ⟨oc, od, .func (PySem.W.fnOf m qual (defArgs st) (defBody st) (defScope st) .none kV doc pm an cdv ct), osl⟩) (c : PySem.W.codeIn K cdv qual = true) (k : PySem.W.keepIn K (.ref f) = true) :
    DfnM K f (PySem.W.fnOf m qual (defArgs st) (defBody st) (defScope st) .none kV doc pm an cdv ct) m qual st ps :=
  have F := fun_mk (st := st) l c k
  ⟨F, F.binds hb⟩
section
variable {P : Program} {w : World} {K : Fg} {mg : Str → Option Value} {base : Heap} {k : Nat} {A : Amb}
/-- a def of a class keeps its promise -/
theorem fn_of {m qual : Str} {st : Stmt} {f : Addr} {fd : FuncData} {N ps : List Str} {np : Nat} {g : Pg A} {ff : FS A} (F : DfnM K f fd m qual st ps) (S : FnScope N ps (defScope st)) (hnp : ps.length = np) (hN : np ≤ N.length)
    (hb : ∀ (f : Addr) (cdv : Value) (Ar : Around) (out : List Env) (s : Shared) (H : Hp) (E : XK), (Ar.deeper (envOfC qual (defScope st) s.heap.objs.size f cdv)).guards = some [] → Room k (Ar.deeper (envOfC qual (defScope st) s.heap.objs.size f cdv)) →
      ∃ t, QSs (cxOf CX0 P w K mg base N qual (defScope st) f cdv Ar out s H E).nox A (defBody st) t ff)
    (hp : ∀ (ds : List D) (s : A.S) (Ψ : Ret → A.S → Prop), ds.length = np → g ds s Ψ → ff { nx := fun _ s => Ψ (.d .non) s, rt := Ψ } (startR N ds) s) (pl : A.Plain := by exact ⟨fun _ h => h, rfl, fun _ _ => trivial⟩) : FnG P w K mg base CX0 (k + 1) f fd ps (spOf A np g) := by
  refine gn_of F.F S (fun vs H Q E h => ?_) (fun cdv Ar out s H vs Q E hgd hr h => ?_)
  · obtain ⟨W, s, ds, Ψ, _, _, r, e, _⟩ := h
    rw [r.length, e, hnp]
  · obtain ⟨W, sa, ds, Ψ, hw, hi, r, e, hg, q⟩ := h
    obtain ⟨t, hq⟩ := hb f cdv Ar out s H E hgd hr
    refine ⟨t, hq.ps.nox, hq.sd ⟨W, []⟩ sa H sa _ H _ _ _ (start_er (by rw [r.length, e]; exact hN) hw hi r (fun a z => (pl.w0 a z).elim) pl.g0 (pl.lk _ _)) (hp ds sa Ψ e hg) (fun ρ' s' σ' H' h R => ?_) (fun _ _ _ _ h => h.elim) (fun _ _ _ _ h => h.elim) fun rr s' v H' h1 h2 h3 h4 h5 => q rr s' v H' h1 h2 h3 h4 h5⟩
    exact q _ s' .non H' h (Amb.sub R.amb (om_low (W := ⟨W, []⟩))) R.stp R.wd .non
theorem fn_ofX {m qual : Str} {st : Stmt} {f : Addr} {fd : FuncData} {N ps : List Str} {np : Nat} {g : PgX A} {ff : (XD → A.S → Prop) → FS A} (F : DfnM K f fd m qual st ps) (S : FnScope N ps (defScope st)) (hnp : ps.length = np) (hN : np ≤ N.length)
    (hb : ∀ (f : Addr) (cdv : Value) (Ar : Around) (out : List Env) (s : Shared) (H : Hp) (E : XK), (Ar.deeper (envOfC qual (defScope st) s.heap.objs.size f cdv)).guards = some [] → Room k (Ar.deeper (envOfC qual (defScope st) s.heap.objs.size f cdv)) →
      ∀ (Wx : WX) (w0 : Ad) (g0 : List (D × V)) (Lk : A.S → Hp → Prop) (Ξ : XD → A.S → Prop), L2N.Takes (cxOf (L2N.CX P w) P w K mg base N qual (defScope st) f cdv Ar out s H E) Wx → Wish mg (A.wish w0 g0 Lk) Wx (fun x _ s => Ξ x s) →
      ∃ t, QSs (cxOf (L2N.CX P w) P w K mg base N qual (defScope st) f cdv Ar out s H E) (A.wish w0 g0 Lk) (defBody st) t (ff Ξ))
    (hp : ∀ (ds : List D) (s : A.S) (Ψ : Ret → A.S → Prop) (Ξ : XD → A.S → Prop), ds.length = np → g ds s Ψ Ξ → ff Ξ { nx := fun _ s => Ψ (.d .non) s, rt := Ψ } (startR N ds) s) : FnG P w K mg base (L2N.CX P w) (k + 1) f fd ps (spOfX mg A np g) := by
  refine gn_of F.F S (fun vs H Q E h => ?_) (fun cdv Ar out s H vs Q E hgd hr h => ?_)
  · obtain ⟨W, s, ds, Ψ, Ξ, _, _, r, e, _⟩ := h
    rw [r.length, e, hnp]
  · obtain ⟨W, sa, ds, Ψ, Ξ, hw, hi, r, e, hg, q, qx⟩ := h
    let Lk : A.S → Hp → Prop := fun s0 H0 => ∀ x s' cls d H', A.I s' (fun a => W a ∨ A.B s' a) H' → Stp A s0 s' H0 H' → (∀ a, W a → H' a ≠ none) → XdOk mg (fun a => W a ∨ A.B s' a) H' x cls d → Ξ x s' → E cls d H'
    have tk : L2N.Takes (cxOf (L2N.CX P w) P w K mg base N qual (defScope st) f cdv Ar out s H E) (fun cls d _ H => E cls d H) := L2N.takes_of rfl rfl rfl rfl
    have wi : Wish mg (A.wish W [] Lk) (fun cls d _ H => E cls d H) (fun x _ s => Ξ x s) := fun W2 s0 H0 s2 σ2 H2 ρ2 x cls d R hx hxi =>
      R.lk x s2 cls d H2 (Amb.sub R.amb fun a z => z.imp (R.w0 a) .inl) R.stp.off (fun a z => R.wd a (R.w0 a z)) (hx.weak fun a z => z.imp (R.w0 a) .inl) hxi
    obtain ⟨t, hq⟩ := hb f cdv Ar out s H E hgd hr _ W [] Lk Ξ tk wi
    refine ⟨t, hq.ps, hq.sd ⟨W, []⟩ sa H sa _ H _ _ _ (start_er (by rw [r.length, e]; exact hN) hw hi r (fun a z => z) rfl (fun x s' cls d H' h1 h2 h3 h4 h5 => qx x s' cls d H' h5 h1 h2 h3 h4)) (hp ds sa Ψ Ξ e hg) (fun ρ' s' σ' H' h R => ?_) (fun _ _ _ _ h => h.elim) (fun _ _ _ _ h => h.elim) fun rr s' v H' h1 h2 h3 h4 h5 => q rr s' v H' h1 h2 h3.off h4 (by cases rr <;> exact h5)⟩
    exact q _ s' .non H' h (Amb.sub R.amb (om_low (A := A.wish _ _ _) (W := ⟨W, []⟩))) R.stp.off R.wd .non
end
section
variable {K : Fg} {mg : Str → Option Value} {w0 : Ad} {g0 : List (D × V)} {Lk : BS → Hp → Prop} {m sh m1 sh1 m2 sh2 : Bool} {to te : TE} {fo fe : FE BS} {cs : List Str} {f : Str} {i : Nat}
theorem ss_augF (hc : ∀ c ∈ cs, FldC K mg f c) (h : SdE (OA K mg w0 g0 Lk) m1 sh1 to fo) (he : SdE (OA K mg w0 g0 Lk) m2 sh2 te fe) : SdS (OA K mg w0 g0 Lk) (sFldAug K to te rAdd f) (fAugF cs f i fo fe) := fun W s0 H0 s σ H ρ P D R hp nx _ _ _ =>
  h W s0 H0 s σ H ρ _ _ R hp fun d s1 x H1 ⟨⟨b, L, a, c, ns, vs, es, ed, ho, hcs, ⟨hi, hln⟩, hq⟩⟩ R1 st1 r1 => by
    subst es
    subst ed
    obtain rfl := r1.any
    obtain ⟨n1, n2, ⟨C, dx, fs, k1, k2, k3, k4⟩, k5⟩ := ins_at R1 ho
    obtain ⟨⟨C', c1, c2, c3⟩⟩ := hc c hcs
    rw [k1] at c1
    cases c1
    split at hq
    · rename_i xi e
      obtain ⟨n, y0, g1, g2⟩ := k4 i _ e
      obtain ⟨rfl, g3⟩ := fld_at k3 n1 hi g1
      cases g2
      refine ⟨a, C, dx, fs, _, rfl, k2, c2, c3, g3, he W s0 H0 _ σ H1 ρ _ _ R1 hq fun y s2 v H2 ⟨es, hq⟩ R2 st2 ry => ?_⟩
      subst es
      cases y with
      | int yi =>
        obtain rfl := ry.int
        obtain ⟨⟨b', L', a', c', ns', vs', es, ed, ho', hcs', hq⟩⟩ := hq
        cases es
        cases ed
        rw [ho] at ho'
        cases ho'
        obtain ⟨n1, n2, ⟨C1, dx1, fs1, j1, j2, j3, j4⟩, j5⟩ := ins_at R2 ho
        rw [k1] at j1
        cases j1
        have hlt : i < ns.length := (List.getElem?_eq_some_iff.mp hi).1
        obtain ⟨n', y1, g1', g2'⟩ := j4 i _ e
        obtain ⟨rfl, g3'⟩ := fld_at j3 n1 hi g1'
        have hput := putF_at (v := V.int (xi + yi)) (j3 ▸ n1) g1'
        have hkey : (putF n' (V.int (xi + yi)) fs1).map (·.1) = ns := by
          rw [hput, List.map_set, j3]
          exact List.ext_getElem? fun j => by
            by_cases e : i = j
            · subst e; rw [List.getElem?_set_self hlt, hi]
            · rw [List.getElem?_set_ne e]
        have hfree : ∀ x : Addr, H2 x ≠ none → upd H2 a (HO.ins C dx1 (putF n' (V.int (xi + yi)) fs1)) x ≠ none := fun x z => by
          by_cases e : x = a
          · subst e; rw [upd_same]; simp
          · rw [upd_ne e]; exact z
        have own : ∀ (j : Nat) (ds : List Pd.D), (vs.set i (FV.v (.int (xi + yi))))[j]? = some (FV.l ds) → vs[j]? = some (FV.l ds) := fun j ds z => by
          by_cases e : i = j
          · subst e
            rw [List.getElem?_set_self (by omega)] at z
            cases z
          · rw [List.getElem?_set_ne e] at z; exact z
        have na : ∀ (j : Nat) (ds : List Pd.D), vs[j]? = some (FV.l ds) → L.p a j ≠ a := fun j ds z e => by
          have := (R2.oj.pv a _ ⟨_, ho, j, ds, z, rfl⟩).2.2
          rw [e, ho] at this
          cases this
        have ag : Agr (om true (OA K mg w0 g0 Lk) W (.bag b L) σ ρ) H2 (upd H2 a (HO.ins C dx1 (putF n' (V.int (xi + yi)) fs1))) := fun x o e nn => by
          rw [upd_ne fun z => nn (by subst z; exact .inr (.inl (.inr (.inr (.inl (by rw [ho]; simp))))))]
          exact e
        refine ⟨xi, yi, rfl, rfl, dx1, fs1, j2, by rw [ns_len j3]; omega, nx _ _ _ _ hq (R2.ob (L' := L.put a _) (oc' := .ins c ns (vs.set i (.v (.int (xi + yi))))) rfl rfl (fun _ _ => rfl) (by rw [ho]; simp) ?_ ?_ (fun x z _ => upd_ne z) hfree).1⟩
        · refine ⟨n1, by rw [List.length_set]; exact n2, ⟨C, dx1, _, k1, upd_same, hkey, fun j fv hj => ?_⟩, fun j j' ds es z1 z2 => j5 j j' ds es (own j ds z1) (own j' es z2)⟩
          by_cases e : i = j
          · subst e
            rw [List.getElem?_set_self (by omega)] at hj
            cases hj
            exact ⟨n', _, by rw [hput, List.getElem?_set_self (by rw [ns_len j3]; exact hlt)], .int _⟩
          · rw [List.getElem?_set_ne e] at hj
            obtain ⟨n2, v', q1, q2⟩ := j4 j fv hj
            exact ⟨n2, v', by rw [hput, List.getElem?_set_ne e]; exact q1, q2.go (fun x z => .inl z) ag fun ds z => upd_ne (na j ds (z ▸ hj))⟩
        · rintro x ⟨j, ds, z, rfl⟩
          exact ⟨_, ho, j, ds, own j ds z, rfl⟩
      | _ => exact hq.elim
    · exact hq.elim
variable {X : Cx} {e o : Expr} {pos tpos : Pos}
theorem z_augF (i : Nat) (hc : ∀ c ∈ cs, FldC K mg f c) (h : QE X (OA K mg w0 g0 Lk) false true o to fo) (he : QE X (OA K mg w0 g0 Lk) false true e te fe) (hK : X.K = K := by rfl) : QS X (OA K mg w0 g0 Lk) (.AugAssign (.Attribute o f tpos) .Add e pos) (sFldAug K to te rAdd f) (fAugF cs f i fo fe) := by
  subst hK
  exact ⟨ps_fldaug h.pe he.pe in_add, ss_augF hc h.sd he.sd⟩
end
end Pd

set_option maxHeartbeats 4000000
namespace Pd
open PySem PySem.Spec PyProof.Rows L2
theorem _root_.L2H.RoomH.units {k : Nat} {A : Around} (r : L2H.RoomH k A) : A.units + 64 < cLine := by have := r.un; omega
def toX {A : Amb} (g : Pg A) : PgX A := fun ds s Ψ _ => g ds s Ψ
section
variable {P : Program} {w : World} {K : Fg} {mg : Str → Option Value} {base : Heap} {k : Nat} {A : Amb}
theorem FnG.toX {f : Addr} {fd : FuncData} {ps : List Str} {np : Nat} {g : Pg A} (F : FnG P w K mg base CX0 k f fd ps (spOf A np g)) : FnG P w K mg base (L2N.CX P w) k f fd ps (spOfX mg A np (toX g)) :=
  ⟨fun vs H Q E ⟨W, s, ds, Ψ, _, h1, h2, h3, h4, h5, h6, _⟩ => F.len vs H Q E ⟨W, s, ds, Ψ, h1, h2, h3, h4, h5, h6⟩,
   fun Ar out s H ag us vs Q E hg hr e0 hb hv ⟨W, s1, ds, Ψ, _, h1, h2, h3, h4, h5, h6, _⟩ => codeAny_mono (F.run Ar out s H ag us vs Q E hg hr e0 hb hv ⟨W, s1, ds, Ψ, h1, h2, h3, h4, h5, h6⟩) fun r s' c => by
     unfold CR at c ⊢
     split at c
     · exact c
     · exact c
     · exact c.elim⟩
theorem CalM.toX {c m : Str} {np : Nat} {g : Pg A} (C : CalM P w K mg base A k c m np g) : CalMX P w K mg base A k c m np (Pd.toX g) := let ⟨a, b, d, e, h1, h2, h3, h4, h5⟩ := C.ex; ⟨a, b, d, e, h1, h2, h3, h4.toX, h5⟩
end
section
variable {X : Cx} {A : Amb} {sh : Bool} {e : Expr} {t : TE} {f : FE A} {K : Fg} {mg : Str → Option Value}
theorem q_low (h : QE X A true sh e t f) : QE X A false sh e t f := ⟨h.pe, fun W s0 H0 s σ H ρ Φ Q R hp q => h.sd W s0 H0 s σ H ρ Φ Q R hp fun d s' v H' h1 h2 h3 h4 => q d s' v H' h1 h2 h3 (by
  rcases h4 with r | ⟨e, l, a, xs, k1, k2, k3, k4, k5⟩
  · exact .inl (r.weak om_true)
  · exact .inr ⟨e, l, a, xs, k1, k2, k3, k4.weak om_true, k5⟩)⟩
theorem co_eqK {X : Cx} {A : Amb} {K : Fg} (hu : X.A.units + 64 < cLine) (hK : X.K = K := by rfl) : CO X A .Eq (rEqA K) dEq := hK ▸ co_eq hu
/-- x's class is not of a class ahead of y's -/
structure NfC (K : Fg) (mg : Str → Option Value) (x y : Str) : Prop where
  ok : PySem.W.notFirst K (cAd mg x) (.ref (cAd mg y)) = true
theorem nf_nil : ∀ o ∈ ([] : List (Str × Str)), PySem.W.notFirst K (cAd mg o.1) (.ref (cAd mg o.2)) = true := fun o h => by cases h
theorem nf_cons {x y : Str} {oks : List (Str × Str)} (h : NfC K mg x y) (r : ∀ o ∈ oks, PySem.W.notFirst K (cAd mg o.1) (.ref (cAd mg o.2)) = true) : ∀ o ∈ (x, y) :: oks, PySem.W.notFirst K (cAd mg o.1) (.ref (cAd mg o.2)) = true := fun o ho =>
  (List.mem_cons.mp ho).elim (fun e => e ▸ h.ok) (r o)
end
/-! loops whose state changes -/
theorem for_goI {S : Type} {l : List D} {g : FG} {b : FS S} {P : PEnds S} {ρ : List Sl} {s : S} {U : Type} (enc : U → List Sl) (st : U → S) (Inv : Nat → U → Prop) (u0 : U) (h0 : enc u0 = ρ) (hs : st u0 = s) (i0 : Inv 0 u0)
    (step : ∀ i d u, l[i]? = some d → Inv i u → g d (enc u) fun ρ' => b { P with nx := fun ρ s' => ∃ u', st u' = s' ∧ enc u' = ρ ∧ Inv (i + 1) u', ct := fun ρ s' => ∃ u', st u' = s' ∧ enc u' = ρ ∧ Inv (i + 1) u', bk := P.nx } ρ' (st u))
    (fin : ∀ u, Inv l.length u → P.nx (enc u) (st u)) : ForP l g b P ρ s := by
  have bump : ∀ i d, l[i]? = some d → i + 1 ≤ l.length := fun i d e => (List.getElem?_eq_some_iff.mp e).1
  refine ⟨fun i ρ s' => i ≤ l.length ∧ ∃ u, st u = s' ∧ enc u = ρ ∧ Inv i u, ⟨Nat.zero_le _, u0, hs, h0, i0⟩, ?_⟩
  rintro i ρ' s' ⟨hi, u, rfl, rfl, hI⟩
  cases e : l[i]? with
  | none =>
    have h1 : l.length ≤ i := List.getElem?_eq_none_iff.mp e
    obtain rfl : i = l.length := by omega
    exact fin u hI
  | some d =>
    have h2 := step i d u e hI
    have e1 : (fun ρ s' => ∃ u', st u' = s' ∧ enc u' = ρ ∧ Inv (i + 1) u') = fun ρ s' => i + 1 ≤ l.length ∧ ∃ u', st u' = s' ∧ enc u' = ρ ∧ Inv (i + 1) u' := by
      funext ρ s'
      exact propext ⟨fun h => ⟨bump i d e, h⟩, fun h => h.2⟩
    rw [e1] at h2
    exact h2
theorem for_goS {S : Type} {l : List D} {g : FG} {b : FS S} {P : PEnds S} {ρ : List Sl} {s : S} {T U : Type} (encT : T → D) (ts : List T) (e : l = ts.map encT) (enc : U → List Sl) (st : U → S) (Inv : List T → U → Prop) (u0 : U) (h0 : enc u0 = ρ) (hs : st u0 = s) (i0 : Inv [] u0)
    (step : ∀ pre t post u, ts = pre ++ t :: post → Inv pre u → g (encT t) (enc u) fun ρ' => b { P with nx := fun ρ s' => ∃ u', st u' = s' ∧ enc u' = ρ ∧ Inv (pre ++ [t]) u', ct := fun ρ s' => ∃ u', st u' = s' ∧ enc u' = ρ ∧ Inv (pre ++ [t]) u', bk := P.nx } ρ' (st u))
    (fin : ∀ u, Inv ts u → P.nx (enc u) (st u)) : ForP l g b P ρ s := by
  subst e
  refine for_goI enc st (fun i u => Inv (ts.take i) u) u0 h0 hs i0 ?_ ?_
  · intro i d u hd hI
    rw [List.getElem?_map] at hd
    cases e : ts[i]? with
    | none => rw [e] at hd; cases hd
    | some t =>
      rw [e] at hd
      cases hd
      have e2 : ts.take (i + 1) = ts.take i ++ [t] := by rw [List.take_add_one, e]; rfl
      rw [e2]
      refine step (ts.take i) t (ts.drop (i + 1)) u ?_ hI
      obtain ⟨h1, h2⟩ := List.getElem?_eq_some_iff.mp e
      rw [← h2, List.getElem_cons_drop, List.take_append_drop]
  · intro u hI
    rw [List.length_map, List.take_length] at hI
    exact fin u hI
/-- a comprehension whose state changes; no condition -/
theorem lc_mapS {S : Type} {l : List D} {g : FG} {fe : FE S} {ρ : List Sl} {s : S} {Φ : Mo → S → Prop} {T U : Type} (encT : T → D) (ts : List T) (e : l = ts.map encT) (hl : ts.length ≤ 16777216) (st : U → S) (acc : U → List D) (Inv : List T → U → Prop) (u0 : U) (h0 : acc u0 = []) (hs : st u0 = s) (i0 : Inv [] u0)
    (step : ∀ pre t post u, ts = pre ++ t :: post → Inv pre u → g (encT t) ρ fun ρ' => fe ρ' (st u) fun y s' => ∃ u', st u' = s' ∧ acc u' = acc u ++ [y] ∧ Inv (pre ++ [t]) u')
    (fin : ∀ u, Inv ts u → Φ (.lst (acc u)) (st u)) : LcP l g (fun _ s Φ => Φ true s) fe ρ s Φ := by
  subst e
  refine ⟨by rw [List.length_map]; exact hl, fun i ac s' => i ≤ ts.length ∧ ∃ u, st u = s' ∧ acc u = ac ∧ Inv (ts.take i) u, ⟨Nat.zero_le _, u0, hs, h0, i0⟩, ?_⟩
  rintro i ac s' ⟨hi, u, rfl, rfl, hI⟩
  rw [List.getElem?_map]
  cases e : ts[i]? with
  | none =>
    have h1 : ts.length ≤ i := List.getElem?_eq_none_iff.mp e
    rw [List.take_of_length_le h1] at hI
    exact fin u hI
  | some t =>
    have h1 : i + 1 ≤ ts.length := (List.getElem?_eq_some_iff.mp e).1
    have e2 : ts.take (i + 1) = ts.take i ++ [t] := by rw [List.take_add_one, e]; rfl
    have h2 := step (ts.take i) t (ts.drop (i + 1)) u (by
      obtain ⟨h1, h2⟩ := List.getElem?_eq_some_iff.mp e
      rw [← h2, List.getElem_cons_drop, List.take_append_drop]) hI
    rw [← e2] at h2
    show g (encT t) ρ _
    have e3 : (fun ρ' => (fun (_ : List Sl) (s : S) (Φ : Bool → S → Prop) => Φ true s) ρ' (st u) fun b s2 => Br b (fe ρ' s2 fun y s3 => i + 1 ≤ ts.length ∧ ∃ u', st u' = s3 ∧ acc u' = acc u ++ [y] ∧ Inv (ts.take (i + 1)) u') (i + 1 ≤ ts.length ∧ ∃ u', st u' = s2 ∧ acc u' = acc u ∧ Inv (ts.take (i + 1)) u')) = fun ρ' => fe ρ' (st u) fun y s' => ∃ u', st u' = s' ∧ acc u' = acc u ++ [y] ∧ Inv (ts.take (i + 1)) u' := by
      funext ρ'
      have e4 : (fun y s3 => i + 1 ≤ ts.length ∧ ∃ u', st u' = s3 ∧ acc u' = acc u ++ [y] ∧ Inv (ts.take (i + 1)) u') = fun y s3 => ∃ u', st u' = s3 ∧ acc u' = acc u ++ [y] ∧ Inv (ts.take (i + 1)) u' := by
        funext y s3
        exact propext ⟨fun h => h.2, fun h => ⟨h1, h⟩⟩
      show Br true _ _ = _
      rw [e4]
      exact propext ⟨fun h => h.t rfl, fun h => br_t rfl h⟩
    exact e3 ▸ h2
end Pd

set_option maxHeartbeats 4000000
/-! str of a list, a tuple, a dict -/
namespace Pd
open PySem PySem.Spec PyProof.Rows L2
def rStrG : List V → Hp → VK → Prop := fun xs H Q => ∃ a d, xs = [.ref a] ∧ Rs (fun _ => False) H d (.ref a) ∧ d.pok = true ∧ d.pg.showable = true ∧ d.pg.depth ≤ 60 ∧ d.pg.shown.length ≤ sizeLine ∧ Q (.str d.pg.shown) H
theorem call_strG {X : Cx} (hg : X.A.guards = some []) (hu : X.A.units + 64 < cLine) (S : SysB X.base) : CallR X (.type "str") rStrG := by
  intro pins s σ H xs us Q J rv h
  obtain ⟨a, d, rfl, r, h0, h1, h2, h3, q⟩ := h
  obtain ⟨u, rfl, rr⟩ := L2.Vals.one rv
  have e : u = Value.ref a := rr
  subst e
  obtain ⟨as, hr, hs⟩ := r.readsG J S h0 rfl
  exact str_of_reads hr h1 (fun _ => hs) hg (by omega) (fun _ _ e => e) (fun h' u tk hk => ⟨.str _, H, J.kept (t' := tk) hk, ⟨u, rfl⟩, q⟩) h3
def dStrG (ds : List D) (Φ : D → Prop) : Prop := match ds with
  | [.tup l] => RpG (.tup l) Φ
  | [.lst l] => RpG (.lst l) Φ
  | _ => False
section
variable {X : Cx} {A : Amb} {m m1 sh1 : Bool}
theorem sc_strG : SdC A m m1 sh1 rStrG dStrG := sdc_same fun ds vs H Φ Q W s σ ρ rv h q => by
  unfold dStrG at h
  split at h
  · obtain ⟨v, rfl, r⟩ := rv.one
    obtain ⟨h1, h2, h3, h4⟩ := h
    obtain ⟨a, b, c, e⟩ := shw_all _ h1
    obtain ⟨p, xs, rfl, _⟩ := r.tup
    exact ⟨p, _, rfl, r.low.weak (fun _ z => z.elim), a, b, by omega, by rw [line_eq]; omega, q _ _ h4 fun B => .str _⟩
  · obtain ⟨v, rfl, r⟩ := rv.one
    obtain ⟨h1, h2, h3, h4⟩ := h
    obtain ⟨a, b, c, e⟩ := shw_all _ h1
    obtain ⟨p, xs, rfl, _⟩ := r.lst
    exact ⟨p, _, rfl, r.low.weak (fun _ z => z.elim), a, b, by omega, by rw [line_eq]; omega, q _ _ h4 fun B => .str _⟩
  · exact h.elim
theorem nb_strG (hg : X.A.guards = some []) (hu : X.A.units + 64 < cLine) (S : SysB X.base) : NB X A m false true "str" (.type "str") rStrG dStrG := ⟨call_strG hg hu S, sc_strG, bt_str, by decide, by decide⟩
end
end Pd

set_option maxHeartbeats 4000000
/-! a[i], b[j] = (v, w) -/
namespace Pd
open PySem PySem.Spec PyProof.Rows L2
def fStI {S : Type} (i : Nat) (d : D) (fi : FE S) (k : List Sl → S → Prop) : List Sl → S → Prop := fun ρ s => match ρ[i]? with
  | some (.o (.lst l)) => fi ρ s fun q s2 => (match q with
    | .int x => SetP l.length x fun n => k (ρ.set i (.o (.lst (l.set n d)))) s2
    | _ => False)
  | _ => False
def fStore2 {S : Type} (i : Nat) (fi f1 : FE S) (j : Nat) (fj f2 : FE S) : FS S := fun P ρ s => f1 ρ s fun d s1 => f2 ρ s1 fun e s2 => fStI i d fi (fStI j e fj P.nx) ρ s2
section
variable {A : Amb} {m sh m2 sh2 : Bool} {te te2 ti tj : TE} {f f1 f2 fi fj : FE A} {K : Fg}
theorem st_store {W : Ot} {s0 s : A.S} {H0 H : Hp} {σ : Sg} {ρ : List Sl} {d : D} {v : V} {k : List Sl → A.S → Prop} {Q : L2.St → Hp → Prop} (i : Nat) (hi : SdE A m sh ti fi) (R : ER A W s0 H0 s σ H ρ) (r1 : Rs (om true A W s σ ρ) H d v) (hp : fStI i d fi k ρ s)
    (q : ∀ ρ' s' H', k ρ' s' → ER A W s0 H0 s' σ H' ρ' → Stp A s0 s' H0 H' → (∀ d v, Rs (om true A W s σ ρ) H d v → Rs (om true A W s' σ ρ') H' d v) → Q σ H') : gSub (tVar i) ti rSetL v σ H Q := by
  unfold fStI at hp
  split at hp
  · rename_i l e
    obtain ⟨a, h1, ⟨xs, h2, h3⟩, h4, h5, h6⟩ := R.own i _ e
    refine ⟨.ref a, h1, hi W s0 H0 s σ H ρ _ _ R hp fun k s2 w H2 hk R2 st r2 => ?_⟩
    obtain ⟨k1, k2⟩ := keep_at st (by rw [h2]; simp) h6
    cases k with
    | int j =>
      obtain rfl := r2.int
      dsimp only at hk
      obtain ⟨⟨n, en, hk⟩⟩ := hk
      have ag : ∀ ys, Agr (om true A W s2 σ ρ) H2 (upd H2 a (.lst ys)) := fun ys b o eb nb => by
        rw [upd_ne fun z => ?_]
        · exact eb
        · subst z; exact nb (.inr (.inr ⟨rfl, i, _, e, h1⟩))
      have R3 := R2.mut e h1 (m' := .lst (l.set n d)) (o := .lst (xs.set n v)) ⟨xs.set n v, upd_same, (RsL.set n (h3.stp st) (r1.stp st)).go (fun b z => .inl z) (ag _)⟩
      refine ⟨a, xs, j, n, rfl, rfl, k1.trans h2, by rw [h3.length]; exact en, q _ s2 _ hk R3 R3.stp fun d' v' r => ?_⟩
      refine (r.stp st).go (fun b z => .inl ?_) (ag _)
      rcases z with z | z | ⟨_, k, m, e1, e2⟩
      · exact .inl z
      · exact .inr (.inl z)
      · refine .inr (.inr ⟨rfl, ?_⟩)
        by_cases c : k = i
        · subst c
          exact ⟨k, _, e, e2⟩
        · rw [List.getElem?_set_ne (fun z => c z.symm)] at e1
          exact ⟨k, m, e1, e2⟩
    | _ => exact hk.elim
  · exact hp.elim
theorem ss_store2 (i j : Nat) (h1 : SdE A true false te f1) (h2 : SdE A true false te2 f2) (hi : SdE A m sh ti fi) (hj : SdE A m2 sh2 tj fj) : SdS A (tAsg (tTup (tCons te (tCons te2 tNil))) (gTup K 2 (gCons (gSub (tVar i) ti rSetL) (gCons (gSub (tVar j) tj rSetL) gNil)))) (fStore2 i fi f1 j fj f2) := fun W s0 H0 s σ H ρ P D R hp nx _ _ _ =>
  h1 W s0 H0 s σ H ρ _ _ R hp fun d s1 v H1 hq R1 st1 r1 => h2 W s0 H0 s1 σ H1 ρ _ _ R1 hq fun e s2 w H2 hq R2 st2 r2 => by
    refine ⟨by rw [line_eq]; show 2 ≤ _; decide, fun q hn => ?_⟩
    have R3 := R2.alloc hn (.tup [v, w])
    have st3 : Stp A s2 s2 H2 (upd H2 q (.tup [v, w])) := Stp.fresh hn
    refine ⟨q, [v, w], rfl, .of upd_same, rfl, v, [w], rfl, ?_⟩
    refine st_store i hi R3 ((r1.stp st2).rs.stp st3) hq fun ρ4 s4 H4 hk R4 _ keep => ?_
    refine ⟨w, [], rfl, ?_⟩
    refine st_store j hj R4 (keep _ _ (r2.rs.stp st3)) hk fun ρ5 s5 H5 hk R5 _ _ => ?_
    exact ⟨rfl, nx _ s5 _ _ hk R5⟩
end
section
variable {X : Cx} {A : Amb} {e1 e2 a b : Expr} {t1 t2 ta tb : TE} {f1 f2 fa fb : FE A} {x y : Str} {p1 p2 q1 q2 pos tp vp : Pos} {kt kv : Nat}
theorem z_store2 (i j : Nat) (hc : X.calm = true) (h1 : QE X A true false e1 t1 f1) (h2 : QE X A true false e2 t2 f2) (ha : QE X A false true a ta fa) (hb : QE X A false true b tb fb)
    (hN : X.N[i]? = some x := by rfl) (hv : Vis X.env.scope x := by first | exact Or.inl rfl | exact Or.inr (Or.inl rfl) | exact Or.inr (Or.inr rfl)) (hd : (x == ("__debug__" : Str)) = false := by decide) (hcd : (x == ("__classdict__" : Str)) = false := by decide)
    (hN2 : X.N[j]? = some y := by rfl) (hv2 : Vis X.env.scope y := by first | exact Or.inl rfl | exact Or.inr (Or.inl rfl) | exact Or.inr (Or.inr rfl)) (hd2 : (y == ("__debug__" : Str)) = false := by decide) (hcd2 : (y == ("__classdict__" : Str)) = false := by decide)
    (g1 : PG X (.Subscript (.Name x p1) a q1) (gSub (tVar i) ta rSetL)) (g2 : PG X (.Subscript (.Name y p2) b q2) (gSub (tVar j) tb rSetL))
    (he : starEach [e1, e2] X.env = (false, eval e1 X.env) :: starEach [e2] X.env := by rfl) (he2 : starEach [e2] X.env = (false, eval e2 X.env) :: starEach [] X.env := by rfl)
    (hg : (assignEach [.Subscript (.Name x p1) a q1, .Subscript (.Name y p2) b q2] X.env).map (·.2) = assign (.Subscript (.Name x p1) a q1) X.env :: (assignEach [.Subscript (.Name y p2) b q2] X.env).map (·.2) := by rfl)
    (hg2 : (assignEach [.Subscript (.Name y p2) b q2] X.env).map (·.2) = assign (.Subscript (.Name y p2) b q2) X.env :: (assignEach [] X.env).map (·.2) := by rfl)
    (hl : (assignEach [.Subscript (.Name x p1) a q1, .Subscript (.Name y p2) b q2] X.env).length = 2 := by rfl) (hst : (assignEach [.Subscript (.Name x p1) a q1, .Subscript (.Name y p2) b q2] X.env).findIdx? (·.1) = none := by rfl)
    (hs : swapsWithSole [.Tuple [.Subscript (.Name x p1) a q1, .Subscript (.Name y p2) b q2] kt tp] (.Tuple [e1, e2] kv vp) pos.line X.env = pure false := by rfl) (hw : swappedStores [.Tuple [.Subscript (.Name x p1) a q1, .Subscript (.Name y p2) b q2] kt tp] (.Tuple [e1, e2] kv vp) X.env = pure none := by rfl)
    (h0 : (assignEach [.Tuple [.Subscript (.Name x p1) a q1, .Subscript (.Name y p2) b q2] kt tp] X.env).map (·.2) = [assign (.Tuple [.Subscript (.Name x p1) a q1, .Subscript (.Name y p2) b q2] kt tp) X.env] := by rfl) :
    QS X A (.Assign [.Tuple [.Subscript (.Name x p1) a q1, .Subscript (.Name y p2) b q2] kt tp] (.Tuple [e1, e2] kv vp) pos) (tAsg (tTup (tCons t1 (tCons t2 tNil))) (gTup X.K 2 (gCons (gSub (tVar i) ta rSetL) (gCons (gSub (tVar j) tb rSetL) gNil)))) (fStore2 i fa f1 j fb f2) :=
  ⟨ps_asg (pe_tup (pa_cons h1.pe (pa_cons h2.pe pa_nil he2) he)) (pg_tup hc (pgs_cons g1 (pgs_cons g2 pgs_nil hg2) hg) hl hst) hs hw h0, ss_store2 i j h1.sd h2.sd ha.sd hb.sd⟩
end
end Pd

set_option maxHeartbeats 4000000
/-! lists that many hold: a part, an item set -/
namespace Pd
open PySem PySem.Spec PyProof.Rows L2
def fLsl (fl : FLp) (lo hi : FP BS) : FE BS := fun ρ s Φ => fl ρ s fun π s1 => lo ρ s1 fun l s2 => hi ρ s2 fun u s3 => s3 = s1 ∧ LgP s3 π fun _ _ ds => Φ (.lst (cutL ds l u)) s3
def fLset (fl : FLp) (fi fe : FE BS) : FS BS := fun P ρ s => fe ρ s fun d s1 => fl ρ s1 fun π s2 => fi ρ s2 fun k s3 => s3 = s2 ∧ match k with
  | .int j => LgP s3 π fun b l ds => SetP ds.length j fun n => P.nx ρ (.bag b (π.set l (ds.set n d)))
  | _ => False
section
variable {K : Fg} {mg : Str → Option Value} {w0 : Ad} {g0 : List (D × V)} {Lk : BS → Hp → Prop} {m sh m1 sh1 : Bool} {tl te ti : TE} {fl : FLp} {fe fi : FE BS} {tlo thi : TO} {flo fhi : FP BS}
theorem sd_lsl (hl : SdP3 (OA K mg w0 g0 Lk) tl fl adB) (h1 : SdP (OA K mg w0 g0 Lk) tlo flo) (h2 : SdP (OA K mg w0 g0 Lk) thi fhi) : SdE (OA K mg w0 g0 Lk) m sh (tSl (rSlX K) tl tlo thi) (fLsl fl flo fhi) := fun W s0 H0 s σ H ρ Φ Q R hp q =>
  hl.go W s0 H0 s σ H ρ _ _ R hp fun π s1 v H1 hp R1 st1 ev => h1 W s0 H0 s1 σ H1 ρ _ _ R1 hp fun l s2 H2 hx R2 st2 => h2 W s0 H0 s2 σ H2 ρ _ _ R2 hx fun u s3 H3 ⟨es, hq⟩ R3 st3 => by
    subst es
    subst ev
    obtain ⟨⟨b, L, ds, rfl, hg, h⟩⟩ := hq
    obtain ⟨xs, k1, k2, _⟩ := lp_at R3 hg
    rw [adB_bag]
    exact .inl ⟨_, xs, rfl, .of k1, fun p hp => q _ _ _ _ h (R3.alloc hp _) (((st1.trans st2).trans st3).trans (Stp.fresh hp)) (RV.newL R3 hp (k2.weak om_true).cut)⟩
theorem ss_lset (he : SdE (OA K mg w0 g0 Lk) true false te fe) (hl : SdP3 (OA K mg w0 g0 Lk) tl fl adB) (hi : SdE (OA K mg w0 g0 Lk) m1 sh1 ti fi) : SdS (OA K mg w0 g0 Lk) (tAsg te (gSub tl ti rSetL)) (fLset fl fi fe) := fun W s0 H0 s σ H ρ P D R hp nx _ _ _ =>
  he W s0 H0 s σ H ρ _ _ R hp fun d s1 v H1 hp1 R1 st1 r1 => hl.go W s0 H0 s1 σ H1 ρ _ _ R1 hp1 fun π s2 y H2 hp2 R2 st2 ev => hi W s0 H0 s2 σ H2 ρ _ _ R2 hp2 fun k s3 w H3 ⟨es, hq⟩ R3 st3 r3 => by
    subst es
    subst ev
    cases k with
    | int j =>
      obtain rfl := r3.int
      obtain ⟨⟨b, L, ds, rfl, hg, hs⟩⟩ := hq
      obtain ⟨xs, k1, k2, _⟩ := lp_at R3 hg
      obtain ⟨⟨n, en, hk⟩⟩ := hs
      rw [adB_bag]
      obtain ⟨R4, st4⟩ := lp_set (ds' := ds.set n d) (xs' := xs.set n v) R3 hg (RsL.set n k2 ((r1.stp st2).stp st3).rs)
      exact ⟨_, xs, j, n, rfl, rfl, k1, by rw [k2.length]; exact en, nx _ _ _ _ hk R4⟩
    | _ => exact hq.elim
end
section
variable {X : Cx} {K : Fg} {mg : Str → Option Value} {w0 : Ad} {g0 : List (D × V)} {Lk : BS → Hp → Prop} {m sh : Bool} {te tl ti : TE} {fe fi : FE BS} {fl : FLp} {tlo thi : TO} {flo fhi : FP BS} {e a b : Expr} {lo hi : Option Expr} {p p2 pos : Pos}
theorem q_lsl (hl : QLp X K mg w0 g0 Lk a tl fl) (h1 : QP X (OA K mg w0 g0 Lk) lo tlo flo) (h2 : QP X (OA K mg w0 g0 Lk) hi thi fhi) (hK : X.K = K := by rfl) : QE X (OA K mg w0 g0 Lk) m sh (.Subscript a (.Slice lo hi none p2) pos) (tSl (rSlX K) tl tlo thi) (fLsl fl flo fhi) := by
  subst hK
  exact ⟨pe_slice sl_x hl.pe h1.po h2.po, sd_lsl hl.sd h1.sd h2.sd⟩
theorem z_lset (he : QE X (OA K mg w0 g0 Lk) true false e te fe) (hl : QLp X K mg w0 g0 Lk a tl fl) (hi : QE X (OA K mg w0 g0 Lk) false true b ti fi)
    (hb : ∀ v, assign (.Subscript a b p2) X.env v = (do
      let ov ← holding [v] (eval a X.env)
      let iv ← holding [v, ov] (eval b X.env)
      standAt p2
      holding [v, ov, iv] (setItem ov iv v)
      release [v, ov, iv] []) := by intro _; rfl)
    (hs : swapsWithSole [.Subscript a b p2] e pos.line X.env = pure false := by rfl) (hw : swappedStores [.Subscript a b p2] e X.env = pure none := by rfl) (h1 : (assignEach [.Subscript a b p2] X.env).map (·.2) = [assign (.Subscript a b p2) X.env] := by rfl) :
    QS X (OA K mg w0 g0 Lk) (.Assign [.Subscript a b p2] e pos) (tAsg te (gSub tl ti rSetL)) (fLset fl fi fe) := ⟨ps_asg he.pe (pg_sub hl.pe hi.pe set_list hb) hs hw h1, ss_lset he.sd hl.sd hi.sd⟩
end
end Pd

set_option maxHeartbeats 4000000
/-! a, b = own.pop() -/
namespace Pd
open PySem PySem.Spec PyProof.Rows L2
structure PopL (l : List D) (Φ : D → List D → Prop) : Prop where
  ex : ∃ d, l.getLast? = some d ∧ Φ d l.dropLast
theorem popL_go {l : List D} {d : D} {Φ : D → List D → Prop} (q : Φ d l) : PopL (l ++ [d]) Φ := ⟨d, List.getLast?_concat, by rw [List.dropLast_concat]; exact q⟩
def fPopG {S : Type} (i : Nat) (g : FG) : FS S := fun P ρ s => match ρ[i]? with
  | some (.o (.lst l)) => PopL l fun d l' => g d (ρ.set i (.o (.lst l'))) fun ρ' => P.nx ρ' s
  | _ => False
section
variable {A : Amb} {K : Fg} {vs : List Nat} {tg : TG} {g : FG}
theorem RsL.dropLast {B : Ad} {H : Hp} : ∀ {l : List D} {xs : List V}, RsL B H l xs → RsL B H l.dropLast xs.dropLast
  | _, _, .nil => .nil
  | _, _, .cons _ .nil => .nil
  | _, _, .cons g (.cons g2 r) => .cons g (RsL.dropLast (.cons g2 r))
theorem ss_popG (i : Nat) (hg : SdG A vs tg g) : SdS A (tAsg (tBM0 K "list" rPop (tVar i)) tg) (fPopG i g) := fun W s0 H0 s σ H ρ P D R hp nx _ _ _ => by
  unfold fPopG at hp
  split at hp
  · rename_i l e
    obtain ⟨a, h1, ⟨xs, h2, h3⟩, h4, h5, h6⟩ := R.own i _ e
    obtain ⟨⟨d, hd, hq⟩⟩ := hp
    rw [List.getLast?_eq_getElem?] at hd
    obtain ⟨y, hy, ry⟩ := h3.get hd
    have ag : Agr (om true A W s σ ρ) H (upd H a (.lst xs.dropLast)) := fun b o eb nb => by
      rw [upd_ne fun z => ?_]
      · exact eb
      · subst z; exact nb (.inr (.inr ⟨rfl, i, _, e, h1⟩))
    have R2 := R.mut (m' := .lst l.dropLast) e h1 ⟨xs.dropLast, upd_same, h3.dropLast.go (fun b z => .inl z) ag⟩
    have r2 : Rs (om true A W s σ (ρ.set i (.o (.lst l.dropLast)))) (upd H a (.lst xs.dropLast)) d y := ry.go (fun b z => .inl (om_mut e b z)) ag
    refine ⟨.ref a, h1, .inl ⟨rfl, xs, .of h2⟩, a, xs, y, rfl, rfl, h2, by rw [h3.length]; exact hy, ?_⟩
    exact hg W s0 H0 s σ _ _ d y _ _ R2 r2 hq fun ρ' σ' h2 R2 _ _ _ => nx ρ' s σ' _ h2 R2
  · exact hp.elim
end
section
variable {X : Cx} {A : Amb} {vs : List Nat} {tgt : Expr} {tg : TG} {g : FG} {x : Str} {p p2 p3 pos : Pos}
theorem z_popG (i : Nat) (hg : QG X A vs tgt tg g) (hN : X.N[i]? = some x := by rfl) (hv : Vis X.env.scope x := by first | exact Or.inl rfl | exact Or.inr (Or.inl rfl) | exact Or.inr (Or.inr rfl)) (hd : (x == ("__debug__" : Str)) = false := by decide) (hcd : (x == ("__classdict__" : Str)) = false := by decide)
    (hs : swapsWithSole [tgt] (.Call (.Attribute (.Name x p) "pop" p2) [] [] p3) pos.line X.env = pure false := by rfl) (hw : swappedStores [tgt] (.Call (.Attribute (.Name x p) "pop" p2) [] [] p3) X.env = pure none := by rfl) (ht : (assignEach [tgt] X.env).map (·.2) = [assign tgt X.env] := by rfl)
    (hbase : attributeBase (.Name x p) "pop" X.env (eval (.Name x p) X.env) = eval (.Name x p) X.env := by rfl)
    (hline : (p2.endLine == p3.line) = true := by rfl) :
    QS X A (.Assign [tgt] (.Call (.Attribute (.Name x p) "pop" p2) [] [] p3) pos) (tAsg (tBM0 X.K "list" rPop (tVar i)) tg) (fPopG i g) :=
  ⟨ps_asg (pe_bm0 PySem.F.plainAttrs_list PySem.F.slot_list_pop PySem.F.type_list_pop mt_pop (pe_var hN hv hd hcd) hbase hline) hg.pg hs hw ht, ss_popG i hg.sd⟩
end
end Pd

set_option maxHeartbeats 4000000
/-! own lists lent to a def, behind which no object holds a list -/
namespace Pd
open PySem PySem.Spec PyProof.Rows L2
mutual
/-- no list, no dict within -/
def D.free : D → Bool
  | .non => true
  | .bl _ => true
  | .int _ => true
  | .str _ => true
  | .any _ => true
  | .tup l => freeL l
  | _ => false
def freeL : List D → Bool
  | [] => true
  | d :: l => d.free && freeL l
end
section
variable {R R' : Ad} {H : Hp}
mutual
theorem Rs.free (hR : ∀ a, R' a → R a ∨ ∀ xs, H a ≠ some (.tup xs)) : ∀ {d : D} {v : V}, d.free = true → Rs R H d v → Rs R' H d v
  | _, _, _, .non => .non
  | _, _, _, .bl b => .bl b
  | _, _, _, .int i => .int i
  | _, _, _, .str x => .str x
  | _, _, _, .any v => .any v
  | _, _, f, .tup h n r => .tup h (fun b => (hR _ b).elim n fun z => z _ h) (RsL.free hR (by simpa [D.free] using f) r)
  | _, _, f, .lst _ _ _ => by simp [D.free] at f
  | _, _, f, .dct _ _ _ _ => by simp [D.free] at f
  | _, _, f, .dtt _ _ _ _ => by simp [D.free] at f
  | _, _, f, .xdt _ _ _ => by simp [D.free] at f
theorem RsL.free (hR : ∀ a, R' a → R a ∨ ∀ xs, H a ≠ some (.tup xs)) : ∀ {l : List D} {xs : List V}, freeL l = true → RsL R H l xs → RsL R' H l xs
  | _, _, _, .nil => .nil
  | _, _, f, .cons h r => by
    have f2 := Bool.and_eq_true_iff.mp (show (D.free _ && freeL _) = true by simpa [freeL] using f)
    exact .cons (Rs.free hR f2.1 h) (RsL.free hR f2.2 r)
end
end
def FV.free : FV → Prop
  | .v d => d.free = true
  | .l _ => False
def OC.free : OC → Prop
  | .ins _ _ vs => ∀ fv ∈ vs, fv.free
  | .lst _ => False
/-- no object holds a list -/
def Bare : BS → Prop
  | .bag _ l => ∀ a oc, l.o a = some oc → oc.free
  | .scr _ _ _ => True
theorem FvOk.free {R R' : Ad} {H : Hp} {p : Addr} {fv : FV} {v : V} (hR : ∀ a, R' a → R a ∨ ∀ xs, H a ≠ some (.tup xs)) (f : fv.free) (h : FvOk R H p fv v) : FvOk R' H p fv v := by
  cases fv with
  | v d => exact Rs.free hR f h
  | l ds => exact f.elim
theorem OcOk.free {mg : Str → Option Value} {p : Nat → Addr} {R R' : Ad} {H : Hp} {a : Addr} {oc : OC} (hR : ∀ a, R' a → R a ∨ ∀ xs, H a ≠ some (.tup xs)) (f : oc.free) (h : OcOk mg p R H a oc) : OcOk mg p R' H a oc := by
  cases oc with
  | ins c ns vs =>
    obtain ⟨n1, n2, ⟨C, dx, fs, h1, h2, h3, h4⟩, h5⟩ := h
    refine ⟨n1, n2, ⟨C, dx, fs, h1, h2, h3, fun i fv hf => ?_⟩, h5⟩
    obtain ⟨n, v, k1, k2⟩ := h4 i fv hf
    exact ⟨n, v, k1, k2.free hR (f fv (List.mem_of_getElem? hf))⟩
  | lst l => exact f.elim
theorem bsI_bare {K : Fg} {M : Option (Str → Option Value)} {s : BS} {R R' : Ad} {H : Hp} (hR : ∀ a, R' a → R a ∨ ∀ xs, H a ≠ some (.tup xs)) (f : Bare s) (h : bsI K M s R H) : bsI K M s R' H := by
  cases s with
  | scr r x ns => cases r <;> exact h
  | bag b l =>
    obtain ⟨n, hO, cs, dg, mx, h1⟩ := h
    refine ⟨n, ?_, cs, dg, mx, h1⟩
    cases M with
    | none => exact hO
    | some mg => exact ⟨fun a oc k => (hO.ok a oc k).free hR (f a oc k), hO.nb, hO.nl, hO.pv, hO.dj⟩
/-- a call whose promise tells that no object holds a list at its end -/
def fCallN (g : Pg BS) (fa : FA BS) : FE BS := fun ρ s Φ => fa ρ s fun ds s1 => Sp g ds s1 fun r s2 => Bare s2 ∧ match r with
  | .d d => Φ d s2
  | .o (.lst l) => Φ (.lst l) s2
  | .o (.dk ks vs) => Φ (.dct ks vs) s2
  | .o (.dt ks vs) => Φ (.dtt ks vs) s2
section
variable {K : Fg} {mg : Str → Option Value} {np : Nat} {ta : TA} {fa : FA BS} {g : Pg BS} {sh : Bool}
theorem sd_callN (h : SdL (BM K (some mg)) false false np ta fa) : SdE (BM K (some mg)) false sh (tCall (spOf (BM K (some mg)) np g) [] E0 ta) (fCallN g fa) := fun W s0 H0 s σ H ρ Φ Q R hp q =>
  h W s0 H0 s σ H ρ _ _ R hp fun ds s1 vs H1 hg R1 st1 r1 hl => by
    have r1' : RsL (fun a => W.w a ∨ bsB s1 a) H1 ds (vs ++ []) := by
      rw [List.append_nil]
      refine r1.rs.weak fun a z => ?_
      rcases z with z | z
      · exact .inl z
      · exact .inr (.inl z)
    have i0 : bsI K (some mg) s1 (fun a => W.w a ∨ bsB s1 a) H1 := Amb.sub (A := BM K (some mg)) R1.amb fun a z => by
      rcases z with z | z
      · exact .inl z
      · exact .inr (.inl z)
    refine ⟨fun a => W.w a, s1, ds, _, fun a z => R1.wd a z, i0, r1', hl, hg.go, fun r s2 v H2 hr i2 st2 _ rk => ?_⟩
    have own : ∀ a, ownS σ ρ a → ∀ xs, H2 a ≠ some (.tup xs) := fun a z xs e => by
      obtain ⟨i, mo, e1, e2⟩ := z
      obtain ⟨b, k1, k2, k3, k4, k5⟩ := R1.own i mo e1
      rw [k1] at e2
      cases e2
      obtain ⟨k6, _⟩ := keep_at st2 k2.some k5
      rw [k6] at e
      cases mo <;> (obtain ⟨_, k7, _⟩ := k2; rw [k7] at e; cases e)
    have R2 := R1.go st2 (bsI_bare (R' := om true (BM K (some mg)) W s2 σ ρ) (fun a z => by
      rcases z with z | z | ⟨_, z⟩
      · exact .inl (.inl z)
      · exact .inl (.inr z)
      · exact .inr (own a z)) hr.1 i2)
    have ow : ∀ a, om false (BM K (some mg)) W s2 σ ρ a → W.w a ∨ bsB s2 a := fun a z => by
      rcases z with z | z | z
      · exact .inl z
      · exact .inr z
      · cases z.1
    replace hr := hr.2
    cases r with
    | d d => exact q d s2 v H2 hr R2 (st1.trans st2) (.inl (Rs.weak rk ow))
    | o mo =>
      obtain ⟨p, rfl, k1, k2, k3, k4, _⟩ := rk
      have np : ¬ om false (BM K (some mg)) W s2 σ ρ p := fun z => (ow p z).elim k2 k3
      have ow2 : ∀ a, om false (BM K (some mg)) W s2 σ ρ a → (W.w a ∨ a = p) ∨ bsB s2 a := fun a z => (ow a z).imp .inl id
      cases mo with
      | lst l => obtain ⟨xs, g1, g2⟩ := k4; exact q _ s2 _ H2 hr R2 (st1.trans st2) (.inl (.lst g1 np (g2.weak ow2)))
      | dk ks vs => obtain ⟨kvs, g1, g3, g2⟩ := k4; exact q _ s2 _ H2 hr R2 (st1.trans st2) (.inl (.dct g1 np g3 (g2.weak ow2)))
      | dt ks vs => obtain ⟨kvs, g1, g3, g2⟩ := k4; exact q _ s2 _ H2 hr R2 (st1.trans st2) (.inl (.dtt g1 np g3 (g2.weak ow2)))
end
section
variable {X : Cx} {K : Fg} {mg : Str → Option Value} {k np : Nat} {x : Str} {p pos : Pos} {e : Expr} {es : List Expr} {t : TA} {f : FA BS} {g : Pg BS} {sh : Bool}
theorem q_callN (C : Cal X.prog X.w X.K X.mg X.base (BM K (some mg)) k x np g) (hgd : X.A.guards = some []) (hr : Room k X.A) (ha : QL X (BM K (some mg)) false false np (e :: es) t f) (hg : Gl X x := by rfl) (hdb : (x == ("__debug__" : Str)) = false := by decide)
    (he : starEach (e :: es) X.env = (false, eval e X.env) :: starEach es X.env := by rfl) (hpl : (backTo pos (starEach es X.env)).any (·.1) = false := by rfl) : QE X (BM K (some mg)) false sh (.Call (.Name x p) (e :: es) [] pos) (tCall (spOf (BM K (some mg)) np g) [] E0 t) (fCallN g f) :=
  ⟨pe_calG (P := X.prog) C hgd hr ha.pa hg hdb he hpl, sd_callN ha.sd⟩
end
end Pd

set_option maxHeartbeats 4000000
/-! own lists that an expression may look at, walk, hand on: own again behind it -/
namespace Pd
open PySem PySem.Spec PyProof.Rows L2
def frzs (ρ : List Sl) : List Nat → List Sl
  | [] => ρ
  | i :: is => frzs (frz ρ i) is
theorem ER.frzs {A : Amb} {W : Ot} {s0 s : A.S} {H0 H : Hp} {σ : Sg} : ∀ (is : List Nat) {ρ : List Sl}, ER A W s0 H0 s σ H ρ → ER A W s0 H0 s σ H (Pd.frzs ρ is)
  | [], _, R => R
  | i :: is, _, R => ER.frzs is (R.frz i)
def fThE (is : List Nat) (f : FE BS) : FE BS := fun ρ s Φ => f (frzs ρ is) s fun d s' => Bare s' ∧ d.free = true ∧ Φ d s'
def fThT (is : List Nat) (f : FT BS) : FT BS := fun ρ s Φ => f (frzs ρ is) s fun b s' => Bare s' ∧ Φ b s'
def Mo.free : Mo → Prop
  | .lst l => freeL l = true
  | _ => False
def fThO (is : List Nat) (f : FO BS) : FO BS := fun ρ s Φ => f (frzs ρ is) s fun mo s' => Bare s' ∧ mo.free ∧ Φ mo s'
section
variable {K : Fg} {mg : Str → Option Value} {w0 : Ad} {g0 : List (D × V)} {Lk : BS → Hp → Prop} {W : Ot} {s0 s s' : BS} {H0 H H' : Hp} {σ : Sg} {ρ ρ2 : List Sl} {m sh : Bool} {t : TE} {tt : TT} {f : FE BS} {ft : FT BS} {fo : FO BS}
theorem own_lst (R : ER (OA K mg w0 g0 Lk) W s0 H0 s σ H ρ) (st : Stp (OA K mg w0 g0 Lk) s s' H H') (a : Addr) (z : ownS σ ρ a) (xs : List V) : H' a ≠ some (.tup xs) := fun e => by
  obtain ⟨i, mo, e1, e2⟩ := z
  obtain ⟨b, k1, k2, k3, k4, k5⟩ := R.own i mo e1
  rw [k1] at e2
  cases e2
  obtain ⟨k6, _⟩ := keep_at st k2.some k5
  rw [k6] at e
  cases mo <;> (obtain ⟨_, k7, _⟩ := k2; rw [k7] at e; cases e)
theorem om_thaw (R : ER (OA K mg w0 g0 Lk) W s0 H0 s σ H ρ) (st : Stp (OA K mg w0 g0 Lk) s s' H H') : ∀ a, om m (OA K mg w0 g0 Lk) W s' σ ρ a → om m (OA K mg w0 g0 Lk) W s' σ ρ2 a ∨ ∀ xs, H' a ≠ some (.tup xs) := fun a z => by
  rcases z with z | z | ⟨_, z⟩
  · exact .inl (.inl z)
  · exact .inl (.inr (.inl z))
  · exact .inr (own_lst R st a z)
theorem ER.thaw (R : ER (OA K mg w0 g0 Lk) W s0 H0 s σ H ρ) (st : Stp (OA K mg w0 g0 Lk) s s' H H') (hb : Bare s') (i : (OA K mg w0 g0 Lk).I s' (om true (OA K mg w0 g0 Lk) W s' σ ρ2) H') : ER (OA K mg w0 g0 Lk) W s0 H0 s' σ H' ρ :=
  R.go st (bsI_bare (om_thaw R st) hb i)
theorem sd_thE (is : List Nat) (h : SdE (OA K mg w0 g0 Lk) m sh t f) : SdE (OA K mg w0 g0 Lk) m sh t (fThE is f) := fun W s0 H0 s σ H ρ Φ Q R hp q =>
  h W s0 H0 s σ H _ _ _ (R.frzs is) hp fun d s' v H' ⟨hb, hf, hq⟩ R2 st2 r2 => by
    refine q d s' v H' hq (R.thaw st2 hb R2.amb) st2 ?_
    rcases r2 with r2 | r2
    · exact .inl (Rs.free (om_thaw R st2) hf r2)
    · obtain ⟨e, l, a, xs, k1, k2, k3, k4, k5⟩ := r2
      subst k1
      simp [D.free] at hf
theorem sd_thT (is : List Nat) (h : SdT (OA K mg w0 g0 Lk) tt ft) : SdT (OA K mg w0 g0 Lk) tt (fThT is ft) := fun W s0 H0 s σ H ρ Φ Q R hp q =>
  h W s0 H0 s σ H _ _ _ (R.frzs is) hp fun b s' H' ⟨hb, hq⟩ R2 st2 => q b s' H' hq (R.thaw st2 hb R2.amb) st2
theorem sd_thO (is : List Nat) (h : SdO (OA K mg w0 g0 Lk) t fo) : SdO (OA K mg w0 g0 Lk) t (fThO is fo) := fun W s0 H0 s σ H ρ Φ Q R hp q =>
  h W s0 H0 s σ H _ _ _ (R.frzs is) hp fun mo s' p H' ⟨hb, hf, hq⟩ R2 st2 hn hm hw hB => by
    have o2 : ∀ a, om true (OA K mg w0 g0 Lk) (W.add p) s' σ ρ a → om true (OA K mg w0 g0 Lk) (W.add p) s' σ (Pd.frzs ρ is) a ∨ ∀ xs, H' a ≠ some (.tup xs) := fun a z => by
      rcases z with z | z | ⟨_, z⟩
      · exact .inl (.inl z)
      · exact .inl (.inr (.inl z))
      · exact .inr (own_lst R st2 a z)
    cases mo with
    | lst l =>
      obtain ⟨xs, e, r⟩ := hm
      exact q _ s' p H' hq (R.goAdd st2 (bsI_bare o2 hb R2.amb) hn (by rw [e]; simp)) st2 hn ⟨xs, e, RsL.free o2 hf r⟩ hw hB
    | dk ks vs => exact hf.elim
    | dt ks vs => exact hf.elim
end
section
variable {X : Cx} {K : Fg} {mg : Str → Option Value} {w0 : Ad} {g0 : List (D × V)} {Lk : BS → Hp → Prop} {m sh : Bool} {e : Expr} {t : TE} {tt : TT} {f : FE BS} {ft : FT BS} {fo : FO BS}
theorem q_thE (is : List Nat) (h : QE X (OA K mg w0 g0 Lk) m sh e t f) : QE X (OA K mg w0 g0 Lk) m sh e t (fThE is f) := ⟨h.pe, sd_thE is h.sd⟩
theorem qt_thT (is : List Nat) (h : QT X (OA K mg w0 g0 Lk) e tt ft) : QT X (OA K mg w0 g0 Lk) e tt (fThT is ft) := ⟨h.pt, sd_thT is h.sd⟩
theorem z_setTh {y : Str} {py spos : Pos} {fo' : FO BS} (i : Nat) (is : List Nat) (h1 : QS X (OA K mg w0 g0 Lk) (.Assign [.Name y py] e spos) (tAsg t (gName i)) (fSetO i fo')) (h2 : QO X (OA K mg w0 g0 Lk) e t fo) : QS X (OA K mg w0 g0 Lk) (.Assign [.Name y py] e spos) (tAsg t (gName i)) (fSetO i (fThO is fo)) := ⟨h1.ps, ss_setO i (sd_thO is h2.sd)⟩
theorem qo_thO (is : List Nat) (h : QO X (OA K mg w0 g0 Lk) e t fo) : QO X (OA K mg w0 g0 Lk) e t (fThO is fo) := ⟨h.pe, sd_thO is h.sd⟩
end
section
variable {X : Cx} {A : Amb} {e1 e2 a b : Expr} {t1 t2 ta tb : TE} {f1 f2 fa fb : FE A} {x y : Str} {p1 p2 q1 q2 pos tp vp : Pos} {kt kv : Nat}
/-- a[i], b[j] = (v, w): as z_store2, the targets' parts given -/
theorem z_store2b (i j : Nat) (hc : X.calm = true) (h1 : QE X A true false e1 t1 f1) (h2 : QE X A true false e2 t2 f2) (ha : QE X A false true a ta fa) (hb : QE X A false true b tb fb)
    (hN : X.N[i]? = some x := by rfl) (hv : Vis X.env.scope x := by first | exact Or.inl rfl | exact Or.inr (Or.inl rfl) | exact Or.inr (Or.inr rfl)) (hd : (x == ("__debug__" : Str)) = false := by decide) (hcd : (x == ("__classdict__" : Str)) = false := by decide)
    (hN2 : X.N[j]? = some y := by rfl) (hv2 : Vis X.env.scope y := by first | exact Or.inl rfl | exact Or.inr (Or.inl rfl) | exact Or.inr (Or.inr rfl)) (hd2 : (y == ("__debug__" : Str)) = false := by decide) (hcd2 : (y == ("__classdict__" : Str)) = false := by decide)
    (hb1 : ∀ v, assign (.Subscript (.Name x p1) a q1) X.env v = (do
      let ov ← holding [v] (eval (.Name x p1) X.env)
      let iv ← holding [v, ov] (eval a X.env)
      standAt q1
      holding [v, ov, iv] (setItem ov iv v)
      release [v, ov, iv] []) := by intro _; rfl)
    (hb2 : ∀ v, assign (.Subscript (.Name y p2) b q2) X.env v = (do
      let ov ← holding [v] (eval (.Name y p2) X.env)
      let iv ← holding [v, ov] (eval b X.env)
      standAt q2
      holding [v, ov, iv] (setItem ov iv v)
      release [v, ov, iv] []) := by intro _; rfl)
    (he : starEach [e1, e2] X.env = (false, eval e1 X.env) :: starEach [e2] X.env := by rfl) (he2 : starEach [e2] X.env = (false, eval e2 X.env) :: starEach [] X.env := by rfl)
    (hg : (assignEach [.Subscript (.Name x p1) a q1, .Subscript (.Name y p2) b q2] X.env).map (·.2) = assign (.Subscript (.Name x p1) a q1) X.env :: (assignEach [.Subscript (.Name y p2) b q2] X.env).map (·.2) := by rfl)
    (hg2 : (assignEach [.Subscript (.Name y p2) b q2] X.env).map (·.2) = assign (.Subscript (.Name y p2) b q2) X.env :: (assignEach [] X.env).map (·.2) := by rfl)
    (hl : (assignEach [.Subscript (.Name x p1) a q1, .Subscript (.Name y p2) b q2] X.env).length = 2 := by rfl) (hst : (assignEach [.Subscript (.Name x p1) a q1, .Subscript (.Name y p2) b q2] X.env).findIdx? (·.1) = none := by rfl)
    (hs : swapsWithSole [.Tuple [.Subscript (.Name x p1) a q1, .Subscript (.Name y p2) b q2] kt tp] (.Tuple [e1, e2] kv vp) pos.line X.env = pure false := by rfl) (hw : swappedStores [.Tuple [.Subscript (.Name x p1) a q1, .Subscript (.Name y p2) b q2] kt tp] (.Tuple [e1, e2] kv vp) X.env = pure none := by rfl)
    (h0 : (assignEach [.Tuple [.Subscript (.Name x p1) a q1, .Subscript (.Name y p2) b q2] kt tp] X.env).map (·.2) = [assign (.Tuple [.Subscript (.Name x p1) a q1, .Subscript (.Name y p2) b q2] kt tp) X.env] := by rfl) :
    QS X A (.Assign [.Tuple [.Subscript (.Name x p1) a q1, .Subscript (.Name y p2) b q2] kt tp] (.Tuple [e1, e2] kv vp) pos) (tAsg (tTup (tCons t1 (tCons t2 tNil))) (gTup X.K 2 (gCons (gSub (tVar i) ta rSetL) (gCons (gSub (tVar j) tb rSetL) gNil)))) (fStore2 i fa f1 j fb f2) :=
  z_store2 i j hc h1 h2 ha hb hN hv hd hcd hN2 hv2 hd2 hcd2 (pg_sub (pe_var hN hv hd hcd) ha.pe set_list hb1) (pg_sub (pe_var hN2 hv2 hd2 hcd2) hb.pe set_list hb2) he he2 hg hg2 hl hst hs hw h0
end
end Pd

set_option maxHeartbeats 4000000
/-! l == [], l != [] for a list of any things -/
namespace Pd
open PySem PySem.Spec PyProof.Rows L2
def rEqN (neg : Bool) : R2 := fun x y H Q => ∃ a b xs, x = .ref a ∧ y = .ref b ∧ H a = some (.lst xs) ∧ H b = some (.lst []) ∧ Q (.bl (xs.isEmpty != neg)) H
section
variable {X : Cx}
theorem nil_lists {pins : List (Addr × Obj)} {σ : L2.St} {H : Hp} {s : Shared} {a b : Addr} {xs : List V} (I : Inv X pins σ H s) (ea : H a = some (.lst xs)) (eb : H b = some (.lst [])) : ∃ its its2 : Array Value, s.heap.IsList a its ∧ s.heap.IsList b its2 ∧ its2.size = 0 ∧ (its.size = 0 ↔ xs.isEmpty = true) := by
  obtain ⟨_, its, n, rv, hl, ho⟩ := I.lstM ea
  obtain ⟨_, its2, n2, rv2, hl2, ho2⟩ := I.lstM eb
  refine ⟨_, _, ⟨_, ho, rfl, n, rfl⟩, ⟨_, ho2, rfl, n2, rfl⟩, ?_, ?_⟩
  · have : its2.length = 0 := hl2.symm
    simpa using this
  · cases xs with
    | nil => simp at hl; simp [hl]
    | cons x xs =>
      have hl' : xs.length + 1 = its.length := hl
      exact ⟨fun h => by simp at h; rw [h] at hl'; simp at hl', fun h => by cases h⟩
theorem op_eqN (hu : X.A.units < cLine) : OpR X (compareOp .Eq) (rEqN false) := by
  intro pins s σ H x y v u Q I rx ry h
  obtain ⟨a, b, xs, rfl, rfl, ea, eb, q⟩ := h
  obtain rfl : v = Value.ref a := rx
  obtain rfl : u = Value.ref b := ry
  obtain ⟨its, its2, hl, hb, h2, h1⟩ := nil_lists I ea eb
  by_cases c : its.size = 0
  · have e := h1.mp c
    refine PySem.SeqAt.eq_listAt (e := fun _ => true) hl hb (by omega) hu (fun j j1 _ => by omega) (fin_bl I q ?_)
    rw [c, e]
    rfl
  · have e : xs.isEmpty = false := by cases z : xs.isEmpty with
      | false => rfl
      | true => exact (c (h1.mpr z)).elim
    refine PySem.SeqAt.eq_list_lengthsAt hl hb (by simp; omega) hu (fin_bl I q ?_)
    rw [e]
    rfl
theorem op_neN (hu : X.A.units < cLine) : OpR X (compareOp .NotEq) (rEqN true) := by
  intro pins s σ H x y v u Q I rx ry h
  obtain ⟨a, b, xs, rfl, rfl, ea, eb, q⟩ := h
  obtain rfl : v = Value.ref a := rx
  obtain rfl : u = Value.ref b := ry
  obtain ⟨its, its2, hl, hb, h2, h1⟩ := nil_lists I ea eb
  by_cases c : its.size = 0
  · have e := h1.mp c
    refine PySem.SeqAt.RcNeAt.lists (e := fun _ => true) hl hb (by omega) hu (fun j j1 _ => by omega) _ _ _ _ (fin_bl I q ?_)
    rw [c, e]
    rfl
  · have e : xs.isEmpty = false := by cases z : xs.isEmpty with
      | false => rfl
      | true => exact (c (h1.mpr z)).elim
    refine PySem.SeqAt.RcNeAt.lists_lengths hl hb (by simp; omega) hu _ _ _ _ (fin_bl I q ?_)
    rw [e]
    rfl
end
def dEqN (neg : Bool) (x y : D) (Φ : D → Prop) : Prop := match x, y with
  | .lst l, .lst [] => Φ (.bl (l.isEmpty != neg))
  | _, _ => False
section
variable {A : Amb} {m m1 m2 sh1 sh2 : Bool}
theorem rsl_empty {B : Ad} {H : Hp} {l : List D} {xs : List V} (h : RsL B H l xs) : xs.isEmpty = l.isEmpty := by cases h <;> rfl
theorem sdr_eqN (neg : Bool) : SdR A m m1 sh1 m2 sh2 (rEqN neg) (dEqN neg) := sdr_same fun x y v w H Φ Q W s σ ρ rx ry h q => by
  unfold dEqN at h
  split at h
  · have r1 := rx.low
    have r2 := ry.low
    cases r1 with
    | lst g1 n1 r1 =>
      cases r2 with
      | lst g2 n2 r2 =>
        cases r2
        refine ⟨_, _, _, rfl, rfl, g1, g2, q _ _ ?_ fun B => .bl _⟩
        rw [rsl_empty r1]
        exact h
  · exact h.elim
theorem co_eqN {X : Cx} (hu : X.A.units < cLine) : CO X A .Eq (rEqN false) (dEqN false) := ⟨op_eqN hu, fun m => sdr_eqN false⟩
theorem co_neN {X : Cx} (hu : X.A.units < cLine) : CO X A .NotEq (rEqN true) (dEqN true) := ⟨op_neN hu, fun m => sdr_eqN true⟩
end
/-! the bag, told that there are no objects yet -/
def fRetBag0 (f : FX BS) : FS BS := fun P ρ s => f ρ s fun ds s1 => (∃ r a ns, s1 = .scr r a ns) ∧ ∃ (cs : List Int) (dg mx : Int), ds = [.o (.lst (cs.map D.int)), .v (.int dg), .v (.int mx)] ∧ (∀ c ∈ cs, (0 : Int) ≤ c) ∧ 0 ≤ dg ∧ 0 ≤ mx ∧ mx < 2147483647 ∧ ∀ b l, (∀ a, l.o a = none) → P.rt (.d (.any (.ref b))) (.bag b l)
def sp_bag0 : Pg BS := fun ds s Ψ => ∃ r a ns, ds = [.any (.ref a)] ∧ s = .scr r a ns ∧ ns.length ≤ 63 ∧ ∀ b l, (∀ a, l.o a = none) → Ψ (.d (.any (.ref b))) (.bag b l)
section
variable {K : Fg} {M : Option (Str → Option Value)}
theorem ss_retBag0 {t : TA} {f : FX BS} (h : SdX (BM K M) 3 t f) : SdS (BM K M) (tRet (tLst t)) (fRetBag0 f) := fun W s0 H0 s σ H ρ P D R hp _ _ _ rt => by
  refine h W s0 H0 s σ H ρ _ _ R hp fun l s1 vs H1 ps hq R1 st1 rx nd hf hl => ?_
  obtain ⟨⟨r, a, ns, rfl⟩, cs, dg, mx, rfl, c1, c2, c3, c4, hrt⟩ := hq
  have e3 : vs.length = 3 := by rw [rx.len]; rfl
  refine ⟨by rw [e3, line_eq]; omega, fun b hb => ?_⟩
  cases rx with
  | @o ps' mo p l' vs2 hm rx =>
    cases rx with
    | v r1 rx =>
      cases rx with
      | v r2 rx =>
        cases rx with
        | nil =>
          cases r1
          cases r2
          obtain ⟨xs, e1, e2⟩ := hm
          obtain rfl := ints_of e2
          obtain ⟨pn, pw, pb⟩ := hf p (List.mem_singleton.mpr rfl)
          have bp : b ≠ p := fun z => by
            subst z
            rw [hb] at e1
            cases e1
          have hb0 : H0 b = none := R.fresh0 (none_back st1 hb)
          have hp0 : H0 p = none := R.fresh0 pn
          have sg := R1.stp
          have st2 : Stp (BM K M) s0 (BS.bag b ⟨p, fun _ => none, fun _ _ => 0⟩) H0 (upd H1 b (.lst [.ref p, .int dg, .int mx])) := {
            agr := fun x u e n => by
              have k := sg.agr x u e n
              rw [upd_ne (ne_of_none k hb)]
              exact k
            new := fun x z => by
              rcases z with rfl | rfl | z | ⟨_, _, z, _⟩
              · exact .inr hb0
              · exact .inr hp0
              · exact (z rfl).elim
              · cases z
            dom := fun x e => by
              by_cases z : x = b
              · subst z; rw [upd_same]; simp
              · rw [upd_ne z]; exact sg.dom x e }
          have oi : ∀ R H, OI M b ⟨p, fun _ => none, fun _ _ => 0⟩ R H := fun R H => by
            cases M with
            | none => exact fun _ => rfl
            | some mg => exact ⟨fun _ _ z => (by cases z), rfl, rfl, fun _ _ ⟨_, z, _⟩ => (by cases z), fun _ _ _ ⟨_, z, _⟩ => (by cases z)⟩
          refine rt _ _ _ _ (hrt b ⟨p, fun _ => none, fun _ _ => 0⟩ fun _ => rfl) ⟨bp, oi _ _, cs, dg, mx, upd_same, ?_, c1, c2, c3, c4⟩ st2 (fun a z => ?_) (.any _)
          · rw [upd_ne bp.symm]; exact e1
          · by_cases z2 : a = b
            · subst z2; rw [upd_same]; simp
            · rw [upd_ne z2]
              exact R1.wd a ((adds_w _ _ _).mpr (.inl z))
end
section
variable {X : Cx} {p pos : Pos}
theorem z_retBag0 {M : Option (Str → Option Value)} {es : List Expr} {t : TA} {f : FX BS} (h : QX X (BM X.K M) 3 es t f) : QS X (BM X.K M) (.Return (some (.List es p)) pos) (tRet (tLst t)) (fRetBag0 f) := ⟨ps_ret (pe_lst h.pa), ss_retBag0 h.sd⟩
end
end Pd

set_option maxHeartbeats 4000000
namespace Pd
open PySem PySem.Spec PyProof.Rows L2
def topS (i : Nat) : Stmt := PySem.Challenge.pw_marksought_k33_whole_spans_go_along.main.body.getD i (.Pass ⟨0, 0, 0, 0⟩)
structure Tx (K : Fg) (mg : Str → Option Value) : Prop where
  abs : mg "abs" = none
  all : mg "all" = none
  bool : mg "bool" = none
  dict : mg "dict" = none
  int : mg "int" = none
  isinstance : mg "isinstance" = none
  len : mg "len" = none
  list : mg "list" = none
  max : mg "max" = none
  min : mg "min" = none
  range : mg "range" = none
  str : mg "str" = none
  tuple : mg "tuple" = none
  zip : mg "zip" = none
  c_LIMIT : ∃ t, mg "LIMIT" = some (.int 1000000000000 t)
  xn_Apart : ExN K mg "Apart"
  xt_Apart_Apart : HnT K mg "Apart" "Apart" true
  xt_NoPlace_NoPlace : HnT K mg "NoPlace" "NoPlace" true
  xt_BadSpan_BadSpan : HnT K mg "BadSpan" "BadSpan" true
  xt_NoPlace_BadSpan : HnT K mg "NoPlace" "BadSpan" false
  xv_BadSpan : ExV K mg "BadSpan" "value"
  xv_NoPlace : ExV K mg "NoPlace" "value"
  xl_Span : ∃ v, ClsV mg "Span" v
  xl_Apart : ∃ v, ClsV mg "Apart" v
  xl_NoPlace : ∃ v, ClsV mg "NoPlace" v
  xl_BadSpan : ∃ v, ClsV mg "BadSpan" v
  xf_NoPlace_value : FdT K mg "NoPlace" "value"
  fc_Span_pair : FldC K mg "pair" "Span"
  fn_Span___getitem__ : FnC K mg "__getitem__" "Span"
  sf_Span : SfC K mg "Span"
  io_Span_Span : IoT K mg "Span" "Span" true
  nm_Span : NmT K mg ("Span", none)
  nf_Span_Span : NfC K mg "Span" "Span"
section
variable {P : Program} {w : World} {K : Fg} {mg : Str → Option Value} {base : Heap}
local macro_rules | `(tactic| walk_at "pa") => `(tactic| first | with_reducible rfl | assumption | omega | decide | (with_reducible refine wide_mul (a := 40) (b := 40) ?_ ?_ ?_ ?_ ?_ <;> first | omega | decide) | rfl | (simp only [List.length_map, List.length_cons, List.length_nil, List.length_append, List.length_reverse, rangeD_len, enumD_len, List.length_set, List.length_replicate] <;> omega) | (simp; done))
local macro_rules | `(tactic| walk_at "pn") => `(tactic| (try dsimp only [List.set_cons_zero, List.set_cons_succ, setS]))
local macro_rules | `(tactic| walk_at "p1") => `(tactic| first
  | (intro _; walk_at "pn")
  | (refine draw_go (by walk_at "pa") (by walk_at "pa") ?_; walk_at "pn")
  | (refine pick_on ?_; walk_at "pn")
  | (refine pick_ints rfl (by simp) (by simp) ?_; simp only [intsOf, List.mem_cons, List.not_mem_nil, or_false]; walk_at "pn")
  | (refine br_dt (by walk_at "pa") ?_; walk_at "pn")
  | (refine br_df (by walk_at "pa") ?_; walk_at "pn")
  | (refine br_ndt (by walk_at "pa") ?_; walk_at "pn")
  | (refine br_ndf (by walk_at "pa") ?_; walk_at "pn")
  | (refine br_t rfl ?_; walk_at "pn")
  | (refine br_f rfl ?_; walk_at "pn")
  | (refine br_b ?_ ?_ <;> intro _ <;> walk_at "pn")
  | (refine br_n ?_ ?_ <;> intro _ <;> walk_at "pn")
  | (refine And.intro (by walk_at "pa") ?_; walk_at "pn"))
local macro_rules | `(tactic| walk_at "pd") => `(tactic| repeat' (walk_at "p1"))
local macro_rules | `(tactic| walk_at "ps") => `(tactic| (refine Sp.mk ?_; (repeat apply Exists.intro); (repeat (first | apply And.intro rfl | apply And.intro (by walk_at "pa"))); walk_at "pn"))
local macro_rules | `(tactic| walk_at "wh") => `(tactic| (conv => whnf))
local macro_rules | `(tactic| walk_at "mm") => `(tactic| first
  | exact .head _
  | exact .tail _ (.head _)
  | exact .tail _ (.tail _ (.head _))
  | exact .tail _ (.tail _ (.tail _ (.head _)))
  | exact .tail _ (.tail _ (.tail _ (.tail _ (.head _))))
  | exact .tail _ (.tail _ (.tail _ (.tail _ (.tail _ (.head _))))))
local macro_rules | `(tactic| walk_at "z1") => `(tactic| first
  | (walk_at "p1")
  | (walk_at "wh"; walk_at "p1"))
local macro_rules | `(tactic| walk_at "zz") => `(tactic| repeat' (walk_at "z1"))
local macro_rules | `(tactic| walk_at "t") => `(tactic| (try walk_at "wh"; refine br_t rfl ?_; try walk_at "wh"))
local macro_rules | `(tactic| walk_at "f") => `(tactic| (try walk_at "wh"; refine br_f rfl ?_; try walk_at "wh"))
local macro_rules | `(tactic| walk_at "g1") => `(tactic| first
  | refine br_t rfl ?_
  | refine br_f rfl ?_
  | refine And.intro trivial ?_
  | refine br_dt (by walk_at "pa") ?_
  | refine br_df (by walk_at "pa") ?_
  | refine br_ndt (by walk_at "pa") ?_
  | refine br_ndf (by walk_at "pa") ?_
  | refine And.intro (by walk_at "pa") ?_
  | refine Exists.intro true (And.intro (Or.inl (And.intro (by walk_at "mm") rfl)) ?_)
  | refine Exists.intro false (And.intro (Or.inr (And.intro (by walk_at "mm") rfl)) ?_)
  | refine RpG.mk (by decide +kernel) (by decide +kernel) (by decide +kernel) ?_)
local macro_rules | `(tactic| walk_at "g2") => `(tactic| repeat (first
  | walk_at "g1"
  | (walk_at "wh"; walk_at "g1")))
local macro_rules | `(tactic| walk_at "go") => `(tactic| (walk_at "g2"; try walk_at "wh"))
local macro_rules | `(tactic| walk_at "d1") => `(tactic| first
  | walk_at "g1"
  | (refine draw_go (by walk_at "pa") (by walk_at "pa") ?_; intro _ _ _)
  | (refine pick_on ?_; intro _)
  | (refine pick_ints rfl (by simp) (by simp) ?_; simp only [intsOf, List.mem_cons, List.not_mem_nil, or_false]; intro _ _))
local macro_rules | `(tactic| walk_at "d2") => `(tactic| repeat (first
  | walk_at "d1"
  | (walk_at "wh"; walk_at "d1")))
local macro_rules | `(tactic| walk_at "gd") => `(tactic| (walk_at "d2"; try walk_at "wh"))
local macro_rules | `(tactic| walk_at "fq") => `(tactic| first
  | assumption
  | (rw [decide_eq_true rfl]; assumption)
  | (simp only [decide_true, Bool.not_true, Bool.not_false]; assumption))
abbrev prD (p q : Int) : D := .tup [.int p, .int q]
/-- what was there stays -/
def Ext (l l' : LO) : Prop := ∀ a oc, l.o a = some oc → l'.o a = some oc
theorem Ext.refl {l : LO} : Ext l l := fun _ _ h => h
theorem Ext.trans {l l1 l2 : LO} (a : Ext l l1) (b : Ext l1 l2) : Ext l l2 := fun x oc h => b x oc (a x oc h)
theorem Ext.put {l : LO} {a : Addr} {oc : OC} (h : l.o a = none) : Ext l (l.put a oc) := fun x o e => by
  show oset l.o a oc x = _
  rw [oset_ne fun z => by subst z; rw [h] at e; cases e]
  exact e
theorem oput_at {l : LO} {a : Addr} {oc : OC} : (l.put a oc).o a = some oc := oset_same
theorem put_put {l : LO} {a : Addr} {oc oc' : OC} : (l.put a oc).put a oc' = l.put a oc' := by
  show LO.mk _ (oset (oset l.o a oc) a oc') _ = _
  rw [oset_oset]
  rfl
local macro_rules | `(tactic| walk_at "mm") => `(tactic| first | exact List.Mem.head _ | (apply List.Mem.tail; walk_at "mm"))
local macro_rules | `(tactic| walk_at "pb") => `(tactic| first | assumption | omega | decide)
local macro_rules | `(tactic| walk_at "ist") => `(tactic| first | (refine Or.inl (And.intro ?_ rfl); walk_at "mm") | (refine Or.inr (And.intro ?_ ?_); (focus (walk_at "mm")); walk_at "ist") | exact rfl)
local macro_rules | `(tactic| walk_at "ob") => `(tactic| (apply ob_go; (focus (first | assumption | exact oput_at)); (focus (walk_at "mm"))))
local macro_rules | `(tactic| walk_at "an") => `(tactic| (refine And.intro ?_ ?_; (focus (first | exact trivial | exact rfl | (exact And.intro rfl (by decide)) | (walk_at "pa"; done)))))
local macro_rules | `(tactic| walk_at "ex") => `(tactic| first
  | (refine Exists.intro true (And.intro ?_ ?_); (focus (walk_at "ist")))
  | (refine Exists.intro false (And.intro ?_ ?_); (focus (walk_at "ist"))))
local macro_rules | `(tactic| walk_at "q1") => `(tactic| first
  | refine br_t rfl ?_
  | refine br_f rfl ?_
  | (refine br_dt ?_ ?_; (focus (walk_at "pb")))
  | (refine br_df ?_ ?_; (focus (walk_at "pb")))
  | (refine br_ndt ?_ ?_; (focus (walk_at "pb")))
  | (refine br_ndf ?_ ?_; (focus (walk_at "pb")))
  | (walk_at "ob"; try walk_at "an")
  | (apply RowP.mk; apply Exists.intro; apply And.intro; (focus (walk_at "mm")))
  | walk_at "an"
  | walk_at "ex"
  | (refine RpG.mk ?_ ?_ ?_ ?_; (focus decide +kernel); (focus decide +kernel); (focus decide +kernel)))
local macro_rules | `(tactic| walk_at "oo") => `(tactic| (walk_at "pn"; (repeat ((try walk_at "wh"); walk_at "q1")); (try walk_at "wh"); walk_at "pn"))
local macro_rules | `(tactic| walk_at "q2") => `(tactic| first
  | walk_at "q1"
  | (refine draw_go ?_ ?_ ?_; (focus (walk_at "pb")); (focus (walk_at "pb")); intro _ _ _; walk_at "pn")
  | (refine pick_on ?_; intro _; walk_at "pn")
  | (refine pick_ints rfl ?_ ?_ ?_; (focus (simp; done)); (focus (simp; done)); simp only [intsOf, List.mem_cons, List.not_mem_nil, or_false]; intro _ _; walk_at "pn"))
local macro_rules | `(tactic| walk_at "od") => `(tactic| (walk_at "pn"; (repeat ((try walk_at "wh"); walk_at "q2")); (try walk_at "wh"); walk_at "pn"))
local macro_rules | `(tactic| walk_at "q3") => `(tactic| first
  | walk_at "q2"
  | (refine br_b (fun _ => ?_) (fun _ => ?_) <;> walk_at "pn"))
local macro_rules | `(tactic| walk_at "bb") => `(tactic| repeat' ((try walk_at "wh"); walk_at "q3"))
local macro_rules | `(tactic| walk_at "hx") => `(tactic| (refine Exists.intro true (And.intro ?_ (And.intro (fun _ _ => ?_) fun h => by cases h)); (focus (walk_at "mm"))))
local macro_rules | `(tactic| walk_at "hn") => `(tactic| (refine Exists.intro false (And.intro ?_ (And.intro (fun h => by cases h) fun _ => ?_)); (focus (walk_at "mm"))))
/-- values that _law_same goes through: depth n -/
def smO : Nat → D → Bool
  | _, .non => true
  | _, .bl _ => true
  | _, .int _ => true
  | _, .str _ => true
  | n + 1, .tup l => decide (l.length ≤ 1000) && l.all (smO n)
  | n + 1, .lst l => decide (l.length ≤ 1000) && l.all (smO n)
  | _, _ => false
def sp__law_same : Nat → Pg BZ := fun n ds s Ψ => ∃ d, ds = [d, d] ∧ smO n d = true ∧ Ψ (.d (.bl true)) s
/-! ### spans -/
abbrev spI (p q : Int) : OC := .ins "Span" ["pair"] [.v (.tup [.int p, .int q])]
def SpV (p q : Int) : Prop := 0 ≤ p ∧ p ≤ q ∧ q ≤ 1000000000000
/-- no object holds a list -/
def Spn (l : LO) : Prop := ∀ a oc, l.o a = some oc → oc.free
def XS (l l' : LO) : Prop := Ext l l' ∧ (Spn l → Spn l')
theorem XS.refl {l : LO} : XS l l := ⟨Ext.refl, id⟩
theorem XS.trans {l l1 l2 : LO} (a : XS l l1) (b : XS l1 l2) : XS l l2 := ⟨a.1.trans b.1, fun h => b.2 (a.2 h)⟩
theorem XS.put0 {l : LO} {a : Addr} {oc : OC} (hf : oc.free) (h : l.o a = none) : XS l (l.put a oc) := ⟨Ext.put h, fun hs x oc' e => by
  by_cases c : x = a
  · subst c
    rw [oput_at] at e
    cases e
    exact hf
  · exact hs x oc' ((oset_ne c).symm.trans e)⟩
theorem XS.put {l : LO} {a : Addr} {p q : Int} (h : l.o a = none) : XS l (l.put a (spI p q)) := XS.put0 (fun fv hf => by rw [List.mem_singleton.mp hf]; rfl) h
theorem Spn.bare {b : Addr} {l : LO} (h : Spn l) : Bare (.bag b l) := h
def sp_is_within : Pg BZ := fun ds s Ψ => ∃ v lo hi : Int, ds = [.int v, .int lo, .int hi] ∧ Ψ (.d (.bl (decide (lo ≤ v ∧ v ≤ hi)))) s
def sp_is_pair : Pg BZ := fun ds s Ψ => ∃ p q : Int, ds = [prD p q] ∧ Ψ (.d (.bl (decide (0 ≤ p ∧ p ≤ q ∧ q ≤ 1000000000000)))) s
def sp_Span___init__ : PgX BZ := fun ds s Ψ Ξ => ∃ b l a, ∃ p q : Int, ds = [.any (.ref a), prD p q] ∧ s = .bag b l ∧ l.o a = some (.ins "Span" [] []) ∧ (SpV p q → Ψ (.d .non) (.bag b (l.put a (spI p q)))) ∧ (¬ SpV p q → Ξ ⟨"BadSpan", some ("value", prD p q)⟩ s)
def sp_Span_first : Pg BZ := fun ds s Ψ => ∃ b l a, ∃ p q : Int, ds = [.any (.ref a)] ∧ s = .bag b l ∧ l.o a = some (spI p q) ∧ Ψ (.d (.int p)) s
def sp_Span_last : Pg BZ := fun ds s Ψ => ∃ b l a, ∃ p q : Int, ds = [.any (.ref a)] ∧ s = .bag b l ∧ l.o a = some (spI p q) ∧ Ψ (.d (.int q)) s
def sp_Span_many : Pg BZ := fun ds s Ψ => ∃ b l a, ∃ p q : Int, ds = [.any (.ref a)] ∧ s = .bag b l ∧ l.o a = some (spI p q) ∧ Ψ (.d (.int (q - p + 1))) s
def sp_Span___getitem__ : PgX BZ := fun ds s Ψ Ξ => ∃ b l a, ∃ p q v : Int, ds = [.any (.ref a), .int v] ∧ s = .bag b l ∧ l.o a = some (spI p q) ∧ (0 ≤ v ∧ v ≤ q - p → Ψ (.d (.int (p + v))) s) ∧ (¬ (0 ≤ v ∧ v ≤ q - p) → Ξ ⟨"NoPlace", some ("value", .int v)⟩ s)
def sp_Span___and__ : PgX BZ := fun ds s Ψ Ξ => ∃ b l a a', ∃ p q p' q' : Int, ds = [.any (.ref a), .any (.ref a')] ∧ s = .bag b l ∧ l.o a = some (spI p q) ∧ l.o a' = some (spI p' q') ∧ SpV p q ∧ SpV p' q' ∧
  (max p p' ≤ min q q' → ∀ x l', XS l l' → l'.o x = some (spI (max p p') (min q q')) → Ψ (.d (.any (.ref x))) (.bag b l')) ∧ (¬ max p p' ≤ min q q' → Ξ ⟨"Apart", none⟩ s)
def sp_Span___or__ : Pg BZ := fun ds s Ψ => ∃ b l a a', ∃ p q p' q' : Int, ds = [.any (.ref a), .any (.ref a')] ∧ s = .bag b l ∧ l.o a = some (spI p q) ∧ l.o a' = some (spI p' q') ∧ SpV p q ∧ SpV p' q' ∧
  ∀ x l', XS l l' → l'.o x = some (spI (min p p') (max q q')) → Ψ (.d (.any (.ref x))) (.bag b l')
def sp_Span___contains__ : Pg BZ := fun ds s Ψ => ∃ b l a, ∃ p q : Int, ∃ v, ds = [.any (.ref a), v] ∧ s = .bag b l ∧ l.o a = some (spI p q) ∧
  ((∃ i : Int, v = .int i ∧ Ψ (.d (.bl (decide (p ≤ i ∧ i ≤ q)))) s) ∨ ∃ a', ∃ p' q' : Int, v = .any (.ref a') ∧ l.o a' = some (spI p' q') ∧ Ψ (.d (.bl (decide (p ≤ p' ∧ q' ≤ q)))) s)
def sp_Span___eq__ : Pg BZ := fun ds s Ψ => ∃ b l a a', ∃ p q p' q' : Int, ds = [.any (.ref a), .any (.ref a')] ∧ s = .bag b l ∧ l.o a = some (spI p q) ∧ l.o a' = some (spI p' q') ∧ Ψ (.d (.bl (decide (p = p' ∧ q = q')))) s
def sp__law_far : Pg BZ := fun ds s Ψ => ∃ b l, ds = [.any (.ref b)] ∧ s = .bag b l ∧ ∀ r : Int, 0 ≤ r → r < 1000000000000 → Ψ (.d (.int r)) s
def sp__law_some_pair : Pg BZ := fun ds s Ψ => ∃ b l, ds = [.any (.ref b)] ∧ s = .bag b l ∧ ∀ p q : Int, SpV p q → Ψ (.d (prD p q)) s
abbrev pD (m : Int × Int) : D := prD m.1 m.2
def sp__law_row : Pg BZ := fun ds s Ψ => ∃ b l, ds = [.any (.ref b)] ∧ s = .bag b l ∧ ∀ ps : List (Int × Int), ps.length = 6 → (∀ m ∈ ps, SpV m.1 m.2) → Ψ (.o (.lst (ps.map pD))) s
def sp__law_both : Pg BZ := fun ds s Ψ => ∃ p q p' q' : Int, ds = [prD p q, prD p' q'] ∧ Ψ (.d (if max p p' ≤ min q q' then prD (max p p') (min q q') else .non)) s
def sp__law_over : Pg BZ := fun ds s Ψ => ∃ p q p' q' : Int, ds = [prD p q, prD p' q'] ∧ Ψ (.d (prD (min p p') (max q q'))) s
def sp__law_is_like : Pg BZ := fun ds s Ψ => ∃ b l a, ∃ p q : Int, ds = [.any (.ref a), prD p q] ∧ s = .bag b l ∧ l.o a = some (spI p q) ∧ Ψ (.d (.bl true)) s
def sp__law_meet : Pg BZ := fun ds s Ψ => ∃ b l a a', ∃ p q p' q' : Int, ds = [.any (.ref a), .any (.ref a')] ∧ s = .bag b l ∧ l.o a = some (spI p q) ∧ l.o a' = some (spI p' q') ∧ SpV p q ∧ SpV p' q' ∧
  (max p p' ≤ min q q' → ∀ x l', XS l l' → l'.o x = some (spI (max p p') (min q q')) → Ψ (.d (.lst [.any (.ref x)])) (.bag b l')) ∧ (¬ max p p' ≤ min q q' → Ψ (.d (.lst [])) s)
def sp__law_no_place : Pg BZ := fun ds s Ψ => ∃ b l a, ∃ p q v : Int, ds = [.any (.ref a), .int v] ∧ s = .bag b l ∧ l.o a = some (spI p q) ∧ ¬ (0 ≤ v ∧ v ≤ q - p) ∧ Ψ (.d (.lst [.str "none", .int v])) s
def sp__law_are_places_right : Pg BZ := fun ds s Ψ => ∃ b l a, ∃ p q : Int, ds = [.any (.ref b), .any (.ref a), prD p q] ∧ s = .bag b l ∧ l.o a = some (spI p q) ∧ SpV p q ∧ ∀ l', XS l l' → Ψ (.d (.bl true)) (.bag b l')
def sp__law_are_two_right : Pg BZ := fun ds s Ψ => ∃ b l a a', ∃ p q p' q' : Int, ds = [.any (.ref b), .any (.ref a), .any (.ref a'), .tup [prD p q, prD p' q']] ∧ s = .bag b l ∧ l.o a = some (spI p q) ∧ l.o a' = some (spI p' q') ∧ SpV p q ∧ SpV p' q' ∧ ∀ l', XS l l' → Ψ (.d (.bl true)) (.bag b l')
abbrev Sm3 := Addr × Int × Int
abbrev hD (m : Sm3) : D := .any (.ref m.1)
abbrev p3D (m : Sm3) : D := prD m.2.1 m.2.2
def At3 (l : LO) (ms : List Sm3) : Prop := ∀ m ∈ ms, l.o m.1 = some (spI m.2.1 m.2.2) ∧ SpV m.2.1 m.2.2
def sp__law_are_folds_right : Pg BZ := fun ds s Ψ => ∃ b l, ∃ ms : List Sm3, ds = [.lst (ms.map hD), .lst (ms.map p3D)] ∧ s = .bag b l ∧ ms ≠ [] ∧ ms.length ≤ 100 ∧ At3 l ms ∧ ∀ l', XS l l' → Ψ (.d (.bl true)) (.bag b l')
abbrev st_is_within : Stmt := topS 7
theorem sc_is_within : FnScope ["value", "low", "high"] ["value", "low", "high"] (defScope st_is_within) := ⟨rfl, rfl, rfl, by decide +kernel, rfl, by decide +kernel, by decide +kernel⟩
def ff_is_within : FS BZ :=
  (fRet (fAndV (fIsi .int (fV 0)) (fAndV (fNotV (fIsi .bool (fV 0))) (fChain (dI0 fun i j => .bl (decide (i ≤ j))) (dI0 fun i j => .bl (decide (i ≤ j))) (fV 1) (fV 0) (fV 2)))))
theorem ok_is_within (T : Tx K mg) (F : Dfn K mg "is_within" st_is_within ["value", "low", "high"])
    (hp : ∀ (ds : List D) (s : BS) (Ψ : Ret → BS → Prop), ds.length = 3 → sp_is_within ds s Ψ → ff_is_within { nx := fun _ s => Ψ (.d .non) s, rt := Ψ } (startR ["value", "low", "high"] ds) s) : Cal P w K mg base (BM K (some mg)) 1 "is_within" 3 sp_is_within :=
  have sc := sc_is_within
  cal_of F sc_is_within rfl (by decide) (ff := ff_is_within) (fun f cdv Ar out s H E hg hr => ⟨_,
  (zs_one (z_ret (q_and (q_isi .int T.isinstance T.int bt_int (q_v 0)) (q_and (q_not (q_isi .bool T.isinstance T.bool bt_bool (q_v 0))) (q_one (q_chain (co_le) (co_le) (q_v 1) (q_v 0) (q_v 2)))))))⟩) hp
abbrev st_is_pair : Stmt := topS 9
theorem sc_is_pair : FnScope ["value"] ["value"] (defScope st_is_pair) := ⟨rfl, rfl, rfl, by decide +kernel, rfl, by decide +kernel, by decide +kernel⟩
def ff_is_pair : FS BZ :=
  (fSeq (fIfS (fOrT (fNotT (fTest (fIsi .tuple (fV 0)))) (fTest (fBin dNe (fCB dLen (fCons (fV 0) fNil)) (fC (.int 2))))) fNever fNext)
  (fRet (fAndV (fCall sp_is_within (fCons (fBin (dIxN 0) (fV 0) (fC (.int 0))) (fCons (fC (.int 0)) (fCons (fC (.int 1000000000000)) fNil)))) (fAndV (fCall sp_is_within (fCons (fBin (dIxN 1) (fV 0) (fC (.int 1))) (fCons (fC (.int 0)) (fCons (fC (.int 1000000000000)) fNil)))) (fBin (dI0 fun i j => .bl (decide (i ≤ j))) (fBin (dIxN 0) (fV 0) (fC (.int 0))) (fBin (dIxN 1) (fV 0) (fC (.int 1))))))))
theorem ok_is_pair (T : Tx K mg) (F : Dfn K mg "is_pair" st_is_pair ["value"]) (c_is_within : Cal P w K mg base (BM K (some mg)) 1 "is_within" 3 sp_is_within)
    (hp : ∀ (ds : List D) (s : BS) (Ψ : Ret → BS → Prop), ds.length = 1 → sp_is_pair ds s Ψ → ff_is_pair { nx := fun _ s => Ψ (.d .non) s, rt := Ψ } (startR ["value"] ds) s) : Cal P w K mg base (BM K (some mg)) 2 "is_pair" 1 sp_is_pair :=
  have sc := sc_is_pair
  cal_of F sc_is_pair rfl (by decide) (ff := ff_is_pair) (fun f cdv Ar out s H E hg hr => ⟨_,
  (zs_cons (z_if (qt_w (qw_or (qt_not (qt_val (q_isi .tuple T.isinstance T.tuple bt_tuple (q_v 0)))) (qw_or1 (qt_cmp (co_ne hr.units) (q_nb (nb_len) T.len (ql_cons (q_v 0) ql_nil)) q_int)))) (zs_one z_never) zs_nil)
  (zs_one (z_ret (q_and (q_low (q_call c_is_within hg (hr.mono (by decide)) (ql_cons (q_ixn (k := 0) (q_v 0)) (ql_cons q_int (ql_cons (q_gint T.c_LIMIT) ql_nil))))) (q_and (q_low (q_call c_is_within hg (hr.mono (by decide)) (ql_cons (q_ixn (k := 1) (q_v 0)) (ql_cons q_int (ql_cons (q_gint T.c_LIMIT) ql_nil))))) (q_one (q_cmp (co_le) (q_ixn (k := 0) (q_v 0)) (q_ixn (k := 1) (q_v 0)))))))))⟩) hp
abbrev st__law_own_bag : Stmt := topS 12
theorem sc__law_own_bag : FnScope ["script", "cells", "mixed", "cell"] ["script"] (defScope st__law_own_bag) := ⟨rfl, rfl, rfl, by decide +kernel, rfl, by decide +kernel, by decide +kernel⟩
def ff__law_own_bag : FS BZ :=
  (fSeq (fSet 1 (fOV (fLc (fIt (fScr 0 (fPs (fC (.int 63))))) [3] (hName 3) (fun _ s Φ => Φ true s) (fCB dAbs (fCons (fV 3) fNil)))))
  (fSeq (fSet 2 (fBin dAdd (fC (.int 2468)) (fCB dLen (fCons (fV 1) fNil))))
  (fSeq (fFor (fIt (fV 1)) (hName 3)
   (fSeq (fSet 2 (fBin (dI (fun _ j => 0 < j) fun i j => .int (i % j)) (fCB dInt (fCons (fBin dAdd (fBin dAdd (fBin dMul (fV 2) (fC (.int 48271))) (fBin (dI (fun _ j => 0 < j) fun i j => .int (i % j)) (fCB dInt (fCons (fV 3) fNil)) (fC (.int 2147483629)))) (fC (.int 7))) fNil)) (fC (.int 2147483647))))
  (fDrop 3 fNext)))
  (fRetBag0 (fXo (fRevO (fV 1)) (fXv (fC (.int 0)) (fXv (fV 2) fXn)))))))
theorem ok__law_own_bag (T : Tx K mg) (F : Dfn K mg "_law_own_bag" st__law_own_bag ["script"])
    (hp : ∀ (ds : List D) (s : BS) (Ψ : Ret → BS → Prop), ds.length = 1 → sp_bag0 ds s Ψ → ff__law_own_bag { nx := fun _ s => Ψ (.d .non) s, rt := Ψ } (startR ["script", "cells", "mixed", "cell"] ds) s) : Cal P w K mg base (BM K (some mg)) 1 "_law_own_bag" 1 sp_bag0 :=
  have sc := sc__law_own_bag
  cal_of F sc__law_own_bag rfl (by decide) (ff := ff__law_own_bag) (fun f cdv Ar out s H E hg hr => ⟨_,
  (zs_cons (z_setLc 1 sc.nd [("cell", 3)] rfl sc.nd (qi_seq (q_scr 0 (qp_s q_int))) (blkOk_by (by rfl)) (fun _ _ _ _ _ => (qg_name 3 sc.nd)) (fun _ _ _ _ _ => qts_nil) (fun _ _ _ _ _ => (q_nb (nb_abs) T.abs (ql_cons (q_v 3) ql_nil))))
  (zs_cons (z_set 2 sc.nd (q_bin bo_add q_int (q_nb (nb_len) T.len (ql_cons (q_v 1) ql_nil))))
  (zs_cons (z_for PassesOwn.never rfl (qi_seq (q_v 1)) (qg_name 3 sc.nd)
   (zs_cons (z_set 2 sc.nd (q_bin bo_mod (q_nt nb_int T.int (ql_cons (q_bin bo_add (q_bin bo_add (q_bin bo_mul (q_v 2) q_int) (q_bin bo_mod (q_nt nb_int T.int (ql_cons (q_v 3) ql_nil)) q_int)) q_int) ql_nil)) q_int))
  (zs_drop 3 zs_nil)))
  (zs_one (z_retBag0 (qx_o (qo_revL (q_v 1)) (qx_v q_int (qx_v (q_v 2) qx_nil))))))))⟩) hp
abbrev st__law_draw : Stmt := topS 13
theorem sc__law_draw : FnScope ["bag", "below", "cell", "found"] ["bag", "below"] (defScope st__law_draw) := ⟨rfl, rfl, rfl, by decide +kernel, rfl, by decide +kernel, by decide +kernel⟩
theorem ok__law_draw (T : Tx K mg) (F : Dfn K mg "_law_draw" st__law_draw ["bag", "below"]) : Cal P w K mg base (BM K (some mg)) 1 "_law_draw" 2 sp_draw :=
  have sc := sc__law_draw
  cal_of F sc rfl (by decide) (ff := fDraw) (fun f cdv Ar out s H E hg hr => ⟨tDraw K true, ⟨pss_cons (ps_while PassesOwn.never (pw_and (pt_cmpR op_eq (pe_ix ix_seq (pv 0) pe_int fun _ _ => rfl) pe_int (by first | exact nomark _ | rfl)) (pw_and1 (pt_cmpR (op_neD hr.units) (pe_ix ix_seq (pv 0) pe_int fun _ _ => rfl) (pe_lst pa_nil) (by first | exact nomark _ | rfl)))).pt
    (pss_cons (ps_set sc.nd rfl (.inl rfl) (pe_bm0 PySem.F.plainAttrs_list PySem.F.slot_list_pop PySem.F.type_list_pop mt_pop (pe_ix ix_seq (pv 0) pe_int fun _ _ => rfl)))
    (pss_one (ps_asg (pe_ifExp (pt_cmpR op_gt (pv 2) (pe_op op_pow pe_int pe_int) (by first | exact nomark _ | rfl)) (pv 2) pe_int) (pg_sub (pv 0) pe_int set_list (by intro _; rfl))))))
    (pss_cons (ps_if (pt_cmpR op_gt (pe_ix ix_seq (pv 0) pe_int fun _ _ => rfl) pe_int (by first | exact nomark _ | rfl))
      (pss_cons (ps_set sc.nd rfl (.inl rfl) (pe_op op_mod (pe_callTy call_int1 rfl T.int bt_int (pa_cons (pe_ix ix_seq (pv 0) pe_int fun _ _ => rfl) pa_nil rfl)) (pv 1)))
      (pss_cons (ps_asg (pe_op op_fdivW (pe_ix ix_seq (pv 0) pe_int fun _ _ => rfl) (pv 1)) (pg_sub (pv 0) pe_int set_list (by intro _; rfl))) (pss_one (ps_ret (pv 3))))) pss_nil)
    (pss_cons (ps_asg (pe_op op_mod (pe_callTy call_int1 rfl T.int bt_int (pa_cons (pe_op op_addA (pe_op op_mulA (pe_ix ix_seq (pv 0) pe_int fun _ _ => rfl) pe_int) pe_int) pa_nil rfl)) pe_int) (pg_sub (pv 0) pe_int set_list (by intro _; rfl)))
    (pss_one (ps_ret (pe_op op_mod (pe_callTy call_int1 rfl T.int bt_int (pa_cons (pe_op op_fdivW (pe_op op_mod (pe_op op_mulA (pe_ix ix_seq (pv 0) pe_int fun _ _ => rfl) (pe_ix ix_seq (pv 0) pe_int fun _ _ => rfl)) pe_int) pe_int) pa_nil rfl)) (pv 1)))))), sd_draw⟩⟩) draw_pure
abbrev st__law_same : Stmt := topS 14
theorem sc__law_same : FnScope ["told", "due", "one", "other"] ["told", "due"] (defScope st__law_same) := ⟨rfl, rfl, rfl, by decide +kernel, rfl, by decide +kernel, by decide +kernel⟩
def ff__law_same_0 : FS BZ :=
  (fSeq (fIfS (fTest (fBin dIsN (fV 1) (fC .non))) (fRet (fBin dIsN (fV 0) (fC .non))) fNext)
  (fSeq (fIfS (fTest (fIsi .bool (fV 1))) (fRet (fIf (fTest (fV 1)) (fBin dIsB (fV 0) (fC (.bl true))) (fBin dIsB (fV 0) (fC (.bl false))))) fNext)
  (fSeq (fIfS (fTest (fIsi .int (fV 1))) (fRet (fAndV (fIsi .int (fV 0)) (fAndV (fNotV (fIsi .bool (fV 0))) (fBin dEq (fV 0) (fV 1))))) fNext)
  (fSeq (fIfS (fTest (fIsi .str (fV 1))) (fRet (fAndV (fIsi .str (fV 0)) (fBin dEq (fV 0) (fV 1)))) fNext)
  (fSeq (fIfS (fTest (fIsi .dict (fV 1))) fNever fNext)
  (fSeq fNever
  (fSeq fNever
  fNever)))))))
theorem ok__law_same_0 (T : Tx K mg) (F : Dfn K mg "_law_same" st__law_same ["told", "due"])
    (hp : ∀ (ds : List D) (s : BS) (Ψ : Ret → BS → Prop), ds.length = 2 → (sp__law_same 0) ds s Ψ → ff__law_same_0 { nx := fun _ s => Ψ (.d .non) s, rt := Ψ } (startR ["told", "due", "one", "other"] ds) s) : Cal P w K mg base (BM K (some mg)) 1 "_law_same" 2 (sp__law_same 0) :=
  have sc := sc__law_same
  cal_of F sc__law_same rfl (by decide) (ff := ff__law_same_0) (fun f cdv Ar out s H E hg hr => ⟨_,
  (zs_cons (z_if (qt_cmp (co_is) (q_v 1) q_non) (zs_one (z_ret (q_cmp (co_is) (q_v 0) q_non))) zs_nil)
  (zs_cons (z_if (qt_val (q_isi .bool T.isinstance T.bool bt_bool (q_v 1))) (zs_one (z_ret (q_if (qt_val (q_v 1)) (q_cmp co_isb (q_v 0) q_bl) (q_cmp co_isb (q_v 0) q_bl)))) zs_nil)
  (zs_cons (z_if (qt_val (q_isi .int T.isinstance T.int bt_int (q_v 1))) (zs_one (z_ret (q_and (q_isi .int T.isinstance T.int bt_int (q_v 0)) (q_and (q_not (q_isi .bool T.isinstance T.bool bt_bool (q_v 0))) (q_one (q_cmp (co_eq hr.units) (q_v 0) (q_v 1))))))) zs_nil)
  (zs_cons (z_if (qt_val (q_isi .str T.isinstance T.str bt_str (q_v 1))) (zs_one (z_ret (q_and (q_isi .str T.isinstance T.str bt_str (q_v 0)) (q_one (q_cmp (co_eq hr.units) (q_v 0) (q_v 1)))))) zs_nil)
  (zs_cons (z_if (qt_val (q_isi .dict T.isinstance T.dict bt_dict (q_v 1))) (zs_one z_never) zs_nil)
  (zs_cons z_never
  (zs_cons z_never
  (zs_one z_never))))))))⟩) hp
def ffr__law_same (g : Pg BZ) : FS BZ :=
  (fSeq (fIfS (fTest (fBin dIsN (fV 1) (fC .non))) (fRet (fBin dIsN (fV 0) (fC .non))) fNext)
  (fSeq (fIfS (fTest (fIsi .bool (fV 1))) (fRet (fIf (fTest (fV 1)) (fBin dIsB (fV 0) (fC (.bl true))) (fBin dIsB (fV 0) (fC (.bl false))))) fNext)
  (fSeq (fIfS (fTest (fIsi .int (fV 1))) (fRet (fAndV (fIsi .int (fV 0)) (fAndV (fNotV (fIsi .bool (fV 0))) (fBin dEq (fV 0) (fV 1))))) fNext)
  (fSeq (fIfS (fTest (fIsi .str (fV 1))) (fRet (fAndV (fIsi .str (fV 0)) (fBin dEq (fV 0) (fV 1)))) fNext)
  (fSeq (fIfS (fTest (fIsi .dict (fV 1))) fNever fNext)
  (fSeq (fIfS (fOrT (fTest (fBin dNe (fIsi .tuple (fV 1)) (fIsi .tuple (fV 0)))) (fTest (fBin dNe (fIsi .list (fV 1)) (fIsi .list (fV 0))))) fNever fNext)
  (fSeq (fIfS (fTest (fBin dNe (fCB dLen (fCons (fV 0) fNil)) (fCB dLen (fCons (fV 1) fNil)))) fNever fNext)
  (fRet (fCB dAll (fCons (fOV (fLc (fZip (fV 0) (fV 1)) [2, 3] (hTup 2 (hCons (hName 2) (hCons (hName 3) hNil))) (fun _ s Φ => Φ true s) (fCall g (fCons (fV 2) (fCons (fV 3) fNil))))) fNil))))))))))
theorem okr__law_same (T : Tx K mg) (F : Dfn K mg "_law_same" st__law_same ["told", "due"]) {k : Nat} (hk : 1 ≤ k) {g g1 : Pg BZ} (c__law_same : Cal P w K mg base (BM K (some mg)) k "_law_same" 2 g)
    (hp : ∀ (ds : List D) (s : BS) (Ψ : Ret → BS → Prop), ds.length = 2 → g1 ds s Ψ → ffr__law_same g { nx := fun _ s => Ψ (.d .non) s, rt := Ψ } (startR ["told", "due", "one", "other"] ds) s) : Cal P w K mg base (BM K (some mg)) (k + 1) "_law_same" 2 g1 :=
  have sc := sc__law_same
  cal_of F sc__law_same rfl (by decide) (ff := ffr__law_same g) (fun f cdv Ar out s H E hg hr => ⟨_,
  (zs_cons (z_if (qt_cmp (co_is) (q_v 1) q_non) (zs_one (z_ret (q_cmp (co_is) (q_v 0) q_non))) zs_nil)
  (zs_cons (z_if (qt_val (q_isi .bool T.isinstance T.bool bt_bool (q_v 1))) (zs_one (z_ret (q_if (qt_val (q_v 1)) (q_cmp co_isb (q_v 0) q_bl) (q_cmp co_isb (q_v 0) q_bl)))) zs_nil)
  (zs_cons (z_if (qt_val (q_isi .int T.isinstance T.int bt_int (q_v 1))) (zs_one (z_ret (q_and (q_isi .int T.isinstance T.int bt_int (q_v 0)) (q_and (q_not (q_isi .bool T.isinstance T.bool bt_bool (q_v 0))) (q_one (q_cmp (co_eq hr.units) (q_v 0) (q_v 1))))))) zs_nil)
  (zs_cons (z_if (qt_val (q_isi .str T.isinstance T.str bt_str (q_v 1))) (zs_one (z_ret (q_and (q_isi .str T.isinstance T.str bt_str (q_v 0)) (q_one (q_cmp (co_eq hr.units) (q_v 0) (q_v 1)))))) zs_nil)
  (zs_cons (z_if (qt_val (q_isi .dict T.isinstance T.dict bt_dict (q_v 1))) (zs_one z_never) zs_nil)
  (zs_cons (z_if (qt_w (qw_or (qt_cmp (co_ne hr.units) (q_isi .tuple T.isinstance T.tuple bt_tuple (q_v 1)) (q_isi .tuple T.isinstance T.tuple bt_tuple (q_v 0))) (qw_or1 (qt_cmp (co_ne hr.units) (q_isi .list T.isinstance T.list bt_list (q_v 1)) (q_isi .list T.isinstance T.list bt_list (q_v 0)))))) (zs_one z_never) zs_nil)
  (zs_cons (z_if (qt_cmp (co_ne hr.units) (q_nb (nb_len) T.len (ql_cons (q_v 0) ql_nil)) (q_nb (nb_len) T.len (ql_cons (q_v 1) ql_nil))) (zs_one z_never) zs_nil)
  (zs_one (z_ret (q_nb (nb_all rfl) T.all (ql_cons (q_ov (qo_lc [("one", 2), ("other", 3)] rfl sc.nd (qi_zip T.zip (q_v 0) (q_v 1)) (blkOk_by (by rfl)) (fun _ _ _ _ _ => (qg_tup rfl (qgs_cons (qg_name 2 sc.nd) (qgs_cons (qg_name 3 sc.nd) qgs_nil)))) (fun _ _ _ _ _ => qts_nil) (fun _ _ _ _ _ => (q_call c__law_same hg (hr.mono (by omega)) (ql_cons (q_v 2) (ql_cons (q_v 3) ql_nil)))))) ql_nil)))))))))))⟩) hp
theorem ok__law_same (T : Tx K mg) (F : Dfn K mg "_law_same" st__law_same ["told", "due"])
    (h0 : ∀ (ds : List D) (s : BS) (Ψ : Ret → BS → Prop), ds.length = 2 → sp__law_same 0 ds s Ψ → ff__law_same_0 { nx := fun _ s => Ψ (.d .non) s, rt := Ψ } (startR ["told", "due", "one", "other"] ds) s)
    (hs : ∀ (n : Nat) (ds : List D) (s : BS) (Ψ : Ret → BS → Prop), ds.length = 2 → sp__law_same (n + 1) ds s Ψ → ffr__law_same (sp__law_same n) { nx := fun _ s => Ψ (.d .non) s, rt := Ψ } (startR ["told", "due", "one", "other"] ds) s) : ∀ n : Nat, Cal P w K mg base (BM K (some mg)) (1 + n) "_law_same" 2 (sp__law_same n)
  | 0 => ok__law_same_0 T F h0
  | n + 1 => okr__law_same T F (Nat.le_add_right _ _) (ok__law_same T F h0 hs n) (hs n)
abbrev st__law_far : Stmt := topS 15
theorem sc__law_far : FnScope ["bag"] ["bag"] (defScope st__law_far) := ⟨rfl, rfl, rfl, by decide +kernel, rfl, by decide +kernel, by decide +kernel⟩
def ff__law_far : FS BZ :=
  (fRet (fBin dAdd (fBin dMul (fCall sp_draw (fCons (fV 0) (fCons (fC (.int 1000000)) fNil))) (fC (.int 1000000))) (fCall sp_draw (fCons (fV 0) (fCons (fC (.int 1000000)) fNil)))))
theorem ok__law_far (T : Tx K mg) (F : Dfn K mg "_law_far" st__law_far ["bag"]) (c__law_draw : Cal P w K mg base (BM K (some mg)) 1 "_law_draw" 2 sp_draw)
    (hp : ∀ (ds : List D) (s : BS) (Ψ : Ret → BS → Prop), ds.length = 1 → sp__law_far ds s Ψ → ff__law_far { nx := fun _ s => Ψ (.d .non) s, rt := Ψ } (startR ["bag"] ds) s) : Cal P w K mg base (BM K (some mg)) 2 "_law_far" 1 sp__law_far :=
  have sc := sc__law_far
  cal_of F sc__law_far rfl (by decide) (ff := ff__law_far) (fun f cdv Ar out s H E hg hr => ⟨_,
  (zs_one (z_ret (q_bin bo_add (q_bin bo_mul (q_low (q_call c__law_draw hg (hr.mono (by decide)) (ql_cons (q_v 0) (ql_cons (q_pw (c := 1000000)) ql_nil)))) (q_pw (c := 1000000))) (q_low (q_call c__law_draw hg (hr.mono (by decide)) (ql_cons (q_v 0) (ql_cons (q_pw (c := 1000000)) ql_nil)))))))⟩) hp
abbrev st__law_some_pair : Stmt := topS 16
theorem sc__law_some_pair : FnScope ["bag", "way", "first", "last", "one", "other"] ["bag"] (defScope st__law_some_pair) := ⟨rfl, rfl, rfl, by decide +kernel, rfl, by decide +kernel, by decide +kernel⟩
def ff__law_some_pair : FS BZ :=
  (fSeq (fSet 1 (fCall sp_draw (fCons (fV 0) (fCons (fC (.int 6)) fNil))))
  (fSeq (fIfS (fTest (fBin (dI0 fun i j => .bl (decide (i < j))) (fV 1) (fC (.int 2)))) (fSeq (fSet 2 (fCall sp_draw (fCons (fV 0) (fCons (fC (.int 40)) fNil))))
  (fRet (fTup (fCons (fV 2) (fCons (fBin dAdd (fV 2) (fIf (fTest (fBin dEq (fV 1) (fC (.int 0)))) (fCall sp_draw (fCons (fV 0) (fCons (fC (.int 30)) fNil))) (fC (.int 0)))) fNil))))) fNext)
  (fSeq (fIfS (fTest (fBin dEq (fV 1) (fC (.int 2)))) (fSeq (fSet 3 (fBin (dI0 fun i j => .int (i - j)) (fC (.int 1000000000000)) (fCall sp_draw (fCons (fV 0) (fCons (fC (.int 4)) fNil)))))
  (fRet (fTup (fCons (fBin (dI0 fun i j => .int (i - j)) (fV 3) (fCall sp_draw (fCons (fV 0) (fCons (fC (.int 5)) fNil)))) (fCons (fV 3) fNil))))) fNext)
  (fSeq (fIfS (fTest (fBin dEq (fV 1) (fC (.int 3)))) (fRet (fTup (fCons (fCall sp_draw (fCons (fV 0) (fCons (fC (.int 3)) fNil))) (fCons (fBin (dI0 fun i j => .int (i - j)) (fC (.int 1000000000000)) (fCall sp_draw (fCons (fV 0) (fCons (fC (.int 3)) fNil)))) fNil)))) fNext)
  (fSeq (fPar [4, 5] (fXv (fCall sp__law_far (fCons (fV 0) fNil)) (fXv (fCall sp__law_far (fCons (fV 0) fNil)) fXn)))
  (fSeq (fIfS (fTest (fBin dEq (fV 1) (fC (.int 4)))) (fSeq (fSet 5 (fBin dAdd (fV 4) (fCall sp_draw (fCons (fV 0) (fCons (fC (.int 2000)) fNil)))))
  (fRet (fTup (fCons (fV 4) (fCons (fIf (fTest (fBin (dI0 fun i j => .bl (decide (i < j))) (fV 5) (fC (.int 1000000000000)))) (fV 5) (fC (.int 1000000000000))) fNil))))) fNext)
  (fRet (fIf (fTest (fBin (dI0 fun i j => .bl (decide (i < j))) (fV 4) (fV 5))) (fTup (fCons (fV 4) (fCons (fV 5) fNil))) (fTup (fCons (fV 5) (fCons (fV 4) fNil)))))))))))
theorem ok__law_some_pair (T : Tx K mg) (F : Dfn K mg "_law_some_pair" st__law_some_pair ["bag"]) (c__law_draw : Cal P w K mg base (BM K (some mg)) 1 "_law_draw" 2 sp_draw) (c__law_far : Cal P w K mg base (BM K (some mg)) 2 "_law_far" 1 sp__law_far)
    (hp : ∀ (ds : List D) (s : BS) (Ψ : Ret → BS → Prop), ds.length = 1 → sp__law_some_pair ds s Ψ → ff__law_some_pair { nx := fun _ s => Ψ (.d .non) s, rt := Ψ } (startR ["bag", "way", "first", "last", "one", "other"] ds) s) : Cal P w K mg base (BM K (some mg)) 3 "_law_some_pair" 1 sp__law_some_pair :=
  have sc := sc__law_some_pair
  cal_of F sc__law_some_pair rfl (by decide) (ff := ff__law_some_pair) (fun f cdv Ar out s H E hg hr => ⟨_,
  (zs_cons (z_set 1 sc.nd (q_call c__law_draw hg (hr.mono (by decide)) (ql_cons (q_v 0) (ql_cons q_int ql_nil))))
  (zs_cons (z_if (qt_cmp (co_lt) (q_v 1) q_int) (zs_cons (z_set 2 sc.nd (q_call c__law_draw hg (hr.mono (by decide)) (ql_cons (q_v 0) (ql_cons q_int ql_nil))))
  (zs_one (z_ret (q_tup (ql_cons (q_v 2) (ql_cons (q_bin bo_add (q_v 2) (q_if (qt_cmp (co_eq hr.units) (q_v 1) q_int) (q_low (q_call c__law_draw hg (hr.mono (by decide)) (ql_cons (q_v 0) (ql_cons q_int ql_nil)))) q_int)) ql_nil)))))) zs_nil)
  (zs_cons (z_if (qt_cmp (co_eq hr.units) (q_v 1) q_int) (zs_cons (z_set 3 sc.nd (q_bin bo_sub (q_gint T.c_LIMIT) (q_call c__law_draw hg (hr.mono (by decide)) (ql_cons (q_v 0) (ql_cons q_int ql_nil)))))
  (zs_one (z_ret (q_tup (ql_cons (q_bin bo_sub (q_v 3) (q_low (q_call c__law_draw hg (hr.mono (by decide)) (ql_cons (q_v 0) (ql_cons q_int ql_nil))))) (ql_cons (q_v 3) ql_nil)))))) zs_nil)
  (zs_cons (z_if (qt_cmp (co_eq hr.units) (q_v 1) q_int) (zs_one (z_ret (q_tup (ql_cons (q_low (q_call c__law_draw hg (hr.mono (by decide)) (ql_cons (q_v 0) (ql_cons q_int ql_nil)))) (ql_cons (q_bin bo_sub (q_gint T.c_LIMIT) (q_low (q_call c__law_draw hg (hr.mono (by decide)) (ql_cons (q_v 0) (ql_cons q_int ql_nil))))) ql_nil))))) zs_nil)
  (zs_cons (z_par 4 5 sc.nd rfl (qx_v (q_call c__law_far hg (hr.mono (by decide)) (ql_cons (q_v 0) ql_nil)) (qx_v (q_call c__law_far hg (hr.mono (by decide)) (ql_cons (q_v 0) ql_nil)) qx_nil)))
  (zs_cons (z_if (qt_cmp (co_eq hr.units) (q_v 1) q_int) (zs_cons (z_set 5 sc.nd (q_bin bo_add (q_v 4) (q_call c__law_draw hg (hr.mono (by decide)) (ql_cons (q_v 0) (ql_cons q_int ql_nil)))))
  (zs_one (z_ret (q_tup (ql_cons (q_v 4) (ql_cons (q_if (qt_cmp (co_lt) (q_v 5) (q_gint T.c_LIMIT)) (q_v 5) (q_gint T.c_LIMIT)) ql_nil)))))) zs_nil)
  (zs_one (z_ret (q_if (qt_cmp (co_lt) (q_v 4) (q_v 5)) (q_tup (ql_cons (q_v 4) (ql_cons (q_v 5) ql_nil))) (q_tup (ql_cons (q_v 5) (ql_cons (q_v 4) ql_nil))))))))))))⟩) hp
abbrev st__law_row : Stmt := topS 17
theorem sc__law_row : FnScope ["bag", "middle", "reach", "turn", "way", "found", "first", "last"] ["bag"] (defScope st__law_row) := ⟨rfl, rfl, rfl, by decide +kernel, rfl, by decide +kernel, by decide +kernel⟩
def ff__law_row : FS BZ :=
  (fSeq (fPar [4, 5] (fXv (fCall sp_draw (fCons (fV 0) (fCons (fC (.int 4)) fNil))) (fXo (fLstO fNil) fXn)))
  (fSeq (fSet 1 (fCall sp_draw (fCons (fV 0) (fCons (fC (.int 60)) fNil))))
  (fCut (fIfS (fTest (fBin dEq (fV 4) (fC (.int 1)))) (fSet 1 (fBin (dI0 fun i j => .int (i - j)) (fC (.int 1000000000000)) (fCall sp_draw (fCons (fV 0) (fCons (fC (.int 60)) fNil))))) (fIfS (fTest (fBin dEq (fV 4) (fC (.int 2)))) (fSet 1 (fCall sp__law_far (fCons (fV 0) fNil))) fNext))
  (fSeq (fSet 2 (fBin dAdd (fC (.int 5)) (fCall sp_draw (fCons (fV 0) (fCons (fC (.int 50)) fNil)))))
  (fSeq (fFor (fRg1 (fCons (fC (.int 6)) fNil)) (hName 3)
   (fSeq (fPar [6, 7] (fXv (fBin (dI0 fun i j => .int (i - j)) (fV 1) (fCall sp_draw (fCons (fV 0) (fCons (fV 2) fNil)))) (fXv (fBin dAdd (fV 1) (fCall sp_draw (fCons (fV 0) (fCons (fV 2) fNil)))) fXn)))
  (fCut (fIfS (fTest (fBin dEq (fCall sp_draw (fCons (fV 0) (fCons (fC (.int 5)) fNil))) (fC (.int 0)))) (fSet 6 (fBin (dI0 fun i j => .int (i - j)) (fV 7) (fCall sp_draw (fCons (fV 0) (fCons (fC (.int 3)) fNil))))) fNext)
  (fSeq (fPar [6, 7] (fXv (fIf (fTest (fBin (dI0 fun i j => .bl (decide (j < i))) (fV 6) (fC (.int 0)))) (fV 6) (fC (.int 0))) (fXv (fIf (fTest (fBin (dI0 fun i j => .bl (decide (i < j))) (fV 7) (fC (.int 1000000000000)))) (fV 7) (fC (.int 1000000000000))) fXn)))
  (fSeq (fApp 5 (fIf (fAndT (fTest (fBin (dI0 fun i j => .bl (decide (i < j))) (fV 4) (fC (.int 3)))) (fTest (fBin (dI0 fun i j => .bl (decide (i ≤ j))) (fV 6) (fV 7)))) (fTup (fCons (fV 6) (fCons (fV 7) fNil))) (fCall sp__law_some_pair (fCons (fV 0) fNil))))
  (fDrop 3 (fDrop 6 (fDrop 7 fNext))))))))
  (fRetO 5))))))
theorem ok__law_row (T : Tx K mg) (F : Dfn K mg "_law_row" st__law_row ["bag"]) (c__law_draw : Cal P w K mg base (BM K (some mg)) 1 "_law_draw" 2 sp_draw) (c__law_far : Cal P w K mg base (BM K (some mg)) 2 "_law_far" 1 sp__law_far) (c__law_some_pair : Cal P w K mg base (BM K (some mg)) 3 "_law_some_pair" 1 sp__law_some_pair)
    (hp : ∀ (ds : List D) (s : BS) (Ψ : Ret → BS → Prop), ds.length = 1 → sp__law_row ds s Ψ → ff__law_row { nx := fun _ s => Ψ (.d .non) s, rt := Ψ } (startR ["bag", "middle", "reach", "turn", "way", "found", "first", "last"] ds) s) : Cal P w K mg base (BM K (some mg)) 4 "_law_row" 1 sp__law_row :=
  have sc := sc__law_row
  cal_of F sc__law_row rfl (by decide) (ff := ff__law_row) (fun f cdv Ar out s H E hg hr => ⟨_,
  (zs_cons (z_par 4 5 sc.nd rfl (qx_v (q_call c__law_draw hg (hr.mono (by decide)) (ql_cons (q_v 0) (ql_cons q_int ql_nil))) (qx_o (qo_lst ql_nil) qx_nil)))
  (zs_cons (z_set 1 sc.nd (q_call c__law_draw hg (hr.mono (by decide)) (ql_cons (q_v 0) (ql_cons q_int ql_nil))))
  (zs_cut (z_if (qt_cmp (co_eq hr.units) (q_v 4) q_int) (zs_one (z_set 1 sc.nd (q_bin bo_sub (q_gint T.c_LIMIT) (q_call c__law_draw hg (hr.mono (by decide)) (ql_cons (q_v 0) (ql_cons q_int ql_nil)))))) (zs_one (z_if (qt_cmp (co_eq hr.units) (q_v 4) q_int) (zs_one (z_set 1 sc.nd (q_call c__law_far hg (hr.mono (by decide)) (ql_cons (q_v 0) ql_nil)))) zs_nil)))
  (zs_cons (z_set 2 sc.nd (q_bin bo_add q_int (q_call c__law_draw hg (hr.mono (by decide)) (ql_cons (q_v 0) (ql_cons q_int ql_nil)))))
  (zs_cons (z_for PassesOwn.never rfl (qi_rg1 T.range q_int) (qg_name 3 sc.nd)
   (zs_cons (z_par 6 7 sc.nd rfl (qx_v (q_bin bo_sub (q_v 1) (q_call c__law_draw hg (hr.mono (by decide)) (ql_cons (q_v 0) (ql_cons (q_v 2) ql_nil)))) (qx_v (q_bin bo_add (q_v 1) (q_call c__law_draw hg (hr.mono (by decide)) (ql_cons (q_v 0) (ql_cons (q_v 2) ql_nil)))) qx_nil)))
  (zs_cut (z_if (qt_cmp (co_eq hr.units) (q_low (q_call c__law_draw hg (hr.mono (by decide)) (ql_cons (q_v 0) (ql_cons q_int ql_nil)))) q_int) (zs_one (z_set 6 sc.nd (q_bin bo_sub (q_v 7) (q_call c__law_draw hg (hr.mono (by decide)) (ql_cons (q_v 0) (ql_cons q_int ql_nil)))))) zs_nil)
  (zs_cons (z_par 6 7 sc.nd rfl (qx_v (q_if (qt_cmp (co_gt) (q_v 6) q_int) (q_v 6) q_int) (qx_v (q_if (qt_cmp (co_lt) (q_v 7) (q_gint T.c_LIMIT)) (q_v 7) (q_gint T.c_LIMIT)) qx_nil)))
  (zs_cons (z_app 5 (q_if (qt_w (qw_and (qt_cmp (co_lt) (q_v 4) q_int) (qw_and1 (qt_cmp (co_le) (q_v 6) (q_v 7))))) (q_tup (ql_cons (q_v 6) (ql_cons (q_v 7) ql_nil))) (q_call c__law_some_pair hg (hr.mono (by decide)) (ql_cons (q_v 0) ql_nil))))
  (zs_drop 3 (zs_drop 6 (zs_drop 7 zs_nil))))))))
  (zs_one (z_retO 5)))))))⟩) hp
abbrev st__law_both : Stmt := topS 18
theorem sc__law_both : FnScope ["one", "other", "first", "last"] ["one", "other"] (defScope st__law_both) := ⟨rfl, rfl, rfl, by decide +kernel, rfl, by decide +kernel, by decide +kernel⟩
def ff__law_both : FS BZ :=
  (fSeq (fSet 2 (fIf (fTest (fBin (dI0 fun i j => .bl (decide (j < i))) (fBin (dIxN 0) (fV 0) (fC (.int 0))) (fBin (dIxN 0) (fV 1) (fC (.int 0))))) (fBin (dIxN 0) (fV 0) (fC (.int 0))) (fBin (dIxN 0) (fV 1) (fC (.int 0)))))
  (fSeq (fSet 3 (fIf (fTest (fBin (dI0 fun i j => .bl (decide (i < j))) (fBin (dIxN 1) (fV 0) (fC (.int 1))) (fBin (dIxN 1) (fV 1) (fC (.int 1))))) (fBin (dIxN 1) (fV 0) (fC (.int 1))) (fBin (dIxN 1) (fV 1) (fC (.int 1)))))
  (fRet (fIf (fTest (fBin (dI0 fun i j => .bl (decide (i ≤ j))) (fV 2) (fV 3))) (fTup (fCons (fV 2) (fCons (fV 3) fNil))) (fC .non)))))
theorem ok__law_both (T : Tx K mg) (F : Dfn K mg "_law_both" st__law_both ["one", "other"])
    (hp : ∀ (ds : List D) (s : BS) (Ψ : Ret → BS → Prop), ds.length = 2 → sp__law_both ds s Ψ → ff__law_both { nx := fun _ s => Ψ (.d .non) s, rt := Ψ } (startR ["one", "other", "first", "last"] ds) s) : Cal P w K mg base (BM K (some mg)) 1 "_law_both" 2 sp__law_both :=
  have sc := sc__law_both
  cal_of F sc__law_both rfl (by decide) (ff := ff__law_both) (fun f cdv Ar out s H E hg hr => ⟨_,
  (zs_cons (z_set 2 sc.nd (q_if (qt_cmp (co_gt) (q_ixn (k := 0) (q_v 0)) (q_ixn (k := 0) (q_v 1))) (q_ixn (k := 0) (q_v 0)) (q_ixn (k := 0) (q_v 1))))
  (zs_cons (z_set 3 sc.nd (q_if (qt_cmp (co_lt) (q_ixn (k := 1) (q_v 0)) (q_ixn (k := 1) (q_v 1))) (q_ixn (k := 1) (q_v 0)) (q_ixn (k := 1) (q_v 1))))
  (zs_one (z_ret (q_if (qt_cmp (co_le) (q_v 2) (q_v 3)) (q_tup (ql_cons (q_v 2) (ql_cons (q_v 3) ql_nil))) q_non)))))⟩) hp
abbrev st__law_over : Stmt := topS 19
theorem sc__law_over : FnScope ["one", "other"] ["one", "other"] (defScope st__law_over) := ⟨rfl, rfl, rfl, by decide +kernel, rfl, by decide +kernel, by decide +kernel⟩
def ff__law_over : FS BZ :=
  (fRet (fTup (fCons (fIf (fTest (fBin (dI0 fun i j => .bl (decide (i < j))) (fBin (dIxN 0) (fV 0) (fC (.int 0))) (fBin (dIxN 0) (fV 1) (fC (.int 0))))) (fBin (dIxN 0) (fV 0) (fC (.int 0))) (fBin (dIxN 0) (fV 1) (fC (.int 0)))) (fCons (fIf (fTest (fBin (dI0 fun i j => .bl (decide (j < i))) (fBin (dIxN 1) (fV 0) (fC (.int 1))) (fBin (dIxN 1) (fV 1) (fC (.int 1))))) (fBin (dIxN 1) (fV 0) (fC (.int 1))) (fBin (dIxN 1) (fV 1) (fC (.int 1)))) fNil))))
theorem ok__law_over (T : Tx K mg) (F : Dfn K mg "_law_over" st__law_over ["one", "other"])
    (hp : ∀ (ds : List D) (s : BS) (Ψ : Ret → BS → Prop), ds.length = 2 → sp__law_over ds s Ψ → ff__law_over { nx := fun _ s => Ψ (.d .non) s, rt := Ψ } (startR ["one", "other"] ds) s) : Cal P w K mg base (BM K (some mg)) 1 "_law_over" 2 sp__law_over :=
  have sc := sc__law_over
  cal_of F sc__law_over rfl (by decide) (ff := ff__law_over) (fun f cdv Ar out s H E hg hr => ⟨_,
  (zs_one (z_ret (q_tup (ql_cons (q_if (qt_cmp (co_lt) (q_ixn (k := 0) (q_v 0)) (q_ixn (k := 0) (q_v 1))) (q_ixn (k := 0) (q_v 0)) (q_ixn (k := 0) (q_v 1))) (ql_cons (q_if (qt_cmp (co_gt) (q_ixn (k := 1) (q_v 0)) (q_ixn (k := 1) (q_v 1))) (q_ixn (k := 1) (q_v 0)) (q_ixn (k := 1) (q_v 1))) ql_nil)))))⟩) hp
abbrev st_Span_first : Stmt := methOf (topS 10) 1
theorem sc_Span_first : FnScope ["self"] ["self"] (defScope st_Span_first) := ⟨rfl, rfl, rfl, by decide +kernel, rfl, by decide +kernel, by decide +kernel⟩
def ff_Span_first : FS BZ :=
  (fRet (fBin (dIxN 0) (fFld ["Span"] "pair" 0 (fV 0)) (fC (.int 0))))
theorem ok_Span_first (T : Tx K mg) {fa : Addr} {fd : FuncData} (F : DfnM K fa fd "first" "Span.first" st_Span_first ["self"])
    (hp : ∀ (ds : List D) (s : BS) (Ψ : Ret → BS → Prop), ds.length = 1 → sp_Span_first ds s Ψ → ff_Span_first { nx := fun _ s => Ψ (.d .non) s, rt := Ψ } (startR ["self"] ds) s) : FnG P w K mg base CX0 1 fa fd ["self"] (spOf (BM K (some mg)) 1 sp_Span_first) :=
  have sc := sc_Span_first
  fn_of F sc_Span_first rfl (by decide) (ff := ff_Span_first) (fun f cdv Ar out s H E hg hr => ⟨_,
  (zs_one (z_ret (q_ixn (k := 0) (q_fld 0 (cls_cons T.fc_Span_pair cls_nil) (q_v 0)))))⟩) hp
abbrev st_Span_last : Stmt := methOf (topS 10) 2
theorem sc_Span_last : FnScope ["self"] ["self"] (defScope st_Span_last) := ⟨rfl, rfl, rfl, by decide +kernel, rfl, by decide +kernel, by decide +kernel⟩
def ff_Span_last : FS BZ :=
  (fRet (fBin (dIxN 1) (fFld ["Span"] "pair" 0 (fV 0)) (fC (.int 1))))
theorem ok_Span_last (T : Tx K mg) {fa : Addr} {fd : FuncData} (F : DfnM K fa fd "last" "Span.last" st_Span_last ["self"])
    (hp : ∀ (ds : List D) (s : BS) (Ψ : Ret → BS → Prop), ds.length = 1 → sp_Span_last ds s Ψ → ff_Span_last { nx := fun _ s => Ψ (.d .non) s, rt := Ψ } (startR ["self"] ds) s) : FnG P w K mg base CX0 1 fa fd ["self"] (spOf (BM K (some mg)) 1 sp_Span_last) :=
  have sc := sc_Span_last
  fn_of F sc_Span_last rfl (by decide) (ff := ff_Span_last) (fun f cdv Ar out s H E hg hr => ⟨_,
  (zs_one (z_ret (q_ixn (k := 1) (q_fld 0 (cls_cons T.fc_Span_pair cls_nil) (q_v 0)))))⟩) hp
abbrev st_Span_many : Stmt := methOf (topS 10) 3
theorem sc_Span_many : FnScope ["self"] ["self"] (defScope st_Span_many) := ⟨rfl, rfl, rfl, by decide +kernel, rfl, by decide +kernel, by decide +kernel⟩
def ff_Span_many : FS BZ :=
  (fRet (fBin dAdd (fBin (dI0 fun i j => .int (i - j)) (fBin (dIxN 1) (fFld ["Span"] "pair" 0 (fV 0)) (fC (.int 1))) (fBin (dIxN 0) (fFld ["Span"] "pair" 0 (fV 0)) (fC (.int 0)))) (fC (.int 1))))
theorem ok_Span_many (T : Tx K mg) {fa : Addr} {fd : FuncData} (F : DfnM K fa fd "many" "Span.many" st_Span_many ["self"])
    (hp : ∀ (ds : List D) (s : BS) (Ψ : Ret → BS → Prop), ds.length = 1 → sp_Span_many ds s Ψ → ff_Span_many { nx := fun _ s => Ψ (.d .non) s, rt := Ψ } (startR ["self"] ds) s) : FnG P w K mg base CX0 1 fa fd ["self"] (spOf (BM K (some mg)) 1 sp_Span_many) :=
  have sc := sc_Span_many
  fn_of F sc_Span_many rfl (by decide) (ff := ff_Span_many) (fun f cdv Ar out s H E hg hr => ⟨_,
  (zs_one (z_ret (q_bin bo_add (q_bin bo_sub (q_ixn (k := 1) (q_fld 0 (cls_cons T.fc_Span_pair cls_nil) (q_v 0))) (q_ixn (k := 0) (q_fld 0 (cls_cons T.fc_Span_pair cls_nil) (q_v 0)))) q_int)))⟩) hp
abbrev st__law_is_like : Stmt := topS 20
theorem sc__law_is_like : FnScope ["span", "pair"] ["span", "pair"] (defScope st__law_is_like) := ⟨rfl, rfl, rfl, by decide +kernel, rfl, by decide +kernel, by decide +kernel⟩
def ff__law_is_like : FS BZ :=
  (fSeq (fIfS (fNotT (fTest (fIsI [("Span", "Span", true)] [("Span", none)] (fV 0)))) (fRet (fC (.bl false))) fNext)
  (fRet (fCall (sp__law_same 1) (fCons (fLst (fCons (fProp [("Span", sp_Span_first)] (fV 0)) (fCons (fProp [("Span", sp_Span_last)] (fV 0)) (fCons (fProp [("Span", sp_Span_many)] (fV 0)) fNil)))) (fCons (fLst (fCons (fBin (dIxN 0) (fV 1) (fC (.int 0))) (fCons (fBin (dIxN 1) (fV 1) (fC (.int 1))) (fCons (fBin dAdd (fBin (dI0 fun i j => .int (i - j)) (fBin (dIxN 1) (fV 1) (fC (.int 1))) (fBin (dIxN 0) (fV 1) (fC (.int 0)))) (fC (.int 1))) fNil)))) fNil)))))
theorem ok__law_is_like (T : Tx K mg) (F : Dfn K mg "_law_is_like" st__law_is_like ["span", "pair"]) (c__law_same : Cal P w K mg base (BM K (some mg)) 2 "_law_same" 2 (sp__law_same 1)) (m_Span_first : CalP P w K mg base (BM K (some mg)) 1 "Span" "first" sp_Span_first) (m_Span_last : CalP P w K mg base (BM K (some mg)) 1 "Span" "last" sp_Span_last) (m_Span_many : CalP P w K mg base (BM K (some mg)) 1 "Span" "many" sp_Span_many)
    (hp : ∀ (ds : List D) (s : BS) (Ψ : Ret → BS → Prop), ds.length = 2 → sp__law_is_like ds s Ψ → ff__law_is_like { nx := fun _ s => Ψ (.d .non) s, rt := Ψ } (startR ["span", "pair"] ds) s) : Cal P w K mg base (BM K (some mg)) 3 "_law_is_like" 2 sp__law_is_like :=
  have sc := sc__law_is_like
  cal_of F sc__law_is_like rfl (by decide) (ff := ff__law_is_like) (fun f cdv Ar out s H E hg hr => ⟨_,
  (zs_cons (z_if (qt_not (qt_val (q_isI (io_cons T.io_Span_Span io_nil) (nm_cons T.nm_Span nm_nil) T.isinstance (q_v 0) (.cons T.xl_Span .nil)))) (zs_one (z_ret q_bl)) zs_nil)
  (zs_one (z_ret (q_low (q_call c__law_same hg (hr.mono (by decide)) (ql_cons (q_lst (ql_cons (q_prop (k := 1) (mt_cons (m_Span_first) mt_nil) hg (hr.mono (by decide)) (q_v 0)) (ql_cons (q_prop (k := 1) (mt_cons (m_Span_last) mt_nil) hg (hr.mono (by decide)) (q_v 0)) (ql_cons (q_prop (k := 1) (mt_cons (m_Span_many) mt_nil) hg (hr.mono (by decide)) (q_v 0)) ql_nil)))) (ql_cons (q_lst (ql_cons (q_ixn (k := 0) (q_v 1)) (ql_cons (q_ixn (k := 1) (q_v 1)) (ql_cons (q_bin bo_add (q_bin bo_sub (q_ixn (k := 1) (q_v 1)) (q_ixn (k := 0) (q_v 1))) q_int) ql_nil)))) ql_nil)))))))⟩) hp
abbrev st_Span___init__ : Stmt := methOf (topS 10) 0
theorem sc_Span___init__ : FnScope ["self", "pair"] ["self", "pair"] (defScope st_Span___init__) := ⟨rfl, rfl, rfl, by decide +kernel, rfl, by decide +kernel, by decide +kernel⟩
def ff_Span___init__ (Ξ : XD → BS → Prop) : FS BZ :=
  (fSeq (fIfS (fNotT (fTest (fCall sp_is_pair (fCons (fV 1) fNil)))) (fRaiseV (fun x _ s => Ξ x s) "BadSpan" "value" (fV 1)) fNext)
  (fStN ["Span"] "pair" (fV 0) (fV 1)))
theorem ok_Span___init__ (T : Tx K mg) {fa : Addr} {fd : FuncData} (F : DfnM K fa fd "__init__" "Span.__init__" st_Span___init__ ["self", "pair"]) (c_is_pair : Cal P w K mg base (BM K (some mg)) 2 "is_pair" 1 sp_is_pair)
    (hp : ∀ (ds : List D) (s : BS) (Ψ : Ret → BS → Prop) (Ξ : XD → BS → Prop), ds.length = 2 → sp_Span___init__ ds s Ψ Ξ → ff_Span___init__ Ξ { nx := fun _ s => Ψ (.d .non) s, rt := Ψ } (startR ["self", "pair"] ds) s) : FnG P w K mg base (L2N.CX P w) 3 fa fd ["self", "pair"] (spOfX mg (BM K (some mg)) 2 sp_Span___init__) :=
  have sc := sc_Span___init__
  fn_ofX F sc_Span___init__ rfl (by decide) (ff := ff_Span___init__) (fun f cdv Ar out s H E hg hr Wx w0 g0 Lk Ξ tk wi => ⟨_,
  (zs_cons (z_if (qt_not (qt_val (q_low (q_call c_is_pair.wish hg (hr.mono (by decide)) (ql_cons (q_v 1) ql_nil))))) (zs_one (z_raiseV rfl (hr.mono (by decide)) tk wi T.xv_BadSpan (q_v 1))) zs_nil)
  (zs_one (z_stN (cls_cons T.fc_Span_pair cls_nil) (q_v 1) (q_v 0))))⟩) hp
abbrev st_Span___and__ : Stmt := methOf (topS 10) 6
theorem sc_Span___and__ : FnScope ["self", "other", "first", "last"] ["self", "other"] (defScope st_Span___and__) := ⟨rfl, rfl, rfl, by decide +kernel, rfl, by decide +kernel, by decide +kernel⟩
def ff_Span___and__ (Ξ : XD → BS → Prop) : FS BZ :=
  (fSeq (fPar [2, 3] (fXv (fCB dMax2 (fCons (fBin (dIxN 0) (fFld ["Span"] "pair" 0 (fV 0)) (fC (.int 0))) (fCons (fProp [("Span", sp_Span_first)] (fV 1)) fNil))) (fXv (fCB dMin2 (fCons (fBin (dIxN 1) (fFld ["Span"] "pair" 0 (fV 0)) (fC (.int 1))) (fCons (fProp [("Span", sp_Span_last)] (fV 1)) fNil))) fXn)))
  (fSeq (fIfS (fTest (fBin (dI0 fun i j => .bl (decide (j < i))) (fV 2) (fV 3))) (fRaise0 (fun x _ s => Ξ x s) "Apart") fNext)
  (fRet (fMakeX (fun x _ s => Ξ x s) "Span" sp_Span___init__ (fCons (fTup (fCons (fV 2) (fCons (fV 3) fNil))) fNil)))))
theorem ok_Span___and__ (T : Tx K mg) {fa : Addr} {fd : FuncData} (F : DfnM K fa fd "__and__" "Span.__and__" st_Span___and__ ["self", "other"]) (m_Span_first : CalP P w K mg base (BM K (some mg)) 1 "Span" "first" sp_Span_first) (m_Span_last : CalP P w K mg base (BM K (some mg)) 1 "Span" "last" sp_Span_last) (m_Span___init__ : CalIX P w K mg base (BM K (some mg)) 3 "Span" 2 sp_Span___init__)
    (hp : ∀ (ds : List D) (s : BS) (Ψ : Ret → BS → Prop) (Ξ : XD → BS → Prop), ds.length = 2 → sp_Span___and__ ds s Ψ Ξ → ff_Span___and__ Ξ { nx := fun _ s => Ψ (.d .non) s, rt := Ψ } (startR ["self", "other", "first", "last"] ds) s) : FnG P w K mg base (L2N.CX P w) 5 fa fd ["self", "other"] (spOfX mg (BM K (some mg)) 2 sp_Span___and__) :=
  have sc := sc_Span___and__
  fn_ofX F sc_Span___and__ rfl (by decide) (ff := ff_Span___and__) (fun f cdv Ar out s H E hg hr Wx w0 g0 Lk Ξ tk wi => ⟨_,
  (zs_cons (z_par 2 3 sc.nd rfl (qx_v (q_nb (nb_max2 rfl) T.max (ql_cons (q_ixn (k := 0) (q_fld 0 (cls_cons T.fc_Span_pair cls_nil) (q_v 0))) (ql_cons (q_prop (k := 1) (mt_cons (m_Span_first) mt_nil) hg (hr.mono (by decide)) (q_v 1)) ql_nil))) (qx_v (q_nb (nb_min2 rfl) T.min (ql_cons (q_ixn (k := 1) (q_fld 0 (cls_cons T.fc_Span_pair cls_nil) (q_v 0))) (ql_cons (q_prop (k := 1) (mt_cons (m_Span_last) mt_nil) hg (hr.mono (by decide)) (q_v 1)) ql_nil))) qx_nil)))
  (zs_cons (z_if (qt_cmp (co_gt) (q_v 2) (q_v 3)) (zs_one (z_raise0 rfl tk wi T.xn_Apart)) zs_nil)
  (zs_one (z_ret (q_makeX tk wi m_Span___init__ hg (hr.mono (by decide)) (ql_cons (q_tup (ql_cons (q_v 2) (ql_cons (q_v 3) ql_nil))) ql_nil))))))⟩) hp
abbrev st__law_meet : Stmt := topS 21
theorem sc__law_meet : FnScope ["one", "other"] ["one", "other"] (defScope st__law_meet) := ⟨rfl, rfl, rfl, by decide +kernel, rfl, by decide +kernel, by decide +kernel⟩
def ff__law_meet : FS BZ :=
  (fTry [("Apart", "Apart", true)] (fun _ _ _ => False) (fun Xi => (fRet (fLst (fCons (fBiO Xi [("Span", sp_Span___and__)] (fV 0) (fV 1)) fNil)))) (.one "Apart" (fRet (fLst fNil)) .nil))
theorem ok__law_meet (T : Tx K mg) (F : Dfn K mg "_law_meet" st__law_meet ["one", "other"]) (m_Span___and__ : CalMX P w K mg base (BM K (some mg)) 5 "Span" "__and__" 2 sp_Span___and__)
    (hp : ∀ (ds : List D) (s : BS) (Ψ : Ret → BS → Prop), ds.length = 2 → sp__law_meet ds s Ψ → ff__law_meet { nx := fun _ s => Ψ (.d .non) s, rt := Ψ } (startR ["one", "other"] ds) s) : Cal P w K mg base (BM K (some mg)) 6 "_law_meet" 2 sp__law_meet :=
  have sc := sc__law_meet
  cal_of F sc__law_meet rfl (by decide) (ff := ff__law_meet) (fun f cdv Ar out s H E hg hr => ⟨_,
  (zs_one (z_try rfl rfl sc.nd takesN0 wish_none (tab_cons T.xt_Apart_Apart tab_nil) (fun Wx pn xe tk w0 g0 Lk Xi wi => (zs_one (z_ret (q_lst (ql_cons (q_biO (k := 5) tk wi (mt_cons (m_Span___and__) mt_nil) (mt_cons T.sf_Span mt_nil) hg (hr.mono (by decide)) (q_v 0) (q_v 1)) ql_nil))))) (.one T.xl_Apart (fun _ _ _ _ _ _ _ => (zs_one (z_ret (q_lst ql_nil)))) .nil)))⟩) hp
abbrev st_Span___getitem__ : Stmt := methOf (topS 10) 4
theorem sc_Span___getitem__ : FnScope ["self", "value"] ["self", "value"] (defScope st_Span___getitem__) := ⟨rfl, rfl, rfl, by decide +kernel, rfl, by decide +kernel, by decide +kernel⟩
def ff_Span___getitem__ (Ξ : XD → BS → Prop) : FS BZ :=
  (fSeq (fIfS (fNotT (fTest (fCall sp_is_within (fCons (fV 1) (fCons (fC (.int 0)) (fCons (fBin (dI0 fun i j => .int (i - j)) (fBin (dIxN 1) (fFld ["Span"] "pair" 0 (fV 0)) (fC (.int 1))) (fBin (dIxN 0) (fFld ["Span"] "pair" 0 (fV 0)) (fC (.int 0)))) fNil)))))) (fRaiseV (fun x _ s => Ξ x s) "NoPlace" "value" (fV 1)) fNext)
  (fRet (fBin dAdd (fBin (dIxN 0) (fFld ["Span"] "pair" 0 (fV 0)) (fC (.int 0))) (fV 1))))
theorem ok_Span___getitem__ (T : Tx K mg) {fa : Addr} {fd : FuncData} (F : DfnM K fa fd "__getitem__" "Span.__getitem__" st_Span___getitem__ ["self", "value"]) (c_is_within : Cal P w K mg base (BM K (some mg)) 1 "is_within" 3 sp_is_within)
    (hp : ∀ (ds : List D) (s : BS) (Ψ : Ret → BS → Prop) (Ξ : XD → BS → Prop), ds.length = 2 → sp_Span___getitem__ ds s Ψ Ξ → ff_Span___getitem__ Ξ { nx := fun _ s => Ψ (.d .non) s, rt := Ψ } (startR ["self", "value"] ds) s) : FnG P w K mg base (L2N.CX P w) 3 fa fd ["self", "value"] (spOfX mg (BM K (some mg)) 2 sp_Span___getitem__) :=
  have sc := sc_Span___getitem__
  fn_ofX F sc_Span___getitem__ rfl (by decide) (ff := ff_Span___getitem__) (fun f cdv Ar out s H E hg hr Wx w0 g0 Lk Ξ tk wi => ⟨_,
  (zs_cons (z_if (qt_not (qt_val (q_low (q_call c_is_within.wish hg (hr.mono (by decide)) (ql_cons (q_v 1) (ql_cons q_int (ql_cons (q_bin bo_sub (q_ixn (k := 1) (q_fld 0 (cls_cons T.fc_Span_pair cls_nil) (q_v 0))) (q_ixn (k := 0) (q_fld 0 (cls_cons T.fc_Span_pair cls_nil) (q_v 0)))) ql_nil))))))) (zs_one (z_raiseV rfl (hr.mono (by decide)) tk wi T.xv_NoPlace (q_v 1))) zs_nil)
  (zs_one (z_ret (q_bin bo_add (q_ixn (k := 0) (q_fld 0 (cls_cons T.fc_Span_pair cls_nil) (q_v 0))) (q_v 1)))))⟩) hp
abbrev st__law_no_place : Stmt := topS 22
theorem sc__law_no_place : FnScope ["span", "at", "error"] ["span", "at"] (defScope st__law_no_place) := ⟨rfl, rfl, rfl, by decide +kernel, rfl, by decide +kernel, by decide +kernel⟩
def ff__law_no_place : FS BZ :=
  (fTry [("NoPlace", "NoPlace", true)] (fun _ _ _ => False) (fun Xi => (fRet (fLst (fCons (fC (.str "told")) (fCons (fIxO Xi [("Span", sp_Span___getitem__)] (fV 0) (fV 1)) fNil))))) (.nam "NoPlace" 2 (fun a x => (fRet (fLst (fCons (fC (.str "none")) (fCons (fXf [("NoPlace", "value")] a x "value" (fV 2)) fNil))))) .nil))
theorem ok__law_no_place (T : Tx K mg) (F : Dfn K mg "_law_no_place" st__law_no_place ["span", "at"]) (m_Span___getitem__ : CalMX P w K mg base (BM K (some mg)) 3 "Span" "__getitem__" 2 sp_Span___getitem__)
    (hp : ∀ (ds : List D) (s : BS) (Ψ : Ret → BS → Prop), ds.length = 2 → sp__law_no_place ds s Ψ → ff__law_no_place { nx := fun _ s => Ψ (.d .non) s, rt := Ψ } (startR ["span", "at", "error"] ds) s) : Cal P w K mg base (BM K (some mg)) 5 "_law_no_place" 2 sp__law_no_place :=
  have sc := sc__law_no_place
  cal_of F sc__law_no_place rfl (by decide) (ff := ff__law_no_place) (fun f cdv Ar out s H E hg hr => ⟨_,
  (zs_one (z_try rfl rfl sc.nd takesN0 wish_none (tab_cons T.xt_NoPlace_NoPlace tab_nil) (fun Wx pn xe tk w0 g0 Lk Xi wi => (zs_one (z_ret (q_lst (ql_cons q_str (ql_cons (q_ixO (k := 3) tk wi (mt_cons (m_Span___getitem__) mt_nil) (mt_cons T.fn_Span___getitem__ mt_nil) hg (hr.mono (by decide)) (q_v 0) (q_v 1)) ql_nil)))))) (.nam 2 T.xl_NoPlace (fun a oe cls d pn x hz hf Ex => (zs_one (z_ret (q_lst (ql_cons q_str (ql_cons (q_xf Ex (fd_cons T.xf_NoPlace_value fd_nil) (q_v 2)) ql_nil)))))) .nil)))⟩) hp
abbrev st_Span___contains__ : Stmt := methOf (topS 10) 8
theorem sc_Span___contains__ : FnScope ["self", "value"] ["self", "value"] (defScope st_Span___contains__) := ⟨rfl, rfl, rfl, by decide +kernel, rfl, by decide +kernel, by decide +kernel⟩
def ff_Span___contains__ : FS BZ :=
  (fSeq (fIfS (fTest (fIsI [("Span", "Span", true)] [("Span", none)] (fV 1))) (fRet (fAndV (fBin (dI0 fun i j => .bl (decide (i ≤ j))) (fBin (dIxN 0) (fFld ["Span"] "pair" 0 (fV 0)) (fC (.int 0))) (fProp [("Span", sp_Span_first)] (fV 1))) (fBin (dI0 fun i j => .bl (decide (i ≤ j))) (fProp [("Span", sp_Span_last)] (fV 1)) (fBin (dIxN 1) (fFld ["Span"] "pair" 0 (fV 0)) (fC (.int 1)))))) fNext)
  (fRet (fCall sp_is_within (fCons (fV 1) (fCons (fBin (dIxN 0) (fFld ["Span"] "pair" 0 (fV 0)) (fC (.int 0))) (fCons (fBin (dIxN 1) (fFld ["Span"] "pair" 0 (fV 0)) (fC (.int 1))) fNil))))))
theorem ok_Span___contains__ (T : Tx K mg) {fa : Addr} {fd : FuncData} (F : DfnM K fa fd "__contains__" "Span.__contains__" st_Span___contains__ ["self", "value"]) (c_is_within : Cal P w K mg base (BM K (some mg)) 1 "is_within" 3 sp_is_within) (m_Span_first : CalP P w K mg base (BM K (some mg)) 1 "Span" "first" sp_Span_first) (m_Span_last : CalP P w K mg base (BM K (some mg)) 1 "Span" "last" sp_Span_last)
    (hp : ∀ (ds : List D) (s : BS) (Ψ : Ret → BS → Prop), ds.length = 2 → sp_Span___contains__ ds s Ψ → ff_Span___contains__ { nx := fun _ s => Ψ (.d .non) s, rt := Ψ } (startR ["self", "value"] ds) s) : FnG P w K mg base CX0 3 fa fd ["self", "value"] (spOf (BM K (some mg)) 2 sp_Span___contains__) :=
  have sc := sc_Span___contains__
  fn_of F sc_Span___contains__ rfl (by decide) (ff := ff_Span___contains__) (fun f cdv Ar out s H E hg hr => ⟨_,
  (zs_cons (z_if (qt_val (q_isI (io_cons T.io_Span_Span io_nil) (nm_cons T.nm_Span nm_nil) T.isinstance (q_v 1) (.cons T.xl_Span .nil))) (zs_one (z_ret (q_and (q_cmp (co_le) (q_ixn (k := 0) (q_fld 0 (cls_cons T.fc_Span_pair cls_nil) (q_v 0))) (q_prop (k := 1) (mt_cons (m_Span_first) mt_nil) hg (hr.mono (by decide)) (q_v 1))) (q_one (q_cmp (co_le) (q_prop (k := 1) (mt_cons (m_Span_last) mt_nil) hg (hr.mono (by decide)) (q_v 1)) (q_ixn (k := 1) (q_fld 0 (cls_cons T.fc_Span_pair cls_nil) (q_v 0)))))))) zs_nil)
  (zs_one (z_ret (q_low (q_call c_is_within hg (hr.mono (by decide)) (ql_cons (q_v 1) (ql_cons (q_ixn (k := 0) (q_fld 0 (cls_cons T.fc_Span_pair cls_nil) (q_v 0))) (ql_cons (q_ixn (k := 1) (q_fld 0 (cls_cons T.fc_Span_pair cls_nil) (q_v 0))) ql_nil))))))))⟩) hp
abbrev st_Span___eq__ : Stmt := methOf (topS 10) 9
theorem sc_Span___eq__ : FnScope ["self", "other"] ["self", "other"] (defScope st_Span___eq__) := ⟨rfl, rfl, rfl, by decide +kernel, rfl, by decide +kernel, by decide +kernel⟩
def ff_Span___eq__ : FS BZ :=
  (fRet (fAndV (fIsI [("Span", "Span", true)] [("Span", none)] (fV 1)) (fBin dEq (fFld ["Span"] "pair" 0 (fV 0)) (fFld ["Span"] "pair" 0 (fV 1)))))
theorem ok_Span___eq__ (T : Tx K mg) {fa : Addr} {fd : FuncData} (F : DfnM K fa fd "__eq__" "Span.__eq__" st_Span___eq__ ["self", "other"])
    (hp : ∀ (ds : List D) (s : BS) (Ψ : Ret → BS → Prop), ds.length = 2 → sp_Span___eq__ ds s Ψ → ff_Span___eq__ { nx := fun _ s => Ψ (.d .non) s, rt := Ψ } (startR ["self", "other"] ds) s) : FnG P w K mg base CX0 1 fa fd ["self", "other"] (spOf (BM K (some mg)) 2 sp_Span___eq__) :=
  have sc := sc_Span___eq__
  fn_of F sc_Span___eq__ rfl (by decide) (ff := ff_Span___eq__) (fun f cdv Ar out s H E hg hr => ⟨_,
  (zs_one (z_ret (q_and (q_isI (io_cons T.io_Span_Span io_nil) (nm_cons T.nm_Span nm_nil) T.isinstance (q_v 1) (.cons T.xl_Span .nil)) (q_one (q_cmp (co_eq hr.units) (q_fld 0 (cls_cons T.fc_Span_pair cls_nil) (q_v 0)) (q_fld 0 (cls_cons T.fc_Span_pair cls_nil) (q_v 1)))))))⟩) hp
abbrev st_Span___or__ : Stmt := methOf (topS 10) 7
theorem sc_Span___or__ : FnScope ["self", "other"] ["self", "other"] (defScope st_Span___or__) := ⟨rfl, rfl, rfl, by decide +kernel, rfl, by decide +kernel, by decide +kernel⟩
def ff_Span___or__ : FS BZ :=
  (fRet (fMakeX (fun _ _ _ => False) "Span" sp_Span___init__ (fCons (fTup (fCons (fCB dMin2 (fCons (fBin (dIxN 0) (fFld ["Span"] "pair" 0 (fV 0)) (fC (.int 0))) (fCons (fProp [("Span", sp_Span_first)] (fV 1)) fNil))) (fCons (fCB dMax2 (fCons (fBin (dIxN 1) (fFld ["Span"] "pair" 0 (fV 0)) (fC (.int 1))) (fCons (fProp [("Span", sp_Span_last)] (fV 1)) fNil))) fNil))) fNil)))
theorem ok_Span___or__ (T : Tx K mg) {fa : Addr} {fd : FuncData} (F : DfnM K fa fd "__or__" "Span.__or__" st_Span___or__ ["self", "other"]) (m_Span___init__ : CalIX P w K mg base (BM K (some mg)) 3 "Span" 2 sp_Span___init__) (m_Span_first : CalP P w K mg base (BM K (some mg)) 1 "Span" "first" sp_Span_first) (m_Span_last : CalP P w K mg base (BM K (some mg)) 1 "Span" "last" sp_Span_last)
    (hp : ∀ (ds : List D) (s : BS) (Ψ : Ret → BS → Prop), ds.length = 2 → sp_Span___or__ ds s Ψ → ff_Span___or__ { nx := fun _ s => Ψ (.d .non) s, rt := Ψ } (startR ["self", "other"] ds) s) : FnG P w K mg base CX0 5 fa fd ["self", "other"] (spOf (BM K (some mg)) 2 sp_Span___or__) :=
  have sc := sc_Span___or__
  fn_of F sc_Span___or__ rfl (by decide) (ff := ff_Span___or__) (fun f cdv Ar out s H E hg hr => ⟨_,
  (zs_one (z_ret (q_makeX takesN0 wish_none m_Span___init__ hg (hr.mono (by decide)) (ql_cons (q_tup (ql_cons (q_nb (nb_min2 rfl) T.min (ql_cons (q_ixn (k := 0) (q_fld 0 (cls_cons T.fc_Span_pair cls_nil) (q_v 0))) (ql_cons (q_prop (k := 1) (mt_cons (m_Span_first) mt_nil) hg (hr.mono (by decide)) (q_v 1)) ql_nil))) (ql_cons (q_nb (nb_max2 rfl) T.max (ql_cons (q_ixn (k := 1) (q_fld 0 (cls_cons T.fc_Span_pair cls_nil) (q_v 0))) (ql_cons (q_prop (k := 1) (mt_cons (m_Span_last) mt_nil) hg (hr.mono (by decide)) (q_v 1)) ql_nil))) ql_nil))) ql_nil))))⟩) hp
abbrev st__law_are_places_right : Stmt := topS 23
theorem sc__law_are_places_right : FnScope ["bag", "span", "pair", "at", "told", "is_all", "first", "many", "low", "high", "that", "part"] ["bag", "span", "pair"] (defScope st__law_are_places_right) := ⟨rfl, rfl, rfl, by decide +kernel, rfl, by decide +kernel, by decide +kernel⟩
def ff__law_are_places_right : FS BZ :=
  (fSeq (fPar [6, 7] (fXv (fBin (dIxN 0) (fV 2) (fC (.int 0))) (fXv (fBin dAdd (fBin (dI0 fun i j => .int (i - j)) (fBin (dIxN 1) (fV 2) (fC (.int 1))) (fBin (dIxN 0) (fV 2) (fC (.int 0)))) (fC (.int 1))) fXn)))
  (fSeq (fPar [8, 9] (fXv (fBin (dI (fun _ j => 0 < j) fun i j => .int (i % j)) (fCB dInt (fCons (fCall sp__law_far (fCons (fV 0) fNil)) fNil)) (fV 7)) (fXv (fBin (dI (fun _ j => 0 < j) fun i j => .int (i % j)) (fCB dInt (fCons (fCall sp__law_far (fCons (fV 0) fNil)) fNil)) (fV 7)) fXn)))
  (fSeq (fIfS (fNotT (fTest (fCall (sp__law_same 1) (fCons (fLst (fCons (fIxO (fun _ _ _ => False) [("Span", sp_Span___getitem__)] (fV 1) (fV 8)) (fCons (fIxO (fun _ _ _ => False) [("Span", sp_Span___getitem__)] (fV 1) (fV 9)) (fCons (fIxO (fun _ _ _ => False) [("Span", sp_Span___getitem__)] (fV 1) (fBin (dI0 fun i j => .int (i - j)) (fProp [("Span", sp_Span_many)] (fV 1)) (fC (.int 1)))) fNil)))) (fCons (fLst (fCons (fBin dAdd (fV 6) (fV 8)) (fCons (fBin dAdd (fV 6) (fV 9)) (fCons (fBin (dIxN 1) (fV 2) (fC (.int 1))) fNil)))) fNil))))) (fRet (fC (.bl false))) fNext)
  (fSeq (fIfS (fNotT (fTest (fCall (sp__law_same 1) (fCons (fLst (fCons (fInO false [("Span", sp_Span___contains__)] (fIxO (fun _ _ _ => False) [("Span", sp_Span___getitem__)] (fV 1) (fV 8)) (fV 1)) (fCons (fInO false [("Span", sp_Span___contains__)] (fIxO (fun _ _ _ => False) [("Span", sp_Span___getitem__)] (fV 1) (fV 9)) (fV 1)) (fCons (fIxO (fun _ _ _ => False) [("Span", sp_Span___getitem__)] (fV 1) (fBin (dI0 fun i j => .int (i - j)) (fBin (dIxN 1) (fV 2) (fC (.int 1))) (fProp [("Span", sp_Span_first)] (fV 1)))) fNil)))) (fCons (fLst (fCons (fC (.bl true)) (fCons (fC (.bl true)) (fCons (fBin (dIxN 1) (fV 2) (fC (.int 1))) fNil)))) fNil))))) (fRet (fC (.bl false))) fNext)
  (fCut (fIfS (fTest (fBin (dI0 fun i j => .bl (decide (i < j))) (fBin (dIxN 1) (fV 2) (fC (.int 1))) (fC (.int 1000000000000)))) (fSeq (fSet 10 (fMakeX (fun _ _ _ => False) "Span" sp_Span___init__ (fCons (fTup (fCons (fBin dAdd (fV 6) (fC (.int 1))) (fCons (fBin dAdd (fBin (dIxN 1) (fV 2) (fC (.int 1))) (fC (.int 1))) fNil))) fNil)))
  (fIfS (fNotT (fTest (fCall (sp__law_same 1) (fCons (fLst (fCons (fEqO [("Span", sp_Span___eq__)] [("Span", "Span")] (fV 10) (fV 1)) (fCons (fInO false [("Span", sp_Span___contains__)] (fV 10) (fV 1)) (fCons (fInO false [("Span", sp_Span___contains__)] (fV 1) (fV 10)) fNil)))) (fCons (fLst (fCons (fC (.bl false)) (fCons (fC (.bl false)) (fCons (fC (.bl false)) fNil)))) fNil))))) (fRet (fC (.bl false))) fNext)) fNext)
  (fSeq (fFor (fIt (fLst (fCons (fV 7) (fCons (fUn dNeg (fC (.int 1))) fNil)))) (hName 3)
   (fSeq (fIfS (fNotT (fTest (fCall (sp__law_same 1) (fCons (fCall sp__law_no_place (fCons (fV 1) (fCons (fV 3) fNil))) (fCons (fLst (fCons (fC (.str "none")) (fCons (fV 3) fNil))) fNil))))) (fRet (fC (.bl false))) fNext)
  (fDrop 3 fNext)))
  (fSeq (fTry [("BadSpan", "BadSpan", true), ("NoPlace", "BadSpan", false)] (fun _ _ _ => False) (fun Xi => (fSet 11 (fMakeX Xi "Span" sp_Span___init__ (fCons (fTup (fCons (fIxO Xi [("Span", sp_Span___getitem__)] (fV 1) (fV 8)) (fCons (fIxO Xi [("Span", sp_Span___getitem__)] (fV 1) (fV 9)) fNil))) fNil)))) (.one "BadSpan" (fRet (fBin (dI0 fun i j => .bl (decide (j < i))) (fV 8) (fV 9))) .nil))
  (fSeq (fIfS (fOrT (fTest (fBin (dI0 fun i j => .bl (decide (j < i))) (fV 8) (fV 9))) (fNotT (fTest (fCall sp__law_is_like (fCons (fV 11) (fCons (fTup (fCons (fBin dAdd (fV 6) (fV 8)) (fCons (fBin dAdd (fV 6) (fV 9)) fNil))) fNil)))))) (fRet (fC (.bl false))) fNext)
  (fSeq (fSet 4 (fLst (fCons (fInO false [("Span", sp_Span___contains__)] (fV 11) (fV 1)) (fCons (fInO false [("Span", sp_Span___contains__)] (fV 1) (fV 11)) (fCons (fEqO [("Span", sp_Span___eq__)] [("Span", "Span")] (fV 11) (fV 1)) (fCons (fEqO [("Span", sp_Span___eq__)] [("Span", "Span")] (fBiO (fun _ _ _ => False) [("Span", (toX sp_Span___or__))] (fV 11) (fV 1)) (fV 1)) (fCons (fEqO [("Span", sp_Span___eq__)] [("Span", "Span")] (fBiO (fun _ _ _ => False) [("Span", sp_Span___and__)] (fV 11) (fV 1)) (fV 11)) fNil)))))))
  (fSeq (fSet 5 (fAndV (fBin dEq (fV 8) (fC (.int 0))) (fBin dEq (fV 9) (fBin (dI0 fun i j => .int (i - j)) (fV 7) (fC (.int 1))))))
  (fRet (fCall (sp__law_same 1) (fCons (fV 4) (fCons (fLst (fCons (fC (.bl true)) (fCons (fV 5) (fCons (fV 5) (fCons (fC (.bl true)) (fCons (fC (.bl true)) fNil)))))) fNil))))))))))))))
theorem ok__law_are_places_right (T : Tx K mg) (F : Dfn K mg "_law_are_places_right" st__law_are_places_right ["bag", "span", "pair"]) (c__law_far : Cal P w K mg base (BM K (some mg)) 2 "_law_far" 1 sp__law_far) (c__law_same : Cal P w K mg base (BM K (some mg)) 2 "_law_same" 2 (sp__law_same 1)) (c__law_no_place : Cal P w K mg base (BM K (some mg)) 5 "_law_no_place" 2 sp__law_no_place) (c__law_is_like : Cal P w K mg base (BM K (some mg)) 3 "_law_is_like" 2 sp__law_is_like) (m_Span___getitem__ : CalMX P w K mg base (BM K (some mg)) 3 "Span" "__getitem__" 2 sp_Span___getitem__) (m_Span_many : CalP P w K mg base (BM K (some mg)) 1 "Span" "many" sp_Span_many) (m_Span___contains__ : CalM P w K mg base (BM K (some mg)) 3 "Span" "__contains__" 2 sp_Span___contains__) (m_Span_first : CalP P w K mg base (BM K (some mg)) 1 "Span" "first" sp_Span_first) (m_Span___init__ : CalIX P w K mg base (BM K (some mg)) 3 "Span" 2 sp_Span___init__) (m_Span___eq__ : CalM P w K mg base (BM K (some mg)) 1 "Span" "__eq__" 2 sp_Span___eq__) (m_Span___or__ : CalM P w K mg base (BM K (some mg)) 5 "Span" "__or__" 2 sp_Span___or__) (m_Span___and__ : CalMX P w K mg base (BM K (some mg)) 5 "Span" "__and__" 2 sp_Span___and__)
    (hp : ∀ (ds : List D) (s : BS) (Ψ : Ret → BS → Prop), ds.length = 3 → sp__law_are_places_right ds s Ψ → ff__law_are_places_right { nx := fun _ s => Ψ (.d .non) s, rt := Ψ } (startR ["bag", "span", "pair", "at", "told", "is_all", "first", "many", "low", "high", "that", "part"] ds) s) : Cal P w K mg base (BM K (some mg)) 6 "_law_are_places_right" 3 sp__law_are_places_right :=
  have sc := sc__law_are_places_right
  cal_of F sc__law_are_places_right rfl (by decide) (ff := ff__law_are_places_right) (fun f cdv Ar out s H E hg hr => ⟨_,
  (zs_cons (z_par 6 7 sc.nd rfl (qx_v (q_ixn (k := 0) (q_v 2)) (qx_v (q_bin bo_add (q_bin bo_sub (q_ixn (k := 1) (q_v 2)) (q_ixn (k := 0) (q_v 2))) q_int) qx_nil)))
  (zs_cons (z_par 8 9 sc.nd rfl (qx_v (q_bin bo_mod (q_nt nb_int T.int (ql_cons (q_low (q_call c__law_far hg (hr.mono (by decide)) (ql_cons (q_v 0) ql_nil))) ql_nil)) (q_v 7)) (qx_v (q_bin bo_mod (q_nt nb_int T.int (ql_cons (q_low (q_call c__law_far hg (hr.mono (by decide)) (ql_cons (q_v 0) ql_nil))) ql_nil)) (q_v 7)) qx_nil)))
  (zs_cons (z_if (qt_not (qt_val (q_low (q_call c__law_same hg (hr.mono (by decide)) (ql_cons (q_lst (ql_cons (q_ixO (k := 3) takesN0 wish_none (mt_cons (m_Span___getitem__) mt_nil) (mt_cons T.fn_Span___getitem__ mt_nil) hg (hr.mono (by decide)) (q_v 1) (q_v 8)) (ql_cons (q_ixO (k := 3) takesN0 wish_none (mt_cons (m_Span___getitem__) mt_nil) (mt_cons T.fn_Span___getitem__ mt_nil) hg (hr.mono (by decide)) (q_v 1) (q_v 9)) (ql_cons (q_ixO (k := 3) takesN0 wish_none (mt_cons (m_Span___getitem__) mt_nil) (mt_cons T.fn_Span___getitem__ mt_nil) hg (hr.mono (by decide)) (q_v 1) (q_bin bo_sub (q_prop (k := 1) (mt_cons (m_Span_many) mt_nil) hg (hr.mono (by decide)) (q_v 1)) q_int)) ql_nil)))) (ql_cons (q_lst (ql_cons (q_bin bo_add (q_v 6) (q_v 8)) (ql_cons (q_bin bo_add (q_v 6) (q_v 9)) (ql_cons (q_ixn (k := 1) (q_v 2)) ql_nil)))) ql_nil)))))) (zs_one (z_ret q_bl)) zs_nil)
  (zs_cons (z_if (qt_not (qt_val (q_low (q_call c__law_same hg (hr.mono (by decide)) (ql_cons (q_lst (ql_cons (q_inO (k := 3) (mt_cons (m_Span___contains__) mt_nil) hg (hr.mono (by decide)) (q_ixO (k := 3) takesN0 wish_none (mt_cons (m_Span___getitem__) mt_nil) (mt_cons T.fn_Span___getitem__ mt_nil) hg (hr.mono (by decide)) (q_v 1) (q_v 8)) (q_v 1)) (ql_cons (q_inO (k := 3) (mt_cons (m_Span___contains__) mt_nil) hg (hr.mono (by decide)) (q_ixO (k := 3) takesN0 wish_none (mt_cons (m_Span___getitem__) mt_nil) (mt_cons T.fn_Span___getitem__ mt_nil) hg (hr.mono (by decide)) (q_v 1) (q_v 9)) (q_v 1)) (ql_cons (q_ixO (k := 3) takesN0 wish_none (mt_cons (m_Span___getitem__) mt_nil) (mt_cons T.fn_Span___getitem__ mt_nil) hg (hr.mono (by decide)) (q_v 1) (q_bin bo_sub (q_ixn (k := 1) (q_v 2)) (q_prop (k := 1) (mt_cons (m_Span_first) mt_nil) hg (hr.mono (by decide)) (q_v 1)))) ql_nil)))) (ql_cons (q_lst (ql_cons q_bl (ql_cons q_bl (ql_cons (q_ixn (k := 1) (q_v 2)) ql_nil)))) ql_nil)))))) (zs_one (z_ret q_bl)) zs_nil)
  (zs_cut (z_if (qt_cmp (co_lt) (q_ixn (k := 1) (q_v 2)) (q_gint T.c_LIMIT)) (zs_cons (z_set 10 sc.nd (q_makeX takesN0 wish_none m_Span___init__ hg (hr.mono (by decide)) (ql_cons (q_tup (ql_cons (q_bin bo_add (q_v 6) q_int) (ql_cons (q_bin bo_add (q_ixn (k := 1) (q_v 2)) q_int) ql_nil))) ql_nil)))
  (zs_one (z_if (qt_not (qt_val (q_low (q_call c__law_same hg (hr.mono (by decide)) (ql_cons (q_lst (ql_cons (q_eqO (k := 1) (mt_cons (m_Span___eq__) mt_nil) (nf_cons T.nf_Span_Span nf_nil) hg (hr.mono (by decide)) (q_v 10) (q_v 1)) (ql_cons (q_inO (k := 3) (mt_cons (m_Span___contains__) mt_nil) hg (hr.mono (by decide)) (q_v 10) (q_v 1)) (ql_cons (q_inO (k := 3) (mt_cons (m_Span___contains__) mt_nil) hg (hr.mono (by decide)) (q_v 1) (q_v 10)) ql_nil)))) (ql_cons (q_lst (ql_cons q_bl (ql_cons q_bl (ql_cons q_bl ql_nil)))) ql_nil)))))) (zs_one (z_ret q_bl)) zs_nil))) zs_nil)
  (zs_cons (z_for PassesOwn.never rfl (qi_seq (q_lst (ql_cons (q_v 7) (ql_cons (q_neg q_int) ql_nil)))) (qg_name 3 sc.nd)
   (zs_cons (z_if (qt_not (qt_val (q_low (q_call c__law_same hg (hr.mono (by decide)) (ql_cons (q_call c__law_no_place hg (hr.mono (by decide)) (ql_cons (q_v 1) (ql_cons (q_v 3) ql_nil))) (ql_cons (q_lst (ql_cons q_str (ql_cons (q_v 3) ql_nil))) ql_nil)))))) (zs_one (z_ret q_bl)) zs_nil)
  (zs_drop 3 zs_nil)))
  (zs_cons (z_try rfl rfl sc.nd takesN0 wish_none (tab_cons T.xt_BadSpan_BadSpan (tab_cons T.xt_NoPlace_BadSpan tab_nil)) (fun Wx pn xe tk w0 g0 Lk Xi wi => (zs_one (z_set 11 sc.nd (q_makeX tk wi m_Span___init__ hg (hr.mono (by decide)) (ql_cons (q_tup (ql_cons (q_ixO (k := 3) tk wi (mt_cons (m_Span___getitem__) mt_nil) (mt_cons T.fn_Span___getitem__ mt_nil) hg (hr.mono (by decide)) (q_v 1) (q_v 8)) (ql_cons (q_ixO (k := 3) tk wi (mt_cons (m_Span___getitem__) mt_nil) (mt_cons T.fn_Span___getitem__ mt_nil) hg (hr.mono (by decide)) (q_v 1) (q_v 9)) ql_nil))) ql_nil))))) (.one T.xl_BadSpan (fun _ _ _ _ _ _ _ => (zs_one (z_ret (q_cmp (co_gt) (q_v 8) (q_v 9))))) .nil))
  (zs_cons (z_if (qt_w (qw_or (qt_cmp (co_gt) (q_v 8) (q_v 9)) (qw_or1 (qt_not (qt_val (q_low (q_call c__law_is_like hg (hr.mono (by decide)) (ql_cons (q_v 11) (ql_cons (q_tup (ql_cons (q_bin bo_add (q_v 6) (q_v 8)) (ql_cons (q_bin bo_add (q_v 6) (q_v 9)) ql_nil))) ql_nil))))))))) (zs_one (z_ret q_bl)) zs_nil)
  (zs_cons (z_set 4 sc.nd (q_lst (ql_cons (q_inO (k := 3) (mt_cons (m_Span___contains__) mt_nil) hg (hr.mono (by decide)) (q_v 11) (q_v 1)) (ql_cons (q_inO (k := 3) (mt_cons (m_Span___contains__) mt_nil) hg (hr.mono (by decide)) (q_v 1) (q_v 11)) (ql_cons (q_eqO (k := 1) (mt_cons (m_Span___eq__) mt_nil) (nf_cons T.nf_Span_Span nf_nil) hg (hr.mono (by decide)) (q_v 11) (q_v 1)) (ql_cons (q_eqO (k := 1) (mt_cons (m_Span___eq__) mt_nil) (nf_cons T.nf_Span_Span nf_nil) hg (hr.mono (by decide)) (q_biO (k := 5) takesN0 wish_none (mt_cons (CalM.toX m_Span___or__) mt_nil) (mt_cons T.sf_Span mt_nil) hg (hr.mono (by decide)) (q_v 11) (q_v 1)) (q_v 1)) (ql_cons (q_eqO (k := 1) (mt_cons (m_Span___eq__) mt_nil) (nf_cons T.nf_Span_Span nf_nil) hg (hr.mono (by decide)) (q_biO (k := 5) takesN0 wish_none (mt_cons (m_Span___and__) mt_nil) (mt_cons T.sf_Span mt_nil) hg (hr.mono (by decide)) (q_v 11) (q_v 1)) (q_v 11)) ql_nil)))))))
  (zs_cons (z_set 5 sc.nd (q_and (q_cmp (co_eq hr.units) (q_v 8) q_int) (q_one (q_cmp (co_eq hr.units) (q_v 9) (q_bin bo_sub (q_v 7) q_int)))))
  (zs_one (z_ret (q_low (q_call c__law_same hg (hr.mono (by decide)) (ql_cons (q_v 4) (ql_cons (q_lst (ql_cons q_bl (ql_cons (q_v 5) (ql_cons (q_v 5) (ql_cons q_bl (ql_cons q_bl ql_nil)))))) ql_nil))))))))))))))))⟩) hp
abbrev st__law_are_two_right : Stmt := topS 24
theorem sc__law_are_two_right : FnScope ["bag", "one", "other", "pairs", "numbers", "x", "both", "told", "first", "second", "due", "over", "reach", "gap", "is_one", "is_other"] ["bag", "one", "other", "pairs"] (defScope st__law_are_two_right) := ⟨rfl, rfl, rfl, by decide +kernel, rfl, by decide +kernel, by decide +kernel⟩
def ff__law_are_two_right : FS BZ :=
  (fSeq (fAsg (fV 3) (hTup 2 (hCons (hName 8) (hCons (hName 9) hNil))))
  (fSeq (fPar [10, 11] (fXv (fCall sp__law_both (fCons (fV 8) (fCons (fV 9) fNil))) (fXv (fCall sp__law_over (fCons (fV 8) (fCons (fV 9) fNil))) fXn)))
  (fSeq (fPar [7, 12] (fXv (fCall sp__law_meet (fCons (fV 1) (fCons (fV 2) fNil))) (fXv (fBiO (fun _ _ _ => False) [("Span", (toX sp_Span___or__))] (fV 1) (fV 2)) fXn)))
  (fSeq (fIfS (fOrT (fTest (fBin dNe (fCB dLen (fCons (fV 7) fNil)) (fIf (fTest (fBin dIsN (fV 10) (fC .non))) (fC (.int 0)) (fC (.int 1))))) (fNotT (fTest (fCall sp__law_is_like (fCons (fV 12) (fCons (fV 11) fNil)))))) (fRet (fC (.bl false))) fNext)
  (fSeq (fIfS (fNotT (fTest (fCall (sp__law_same 1) (fCons (fLst (fCons (fEqO [("Span", sp_Span___eq__)] [("Span", "Span")] (fV 1) (fV 2)) (fCons (fEqO [("Span", sp_Span___eq__)] [("Span", "Span")] (fV 2) (fV 1)) fNil))) (fCons (fLst (fCons (fBin dEq (fV 8) (fV 9)) (fCons (fBin dEq (fV 8) (fV 9)) fNil))) fNil))))) (fRet (fC (.bl false))) fNext)
  (fSeq (fIfS (fNotT (fTest (fCall (sp__law_same 1) (fCons (fLst (fCons (fInO false [("Span", sp_Span___contains__)] (fV 1) (fV 12)) (fCons (fInO false [("Span", sp_Span___contains__)] (fV 2) (fV 12)) (fCons (fInO false [("Span", sp_Span___contains__)] (fV 12) (fV 1)) fNil)))) (fCons (fLst (fCons (fC (.bl true)) (fCons (fC (.bl true)) (fCons (fBin dEq (fV 11) (fV 8)) fNil)))) fNil))))) (fRet (fC (.bl false))) fNext)
  (fSeq (fIfS (fOrT (fNotT (fTest (fCall sp__law_is_like (fCons (fBiO (fun _ _ _ => False) [("Span", sp_Span___and__)] (fV 1) (fV 12)) (fCons (fV 8) fNil))))) (fNotT (fTest (fCall (sp__law_same 1) (fCons (fLst (fCons (fEqO [("Span", sp_Span___eq__)] [("Span", "Span")] (fBiO (fun _ _ _ => False) [("Span", sp_Span___and__)] (fV 1) (fV 12)) (fV 1)) (fCons (fEqO [("Span", sp_Span___eq__)] [("Span", "Span")] (fBiO (fun _ _ _ => False) [("Span", sp_Span___and__)] (fV 12) (fV 2)) (fV 2)) fNil))) (fCons (fLst (fCons (fC (.bl true)) (fCons (fC (.bl true)) fNil))) fNil)))))) (fRet (fC (.bl false))) fNext)
  (fSeq (fSetO 4 (fLstO (fCons (fBin (dIxN 0) (fV 8) (fC (.int 0))) (fCons (fBin (dIxN 1) (fV 8) (fC (.int 1))) (fCons (fBin (dIxN 0) (fV 9) (fC (.int 0))) (fCons (fBin (dIxN 1) (fV 9) (fC (.int 1))) (fCons (fBin dAdd (fBin (dIxN 1) (fV 8) (fC (.int 1))) (fC (.int 1))) (fCons (fBin (dI0 fun i j => .int (i - j)) (fBin (dIxN 0) (fV 9) (fC (.int 0))) (fC (.int 1))) fNil))))))))
  (fSeq (fApp 4 (fBin dAdd (fBin (dIxN 0) (fV 11) (fC (.int 0))) (fBin (dI (fun _ j => 0 < j) fun i j => .int (i % j)) (fCB dInt (fCons (fCall sp__law_far (fCons (fV 0) fNil)) fNil)) (fBin dAdd (fBin (dI0 fun i j => .int (i - j)) (fBin (dIxN 1) (fV 11) (fC (.int 1))) (fBin (dIxN 0) (fV 11) (fC (.int 0)))) (fC (.int 1))))))
  (fFrz 4 (fSeq (fFor (fIt (fV 4)) (hName 5)
   (fSeq (fPar [14, 15] (fXv (fAndV (fBin (dI0 fun i j => .bl (decide (i ≤ j))) (fBin (dIxN 0) (fV 8) (fC (.int 0))) (fV 5)) (fBin (dI0 fun i j => .bl (decide (i ≤ j))) (fV 5) (fBin (dIxN 1) (fV 8) (fC (.int 1))))) (fXv (fAndV (fBin (dI0 fun i j => .bl (decide (i ≤ j))) (fBin (dIxN 0) (fV 9) (fC (.int 0))) (fV 5)) (fBin (dI0 fun i j => .bl (decide (i ≤ j))) (fV 5) (fBin (dIxN 1) (fV 9) (fC (.int 1))))) fXn)))
  (fSeq (fIfS (fNotT (fTest (fCall (sp__law_same 1) (fCons (fLst (fCons (fInO false [("Span", sp_Span___contains__)] (fV 5) (fV 1)) (fCons (fInO false [("Span", sp_Span___contains__)] (fV 5) (fV 2)) (fCons (fInO false [("Span", sp_Span___contains__)] (fV 5) (fV 12)) fNil)))) (fCons (fLst (fCons (fV 14) (fCons (fV 15) (fCons (fAndV (fBin (dI0 fun i j => .bl (decide (i ≤ j))) (fBin (dIxN 0) (fV 11) (fC (.int 0))) (fV 5)) (fBin (dI0 fun i j => .bl (decide (i ≤ j))) (fV 5) (fBin (dIxN 1) (fV 11) (fC (.int 1))))) fNil)))) fNil))))) (fRet (fC (.bl false))) fNext)
  (fSeq (fIfS (fAndT (fTest (fBin dNotN (fV 10) (fC .non))) (fNotT (fTest (fCall (sp__law_same 1) (fCons (fInO false [("Span", sp_Span___contains__)] (fV 5) (fBin (dIxN 0) (fV 7) (fC (.int 0)))) (fCons (fAndV (fV 14) (fV 15)) fNil)))))) (fRet (fC (.bl false))) fNext)
  (fDrop 5 (fDrop 14 (fDrop 15 fNext)))))))
  (fSeq (fIfS (fTest (fBin dIsN (fV 10) (fC .non))) (fSeq (fSet 13 (fBin (dI0 fun i j => .int (i - j)) (fIf (fTest (fBin (dI0 fun i j => .bl (decide (i < j))) (fBin (dIxN 1) (fV 8) (fC (.int 1))) (fBin (dIxN 0) (fV 9) (fC (.int 0))))) (fBin (dI0 fun i j => .int (i - j)) (fBin (dIxN 0) (fV 9) (fC (.int 0))) (fBin (dIxN 1) (fV 8) (fC (.int 1)))) (fBin (dI0 fun i j => .int (i - j)) (fBin (dIxN 0) (fV 8) (fC (.int 0))) (fBin (dIxN 1) (fV 9) (fC (.int 1))))) (fC (.int 1))))
  (fRet (fAndV (fCall (sp__law_same 1) (fCons (fProp [("Span", sp_Span_many)] (fV 12)) (fCons (fBin dAdd (fBin dAdd (fProp [("Span", sp_Span_many)] (fV 1)) (fProp [("Span", sp_Span_many)] (fV 2))) (fV 13)) fNil))) (fBin dEq (fCall sp__law_meet (fCons (fV 2) (fCons (fV 1) fNil))) (fLst fNil))))) fNext)
  (fSeq (fSet 6 (fBin (dIxN 0) (fV 7) (fC (.int 0))))
  (fSeq (fIfS (fOrT (fNotT (fTest (fCall sp__law_is_like (fCons (fV 6) (fCons (fV 10) fNil))))) (fNotT (fTest (fCall (sp__law_same 1) (fCons (fProp [("Span", sp_Span_many)] (fV 12)) (fCons (fBin (dI0 fun i j => .int (i - j)) (fBin dAdd (fProp [("Span", sp_Span_many)] (fV 1)) (fProp [("Span", sp_Span_many)] (fV 2))) (fProp [("Span", sp_Span_many)] (fV 6))) fNil)))))) (fRet (fC (.bl false))) fNext)
  (fSeq (fSet 7 (fLst (fCons (fInO false [("Span", sp_Span___contains__)] (fV 6) (fV 1)) (fCons (fInO false [("Span", sp_Span___contains__)] (fV 6) (fV 2)) (fCons (fEqO [("Span", sp_Span___eq__)] [("Span", "Span")] (fBiO (fun _ _ _ => False) [("Span", (toX sp_Span___or__))] (fV 1) (fV 6)) (fV 1)) (fCons (fEqO [("Span", sp_Span___eq__)] [("Span", "Span")] (fV 6) (fBiO (fun _ _ _ => False) [("Span", sp_Span___and__)] (fV 2) (fV 1))) (fCons (fInO false [("Span", sp_Span___contains__)] (fV 6) (fV 12)) fNil)))))))
  (fRet (fCall (sp__law_same 1) (fCons (fV 7) (fCons (fBin dMul (fLst (fCons (fC (.bl true)) fNil)) (fC (.int 5))) fNil)))))))))))))))))))
theorem ok__law_are_two_right (T : Tx K mg) (F : Dfn K mg "_law_are_two_right" st__law_are_two_right ["bag", "one", "other", "pairs"]) (c__law_both : Cal P w K mg base (BM K (some mg)) 1 "_law_both" 2 sp__law_both) (c__law_over : Cal P w K mg base (BM K (some mg)) 1 "_law_over" 2 sp__law_over) (c__law_meet : Cal P w K mg base (BM K (some mg)) 6 "_law_meet" 2 sp__law_meet) (c__law_is_like : Cal P w K mg base (BM K (some mg)) 3 "_law_is_like" 2 sp__law_is_like) (c__law_same : Cal P w K mg base (BM K (some mg)) 2 "_law_same" 2 (sp__law_same 1)) (c__law_far : Cal P w K mg base (BM K (some mg)) 2 "_law_far" 1 sp__law_far) (m_Span___or__ : CalM P w K mg base (BM K (some mg)) 5 "Span" "__or__" 2 sp_Span___or__) (m_Span___eq__ : CalM P w K mg base (BM K (some mg)) 1 "Span" "__eq__" 2 sp_Span___eq__) (m_Span___contains__ : CalM P w K mg base (BM K (some mg)) 3 "Span" "__contains__" 2 sp_Span___contains__) (m_Span___and__ : CalMX P w K mg base (BM K (some mg)) 5 "Span" "__and__" 2 sp_Span___and__) (m_Span_many : CalP P w K mg base (BM K (some mg)) 1 "Span" "many" sp_Span_many)
    (hp : ∀ (ds : List D) (s : BS) (Ψ : Ret → BS → Prop), ds.length = 4 → sp__law_are_two_right ds s Ψ → ff__law_are_two_right { nx := fun _ s => Ψ (.d .non) s, rt := Ψ } (startR ["bag", "one", "other", "pairs", "numbers", "x", "both", "told", "first", "second", "due", "over", "reach", "gap", "is_one", "is_other"] ds) s) : Cal P w K mg base (BM K (some mg)) 7 "_law_are_two_right" 4 sp__law_are_two_right :=
  have sc := sc__law_are_two_right
  cal_of F sc__law_are_two_right rfl (by decide) (ff := ff__law_are_two_right) (fun f cdv Ar out s H E hg hr => ⟨_,
  (zs_cons (z_asg (q_v 3) (qg_tup rfl (qgs_cons (qg_name 8 sc.nd) (qgs_cons (qg_name 9 sc.nd) qgs_nil))))
  (zs_cons (z_par 10 11 sc.nd rfl (qx_v (q_call c__law_both hg (hr.mono (by decide)) (ql_cons (q_v 8) (ql_cons (q_v 9) ql_nil))) (qx_v (q_call c__law_over hg (hr.mono (by decide)) (ql_cons (q_v 8) (ql_cons (q_v 9) ql_nil))) qx_nil)))
  (zs_cons (z_par 7 12 sc.nd rfl (qx_v (q_call c__law_meet hg (hr.mono (by decide)) (ql_cons (q_v 1) (ql_cons (q_v 2) ql_nil))) (qx_v (q_biO (k := 5) takesN0 wish_none (mt_cons (CalM.toX m_Span___or__) mt_nil) (mt_cons T.sf_Span mt_nil) hg (hr.mono (by decide)) (q_v 1) (q_v 2)) qx_nil)))
  (zs_cons (z_if (qt_w (qw_or (qt_cmp (co_ne hr.units) (q_nb (nb_len) T.len (ql_cons (q_v 7) ql_nil)) (q_if (qt_cmp (co_is) (q_v 10) q_non) q_int q_int)) (qw_or1 (qt_not (qt_val (q_low (q_call c__law_is_like hg (hr.mono (by decide)) (ql_cons (q_v 12) (ql_cons (q_v 11) ql_nil))))))))) (zs_one (z_ret q_bl)) zs_nil)
  (zs_cons (z_if (qt_not (qt_val (q_low (q_call c__law_same hg (hr.mono (by decide)) (ql_cons (q_lst (ql_cons (q_eqO (k := 1) (mt_cons (m_Span___eq__) mt_nil) (nf_cons T.nf_Span_Span nf_nil) hg (hr.mono (by decide)) (q_v 1) (q_v 2)) (ql_cons (q_eqO (k := 1) (mt_cons (m_Span___eq__) mt_nil) (nf_cons T.nf_Span_Span nf_nil) hg (hr.mono (by decide)) (q_v 2) (q_v 1)) ql_nil))) (ql_cons (q_lst (ql_cons (q_cmp (co_eq hr.units) (q_v 8) (q_v 9)) (ql_cons (q_cmp (co_eq hr.units) (q_v 8) (q_v 9)) ql_nil))) ql_nil)))))) (zs_one (z_ret q_bl)) zs_nil)
  (zs_cons (z_if (qt_not (qt_val (q_low (q_call c__law_same hg (hr.mono (by decide)) (ql_cons (q_lst (ql_cons (q_inO (k := 3) (mt_cons (m_Span___contains__) mt_nil) hg (hr.mono (by decide)) (q_v 1) (q_v 12)) (ql_cons (q_inO (k := 3) (mt_cons (m_Span___contains__) mt_nil) hg (hr.mono (by decide)) (q_v 2) (q_v 12)) (ql_cons (q_inO (k := 3) (mt_cons (m_Span___contains__) mt_nil) hg (hr.mono (by decide)) (q_v 12) (q_v 1)) ql_nil)))) (ql_cons (q_lst (ql_cons q_bl (ql_cons q_bl (ql_cons (q_cmp (co_eq hr.units) (q_v 11) (q_v 8)) ql_nil)))) ql_nil)))))) (zs_one (z_ret q_bl)) zs_nil)
  (zs_cons (z_if (qt_w (qw_or (qt_not (qt_val (q_low (q_call c__law_is_like hg (hr.mono (by decide)) (ql_cons (q_biO (k := 5) takesN0 wish_none (mt_cons (m_Span___and__) mt_nil) (mt_cons T.sf_Span mt_nil) hg (hr.mono (by decide)) (q_v 1) (q_v 12)) (ql_cons (q_v 8) ql_nil)))))) (qw_or1 (qt_not (qt_val (q_low (q_call c__law_same hg (hr.mono (by decide)) (ql_cons (q_lst (ql_cons (q_eqO (k := 1) (mt_cons (m_Span___eq__) mt_nil) (nf_cons T.nf_Span_Span nf_nil) hg (hr.mono (by decide)) (q_biO (k := 5) takesN0 wish_none (mt_cons (m_Span___and__) mt_nil) (mt_cons T.sf_Span mt_nil) hg (hr.mono (by decide)) (q_v 1) (q_v 12)) (q_v 1)) (ql_cons (q_eqO (k := 1) (mt_cons (m_Span___eq__) mt_nil) (nf_cons T.nf_Span_Span nf_nil) hg (hr.mono (by decide)) (q_biO (k := 5) takesN0 wish_none (mt_cons (m_Span___and__) mt_nil) (mt_cons T.sf_Span mt_nil) hg (hr.mono (by decide)) (q_v 12) (q_v 2)) (q_v 2)) ql_nil))) (ql_cons (q_lst (ql_cons q_bl (ql_cons q_bl ql_nil))) ql_nil))))))))) (zs_one (z_ret q_bl)) zs_nil)
  (zs_cons (z_setO 4 sc.nd (qo_lst (ql_cons (q_ixn (k := 0) (q_v 8)) (ql_cons (q_ixn (k := 1) (q_v 8)) (ql_cons (q_ixn (k := 0) (q_v 9)) (ql_cons (q_ixn (k := 1) (q_v 9)) (ql_cons (q_bin bo_add (q_ixn (k := 1) (q_v 8)) q_int) (ql_cons (q_bin bo_sub (q_ixn (k := 0) (q_v 9)) q_int) ql_nil))))))))
  (zs_cons (z_app 4 (q_bin bo_add (q_ixn (k := 0) (q_v 11)) (q_bin bo_mod (q_nt nb_int T.int (ql_cons (q_low (q_call c__law_far hg (hr.mono (by decide)) (ql_cons (q_v 0) ql_nil))) ql_nil)) (q_bin bo_add (q_bin bo_sub (q_ixn (k := 1) (q_v 11)) (q_ixn (k := 0) (q_v 11))) q_int))))
  (zs_frz 4 (zs_cons (z_for PassesOwn.never rfl (qi_seq (q_v 4)) (qg_name 5 sc.nd)
   (zs_cons (z_par 14 15 sc.nd rfl (qx_v (q_and (q_cmp (co_le) (q_ixn (k := 0) (q_v 8)) (q_v 5)) (q_one (q_cmp (co_le) (q_v 5) (q_ixn (k := 1) (q_v 8))))) (qx_v (q_and (q_cmp (co_le) (q_ixn (k := 0) (q_v 9)) (q_v 5)) (q_one (q_cmp (co_le) (q_v 5) (q_ixn (k := 1) (q_v 9))))) qx_nil)))
  (zs_cons (z_if (qt_not (qt_val (q_low (q_call c__law_same hg (hr.mono (by decide)) (ql_cons (q_lst (ql_cons (q_inO (k := 3) (mt_cons (m_Span___contains__) mt_nil) hg (hr.mono (by decide)) (q_v 5) (q_v 1)) (ql_cons (q_inO (k := 3) (mt_cons (m_Span___contains__) mt_nil) hg (hr.mono (by decide)) (q_v 5) (q_v 2)) (ql_cons (q_inO (k := 3) (mt_cons (m_Span___contains__) mt_nil) hg (hr.mono (by decide)) (q_v 5) (q_v 12)) ql_nil)))) (ql_cons (q_lst (ql_cons (q_v 14) (ql_cons (q_v 15) (ql_cons (q_and (q_cmp (co_le) (q_ixn (k := 0) (q_v 11)) (q_v 5)) (q_one (q_cmp (co_le) (q_v 5) (q_ixn (k := 1) (q_v 11))))) ql_nil)))) ql_nil)))))) (zs_one (z_ret q_bl)) zs_nil)
  (zs_cons (z_if (qt_w (qw_and (qt_cmp (co_isn) (q_v 10) q_non) (qw_and1 (qt_not (qt_val (q_low (q_call c__law_same hg (hr.mono (by decide)) (ql_cons (q_inO (k := 3) (mt_cons (m_Span___contains__) mt_nil) hg (hr.mono (by decide)) (q_v 5) (q_ixn (k := 0) (q_v 7))) (ql_cons (q_and (q_v 14) (q_one (q_v 15))) ql_nil))))))))) (zs_one (z_ret q_bl)) zs_nil)
  (zs_drop 5 (zs_drop 14 (zs_drop 15 zs_nil)))))))
  (zs_cons (z_if (qt_cmp (co_is) (q_v 10) q_non) (zs_cons (z_set 13 sc.nd (q_bin bo_sub (q_if (qt_cmp (co_lt) (q_ixn (k := 1) (q_v 8)) (q_ixn (k := 0) (q_v 9))) (q_bin bo_sub (q_ixn (k := 0) (q_v 9)) (q_ixn (k := 1) (q_v 8))) (q_bin bo_sub (q_ixn (k := 0) (q_v 8)) (q_ixn (k := 1) (q_v 9)))) q_int))
  (zs_one (z_ret (q_and (q_low (q_call c__law_same hg (hr.mono (by decide)) (ql_cons (q_prop (k := 1) (mt_cons (m_Span_many) mt_nil) hg (hr.mono (by decide)) (q_v 12)) (ql_cons (q_bin bo_add (q_bin bo_add (q_prop (k := 1) (mt_cons (m_Span_many) mt_nil) hg (hr.mono (by decide)) (q_v 1)) (q_prop (k := 1) (mt_cons (m_Span_many) mt_nil) hg (hr.mono (by decide)) (q_v 2))) (q_v 13)) ql_nil)))) (q_one (q_cmp (co_eq hr.units) (q_low (q_call c__law_meet hg (hr.mono (by decide)) (ql_cons (q_v 2) (ql_cons (q_v 1) ql_nil)))) (q_lst ql_nil))))))) zs_nil)
  (zs_cons (z_set 6 sc.nd (q_ixn (k := 0) (q_v 7)))
  (zs_cons (z_if (qt_w (qw_or (qt_not (qt_val (q_low (q_call c__law_is_like hg (hr.mono (by decide)) (ql_cons (q_v 6) (ql_cons (q_v 10) ql_nil)))))) (qw_or1 (qt_not (qt_val (q_low (q_call c__law_same hg (hr.mono (by decide)) (ql_cons (q_prop (k := 1) (mt_cons (m_Span_many) mt_nil) hg (hr.mono (by decide)) (q_v 12)) (ql_cons (q_bin bo_sub (q_bin bo_add (q_prop (k := 1) (mt_cons (m_Span_many) mt_nil) hg (hr.mono (by decide)) (q_v 1)) (q_prop (k := 1) (mt_cons (m_Span_many) mt_nil) hg (hr.mono (by decide)) (q_v 2))) (q_prop (k := 1) (mt_cons (m_Span_many) mt_nil) hg (hr.mono (by decide)) (q_v 6))) ql_nil))))))))) (zs_one (z_ret q_bl)) zs_nil)
  (zs_cons (z_set 7 sc.nd (q_lst (ql_cons (q_inO (k := 3) (mt_cons (m_Span___contains__) mt_nil) hg (hr.mono (by decide)) (q_v 6) (q_v 1)) (ql_cons (q_inO (k := 3) (mt_cons (m_Span___contains__) mt_nil) hg (hr.mono (by decide)) (q_v 6) (q_v 2)) (ql_cons (q_eqO (k := 1) (mt_cons (m_Span___eq__) mt_nil) (nf_cons T.nf_Span_Span nf_nil) hg (hr.mono (by decide)) (q_biO (k := 5) takesN0 wish_none (mt_cons (CalM.toX m_Span___or__) mt_nil) (mt_cons T.sf_Span mt_nil) hg (hr.mono (by decide)) (q_v 1) (q_v 6)) (q_v 1)) (ql_cons (q_eqO (k := 1) (mt_cons (m_Span___eq__) mt_nil) (nf_cons T.nf_Span_Span nf_nil) hg (hr.mono (by decide)) (q_v 6) (q_biO (k := 5) takesN0 wish_none (mt_cons (m_Span___and__) mt_nil) (mt_cons T.sf_Span mt_nil) hg (hr.mono (by decide)) (q_v 2) (q_v 1))) (ql_cons (q_inO (k := 3) (mt_cons (m_Span___contains__) mt_nil) hg (hr.mono (by decide)) (q_v 6) (q_v 12)) ql_nil)))))))
  (zs_one (z_ret (q_low (q_call c__law_same hg (hr.mono (by decide)) (ql_cons (q_v 7) (ql_cons (q_bin bo_mul (q_lst (ql_cons q_bl ql_nil)) q_int) ql_nil)))))))))))))))))))))⟩) hp
abbrev st__law_are_folds_right : Stmt := topS 25
theorem sc__law_are_folds_right : FnScope ["spans", "pairs", "over", "due", "both", "rest", "span", "pair", "told"] ["spans", "pairs"] (defScope st__law_are_folds_right) := ⟨rfl, rfl, rfl, by decide +kernel, rfl, by decide +kernel, by decide +kernel⟩
def ff__law_are_folds_right : FS BZ :=
  (fSeq (fPar [2, 3, 4, 5] (fXv (fBin (dIxN 0) (fV 0) (fC (.int 0))) (fXv (fBin (dIxN 0) (fV 1) (fC (.int 0))) (fXv (fBin (dIxN 0) (fV 0) (fC (.int 0))) (fXv (fBin (dIxN 0) (fV 1) (fC (.int 0))) fXn)))))
  (fSeq (fFor (fZip (fV 0) (fV 1)) (hTup 2 (hCons (hName 6) (hCons (hName 7) hNil)))
   (fSeq (fPar [2, 3] (fXv (fBiO (fun _ _ _ => False) [("Span", (toX sp_Span___or__))] (fV 2) (fV 6)) (fXv (fCall sp__law_over (fCons (fV 3) (fCons (fV 7) fNil))) fXn)))
  (fSeq (fIfS (fNotT (fTest (fCall sp__law_is_like (fCons (fV 2) (fCons (fV 3) fNil))))) (fRet (fC (.bl false))) fNext)
  (fCut (fIfS (fTest (fBin dNotN (fV 5) (fC .non))) (fSeq (fPar [8, 5] (fXv (fCall sp__law_meet (fCons (fV 4) (fCons (fV 6) fNil))) (fXv (fCall sp__law_both (fCons (fV 5) (fCons (fV 7) fNil))) fXn)))
  (fSeq (fIfS (fTest (fBin dNe (fCB dLen (fCons (fV 8) fNil)) (fIf (fTest (fBin dIsN (fV 5) (fC .non))) (fC (.int 0)) (fC (.int 1))))) (fRet (fC (.bl false))) fNext)
  (fSeq (fSet 4 (fIf (fTest (fBin (dEqN true) (fV 8) (fLst fNil))) (fBin (dIxN 0) (fV 8) (fC (.int 0))) (fV 4)))
  (fIfS (fAndT (fTest (fBin dNotN (fV 5) (fC .non))) (fNotT (fTest (fCall sp__law_is_like (fCons (fV 4) (fCons (fV 5) fNil)))))) (fRet (fC (.bl false))) fNext)))) fNext)
  (fDrop 6 (fDrop 7 fNext))))))
  (fRet (fCB dAll (fCons (fOV (fLc (fIt (fV 0)) [6] (hName 6) (fun _ s Φ => Φ true s) (fCall (sp__law_same 1) (fCons (fInO false [("Span", sp_Span___contains__)] (fV 6) (fV 2)) (fCons (fC (.bl true)) fNil))))) fNil)))))
theorem ok__law_are_folds_right (T : Tx K mg) (F : Dfn K mg "_law_are_folds_right" st__law_are_folds_right ["spans", "pairs"]) (c__law_over : Cal P w K mg base (BM K (some mg)) 1 "_law_over" 2 sp__law_over) (c__law_is_like : Cal P w K mg base (BM K (some mg)) 3 "_law_is_like" 2 sp__law_is_like) (c__law_meet : Cal P w K mg base (BM K (some mg)) 6 "_law_meet" 2 sp__law_meet) (c__law_both : Cal P w K mg base (BM K (some mg)) 1 "_law_both" 2 sp__law_both) (c__law_same : Cal P w K mg base (BM K (some mg)) 2 "_law_same" 2 (sp__law_same 1)) (m_Span___or__ : CalM P w K mg base (BM K (some mg)) 5 "Span" "__or__" 2 sp_Span___or__) (m_Span___contains__ : CalM P w K mg base (BM K (some mg)) 3 "Span" "__contains__" 2 sp_Span___contains__)
    (hp : ∀ (ds : List D) (s : BS) (Ψ : Ret → BS → Prop), ds.length = 2 → sp__law_are_folds_right ds s Ψ → ff__law_are_folds_right { nx := fun _ s => Ψ (.d .non) s, rt := Ψ } (startR ["spans", "pairs", "over", "due", "both", "rest", "span", "pair", "told"] ds) s) : Cal P w K mg base (BM K (some mg)) 7 "_law_are_folds_right" 2 sp__law_are_folds_right :=
  have sc := sc__law_are_folds_right
  cal_of F sc__law_are_folds_right rfl (by decide) (ff := ff__law_are_folds_right) (fun f cdv Ar out s H E hg hr => ⟨_,
  (zs_cons (z_parT rfl (qn_cons 2 sc.nd (qn_cons 3 sc.nd (qn_cons 4 sc.nd (qn_cons 5 sc.nd qn_nil)))) (qx_v (q_ixn (k := 0) (q_v 0)) (qx_v (q_ixn (k := 0) (q_v 1)) (qx_v (q_ixn (k := 0) (q_v 0)) (qx_v (q_ixn (k := 0) (q_v 1)) qx_nil)))))
  (zs_cons (z_for PassesOwn.never rfl (qi_zip T.zip (q_v 0) (q_v 1)) (qg_tup rfl (qgs_cons (qg_name 6 sc.nd) (qgs_cons (qg_name 7 sc.nd) qgs_nil)))
   (zs_cons (z_parT rfl (qn_cons 2 sc.nd (qn_cons 3 sc.nd qn_nil)) (qx_v (q_biO (k := 5) takesN0 wish_none (mt_cons (CalM.toX m_Span___or__) mt_nil) (mt_cons T.sf_Span mt_nil) hg (hr.mono (by decide)) (q_v 2) (q_v 6)) (qx_v (q_call c__law_over hg (hr.mono (by decide)) (ql_cons (q_v 3) (ql_cons (q_v 7) ql_nil))) qx_nil)))
  (zs_cons (z_if (qt_not (qt_val (q_low (q_call c__law_is_like hg (hr.mono (by decide)) (ql_cons (q_v 2) (ql_cons (q_v 3) ql_nil)))))) (zs_one (z_ret q_bl)) zs_nil)
  (zs_cut (z_if (qt_cmp (co_isn) (q_v 5) q_non) (zs_cons (z_par 8 5 sc.nd rfl (qx_v (q_call c__law_meet hg (hr.mono (by decide)) (ql_cons (q_v 4) (ql_cons (q_v 6) ql_nil))) (qx_v (q_call c__law_both hg (hr.mono (by decide)) (ql_cons (q_v 5) (ql_cons (q_v 7) ql_nil))) qx_nil)))
  (zs_cons (z_if (qt_cmp (co_ne hr.units) (q_nb (nb_len) T.len (ql_cons (q_v 8) ql_nil)) (q_if (qt_cmp (co_is) (q_v 5) q_non) q_int q_int)) (zs_one (z_ret q_bl)) zs_nil)
  (zs_cons (z_set 4 sc.nd (q_if (qt_cmp (co_neN (Nat.lt_of_le_of_lt (Nat.le_add_right _ 64) hr.units)) (q_v 8) (q_lst ql_nil)) (q_ixn (k := 0) (q_v 8)) (q_v 4)))
  (zs_one (z_if (qt_w (qw_and (qt_cmp (co_isn) (q_v 5) q_non) (qw_and1 (qt_not (qt_val (q_low (q_call c__law_is_like hg (hr.mono (by decide)) (ql_cons (q_v 4) (ql_cons (q_v 5) ql_nil))))))))) (zs_one (z_ret q_bl)) zs_nil))))) zs_nil)
  (zs_drop 6 (zs_drop 7 zs_nil))))))
  (zs_one (z_ret (q_nb (nb_all rfl) T.all (ql_cons (q_ov (qo_lc [("span", 6)] rfl sc.nd (qi_seq (q_v 0)) (blkOk_by (by rfl)) (fun _ _ _ _ _ => (qg_name 6 sc.nd)) (fun _ _ _ _ _ => qts_nil) (fun _ _ _ _ _ => (q_call c__law_same hg (hr.mono (by decide)) (ql_cons (q_inO (k := 3) (mt_cons (m_Span___contains__) mt_nil) hg (hr.mono (by decide)) (q_v 6) (q_v 2)) (ql_cons q_bl ql_nil)))))) ql_nil))))))⟩) hp
abbrev st_law : Stmt := topS 26
theorem sc_law : FnScope ["script", "bag", "pairs", "spans", "turn", "due", "pair", "i", "j", "k", "one", "other", "first", "second", "many", "low", "high", "span"] ["script"] (defScope st_law) := ⟨rfl, rfl, rfl, by decide +kernel, rfl, by decide +kernel, by decide +kernel⟩
def ff_law : FS BZ :=
  (fSeq (fSet 1 (fCall sp_bag0 (fCons (fV 0) fNil)))
  (fSeq (fSetO 2 (fCallO sp__law_row (fCons (fV 1) fNil)))
  (fSeq (fSetO 3 (fThO [2] (fLc (fIt (fV 2)) [6] (hName 6) (fun _ s Φ => Φ true s) (fMakeX (fun _ _ _ => False) "Span" sp_Span___init__ (fCons (fV 6) fNil)))))
  (fSeq (fIfS (fThT [3, 2] (fNotT (fTest (fCall sp__law_are_folds_right (fCons (fV 3) (fCons (fV 2) fNil)))))) (fRet (fC (.bl false))) fNext)
  (fSeq (fFor (fRg1 (fCons (fC (.int 30)) fNil)) (hName 4)
   (fSeq (fPar [7, 8, 9] (fXv (fCall sp_draw (fCons (fV 1) (fCons (fC (.int 6)) fNil))) (fXv (fCall sp_draw (fCons (fV 1) (fCons (fC (.int 6)) fNil))) (fXv (fCall sp_draw (fCons (fV 1) (fCons (fC (.int 6)) fNil))) fXn))))
  (fSeq (fPar [10, 11, 12, 13] (fXv (fBin dIx (fW 3) (fV 7)) (fXv (fBin dIx (fW 3) (fV 8)) (fXv (fBin dIx (fW 2) (fV 7)) (fXv (fBin dIx (fW 2) (fV 8)) fXn)))))
  (fCut (fIfS (fTest (fBin dEq (fCall sp_draw (fCons (fV 1) (fCons (fC (.int 2)) fNil))) (fC (.int 0)))) (fSeq (fSet 14 (fBin dAdd (fBin (dI0 fun i j => .int (i - j)) (fBin (dIxN 1) (fV 13) (fC (.int 1))) (fBin (dIxN 0) (fV 13) (fC (.int 0)))) (fC (.int 1))))
  (fSeq (fSet 15 (fBin (dI (fun _ j => 0 < j) fun i j => .int (i % j)) (fCB dInt (fCons (fCall sp__law_far (fCons (fV 1) fNil)) fNil)) (fV 14)))
  (fSeq (fSet 16 (fBin dAdd (fV 15) (fBin (dI (fun _ j => 0 < j) fun i j => .int (i % j)) (fCB dInt (fCons (fCall sp__law_far (fCons (fV 1) fNil)) fNil)) (fBin (dI0 fun i j => .int (i - j)) (fV 14) (fV 15)))))
  (fPar [11, 13] (fXv (fMakeX (fun _ _ _ => False) "Span" sp_Span___init__ (fCons (fTup (fCons (fIxO (fun _ _ _ => False) [("Span", sp_Span___getitem__)] (fV 11) (fV 15)) (fCons (fIxO (fun _ _ _ => False) [("Span", sp_Span___getitem__)] (fV 11) (fV 16)) fNil))) fNil)) (fXv (fTup (fCons (fBin dAdd (fBin (dIxN 0) (fV 13) (fC (.int 0))) (fV 15)) (fCons (fBin dAdd (fBin (dIxN 0) (fV 13) (fC (.int 0))) (fV 16)) fNil))) fXn)))))) fNext)
  (fSeq (fIfS (fOrT (fNotT (fTest (fCall sp__law_are_two_right (fCons (fV 1) (fCons (fV 10) (fCons (fV 11) (fCons (fTup (fCons (fV 12) (fCons (fV 13) fNil))) fNil))))))) (fNotT (fTest (fCall sp__law_are_places_right (fCons (fV 1) (fCons (fV 10) (fCons (fV 12) fNil))))))) (fRet (fC (.bl false))) fNext)
  (fSeq (fSet 5 (fCall sp__law_both (fCons (fV 12) (fCons (fV 13) fNil))))
  (fCut (fIfS (fAndT (fTest (fBin dNotN (fV 5) (fC .non))) (fTest (fBin (dI0 fun i j => .bl (decide (j < i))) (fCall sp_draw (fCons (fV 1) (fCons (fC (.int 3)) fNil))) (fC (.int 0))))) (fStore2 3 (fV 9) (fBiO (fun _ _ _ => False) [("Span", sp_Span___and__)] (fV 10) (fV 11)) 2 (fV 9) (fV 5)) (fIfS (fTest (fBin dEq (fCall sp_draw (fCons (fV 1) (fCons (fC (.int 2)) fNil))) (fC (.int 0)))) (fStore2 3 (fV 9) (fBiO (fun _ _ _ => False) [("Span", (toX sp_Span___or__))] (fV 10) (fV 11)) 2 (fV 9) (fCall sp__law_over (fCons (fV 12) (fCons (fV 13) fNil)))) (fSeq (fStore 2 (fV 9) (fCall sp__law_some_pair (fCons (fV 1) fNil)))
  (fStore 3 (fV 9) (fMakeX (fun _ _ _ => False) "Span" sp_Span___init__ (fCons (fBin dIx (fW 2) (fV 9)) fNil))))))
  (fSeq (fIfS (fThT [3, 2] (fNotT (fTest (fCB dAll (fCons (fOV (fLc (fZip (fV 3) (fV 2)) [17, 6] (hTup 2 (hCons (hName 17) (hCons (hName 6) hNil))) (fun _ s Φ => Φ true s) (fCall sp__law_is_like (fCons (fV 17) (fCons (fV 6) fNil))))) fNil))))) (fRet (fC (.bl false))) fNext)
  (fDrop 4 (fDrop 7 (fDrop 8 (fDrop 9 (fDrop 10 (fDrop 11 (fDrop 12 (fDrop 13 (fDrop 5 fNext)))))))))))))))))
  (fFrz 2 (fFrz 3 (fRet (fCall sp__law_are_folds_right (fCons (fV 3) (fCons (fV 2) fNil)))))))))))
theorem ok_law (T : Tx K mg) (F : Dfn K mg "law" st_law ["script"]) (c__law_own_bag : Cal P w K mg base (BM K (some mg)) 1 "_law_own_bag" 1 sp_bag0) (c__law_row : Cal P w K mg base (BM K (some mg)) 4 "_law_row" 1 sp__law_row) (c__law_are_folds_right : Cal P w K mg base (BM K (some mg)) 7 "_law_are_folds_right" 2 sp__law_are_folds_right) (c__law_draw : Cal P w K mg base (BM K (some mg)) 1 "_law_draw" 2 sp_draw) (c__law_far : Cal P w K mg base (BM K (some mg)) 2 "_law_far" 1 sp__law_far) (c__law_are_two_right : Cal P w K mg base (BM K (some mg)) 7 "_law_are_two_right" 4 sp__law_are_two_right) (c__law_are_places_right : Cal P w K mg base (BM K (some mg)) 6 "_law_are_places_right" 3 sp__law_are_places_right) (c__law_both : Cal P w K mg base (BM K (some mg)) 1 "_law_both" 2 sp__law_both) (c__law_over : Cal P w K mg base (BM K (some mg)) 1 "_law_over" 2 sp__law_over) (c__law_some_pair : Cal P w K mg base (BM K (some mg)) 3 "_law_some_pair" 1 sp__law_some_pair) (c__law_is_like : Cal P w K mg base (BM K (some mg)) 3 "_law_is_like" 2 sp__law_is_like) (m_Span___init__ : CalIX P w K mg base (BM K (some mg)) 3 "Span" 2 sp_Span___init__) (m_Span___getitem__ : CalMX P w K mg base (BM K (some mg)) 3 "Span" "__getitem__" 2 sp_Span___getitem__) (m_Span___and__ : CalMX P w K mg base (BM K (some mg)) 5 "Span" "__and__" 2 sp_Span___and__) (m_Span___or__ : CalM P w K mg base (BM K (some mg)) 5 "Span" "__or__" 2 sp_Span___or__)
    (hp : ∀ (ds : List D) (s : BS) (Ψ : Ret → BS → Prop), ds.length = 1 → sp_law ds s Ψ → ff_law { nx := fun _ s => Ψ (.d .non) s, rt := Ψ } (startR ["script", "bag", "pairs", "spans", "turn", "due", "pair", "i", "j", "k", "one", "other", "first", "second", "many", "low", "high", "span"] ds) s) : Cal P w K mg base (BM K (some mg)) 8 "law" 1 sp_law :=
  have sc := sc_law
  cal_of F sc_law rfl (by decide) (ff := ff_law) (fun f cdv Ar out s H E hg hr => ⟨_,
  (zs_cons (z_set 1 sc.nd (q_call c__law_own_bag hg (hr.mono (by decide)) (ql_cons (q_v 0) ql_nil)))
  (zs_cons (z_setO 2 sc.nd (qo_call c__law_row hg (hr.mono (by decide)) (ql_cons (q_v 1) ql_nil)))
  (zs_cons (z_setTh 3 [2] (z_setLcO 3 sc.nd [("pair", 6)] rfl sc.nd (qi_seq (q_v 2)) (blkOk_by (by rfl)) (fun _ _ _ _ _ => (qg_name 6 sc.nd)) (fun _ _ _ _ _ => qts_nil) (fun _ _ _ _ _ => (q_makeX takesN0 wish_none m_Span___init__ hg (hr.mono (by decide)) (ql_cons (q_v 6) ql_nil)))) (qo_lc [("pair", 6)] rfl sc.nd (qi_seq (q_v 2)) (blkOk_by (by rfl)) (fun _ _ _ _ _ => (qg_name 6 sc.nd)) (fun _ _ _ _ _ => qts_nil) (fun _ _ _ _ _ => (q_makeX takesN0 wish_none m_Span___init__ hg (hr.mono (by decide)) (ql_cons (q_v 6) ql_nil)))))
  (zs_cons (z_if (qt_thT [3, 2] (qt_not (qt_val (q_low (q_call c__law_are_folds_right hg (hr.mono (by decide)) (ql_cons (q_v 3) (ql_cons (q_v 2) ql_nil))))))) (zs_one (z_ret q_bl)) zs_nil)
  (zs_cons (z_for PassesOwn.never rfl (qi_rg1 T.range q_int) (qg_name 4 sc.nd)
   (zs_cons (z_par3 7 8 9 sc.nd rfl (qx_v (q_call c__law_draw hg (hr.mono (by decide)) (ql_cons (q_v 1) (ql_cons q_int ql_nil))) (qx_v (q_call c__law_draw hg (hr.mono (by decide)) (ql_cons (q_v 1) (ql_cons q_int ql_nil))) (qx_v (q_call c__law_draw hg (hr.mono (by decide)) (ql_cons (q_v 1) (ql_cons q_int ql_nil))) qx_nil))))
  (zs_cons (z_parT rfl (qn_cons 10 sc.nd (qn_cons 11 sc.nd (qn_cons 12 sc.nd (qn_cons 13 sc.nd qn_nil)))) (qx_v (q_ix (q_w 3) (q_v 7)) (qx_v (q_ix (q_w 3) (q_v 8)) (qx_v (q_ix (q_w 2) (q_v 7)) (qx_v (q_ix (q_w 2) (q_v 8)) qx_nil)))))
  (zs_cut (z_if (qt_cmp (co_eq hr.units) (q_low (q_call c__law_draw hg (hr.mono (by decide)) (ql_cons (q_v 1) (ql_cons q_int ql_nil)))) q_int) (zs_cons (z_set 14 sc.nd (q_bin bo_add (q_bin bo_sub (q_ixn (k := 1) (q_v 13)) (q_ixn (k := 0) (q_v 13))) q_int))
  (zs_cons (z_set 15 sc.nd (q_bin bo_mod (q_nt nb_int T.int (ql_cons (q_low (q_call c__law_far hg (hr.mono (by decide)) (ql_cons (q_v 1) ql_nil))) ql_nil)) (q_v 14)))
  (zs_cons (z_set 16 sc.nd (q_bin bo_add (q_v 15) (q_bin bo_mod (q_nt nb_int T.int (ql_cons (q_low (q_call c__law_far hg (hr.mono (by decide)) (ql_cons (q_v 1) ql_nil))) ql_nil)) (q_bin bo_sub (q_v 14) (q_v 15)))))
  (zs_one (z_par 11 13 sc.nd rfl (qx_v (q_makeX takesN0 wish_none m_Span___init__ hg (hr.mono (by decide)) (ql_cons (q_tup (ql_cons (q_ixO (k := 3) takesN0 wish_none (mt_cons (m_Span___getitem__) mt_nil) (mt_cons T.fn_Span___getitem__ mt_nil) hg (hr.mono (by decide)) (q_v 11) (q_v 15)) (ql_cons (q_ixO (k := 3) takesN0 wish_none (mt_cons (m_Span___getitem__) mt_nil) (mt_cons T.fn_Span___getitem__ mt_nil) hg (hr.mono (by decide)) (q_v 11) (q_v 16)) ql_nil))) ql_nil)) (qx_v (q_tup (ql_cons (q_bin bo_add (q_ixn (k := 0) (q_v 13)) (q_v 15)) (ql_cons (q_bin bo_add (q_ixn (k := 0) (q_v 13)) (q_v 16)) ql_nil))) qx_nil))))))) zs_nil)
  (zs_cons (z_if (qt_w (qw_or (qt_not (qt_val (q_low (q_call c__law_are_two_right hg (hr.mono (by decide)) (ql_cons (q_v 1) (ql_cons (q_v 10) (ql_cons (q_v 11) (ql_cons (q_tup (ql_cons (q_v 12) (ql_cons (q_v 13) ql_nil))) ql_nil)))))))) (qw_or1 (qt_not (qt_val (q_low (q_call c__law_are_places_right hg (hr.mono (by decide)) (ql_cons (q_v 1) (ql_cons (q_v 10) (ql_cons (q_v 12) ql_nil)))))))))) (zs_one (z_ret q_bl)) zs_nil)
  (zs_cons (z_set 5 sc.nd (q_call c__law_both hg (hr.mono (by decide)) (ql_cons (q_v 12) (ql_cons (q_v 13) ql_nil))))
  (zs_cut (z_if (qt_w (qw_and (qt_cmp (co_isn) (q_v 5) q_non) (qw_and1 (qt_cmp (co_gt) (q_low (q_call c__law_draw hg (hr.mono (by decide)) (ql_cons (q_v 1) (ql_cons q_int ql_nil)))) q_int)))) (zs_one (z_store2b 3 2 rfl (q_biO (k := 5) takesN0 wish_none (mt_cons (m_Span___and__) mt_nil) (mt_cons T.sf_Span mt_nil) hg (hr.mono (by decide)) (q_v 10) (q_v 11)) (q_v 5) (q_v 9) (q_v 9))) (zs_one (z_if (qt_cmp (co_eq hr.units) (q_low (q_call c__law_draw hg (hr.mono (by decide)) (ql_cons (q_v 1) (ql_cons q_int ql_nil)))) q_int) (zs_one (z_store2b 3 2 rfl (q_biO (k := 5) takesN0 wish_none (mt_cons (CalM.toX m_Span___or__) mt_nil) (mt_cons T.sf_Span mt_nil) hg (hr.mono (by decide)) (q_v 10) (q_v 11)) (q_call c__law_over hg (hr.mono (by decide)) (ql_cons (q_v 12) (ql_cons (q_v 13) ql_nil))) (q_v 9) (q_v 9))) (zs_cons (z_store 2 (q_call c__law_some_pair hg (hr.mono (by decide)) (ql_cons (q_v 1) ql_nil)) (q_v 9))
  (zs_one (z_store 3 (q_makeX takesN0 wish_none m_Span___init__ hg (hr.mono (by decide)) (ql_cons (q_ix (q_w 2) (q_v 9)) ql_nil)) (q_v 9)))))))
  (zs_cons (z_if (qt_thT [3, 2] (qt_not (qt_val (q_nb (nb_all rfl) T.all (ql_cons (q_ov (qo_lc [("span", 17), ("pair", 6)] rfl sc.nd (qi_zip T.zip (q_v 3) (q_v 2)) (blkOk_by (by rfl)) (fun _ _ _ _ _ => (qg_tup rfl (qgs_cons (qg_name 17 sc.nd) (qgs_cons (qg_name 6 sc.nd) qgs_nil)))) (fun _ _ _ _ _ => qts_nil) (fun _ _ _ _ _ => (q_call c__law_is_like hg (hr.mono (by decide)) (ql_cons (q_v 17) (ql_cons (q_v 6) ql_nil)))))) ql_nil))))) (zs_one (z_ret q_bl)) zs_nil)
  (zs_drop 4 (zs_drop 7 (zs_drop 8 (zs_drop 9 (zs_drop 10 (zs_drop 11 (zs_drop 12 (zs_drop 13 (zs_drop 5 zs_nil)))))))))))))))))
  (zs_frz 2 (zs_frz 3 (zs_one (z_ret (q_low (q_call c__law_are_folds_right hg (hr.mono (by decide)) (ql_cons (q_v 3) (ql_cons (q_v 2) ql_nil)))))))))))))⟩) hp
theorem pp__law_own_bag (ds : List D) (s : BS) (Ψ : Ret → BS → Prop) (_ : ds.length = 1) (h : sp_bag0 ds s Ψ) : ff__law_own_bag { nx := fun _ s => Ψ (.d .non) s, rt := Ψ } (startR ["script", "cells", "mixed", "cell"] ds) s := by
  obtain ⟨r, a, ns, rfl, rfl, hn, q⟩ := h
  let cs : List Int := (cutL ns none (some 63)).map fun z => (z.natAbs : Int)
  have hc : ∀ c ∈ cs, (0 : Int) ≤ c := fun c h => by
    obtain ⟨z, _, rfl⟩ := List.mem_map.mp h
    omega
  have hL : (cutL ns none (some 63)).length ≤ 63 := Nat.le_trans (by unfold cutL; rw [List.length_take, List.length_drop]; omega) hn
  have hcl : cs.length ≤ 63 := by simp only [cs, List.length_map]; exact hL
  refine And.intro rfl (And.intro rfl (And.intro rfl ?_))
  refine lc_go (fun i acc => acc = (cs.take i).map D.int) (by rw [List.length_map]; omega) rfl ?_ ?_
  · rintro i d _ hd rfl
    rw [List.getElem?_map] at hd
    cases e : (cutL ns none (some 63))[i]? with
    | none => rw [e] at hd; cases hd
    | some z =>
      rw [e] at hd
      cases hd
      refine br_t rfl ⟨rfl, ?_⟩
      have e2 : cs[i]? = some (z.natAbs : Int) := by simp only [cs, List.getElem?_map, e]; rfl
      rw [List.take_add_one, e2, List.map_append]
      rfl
  · rintro _ rfl
    have e3 : (cs.take ((cutL ns none (some 63)).map D.int).length) = cs := List.take_of_length_le (by simp [cs])
    rw [e3]
    refine for_go (fun m : Int => [.v (.any (.ref a)), .v (.lst (cs.map D.int)), .v (.int m), .e]) (fun _ m => 0 ≤ m ∧ m < 2147483647) (2468 + (cs.length : Int)) ?_ ?_ ?_ ?_
    · show _ = [Sl.v _, Sl.v _, Sl.v (D.int (2468 + ((cs.map D.int).length : Int))), Sl.e]
      simp only [List.length_map]
    · omega
    · rintro i d m hd ⟨m0, m1⟩
      rw [List.getElem?_map] at hd
      cases e : cs[i]? with
      | none => rw [e] at hd; cases hd
      | some z =>
        rw [e] at hd
        cases hd
        refine And.intro (wide_mul (a := 31) (b := 16) (by omega) (by decide) (by decide) (by decide) (by decide)) ?_
        refine And.intro (show (0 : Int) < 2147483629 by decide) ?_
        refine And.intro (show (0 : Int) < 2147483647 by decide) ?_
        exact ⟨rfl, _, rfl, Int.emod_nonneg _ (by decide), Int.emod_lt_of_pos _ (by decide)⟩
    · rintro m ⟨m0, m1⟩
      refine And.intro ⟨_, _, _, rfl⟩ ⟨cs.reverse, 0, m, ?_, fun c h => hc c (List.mem_reverse.mp h), by decide, m0, m1, q⟩
      rw [List.map_reverse]
theorem zip_same {l : List D} {s : BS} {Φ : Mo → BS → Prop} {g : FG} {fe : FE BZ} {ρ : List Sl} (hl : l.length ≤ 16777216)
    (step : ∀ (d : D) (C : D → BS → Prop), d ∈ l → C (.bl true) s → g (.tup [d, d]) ρ fun ρ' => fe ρ' s C)
    (fin : Φ (.lst (List.replicate l.length (.bl true))) s) : LcP (zipD l l) g (fun _ s Φ => Φ true s) fe ρ s Φ := by
  have hz : (zipD l l).length = l.length := by rw [zipD_len, Nat.min_self]
  refine lc_mapT (A := BZ) (fun d => D.tup [d, d]) (fun _ => .bl true) l ?_ (by omega) (fun d C hm hC => step d C hm hC) ?_
  · refine List.ext_getElem? fun i => ?_
    rw [List.getElem?_map]
    cases e : l[i]? with
    | none => rw [List.getElem?_eq_none (by rw [hz]; exact List.getElem?_eq_none_iff.mp e)]; rfl
    | some d => rw [zipD_at e e]; rfl
  · rw [List.map_const']
    exact fin
theorem pp__law_same_0 (ds : List D) (s : BS) (Ψ : Ret → BS → Prop) (_ : ds.length = 2) (h : sp__law_same 0 ds s Ψ) : ff__law_same_0 { nx := fun _ s => Ψ (.d .non) s, rt := Ψ } (startR ["told", "due", "one", "other"] ds) s := by
  obtain ⟨d, rfl, hd, q⟩ := h
  cases d with
  | non =>
    show ff__law_same_0 _ [_, _, _, _] _
    walk_at "oo"
    exact q
  | bl b =>
    cases b
    all_goals
      show ff__law_same_0 _ [_, _, _, _] _
      walk_at "oo"
      exact q
  | int i =>
    show ff__law_same_0 _ [_, _, _, _] _
    walk_at "oo"
    walk_at "fq"
  | str x =>
    show ff__law_same_0 _ [_, _, _, _] _
    walk_at "oo"
    walk_at "fq"
  | _ => cases hd
theorem pp__law_same_s (n : Nat) (ds : List D) (s : BS) (Ψ : Ret → BS → Prop) (_ : ds.length = 2) (h : sp__law_same (n + 1) ds s Ψ) : ffr__law_same (sp__law_same n) { nx := fun _ s => Ψ (.d .non) s, rt := Ψ } (startR ["told", "due", "one", "other"] ds) s := by
  obtain ⟨d, rfl, hd, q⟩ := h
  have all1 : ∀ m : Nat, (List.replicate m true).all id = true := fun m => by rw [List.all_eq_true]; exact fun b hb => (List.mem_replicate.mp hb).2
  cases d with
  | non =>
    show ffr__law_same _ _ [_, _, _, _] _
    walk_at "oo"
    exact q
  | bl b =>
    cases b
    all_goals
      show ffr__law_same _ _ [_, _, _, _] _
      walk_at "oo"
      exact q
  | int i =>
    show ffr__law_same _ _ [_, _, _, _] _
    walk_at "oo"
    walk_at "fq"
  | str x =>
    show ffr__law_same _ _ [_, _, _, _] _
    walk_at "oo"
    walk_at "fq"
  | tup l =>
    obtain ⟨h1, h2⟩ := Bool.and_eq_true_iff.mp (show (decide (l.length ≤ 1000) && l.all (smO n)) = true from hd)
    have h1 := of_decide_eq_true h1
    show ffr__law_same _ _ [_, _, _, _] _
    walk_at "oo"
    refine zip_same (by omega) ?_ ?_
    · intro d C hm hC
      walk_at "oo"
      exact Sp.mk ⟨d, rfl, List.all_eq_true.mp h2 d hm, hC⟩
    walk_at "oo"
    refine ⟨List.replicate l.length true, by rw [List.map_replicate], ?_⟩
    rw [all1]
    exact q
  | lst l =>
    obtain ⟨h1, h2⟩ := Bool.and_eq_true_iff.mp (show (decide (l.length ≤ 1000) && l.all (smO n)) = true from hd)
    have h1 := of_decide_eq_true h1
    show ffr__law_same _ _ [_, _, _, _] _
    walk_at "oo"
    refine zip_same (by omega) ?_ ?_
    · intro d C hm hC
      walk_at "oo"
      exact Sp.mk ⟨d, rfl, List.all_eq_true.mp h2 d hm, hC⟩
    walk_at "oo"
    refine ⟨List.replicate l.length true, by rw [List.map_replicate], ?_⟩
    rw [all1]
    exact q
  | _ => cases hd
theorem pp__law_some_pair (ds : List D) (s : BS) (Ψ : Ret → BS → Prop) (_ : ds.length = 1) (h : sp__law_some_pair ds s Ψ) : ff__law_some_pair { nx := fun _ s => Ψ (.d .non) s, rt := Ψ } (startR ["bag", "way", "first", "last", "one", "other"] ds) s := by
  obtain ⟨b, l, rfl, rfl, q⟩ := h
  show ff__law_some_pair _ [_, _, _, _, _, _] _
  walk_at "od"
  rename_i w w0 w1
  refine br_b (fun c1 => ?_) fun c1 => ?_
  · walk_at "od"
    rename_i f f0 f1
    refine br_b (fun c2 => ?_) fun c2 => ?_
    · walk_at "od"
      exact q _ _ ⟨by omega, by omega, by omega⟩
    · walk_at "od"
      exact q _ _ ⟨by omega, by omega, by omega⟩
  walk_at "od"
  refine br_b (fun c2 => ?_) fun c2 => ?_
  · walk_at "od"
    exact q _ _ ⟨by omega, by omega, by omega⟩
  walk_at "od"
  refine br_b (fun c3 => ?_) fun c3 => ?_
  · walk_at "od"
    exact q _ _ ⟨by omega, by omega, by omega⟩
  walk_at "od"
  refine Sp.mk ⟨b, l, rfl, rfl, fun r r0 r1 => ?_⟩
  walk_at "od"
  refine Sp.mk ⟨b, l, rfl, rfl, fun t t0 t1 => ?_⟩
  walk_at "od"
  refine br_b (fun c4 => ?_) fun c4 => ?_
  · walk_at "od"
    rename_i u u0 u1
    refine br_b (fun c5 => ?_) fun c5 => ?_
    · walk_at "od"
      exact q _ _ ⟨by omega, by omega, by omega⟩
    · walk_at "od"
      exact q _ _ ⟨by omega, by omega, by omega⟩
  walk_at "od"
  refine br_b (fun c5 => ?_) fun c5 => ?_
  · walk_at "od"
    exact q _ _ ⟨by omega, by omega, by omega⟩
  · walk_at "od"
    exact q _ _ ⟨by omega, by omega, by omega⟩
theorem prD_eq {a b c d : Int} (h1 : a = c) (h2 : b = d) : prD a b = prD c d := by rw [h1, h2]
theorem psi_eq {S : Type} {Ψ : Ret → S → Prop} {d d' : D} {s : S} (h : Ψ (.d d) s) (e : d = d') : Ψ (.d d') s := e ▸ h
theorem eqv_two (x y u v : Int) : PyData.eqv (D.tup [.int x, .int y]).py (D.tup [.int u, .int v]).py = decide ((x, y) = (u, v)) := by
  simp only [D.py, pyL, PyData.eqv, PyData.eqvAll, Bool.and_true, Prod.mk.injEq]
  by_cases h : x = u <;> by_cases h2 : y = v <;> simp [h, h2]
theorem dok_two (x y : Int) : DOk (.tup [.int x, .int y]) := lay_dok rfl
theorem pp_is_within (ds : List D) (s : BS) (Ψ : Ret → BS → Prop) (_ : ds.length = 3) (h : sp_is_within ds s Ψ) : ff_is_within { nx := fun _ s => Ψ (.d .non) s, rt := Ψ } (startR ["value", "low", "high"] ds) s := by
  obtain ⟨v, lo, hi, rfl, q⟩ := h
  show ff_is_within _ [_, _, _] _
  walk_at "oo"
  by_cases c : lo ≤ v
  · refine br_dt c ?_
    walk_at "wh"
    show Ψ (.d (.bl (decide (v ≤ hi)))) s
    by_cases c2 : v ≤ hi
    · rw [decide_eq_true (And.intro c c2)] at q
      rw [decide_eq_true c2]
      exact q
    · rw [decide_eq_false (fun h => c2 h.2)] at q
      rw [decide_eq_false c2]
      exact q
  · refine br_df c ?_
    rw [decide_eq_false (fun h => c h.1)] at q
    exact q
theorem pp_is_pair (ds : List D) (s : BS) (Ψ : Ret → BS → Prop) (_ : ds.length = 1) (h : sp_is_pair ds s Ψ) : ff_is_pair { nx := fun _ s => Ψ (.d .non) s, rt := Ψ } (startR ["value"] ds) s := by
  obtain ⟨p, q', rfl, q⟩ := h
  show ff_is_pair _ [_] _
  walk_at "oo"
  refine Sp.mk ⟨_, _, _, rfl, ?_⟩
  by_cases c1 : 0 ≤ p ∧ p ≤ 1000000000000
  · refine br_dt c1 ?_
    walk_at "oo"
    refine Sp.mk ⟨_, _, _, rfl, ?_⟩
    by_cases c2 : 0 ≤ q' ∧ q' ≤ 1000000000000
    · refine br_dt c2 ?_
      walk_at "wh"
      show Ψ (.d (.bl (decide (p ≤ q')))) s
      by_cases c3 : p ≤ q'
      · rw [decide_eq_true c3]
        rw [decide_eq_true ⟨c1.1, c3, c2.2⟩] at q
        exact q
      · rw [decide_eq_false c3]
        rw [decide_eq_false (fun h => c3 h.2.1)] at q
        exact q
    · refine br_df c2 ?_
      rw [decide_eq_false (by omega)] at q
      exact q
  · refine br_df c1 ?_
    rw [decide_eq_false (by omega)] at q
    exact q
theorem pp_Span___init__ (ds : List D) (s : BS) (Ψ : Ret → BS → Prop) (Ξ : XD → BS → Prop) (_ : ds.length = 2) (h : sp_Span___init__ ds s Ψ Ξ) : ff_Span___init__ Ξ { nx := fun _ s => Ψ (.d .non) s, rt := Ψ } (startR ["self", "pair"] ds) s := by
  obtain ⟨b, l, a, p, q', rfl, rfl, ha, q1, q2⟩ := h
  show ff_Span___init__ Ξ _ [_, _] _
  walk_at "oo"
  refine Sp.mk ⟨_, _, rfl, ?_⟩
  by_cases c : 0 ≤ p ∧ p ≤ q' ∧ q' ≤ 1000000000000
  · refine br_f (by rw [decide_eq_true c]; rfl) ?_
    walk_at "oo"
    exact q1 c
  · refine br_t (by rw [decide_eq_false c]; rfl) ?_
    walk_at "oo"
    exact q2 c
theorem pp_Span_first (ds : List D) (s : BS) (Ψ : Ret → BS → Prop) (_ : ds.length = 1) (h : sp_Span_first ds s Ψ) : ff_Span_first { nx := fun _ s => Ψ (.d .non) s, rt := Ψ } (startR ["self"] ds) s := by
  obtain ⟨b, l, a, p, q', rfl, rfl, ha, q⟩ := h
  show ff_Span_first _ [_] _
  walk_at "oo"
  exact q
theorem pp_Span_last (ds : List D) (s : BS) (Ψ : Ret → BS → Prop) (_ : ds.length = 1) (h : sp_Span_last ds s Ψ) : ff_Span_last { nx := fun _ s => Ψ (.d .non) s, rt := Ψ } (startR ["self"] ds) s := by
  obtain ⟨b, l, a, p, q', rfl, rfl, ha, q⟩ := h
  show ff_Span_last _ [_] _
  walk_at "oo"
  exact q
theorem pp_Span_many (ds : List D) (s : BS) (Ψ : Ret → BS → Prop) (_ : ds.length = 1) (h : sp_Span_many ds s Ψ) : ff_Span_many { nx := fun _ s => Ψ (.d .non) s, rt := Ψ } (startR ["self"] ds) s := by
  obtain ⟨b, l, a, p, q', rfl, rfl, ha, q⟩ := h
  show ff_Span_many _ [_] _
  walk_at "oo"
  exact q
theorem pp_Span___getitem__ (ds : List D) (s : BS) (Ψ : Ret → BS → Prop) (Ξ : XD → BS → Prop) (_ : ds.length = 2) (h : sp_Span___getitem__ ds s Ψ Ξ) : ff_Span___getitem__ Ξ { nx := fun _ s => Ψ (.d .non) s, rt := Ψ } (startR ["self", "value"] ds) s := by
  obtain ⟨b, l, a, p, q', v, rfl, rfl, ha, q1, q2⟩ := h
  show ff_Span___getitem__ Ξ _ [_, _] _
  walk_at "oo"
  refine Sp.mk ⟨_, _, _, rfl, ?_⟩
  by_cases c : 0 ≤ v ∧ v ≤ q' - p
  · refine br_f (by rw [decide_eq_true c]; rfl) ?_
    walk_at "oo"
    exact q1 c
  · refine br_t (by rw [decide_eq_false c]; rfl) ?_
    walk_at "oo"
    exact q2 c
theorem pp_Span___and__ (ds : List D) (s : BS) (Ψ : Ret → BS → Prop) (Ξ : XD → BS → Prop) (_ : ds.length = 2) (h : sp_Span___and__ ds s Ψ Ξ) : ff_Span___and__ Ξ { nx := fun _ s => Ψ (.d .non) s, rt := Ψ } (startR ["self", "other", "first", "last"] ds) s := by
  obtain ⟨b, l, a, a', p, q', p2, q2, rfl, rfl, ha, ha', hs, hs', k1, k2⟩ := h
  obtain ⟨s1, s2, s3⟩ := id hs
  obtain ⟨t1, t2, t3⟩ := id hs'
  show ff_Span___and__ Ξ _ [_, _, _, _] _
  walk_at "oo"
  refine Sp.mk ⟨b, l, a', p2, q2, rfl, rfl, ha', ?_⟩
  walk_at "oo"
  refine Sp.mk ⟨b, l, a', p2, q2, rfl, rfl, ha', ?_⟩
  walk_at "oo"
  by_cases c : max p p2 ≤ min q' q2
  · refine br_df (by omega) ?_
    walk_at "oo"
    refine NewP.mk ⟨_, _, rfl, fun x hx => ?_⟩
    refine SpX.mk ⟨b, _, x, _, _, rfl, rfl, oput_at, fun _ => ?_, fun h => (h ⟨by omega, c, by omega⟩).elim⟩
    rw [put_put]
    walk_at "oo"
    exact k1 c x _ (XS.put hx) oput_at
  · refine br_dt (by omega) ?_
    walk_at "oo"
    exact k2 c
theorem pp_Span___or__ (ds : List D) (s : BS) (Ψ : Ret → BS → Prop) (_ : ds.length = 2) (h : sp_Span___or__ ds s Ψ) : ff_Span___or__ { nx := fun _ s => Ψ (.d .non) s, rt := Ψ } (startR ["self", "other"] ds) s := by
  obtain ⟨b, l, a, a', p, q', p2, q2, rfl, rfl, ha, ha', hs, hs', q⟩ := h
  obtain ⟨s1, s2, s3⟩ := id hs
  obtain ⟨t1, t2, t3⟩ := id hs'
  show ff_Span___or__ _ [_, _] _
  walk_at "oo"
  refine Sp.mk ⟨b, l, a', p2, q2, rfl, rfl, ha', ?_⟩
  walk_at "oo"
  refine Sp.mk ⟨b, l, a', p2, q2, rfl, rfl, ha', ?_⟩
  walk_at "oo"
  refine NewP.mk ⟨_, _, rfl, fun x hx => ?_⟩
  refine SpX.mk ⟨b, _, x, _, _, rfl, rfl, oput_at, fun _ => ?_, fun h => (h ⟨by omega, by omega, by omega⟩).elim⟩
  rw [put_put]
  walk_at "oo"
  exact q x _ (XS.put hx) oput_at
theorem pp_Span___contains__ (ds : List D) (s : BS) (Ψ : Ret → BS → Prop) (_ : ds.length = 2) (h : sp_Span___contains__ ds s Ψ) : ff_Span___contains__ { nx := fun _ s => Ψ (.d .non) s, rt := Ψ } (startR ["self", "value"] ds) s := by
  obtain ⟨b, l, a, p, q', v, rfl, rfl, ha, q⟩ := h
  rcases q with ⟨i, rfl, q⟩ | ⟨a', p2, q2, rfl, ha', q⟩
  · show ff_Span___contains__ _ [_, _] _
    walk_at "oo"
    exact Sp.mk ⟨_, _, _, rfl, q⟩
  · show ff_Span___contains__ _ [_, _] _
    walk_at "oo"
    refine Sp.mk ⟨b, l, a', p2, q2, rfl, rfl, ha', ?_⟩
    walk_at "oo"
    refine br_b (fun c1 => ?_) fun c1 => ?_
    · walk_at "oo"
      refine Sp.mk ⟨b, l, a', p2, q2, rfl, rfl, ha', ?_⟩
      walk_at "oo"
      refine psi_eq q ?_
      by_cases c2 : q2 ≤ q'
      · rw [decide_eq_true (⟨c1, c2⟩ : p ≤ p2 ∧ q2 ≤ q')]
        show _ = D.bl (decide (q2 ≤ q'))
        rw [decide_eq_true c2]
      · rw [decide_eq_false (fun h : p ≤ p2 ∧ q2 ≤ q' => c2 h.2)]
        show _ = D.bl (decide (q2 ≤ q'))
        rw [decide_eq_false c2]
    · refine psi_eq q ?_
      rw [decide_eq_false (fun h : p ≤ p2 ∧ q2 ≤ q' => c1 h.1)]
theorem pp_Span___eq__ (ds : List D) (s : BS) (Ψ : Ret → BS → Prop) (_ : ds.length = 2) (h : sp_Span___eq__ ds s Ψ) : ff_Span___eq__ { nx := fun _ s => Ψ (.d .non) s, rt := Ψ } (startR ["self", "other"] ds) s := by
  obtain ⟨b, l, a, a', p, q', p2, q2, rfl, rfl, ha, ha', q⟩ := h
  show ff_Span___eq__ _ [_, _] _
  walk_at "oo"
  refine And.intro (dok_two _ _) (And.intro (dok_two _ _) ?_)
  rw [eqv_two]
  refine psi_eq q ?_
  congr 1
  exact decide_eq_decide.mpr ⟨fun h => by rw [h.1, h.2], fun h => by cases h; exact ⟨rfl, rfl⟩⟩
theorem pp__law_far (ds : List D) (s : BS) (Ψ : Ret → BS → Prop) (_ : ds.length = 1) (h : sp__law_far ds s Ψ) : ff__law_far { nx := fun _ s => Ψ (.d .non) s, rt := Ψ } (startR ["bag"] ds) s := by
  obtain ⟨b, l, rfl, rfl, q⟩ := h
  show ff__law_far _ [_] _
  walk_at "od"
  refine q _ ?_ ?_ <;> omega
theorem pp__law_both (ds : List D) (s : BS) (Ψ : Ret → BS → Prop) (_ : ds.length = 2) (h : sp__law_both ds s Ψ) : ff__law_both { nx := fun _ s => Ψ (.d .non) s, rt := Ψ } (startR ["one", "other", "first", "last"] ds) s := by
  obtain ⟨p, q', p2, q2, rfl, q⟩ := h
  show ff__law_both _ [_, _, _, _] _
  walk_at "oo"
  refine br_b (fun c1 => ?_) fun c1 => ?_
  all_goals
    walk_at "oo"
    refine br_b (fun c2 => ?_) fun c2 => ?_
    all_goals
      walk_at "oo"
      refine br_b (fun c3 => ?_) fun c3 => ?_
      all_goals
        walk_at "wh"
        refine psi_eq q ?_
        split <;> first | (exfalso; omega) | exact prD_eq (by omega) (by omega) | rfl
theorem pp__law_over (ds : List D) (s : BS) (Ψ : Ret → BS → Prop) (_ : ds.length = 2) (h : sp__law_over ds s Ψ) : ff__law_over { nx := fun _ s => Ψ (.d .non) s, rt := Ψ } (startR ["one", "other"] ds) s := by
  obtain ⟨p, q', p2, q2, rfl, q⟩ := h
  show ff__law_over _ [_, _] _
  walk_at "oo"
  refine br_b (fun c1 => ?_) fun c1 => ?_
  all_goals
    walk_at "oo"
    refine br_b (fun c2 => ?_) fun c2 => ?_
    all_goals
      walk_at "wh"
      refine psi_eq q ?_
      exact prD_eq (by omega) (by omega)
theorem pp__law_is_like (ds : List D) (s : BS) (Ψ : Ret → BS → Prop) (_ : ds.length = 2) (h : sp__law_is_like ds s Ψ) : ff__law_is_like { nx := fun _ s => Ψ (.d .non) s, rt := Ψ } (startR ["span", "pair"] ds) s := by
  obtain ⟨b, l, a, p, q', rfl, rfl, ha, q⟩ := h
  show ff__law_is_like _ [_, _] _
  walk_at "oo"
  refine Sp.mk ⟨b, l, a, p, q', rfl, rfl, ha, ?_⟩
  walk_at "oo"
  refine Sp.mk ⟨b, l, a, p, q', rfl, rfl, ha, ?_⟩
  walk_at "oo"
  refine Sp.mk ⟨b, l, a, p, q', rfl, rfl, ha, ?_⟩
  walk_at "oo"
  exact Sp.mk ⟨_, rfl, rfl, q⟩
theorem pp__law_meet (ds : List D) (s : BS) (Ψ : Ret → BS → Prop) (_ : ds.length = 2) (h : sp__law_meet ds s Ψ) : ff__law_meet { nx := fun _ s => Ψ (.d .non) s, rt := Ψ } (startR ["one", "other"] ds) s := by
  obtain ⟨b, l, a, a', p, q', p2, q2, rfl, rfl, ha, ha', hs, hs', k1, k2⟩ := h
  show ff__law_meet _ [_, _] _
  walk_at "oo"
  refine SpX.mk ⟨b, l, a, a', p, q', p2, q2, rfl, rfl, ha, ha', hs, hs', fun c x l' hx hl' => ?_, fun c => ?_⟩
  · walk_at "oo"
    exact k1 c x l' hx hl'
  · refine ⟨true, by walk_at "mm", fun _ => ?_, fun h => by cases h⟩
    walk_at "oo"
    exact k2 c
theorem pp__law_no_place (ds : List D) (s : BS) (Ψ : Ret → BS → Prop) (_ : ds.length = 2) (h : sp__law_no_place ds s Ψ) : ff__law_no_place { nx := fun _ s => Ψ (.d .non) s, rt := Ψ } (startR ["span", "at", "error"] ds) s := by
  obtain ⟨b, l, a, p, q', v, rfl, rfl, ha, c, q⟩ := h
  show ff__law_no_place _ [_, _, _] _
  walk_at "oo"
  refine SpX.mk ⟨b, l, a, p, q', v, rfl, rfl, ha, fun h => (c h).elim, fun _ => ?_⟩
  walk_at "hx"
  walk_at "oo"
  exact q
theorem pp__law_row (ds : List D) (s : BS) (Ψ : Ret → BS → Prop) (_ : ds.length = 1) (h : sp__law_row ds s Ψ) : ff__law_row { nx := fun _ s => Ψ (.d .non) s, rt := Ψ } (startR ["bag", "middle", "reach", "turn", "way", "found", "first", "last"] ds) s := by
  obtain ⟨b, l, rfl, rfl, q⟩ := h
  show ff__law_row _ [_, _, _, _, _, _, _, _] _
  walk_at "od"
  rename_i way w0 w1 md m0 m1
  refine cut_go (A := BZ) (fun m : Int => [.v (.any (.ref b)), .v (.int m), .e, .e, .v (.int way), .o (.lst []), .e, .e]) (fun m => 0 ≤ m ∧ m ≤ 1000000000000) ?_ ?_
  · refine br_b (fun c1 => ?_) fun c1 => ?_
    · walk_at "od"
      exact ⟨_, rfl, by omega, by omega⟩
    · walk_at "od"
      refine br_b (fun c2 => ?_) fun c2 => ?_
      · walk_at "od"
        refine Sp.mk ⟨b, l, rfl, rfl, fun r r0 r1 => ?_⟩
        walk_at "od"
        exact ⟨_, rfl, by omega, by omega⟩
      · walk_at "od"
        exact ⟨_, rfl, by omega, by omega⟩
  rintro m ⟨h0, h1⟩
  walk_at "od"
  rename_i rc c0 c1
  refine for_go (A := BZ) (fun ps : (Sl × Sl) × List (Int × Int) => [.v (.any (.ref b)), .v (.int m), .v (.int (5 + rc)), .e, .v (.int way), .o (.lst (ps.2.map pD)), ps.1.1, ps.1.2]) (fun i ps => ps.2.length = i ∧ ∀ m ∈ ps.2, SpV m.1 m.2) ((.e, .e), []) rfl ⟨rfl, fun _ h => (nomatch h)⟩ ?_ ?_
  · rintro i d ⟨⟨s1, s2⟩, ps⟩ hd ⟨hl, hA⟩
    have hl : ps.length = i := hl
    have hA : ∀ m ∈ ps, SpV m.1 m.2 := hA
    obtain ⟨rfl, hi⟩ := rangeD_at hd
    have hi : i < 6 := hi
    walk_at "oo"
    refine draw_go (by omega) (by omega) fun u1 _ _ => ?_
    walk_at "oo"
    refine draw_go (by omega) (by omega) fun u2 _ _ => ?_
    walk_at "oo"
    refine cut_go (A := BZ) (fun f : Int => [.v (.any (.ref b)), .v (.int m), .v (.int (5 + rc)), .v (.int (0 + i)), .v (.int way), .o (.lst (ps.map pD)), .v (.int f), .v (.int (m + u2))]) (fun f => True) ?_ ?_
    · walk_at "od"
      refine br_b (fun c1 => ?_) fun c1 => ?_
      · walk_at "od"
        exact ⟨_, rfl, trivial⟩
      · walk_at "od"
        exact ⟨_, rfl, trivial⟩
    rintro f -
    have done : ∀ p q : Int, SpV p q → ∀ s1 s2, ∃ u' : (Sl × Sl) × List (Int × Int), [Sl.v (.any (.ref b)), .v (.int m), .v (.int (5 + rc)), .e, .v (.int way), .o (.lst (u'.2.map pD)), u'.1.1, u'.1.2] = [.v (.any (.ref b)), .v (.int m), .v (.int (5 + rc)), .e, .v (.int way), .o (.lst (ps.map pD ++ [prD p q])), s1, s2] ∧ u'.2.length = i + 1 ∧ ∀ m ∈ u'.2, SpV m.1 m.2 := fun p q h s1 s2 => by
      refine ⟨((s1, s2), ps ++ [(p, q)]), by rw [List.map_append]; rfl, by rw [List.length_append, hl]; rfl, fun m hm => ?_⟩
      rcases List.mem_append.mp hm with hm | hm
      · exact hA m hm
      · rw [List.mem_singleton.mp hm]
        exact h
    have hml : (ps.map pD).length ≤ 10 := by rw [List.length_map]; omega
    generalize m + u2 = la
    have fin : ∀ x y : Int, 0 ≤ x → y ≤ 1000000000000 → True := fun _ _ _ _ => trivial
    walk_at "oo"
    refine br_b (fun c1 => ?_) fun c1 => ?_
    all_goals
      walk_at "oo"
      refine br_b (fun c2 => ?_) fun c2 => ?_
      all_goals
        walk_at "oo"
        refine br_b (fun c3 => ?_) fun c3 => ?_
        · walk_at "oo"
          first
            | exact done _ _ ⟨by omega, by omega, by omega⟩ _ _
            | (refine br_b (fun c4 => ?_) fun c4 => ?_
               · walk_at "oo"
                 exact done _ _ ⟨by omega, by omega, by omega⟩ _ _
               · walk_at "oo"
                 refine Sp.mk ⟨b, l, rfl, rfl, fun p q hs => ?_⟩
                 walk_at "oo"
                 exact done _ _ hs _ _)
        · walk_at "oo"
          refine Sp.mk ⟨b, l, rfl, rfl, fun p q hs => ?_⟩
          walk_at "oo"
          exact done _ _ hs _ _
  · rintro ⟨⟨s1, s2⟩, ps⟩ ⟨hl, hA⟩
    walk_at "oo"
    exact q ps hl hA
section
variable {b : Addr} {l : LO} {a a' : Addr} {p q p' q' i : Int} {Ψ : Ret → BS → Prop}
theorem gx_first (ha : l.o a = some (spI p q)) (r : Ψ (.d (.int p)) (.bag b l)) : Sp sp_Span_first [.any (.ref a)] (.bag b l) Ψ := Sp.mk ⟨b, l, a, p, q, rfl, rfl, ha, r⟩
theorem gx_last (ha : l.o a = some (spI p q)) (r : Ψ (.d (.int q)) (.bag b l)) : Sp sp_Span_last [.any (.ref a)] (.bag b l) Ψ := Sp.mk ⟨b, l, a, p, q, rfl, rfl, ha, r⟩
theorem gx_many (ha : l.o a = some (spI p q)) (r : Ψ (.d (.int (q - p + 1))) (.bag b l)) : Sp sp_Span_many [.any (.ref a)] (.bag b l) Ψ := Sp.mk ⟨b, l, a, p, q, rfl, rfl, ha, r⟩
theorem gx_cti (ha : l.o a = some (spI p q)) (r : Ψ (.d (.bl (decide (p ≤ i ∧ i ≤ q)))) (.bag b l)) : Sp sp_Span___contains__ [.any (.ref a), .int i] (.bag b l) Ψ := Sp.mk ⟨b, l, a, p, q, .int i, rfl, rfl, ha, .inl ⟨i, rfl, r⟩⟩
theorem gx_cts (ha : l.o a = some (spI p q)) (ha' : l.o a' = some (spI p' q')) (r : Ψ (.d (.bl (decide (p ≤ p' ∧ q' ≤ q)))) (.bag b l)) : Sp sp_Span___contains__ [.any (.ref a), .any (.ref a')] (.bag b l) Ψ := Sp.mk ⟨b, l, a, p, q, _, rfl, rfl, ha, .inr ⟨a', p', q', rfl, ha', r⟩⟩
theorem gx_eq (ha : l.o a = some (spI p q)) (ha' : l.o a' = some (spI p' q')) (r : Ψ (.d (.bl (decide (p = p' ∧ q = q')))) (.bag b l)) : Sp sp_Span___eq__ [.any (.ref a), .any (.ref a')] (.bag b l) Ψ := Sp.mk ⟨b, l, a, a', p, q, p', q', rfl, rfl, ha, ha', r⟩
theorem gx_like (ha : l.o a = some (spI p q)) (r : Ψ (.d (.bl true)) (.bag b l)) : Sp sp__law_is_like [.any (.ref a), prD p q] (.bag b l) Ψ := Sp.mk ⟨b, l, a, p, q, rfl, rfl, ha, r⟩
theorem gx_like' (ha : l.o a = some (spI p q)) (e1 : p = p') (e2 : q = q') (r : Ψ (.d (.bl true)) (.bag b l)) : Sp sp__law_is_like [.any (.ref a), prD p' q'] (.bag b l) Ψ := by subst e1; subst e2; exact gx_like ha r
theorem gx_same {n : Nat} {d d' : D} {s : BS} (e : d = d') (h : smO n d' = true) (r : Ψ (.d (.bl true)) s) : Sp (sp__law_same n) [d, d'] s Ψ := by subst e; exact Sp.mk ⟨_, rfl, h, r⟩
end
theorem eqv_pr (x y u v : Int) : PyData.eqv (D.tup [.int x, .int y]).py (D.tup [.int u, .int v]).py = decide (x = u ∧ y = v) := by
  rw [eqv_two]
  exact decide_eq_decide.mpr ⟨fun h => by cases h; exact ⟨rfl, rfl⟩, fun h => by rw [h.1, h.2]⟩
theorem bl_eq {A B : Prop} [Decidable A] [Decidable B] (h : A ↔ B) : D.bl (decide A) = D.bl (decide B) := by rw [decide_eq_decide.mpr h]
theorem bl_t {A : Prop} [Decidable A] (h : A) : D.bl (decide A) = D.bl true := by rw [decide_eq_true h]
theorem bl_f {A : Prop} [Decidable A] (h : ¬ A) : D.bl (decide A) = D.bl false := by rw [decide_eq_false h]
theorem int_eq {x y : Int} (h : x = y) : D.int x = D.int y := by rw [h]
theorem lst_nl : D.lst [] = D.lst [] := rfl
theorem lst_cn {x y : D} {l m : List D} (h : x = y) (t : D.lst l = D.lst m) : D.lst (x :: l) = D.lst (y :: m) := by
  cases t
  rw [h]
theorem toX_go {g : Pg BZ} {ds : List D} {s : BS} {Ψ : Ret → BS → Prop} {Ξ : XD → BS → Prop} (h : Sp g ds s Ψ) : SpX (toX (A := BZ) g) ds s Ψ Ξ := ⟨h.go⟩
theorem gx_or {b : Addr} {l : LO} {a a' : Addr} {p q p' q' : Int} {Ψ : Ret → BS → Prop} {Ξ : XD → BS → Prop} (ha : l.o a = some (spI p q)) (ha' : l.o a' = some (spI p' q')) (hs : SpV p q) (hs' : SpV p' q')
    (r : ∀ x l', XS l l' → l'.o x = some (spI (min p p') (max q q')) → Ψ (.d (.any (.ref x))) (.bag b l')) : SpX (toX (A := BZ) sp_Span___or__) [.any (.ref a), .any (.ref a')] (.bag b l) Ψ Ξ := toX_go (Sp.mk ⟨b, l, a, a', p, q, p', q', rfl, rfl, ha, ha', hs, hs', r⟩)
theorem gx_and {b : Addr} {l : LO} {a a' : Addr} {p q p' q' : Int} {Ψ : Ret → BS → Prop} {Ξ : XD → BS → Prop} (ha : l.o a = some (spI p q)) (ha' : l.o a' = some (spI p' q')) (hs : SpV p q) (hs' : SpV p' q') (c : max p p' ≤ min q q')
    (r : ∀ x l', XS l l' → l'.o x = some (spI (max p p') (min q q')) → Ψ (.d (.any (.ref x))) (.bag b l')) : SpX sp_Span___and__ [.any (.ref a), .any (.ref a')] (.bag b l) Ψ Ξ := SpX.mk ⟨b, l, a, a', p, q, p', q', rfl, rfl, ha, ha', hs, hs', fun _ => r, fun h => (h c).elim⟩
theorem gx_new {b : Addr} {l : LO} {p q : Int} {Ψ : Ret → BS → Prop} {Ξ : XD → BS → Prop} {x : Addr} (hx : l.o x = none) (hs : SpV p q) (r : ∀ l', XS l l' → l'.o x = some (spI p q) → Ψ (.d .non) (.bag b l')) : SpX sp_Span___init__ [.any (.ref x), prD p q] (.bag b (l.put x (.ins "Span" [] []))) Ψ Ξ := SpX.mk ⟨b, _, x, p, q, rfl, rfl, oput_at, fun _ => by rw [put_put]; exact r _ (XS.put hx) oput_at, fun h => (h hs).elim⟩
theorem cut_goS {S : Type} {g h : FS S} {P : PEnds S} {ρ : List Sl} {s : S} {T : Type} (enc : T → List Sl) (st : T → S) (J : T → Prop) (h1 : g { P with nx := fun ρ' s' => ∃ t, st t = s' ∧ enc t = ρ' ∧ J t } ρ s) (h2 : ∀ t, J t → h P (enc t) (st t)) : CutP g h P ρ s :=
  ⟨_, h1, fun ρ' s' ⟨t, e1, e2, j⟩ => by rw [← e1, ← e2]; exact h2 t j⟩
local macro_rules | `(tactic| walk_at "s1") => `(tactic| first
  | (apply gx_first; (focus assumption))
  | (apply gx_last; (focus assumption))
  | (apply gx_many; (focus assumption))
  | (apply gx_cti; (focus assumption))
  | (apply gx_cts; (focus assumption); (focus assumption))
  | (apply gx_eq; (focus assumption); (focus assumption))
  | (apply gx_like; (focus assumption))
  | (apply gx_like'; (focus assumption); (focus omega); (focus omega))
  | (refine gx_same ?_ ?_ ?_; (focus (walk_at "lq"; done)); (focus rfl))
  | refine Exists.intro (α := Bool) _ (And.intro rfl ?_)
  | (refine And.intro (dok_two _ _) (And.intro (dok_two _ _) ?_); rw [eqv_pr]))
local macro_rules | `(tactic| walk_at "ss") => `(tactic| (walk_at "oo"; repeat (walk_at "s1"; walk_at "oo")))
local macro_rules | `(tactic| walk_at "lq") => `(tactic| ((try simp only [Bool.false_eq_true, if_false, if_true]); repeat (first
  | exact lst_nl
  | refine lst_cn ?_ ?_
  | rfl
  | (refine bl_t ?_; omega)
  | (refine bl_f ?_; omega)
  | (refine bl_eq ?_; omega)
  | (refine int_eq ?_; omega))))
local macro_rules | `(tactic| walk_at "sb") => `(tactic| (walk_at "oo"; repeat' (first
  | (walk_at "s1"; walk_at "oo")
  | (refine br_b (fun _ => ?_) (fun _ => ?_) <;> walk_at "oo"))))
theorem pp__law_are_places_right (ds : List D) (s : BS) (Ψ : Ret → BS → Prop) (_ : ds.length = 3) (h : sp__law_are_places_right ds s Ψ) : ff__law_are_places_right { nx := fun _ s => Ψ (.d .non) s, rt := Ψ } (startR ["bag", "span", "pair", "at", "told", "is_all", "first", "many", "low", "high", "that", "part"] ds) s := by
  obtain ⟨b, l, a, p, q', rfl, rfl, ha, hs, q⟩ := h
  obtain ⟨s1, s2, s3⟩ := id hs
  show ff__law_are_places_right _ [_, _, _, _, _, _, _, _, _, _, _, _] _
  walk_at "od"
  refine Sp.mk ⟨b, l, rfl, rfl, fun r r0 r1 => ?_⟩
  walk_at "od"
  have e1 := Int.emod_nonneg r (b := q' - p + 1) (by omega)
  have e2 := Int.emod_lt_of_pos r (b := q' - p + 1) (by omega)
  generalize r % (q' - p + 1) = lo at *
  refine Sp.mk ⟨b, l, rfl, rfl, fun r r0 r1 => ?_⟩
  walk_at "od"
  have e3 := Int.emod_nonneg r (b := q' - p + 1) (by omega)
  have e4 := Int.emod_lt_of_pos r (b := q' - p + 1) (by omega)
  generalize r % (q' - p + 1) = hi at *
  have gI : ∀ (v : Int) (Ψ : Ret → BS → Prop) (Ξ : XD → BS → Prop), 0 ≤ v → v ≤ q' - p → Ψ (.d (.int (p + v))) (.bag b l) → SpX sp_Span___getitem__ [.any (.ref a), .int v] (.bag b l) Ψ Ξ := fun v Ψ Ξ h0 h1 h2 => SpX.mk ⟨b, l, a, p, q', v, rfl, rfl, ha, fun _ => h2, fun h => (h ⟨h0, h1⟩).elim⟩
  refine gI lo _ _ e1 (by omega) ?_
  walk_at "ss"
  refine gI hi _ _ e3 (by omega) ?_
  walk_at "ss"
  refine gI _ _ _ (by omega) (by omega) ?_
  walk_at "ss"
  refine gI lo _ _ e1 (by omega) ?_
  walk_at "ss"
  refine gI hi _ _ e3 (by omega) ?_
  walk_at "ss"
  refine gI _ _ _ (by omega) (by omega) ?_
  walk_at "ss"
  clear gI
  refine cut_goS (fun u : Sl × LO => [.v (.any (.ref b)), .v (.any (.ref a)), .v (prD p q'), .e, .e, .e, .v (.int p), .v (.int (q' - p + 1)), .v (.int lo), .v (.int hi), u.1, .e]) (fun u => .bag b u.2) (fun u => XS l u.2) ?_ ?_
  · refine br_b (fun c1 => ?_) fun c1 => ?_
    · walk_at "oo"
      refine NewP.mk ⟨_, _, rfl, fun x hx => ?_⟩
      refine gx_new hx ⟨by omega, by omega, by omega⟩ fun l1 hx hl1 => ?_
      replace ha := hx.1 _ _ ha
      walk_at "ss"
      exact ⟨(_, l1), rfl, rfl, hx⟩
    · walk_at "ss"
      exact ⟨(_, l), rfl, rfl, XS.refl⟩
  rintro ⟨u, l1⟩ hx'
  have hx : XS l l1 := hx'
  clear hx'
  replace ha := hx.1 _ _ ha
  replace q := fun l' h => q l' (XS.trans hx h)
  clear hx l
  walk_at "oo"
  refine for_goI (fun _ : Unit => [.v (.any (.ref b)), .v (.any (.ref a)), .v (prD p q'), .e, .e, .e, .v (.int p), .v (.int (q' - p + 1)), .v (.int lo), .v (.int hi), u, .e]) (fun _ => .bag b l1) (fun _ _ => True) () rfl rfl trivial ?_ ?_
  · rintro i d ⟨⟩ hd -
    have hd := List.mem_of_getElem? hd
    simp only [List.mem_cons, List.not_mem_nil, or_false] at hd
    rcases hd with rfl | rfl
    all_goals
      walk_at "oo"
      refine Sp.mk ⟨b, l1, a, p, q', _, rfl, rfl, ha, by omega, ?_⟩
      walk_at "ss"
      exact ⟨(), rfl, rfl, trivial⟩
  rintro ⟨⟩ -
  walk_at "oo"
  have gI : ∀ (v : Int) (Ψ : Ret → BS → Prop) (Ξ : XD → BS → Prop), 0 ≤ v → v ≤ q' - p → Ψ (.d (.int (p + v))) (.bag b l1) → SpX sp_Span___getitem__ [.any (.ref a), .int v] (.bag b l1) Ψ Ξ := fun v Ψ Ξ h0 h1 h2 => SpX.mk ⟨b, l1, a, p, q', v, rfl, rfl, ha, fun _ => h2, fun h => (h ⟨h0, h1⟩).elim⟩
  refine gI lo _ _ e1 (by omega) ?_
  walk_at "ss"
  refine gI hi _ _ e3 (by omega) ?_
  walk_at "ss"
  refine NewP.mk ⟨_, _, rfl, fun x hx => ?_⟩
  by_cases c : lo ≤ hi
  · have hsx : SpV (p + lo) (p + hi) := ⟨by omega, by omega, by omega⟩
    refine gx_new hx hsx fun l2 hx hl2 => ?_
    replace ha := hx.1 _ _ ha
    replace q := fun l' h => q l' (XS.trans hx h)
    clear hx gI
    walk_at "ss"
    refine gx_or hl2 ha hsx hs fun y l3 hx hl3 => ?_
    replace ha := hx.1 _ _ ha
    replace hl2 := hx.1 _ _ hl2
    replace q := fun l' h => q l' (XS.trans hx h)
    clear hx
    walk_at "ss"
    refine gx_and hl2 ha hsx hs (by omega) fun z l4 hx hl4 => ?_
    replace ha := hx.1 _ _ ha
    replace hl2 := hx.1 _ _ hl2
    replace hl3 := hx.1 _ _ hl3
    replace q := fun l' h => q l' (XS.trans hx h)
    clear hx
    walk_at "sb"
    all_goals exact q _ XS.refl
  · refine SpX.mk ⟨b, _, x, _, _, rfl, rfl, oput_at, fun h => ?_, fun _ => ?_⟩
    · obtain ⟨h1, h2, h3⟩ := h
      omega
    refine ⟨true, by walk_at "mm", fun _ => ?_, fun h => by cases h⟩
    walk_at "ss"
    rw [decide_eq_true (by omega)]
    exact q _ (XS.put0 (fun _ h => (nomatch h)) hx)
theorem pp__law_are_two_right (ds : List D) (s : BS) (Ψ : Ret → BS → Prop) (_ : ds.length = 4) (h : sp__law_are_two_right ds s Ψ) : ff__law_are_two_right { nx := fun _ s => Ψ (.d .non) s, rt := Ψ } (startR ["bag", "one", "other", "pairs", "numbers", "x", "both", "told", "first", "second", "due", "over", "reach", "gap", "is_one", "is_other"] ds) s := by
  obtain ⟨b, l, a, a', p, q', p2, q2, rfl, rfl, ha, ha', hs, hs', q⟩ := h
  obtain ⟨s1, s2, s3⟩ := id hs
  obtain ⟨t1, t2, t3⟩ := id hs'
  show ff__law_are_two_right _ [_, _, _, _, _, _, _, _, _, _, _, _, _, _, _, _] _
  walk_at "oo"
  refine Sp.mk ⟨p, q', p2, q2, rfl, ?_⟩
  walk_at "oo"
  refine Sp.mk ⟨p, q', p2, q2, rfl, ?_⟩
  have hso : SpV (min p p2) (max q' q2) := ⟨by omega, by omega, by omega⟩
  by_cases c : max p p2 ≤ min q' q2
  · rw [if_pos c]
    walk_at "oo"
    refine Sp.mk ⟨b, l, a, a', _, _, _, _, rfl, rfl, ha, ha', hs, hs', fun _ x l1 hx hl1 => ?_, fun c2 => (c2 c).elim⟩
    replace ha := hx.1 _ _ ha
    replace ha' := hx.1 _ _ ha'
    replace q := fun l' h => q l' (XS.trans hx h)
    clear hx
    walk_at "oo"
    refine gx_or ha ha' hs hs' fun y l2 hx hl2 => ?_
    replace ha := hx.1 _ _ ha
    replace ha' := hx.1 _ _ ha'
    replace hl1 := hx.1 _ _ hl1
    replace q := fun l' h => q l' (XS.trans hx h)
    clear hx
    walk_at "ss"
    refine gx_and ha hl2 hs hso (by omega) fun z l3 hx hl3 => ?_
    replace ha := hx.1 _ _ ha
    replace ha' := hx.1 _ _ ha'
    replace hl2 := hx.1 _ _ hl2
    replace hl1 := hx.1 _ _ hl1
    replace q := fun l' h => q l' (XS.trans hx h)
    clear hx
    walk_at "ss"
    refine gx_and ha hl2 hs hso (by omega) fun z2 l4 hx hl4 => ?_
    replace ha := hx.1 _ _ ha
    replace ha' := hx.1 _ _ ha'
    replace hl2 := hx.1 _ _ hl2
    replace hl3 := hx.1 _ _ hl3
    replace hl1 := hx.1 _ _ hl1
    replace q := fun l' h => q l' (XS.trans hx h)
    clear hx
    walk_at "ss"
    refine gx_and hl2 ha' hso hs' (by omega) fun z3 l5 hx hl5 => ?_
    replace ha := hx.1 _ _ ha
    replace ha' := hx.1 _ _ ha'
    replace hl2 := hx.1 _ _ hl2
    replace hl3 := hx.1 _ _ hl3
    replace hl4 := hx.1 _ _ hl4
    replace hl1 := hx.1 _ _ hl1
    replace q := fun l' h => q l' (XS.trans hx h)
    clear hx
    walk_at "ss"
    refine Sp.mk ⟨b, l5, rfl, rfl, fun fr f0 f1 => ?_⟩
    walk_at "ss"
    refine for_goT (A := BZ) D.int [p, q', p2, q2, q' + 1, p2 - 1, min p p2 + fr % (max q' q2 - min p p2 + 1)] rfl (fun u : Sl × Sl => [.v (.any (.ref b)), .v (.any (.ref a)), .v (.any (.ref a')), .v (.tup [prD p q', prD p2 q2]), .v (.lst (List.map D.int [p, q', p2, q2, q' + 1, p2 - 1, min p p2 + fr % (max q' q2 - min p p2 + 1)])), .e, .e, .v (.lst [.any (.ref x)]), .v (prD p q'), .v (prD p2 q2), .v (prD (max p p2) (min q' q2)), .v (prD (min p p2) (max q' q2)), .v (.any (.ref y)), .e, u.1, u.2]) (fun _ _ => True) (.e, .e) rfl trivial ?_ ?_
    · rintro pre i post ⟨u1, u2⟩ he -
      clear he
      walk_at "sb"
      all_goals exact ⟨(_, _), rfl, trivial⟩
    rintro ⟨u1, u2⟩ -
    have hsb : SpV (max p p2) (min q' q2) := ⟨by omega, by omega, by omega⟩
    walk_at "ss"
    refine gx_or ha hl1 hs hsb fun w l6 hx hl6 => ?_
    replace ha := hx.1 _ _ ha
    replace ha' := hx.1 _ _ ha'
    replace hl1 := hx.1 _ _ hl1
    replace hl2 := hx.1 _ _ hl2
    replace q := fun l' h => q l' (XS.trans hx h)
    clear hx hl3 hl4 hl5
    walk_at "ss"
    refine gx_and ha' ha hs' hs (by omega) fun v l7 hx hl7 => ?_
    replace ha := hx.1 _ _ ha
    replace ha' := hx.1 _ _ ha'
    replace hl1 := hx.1 _ _ hl1
    replace hl2 := hx.1 _ _ hl2
    replace hl6 := hx.1 _ _ hl6
    replace q := fun l' h => q l' (XS.trans hx h)
    clear hx
    walk_at "ss"
    exact q _ XS.refl
  · rw [if_neg c]
    walk_at "oo"
    refine Sp.mk ⟨b, l, a, a', _, _, _, _, rfl, rfl, ha, ha', hs, hs', fun c2 => (c c2).elim, fun _ => ?_⟩
    walk_at "oo"
    refine gx_or ha ha' hs hs' fun y l2 hx hl2 => ?_
    replace ha := hx.1 _ _ ha
    replace ha' := hx.1 _ _ ha'
    replace q := fun l' h => q l' (XS.trans hx h)
    clear hx
    walk_at "ss"
    refine gx_and ha hl2 hs hso (by omega) fun z l3 hx hl3 => ?_
    replace ha := hx.1 _ _ ha
    replace ha' := hx.1 _ _ ha'
    replace hl2 := hx.1 _ _ hl2
    replace q := fun l' h => q l' (XS.trans hx h)
    clear hx
    walk_at "ss"
    refine gx_and ha hl2 hs hso (by omega) fun z2 l4 hx hl4 => ?_
    replace ha := hx.1 _ _ ha
    replace ha' := hx.1 _ _ ha'
    replace hl2 := hx.1 _ _ hl2
    replace hl3 := hx.1 _ _ hl3
    replace q := fun l' h => q l' (XS.trans hx h)
    clear hx
    walk_at "ss"
    refine gx_and hl2 ha' hso hs' (by omega) fun z3 l5 hx hl5 => ?_
    replace ha := hx.1 _ _ ha
    replace ha' := hx.1 _ _ ha'
    replace hl2 := hx.1 _ _ hl2
    replace hl3 := hx.1 _ _ hl3
    replace hl4 := hx.1 _ _ hl4
    replace q := fun l' h => q l' (XS.trans hx h)
    clear hx
    walk_at "ss"
    refine Sp.mk ⟨b, l5, rfl, rfl, fun fr f0 f1 => ?_⟩
    walk_at "ss"
    refine for_goT (A := BZ) D.int [p, q', p2, q2, q' + 1, p2 - 1, min p p2 + fr % (max q' q2 - min p p2 + 1)] rfl (fun u : Sl × Sl => [.v (.any (.ref b)), .v (.any (.ref a)), .v (.any (.ref a')), .v (.tup [prD p q', prD p2 q2]), .v (.lst (List.map D.int [p, q', p2, q2, q' + 1, p2 - 1, min p p2 + fr % (max q' q2 - min p p2 + 1)])), .e, .e, .v (.lst []), .v (prD p q'), .v (prD p2 q2), .v (.non), .v (prD (min p p2) (max q' q2)), .v (.any (.ref y)), .e, u.1, u.2]) (fun _ _ => True) (.e, .e) rfl trivial ?_ ?_
    · rintro pre i post ⟨u1, u2⟩ he -
      clear he
      walk_at "sb"
      all_goals exact ⟨(_, _), rfl, trivial⟩
    rintro ⟨u1, u2⟩ -
    walk_at "oo"
    refine br_b (fun c1 => ?_) fun c1 => ?_
    all_goals
      walk_at "ss"
      refine Sp.mk ⟨b, l5, a', a, _, _, _, _, rfl, rfl, ha', ha, hs', hs, fun c2 => (by omega), fun _ => ?_⟩
      walk_at "ss"
      refine ⟨dok_lst rfl, dok_lst rfl, ?_⟩
      rw [eqv_lnil]
      exact q _ XS.refl
theorem zip_maps {T : Type} {f g : T → D} : ∀ {l : List T}, zipD (l.map f) (l.map g) = l.map fun x => .tup [f x, g x]
  | [] => rfl
  | x :: l => by
    show D.tup [f x, g x] :: zipD (l.map f) (l.map g) = _
    rw [zip_maps]
    rfl
theorem all_true {n : Nat} : (List.replicate n true).all id = true := by rw [List.all_eq_true]; exact fun b hb => (List.mem_replicate.mp hb).2
abbrev rsD : Option (Int × Int) → D
  | none => .non
  | some p => pD p
structure Fo (l l' : LO) (o : Addr) (dp dq : Int) (bt : Addr) (rs : Option (Int × Int)) (pre : List Sm3) : Prop where
  x : XS l l'
  o : l'.o o = some (spI dp dq)
  v : SpV dp dq
  r : ∀ p, rs = some p → l'.o bt = some (spI p.1 p.2) ∧ SpV p.1 p.2
  c : ∀ m ∈ pre, dp ≤ m.2.1 ∧ m.2.2 ≤ dq
theorem pp__law_are_folds_right (ds : List D) (s : BS) (Ψ : Ret → BS → Prop) (_ : ds.length = 2) (h : sp__law_are_folds_right ds s Ψ) : ff__law_are_folds_right { nx := fun _ s => Ψ (.d .non) s, rt := Ψ } (startR ["spans", "pairs", "over", "due", "both", "rest", "span", "pair", "told"] ds) s := by
  obtain ⟨b, l, ms, rfl, rfl, hne, hl, hA, q⟩ := h
  obtain ⟨m0, ms', rfl⟩ : ∃ m0 ms', ms = m0 :: ms' := by
    cases ms with
    | nil => exact (hne rfl).elim
    | cons m ms => exact ⟨m, ms, rfl⟩
  show ff__law_are_folds_right _ [_, _, _, _, _, _, _, _, _] _
  walk_at "oo"
  obtain ⟨h0, h1⟩ := hA m0 List.mem_cons_self
  rw [zip_maps]
  refine for_goS (fun m : Sm3 => .tup [hD m, p3D m]) (m0 :: ms') rfl (fun u : Sl × LO × Addr × Int × Int × Addr × Option (Int × Int) => [.v (.lst ((m0 :: ms').map hD)), .v (.lst ((m0 :: ms').map p3D)), .v (.any (.ref u.2.2.1)), .v (prD u.2.2.2.1 u.2.2.2.2.1), .v (.any (.ref u.2.2.2.2.2.1)), .v (rsD u.2.2.2.2.2.2), .e, .e, u.1]) (fun u => .bag b u.2.1) (fun pre u => Fo l u.2.1 u.2.2.1 u.2.2.2.1 u.2.2.2.2.1 u.2.2.2.2.2.1 u.2.2.2.2.2.2 pre) (.e, l, m0.1, m0.2.1, m0.2.2, m0.1, some (m0.2.1, m0.2.2)) rfl rfl ⟨XS.refl, h0, h1, fun p e => (by cases e; exact ⟨h0, h1⟩), fun _ h => (nomatch h)⟩ ?_ ?_
  · rintro pre t post ⟨u8, l1, o, dp, dq, bt, rs⟩ he hF
    have hF : Fo l l1 o dp dq bt rs pre := hF
    obtain ⟨k1, k2⟩ := hA t (by rw [he]; simp)
    obtain ⟨f1, f2, f3, f4, f5⟩ := hF
    replace k1 := f1.1 _ _ k1
    walk_at "oo"
    refine gx_or f2 k1 f3 k2 fun o2 l2 hx hl2 => ?_
    replace k1 := hx.1 _ _ k1
    replace f4 : ∀ p, rs = some p → l2.o bt = some (spI p.1 p.2) ∧ SpV p.1 p.2 := fun p e => ⟨hx.1 _ _ (f4 p e).1, (f4 p e).2⟩
    replace f1 := f1.trans hx
    clear hx f2
    walk_at "oo"
    refine Sp.mk ⟨dp, dq, t.2.1, t.2.2, rfl, ?_⟩
    walk_at "ss"
    refine cut_goS (fun u : Sl × LO × Addr × Option (Int × Int) => [.v (.lst ((m0 :: ms').map hD)), .v (.lst ((m0 :: ms').map p3D)), .v (.any (.ref o2)), .v (prD (min dp t.2.1) (max dq t.2.2)), .v (.any (.ref u.2.2.1)), .v (rsD u.2.2.2), .v (hD t), .v (p3D t), u.1]) (fun u => .bag b u.2.1) (fun u => XS l2 u.2.1 ∧ ∀ p, u.2.2.2 = some p → u.2.1.o u.2.2.1 = some (spI p.1 p.2) ∧ SpV p.1 p.2) ?_ ?_
    · cases rs with
      | none =>
        walk_at "oo"
        exact ⟨(u8, l2, bt, none), rfl, rfl, XS.refl, fun p e => (nomatch e)⟩
      | some p =>
        obtain ⟨g1, g2⟩ := f4 p rfl
        walk_at "oo"
        by_cases c : max p.1 t.2.1 ≤ min p.2 t.2.2
        · refine Sp.mk ⟨b, l2, bt, t.1, _, _, _, _, rfl, rfl, g1, k1, g2, k2, fun _ w l3 hx hw => ?_, fun h => (h c).elim⟩
          walk_at "oo"
          refine Sp.mk ⟨p.1, p.2, t.2.1, t.2.2, rfl, ?_⟩
          rw [if_pos c]
          walk_at "ss"
          exact ⟨(_, l3, w, some (max p.1 t.2.1, min p.2 t.2.2)), rfl, rfl, hx, fun z e => by cases e; exact ⟨hw, ⟨by have := g2.1; omega, c, by have := g2.2.2; omega⟩⟩⟩
        · refine Sp.mk ⟨b, l2, bt, t.1, _, _, _, _, rfl, rfl, g1, k1, g2, k2, fun h => (c h).elim, fun _ => ?_⟩
          walk_at "oo"
          refine Sp.mk ⟨p.1, p.2, t.2.1, t.2.2, rfl, ?_⟩
          rw [if_neg c]
          walk_at "ss"
          exact ⟨(_, l2, bt, none), rfl, rfl, XS.refl, fun z e => (nomatch e)⟩
    rintro ⟨v8, l3, bt2, rs2⟩ ⟨hx, g4⟩
    walk_at "oo"
    have f6 : SpV (min dp t.2.1) (max dq t.2.2) := ⟨by have := f3.1; have := k2.1; omega, by have := f3.2.1; omega, by have := f3.2.2; have := k2.2.2; omega⟩
    refine ⟨(v8, l3, o2, min dp t.2.1, max dq t.2.2, bt2, rs2), rfl, rfl, f1.trans hx, hx.1 _ _ hl2, f6, g4, fun m hm => ?_⟩
    rcases List.mem_append.mp hm with hm | hm
    · have := f5 m hm
      dsimp only
      omega
    · rw [List.mem_singleton.mp hm]
      dsimp only
      omega
  · rintro ⟨u8, l1, o, dp, dq, bt, rs⟩ hF
    have hF : Fo l l1 o dp dq bt rs (m0 :: ms') := hF
    have ho := hF.o
    walk_at "oo"
    refine lc_mapT (A := BZ) hD (fun _ => .bl true) (m0 :: ms') rfl (by omega) (fun t C ht hC => ?_) ?_
    · have k := hF.x.1 _ _ (hA t ht).1
      have c := hF.c t ht
      walk_at "ss"
      exact hC
    walk_at "oo"
    refine ⟨List.replicate (m0 :: ms').length true, by rw [List.map_const', List.map_replicate], ?_⟩
    rw [all_true]
    exact q _ hF.x
structure Wl (l : LO) (ms : List Sm3) : Prop where
  len : ms.length = 6
  at_ : At3 l ms
  spn : Spn l
theorem Wl.ext {l l' : LO} {ms : List Sm3} (h : Wl l ms) (x : XS l l') : Wl l' ms := ⟨h.len, fun m hm => ⟨x.1 _ _ (h.at_ m hm).1, (h.at_ m hm).2⟩, x.2 h.spn⟩
theorem Wl.set {l : LO} {ms : List Sm3} {k : Nat} {m : Sm3} (h : Wl l ms) (h1 : l.o m.1 = some (spI m.2.1 m.2.2)) (h2 : SpV m.2.1 m.2.2) : Wl l (ms.set k m) := ⟨by rw [List.length_set]; exact h.len, fun z hz => (List.mem_or_eq_of_mem_set hz).elim (h.at_ z) fun e => e ▸ ⟨h1, h2⟩, h.spn⟩
theorem set_p {ms : List Sm3} {k : Nat} {x : Addr} {p q : Int} : (ms.map p3D).set k (prD p q) = (ms.set k (x, p, q)).map p3D := by rw [List.map_set]
theorem set_h {ms : List Sm3} {k : Nat} {x : Addr} {p q : Int} : (ms.map hD).set k (.any (.ref x)) = (ms.set k (x, p, q)).map hD := by rw [List.map_set]
theorem free_hs : ∀ ms : List Sm3, freeL (ms.map hD) = true
  | [] => rfl
  | m :: ms => by
    show (D.free (hD m) && freeL (ms.map hD)) = true
    rw [free_hs ms]
    rfl
abbrev S11 := (Sl × Sl × Sl × Sl × Sl × Sl × Sl × Sl × Sl × Sl × Sl)
theorem pp_law (ds : List D) (s : BS) (Ψ : Ret → BS → Prop) (_ : ds.length = 1) (h : sp_law ds s Ψ) : ff_law { nx := fun _ s => Ψ (.d .non) s, rt := Ψ } (startR ["script", "bag", "pairs", "spans", "turn", "due", "pair", "i", "j", "k", "one", "other", "first", "second", "many", "low", "high", "span"] ds) s := by
  obtain ⟨r, a, ns, rfl, rfl, hn, q⟩ := h
  show ff_law _ [_, _, _, _, _, _, _, _, _, _, _, _, _, _, _, _, _, _] _
  walk_at "od"
  refine Sp.mk ⟨r, a, ns, rfl, rfl, hn, fun b l hl0 => ?_⟩
  have hS : Spn l := fun a oc e => by rw [hl0 a] at e; cases e
  clear hl0
  walk_at "od"
  refine Sp.mk ⟨b, l, rfl, rfl, fun ps hpl hps => ?_⟩
  walk_at "oo"
  refine lc_mapS pD ps rfl (by omega) (fun u : LO × List Sm3 => .bag b u.1) (fun u => u.2.map hD) (fun pre u => XS l u.1 ∧ u.2.map (·.2) = pre ∧ At3 u.1 u.2) (l, []) rfl rfl ⟨XS.refl, rfl, fun _ h => (nomatch h)⟩ (fun pre t post u he hI => ?_) fun u hI => ?_
  · obtain ⟨l1, ms⟩ := u
    obtain ⟨i1, i2, i3⟩ := hI
    have hst := hps t (by rw [he]; simp)
    walk_at "oo"
    refine NewP.mk ⟨_, _, rfl, fun x hx => ?_⟩
    refine gx_new hx hst fun l2 hx hl2 => ?_
    walk_at "oo"
    refine ⟨(l2, ms ++ [(x, t.1, t.2)]), rfl, by rw [List.map_append]; rfl, i1.trans hx, by rw [List.map_append, i2]; rfl, fun m hm => ?_⟩
    rcases List.mem_append.mp hm with hm | hm
    · exact ⟨hx.1 _ _ (i3 m hm).1, (i3 m hm).2⟩
    · rw [List.mem_singleton.mp hm]
      exact ⟨hl2, hst⟩
  obtain ⟨l1, ms⟩ := u
  obtain ⟨i1, i2', i3'⟩ := hI
  have i2 : ms.map (·.2) = ps := i2'
  have i3 : At3 l1 ms := i3'
  clear i2' i3'
  have hW : Wl l1 ms := ⟨by rw [← hpl, ← i2, List.length_map], i3, i1.2 hS⟩
  have ep : ps.map pD = ms.map p3D := by rw [← i2, List.map_map]; rfl
  rw [ep]
  clear i1 i2 i3 ep hpl hps ps hS l
  refine ⟨hW.spn, free_hs ms, ?_⟩
  walk_at "oo"
  have hne : ms ≠ [] := fun e => by have := hW.len; rw [e] at this; cases this
  refine Sp.mk ⟨b, l1, ms, rfl, rfl, hne, by rw [hW.len]; decide, hW.at_, fun l2 hx => ?_⟩
  replace hW := hW.ext hx
  clear hx l1 hne
  walk_at "oo"
  refine ⟨hW.spn, ?_⟩
  walk_at "oo"
  refine for_goI (fun u : S11 × LO × List Sm3 => [.v (.any (.ref a)), .v (.any (.ref b)), .o (.lst (u.2.2.map p3D)), .o (.lst (u.2.2.map hD)), .e, u.1.1, .e, u.1.2.1, u.1.2.2.1, u.1.2.2.2.1, u.1.2.2.2.2.1, u.1.2.2.2.2.2.1, u.1.2.2.2.2.2.2.1, u.1.2.2.2.2.2.2.2.1, u.1.2.2.2.2.2.2.2.2.1, u.1.2.2.2.2.2.2.2.2.2.1, u.1.2.2.2.2.2.2.2.2.2.2, .e]) (fun u => .bag b u.2.1) (fun _ u => Wl u.2.1 u.2.2) ((.e, .e, .e, .e, .e, .e, .e, .e, .e, .e, .e), l2, ms) rfl rfl hW ?_ ?_
  · rintro i0 d ⟨⟨s5, s7, s8, s9, s10, s11, s12, s13, s14, s15, s16⟩, l, ms⟩ hd hW
    have hW : Wl l ms := hW
    obtain ⟨rfl, hi⟩ := rangeD_at hd
    walk_at "oo"
    refine draw_go (by omega) (by omega) fun i i1 i2 => ?_
    walk_at "oo"
    refine draw_go (by omega) (by omega) fun j j1 j2 => ?_
    walk_at "oo"
    refine draw_go (by omega) (by omega) fun k k1 k2 => ?_
    walk_at "oo"
    have hlen := hW.len
    have gi : i.toNat < ms.length := by omega
    have gj : j.toNat < ms.length := by omega
    obtain ⟨m, hm⟩ : ∃ m, ms[i.toNat]? = some m := ⟨_, List.getElem?_eq_getElem gi⟩
    obtain ⟨n, hn2⟩ : ∃ m, ms[j.toNat]? = some m := ⟨_, List.getElem?_eq_getElem gj⟩
    obtain ⟨a1, a2⟩ := hW.at_ m (List.mem_of_getElem? hm)
    obtain ⟨b1, b2⟩ := hW.at_ n (List.mem_of_getElem? hn2)
    refine ix_go i1 (by rw [List.length_map]; omega) fun d hd => ?_
    rw [List.getElem?_map, hm] at hd
    cases hd
    walk_at "oo"
    refine ix_go j1 (by rw [List.length_map]; omega) fun d hd => ?_
    rw [List.getElem?_map, hn2] at hd
    cases hd
    walk_at "oo"
    refine ix_go i1 (by rw [List.length_map]; omega) fun d hd => ?_
    rw [List.getElem?_map, hm] at hd
    cases hd
    walk_at "oo"
    refine ix_go j1 (by rw [List.length_map]; omega) fun d hd => ?_
    rw [List.getElem?_map, hn2] at hd
    cases hd
    walk_at "oo"
    refine cut_goS (fun u : (Sl × Sl × Sl) × LO × Addr × Int × Int => [.v (.any (.ref a)), .v (.any (.ref b)), .o (.lst (ms.map p3D)), .o (.lst (ms.map hD)), .v (.int (0 + (i0 : Int))), s5, .e, .v (.int i), .v (.int j), .v (.int k), .v (hD m), .v (.any (.ref u.2.2.1)), .v (p3D m), .v (prD u.2.2.2.1 u.2.2.2.2), u.1.1, u.1.2.1, u.1.2.2, .e]) (fun u => .bag b u.2.1) (fun u => XS l u.2.1 ∧ u.2.1.o u.2.2.1 = some (spI u.2.2.2.1 u.2.2.2.2) ∧ SpV u.2.2.2.1 u.2.2.2.2) ?_ ?_
    · walk_at "oo"
      refine draw_go (by omega) (by omega) fun w w0 w1 => ?_
      walk_at "oo"
      refine br_b (fun c1 => ?_) fun c1 => ?_
      · walk_at "oo"
        obtain ⟨z1, z2, z3⟩ := id b2
        refine Sp.mk ⟨b, l, rfl, rfl, fun r r0 r1 => ?_⟩
        walk_at "od"
        have e1 := Int.emod_nonneg r (b := n.2.2 - n.2.1 + 1) (by omega)
        have e2 := Int.emod_lt_of_pos r (b := n.2.2 - n.2.1 + 1) (by omega)
        generalize r % (n.2.2 - n.2.1 + 1) = lo at *
        refine Sp.mk ⟨b, l, rfl, rfl, fun r r0 r1 => ?_⟩
        walk_at "od"
        have e3 := Int.emod_nonneg r (b := n.2.2 - n.2.1 + 1 - lo) (by omega)
        have e4 := Int.emod_lt_of_pos r (b := n.2.2 - n.2.1 + 1 - lo) (by omega)
        generalize r % (n.2.2 - n.2.1 + 1 - lo) = h' at *
        refine SpX.mk ⟨b, l, n.1, _, _, _, rfl, rfl, b1, fun _ => ?_, fun h => (h ⟨by omega, by omega⟩).elim⟩
        walk_at "oo"
        refine SpX.mk ⟨b, l, n.1, _, _, _, rfl, rfl, b1, fun _ => ?_, fun h => (h ⟨by omega, by omega⟩).elim⟩
        walk_at "oo"
        refine NewP.mk ⟨_, _, rfl, fun x hx => ?_⟩
        refine gx_new hx ⟨by omega, by omega, by omega⟩ fun l1 hx hl1 => ?_
        walk_at "oo"
        exact ⟨((_, _, _), l1, x, _, _), rfl, rfl, hx, hl1, ⟨by (try dsimp only); omega, by (try dsimp only); omega, by (try dsimp only); omega⟩⟩
      · walk_at "oo"
        exact ⟨((_, _, _), l, n.1, n.2.1, n.2.2), rfl, rfl, XS.refl, b1, b2⟩
    rintro ⟨⟨s14', s15', s16'⟩, l1, o', p', q''⟩ ⟨hx', ho', hv'⟩
    have hx : XS l l1 := hx'
    have ho : l1.o o' = some (spI p' q'') := ho'
    have hv : SpV p' q'' := hv'
    clear hx' ho' hv'
    replace hW := hW.ext hx
    replace a1 := hx.1 _ _ a1
    clear hx hn2 b1 b2
    walk_at "oo"
    refine Sp.mk ⟨b, l1, m.1, o', _, _, _, _, rfl, rfl, a1, ho, a2, hv, fun l2 hx => ?_⟩
    replace hW := hW.ext hx
    replace a1 := hx.1 _ _ a1
    replace ho := hx.1 _ _ ho
    clear hx
    walk_at "oo"
    refine Sp.mk ⟨b, l2, m.1, _, _, rfl, rfl, a1, a2, fun l3 hx => ?_⟩
    replace hW := hW.ext hx
    replace a1 := hx.1 _ _ a1
    replace ho := hx.1 _ _ ho
    clear hx
    walk_at "oo"
    refine Sp.mk ⟨_, _, _, _, rfl, ?_⟩
    walk_at "oo"
    refine cut_goS (fun u : LO × List Sm3 => [.v (.any (.ref a)), .v (.any (.ref b)), .o (.lst (u.2.map p3D)), .o (.lst (u.2.map hD)), .v (.int (0 + (i0 : Int))), .v (if max m.2.1 p' ≤ min m.2.2 q'' then prD (max m.2.1 p') (min m.2.2 q'') else .non), .e, .v (.int i), .v (.int j), .v (.int k), .v (hD m), .v (.any (.ref o')), .v (p3D m), .v (prD p' q''), s14', s15', s16', .e]) (fun u => .bag b u.1) (fun u => Wl u.1 u.2) ?_ ?_
    · by_cases c : max m.2.1 p' ≤ min m.2.2 q''
      · rw [if_pos c]
        walk_at "oo"
        refine draw_go (by omega) (by omega) fun w2 w3 w4 => ?_
        walk_at "oo"
        refine br_b (fun c1 => ?_) fun c1 => ?_
        · walk_at "oo"
          refine gx_and a1 ho a2 hv c fun x l4 hx hx4 => ?_
          walk_at "oo"
          refine set_go k1 (by rw [List.length_map]; omega) ?_
          walk_at "oo"
          refine set_go k1 (by rw [List.length_map]; omega) ?_
          walk_at "oo"
          exact ⟨(l4, ms.set k.toNat (x, _, _)), rfl, by rw [← set_p, ← set_h], (hW.ext hx).set hx4 ⟨by have := a2.1; (try dsimp only); omega, c, by have := a2.2.2; (try dsimp only); omega⟩⟩
        · walk_at "oo"
          refine draw_go (by omega) (by omega) fun w2 w3 w4 => ?_
          walk_at "oo"
          refine br_b (fun c2 => ?_) fun c2 => ?_
          · walk_at "oo"
            refine gx_or a1 ho a2 hv fun x l4 hx hx4 => ?_
            walk_at "oo"
            refine Sp.mk ⟨_, _, _, _, rfl, ?_⟩
            walk_at "oo"
            refine set_go k1 (by rw [List.length_map]; omega) ?_
            walk_at "oo"
            refine set_go k1 (by rw [List.length_map]; omega) ?_
            walk_at "oo"
            exact ⟨(l4, ms.set k.toNat (x, _, _)), rfl, by rw [← set_p, ← set_h], (hW.ext hx).set hx4 ⟨by have := a2.1; have := hv.1; (try dsimp only); omega, by have := a2.2.1; (try dsimp only); omega, by have := a2.2.2; have := hv.2.2; (try dsimp only); omega⟩⟩
          · walk_at "oo"
            refine Sp.mk ⟨b, l3, rfl, rfl, fun p q hs => ?_⟩
            walk_at "oo"
            refine set_go k1 (by rw [List.length_map]; omega) ?_
            walk_at "oo"
            refine ix_go k1 (by rw [List.length_set, List.length_map]; omega) fun d hd => ?_
            rw [List.getElem?_set_self (by rw [List.length_map]; omega)] at hd
            cases hd
            walk_at "oo"
            refine NewP.mk ⟨_, _, rfl, fun x hx => ?_⟩
            refine gx_new hx hs fun l4 hx hx4 => ?_
            walk_at "oo"
            refine set_go k1 (by rw [List.length_map]; omega) ?_
            walk_at "oo"
            exact ⟨(l4, ms.set k.toNat (x, p, q)), rfl, by rw [← set_p, ← set_h], (hW.ext hx).set hx4 hs⟩
      · rw [if_neg c]
        walk_at "oo"
        refine draw_go (by omega) (by omega) fun w2 w3 w4 => ?_
        walk_at "oo"
        refine br_b (fun c2 => ?_) fun c2 => ?_
        · walk_at "oo"
          refine gx_or a1 ho a2 hv fun x l4 hx hx4 => ?_
          walk_at "oo"
          refine Sp.mk ⟨_, _, _, _, rfl, ?_⟩
          walk_at "oo"
          refine set_go k1 (by rw [List.length_map]; omega) ?_
          walk_at "oo"
          refine set_go k1 (by rw [List.length_map]; omega) ?_
          walk_at "oo"
          exact ⟨(l4, ms.set k.toNat (x, _, _)), rfl, by rw [← set_p, ← set_h], (hW.ext hx).set hx4 ⟨by have := a2.1; have := hv.1; (try dsimp only); omega, by have := a2.2.1; (try dsimp only); omega, by have := a2.2.2; have := hv.2.2; (try dsimp only); omega⟩⟩
        · walk_at "oo"
          refine Sp.mk ⟨b, l3, rfl, rfl, fun p q hs => ?_⟩
          walk_at "oo"
          refine set_go k1 (by rw [List.length_map]; omega) ?_
          walk_at "oo"
          refine ix_go k1 (by rw [List.length_set, List.length_map]; omega) fun d hd => ?_
          rw [List.getElem?_set_self (by rw [List.length_map]; omega)] at hd
          cases hd
          walk_at "oo"
          refine NewP.mk ⟨_, _, rfl, fun x hx => ?_⟩
          refine gx_new hx hs fun l4 hx hx4 => ?_
          walk_at "oo"
          refine set_go k1 (by rw [List.length_map]; omega) ?_
          walk_at "oo"
          exact ⟨(l4, ms.set k.toNat (x, p, q)), rfl, by rw [← set_p, ← set_h], (hW.ext hx).set hx4 hs⟩
    rintro ⟨l4, ms2⟩ hW2
    have hW : Wl l4 ms2 := hW2
    clear hW2 a1 ho hm
    generalize (if max m.2.1 p' ≤ min m.2.2 q'' then prD (max m.2.1 p') (min m.2.2 q'') else D.non) = d5
    walk_at "oo"
    rw [zip_maps]
    refine lc_mapT (A := BZ) (fun m : Sm3 => .tup [hD m, p3D m]) (fun _ => .bl true) ms2 rfl (by rw [hW.len]; decide) (fun t C ht hC => ?_) ?_
    · have g1 := (hW.at_ t ht).1
      walk_at "ss"
      exact hC
    walk_at "oo"
    refine ⟨List.replicate ms2.length true, by rw [List.map_const', List.map_replicate], ?_⟩
    rw [all_true]
    refine ⟨hW.spn, br_f rfl ?_⟩
    walk_at "oo"
    exact ⟨((_, _, _, _, _, _, _, _, _, _, _), l4, ms2), rfl, rfl, hW⟩
  · rintro ⟨⟨s5, s7, s8, s9, s10, s11, s12, s13, s14, s15, s16⟩, l, ms⟩ hW
    have hW : Wl l ms := hW
    have hne : ms ≠ [] := fun e => by have := hW.len; rw [e] at this; cases this
    walk_at "oo"
    refine Sp.mk ⟨b, l, ms, rfl, rfl, hne, by rw [hW.len]; decide, hW.at_, fun l2 hx => ?_⟩
    walk_at "oo"
    exact q _
end
abbrev stI_BadSpan : Stmt := initOf (topS 4)
theorem init_BadSpan : InitE stI_BadSpan "value" "value" := ⟨_, _, _, _, ⟨rfl, rfl, rfl, by decide +kernel, rfl, by decide +kernel, by decide +kernel⟩, rfl, rfl, rfl, by decide, by decide, fun _ => rfl⟩
abbrev stI_NoPlace : Stmt := initOf (topS 5)
theorem init_NoPlace : InitE stI_NoPlace "value" "value" := ⟨_, _, _, _, ⟨rfl, rfl, rfl, by decide +kernel, rfl, by decide +kernel, by decide +kernel⟩, rfl, rfl, rfl, by decide, by decide, fun _ => rfl⟩
theorem all_mk {P : Program} {w : World} {K : Fg} {h : Heap} {mg : Str → Option Value} (X : K.In h) (G : h.Ns mainGlobals mg)
    {f0 : Addr} {od0 an0 : Option Addr} {sl0 : Array (Option Value)} {oc0 kV0 dc0 pm0 cd0 ct0 : Value}
    {f1 : Addr} {od1 an1 : Option Addr} {sl1 : Array (Option Value)} {oc1 kV1 dc1 pm1 cd1 ct1 : Value}
    {f2 : Addr} {od2 an2 : Option Addr} {sl2 : Array (Option Value)} {oc2 kV2 dc2 pm2 cd2 ct2 : Value}
    {f3 : Addr} {od3 an3 : Option Addr} {sl3 : Array (Option Value)} {oc3 kV3 dc3 pm3 cd3 ct3 : Value}
    {f4 : Addr} {od4 an4 : Option Addr} {sl4 : Array (Option Value)} {oc4 kV4 dc4 pm4 cd4 ct4 : Value}
    {f5 : Addr} {od5 an5 : Option Addr} {sl5 : Array (Option Value)} {oc5 kV5 dc5 pm5 cd5 ct5 : Value}
    {f6 : Addr} {od6 an6 : Option Addr} {sl6 : Array (Option Value)} {oc6 kV6 dc6 pm6 cd6 ct6 : Value}
    {f7 : Addr} {od7 an7 : Option Addr} {sl7 : Array (Option Value)} {oc7 kV7 dc7 pm7 cd7 ct7 : Value}
    {f8 : Addr} {od8 an8 : Option Addr} {sl8 : Array (Option Value)} {oc8 kV8 dc8 pm8 cd8 ct8 : Value}
    {f9 : Addr} {od9 an9 : Option Addr} {sl9 : Array (Option Value)} {oc9 kV9 dc9 pm9 cd9 ct9 : Value}
    {f10 : Addr} {od10 an10 : Option Addr} {sl10 : Array (Option Value)} {oc10 kV10 dc10 pm10 cd10 ct10 : Value}
    {f11 : Addr} {od11 an11 : Option Addr} {sl11 : Array (Option Value)} {oc11 kV11 dc11 pm11 cd11 ct11 : Value}
    {f12 : Addr} {od12 an12 : Option Addr} {sl12 : Array (Option Value)} {oc12 kV12 dc12 pm12 cd12 ct12 : Value}
    {f13 : Addr} {od13 an13 : Option Addr} {sl13 : Array (Option Value)} {oc13 kV13 dc13 pm13 cd13 ct13 : Value}
    {f14 : Addr} {od14 an14 : Option Addr} {sl14 : Array (Option Value)} {oc14 kV14 dc14 pm14 cd14 ct14 : Value}
    {f15 : Addr} {od15 an15 : Option Addr} {sl15 : Array (Option Value)} {oc15 kV15 dc15 pm15 cd15 ct15 : Value}
    {f16 : Addr} {od16 an16 : Option Addr} {sl16 : Array (Option Value)} {oc16 kV16 dc16 pm16 cd16 ct16 : Value}
    (a0 : PySem.W.nsIn K mainGlobals "is_within" = some (some (.ref f0))) (l0 : K.lookup f0 = some ⟨oc0, od0, .func (PySem.W.fnOf "is_within" "is_within" (defArgs st_is_within) (defBody st_is_within) (defScope st_is_within) .none kV0 dc0 pm0 an0 cd0 ct0), sl0⟩) (c0 : PySem.W.codeIn K cd0 "is_within" = true) (k0 : PySem.W.keepIn K (.ref f0) = true)
    (a1 : PySem.W.nsIn K mainGlobals "is_pair" = some (some (.ref f1))) (l1 : K.lookup f1 = some ⟨oc1, od1, .func (PySem.W.fnOf "is_pair" "is_pair" (defArgs st_is_pair) (defBody st_is_pair) (defScope st_is_pair) .none kV1 dc1 pm1 an1 cd1 ct1), sl1⟩) (c1 : PySem.W.codeIn K cd1 "is_pair" = true) (k1 : PySem.W.keepIn K (.ref f1) = true)
    (a2 : PySem.W.nsIn K mainGlobals "_law_own_bag" = some (some (.ref f2))) (l2 : K.lookup f2 = some ⟨oc2, od2, .func (PySem.W.fnOf "_law_own_bag" "_law_own_bag" (defArgs st__law_own_bag) (defBody st__law_own_bag) (defScope st__law_own_bag) .none kV2 dc2 pm2 an2 cd2 ct2), sl2⟩) (c2 : PySem.W.codeIn K cd2 "_law_own_bag" = true) (k2 : PySem.W.keepIn K (.ref f2) = true)
    (a3 : PySem.W.nsIn K mainGlobals "_law_draw" = some (some (.ref f3))) (l3 : K.lookup f3 = some ⟨oc3, od3, .func (PySem.W.fnOf "_law_draw" "_law_draw" (defArgs st__law_draw) (defBody st__law_draw) (defScope st__law_draw) .none kV3 dc3 pm3 an3 cd3 ct3), sl3⟩) (c3 : PySem.W.codeIn K cd3 "_law_draw" = true) (k3 : PySem.W.keepIn K (.ref f3) = true)
    (a4 : PySem.W.nsIn K mainGlobals "_law_same" = some (some (.ref f4))) (l4 : K.lookup f4 = some ⟨oc4, od4, .func (PySem.W.fnOf "_law_same" "_law_same" (defArgs st__law_same) (defBody st__law_same) (defScope st__law_same) .none kV4 dc4 pm4 an4 cd4 ct4), sl4⟩) (c4 : PySem.W.codeIn K cd4 "_law_same" = true) (k4 : PySem.W.keepIn K (.ref f4) = true)
    (a5 : PySem.W.nsIn K mainGlobals "_law_far" = some (some (.ref f5))) (l5 : K.lookup f5 = some ⟨oc5, od5, .func (PySem.W.fnOf "_law_far" "_law_far" (defArgs st__law_far) (defBody st__law_far) (defScope st__law_far) .none kV5 dc5 pm5 an5 cd5 ct5), sl5⟩) (c5 : PySem.W.codeIn K cd5 "_law_far" = true) (k5 : PySem.W.keepIn K (.ref f5) = true)
    (a6 : PySem.W.nsIn K mainGlobals "_law_some_pair" = some (some (.ref f6))) (l6 : K.lookup f6 = some ⟨oc6, od6, .func (PySem.W.fnOf "_law_some_pair" "_law_some_pair" (defArgs st__law_some_pair) (defBody st__law_some_pair) (defScope st__law_some_pair) .none kV6 dc6 pm6 an6 cd6 ct6), sl6⟩) (c6 : PySem.W.codeIn K cd6 "_law_some_pair" = true) (k6 : PySem.W.keepIn K (.ref f6) = true)
    (a7 : PySem.W.nsIn K mainGlobals "_law_row" = some (some (.ref f7))) (l7 : K.lookup f7 = some ⟨oc7, od7, .func (PySem.W.fnOf "_law_row" "_law_row" (defArgs st__law_row) (defBody st__law_row) (defScope st__law_row) .none kV7 dc7 pm7 an7 cd7 ct7), sl7⟩) (c7 : PySem.W.codeIn K cd7 "_law_row" = true) (k7 : PySem.W.keepIn K (.ref f7) = true)
    (a8 : PySem.W.nsIn K mainGlobals "_law_both" = some (some (.ref f8))) (l8 : K.lookup f8 = some ⟨oc8, od8, .func (PySem.W.fnOf "_law_both" "_law_both" (defArgs st__law_both) (defBody st__law_both) (defScope st__law_both) .none kV8 dc8 pm8 an8 cd8 ct8), sl8⟩) (c8 : PySem.W.codeIn K cd8 "_law_both" = true) (k8 : PySem.W.keepIn K (.ref f8) = true)
    (a9 : PySem.W.nsIn K mainGlobals "_law_over" = some (some (.ref f9))) (l9 : K.lookup f9 = some ⟨oc9, od9, .func (PySem.W.fnOf "_law_over" "_law_over" (defArgs st__law_over) (defBody st__law_over) (defScope st__law_over) .none kV9 dc9 pm9 an9 cd9 ct9), sl9⟩) (c9 : PySem.W.codeIn K cd9 "_law_over" = true) (k9 : PySem.W.keepIn K (.ref f9) = true)
    (a10 : PySem.W.nsIn K mainGlobals "_law_is_like" = some (some (.ref f10))) (l10 : K.lookup f10 = some ⟨oc10, od10, .func (PySem.W.fnOf "_law_is_like" "_law_is_like" (defArgs st__law_is_like) (defBody st__law_is_like) (defScope st__law_is_like) .none kV10 dc10 pm10 an10 cd10 ct10), sl10⟩) (c10 : PySem.W.codeIn K cd10 "_law_is_like" = true) (k10 : PySem.W.keepIn K (.ref f10) = true)
    (a11 : PySem.W.nsIn K mainGlobals "_law_meet" = some (some (.ref f11))) (l11 : K.lookup f11 = some ⟨oc11, od11, .func (PySem.W.fnOf "_law_meet" "_law_meet" (defArgs st__law_meet) (defBody st__law_meet) (defScope st__law_meet) .none kV11 dc11 pm11 an11 cd11 ct11), sl11⟩) (c11 : PySem.W.codeIn K cd11 "_law_meet" = true) (k11 : PySem.W.keepIn K (.ref f11) = true)
    (a12 : PySem.W.nsIn K mainGlobals "_law_no_place" = some (some (.ref f12))) (l12 : K.lookup f12 = some ⟨oc12, od12, .func (PySem.W.fnOf "_law_no_place" "_law_no_place" (defArgs st__law_no_place) (defBody st__law_no_place) (defScope st__law_no_place) .none kV12 dc12 pm12 an12 cd12 ct12), sl12⟩) (c12 : PySem.W.codeIn K cd12 "_law_no_place" = true) (k12 : PySem.W.keepIn K (.ref f12) = true)
    (a13 : PySem.W.nsIn K mainGlobals "_law_are_places_right" = some (some (.ref f13))) (l13 : K.lookup f13 = some ⟨oc13, od13, .func (PySem.W.fnOf "_law_are_places_right" "_law_are_places_right" (defArgs st__law_are_places_right) (defBody st__law_are_places_right) (defScope st__law_are_places_right) .none kV13 dc13 pm13 an13 cd13 ct13), sl13⟩) (c13 : PySem.W.codeIn K cd13 "_law_are_places_right" = true) (k13 : PySem.W.keepIn K (.ref f13) = true)
    (a14 : PySem.W.nsIn K mainGlobals "_law_are_two_right" = some (some (.ref f14))) (l14 : K.lookup f14 = some ⟨oc14, od14, .func (PySem.W.fnOf "_law_are_two_right" "_law_are_two_right" (defArgs st__law_are_two_right) (defBody st__law_are_two_right) (defScope st__law_are_two_right) .none kV14 dc14 pm14 an14 cd14 ct14), sl14⟩) (c14 : PySem.W.codeIn K cd14 "_law_are_two_right" = true) (k14 : PySem.W.keepIn K (.ref f14) = true)
    (a15 : PySem.W.nsIn K mainGlobals "_law_are_folds_right" = some (some (.ref f15))) (l15 : K.lookup f15 = some ⟨oc15, od15, .func (PySem.W.fnOf "_law_are_folds_right" "_law_are_folds_right" (defArgs st__law_are_folds_right) (defBody st__law_are_folds_right) (defScope st__law_are_folds_right) .none kV15 dc15 pm15 an15 cd15 ct15), sl15⟩) (c15 : PySem.W.codeIn K cd15 "_law_are_folds_right" = true) (k15 : PySem.W.keepIn K (.ref f15) = true)
    (a16 : PySem.W.nsIn K mainGlobals "law" = some (some (.ref f16))) (l16 : K.lookup f16 = some ⟨oc16, od16, .func (PySem.W.fnOf "law" "law" (defArgs st_law) (defBody st_law) (defScope st_law) .none kV16 dc16 pm16 an16 cd16 ct16), sl16⟩) (c16 : PySem.W.codeIn K cd16 "law" = true) (k16 : PySem.W.keepIn K (.ref f16) = true)
    (z0 : PySem.W.nsIn K mainGlobals "abs" = some none)
    (z1 : PySem.W.nsIn K mainGlobals "all" = some none)
    (z2 : PySem.W.nsIn K mainGlobals "bool" = some none)
    (z3 : PySem.W.nsIn K mainGlobals "dict" = some none)
    (z4 : PySem.W.nsIn K mainGlobals "int" = some none)
    (z5 : PySem.W.nsIn K mainGlobals "isinstance" = some none)
    (z6 : PySem.W.nsIn K mainGlobals "len" = some none)
    (z7 : PySem.W.nsIn K mainGlobals "list" = some none)
    (z8 : PySem.W.nsIn K mainGlobals "max" = some none)
    (z9 : PySem.W.nsIn K mainGlobals "min" = some none)
    (z10 : PySem.W.nsIn K mainGlobals "range" = some none)
    (z11 : PySem.W.nsIn K mainGlobals "str" = some none)
    (z12 : PySem.W.nsIn K mainGlobals "tuple" = some none)
    (z13 : PySem.W.nsIn K mainGlobals "zip" = some none)
    {t0 : _} (cst0 : PySem.W.nsIn K mainGlobals "LIMIT" = some (some (.int 1000000000000 t0)))
    {C_Apart : Addr} (xe_Apart : PySem.W.nsIn K mainGlobals "Apart" = some (some (.ref C_Apart)))
    {C_NoPlace : Addr} (xe_NoPlace : PySem.W.nsIn K mainGlobals "NoPlace" = some (some (.ref C_NoPlace)))
    {C_BadSpan : Addr} (xe_BadSpan : PySem.W.nsIn K mainGlobals "BadSpan" = some (some (.ref C_BadSpan)))
    {C_Span : Addr} (xe_Span : PySem.W.nsIn K mainGlobals "Span" = some (some (.ref C_Span)))
    (xi_Apart : PySem.W.excIn K C_Apart [.type "ValueError", .type "Exception", .type "BaseException", .type "object"] "ValueError.__new__" = true) (xk_Apart : PySem.W.keepIn K (.ref C_Apart) = true) (xb_Apart : PySem.W.subIn K (.ref C_Apart) (.type "BaseException") = some true) (xt_Apart : PySem.W.typeIn K (.ref C_Apart) = some (.type "type"))
    (xm_Apart_Apart : PySem.W.subIn K (.ref C_Apart) (.ref C_Apart) = some true)
    (xm_NoPlace_NoPlace : PySem.W.subIn K (.ref C_NoPlace) (.ref C_NoPlace) = some true)
    (xm_BadSpan_BadSpan : PySem.W.subIn K (.ref C_BadSpan) (.ref C_BadSpan) = some true)
    (xm_NoPlace_BadSpan : PySem.W.subIn K (.ref C_NoPlace) (.ref C_BadSpan) = some false)
    (ya_Apart : PySem.W.subIn K (.ref C_Apart) (.type "BaseException") = some true) (yb_Apart : PySem.W.hasDictIn K C_Apart = true) (yc_Apart : PySem.W.typeIn K (.ref C_Apart) = some (.type "type"))
    (ya_NoPlace : PySem.W.subIn K (.ref C_NoPlace) (.type "BaseException") = some true) (yb_NoPlace : PySem.W.hasDictIn K C_NoPlace = true) (yc_NoPlace : PySem.W.typeIn K (.ref C_NoPlace) = some (.type "type"))
    (ya_BadSpan : PySem.W.subIn K (.ref C_BadSpan) (.type "BaseException") = some true) (yb_BadSpan : PySem.W.hasDictIn K C_BadSpan = true) (yc_BadSpan : PySem.W.typeIn K (.ref C_BadSpan) = some (.type "type"))
    {vN_BadSpan vQ_BadSpan : Str} {vA_BadSpan : Addr} {vB_BadSpan vM_BadSpan vU_BadSpan : List Value} {vS_BadSpan : List Str} {vb_BadSpan : Bool} {vc_BadSpan : Option Bool} {vd_BadSpan : Option Addr} {v0_BadSpan v1_BadSpan v2_BadSpan v3_BadSpan v5_BadSpan : Option Value} (vl_BadSpan : K.lookup C_BadSpan = some (excClassObj vN_BadSpan vQ_BadSpan C_BadSpan vA_BadSpan vB_BadSpan vM_BadSpan true vS_BadSpan vU_BadSpan vb_BadSpan vc_BadSpan vd_BadSpan v0_BadSpan v1_BadSpan v2_BadSpan v3_BadSpan v5_BadSpan "ValueError.__new__")) (vr_BadSpan : refsB false vM_BadSpan = true)
    (va_BadSpan : PySem.W.findIn K (.ref C_BadSpan) "__setattr__" = some (some (.builtin "object.__setattr__"))) (vx_BadSpan : PySem.W.subIn K (.ref C_BadSpan) (.type "BaseException") = some true) (vt_BadSpan : PySem.W.typeIn K (.ref C_BadSpan) = some (.type "type")) (vk_BadSpan : PySem.W.keepIn K (.ref C_BadSpan) = true)
    {I_BadSpan : Addr} {iod_BadSpan ian_BadSpan : Option Addr} {isl_BadSpan : Array (Option Value)} {ioc_BadSpan ikV_BadSpan idc_BadSpan ipm_BadSpan icd_BadSpan ict_BadSpan : Value} (vi_BadSpan : PySem.W.findIn K (.ref C_BadSpan) "__init__" = some (some (.ref I_BadSpan))) (vj_BadSpan : PySem.W.typeIn K (.ref I_BadSpan) = some (.type "function")) (vf_BadSpan : PySem.W.findIn K (.ref C_BadSpan) "value" = some none)
    (vo_BadSpan : K.lookup I_BadSpan = some ⟨ioc_BadSpan, iod_BadSpan, .func (PySem.W.fnOf "__init__" "BadSpan.__init__" (defArgs stI_BadSpan) (defBody stI_BadSpan) (defScope stI_BadSpan) .none ikV_BadSpan idc_BadSpan ipm_BadSpan ian_BadSpan icd_BadSpan ict_BadSpan), isl_BadSpan⟩) (vp_BadSpan : PySem.W.codeIn K icd_BadSpan "BadSpan.__init__" = true) (vq_BadSpan : PySem.W.keepIn K (.ref I_BadSpan) = true)
    {vN_NoPlace vQ_NoPlace : Str} {vA_NoPlace : Addr} {vB_NoPlace vM_NoPlace vU_NoPlace : List Value} {vS_NoPlace : List Str} {vb_NoPlace : Bool} {vc_NoPlace : Option Bool} {vd_NoPlace : Option Addr} {v0_NoPlace v1_NoPlace v2_NoPlace v3_NoPlace v5_NoPlace : Option Value} (vl_NoPlace : K.lookup C_NoPlace = some (excClassObj vN_NoPlace vQ_NoPlace C_NoPlace vA_NoPlace vB_NoPlace vM_NoPlace true vS_NoPlace vU_NoPlace vb_NoPlace vc_NoPlace vd_NoPlace v0_NoPlace v1_NoPlace v2_NoPlace v3_NoPlace v5_NoPlace "LookupError.__new__")) (vr_NoPlace : refsB true vM_NoPlace = true)
    (va_NoPlace : PySem.W.findIn K (.ref C_NoPlace) "__setattr__" = some (some (.builtin "object.__setattr__"))) (vx_NoPlace : PySem.W.subIn K (.ref C_NoPlace) (.type "BaseException") = some true) (vt_NoPlace : PySem.W.typeIn K (.ref C_NoPlace) = some (.type "type")) (vk_NoPlace : PySem.W.keepIn K (.ref C_NoPlace) = true)
    {I_NoPlace : Addr} {iod_NoPlace ian_NoPlace : Option Addr} {isl_NoPlace : Array (Option Value)} {ioc_NoPlace ikV_NoPlace idc_NoPlace ipm_NoPlace icd_NoPlace ict_NoPlace : Value} (vi_NoPlace : PySem.W.findIn K (.ref C_NoPlace) "__init__" = some (some (.ref I_NoPlace))) (vj_NoPlace : PySem.W.typeIn K (.ref I_NoPlace) = some (.type "function")) (vf_NoPlace : PySem.W.findIn K (.ref C_NoPlace) "value" = some none)
    (vo_NoPlace : K.lookup I_NoPlace = some ⟨ioc_NoPlace, iod_NoPlace, .func (PySem.W.fnOf "__init__" "NoPlace.__init__" (defArgs stI_NoPlace) (defBody stI_NoPlace) (defScope stI_NoPlace) .none ikV_NoPlace idc_NoPlace ipm_NoPlace ian_NoPlace icd_NoPlace ict_NoPlace), isl_NoPlace⟩) (vp_NoPlace : PySem.W.codeIn K icd_NoPlace "NoPlace.__init__" = true) (vq_NoPlace : PySem.W.keepIn K (.ref I_NoPlace) = true)
    (xg_NoPlace : PySem.W.findIn K (.ref C_NoPlace) "__getattribute__" = some (some (.builtin "BaseException.__getattribute__"))) (xh_NoPlace : PySem.W.findIn K (.ref C_NoPlace) "__getattr__" = some none) (xj_NoPlace : PySem.W.subIn K (.ref C_NoPlace) (.type "BaseException") = some true) (xd_NoPlace : PySem.W.hasDictIn K C_NoPlace = true) (xa_NoPlace : PySem.W.findIn K (.ref C_NoPlace) "__class__" = some (some (.builtin "object.__class__")))
    (xo_NoPlace : PySem.W.specialIn K (.builtin "object.__class__") "__get__" = some (some (.builtin "getset_descriptor.__get__"))) (xp_NoPlace : PySem.W.takesIn K (.builtin "object.__class__") = some true) (xq_NoPlace : PySem.W.mroIn K C_NoPlace (.type "object") = some true)
    (xw_NoPlace_value : PySem.W.findIn K (.ref C_NoPlace) "value" = some none)
    (gp_Span : PySem.W.plainGet K C_Span Str.empty = true) (gh_Span : PySem.W.hasDictIn K C_Span = true) (go_Span : PySem.W.plainOver K C_Span = true) (gs_Span : PySem.W.findIn K (.ref C_Span) "__setattr__" = some (some (.builtin "object.__setattr__")))
    {f_Span_first : Addr} {od_Span_first an_Span_first : Option Addr} {sl_Span_first : Array (Option Value)} {oc_Span_first kV_Span_first dc_Span_first pm_Span_first cd_Span_first ct_Span_first : Value}
    {f_Span_last : Addr} {od_Span_last an_Span_last : Option Addr} {sl_Span_last : Array (Option Value)} {oc_Span_last kV_Span_last dc_Span_last pm_Span_last cd_Span_last ct_Span_last : Value}
    {f_Span_many : Addr} {od_Span_many an_Span_many : Option Addr} {sl_Span_many : Array (Option Value)} {oc_Span_many kV_Span_many dc_Span_many pm_Span_many cd_Span_many ct_Span_many : Value}
    {f_Span___init__ : Addr} {od_Span___init__ an_Span___init__ : Option Addr} {sl_Span___init__ : Array (Option Value)} {oc_Span___init__ kV_Span___init__ dc_Span___init__ pm_Span___init__ cd_Span___init__ ct_Span___init__ : Value}
    {f_Span___and__ : Addr} {od_Span___and__ an_Span___and__ : Option Addr} {sl_Span___and__ : Array (Option Value)} {oc_Span___and__ kV_Span___and__ dc_Span___and__ pm_Span___and__ cd_Span___and__ ct_Span___and__ : Value}
    {f_Span___getitem__ : Addr} {od_Span___getitem__ an_Span___getitem__ : Option Addr} {sl_Span___getitem__ : Array (Option Value)} {oc_Span___getitem__ kV_Span___getitem__ dc_Span___getitem__ pm_Span___getitem__ cd_Span___getitem__ ct_Span___getitem__ : Value}
    {f_Span___contains__ : Addr} {od_Span___contains__ an_Span___contains__ : Option Addr} {sl_Span___contains__ : Array (Option Value)} {oc_Span___contains__ kV_Span___contains__ dc_Span___contains__ pm_Span___contains__ cd_Span___contains__ ct_Span___contains__ : Value}
    {f_Span___eq__ : Addr} {od_Span___eq__ an_Span___eq__ : Option Addr} {sl_Span___eq__ : Array (Option Value)} {oc_Span___eq__ kV_Span___eq__ dc_Span___eq__ pm_Span___eq__ cd_Span___eq__ ct_Span___eq__ : Value}
    {f_Span___or__ : Addr} {od_Span___or__ an_Span___or__ : Option Addr} {sl_Span___or__ : Array (Option Value)} {oc_Span___or__ kV_Span___or__ dc_Span___or__ pm_Span___or__ cd_Span___or__ ct_Span___or__ : Value}
    {P_Span_first : Addr} {R_Span_first : List Value} (pa_Span_first : PySem.W.findIn K (.ref C_Span) "first" = some (some (.ref P_Span_first))) (pg_Span_first : PySem.W.specialIn K (.ref P_Span_first) "__get__" = some (some (.builtin "property.__get__"))) (pt_Span_first : PySem.W.takesIn K (.ref P_Span_first) = some true) (pr_Span_first : PySem.W.recIn K P_Span_first "property" = some (.ref f_Span_first :: R_Span_first))
    {P_Span_last : Addr} {R_Span_last : List Value} (pa_Span_last : PySem.W.findIn K (.ref C_Span) "last" = some (some (.ref P_Span_last))) (pg_Span_last : PySem.W.specialIn K (.ref P_Span_last) "__get__" = some (some (.builtin "property.__get__"))) (pt_Span_last : PySem.W.takesIn K (.ref P_Span_last) = some true) (pr_Span_last : PySem.W.recIn K P_Span_last "property" = some (.ref f_Span_last :: R_Span_last))
    {P_Span_many : Addr} {R_Span_many : List Value} (pa_Span_many : PySem.W.findIn K (.ref C_Span) "many" = some (some (.ref P_Span_many))) (pg_Span_many : PySem.W.specialIn K (.ref P_Span_many) "__get__" = some (some (.builtin "property.__get__"))) (pt_Span_many : PySem.W.takesIn K (.ref P_Span_many) = some true) (pr_Span_many : PySem.W.recIn K P_Span_many "property" = some (.ref f_Span_many :: R_Span_many))
    (pa_Span___init__ : PySem.W.findIn K (.ref C_Span) "__init__" = some (some (.ref f_Span___init__)))
    (pm_Span : PySem.W.makesIn K C_Span = true) (pk_Span : PySem.W.keepIn K (.ref C_Span) = true)
    (pa_Span___and__ : PySem.W.findIn K (.ref C_Span) "__and__" = some (some (.ref f_Span___and__)))
    (pa_Span___getitem__ : PySem.W.findIn K (.ref C_Span) "__getitem__" = some (some (.ref f_Span___getitem__)))
    (pa_Span___contains__ : PySem.W.findIn K (.ref C_Span) "__contains__" = some (some (.ref f_Span___contains__)))
    (pa_Span___eq__ : PySem.W.findIn K (.ref C_Span) "__eq__" = some (some (.ref f_Span___eq__)))
    (pa_Span___or__ : PySem.W.findIn K (.ref C_Span) "__or__" = some (some (.ref f_Span___or__)))
    (l_Span_first : K.lookup f_Span_first = some ⟨oc_Span_first, od_Span_first, .func (PySem.W.fnOf "first" "Span.first" (defArgs st_Span_first) (defBody st_Span_first) (defScope st_Span_first) .none kV_Span_first dc_Span_first pm_Span_first an_Span_first cd_Span_first ct_Span_first), sl_Span_first⟩) (c_Span_first : PySem.W.codeIn K cd_Span_first "Span.first" = true) (k_Span_first : PySem.W.keepIn K (.ref f_Span_first) = true) (i_Span_first : PySem.W.isFn K (.ref f_Span_first) = true)
    (l_Span_last : K.lookup f_Span_last = some ⟨oc_Span_last, od_Span_last, .func (PySem.W.fnOf "last" "Span.last" (defArgs st_Span_last) (defBody st_Span_last) (defScope st_Span_last) .none kV_Span_last dc_Span_last pm_Span_last an_Span_last cd_Span_last ct_Span_last), sl_Span_last⟩) (c_Span_last : PySem.W.codeIn K cd_Span_last "Span.last" = true) (k_Span_last : PySem.W.keepIn K (.ref f_Span_last) = true) (i_Span_last : PySem.W.isFn K (.ref f_Span_last) = true)
    (l_Span_many : K.lookup f_Span_many = some ⟨oc_Span_many, od_Span_many, .func (PySem.W.fnOf "many" "Span.many" (defArgs st_Span_many) (defBody st_Span_many) (defScope st_Span_many) .none kV_Span_many dc_Span_many pm_Span_many an_Span_many cd_Span_many ct_Span_many), sl_Span_many⟩) (c_Span_many : PySem.W.codeIn K cd_Span_many "Span.many" = true) (k_Span_many : PySem.W.keepIn K (.ref f_Span_many) = true) (i_Span_many : PySem.W.isFn K (.ref f_Span_many) = true)
    (l_Span___init__ : K.lookup f_Span___init__ = some ⟨oc_Span___init__, od_Span___init__, .func (PySem.W.fnOf "__init__" "Span.__init__" (defArgs st_Span___init__) (defBody st_Span___init__) (defScope st_Span___init__) .none kV_Span___init__ dc_Span___init__ pm_Span___init__ an_Span___init__ cd_Span___init__ ct_Span___init__), sl_Span___init__⟩) (c_Span___init__ : PySem.W.codeIn K cd_Span___init__ "Span.__init__" = true) (k_Span___init__ : PySem.W.keepIn K (.ref f_Span___init__) = true) (i_Span___init__ : PySem.W.isFn K (.ref f_Span___init__) = true)
    (l_Span___and__ : K.lookup f_Span___and__ = some ⟨oc_Span___and__, od_Span___and__, .func (PySem.W.fnOf "__and__" "Span.__and__" (defArgs st_Span___and__) (defBody st_Span___and__) (defScope st_Span___and__) .none kV_Span___and__ dc_Span___and__ pm_Span___and__ an_Span___and__ cd_Span___and__ ct_Span___and__), sl_Span___and__⟩) (c_Span___and__ : PySem.W.codeIn K cd_Span___and__ "Span.__and__" = true) (k_Span___and__ : PySem.W.keepIn K (.ref f_Span___and__) = true) (i_Span___and__ : PySem.W.isFn K (.ref f_Span___and__) = true)
    (l_Span___getitem__ : K.lookup f_Span___getitem__ = some ⟨oc_Span___getitem__, od_Span___getitem__, .func (PySem.W.fnOf "__getitem__" "Span.__getitem__" (defArgs st_Span___getitem__) (defBody st_Span___getitem__) (defScope st_Span___getitem__) .none kV_Span___getitem__ dc_Span___getitem__ pm_Span___getitem__ an_Span___getitem__ cd_Span___getitem__ ct_Span___getitem__), sl_Span___getitem__⟩) (c_Span___getitem__ : PySem.W.codeIn K cd_Span___getitem__ "Span.__getitem__" = true) (k_Span___getitem__ : PySem.W.keepIn K (.ref f_Span___getitem__) = true) (i_Span___getitem__ : PySem.W.isFn K (.ref f_Span___getitem__) = true)
    (l_Span___contains__ : K.lookup f_Span___contains__ = some ⟨oc_Span___contains__, od_Span___contains__, .func (PySem.W.fnOf "__contains__" "Span.__contains__" (defArgs st_Span___contains__) (defBody st_Span___contains__) (defScope st_Span___contains__) .none kV_Span___contains__ dc_Span___contains__ pm_Span___contains__ an_Span___contains__ cd_Span___contains__ ct_Span___contains__), sl_Span___contains__⟩) (c_Span___contains__ : PySem.W.codeIn K cd_Span___contains__ "Span.__contains__" = true) (k_Span___contains__ : PySem.W.keepIn K (.ref f_Span___contains__) = true) (i_Span___contains__ : PySem.W.isFn K (.ref f_Span___contains__) = true)
    (l_Span___eq__ : K.lookup f_Span___eq__ = some ⟨oc_Span___eq__, od_Span___eq__, .func (PySem.W.fnOf "__eq__" "Span.__eq__" (defArgs st_Span___eq__) (defBody st_Span___eq__) (defScope st_Span___eq__) .none kV_Span___eq__ dc_Span___eq__ pm_Span___eq__ an_Span___eq__ cd_Span___eq__ ct_Span___eq__), sl_Span___eq__⟩) (c_Span___eq__ : PySem.W.codeIn K cd_Span___eq__ "Span.__eq__" = true) (k_Span___eq__ : PySem.W.keepIn K (.ref f_Span___eq__) = true) (i_Span___eq__ : PySem.W.isFn K (.ref f_Span___eq__) = true)
    (l_Span___or__ : K.lookup f_Span___or__ = some ⟨oc_Span___or__, od_Span___or__, .func (PySem.W.fnOf "__or__" "Span.__or__" (defArgs st_Span___or__) (defBody st_Span___or__) (defScope st_Span___or__) .none kV_Span___or__ dc_Span___or__ pm_Span___or__ an_Span___or__ cd_Span___or__ ct_Span___or__), sl_Span___or__⟩) (c_Span___or__ : PySem.W.codeIn K cd_Span___or__ "Span.__or__" = true) (k_Span___or__ : PySem.W.keepIn K (.ref f_Span___or__) = true) (i_Span___or__ : PySem.W.isFn K (.ref f_Span___or__) = true)
    (fa_Span_pair : PySem.W.findIn K (.ref C_Span) "pair" = some none)
    (sf_Span : PySem.W.selfFirst K C_Span = true)
    (io1 : PySem.W.specialIn K (.builtin "object.__class__") "__get__" = some (some (.builtin "getset_descriptor.__get__"))) (io2 : PySem.W.takesIn K (.builtin "object.__class__") = some true)
    (ia_Span : PySem.W.findIn K (.ref C_Span) "__class__" = some (some (.builtin "object.__class__"))) (im_Span : PySem.W.mroIn K C_Span (.type "object") = some true)
    (iy_Span_Span : PySem.W.kitOne K (.ref C_Span) (.ref C_Span) = some true)
    (nt_Span : PySem.W.typeIn K (.ref C_Span) = some (.type "type"))
    (nf_Span_Span : PySem.W.notFirst K C_Span (.ref C_Span) = true)
    : Cal P w K mg h (BM K (some mg)) 8 "law" 1 sp_law := by
  have T : Tx K mg := ⟨PySem.W.mg_none_of X G z0, PySem.W.mg_none_of X G z1, PySem.W.mg_none_of X G z2, PySem.W.mg_none_of X G z3, PySem.W.mg_none_of X G z4, PySem.W.mg_none_of X G z5, PySem.W.mg_none_of X G z6, PySem.W.mg_none_of X G z7, PySem.W.mg_none_of X G z8, PySem.W.mg_none_of X G z9, PySem.W.mg_none_of X G z10, PySem.W.mg_none_of X G z11, PySem.W.mg_none_of X G z12, PySem.W.mg_none_of X G z13, ⟨_, PySem.W.mg_of X G cst0⟩, ⟨⟨_, PySem.W.mg_of X G xe_Apart, xi_Apart, xk_Apart, xb_Apart, xt_Apart⟩⟩, ⟨⟨_, _, PySem.W.mg_of X G xe_Apart, ⟨.inl (PySem.W.mg_of X G xe_Apart), rfl⟩, PySem.W.exm_ref ya_Apart yb_Apart yc_Apart xm_Apart_Apart⟩⟩, ⟨⟨_, _, PySem.W.mg_of X G xe_NoPlace, ⟨.inl (PySem.W.mg_of X G xe_NoPlace), rfl⟩, PySem.W.exm_ref ya_NoPlace yb_NoPlace yc_NoPlace xm_NoPlace_NoPlace⟩⟩, ⟨⟨_, _, PySem.W.mg_of X G xe_BadSpan, ⟨.inl (PySem.W.mg_of X G xe_BadSpan), rfl⟩, PySem.W.exm_ref ya_BadSpan yb_BadSpan yc_BadSpan xm_BadSpan_BadSpan⟩⟩, ⟨⟨_, _, PySem.W.mg_of X G xe_NoPlace, ⟨.inl (PySem.W.mg_of X G xe_BadSpan), rfl⟩, PySem.W.exm_ref ya_BadSpan yb_BadSpan yc_BadSpan xm_NoPlace_BadSpan⟩⟩, ⟨⟨false, C_BadSpan, I_BadSpan, _, _, "value", stI_BadSpan, PySem.W.mg_of X G xe_BadSpan, ⟨⟨_, _, _, _, _, _, _, _, _, _, _, _, _, _, _, vl_BadSpan, vr_BadSpan⟩, va_BadSpan, vx_BadSpan, vt_BadSpan, vk_BadSpan⟩, vi_BadSpan, vj_BadSpan, vf_BadSpan, fun_mk (st := stI_BadSpan) vo_BadSpan vp_BadSpan vq_BadSpan, (fun_mk (st := stI_BadSpan) vo_BadSpan vp_BadSpan vq_BadSpan).binds (fun _ _ _ _ _ _ us hl => match us, hl with | [_, _], _ => rfl), init_BadSpan⟩⟩, ⟨⟨true, C_NoPlace, I_NoPlace, _, _, "value", stI_NoPlace, PySem.W.mg_of X G xe_NoPlace, ⟨⟨_, _, _, _, _, _, _, _, _, _, _, _, _, _, _, vl_NoPlace, vr_NoPlace⟩, va_NoPlace, vx_NoPlace, vt_NoPlace, vk_NoPlace⟩, vi_NoPlace, vj_NoPlace, vf_NoPlace, fun_mk (st := stI_NoPlace) vo_NoPlace vp_NoPlace vq_NoPlace, (fun_mk (st := stI_NoPlace) vo_NoPlace vp_NoPlace vq_NoPlace).binds (fun _ _ _ _ _ _ us hl => match us, hl with | [_, _], _ => rfl), init_NoPlace⟩⟩, ⟨_, ⟨.inl (PySem.W.mg_of X G xe_Span), rfl⟩⟩, ⟨_, ⟨.inl (PySem.W.mg_of X G xe_Apart), rfl⟩⟩, ⟨_, ⟨.inl (PySem.W.mg_of X G xe_NoPlace), rfl⟩⟩, ⟨_, ⟨.inl (PySem.W.mg_of X G xe_BadSpan), rfl⟩⟩, ⟨⟨C_NoPlace, PySem.W.mg_of X G xe_NoPlace, ⟨xg_NoPlace, xh_NoPlace, xj_NoPlace, xd_NoPlace⟩, xw_NoPlace_value⟩⟩, ⟨⟨C_Span, PySem.W.mg_of X G xe_Span, ⟨gp_Span, gh_Span, go_Span, gs_Span⟩, fa_Span_pair⟩⟩, ⟨fun f e => by
    rw [cAd_of (PySem.W.mg_of X G xe_Span)] at e
    obtain rfl : f_Span___getitem__ = f := by
      have z := pa_Span___getitem__.symm.trans e
      cases z
      rfl
    unfold PySem.W.fnIn
    rw [l_Span___getitem__]⟩, ⟨by rw [cAd_of (PySem.W.mg_of X G xe_Span)]; exact sf_Span⟩, ⟨⟨C_Span, _, PySem.W.mg_of X G xe_Span, ⟨⟨gp_Span, gh_Span, go_Span, gs_Span⟩, ia_Span, io1, io2, im_Span⟩, ⟨.inl (PySem.W.mg_of X G xe_Span), rfl⟩, iy_Span_Span⟩⟩, ⟨⟨C_Span, clN_of (⟨.inl (PySem.W.mg_of X G xe_Span), rfl⟩), by obtain ⟨cd, e, _⟩ := PySem.W.any_some gh_Span; rw [e]; rfl, nt_Span⟩⟩, ⟨by rw [cAd_of (PySem.W.mg_of X G xe_Span)]; exact nf_Span_Span⟩⟩
  have c_is_within : Cal P w K mg h (BM K (some mg)) 1 "is_within" 3 sp_is_within := ok_is_within T (dfn_mk ["value", "low", "high"] X G (fun _ _ _ _ _ _ us hl => match us, hl with | [_, _, _], _ => rfl) a0 l0 c0 k0) pp_is_within
  have c_is_pair : Cal P w K mg h (BM K (some mg)) 2 "is_pair" 1 sp_is_pair := ok_is_pair T (dfn_mk ["value"] X G (fun _ _ _ _ _ _ us hl => match us, hl with | [_], _ => rfl) a1 l1 c1 k1) c_is_within pp_is_pair
  have c__law_own_bag : Cal P w K mg h (BM K (some mg)) 1 "_law_own_bag" 1 sp_bag0 := ok__law_own_bag T (dfn_mk ["script"] X G (fun _ _ _ _ _ _ us hl => match us, hl with | [_], _ => rfl) a2 l2 c2 k2) pp__law_own_bag
  have c__law_draw : Cal P w K mg h (BM K (some mg)) 1 "_law_draw" 2 sp_draw := ok__law_draw T (dfn_mk ["bag", "below"] X G (fun _ _ _ _ _ _ us hl => match us, hl with | [_, _], _ => rfl) a3 l3 c3 k3)
  have c__law_same : Cal P w K mg h (BM K (some mg)) 2 "_law_same" 2 (sp__law_same 1) := ok__law_same T (dfn_mk ["told", "due"] X G (fun _ _ _ _ _ _ us hl => match us, hl with | [_, _], _ => rfl) a4 l4 c4 k4) pp__law_same_0 pp__law_same_s 1
  have c__law_far : Cal P w K mg h (BM K (some mg)) 2 "_law_far" 1 sp__law_far := ok__law_far T (dfn_mk ["bag"] X G (fun _ _ _ _ _ _ us hl => match us, hl with | [_], _ => rfl) a5 l5 c5 k5) c__law_draw pp__law_far
  have c__law_some_pair : Cal P w K mg h (BM K (some mg)) 3 "_law_some_pair" 1 sp__law_some_pair := ok__law_some_pair T (dfn_mk ["bag"] X G (fun _ _ _ _ _ _ us hl => match us, hl with | [_], _ => rfl) a6 l6 c6 k6) c__law_draw c__law_far pp__law_some_pair
  have c__law_row : Cal P w K mg h (BM K (some mg)) 4 "_law_row" 1 sp__law_row := ok__law_row T (dfn_mk ["bag"] X G (fun _ _ _ _ _ _ us hl => match us, hl with | [_], _ => rfl) a7 l7 c7 k7) c__law_draw c__law_far c__law_some_pair pp__law_row
  have c__law_both : Cal P w K mg h (BM K (some mg)) 1 "_law_both" 2 sp__law_both := ok__law_both T (dfn_mk ["one", "other"] X G (fun _ _ _ _ _ _ us hl => match us, hl with | [_, _], _ => rfl) a8 l8 c8 k8) pp__law_both
  have c__law_over : Cal P w K mg h (BM K (some mg)) 1 "_law_over" 2 sp__law_over := ok__law_over T (dfn_mk ["one", "other"] X G (fun _ _ _ _ _ _ us hl => match us, hl with | [_, _], _ => rfl) a9 l9 c9 k9) pp__law_over
  have d_Span_first := dfnM_mk (m := "first") (qual := "Span.first") (st := st_Span_first) ["self"] (fun _ _ _ _ _ _ us hl => match us, hl with | [_], _ => rfl) l_Span_first c_Span_first k_Span_first
  have F_Span_first := ok_Span_first (P := P) (w := w) (base := h) T d_Span_first pp_Span_first
  have m_Span_first : CalP P w K mg h (BM K (some mg)) 1 "Span" "first" sp_Span_first := ⟨⟨C_Span, P_Span_first, _, _, _, PySem.W.mg_of X G xe_Span, ⟨gp_Span, gh_Span, go_Span, gs_Span⟩, ⟨pa_Span_first, pg_Span_first, pt_Span_first, _, pr_Span_first⟩, F_Span_first, d_Span_first.b⟩⟩
  have d_Span_last := dfnM_mk (m := "last") (qual := "Span.last") (st := st_Span_last) ["self"] (fun _ _ _ _ _ _ us hl => match us, hl with | [_], _ => rfl) l_Span_last c_Span_last k_Span_last
  have F_Span_last := ok_Span_last (P := P) (w := w) (base := h) T d_Span_last pp_Span_last
  have m_Span_last : CalP P w K mg h (BM K (some mg)) 1 "Span" "last" sp_Span_last := ⟨⟨C_Span, P_Span_last, _, _, _, PySem.W.mg_of X G xe_Span, ⟨gp_Span, gh_Span, go_Span, gs_Span⟩, ⟨pa_Span_last, pg_Span_last, pt_Span_last, _, pr_Span_last⟩, F_Span_last, d_Span_last.b⟩⟩
  have d_Span_many := dfnM_mk (m := "many") (qual := "Span.many") (st := st_Span_many) ["self"] (fun _ _ _ _ _ _ us hl => match us, hl with | [_], _ => rfl) l_Span_many c_Span_many k_Span_many
  have F_Span_many := ok_Span_many (P := P) (w := w) (base := h) T d_Span_many pp_Span_many
  have m_Span_many : CalP P w K mg h (BM K (some mg)) 1 "Span" "many" sp_Span_many := ⟨⟨C_Span, P_Span_many, _, _, _, PySem.W.mg_of X G xe_Span, ⟨gp_Span, gh_Span, go_Span, gs_Span⟩, ⟨pa_Span_many, pg_Span_many, pt_Span_many, _, pr_Span_many⟩, F_Span_many, d_Span_many.b⟩⟩
  have c__law_is_like : Cal P w K mg h (BM K (some mg)) 3 "_law_is_like" 2 sp__law_is_like := ok__law_is_like T (dfn_mk ["span", "pair"] X G (fun _ _ _ _ _ _ us hl => match us, hl with | [_, _], _ => rfl) a10 l10 c10 k10) c__law_same m_Span_first m_Span_last m_Span_many pp__law_is_like
  have d_Span___init__ := dfnM_mk (m := "__init__") (qual := "Span.__init__") (st := st_Span___init__) ["self", "pair"] (fun _ _ _ _ _ _ us hl => match us, hl with | [_, _], _ => rfl) l_Span___init__ c_Span___init__ k_Span___init__
  have F_Span___init__ := ok_Span___init__ (P := P) (w := w) (base := h) T d_Span___init__ c_is_pair pp_Span___init__
  have m_Span___init__ : CalIX P w K mg h (BM K (some mg)) 3 "Span" 2 sp_Span___init__ := ⟨⟨C_Span, _, _, _, PySem.W.mg_of X G xe_Span, ⟨pm_Span, pa_Span___init__, i_Span___init__, pk_Span⟩, F_Span___init__, d_Span___init__.b⟩⟩
  have d_Span___and__ := dfnM_mk (m := "__and__") (qual := "Span.__and__") (st := st_Span___and__) ["self", "other"] (fun _ _ _ _ _ _ us hl => match us, hl with | [_, _], _ => rfl) l_Span___and__ c_Span___and__ k_Span___and__
  have F_Span___and__ := ok_Span___and__ (P := P) (w := w) (base := h) T d_Span___and__ m_Span_first m_Span_last m_Span___init__ pp_Span___and__
  have m_Span___and__ : CalMX P w K mg h (BM K (some mg)) 5 "Span" "__and__" 2 sp_Span___and__ := ⟨⟨C_Span, _, _, _, PySem.W.mg_of X G xe_Span, ⟨gp_Span, gh_Span, go_Span, gs_Span⟩, ⟨pa_Span___and__, i_Span___and__, k_Span___and__⟩, F_Span___and__, d_Span___and__.b⟩⟩
  have c__law_meet : Cal P w K mg h (BM K (some mg)) 6 "_law_meet" 2 sp__law_meet := ok__law_meet T (dfn_mk ["one", "other"] X G (fun _ _ _ _ _ _ us hl => match us, hl with | [_, _], _ => rfl) a11 l11 c11 k11) m_Span___and__ pp__law_meet
  have d_Span___getitem__ := dfnM_mk (m := "__getitem__") (qual := "Span.__getitem__") (st := st_Span___getitem__) ["self", "value"] (fun _ _ _ _ _ _ us hl => match us, hl with | [_, _], _ => rfl) l_Span___getitem__ c_Span___getitem__ k_Span___getitem__
  have F_Span___getitem__ := ok_Span___getitem__ (P := P) (w := w) (base := h) T d_Span___getitem__ c_is_within pp_Span___getitem__
  have m_Span___getitem__ : CalMX P w K mg h (BM K (some mg)) 3 "Span" "__getitem__" 2 sp_Span___getitem__ := ⟨⟨C_Span, _, _, _, PySem.W.mg_of X G xe_Span, ⟨gp_Span, gh_Span, go_Span, gs_Span⟩, ⟨pa_Span___getitem__, i_Span___getitem__, k_Span___getitem__⟩, F_Span___getitem__, d_Span___getitem__.b⟩⟩
  have c__law_no_place : Cal P w K mg h (BM K (some mg)) 5 "_law_no_place" 2 sp__law_no_place := ok__law_no_place T (dfn_mk ["span", "at"] X G (fun _ _ _ _ _ _ us hl => match us, hl with | [_, _], _ => rfl) a12 l12 c12 k12) m_Span___getitem__ pp__law_no_place
  have d_Span___contains__ := dfnM_mk (m := "__contains__") (qual := "Span.__contains__") (st := st_Span___contains__) ["self", "value"] (fun _ _ _ _ _ _ us hl => match us, hl with | [_, _], _ => rfl) l_Span___contains__ c_Span___contains__ k_Span___contains__
  have F_Span___contains__ := ok_Span___contains__ (P := P) (w := w) (base := h) T d_Span___contains__ c_is_within m_Span_first m_Span_last pp_Span___contains__
  have m_Span___contains__ : CalM P w K mg h (BM K (some mg)) 3 "Span" "__contains__" 2 sp_Span___contains__ := ⟨⟨C_Span, _, _, _, PySem.W.mg_of X G xe_Span, ⟨gp_Span, gh_Span, go_Span, gs_Span⟩, ⟨pa_Span___contains__, i_Span___contains__, k_Span___contains__⟩, F_Span___contains__, d_Span___contains__.b⟩⟩
  have d_Span___eq__ := dfnM_mk (m := "__eq__") (qual := "Span.__eq__") (st := st_Span___eq__) ["self", "other"] (fun _ _ _ _ _ _ us hl => match us, hl with | [_, _], _ => rfl) l_Span___eq__ c_Span___eq__ k_Span___eq__
  have F_Span___eq__ := ok_Span___eq__ (P := P) (w := w) (base := h) T d_Span___eq__ pp_Span___eq__
  have m_Span___eq__ : CalM P w K mg h (BM K (some mg)) 1 "Span" "__eq__" 2 sp_Span___eq__ := ⟨⟨C_Span, _, _, _, PySem.W.mg_of X G xe_Span, ⟨gp_Span, gh_Span, go_Span, gs_Span⟩, ⟨pa_Span___eq__, i_Span___eq__, k_Span___eq__⟩, F_Span___eq__, d_Span___eq__.b⟩⟩
  have d_Span___or__ := dfnM_mk (m := "__or__") (qual := "Span.__or__") (st := st_Span___or__) ["self", "other"] (fun _ _ _ _ _ _ us hl => match us, hl with | [_, _], _ => rfl) l_Span___or__ c_Span___or__ k_Span___or__
  have F_Span___or__ := ok_Span___or__ (P := P) (w := w) (base := h) T d_Span___or__ m_Span___init__ m_Span_first m_Span_last pp_Span___or__
  have m_Span___or__ : CalM P w K mg h (BM K (some mg)) 5 "Span" "__or__" 2 sp_Span___or__ := ⟨⟨C_Span, _, _, _, PySem.W.mg_of X G xe_Span, ⟨gp_Span, gh_Span, go_Span, gs_Span⟩, ⟨pa_Span___or__, i_Span___or__, k_Span___or__⟩, F_Span___or__, d_Span___or__.b⟩⟩
  have c__law_are_places_right : Cal P w K mg h (BM K (some mg)) 6 "_law_are_places_right" 3 sp__law_are_places_right := ok__law_are_places_right T (dfn_mk ["bag", "span", "pair"] X G (fun _ _ _ _ _ _ us hl => match us, hl with | [_, _, _], _ => rfl) a13 l13 c13 k13) c__law_far c__law_same c__law_no_place c__law_is_like m_Span___getitem__ m_Span_many m_Span___contains__ m_Span_first m_Span___init__ m_Span___eq__ m_Span___or__ m_Span___and__ pp__law_are_places_right
  have c__law_are_two_right : Cal P w K mg h (BM K (some mg)) 7 "_law_are_two_right" 4 sp__law_are_two_right := ok__law_are_two_right T (dfn_mk ["bag", "one", "other", "pairs"] X G (fun _ _ _ _ _ _ us hl => match us, hl with | [_, _, _, _], _ => rfl) a14 l14 c14 k14) c__law_both c__law_over c__law_meet c__law_is_like c__law_same c__law_far m_Span___or__ m_Span___eq__ m_Span___contains__ m_Span___and__ m_Span_many pp__law_are_two_right
  have c__law_are_folds_right : Cal P w K mg h (BM K (some mg)) 7 "_law_are_folds_right" 2 sp__law_are_folds_right := ok__law_are_folds_right T (dfn_mk ["spans", "pairs"] X G (fun _ _ _ _ _ _ us hl => match us, hl with | [_, _], _ => rfl) a15 l15 c15 k15) c__law_over c__law_is_like c__law_meet c__law_both c__law_same m_Span___or__ m_Span___contains__ pp__law_are_folds_right
  have c_law : Cal P w K mg h (BM K (some mg)) 8 "law" 1 sp_law := ok_law T (dfn_mk ["script"] X G (fun _ _ _ _ _ _ us hl => match us, hl with | [_], _ => rfl) a16 l16 c16 k16) c__law_own_bag c__law_row c__law_are_folds_right c__law_draw c__law_far c__law_are_two_right c__law_are_places_right c__law_both c__law_over c__law_some_pair c__law_is_like m_Span___init__ m_Span___getitem__ m_Span___and__ m_Span___or__ pp_law
  exact c_law
end Pd
open PySem PySem.W PyProof.Rows
set_option maxHeartbeats 0 in
theorem PySem.Challenge.cw_marksought_k33_whole_spans_go_along_holds : PySem.Challenge.rw_marksought_k33_whole_spans_go_along.Holds := by
  w_on; o_law; k_head; (case hw => w_witness2)
  k_fill
  refine Pd.walk_bagM (Mf := some) (l := PySem.Challenge.rw_marksought_k33_whole_spans_go_along) (k := 8) rfl rfl ⟨rfl, by decide, by decide⟩ (fun w h Y => PySem.W.kIn_of Y) ?F
  case F =>
    intro w mg base KX G
    refine' Pd.all_mk KX G ?a0 ?l0 ?c0 ?k0 ?a1 ?l1 ?c1 ?k1 ?a2 ?l2 ?c2 ?k2 ?a3 ?l3 ?c3 ?k3 ?a4 ?l4 ?c4 ?k4 ?a5 ?l5 ?c5 ?k5 ?a6 ?l6 ?c6 ?k6 ?a7 ?l7 ?c7 ?k7 ?a8 ?l8 ?c8 ?k8 ?a9 ?l9 ?c9 ?k9 ?a10 ?l10 ?c10 ?k10 ?a11 ?l11 ?c11 ?k11 ?a12 ?l12 ?c12 ?k12 ?a13 ?l13 ?c13 ?k13 ?a14 ?l14 ?c14 ?k14 ?a15 ?l15 ?c15 ?k15 ?a16 ?l16 ?c16 ?k16 ?z0 ?z1 ?z2 ?z3 ?z4 ?z5 ?z6 ?z7 ?z8 ?z9 ?z10 ?z11 ?z12 ?z13 ?cst0 ?xe_Apart ?xe_NoPlace ?xe_BadSpan ?xe_Span ?xi_Apart ?xk_Apart ?xb_Apart ?xt_Apart ?xm_Apart_Apart ?xm_NoPlace_NoPlace ?xm_BadSpan_BadSpan ?xm_NoPlace_BadSpan ?ya_Apart ?yb_Apart ?yc_Apart ?ya_NoPlace ?yb_NoPlace ?yc_NoPlace ?ya_BadSpan ?yb_BadSpan ?yc_BadSpan ?vl_BadSpan ?vr_BadSpan ?va_BadSpan ?vx_BadSpan ?vt_BadSpan ?vk_BadSpan ?vi_BadSpan ?vj_BadSpan ?vf_BadSpan ?vo_BadSpan ?vp_BadSpan ?vq_BadSpan ?vl_NoPlace ?vr_NoPlace ?va_NoPlace ?vx_NoPlace ?vt_NoPlace ?vk_NoPlace ?vi_NoPlace ?vj_NoPlace ?vf_NoPlace ?vo_NoPlace ?vp_NoPlace ?vq_NoPlace ?xg_NoPlace ?xh_NoPlace ?xj_NoPlace ?xd_NoPlace ?xa_NoPlace ?xo_NoPlace ?xp_NoPlace ?xq_NoPlace ?xw_NoPlace_value ?gp_Span ?gh_Span ?go_Span ?gs_Span ?pa_Span_first ?pg_Span_first ?pt_Span_first ?pr_Span_first ?pa_Span_last ?pg_Span_last ?pt_Span_last ?pr_Span_last ?pa_Span_many ?pg_Span_many ?pt_Span_many ?pr_Span_many ?pa_Span___init__ ?pm_Span ?pk_Span ?pa_Span___and__ ?pa_Span___getitem__ ?pa_Span___contains__ ?pa_Span___eq__ ?pa_Span___or__ ?l_Span_first ?c_Span_first ?k_Span_first ?i_Span_first ?l_Span_last ?c_Span_last ?k_Span_last ?i_Span_last ?l_Span_many ?c_Span_many ?k_Span_many ?i_Span_many ?l_Span___init__ ?c_Span___init__ ?k_Span___init__ ?i_Span___init__ ?l_Span___and__ ?c_Span___and__ ?k_Span___and__ ?i_Span___and__ ?l_Span___getitem__ ?c_Span___getitem__ ?k_Span___getitem__ ?i_Span___getitem__ ?l_Span___contains__ ?c_Span___contains__ ?k_Span___contains__ ?i_Span___contains__ ?l_Span___eq__ ?c_Span___eq__ ?k_Span___eq__ ?i_Span___eq__ ?l_Span___or__ ?c_Span___or__ ?k_Span___or__ ?i_Span___or__ ?fa_Span_pair ?sf_Span ?io1 ?io2 ?ia_Span ?im_Span ?iy_Span_Span ?nt_Span ?nf_Span_Span
    (case a0 => k_is); (case l0 => k_is); (case c0 => k_is); (case k0 => k_is); (case a1 => k_is); (case l1 => k_is); (case c1 => k_is); (case k1 => k_is); (case a2 => k_is); (case l2 => k_is); (case c2 => k_is); (case k2 => k_is); (case a3 => k_is); (case l3 => k_is); (case c3 => k_is); (case k3 => k_is); (case a4 => k_is); (case l4 => k_is); (case c4 => k_is); (case k4 => k_is); (case a5 => k_is); (case l5 => k_is); (case c5 => k_is); (case k5 => k_is); (case a6 => k_is); (case l6 => k_is); (case c6 => k_is); (case k6 => k_is); (case a7 => k_is); (case l7 => k_is); (case c7 => k_is); (case k7 => k_is); (case a8 => k_is); (case l8 => k_is); (case c8 => k_is); (case k8 => k_is); (case a9 => k_is); (case l9 => k_is); (case c9 => k_is); (case k9 => k_is); (case a10 => k_is); (case l10 => k_is); (case c10 => k_is); (case k10 => k_is); (case a11 => k_is); (case l11 => k_is); (case c11 => k_is); (case k11 => k_is); (case a12 => k_is); (case l12 => k_is); (case c12 => k_is); (case k12 => k_is); (case a13 => k_is); (case l13 => k_is); (case c13 => k_is); (case k13 => k_is); (case a14 => k_is); (case l14 => k_is); (case c14 => k_is); (case k14 => k_is); (case a15 => k_is); (case l15 => k_is); (case c15 => k_is); (case k15 => k_is); (case a16 => k_is); (case l16 => k_is); (case c16 => k_is); (case k16 => k_is); (case z0 => k_is); (case z1 => k_is); (case z2 => k_is); (case z3 => k_is); (case z4 => k_is); (case z5 => k_is); (case z6 => k_is); (case z7 => k_is); (case z8 => k_is); (case z9 => k_is); (case z10 => k_is); (case z11 => k_is); (case z12 => k_is); (case z13 => k_is); (case cst0 => k_is); (case xe_Apart => k_is); (case xe_NoPlace => k_is); (case xe_BadSpan => k_is); (case xe_Span => k_is); (case xi_Apart => k_exc); (case xk_Apart => k_is); (case xb_Apart => k_is); (case xt_Apart => k_is); (case xm_Apart_Apart => first | rfl | k_is); (case xm_NoPlace_NoPlace => first | rfl | k_is); (case xm_BadSpan_BadSpan => first | rfl | k_is); (case xm_NoPlace_BadSpan => first | rfl | k_is); (case ya_Apart => k_is); (case yb_Apart => k_is); (case yc_Apart => k_is); (case ya_NoPlace => k_is); (case yb_NoPlace => k_is); (case yc_NoPlace => k_is); (case ya_BadSpan => k_is); (case yb_BadSpan => k_is); (case yc_BadSpan => k_is); (case vl_BadSpan => k_is); (case vr_BadSpan => decide +kernel); (case va_BadSpan => k_is); (case vx_BadSpan => k_is); (case vt_BadSpan => k_is); (case vk_BadSpan => k_is); (case vi_BadSpan => k_is); (case vj_BadSpan => k_is); (case vf_BadSpan => k_is); (case vo_BadSpan => k_is); (case vp_BadSpan => k_is); (case vq_BadSpan => k_is); (case vl_NoPlace => k_is); (case vr_NoPlace => decide +kernel); (case va_NoPlace => k_is); (case vx_NoPlace => k_is); (case vt_NoPlace => k_is); (case vk_NoPlace => k_is); (case vi_NoPlace => k_is); (case vj_NoPlace => k_is); (case vf_NoPlace => k_is); (case vo_NoPlace => k_is); (case vp_NoPlace => k_is); (case vq_NoPlace => k_is); (case xg_NoPlace => k_is); (case xh_NoPlace => k_is); (case xj_NoPlace => k_is); (case xd_NoPlace => k_is); (case xa_NoPlace => k_is); (case xo_NoPlace => k_is); (case xp_NoPlace => k_is); (case xq_NoPlace => k_is); (case xw_NoPlace_value => k_is); (case gp_Span => k_is); (case gh_Span => k_is); (case go_Span => k_is); (case gs_Span => k_is); (case pa_Span_first => k_is); (case pg_Span_first => k_is); (case pt_Span_first => k_is); (case pr_Span_first => k_is); (case pa_Span_last => k_is); (case pg_Span_last => k_is); (case pt_Span_last => k_is); (case pr_Span_last => k_is); (case pa_Span_many => k_is); (case pg_Span_many => k_is); (case pt_Span_many => k_is); (case pr_Span_many => k_is); (case pa_Span___init__ => k_is); (case pm_Span => k_is); (case pk_Span => k_is); (case pa_Span___and__ => k_is); (case pa_Span___getitem__ => k_is); (case pa_Span___contains__ => k_is); (case pa_Span___eq__ => k_is); (case pa_Span___or__ => k_is); (case l_Span_first => k_is); (case c_Span_first => k_is); (case k_Span_first => k_is); (case i_Span_first => k_is); (case l_Span_last => k_is); (case c_Span_last => k_is); (case k_Span_last => k_is); (case i_Span_last => k_is); (case l_Span_many => k_is); (case c_Span_many => k_is); (case k_Span_many => k_is); (case i_Span_many => k_is); (case l_Span___init__ => k_is); (case c_Span___init__ => k_is); (case k_Span___init__ => k_is); (case i_Span___init__ => k_is); (case l_Span___and__ => k_is); (case c_Span___and__ => k_is); (case k_Span___and__ => k_is); (case i_Span___and__ => k_is); (case l_Span___getitem__ => k_is); (case c_Span___getitem__ => k_is); (case k_Span___getitem__ => k_is); (case i_Span___getitem__ => k_is); (case l_Span___contains__ => k_is); (case c_Span___contains__ => k_is); (case k_Span___contains__ => k_is); (case i_Span___contains__ => k_is); (case l_Span___eq__ => k_is); (case c_Span___eq__ => k_is); (case k_Span___eq__ => k_is); (case i_Span___eq__ => k_is); (case l_Span___or__ => k_is); (case c_Span___or__ => k_is); (case k_Span___or__ => k_is); (case i_Span___or__ => k_is); (case fa_Span_pair => k_is); (case sf_Span => k_is); (case io1 => k_is); (case io2 => k_is); (case ia_Span => k_is); (case im_Span => k_is); (case iy_Span_Span => kit_is); (case nt_Span => k_is); (case nf_Span_Span => k_is)

