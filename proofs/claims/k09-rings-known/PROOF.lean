import PyProof.Rows.All
import Wide.All
import OpenK.AllK
import Wide.FinOn
import HandS.ForMost
import HandS.ForExc
import HandS.Wide
import HandS.IsInst
import HandS.TupAny
import HandS.RaiseMore
import HandS.Zip
import HandS.TryMany
import HandS.ExcIs
import HandS.Conv
import HandS.Style
import HandS.Flow
import HandS.Defaults
import HandS.Ends
import HandS.MakeKwOnly
import HandS.Head0
import HandS.Head1
import HandS.Head2
import HandS.HeadEnd
import HandS.HeadHook1
import HandS.HeadHook2
import HandS.Deep
import HandS.More
import KE.KUnpackStar
import HandS.TupSets
import HandS.SortRule
import KE.GoesMore
import KE.GoesEnum
import KE.GoesZip
import KE.KDictZip
import PyProof.ListNew
import HandS.TryOnly
import PySem.Challenge.RW_wherewhen_k09_rings_known
set_option Elab.async false
set_option linter.all false
set_option maxRecDepth 100000
set_option maxHeartbeats 8000000
/-! PV1: trees in the abstract heap, slots, the relation, the judgements. -/
namespace PV
open PySem PySem.Spec PyProof.Rows L2

abbrev D := PyData
abbrev Own := Addr → Prop

/-! ### trees -/
def RdL (K : PySem.W.Frag) (O : Own) (H : Hp) (a : Addr) (xs : List V) : Prop :=
  (Rd H a (.lst xs) ∧ ¬ O a) ∨ ∃ (o : Obj) (its : Array Value) (n : Nat), K.lookup a = some o ∧ o.cls = .type "list" ∧ o.dict = none ∧ o.data = .seq its n ∧ its.size ≤ sizeLine ∧ Vals xs its.toList ∧ o.slots = #[]
def RdT (K : PySem.W.Frag) (O : Own) (H : Hp) (a : Addr) (xs : List V) : Prop :=
  (Rd H a (.tup xs) ∧ ¬ O a) ∨ ∃ (o : Obj) (its : Array Value) (n : Nat), K.lookup a = some o ∧ o.cls = .type "tuple" ∧ o.data = .seq its n ∧ its.size ≤ sizeLine ∧ Vals xs its.toList

def keyD : Key → D
  | .inl i => .int i
  | .inr x => .str x

section
variable (K : PySem.W.Frag) (O : Own) (H : Hp)
mutual
def Rp : D → V → Prop
  | .none, v => v = .non
  | .bool b, v => v = .bl b
  | .int i, v => v = .int i
  | .str x, v => v = .str x
  | .list ds, v => ∃ a xs, v = .ref a ∧ RdL K O H a xs ∧ RpAll ds xs
  | .tuple ds, v => ∃ a xs, v = .ref a ∧ RdT K O H a xs ∧ RpAll ds xs
  | .dict kvs, v => ∃ a ps, v = .ref a ∧ H a = some (.dK ps) ∧ ¬ O a ∧ RpKv kvs ps
def RpAll : List D → List V → Prop
  | [], [] => True
  | d :: ds, v :: vs => Rp d v ∧ RpAll ds vs
  | _, _ => False
def RpKv : List (D × D) → List (Key × V) → Prop
  | [], [] => True
  | (k, d) :: ds, (q, v) :: vs => k = keyD q ∧ Rp d v ∧ RpKv ds vs
  | _, _ => False
end
end

def Step (O : Own) (H : Hp) (O' : Own) (H' : Hp) : Prop := ∀ a o, H a = some o → ¬ O a → H' a = some o ∧ ¬ O' a
theorem Step.refl {O : Own} {H : Hp} : Step O H O H := fun _ _ h n => ⟨h, n⟩
theorem Step.trans {O O' O'' : Own} {H H' H'' : Hp} (s : Step O H O' H') (t : Step O' H' O'' H'') : Step O H O'' H'' := fun a o h n =>
  let ⟨h1, n1⟩ := s a o h n
  t a o h1 n1
def Grow (H H' : Hp) : Prop := ∀ a o, H a = some o → H' a = some o
theorem Grow.refl {H : Hp} : Grow H H := fun _ _ h => h
theorem Grow.trans {H H' H'' : Hp} (s : Grow H H') (t : Grow H' H'') : Grow H H'' := fun a o h => t a o (s a o h)
theorem Grow.upd {H : Hp} {p : Addr} {o : HO} (h : H p = none) : Grow H (upd H p o) := fun a u e => by
  rw [upd_ne (ne_of_none e h)]; exact e
theorem Grow.step {O : Own} {H H' : Hp} (g : Grow H H') : Step O H O H' := fun a o h n => ⟨g a o h, n⟩
theorem Grow.stepNew {O : Own} {H H' : Hp} {p : Addr} (g : Grow H H') (hp : H p = none) : Step O H (fun a => O a ∨ a = p) H' := fun a o h n => ⟨g a o h, fun z => by
  rcases z with z | z
  · exact n z
  · rw [z, hp] at h; cases h⟩

section
variable {K : PySem.W.Frag} {O O' : Own} {H H' : Hp}
theorem Rd.step (s : Step O H O' H') {a : Addr} {u : HO} (r : Rd H a u) (n : ¬ O a) : Rd H' a u ∧ ¬ O' a := by
  rcases r with r | ⟨o, r⟩
  · exact ⟨.inl (s a _ r n).1, (s a _ r n).2⟩
  · exact ⟨.inr ⟨o, (s a _ r n).1⟩, (s a _ r n).2⟩
theorem RdL.step (s : Step O H O' H') {a : Addr} {xs : List V} (r : RdL K O H a xs) : RdL K O' H' a xs := by
  rcases r with ⟨r, n⟩ | r
  · exact .inl (Rd.step s r n)
  · exact .inr r
theorem RdT.step (s : Step O H O' H') {a : Addr} {xs : List V} (r : RdT K O H a xs) : RdT K O' H' a xs := by
  rcases r with ⟨r, n⟩ | r
  · exact .inl (Rd.step s r n)
  · exact .inr r
theorem RdL.sq {a : Addr} {xs : List V} (r : RdL K O H a xs) : SqL K H a xs := by
  rcases r with ⟨r, n⟩ | ⟨o, its, n, a1, a2, a3, a4, a5, a6, _⟩
  · exact .inl r
  · exact .inr ⟨o, its, n, a1, a2, a3, a4, a5, a6⟩
theorem RdT.sq {a : Addr} {xs : List V} (r : RdT K O H a xs) : SqT K H a xs := by
  rcases r with ⟨r, n⟩ | r
  · exact .inl r
  · exact .inr r
mutual
theorem Rp.step (s : Step O H O' H') : ∀ (d : D) (v : V), Rp K O H d v → Rp K O' H' d v
  | .none, v, h => by simp only [Rp] at h ⊢; exact h
  | .bool b, v, h => by simp only [Rp] at h ⊢; exact h
  | .int i, v, h => by simp only [Rp] at h ⊢; exact h
  | .str x, v, h => by simp only [Rp] at h ⊢; exact h
  | .list ds, v, h => by
    simp only [Rp] at h ⊢
    obtain ⟨a, xs, e, r, q⟩ := h
    exact ⟨a, xs, e, r.step s, RpAll.step s ds xs q⟩
  | .tuple ds, v, h => by
    simp only [Rp] at h ⊢
    obtain ⟨a, xs, e, r, q⟩ := h
    exact ⟨a, xs, e, r.step s, RpAll.step s ds xs q⟩
  | .dict kvs, v, h => by
    simp only [Rp] at h ⊢
    obtain ⟨a, ps, e, r, n, q⟩ := h
    exact ⟨a, ps, e, (s a _ r n).1, (s a _ r n).2, RpKv.step s kvs ps q⟩
theorem RpAll.step (s : Step O H O' H') : ∀ (ds : List D) (vs : List V), RpAll K O H ds vs → RpAll K O' H' ds vs
  | [], [], _ => by simp only [RpAll]
  | d :: ds, v :: vs, h => by
    simp only [RpAll] at h ⊢
    exact ⟨Rp.step s d v h.1, RpAll.step s ds vs h.2⟩
  | [], _ :: _, h => by simp only [RpAll] at h
  | _ :: _, [], h => by simp only [RpAll] at h
theorem RpKv.step (s : Step O H O' H') : ∀ (ds : List (D × D)) (vs : List (Key × V)), RpKv K O H ds vs → RpKv K O' H' ds vs
  | [], [], _ => by simp only [RpKv]
  | (k, d) :: ds, (q, v) :: vs, h => by
    simp only [RpKv] at h ⊢
    exact ⟨h.1, Rp.step s d v h.2.1, RpKv.step s ds vs h.2.2⟩
  | [], _ :: _, h => by simp only [RpKv] at h
  | (_, _) :: _, [], h => by simp only [RpKv] at h
end
theorem RpAll.length : ∀ {ds : List D} {vs : List V}, RpAll K O H ds vs → ds.length = vs.length
  | [], [], _ => rfl
  | d :: ds, v :: vs, h => by
    simp only [RpAll] at h
    simp only [List.length_cons, RpAll.length h.2]
  | [], _ :: _, h => by simp only [RpAll] at h
  | _ :: _, [], h => by simp only [RpAll] at h
theorem RpAll.get : ∀ {ds : List D} {vs : List V} {i : Nat} {d : D}, RpAll K O H ds vs → ds[i]? = some d → ∃ v, vs[i]? = some v ∧ Rp K O H d v
  | [], [], _, _, _, e => by simp at e
  | d :: ds, v :: vs, 0, x, h, e => by
    simp only [RpAll] at h
    simp at e; subst e
    exact ⟨v, rfl, h.1⟩
  | d :: ds, v :: vs, i + 1, x, h, e => by
    simp only [RpAll] at h
    obtain ⟨w, e1, r⟩ := RpAll.get (i := i) h.2 (by simpa using e)
    exact ⟨w, by simpa using e1, r⟩
  | [], _ :: _, _, _, h, _ => by simp only [RpAll] at h
  | _ :: _, [], _, _, h, _ => by simp only [RpAll] at h
theorem RpAll.getV {ds : List D} {vs : List V} {i : Nat} {v : V} (h : RpAll K O H ds vs) (e : vs[i]? = some v) : ∃ d, ds[i]? = some d ∧ Rp K O H d v := by
  have hl := h.length
  have hi : i < ds.length := by
    rw [hl]; exact (List.getElem?_eq_some_iff.mp e).1
  obtain ⟨w, e1, r⟩ := h.get (List.getElem?_eq_getElem hi)
  rw [e] at e1; cases e1
  exact ⟨_, List.getElem?_eq_getElem hi, r⟩
theorem RpAll.append : ∀ {ds es : List D} {vs ws : List V}, RpAll K O H ds vs → RpAll K O H es ws → RpAll K O H (ds ++ es) (vs ++ ws)
  | [], _, [], _, _, h => h
  | d :: ds, _, v :: vs, _, h, h' => by
    simp only [RpAll] at h
    show RpAll K O H (d :: (ds ++ _)) (v :: (vs ++ _))
    simp only [RpAll]
    exact ⟨h.1, RpAll.append h.2 h'⟩
  | [], _, _ :: _, _, h, _ => by simp only [RpAll] at h
  | _ :: _, _, [], _, h, _ => by simp only [RpAll] at h
theorem RpAll.take : ∀ {ds : List D} {vs : List V} (n : Nat), RpAll K O H ds vs → RpAll K O H (ds.take n) (vs.take n)
  | _, _, 0, _ => by simp only [List.take_zero, RpAll]
  | [], [], _ + 1, _ => by simp only [List.take_nil, RpAll]
  | d :: ds, v :: vs, n + 1, h => by
    simp only [RpAll] at h
    simp only [List.take_succ_cons, RpAll]
    exact ⟨h.1, RpAll.take n h.2⟩
  | [], _ :: _, _, h => by simp only [RpAll] at h
  | _ :: _, [], _, h => by simp only [RpAll] at h
theorem RpAll.drop : ∀ {ds : List D} {vs : List V} (n : Nat), RpAll K O H ds vs → RpAll K O H (ds.drop n) (vs.drop n)
  | _, _, 0, h => h
  | [], [], _ + 1, _ => by simp only [List.drop_nil, RpAll]
  | d :: ds, v :: vs, n + 1, h => by
    simp only [RpAll] at h
    exact RpAll.drop n h.2
  | [], _ :: _, _, h => by simp only [RpAll] at h
  | _ :: _, [], _, h => by simp only [RpAll] at h
theorem RpAll.set : ∀ {ds : List D} {vs : List V} (n : Nat) {d : D} {v : V}, RpAll K O H ds vs → Rp K O H d v → RpAll K O H (ds.set n d) (vs.set n v)
  | [], [], _, _, _, _, _ => by simp only [List.set_nil, RpAll]
  | x :: ds, y :: vs, 0, d, v, h, r => by
    simp only [RpAll] at h
    show RpAll K O H (d :: ds) (v :: vs)
    simp only [RpAll]
    exact ⟨r, h.2⟩
  | x :: ds, y :: vs, n + 1, d, v, h, r => by
    simp only [RpAll] at h
    show RpAll K O H (x :: ds.set n d) (y :: vs.set n v)
    simp only [RpAll]
    exact ⟨h.1, RpAll.set n h.2 r⟩
  | [], _ :: _, _, _, _, h, _ => by simp only [RpAll] at h
  | _ :: _, [], _, _, _, h, _ => by simp only [RpAll] at h
theorem RpAll.reverse : ∀ {ds : List D} {vs : List V}, RpAll K O H ds vs → RpAll K O H ds.reverse vs.reverse
  | [], [], _ => by simp only [List.reverse_nil, RpAll]
  | d :: ds, v :: vs, h => by
    simp only [RpAll] at h
    rw [List.reverse_cons, List.reverse_cons]
    exact RpAll.append (RpAll.reverse h.2) (by simp only [RpAll]; exact ⟨h.1, True.intro⟩)
  | [], _ :: _, h => by simp only [RpAll] at h
  | _ :: _, [], h => by simp only [RpAll] at h
theorem RpAll.nil_iff {ds : List D} {vs : List V} (h : RpAll K O H ds vs) : ds = [] ↔ vs = [] := by
  have e := h.length
  cases ds <;> cases vs <;> simp_all
/-- tree to value: what a tree leaves no choice in -/
theorem Rp.scal {d : D} {v : V} : Rp K O H d v → (∀ ds, d ≠ .list ds) → (∀ ds, d ≠ .tuple ds) → (∀ ds, d ≠ .dict ds) → L2.scal v v = true ∨ True := fun _ _ _ _ => .inr True.intro
end
end PV

/-! PV2: slots, the relation between slots and the abstract heap, readings, the judgements. -/
namespace PV
open PySem PySem.Spec PyProof.Rows L2

structure Exn where
  cid : Nat
  arg : Option (Str × D)

inductive Vl where
  | d (x : D)
  | own (xs : List D)
inductive Sl where
  | d (x : D)
  | own (xs : List D)
  | mu (xs : List D)
  | x (e : Exn)
abbrev SEnv := List (Option Sl)
inductive Rz (α : Type) where
  | ok (a : α)
  | ex (e : Exn)
abbrev M (α : Type) := SEnv → Option (Rz α × SEnv)
def M.ret {α : Type} (a : α) : M α := fun env => some (.ok a, env)
def M.bnd {α β : Type} (m : M α) (k : α → M β) : M β := fun env =>
  match m env with
  | none => none
  | some (.ok a, e) => k a e
  | some (.ex x, e) => some (.ex x, e)
def M.opt {α : Type} (o : Option α) : M α := fun env => match o with
  | none => none
  | some a => some (.ok a, env)

structure Gd where
  K : PySem.W.Frag
  H0 : Hp
  Oc : Own
  ms : List (Nat × Addr)
  cls : Nat → Addr
def Gd.Mu (G : Gd) (a : Addr) : Prop := ∃ i, (i, a) ∈ G.ms

/-- a caught exception, as it stands in the heap -/
def exH (a : Addr) (c : Value) (dd : Option Addr) : HO := .ext fun h => ∃ oe, h.get? a = some oe ∧ Zc c dd oe ∧ ∃ vs, oe.data = .fields vs
def ExA (K : PySem.W.Frag) (O : Own) (H : Hp) (dd : Option Addr) : Option (Str × D) → Prop
  | none => dd = none
  | some (f, x) => ∃ a v, dd = some a ∧ H a = some (.xd [(f, v)]) ∧ ¬ O a ∧ Rp K O H x v
theorem ExA.step {K : PySem.W.Frag} {O O' : Own} {H H' : Hp} {dd : Option Addr} (s : Step O H O' H') : ∀ {o : Option (Str × D)}, ExA K O H dd o → ExA K O' H' dd o
  | none, h => h
  | some (f, x), ⟨a, v, h1, h2, h3, h4⟩ => ⟨a, v, h1, (s a _ h2 h3).1, (s a _ h2 h3).2, Rp.step s x v h4⟩
def XR (K : PySem.W.Frag) (cls : Nat → Addr) (O : Own) (H : Hp) (e : Exn) (v : V) : Prop := ∃ (a : Addr) (dd : Option Addr), v = .ref a ∧ H a = some (exH a (.ref (cls e.cid)) dd) ∧ ¬ O a ∧ ExA K O H dd e.arg
theorem XR.step {K : PySem.W.Frag} {cls : Nat → Addr} {O O' : Own} {H H' : Hp} {e : Exn} {v : V} (s : Step O H O' H') (h : XR K cls O H e v) : XR K cls O' H' e v := by
  obtain ⟨a, dd, h1, h2, h3, h4⟩ := h
  exact ⟨a, dd, h1, (s a _ h2 h3).1, (s a _ h2 h3).2, h4.step s⟩
/-- slot i holds a list of its own -/
def OwnAt (env : SEnv) (i : Nat) : Prop := (∃ xs : List D, env[i]? = some (some (Sl.own xs))) ∨ ∃ xs : List D, env[i]? = some (some (Sl.mu xs))

structure Rel (G : Gd) (O : Own) (H : Hp) (σ : L2.St) (env : SEnv) : Prop where
  len : env.length = σ.length
  ol : ∀ a, O a → H a ≠ none
  fr : ∀ a o, G.H0 a = some o → ¬ G.Mu a → H a = some o
  oc : ∀ a, G.Oc a → O a ∧ G.H0 a ≠ none
  val : ∀ (i : Nat) (x : D), env[i]? = some (some (Sl.d x)) → ∃ v : V, σ[i]? = some (some v) ∧ Rp G.K O H x v
  exv : ∀ (i : Nat) (e : Exn), env[i]? = some (some (Sl.x e)) → ∃ v : V, σ[i]? = some (some v) ∧ XR G.K G.cls O H e v
  own : ∀ (i : Nat) (xs : List D), env[i]? = some (some (Sl.own xs)) → ∃ (p : Addr) (vs : List V), σ[i]? = some (some (V.ref p)) ∧ H p = some (.lst vs) ∧ RpAll G.K O H xs vs ∧ O p ∧ G.H0 p = none
  muA : ∀ (i : Nat) (xs : List D), env[i]? = some (some (Sl.mu xs)) → ∃ p : Addr, (i, p) ∈ G.ms
  mst : ∀ (i : Nat) (p : Addr), (i, p) ∈ G.ms → ∃ (xs : List D) (vs : List V), env[i]? = some (some (Sl.mu xs)) ∧ σ[i]? = some (some (V.ref p)) ∧ H p = some (.lst vs) ∧ RpAll G.K O H xs vs ∧ O p ∧ G.H0 p ≠ none ∧ G.Oc p
  inj : ∀ (i j : Nat) (p : Addr), i ≠ j → OwnAt env i → OwnAt env j → σ[i]? = some (some (V.ref p)) → σ[j]? = some (some (V.ref p)) → False

section
variable {G : Gd} {O O' : Own} {H H' : Hp} {σ : L2.St} {env : SEnv}
theorem Rel.fresh0 (R : Rel G O H σ env) {p : Addr} (h : H p = none) : G.H0 p = none := by
  cases e : G.H0 p with
  | none => rfl
  | some o =>
    by_cases m : G.Mu p
    · obtain ⟨i, hi⟩ := m
      obtain ⟨xs, vs, _, _, h1, _⟩ := R.mst i p hi
      rw [h] at h1; cases h1
    · have h1 := R.fr p o e m
      rw [h] at h1; cases h1
/-- every list of its own, at its address -/
theorem Rel.ownAddr (R : Rel G O H σ env) {i : Nat} (h : OwnAt env i) : ∃ (p : Addr) (vs : List V), σ[i]? = some (some (V.ref p)) ∧ H p = some (.lst vs) ∧ O p := by
  rcases h with ⟨xs, h⟩ | ⟨xs, h⟩
  · obtain ⟨p, vs, h1, h2, _, h3, _⟩ := R.own i xs h
    exact ⟨p, vs, h1, h2, h3⟩
  · obtain ⟨p, hp⟩ := R.muA i xs h
    obtain ⟨ys, vs, _, h1, h2, _, h3, _⟩ := R.mst i p hp
    exact ⟨p, vs, h1, h2, h3⟩
/-- the lists of its own stand, the others are kept -/
theorem Rel.move (R : Rel G O H σ env) (s : Step O H O' H') (k : ∀ (i : Nat) (p : Addr), OwnAt env i → σ[i]? = some (some (V.ref p)) → H' p = H p ∧ O' p) (c : ∀ a o, H a = some o → G.H0 a ≠ none → ¬ G.Mu a → O a → H' a = some o ∧ O' a) (l : ∀ a, O' a → H' a ≠ none) : Rel G O' H' σ env where
  len := R.len
  ol := l
  fr := fun a o e m => by
    have h1 := R.fr a o e m
    by_cases q : O a
    · exact (c a o h1 (by rw [e]; exact fun z => nomatch z) m q).1
    · exact (s a o h1 q).1
  oc := fun a h => by
    obtain ⟨h1, h2⟩ := R.oc a h
    refine ⟨?_, h2⟩
    by_cases m : G.Mu a
    · obtain ⟨i, hi⟩ := m
      obtain ⟨xs, vs, e1, e2, _⟩ := R.mst i a hi
      exact (k i a (.inr ⟨xs, e1⟩) e2).2
    · cases e : G.H0 a with
      | none => exact absurd e h2
      | some o => exact (c a o (R.fr a o e m) h2 m h1).2
  val := fun i x e => by
    obtain ⟨v, e1, r⟩ := R.val i x e
    exact ⟨v, e1, Rp.step s x v r⟩
  exv := fun i x e => by
    obtain ⟨v, e1, r⟩ := R.exv i x e
    exact ⟨v, e1, r.step s⟩
  own := fun i xs e => by
    obtain ⟨p, vs, e1, h1, r, o1, h0⟩ := R.own i xs e
    obtain ⟨k1, k2⟩ := k i p (.inl ⟨xs, e⟩) e1
    exact ⟨p, vs, e1, by rw [k1]; exact h1, RpAll.step s xs vs r, k2, h0⟩
  muA := R.muA
  mst := fun i p hp => by
    obtain ⟨xs, vs, e, e1, h1, r, o1, h0, hc⟩ := R.mst i p hp
    obtain ⟨k1, k2⟩ := k i p (.inr ⟨xs, e⟩) e1
    exact ⟨xs, vs, e, e1, by rw [k1]; exact h1, RpAll.step s xs vs r, k2, h0, hc⟩
  inj := R.inj
theorem Rel.olG (R : Rel G O H σ env) (g : Grow H H') : ∀ a, O a → H' a ≠ none := fun a h => by
  cases e : H a with
  | none => exact absurd e (R.ol a h)
  | some o => rw [g a o e]; exact fun z => nomatch z
theorem Rel.grow (R : Rel G O H σ env) (g : Grow H H') : Rel G O H' σ env :=
  R.move g.step (fun i p h e => by
    obtain ⟨q, vs, e1, h1, o1⟩ := R.ownAddr h
    rw [e] at e1; cases e1
    exact ⟨by rw [h1, g _ _ h1], o1⟩) (fun a o h _ _ q => ⟨g a o h, q⟩) (R.olG g)
theorem Rel.new (R : Rel G O H σ env) (g : Grow H H') {p : Addr} (hp : H p = none) (hp' : H' p ≠ none) : Rel G (fun a => O a ∨ a = p) H' σ env :=
  R.move (g.stepNew hp) (fun i q h e => by
    obtain ⟨q', vs, e1, h1, o1⟩ := R.ownAddr h
    rw [e] at e1; cases e1
    exact ⟨by rw [h1, g _ _ h1], .inl o1⟩) (fun a o h _ _ q => ⟨g a o h, .inl q⟩) fun a h => by
      rcases h with h | h
      · exact R.olG g a h
      · rw [h]; exact hp'
end

/-! ### what is asked behind an expression -/
def ExR (G : Gd) (O : Own) (H : Hp) (e : Exn) (cls : Value) (dd : Option Addr) : Prop :=
  cls = .ref (G.cls e.cid) ∧ ExA G.K O H dd e.arg

abbrev RVT (α β : Type) := L2.St → α → β → SEnv → Own → Hp → Prop
def Pst {α β : Type} (G : Gd) (W : WX) (σ : L2.St) (O : Own) (H : Hp) (RV : RVT α β) (Q : β → Hp → Prop) : Rz α × SEnv → Prop
  | (.ok a, env') => ∀ b O' H', Rel G O' H' σ env' → Step O H O' H' → RV σ a b env' O' H' → Q b H'
  | (.ex e, env') => ∀ cls dd O' H', Rel G O' H' σ env' → Step O H O' H' → ExR G O' H' e cls dd → W cls dd σ H'
def tAt {α β : Type} (G : Gd) (W : WX) (RV : RVT α β) (f : M α) (O : Own) (env : SEnv) (σ : L2.St) (H : Hp) (Q : β → Hp → Prop) : Prop :=
  ∃ r, f env = some r ∧ Pst G W σ O H RV Q r
def tG {α β : Type} (G : Gd) (W : WX) (RV : RVT α β) (f : M α) : L2.St → Hp → (β → Hp → Prop) → Prop := fun σ H Q =>
  ∃ O env, Rel G O H σ env ∧ tAt G W RV f O env σ H Q

def RD (G : Gd) : RVT D V := fun _ d v _ O H => Rp G.K O H d v
def RL (G : Gd) : RVT Vl V := fun σ x v env O H => match x with
  | .d d => Rp G.K O H d v
  | .own xs => ∃ (p : Addr) (vs : List V), v = V.ref p ∧ H p = some (.lst vs) ∧ RpAll G.K O H xs vs ∧ O p ∧ G.H0 p = none ∧ ∀ i : Nat, OwnAt env i → σ[i]? ≠ some (some (V.ref p))
def RB : RVT Bool Bool := fun _ a b _ _ _ => a = b
def RA (G : Gd) : RVT (List D) (List V) := fun _ ds vs _ O H => RpAll G.K O H ds vs

section
variable {α β γ δ : Type} {G : Gd} {W : WX} {RV : RVT α β} {RW : RVT γ δ} {σ : L2.St} {O O1 : Own} {H H1 : Hp} {env : SEnv}
theorem Pst.weak {Q : β → Hp → Prop} {r : Rz α × SEnv} (p : Pst G W σ O H RV Q r) (s : Step O H O1 H1) : Pst G W σ O1 H1 RV Q r := by
  obtain ⟨r, e⟩ := r
  cases r with
  | ok a => exact fun b O' H' R t q => p b O' H' R (s.trans t) q
  | ex x => exact fun c d O' H' R t q => p c d O' H' R (s.trans t) q
theorem Pst.mono {Q Q' : β → Hp → Prop} {r : Rz α × SEnv} (p : Pst G W σ O H RV Q r) (h : ∀ b H, Q b H → Q' b H) : Pst G W σ O H RV Q' r := by
  obtain ⟨r, e⟩ := r
  cases r with
  | ok a => exact fun b O' H' R t q => h _ _ (p b O' H' R t q)
  | ex x => exact p
/-- one behind the other -/
theorem bindL {fa : M α} {k : α → M γ} {Q : δ → Hp → Prop} (R : Rel G O H σ env) (h : tAt G W RW (fa.bnd k) O env σ H Q) :
    tG G W RV fa σ H (fun b H1 => ∃ a env1 O1, Rel G O1 H1 σ env1 ∧ Step O H O1 H1 ∧ RV σ a b env1 O1 H1 ∧ tAt G W RW (k a) O1 env1 σ H1 Q) := by
  obtain ⟨r, e, p⟩ := h
  unfold M.bnd at e
  cases hf : fa env with
  | none => rw [hf] at e; cases e
  | some q =>
    obtain ⟨q, env1⟩ := q
    rw [hf] at e
    cases q with
    | ok a =>
      exact ⟨O, env, R, (.ok a, env1), hf, fun b O' H' R' s rv => ⟨a, env1, O', R', s, rv, r, e, p.weak s⟩⟩
    | ex x =>
      have e' : some (Rz.ex x, env1) = some r := e
      cases e'
      exact ⟨O, env, R, (.ex x, env1), hf, p⟩
theorem tAt.ret {a : α} {Q : β → Hp → Prop} {b : β} (h : tAt G W RV (M.ret a) O env σ H Q) (R : Rel G O H σ env) (rv : RV σ a b env O H) : Q b H := by
  obtain ⟨r, e, p⟩ := h
  have e' : some (Rz.ok a, env) = some r := e
  cases e'
  exact p b O H R Step.refl rv
theorem tAt.retAt {a : α} {Q : β → Hp → Prop} {b : β} {O' : Own} {H' : Hp} (h : tAt G W RV (M.ret a) O env σ H Q) (R : Rel G O' H' σ env) (s : Step O H O' H') (rv : RV σ a b env O' H') : Q b H' := by
  obtain ⟨r, e, p⟩ := h
  have e' : some (Rz.ok a, env) = some r := e
  cases e'
  exact p b O' H' R s rv
theorem tAt.optAt {o : Option α} {Q : β → Hp → Prop} (h : tAt G W RV (M.opt o) O env σ H Q) : ∃ a, o = some a ∧ ∀ b O' H', Rel G O' H' σ env → Step O H O' H' → RV σ a b env O' H' → Q b H' := by
  obtain ⟨r, e, p⟩ := h
  unfold M.opt at e
  cases o with
  | none => cases e
  | some a =>
    have e' : some (Rz.ok a, env) = some r := e
    cases e'
    exact ⟨a, rfl, p⟩
end

/-! ### the judgements -/
def SD (X : Cx) (G : Gd) (W : WX) (e : Expr) (f : M D) : Prop := PE X e (tG G W (RD G) f)
def SV (X : Cx) (G : Gd) (W : WX) (e : Expr) (f : M Vl) : Prop := PE X e (tG G W (RL G) f)
def SB (X : Cx) (G : Gd) (W : WX) (e : Expr) (f : M Bool) : Prop := PT X e (tG G W RB f)
def SA (X : Cx) (G : Gd) (W : WX) (es : List Expr) (f : M (List D)) : Prop := PA X es (tG G W (RA G) f)

theorem PE.imp {X : Cx} {e : Expr} {t u : TE} (h : PE X e t) (q : ∀ σ H Q, u σ H Q → t σ H Q) : PE X e u := ⟨fun pins s σ H Q I hu => h.run pins s σ H Q I (q σ H Q hu)⟩
theorem PT.imp {X : Cx} {e : Expr} {t u : TT} (h : PT X e t) (q : ∀ σ H Q, u σ H Q → t σ H Q) : PT X e u := ⟨fun pins s σ H Q I hu => h.run pins s σ H Q I (q σ H Q hu)⟩
theorem PA.imp {X : Cx} {e : List Expr} {t u : TA} (h : PA X e t) (q : ∀ σ H Q, u σ H Q → t σ H Q) : PA X e u := ⟨fun pos pins s σ H Q I hu => h.run pos pins s σ H Q I (q σ H Q hu)⟩
theorem PS.imp {X : Cx} {e : Stmt} {t u : TS} (h : PS X e t) (q : ∀ D σ H, u D σ H → t D σ H) : PS X e u := ⟨fun pins s σ H D I hu => h.run pins s σ H D I (q D σ H hu)⟩
theorem PSs.imp {X : Cx} {e : List Stmt} {t u : TS} (h : PSs X e t) (q : ∀ D σ H, u D σ H → t D σ H) : PSs X e u := ⟨fun pins s σ H D I hu => h.run pins s σ H D I (q D σ H hu)⟩

/-! ### own lists let go -/
def Vl.fz : Vl → D
  | .d x => x
  | .own xs => .list xs
def fz (f : M Vl) : M D := f.bnd fun x => M.ret x.fz
def toV (f : M D) : M Vl := f.bnd fun x => M.ret (.d x)
section
variable {G : Gd} {W : WX} {σ : L2.St} {O : Own} {H : Hp} {env : SEnv}
/-- a list that no slot has is let go -/
theorem Rel.letGo (R : Rel G O H σ env) {p : Addr} (h0 : G.H0 p = none) (n : ∀ i : Nat, OwnAt env i → σ[i]? ≠ some (some (V.ref p))) : Rel G (fun a => O a ∧ a ≠ p) H σ env ∧ Step O H (fun a => O a ∧ a ≠ p) H := by
  have s : Step O H (fun a => O a ∧ a ≠ p) H := fun a o h q => ⟨h, fun z => q z.1⟩
  refine ⟨R.move s (fun i q h e => ?_) (fun a o h h1 m q => ⟨h, q, fun z => h1 (by rw [z]; exact h0)⟩) (fun a h => R.ol a h.1), s⟩
  obtain ⟨q', vs, e1, h1, o1⟩ := R.ownAddr h
  rw [e] at e1; cases e1
  exact ⟨rfl, o1, fun z => n i h (by rw [e, z])⟩
theorem RL.fz {x : Vl} {v : V} (R : Rel G O H σ env) (r : RL G σ x v env O H) : ∃ O', Rel G O' H σ env ∧ Step O H O' H ∧ Rp G.K O' H x.fz v := by
  cases x with
  | d d => exact ⟨O, R, Step.refl, r⟩
  | own xs =>
    obtain ⟨p, vs, rfl, h1, r, o1, h0, n⟩ := r
    obtain ⟨R', s⟩ := R.letGo h0 n
    refine ⟨_, R', s, ?_⟩
    show Rp G.K _ H (.list xs) (.ref p)
    simp only [Rp]
    exact ⟨p, vs, rfl, .inl ⟨.inl h1, fun z => z.2 rfl⟩, RpAll.step s xs vs r⟩
end
theorem SV.fz {X : Cx} {G : Gd} {W : WX} {e : Expr} {f : M Vl} (h : SV X G W e f) : SD X G W e (fz f) := by
  refine PE.imp h fun σ H Q ⟨O, env, R, t⟩ => ?_
  obtain ⟨O1, env1, R1, r, e1, p⟩ := bindL (RV := RL G) R t
  refine ⟨O1, env1, R1, r, e1, p.mono fun v H2 ⟨x, env2, O2, R2, s2, rv, t2⟩ => ?_⟩
  obtain ⟨O3, R3, s3, r3⟩ := RL.fz R2 rv
  exact t2.retAt R3 s3 r3
theorem SD.toV {X : Cx} {G : Gd} {W : WX} {e : Expr} {f : M D} (h : SD X G W e f) : SV X G W e (toV f) := by
  refine PE.imp h fun σ H Q ⟨O, env, R, t⟩ => ?_
  obtain ⟨O1, env1, R1, r, e1, p⟩ := bindL (RV := RD G) R t
  refine ⟨O1, env1, R1, r, e1, p.mono fun v H2 ⟨x, env2, O2, R2, s2, rv, t2⟩ => ?_⟩
  exact t2.ret R2 rv
end PV

/-! PV3: operations by trees. -/
namespace PV
open PySem PySem.Spec PyProof.Rows L2

/-- what an operation leaves: a tree, or a new list -/
def VlR (K : PySem.W.Frag) (O : Own) (H H' : Hp) : Vl → V → Prop
  | .d x, v => Rp K O H' x v
  | .own xs, v => ∃ (p : Addr) (vs : List V), v = V.ref p ∧ H p = none ∧ H' p = some (.lst vs) ∧ RpAll K O H xs vs
abbrev VQ (K : PySem.W.Frag) (O : Own) (H : Hp) (x : Vl) (Q : VK) : Prop := ∀ v H', Grow H H' → VlR K O H H' x v → Q v H'
def OpS (K : PySem.W.Frag) (r : R2) (g : D → D → Option Vl) : Prop := ∀ (O : Own) (H : Hp) (x y : V) (dx dy : D) (vl : Vl) (Q : VK), (∀ a, O a → H a ≠ none) → Rp K O H dx x → Rp K O H dy y → g dx dy = some vl → VQ K O H vl Q → r x y H Q
def UnS (K : PySem.W.Frag) (r : V → Hp → VK → Prop) (g : D → Option Vl) : Prop := ∀ (O : Own) (H : Hp) (x : V) (dx : D) (vl : Vl) (Q : VK), (∀ a, O a → H a ≠ none) → Rp K O H dx x → g dx = some vl → VQ K O H vl Q → r x H Q
def CaS (K : PySem.W.Frag) (r : List V → Hp → VK → Prop) (g : List D → Option Vl) : Prop := ∀ (O : Own) (H : Hp) (xs : List V) (ds : List D) (vl : Vl) (Q : VK), (∀ a, O a → H a ≠ none) → RpAll K O H ds xs → g ds = some vl → VQ K O H vl Q → r xs H Q

section
variable {G : Gd} {W : WX} {σ : L2.St} {O : Own} {H : Hp} {env : SEnv}
/-- the end of an operation -/
theorem finOp {o : Option Vl} {Q : VK} (R : Rel G O H σ env) (t : tAt G W (RL G) (M.opt o) O env σ H Q) : ∃ vl, o = some vl ∧ VQ G.K O H vl Q := by
  obtain ⟨vl, e, p⟩ := t.optAt
  refine ⟨vl, e, fun v H' g r => ?_⟩
  cases vl with
  | d x => exact p v O H' (R.grow g) g.step r
  | own xs =>
    obtain ⟨q, vs, rfl, hq, h', ra⟩ := r
    refine p _ _ H' (R.new g hq (by rw [h']; exact fun z => nomatch z)) (g.stepNew hq) ⟨q, vs, rfl, h', RpAll.step (g.stepNew hq) xs vs ra, .inr rfl, R.fresh0 hq, fun i h e => ?_⟩
    obtain ⟨q', vs', e1, h1, _⟩ := R.ownAddr h
    rw [e] at e1; cases e1
    rw [hq] at h1; cases h1
end
theorem OpS.or {K : PySem.W.Frag} {r r' : R2} {g g' : D → D → Option Vl} (h : OpS K r g) (h' : OpS K r' g') : OpS K (fun x y H Q => r x y H Q ∨ r' x y H Q) (fun x y => (g x y).or (g' x y)) := by
  intro O H x y dx dy vl Q ol rx ry e q
  cases e1 : g dx dy with
  | some z =>
    dsimp only at e
    rw [e1] at e
    cases e
    exact .inl (h O H x y dx dy _ Q ol rx ry e1 q)
  | none =>
    dsimp only at e
    rw [e1] at e
    exact .inr (h' O H x y dx dy _ Q ol rx ry e q)
/-- the same by a function that says no more -/
theorem OpS.of {K : PySem.W.Frag} {r : R2} {g g' : D → D → Option Vl} (h : OpS K r g) (e : ∀ x y v, g' x y = some v → g x y = some v) : OpS K r g' := fun O H x y dx dy vl Q ol rx ry q => h O H x y dx dy vl Q ol rx ry (e _ _ _ q)
def bin (fa fb : M D) (g : D → D → Option Vl) : M Vl := fa.bnd fun x => fb.bnd fun y => M.opt (g x y)
def un (fa : M D) (g : D → Option Vl) : M Vl := fa.bnd fun x => M.opt (g x)
section
variable {X : Cx} {G : Gd} {W : WX} {a b : Expr} {fa fb : M D} {g : D → D → Option Vl} {r : R2}
theorem bin_imp (hK : X.K = G.K) (s : OpS X.K r g) {σ : L2.St} {H : Hp} {Q : VK} (h : tG G W (RL G) (bin fa fb g) σ H Q) : tOp r (tG G W (RD G) fa) (tG G W (RD G) fb) σ H Q := by
  obtain ⟨O, env, R, t⟩ := h
  obtain ⟨O1, env1, R1, r1, e1, p1⟩ := bindL (RV := RD G) R t
  refine ⟨O1, env1, R1, r1, e1, p1.mono fun x H2 ⟨dx, env2, O2, R2, s2, rx, t2⟩ => ?_⟩
  obtain ⟨O3, env3, R3, r3, e3, p3⟩ := bindL (RV := RD G) R2 t2
  refine ⟨O3, env3, R3, r3, e3, p3.mono fun y H4 ⟨dy, env4, O4, R4, s4, ry, t4⟩ => ?_⟩
  obtain ⟨vl, e, q⟩ := finOp R4 t4
  rw [hK] at s
  exact s O4 H4 x y dx dy vl Q R4.ol (Rp.step s4 dx x rx) ry e q
theorem sv_bin {op : Operator} {pos : Pos} (hK : X.K = G.K) (ho : OpR X (binaryOp op) r) (s : OpS X.K r g) (ha : SD X G W a fa) (hb : SD X G W b fb) : SV X G W (.BinOp a op b pos) (bin fa fb g) :=
  PE.imp (pe_op ho ha hb) fun _ _ _ => bin_imp hK s
theorem sv_cmp {op : CmpOp} {pos : Pos} (hK : X.K = G.K) (ho : OpR X (compareOp op) r) (s : OpS X.K r g) (hm : behindInMarks op b = false) (ha : SD X G W a fa) (hb : SD X G W b fb) : SV X G W (.Compare a [op] [b] pos) (bin fa fb g) :=
  PE.imp (pe_cmpR ho ha hb hm) fun _ _ _ => bin_imp hK s
theorem sv_ix {pos : Pos} (hK : X.K = G.K) (hi : IxR X r) (s : OpS X.K r g) (hs : PlainIx b) (ha : SD X G W a fa) (hb : SD X G W b fb) : SV X G W (.Subscript a b pos) (bin fa fb g) :=
  PE.imp (pe_ix hi ha hb hs) fun _ _ _ => bin_imp hK s
theorem sv_un {op : UnaryOp} {pos : Pos} {g : D → Option Vl} {r : V → Hp → VK → Prop} (hK : X.K = G.K) (ho : UnR X (unaryOp op) r) (s : UnS X.K r g) (ha : SD X G W a fa) : SV X G W (.UnaryOp op a pos) (un fa g) := by
  refine PE.imp (pe_un ho ha) fun σ H Q ⟨O, env, R, t⟩ => ?_
  obtain ⟨O1, env1, R1, r1, e1, p1⟩ := bindL (RV := RD G) R t
  refine ⟨O1, env1, R1, r1, e1, p1.mono fun x H2 ⟨dx, env2, O2, R2, s2, rx, t2⟩ => ?_⟩
  obtain ⟨vl, e, q⟩ := finOp R2 t2
  rw [hK] at s
  exact s O2 H2 x dx vl Q R2.ol rx e q
end

/-! ### whole numbers -/
section
variable {X : Cx} {K : PySem.W.Frag}
def intG (C : Int → Int → Bool) (g : Int → Int → D) : D → D → Option Vl
  | .int i, .int j => if C i j = true then some (.d (g i j)) else none
  | _, _ => none
theorem intG_inv {C : Int → Int → Bool} {g : Int → Int → D} {dx dy : D} {v : Vl} (h : intG C g dx dy = some v) : ∃ i j, dx = .int i ∧ dy = .int j ∧ C i j = true ∧ v = .d (g i j) := by
  unfold intG at h
  split at h
  · split at h
    · rename_i hc
      cases h
      exact ⟨_, _, rfl, rfl, hc, rfl⟩
    · cases h
  · cases h
theorem Rp.int_inv {O : Own} {H : Hp} {i : Int} {v : V} (h : Rp K O H (.int i) v) : v = .int i := by simp only [Rp] at h; exact h
theorem Rp.bl_inv {O : Own} {H : Hp} {i : Bool} {v : V} (h : Rp K O H (.bool i) v) : v = .bl i := by simp only [Rp] at h; exact h
theorem Rp.str_inv {O : Own} {H : Hp} {i : Str} {v : V} (h : Rp K O H (.str i) v) : v = .str i := by simp only [Rp] at h; exact h
theorem Rp.non_inv {O : Own} {H : Hp} {v : V} (h : Rp K O H .none v) : v = .non := by simp only [Rp] at h; exact h
theorem Rp.list_inv {O : Own} {H : Hp} {ds : List D} {v : V} (h : Rp K O H (.list ds) v) : ∃ a xs, v = .ref a ∧ RdL K O H a xs ∧ RpAll K O H ds xs := by simp only [Rp] at h; exact h
theorem Rp.tup_inv {O : Own} {H : Hp} {ds : List D} {v : V} (h : Rp K O H (.tuple ds) v) : ∃ a xs, v = .ref a ∧ RdT K O H a xs ∧ RpAll K O H ds xs := by simp only [Rp] at h; exact h
theorem Rp.int' {O : Own} {H : Hp} {i : Int} : Rp K O H (.int i) (.int i) := by simp only [Rp]
theorem Rp.bl' {O : Own} {H : Hp} {i : Bool} : Rp K O H (.bool i) (.bl i) := by simp only [Rp]
theorem Rp.str' {O : Own} {H : Hp} {i : Str} : Rp K O H (.str i) (.str i) := by simp only [Rp]
theorem Rp.non' {O : Own} {H : Hp} : Rp K O H .none .non := by simp only [Rp]
theorem VQ.int {O : Own} {H : Hp} {i : Int} {Q : VK} (q : VQ K O H (.d (.int i)) Q) : Q (.int i) H := q _ H Grow.refl (Rp.int' (K := K) (O := O) (H := H))
theorem VQ.bl {O : Own} {H : Hp} {i : Bool} {Q : VK} (q : VQ K O H (.d (.bool i)) Q) : Q (.bl i) H := q _ H Grow.refl (Rp.bl' (K := K) (O := O) (H := H))
theorem VQ.str {O : Own} {H : Hp} {i : Str} {Q : VK} (q : VQ K O H (.d (.str i)) Q) : Q (.str i) H := q _ H Grow.refl (Rp.str' (K := K) (O := O) (H := H))
theorem VQ.non {O : Own} {H : Hp} {Q : VK} (q : VQ K O H (.d .none) Q) : Q .non H := q _ H Grow.refl (Rp.non' (K := K) (O := O) (H := H))
theorem VQ.same {O : Own} {H : Hp} {d : D} {v : V} {Q : VK} (q : VQ K O H (.d d) Q) (r : Rp K O H d v) : Q v H := q _ H Grow.refl r
/-- a new tuple -/
theorem VQ.tup {O : Own} {H : Hp} {ds : List D} {vs : List V} {Q : VK} {p : Addr} (ol : ∀ a, O a → H a ≠ none) (q : VQ K O H (.d (.tuple ds)) Q) (r : RpAll K O H ds vs) (hp : H p = none) : Q (.ref p) (upd H p (.tup vs)) := by
  refine q _ _ (Grow.upd hp) ?_
  show Rp K O _ (.tuple ds) (.ref p)
  simp only [Rp]
  exact ⟨p, vs, rfl, .inl ⟨.inl upd_same, fun z => ol p z hp⟩, RpAll.step (Grow.upd hp).step ds vs r⟩
/-- a new list -/
theorem VQ.lst {O : Own} {H : Hp} {ds : List D} {vs : List V} {Q : VK} {p : Addr} (q : VQ K O H (.own ds) Q) (r : RpAll K O H ds vs) (hp : H p = none) : Q (.ref p) (upd H p (.lst vs)) :=
  q _ _ (Grow.upd hp) ⟨p, vs, rfl, hp, upd_same, r⟩
theorem opI_S {C : Int → Int → Prop} {B : Int → Int → Bool} {gV : Int → Int → Int} (h : ∀ i j, B i j = true → C i j) : OpS K (rI C fun i j => .int (gV i j)) (intG B fun i j => .int (gV i j)) := by
  intro O H x y dx dy vl Q ol rx ry e q
  obtain ⟨i, j, rfl, rfl, hc, rfl⟩ := intG_inv e
  exact ⟨i, j, rx.int_inv, ry.int_inv, h i j hc, q.int⟩
theorem opI0_S {gV : Int → Int → Int} : OpS K (rI0 fun i j => .int (gV i j)) (intG (fun _ _ => true) fun i j => .int (gV i j)) := by
  intro O H x y dx dy vl Q ol rx ry e q
  obtain ⟨i, j, rfl, rfl, hc, rfl⟩ := intG_inv e
  exact ⟨i, j, rx.int_inv, ry.int_inv, q.int⟩
theorem opB0_S {gV : Int → Int → Bool} : OpS K (rI0 fun i j => .bl (gV i j)) (intG (fun _ _ => true) fun i j => .bool (gV i j)) := by
  intro O H x y dx dy vl Q ol rx ry e q
  obtain ⟨i, j, rfl, rfl, hc, rfl⟩ := intG_inv e
  exact ⟨i, j, rx.int_inv, ry.int_inv, q.bl⟩

def okMul (i j : Int) : Bool := decide (i.natAbs.log2 + j.natAbs.log2 < 1000000)
def okDiv (_ j : Int) : Bool := decide (j ≠ 0) && decide (j.natAbs.log2 < 9000)
def okMod (_ j : Int) : Bool := decide (j ≠ 0)
def okPow (i j : Int) : Bool := decide (0 ≤ j) && decide ((Builtin.Int.intBits i : Int) * j ≤ 2 ^ 27)
theorem op_fdivG : OpR X (binaryOp .FloorDiv) (rI (fun _ j => j ≠ 0 ∧ j.natAbs.log2 < 9000) fun i j => .int (i.fdiv j)) :=
  opI fun i j _ _ _ _ _ hc q => floordiv_int hc.1 q (.inl (PyProof.noPylong_of_log2 hc.2))
theorem op_powG : OpR X (binaryOp .Pow) (rI (fun i j => 0 ≤ j ∧ (Builtin.Int.intBits i : Int) * j ≤ 2 ^ 27) fun i j => .int (i ^ j.toNat)) :=
  opI fun i j _ _ _ _ _ hc q => pow_int hc.1 hc.2 q
def subD : D → D → Option Vl := intG (fun _ _ => true) fun i j => .int (i - j)
def mulD : D → D → Option Vl := intG okMul fun i j => .int (i * j)
def fdivD : D → D → Option Vl := intG okDiv fun i j => .int (i.fdiv j)
def modD : D → D → Option Vl := intG okMod fun i j => .int (i.fmod j)
def powD : D → D → Option Vl := intG okPow fun i j => .int (i ^ j.toNat)
def ltD : D → D → Option Vl := intG (fun _ _ => true) fun i j => .bool (decide (i < j))
def leD : D → D → Option Vl := intG (fun _ _ => true) fun i j => .bool (decide (i ≤ j))
def gtD : D → D → Option Vl := intG (fun _ _ => true) fun i j => .bool (decide (j < i))
def geD : D → D → Option Vl := intG (fun _ _ => true) fun i j => .bool (decide (j ≤ i))
def catD : D → D → Option Vl
  | .tuple xs, .tuple ys => if xs.length + ys.length ≤ sizeLine then some (.d (.tuple (xs ++ ys))) else none
  | _, _ => none
def catL : D → D → Option Vl
  | .list xs, .list ys => if xs.length + ys.length ≤ sizeLine then some (.own (xs ++ ys)) else none
  | _, _ => none
def catS : D → D → Option Vl
  | .str x, .str y => if x.length + y.length ≤ sizeLine then some (.d (.str (x ++ y))) else none
  | _, _ => none
theorem cat_S : OpS K (rCatA K) catD := by
  intro O H x y dx dy vl Q ol rx ry e q
  unfold catD at e
  split at e
  · split at e
    · rename_i hz
      cases e
      obtain ⟨a, xs, rfl, ra, qa⟩ := rx.tup_inv
      obtain ⟨b, ys, rfl, rb, qb⟩ := ry.tup_inv
      have l1 := qa.length
      have l2 := qb.length
      refine ⟨a, b, xs, ys, rfl, rfl, ra.sq, rb.sq, by omega, fun e1 => q.same ?_, fun n1 e2 => q.same ?_, fun _ _ p hp => q.tup ol (qa.append qb) hp⟩
      · subst e1
        rw [qa.nil_iff.mpr rfl]
        exact ry
      · subst e2
        rw [qb.nil_iff.mpr rfl, List.append_nil]
        exact rx
    · cases e
  · cases e
theorem catL_S : OpS K (fun x y H Q => ∃ l b xs zs, x = .ref l ∧ y = .ref b ∧ SqL K H l xs ∧ SqL K H b zs ∧ xs.length + zs.length ≤ sizeLine ∧ ∀ p, H p = none → Q (.ref p) (upd H p (.lst (xs ++ zs)))) catL := by
  intro O H x y dx dy vl Q ol rx ry e q
  unfold catL at e
  split at e
  · split at e
    · rename_i hz
      cases e
      obtain ⟨a, xs, rfl, ra, qa⟩ := rx.list_inv
      obtain ⟨b, ys, rfl, rb, qb⟩ := ry.list_inv
      have l1 := qa.length
      have l2 := qb.length
      exact ⟨a, b, xs, ys, rfl, rfl, ra.sq, rb.sq, by omega, fun p hp => q.lst (qa.append qb) hp⟩
    · cases e
  · cases e
theorem catS_S : OpS K (fun x y H Q => ∃ i j, x = .str i ∧ y = .str j ∧ i.length + j.length ≤ sizeLine ∧ Q (.str (i ++ j)) H) catS := by
  intro O H x y dx dy vl Q ol rx ry e q
  unfold catS at e
  split at e
  · split at e
    · rename_i hz
      cases e
      exact ⟨_, _, rx.str_inv, ry.str_inv, hz, q.str⟩
    · cases e
  · cases e
/-- xs + ys of lists that are read -/
theorem op_catR : OpR X (binaryOp .Add) (fun x y H Q => ∃ l b xs zs, x = .ref l ∧ y = .ref b ∧ SqL X.K H l xs ∧ SqL X.K H b zs ∧ xs.length + zs.length ≤ sizeLine ∧ ∀ p, H p = none → Q (.ref p) (upd H p (.lst (xs ++ zs)))) := by
  intro pins s σ H x y v u Q I rx ry h
  obtain ⟨l, b, xs, zs, rfl, rfl, hl, hb, hz, q⟩ := h
  cases rx
  cases ry
  obtain ⟨its, r1, p1, _⟩ := I.list hl
  obtain ⟨its2, r2, p2, _⟩ := I.list hb
  have e1 := r1.length
  have e2 := r2.length
  obtain ⟨⟨cls, dd, data, sl⟩, n, ho, hc, hdn, hd⟩ := p1
  obtain ⟨⟨cls2, dd2, data2, sl2⟩, n2, ho2, hc2, hdn2, hd2⟩ := p2
  simp only at hc hd hc2 hd2
  subst hc hd hc2 hd2
  refine concat_meets ⟨_, ho, rfl⟩ ⟨_, ho2, rfl⟩ noFill_list_add seq_list_add PySem.F.slot_list_add PySem.F.entry_list_add (PySem.F.args_list_add_2 _ _)
    (PyProof.Rows.list_addW l b its.toArray its2.toArray n n2 dd dd2 sl sl2 (by rw [List.size_toArray, List.size_toArray]; omega)) ⟨ho, ho2, ?_⟩
  have ea : its.toArray ++ its2.toArray = (its ++ its2).toArray := by simp
  rw [ea]
  exact ⟨.ref _, _, I.lnew (t' := s.toks) (r1.append r2) (by rw [List.length_append]; omega), rfl, q _ I.fresh⟩
/-- + of all kinds -/
def addD : D → D → Option Vl := fun x y => (intG (fun _ _ => true) (fun i j => .int (i + j)) x y).or ((catD x y).or ((catL x y).or (catS x y)))
theorem op_addA : OpR X (binaryOp .Add) (fun x y H Q => rI0 (fun i j => .int (i + j)) x y H Q ∨ rCatA X.K x y H Q ∨ (fun x y H Q => ∃ l b xs zs, x = .ref l ∧ y = .ref b ∧ SqL X.K H l xs ∧ SqL X.K H b zs ∧ xs.length + zs.length ≤ sizeLine ∧ ∀ p, H p = none → Q (.ref p) (upd H p (.lst (xs ++ zs)))) x y H Q ∨ (fun x y H Q => ∃ i j, x = .str i ∧ y = .str j ∧ i.length + j.length ≤ sizeLine ∧ Q (.str (i ++ j)) H) x y H Q) :=
  op_add.or (op_catA.or (op_catR.or op_add_str))
theorem add_S : OpS K (fun x y H Q => rI0 (fun i j => .int (i + j)) x y H Q ∨ rCatA K x y H Q ∨ (fun x y H Q => ∃ l b xs zs, x = .ref l ∧ y = .ref b ∧ SqL K H l xs ∧ SqL K H b zs ∧ xs.length + zs.length ≤ sizeLine ∧ ∀ p, H p = none → Q (.ref p) (upd H p (.lst (xs ++ zs)))) x y H Q ∨ (fun x y H Q => ∃ i j, x = .str i ∧ y = .str j ∧ i.length + j.length ≤ sizeLine ∧ Q (.str (i ++ j)) H) x y H Q) addD :=
  OpS.or (OpS.of opI0_S fun _ _ _ h => h) (OpS.or cat_S (OpS.or catL_S catS_S))
theorem sub_S : OpS K (rI0 fun i j => .int (i - j)) subD := opI0_S
theorem mul_S : OpS K (rI CMulW fun i j => .int (i * j)) mulD := opI_S fun i j h => by
  exact of_decide_eq_true (p := i.natAbs.log2 + j.natAbs.log2 < 1000000) h
theorem fdiv_S : OpS K (rI (fun _ j => j ≠ 0 ∧ j.natAbs.log2 < 9000) fun i j => .int (i.fdiv j)) fdivD := opI_S fun i j h => by
  unfold okDiv at h
  rw [Bool.and_eq_true] at h
  exact ⟨of_decide_eq_true h.1, of_decide_eq_true h.2⟩
theorem mod_S : OpS K (rI (fun _ j => j ≠ 0) fun i j => .int (i.fmod j)) modD := opI_S fun i j h => of_decide_eq_true h
theorem pow_S : OpS K (rI (fun i j => 0 ≤ j ∧ (Builtin.Int.intBits i : Int) * j ≤ 2 ^ 27) fun i j => .int (i ^ j.toNat)) powD := opI_S fun i j h => by
  unfold okPow at h
  rw [Bool.and_eq_true] at h
  exact ⟨of_decide_eq_true h.1, of_decide_eq_true h.2⟩
theorem lt_S : OpS K (rI0 fun i j => .bl (decide (i < j))) ltD := opB0_S
theorem le_S : OpS K (rI0 fun i j => .bl (decide (i ≤ j))) leD := opB0_S
theorem gt_S : OpS K (rI0 fun i j => .bl (decide (j < i))) gtD := opB0_S
theorem ge_S : OpS K (rI0 fun i j => .bl (decide (j ≤ i))) geD := opB0_S
def negD : D → Option Vl
  | .int i => some (.d (.int (-i)))
  | _ => none
theorem neg_S : UnS K (rU fun i => .int (-i)) negD := by
  intro O H x dx vl Q ol rx e q
  unfold negD at e
  split at e
  · cases e
    exact ⟨_, rx.int_inv, q.int⟩
  · cases e

/-! ### == -/
mutual
theorem Rp.dp {O : Own} {H : Hp} : ∀ (d : D) (v : V), d.hasDict = false → Rp K O H d v → Dp K H v d
  | .none, v, _, h => by rw [h.non_inv]; exact .non
  | .bool b, v, _, h => by rw [h.bl_inv]; exact .bl b
  | .int i, v, _, h => by rw [h.int_inv]; exact .int i
  | .str x, v, _, h => by rw [h.str_inv]; exact .str x
  | .list ds, v, n, h => by
    obtain ⟨a, xs, rfl, r, q⟩ := h.list_inv
    exact .lst r.sq (RpAll.dp ds xs (by simpa [PyData.hasDict] using n) q)
  | .tuple ds, v, n, h => by
    obtain ⟨a, xs, rfl, r, q⟩ := h.tup_inv
    exact .tup r.sq (RpAll.dp ds xs (by simpa [PyData.hasDict] using n) q)
  | .dict kvs, v, n, h => by simp [PyData.hasDict] at n
theorem RpAll.dp {O : Own} {H : Hp} : ∀ (ds : List D) (vs : List V), PyData.hasDictAll ds = false → RpAll K O H ds vs → DpAll K H vs ds
  | [], [], _, _ => .nil
  | d :: ds, v :: vs, n, h => by
    simp only [RpAll] at h
    simp only [PyData.hasDictAll, Bool.or_eq_false_iff] at n
    exact .cons (Rp.dp d v n.1 h.1) (RpAll.dp ds vs n.2 h.2)
  | [], _ :: _, _, h => by simp only [RpAll] at h
  | _ :: _, [], _, h => by simp only [RpAll] at h
end
mutual
theorem noDict_of_lay : ∀ d : D, d.canLay0 = true → d.hasDict = false
  | .none, _ => rfl
  | .bool b, _ => rfl
  | .int i, _ => rfl
  | .str x, _ => rfl
  | .list ds, h => by simp only [PyData.hasDict]; exact noDictAll_of_lay ds (by simpa [PyData.canLay0] using h)
  | .tuple ds, h => by simp only [PyData.hasDict]; exact noDictAll_of_lay ds (by simpa [PyData.canLay0] using h)
  | .dict kvs, h => by simp [PyData.canLay0] at h
theorem noDictAll_of_lay : ∀ ds : List D, PyData.canLayAll0 ds = true → PyData.hasDictAll ds = false
  | [], _ => rfl
  | d :: ds, h => by
    have h' : d.canLay0 = true ∧ PyData.canLayAll0 ds = true := by simpa [PyData.canLayAll0] using h
    simp only [PyData.hasDictAll, noDict_of_lay d h'.1, noDictAll_of_lay ds h'.2, Bool.or_self]
end
/-- == of trees, as far as it is known -/
def eqB : D → D → Option Bool
  | .str x, .str y => some (decide (x = y))
  | d, e => if SeqAt.shaped d = true ∧ SeqAt.shaped e = true then some (PyData.eqv d e) else none
def eqD (x y : D) : Option Vl := (eqB x y).map fun b => .d (.bool b)
def neD (x y : D) : Option Vl := (eqB x y).map fun b => .d (.bool (!b))
theorem eqB_S {b : Bool} {O : Own} {H : Hp} {dx dy : D} {x y : V} (rx : Rp K O H dx x) (ry : Rp K O H dy y) (e : eqB dx dy = some b) :
    (L2.scal x y = true ∧ b = decide (x = y)) ∨ (∃ d e', Dp K H x d ∧ Dp K H y e' ∧ SeqAt.shaped d = true ∧ SeqAt.shaped e' = true ∧ b = PyData.eqv d e') := by
  unfold eqB at e
  split at e
  · cases e
    refine .inl ?_
    rw [rx.str_inv, ry.str_inv]
    refine ⟨rfl, ?_⟩
    rw [Bool.eq_iff_iff, decide_eq_true_iff, decide_eq_true_iff]
    exact ⟨fun z => by rw [z], fun z => by injection z⟩
  · split at e
    · rename_i h
      cases e
      exact .inr ⟨_, _, rx.dp _ _ (noDict_of_lay _ (SeqAt.canLay_of_shaped h.1)), ry.dp _ _ (noDict_of_lay _ (SeqAt.canLay_of_shaped h.2)), h.1, h.2, rfl⟩
    · cases e
theorem eq_S : OpS K (fun x y H Q => rEq x y H Q ∨ rEqD K x y H Q) eqD := by
  intro O H x y dx dy vl Q ol rx ry e q
  unfold eqD at e
  cases h : eqB dx dy with
  | none => rw [h] at e; cases e
  | some b =>
    rw [h] at e; cases e
    rcases eqB_S rx ry h with ⟨h1, h2⟩ | ⟨d, e', h1, h2, h3, h4, h5⟩
    · exact .inl ⟨h1, by rw [← h2]; exact q.bl⟩
    · exact .inr ⟨d, e', h1, h2, h3, h4, by rw [← h5]; exact q.bl⟩
theorem ne_S : OpS K (fun x y H Q => rNe x y H Q ∨ rNeD K x y H Q) neD := by
  intro O H x y dx dy vl Q ol rx ry e q
  unfold neD at e
  cases h : eqB dx dy with
  | none => rw [h] at e; cases e
  | some b =>
    rw [h] at e; cases e
    rcases eqB_S rx ry h with ⟨h1, h2⟩ | ⟨d, e', h1, h2, h3, h4, h5⟩
    · exact .inl ⟨h1, by rw [← h2]; exact q.bl⟩
    · exact .inr ⟨d, e', h1, h2, h3, h4, by rw [← h5]; exact q.bl⟩
theorem op_eqA (hu : X.A.units + 64 < cLine) : OpR X (compareOp .Eq) (fun x y H Q => rEq x y H Q ∨ rEqD X.K x y H Q) := op_eq.or (op_eqD hu)
theorem op_neA (hu : X.A.units + 64 < cLine) : OpR X (compareOp .NotEq) (fun x y H Q => rNe x y H Q ∨ rNeD X.K x y H Q) := op_ne.or (op_neD hu)
def isNoneD : D → Bool
  | .none => true
  | _ => false
def isN (x y : D) : Option Vl := match y with
  | .none => some (.d (.bool (isNoneD x)))
  | _ => none
def notN (x y : D) : Option Vl := match y with
  | .none => some (.d (.bool (!isNoneD x)))
  | _ => none
theorem Rp.isNon {O : Own} {H : Hp} {v : V} : ∀ {d : D}, Rp K O H d v → decide (v = V.non) = isNoneD d := fun {d} r => by
  cases d with
  | none => rw [r.non_inv]; rfl
  | bool b => rw [r.bl_inv]; rfl
  | int i => rw [r.int_inv]; rfl
  | str x => rw [r.str_inv]; rfl
  | list ds => obtain ⟨a, xs, rfl, _⟩ := r.list_inv; rfl
  | tuple ds => obtain ⟨a, xs, rfl, _⟩ := r.tup_inv; rfl
  | dict ds =>
    simp only [Rp] at r
    obtain ⟨a, xs, rfl, _⟩ := r; rfl
theorem isN_S : OpS K (fun x y H Q => y = .non ∧ Q (.bl (decide (x = .non))) H) isN := by
  intro O H x y dx dy vl Q ol rx ry e q
  unfold isN at e
  split at e
  · cases e
    exact ⟨ry.non_inv, by rw [rx.isNon]; exact q.bl⟩
  · cases e
theorem notN_S : OpS K (fun x y H Q => y = .non ∧ Q (.bl (!decide (x = .non))) H) notN := by
  intro O H x y dx dy vl Q ol rx ry e q
  unfold notN at e
  split at e
  · cases e
    exact ⟨ry.non_inv, by rw [rx.isNon]; exact q.bl⟩
  · cases e
end
end PV

/-! PV4: items, slices, truth, the built-ins. -/
namespace PV
open PySem PySem.Spec PyProof.Rows L2

section
variable {X : Cx} {K : PySem.W.Frag} {O : Own} {H : Hp}
theorem RpAll.atI {ds : List D} {vs : List V} {i : Int} {d : D} (h : RpAll K O H ds vs) (e : L2.atI ds i = some d) : ∃ v, L2.atI vs i = some v ∧ Rp K O H d v := by
  unfold L2.atI at e ⊢
  rw [← h.length]
  cases hj : ixN ds.length i with
  | none => rw [hj] at e; cases e
  | some j =>
    rw [hj] at e
    exact h.get (show ds[j]? = some d from e)
def ixD : D → D → Option Vl
  | .list ds, .int i => (L2.atI ds i).map .d
  | .tuple ds, .int i => (L2.atI ds i).map .d
  | .str z, .int i => if z.length ≤ sizeLine then (L2.atI z.cps.toList i).map fun c => .d (.str ⟨#[c]⟩) else none
  | _, _ => none
theorem ix_S : OpS K (rIx K) ixD := by
  intro O H x y dx dy vl Q ol rx ry e q
  unfold ixD at e
  split at e
  · rename_i ds i
    cases h : L2.atI ds i with
    | none => rw [h] at e; cases e
    | some d =>
      rw [h] at e; cases e
      obtain ⟨a, xs, rfl, ra, qa⟩ := rx.list_inv
      obtain ⟨v, h1, r⟩ := qa.atI h
      exact .inl ⟨a, xs, i, v, rfl, ry.int_inv, ra.sq, h1, q.same r⟩
  · rename_i ds i
    cases h : L2.atI ds i with
    | none => rw [h] at e; cases e
    | some d =>
      rw [h] at e; cases e
      obtain ⟨a, xs, rfl, ra, qa⟩ := rx.tup_inv
      obtain ⟨v, h1, r⟩ := qa.atI h
      exact .inr (.inl ⟨a, xs, i, v, rfl, ry.int_inv, ra.sq, h1, q.same r⟩)
  · rename_i z i
    split at e
    · rename_i hz
      cases h : L2.atI z.cps.toList i with
      | none => rw [h] at e; cases e
      | some d =>
        rw [h] at e; cases e
        exact .inr (.inr ⟨z, i, d, rx.str_inv, ry.int_inv, hz, h, q.str⟩)
    · cases e
  · cases e

/-! ### slices -/
def cutL {α : Type} (xs : List α) (lo hi : Option Int) : List α := (xs.drop (HT.sIx xs.length 0 lo)).take (HT.sIx xs.length xs.length hi - HT.sIx xs.length 0 lo)
theorem RpAll.cut {ds : List D} {vs : List V} (lo hi : Option Int) (h : RpAll K O H ds vs) : RpAll K O H (cutL ds lo hi) (cutV vs lo hi) := by
  unfold cutL cutV
  rw [← h.length]
  exact (h.drop _).take _
theorem cutL_whole {α : Type} {xs : List α} {lo hi : Option Int} (h : HT.sIx xs.length 0 lo = 0 ∧ HT.sIx xs.length xs.length hi = xs.length) : cutL xs lo hi = xs := by
  unfold cutL
  rw [h.1, h.2]
  simp
def slD (x : D) (lo hi : Option Int) : Option Vl := match x with
  | .list ds => some (.own (cutL ds lo hi))
  | .tuple ds => some (.d (.tuple (cutL ds lo hi)))
  | .str z => if z.length ≤ sizeLine then some (.d (.str (cutS z lo hi))) else none
  | _ => none
def rSlAll (K : PySem.W.Frag) : V → Option Int → Option Int → Hp → VK → Prop := fun x lo hi H Q => rSlL K x lo hi H Q ∨ (rSlA K x lo hi H Q ∨ rSlS x lo hi H Q)
theorem sl_all : SlR X (rSlAll X.K) := sl_list.or (sl_tupA.or sl_str)
theorem sl_S {x : V} {dx : D} {lo hi : Option Int} {vl : Vl} {Q : VK} (ol : ∀ a, O a → H a ≠ none) (rx : Rp K O H dx x) (e : slD dx lo hi = some vl) (q : VQ K O H vl Q) : rSlAll K x lo hi H Q := by
  unfold slD at e
  split at e
  · cases e
    obtain ⟨a, xs, rfl, ra, qa⟩ := rx.list_inv
    exact .inl ⟨a, xs, rfl, ra.sq, fun p hp => q.lst (qa.cut lo hi) hp⟩
  · cases e
    obtain ⟨a, xs, rfl, ra, qa⟩ := rx.tup_inv
    refine .inr (.inl ⟨a, xs, rfl, ra.sq, fun hw => q.same ?_, fun _ p hp => q.tup ol (qa.cut lo hi) hp⟩)
    rw [cutL_whole (by rw [qa.length]; exact hw)]
    exact rx
  · split at e
    · rename_i hz
      cases e
      exact .inr (.inr ⟨_, rx.str_inv, hz, q.str⟩)
    · cases e
  · cases e
/-- a slice's part -/
def asInt : D → Option Int
  | .int i => some i
  | _ => none
def noPart : M (Option Int) := M.ret none
def part (f : M D) : M (Option Int) := f.bnd fun d => M.opt ((asInt d).map some)
def RO : RVT (Option Int) (Option Int) := fun _ a b _ _ _ => a = b
def SO (X : Cx) (G : Gd) (W : WX) (e : Option Expr) (f : M (Option Int)) : Prop := PO X e (tG G W RO f)
theorem PO.imp {e : Option Expr} {t u : TO} (h : PO X e t) (q : ∀ σ H Q, u σ H Q → t σ H Q) : PO X e u := by
  exact ⟨fun pins s σ H Q I hu => h.run pins s σ H Q I (q σ H Q hu)⟩
variable {G : Gd} {W : WX} {fa : M D} {fl fh : M (Option Int)}
theorem so_none : SO X G W none noPart := PO.imp po_none fun σ H Q ⟨O, env, R, t⟩ => t.ret R rfl
theorem so_some {e : Expr} (h : SD X G W e fa) : SO X G W (some e) (part fa) := by
  refine PO.imp (po_some h) fun σ H Q ⟨O, env, R, t⟩ => ?_
  obtain ⟨O1, env1, R1, r1, e1, p1⟩ := bindL (RV := RD G) R t
  refine ⟨O1, env1, R1, r1, e1, p1.mono fun x H2 ⟨dx, env2, O2, R2, s2, rx, t2⟩ => ?_⟩
  obtain ⟨o, eo, q⟩ := t2.optAt
  unfold asInt at eo
  split at eo
  · cases eo
    exact ⟨_, Rp.int_inv rx, q _ O2 H2 R2 Step.refl rfl⟩
  · cases eo
def slice (fa : M D) (fl fh : M (Option Int)) : M Vl := fa.bnd fun x => fl.bnd fun l => fh.bnd fun h => M.opt (slD x l h)
theorem sv_slice {e : Expr} {lo hi : Option Expr} {p2 pos : Pos} (hK : X.K = G.K) (he : SD X G W e fa) (hl : SO X G W lo fl) (hh : SO X G W hi fh) : SV X G W (.Subscript e (.Slice lo hi none p2) pos) (slice fa fl fh) := by
  refine PE.imp (pe_slice sl_all he hl hh) fun σ H Q ⟨O, env, R, t⟩ => ?_
  obtain ⟨O1, env1, R1, r1, e1, p1⟩ := bindL (RV := RD G) R t
  refine ⟨O1, env1, R1, r1, e1, p1.mono fun x H2 ⟨dx, env2, O2, R2, s2, rx, t2⟩ => ?_⟩
  obtain ⟨O3, env3, R3, r3, e3, p3⟩ := bindL (RV := RO) R2 t2
  refine ⟨O3, env3, R3, r3, e3, p3.mono fun l H4 ⟨l', env4, O4, R4, s4, rl, t4⟩ => ?_⟩
  obtain ⟨O5, env5, R5, r5, e5, p5⟩ := bindL (RV := RO) R4 t4
  refine ⟨O5, env5, R5, r5, e5, p5.mono fun h H6 ⟨h', env6, O6, R6, s6, rh, t6⟩ => ?_⟩
  obtain ⟨vl, e, q⟩ := finOp R6 t6
  have rl' : l' = l := rl
  have rh' : h' = h := rh
  subst rl' rh'
  rw [hK]
  exact sl_S R6.ol (Rp.step s6 dx x (Rp.step s4 dx x rx)) e q

/-! ### truth -/
def truD : D → Option Bool
  | .none => some false
  | .bool b => some b
  | .int i => some (i != 0)
  | .str y => if y.length ≤ sizeLine then some ((y.length : Int) != 0) else none
  | .list xs => some (!xs.isEmpty)
  | .tuple xs => some (!xs.isEmpty)
  | .dict _ => none
theorem RpAll.isEmpty {ds : List D} {vs : List V} (h : RpAll K O H ds vs) : ds.isEmpty = vs.isEmpty := by
  have e := h.length
  cases ds <;> cases vs <;> simp_all
theorem truD_S {d : D} {v : V} {b : Bool} (r : Rp K O H d v) (e : truD d = some b) : TruV K v H b := by
  unfold truD at e
  split at e
  · cases e; rw [r.non_inv]; rfl
  · cases e; rw [r.bl_inv]; rfl
  · cases e; rw [r.int_inv]; rfl
  · split at e
    · cases e; rw [r.str_inv]; exact ⟨by assumption, rfl⟩
    · cases e
  · cases e
    obtain ⟨a, xs, rfl, ra, qa⟩ := r.list_inv
    exact .inl ⟨xs, ra.sq, by rw [qa.isEmpty]⟩
  · cases e
    obtain ⟨a, xs, rfl, ra, qa⟩ := r.tup_inv
    exact .inr (.inl ⟨xs, ra.sq, by rw [qa.isEmpty]⟩)
  · cases e

/-! ### tests -/
def tru (f : M D) : M Bool := f.bnd fun d => M.opt (truD d)
theorem tru_imp {e : Expr} (hK : X.K = G.K) {σ : L2.St} {H : Hp} {Q : Bool → Hp → Prop} (h : tG G W RB (tru fa) σ H Q) : tG G W (RD G) fa σ H (fun x H' => ∃ k, TruV X.K x H' k ∧ Q k H') := by
  obtain ⟨O, env, R, t⟩ := h
  obtain ⟨O1, env1, R1, r1, e1, p1⟩ := bindL (RV := RD G) R t
  refine ⟨O1, env1, R1, r1, e1, p1.mono fun x H2 ⟨dx, env2, O2, R2, s2, rx, t2⟩ => ?_⟩
  obtain ⟨b, eb, q⟩ := t2.optAt
  rw [hK]
  exact ⟨b, truD_S rx eb, q _ O2 H2 R2 Step.refl rfl⟩
/-- any expression as a test, by its truth -/
theorem sb_tru {e : Expr} (hK : X.K = G.K) (h : SD X G W e fa) (he : ∀ whole, isTrue e X.env whole = (do let v ← whole; standAt e.pos; holding [v] (truthy v)) := by intro _; rfl) : SB X G W e (tru fa) :=
  PT.imp (pt_truth h he) fun _ _ _ => tru_imp (e := e) hK
/-- a comparison as a test -/
def cmpB (fa fb : M D) (g : D → D → Option Vl) : M Bool := fa.bnd fun x => fb.bnd fun y => M.opt (match g x y with
  | some (.d (.bool b)) => some b
  | _ => none)
theorem sb_cmp {a b : Expr} {fb : M D} {g : D → D → Option Vl} {r : R2} {op : CmpOp} {pos : Pos} (hK : X.K = G.K) (ho : OpR X (compareOp op) r) (s : OpS X.K r g) (hm : behindInMarks op b = false) (ha : SD X G W a fa) (hb : SD X G W b fb) : SB X G W (.Compare a [op] [b] pos) (cmpB fa fb g) := by
  refine PT.imp (pt_cmpR ho ha hb hm) fun σ H Q ⟨O, env, R, t⟩ => ?_
  obtain ⟨O1, env1, R1, r1, e1, p1⟩ := bindL (RV := RD G) R t
  refine ⟨O1, env1, R1, r1, e1, p1.mono fun x H2 ⟨dx, env2, O2, R2, s2, rx, t2⟩ => ?_⟩
  obtain ⟨O3, env3, R3, r3, e3, p3⟩ := bindL (RV := RD G) R2 t2
  refine ⟨O3, env3, R3, r3, e3, p3.mono fun y H4 ⟨dy, env4, O4, R4, s4, ry, t4⟩ => ?_⟩
  obtain ⟨c, e, q⟩ := t4.optAt
  split at e
  · rename_i c' hg
    cases e
    rw [hK] at s
    refine s O4 H4 x y dx dy _ _ R4.ol (Rp.step s4 dx x rx) ry hg fun v H5 g5 rv => ?_
    have rv' : Rp G.K O4 H5 (.bool c) v := rv
    exact ⟨c, rv'.bl_inv, q c O4 H5 (R4.grow g5) g5.step rfl⟩
  · cases e
def andB (f g : M Bool) : M Bool := f.bnd fun b => if b = true then g else M.ret false
def orB (f g : M Bool) : M Bool := f.bnd fun b => if b = true then M.ret true else g
def notB (f : M Bool) : M Bool := f.bnd fun b => M.ret (!b)
variable {f g : M Bool}
/-- a test that stands within and, or -/
def SW (X : Cx) (G : Gd) (W : WX) (e : Expr) (f : M Bool) : Prop := PW X e (tG G W RB f)
theorem PW.imp {e : Expr} {t u : TT} (h : PW X e t) (q : ∀ σ H Q, u σ H Q → t σ H Q) : PW X e u := ⟨fun wh pins s σ H Q I hu => h.run wh pins s σ H Q I (q σ H Q hu)⟩
theorem sw_b {e : Expr} (h : SW X G W e f) : SB X G W e f := L2.PW.pt h
theorem sw_and1 {a : Expr} {pos : Pos} (h : SB X G W a f) : SW X G W (.BoolOp .And [a] pos) f := pw_and1 h
theorem sw_or1 {a : Expr} {pos : Pos} (h : SB X G W a f) : SW X G W (.BoolOp .Or [a] pos) f := pw_or1 h
theorem sw_and {a b : Expr} {rest : List Expr} {pos : Pos} (h : SB X G W a f) (h' : SW X G W (.BoolOp .And (b :: rest) pos) g) : SW X G W (.BoolOp .And (a :: b :: rest) pos) (andB f g) := by
  refine PW.imp (pw_and h h') fun σ H Q ⟨O, env, R, t⟩ => ?_
  obtain ⟨O1, env1, R1, r1, e1, p1⟩ := bindL (RV := RB) R t
  refine ⟨O1, env1, R1, r1, e1, p1.mono fun c H2 ⟨c', env2, O2, R2, s2, rc, t2⟩ => ?_⟩
  have rc' : c' = c := rc
  subst rc'
  cases c' with
  | true => exact ⟨O2, env2, R2, t2⟩
  | false => exact tAt.ret (RV := RB) t2 R2 rfl
theorem sw_or {a b : Expr} {rest : List Expr} {pos : Pos} (h : SB X G W a f) (h' : SW X G W (.BoolOp .Or (b :: rest) pos) g) : SW X G W (.BoolOp .Or (a :: b :: rest) pos) (orB f g) := by
  refine PW.imp (pw_or h h') fun σ H Q ⟨O, env, R, t⟩ => ?_
  obtain ⟨O1, env1, R1, r1, e1, p1⟩ := bindL (RV := RB) R t
  refine ⟨O1, env1, R1, r1, e1, p1.mono fun c H2 ⟨c', env2, O2, R2, s2, rc, t2⟩ => ?_⟩
  have rc' : c' = c := rc
  subst rc'
  cases c' with
  | true => exact tAt.ret (RV := RB) t2 R2 rfl
  | false => exact ⟨O2, env2, R2, t2⟩
theorem sb_not {a : Expr} {pos : Pos} (h : SB X G W a f) : SB X G W (.UnaryOp .Not a pos) (notB f) := by
  refine PT.imp (pt_not h) fun σ H Q ⟨O, env, R, t⟩ => ?_
  obtain ⟨O1, env1, R1, r1, e1, p1⟩ := bindL (RV := RB) R t
  refine ⟨O1, env1, R1, r1, e1, p1.mono fun c H2 ⟨c', env2, O2, R2, s2, rc, t2⟩ => ?_⟩
  have rc' : c' = c := rc
  subst rc'
  exact tAt.ret (RV := RB) t2 R2 rfl
/-- and, or, not as values -/
def andV (f g : M D) : M D := f.bnd fun d => (M.opt (truD d)).bnd fun b => if b = true then g else M.ret d
def orV (f g : M D) : M D := f.bnd fun d => (M.opt (truD d)).bnd fun b => if b = true then M.ret d else g
def notV (f : M D) : M D := f.bnd fun d => M.opt ((truD d).map fun b => .bool (!b))
variable {fb : M D}
theorem optBind {α γ δ : Type} {RV : RVT γ δ} {o : Option α} {k : α → M γ} {O : Own} {env : SEnv} {σ : L2.St} {H : Hp} {Q : δ → Hp → Prop} (t : tAt G W RV ((M.opt o).bnd k) O env σ H Q) : ∃ a, o = some a ∧ tAt G W RV (k a) O env σ H Q := by
  obtain ⟨r, e, p⟩ := t
  unfold M.bnd M.opt at e
  cases o with
  | none => cases e
  | some a => exact ⟨a, rfl, r, e, p⟩
theorem sd_one {op : BoolOp} {a : Expr} {pos : Pos} (h : SD X G W a fa) : SD X G W (.BoolOp op [a] pos) fa := pe_one h
theorem sd_and {a b : Expr} {rest : List Expr} {pos : Pos} (hK : X.K = G.K) (h : SD X G W a fa) (h' : SD X G W (.BoolOp .And (b :: rest) pos) fb) : SD X G W (.BoolOp .And (a :: b :: rest) pos) (andV fa fb) := by
  refine PE.imp (pe_andT h h') fun σ H Q ⟨O, env, R, t⟩ => ?_
  obtain ⟨O1, env1, R1, r1, e1, p1⟩ := bindL (RV := RD G) R t
  refine ⟨O1, env1, R1, r1, e1, p1.mono fun x H2 ⟨dx, env2, O2, R2, s2, rx, t2⟩ => ?_⟩
  obtain ⟨b, eb, t3⟩ := optBind t2
  refine ⟨b, by rw [hK]; exact truD_S rx eb, ?_⟩
  cases b with
  | true => exact ⟨O2, env2, R2, t3⟩
  | false => exact tAt.ret (RV := RD G) t3 R2 rx
theorem sd_or {a b : Expr} {rest : List Expr} {pos : Pos} (hK : X.K = G.K) (h : SD X G W a fa) (h' : SD X G W (.BoolOp .Or (b :: rest) pos) fb) : SD X G W (.BoolOp .Or (a :: b :: rest) pos) (orV fa fb) := by
  refine PE.imp (pe_orT h h') fun σ H Q ⟨O, env, R, t⟩ => ?_
  obtain ⟨O1, env1, R1, r1, e1, p1⟩ := bindL (RV := RD G) R t
  refine ⟨O1, env1, R1, r1, e1, p1.mono fun x H2 ⟨dx, env2, O2, R2, s2, rx, t2⟩ => ?_⟩
  obtain ⟨b, eb, t3⟩ := optBind t2
  refine ⟨b, by rw [hK]; exact truD_S rx eb, ?_⟩
  cases b with
  | true => exact tAt.ret (RV := RD G) t3 R2 rx
  | false => exact ⟨O2, env2, R2, t3⟩
theorem sd_not {a : Expr} {pos : Pos} (hK : X.K = G.K) (h : SD X G W a fa) : SD X G W (.UnaryOp .Not a pos) (notV fa) := by
  refine PE.imp (pe_notT h) fun σ H Q ⟨O, env, R, t⟩ => ?_
  obtain ⟨O1, env1, R1, r1, e1, p1⟩ := bindL (RV := RD G) R t
  refine ⟨O1, env1, R1, r1, e1, p1.mono fun x H2 ⟨dx, env2, O2, R2, s2, rx, t2⟩ => ?_⟩
  obtain ⟨d, ed, q⟩ := t2.optAt
  cases hb : truD dx with
  | none => rw [hb] at ed; cases ed
  | some b =>
    rw [hb] at ed; cases ed
    exact ⟨b, by rw [hK]; exact truD_S rx hb, q _ O2 H2 R2 Step.refl Rp.bl'⟩
def ifM {α : Type} (c : M Bool) (f g : M α) : M α := c.bnd fun b => if b = true then f else g
theorem sd_if {c a b : Expr} {pos : Pos} (hc : SB X G W c f) (ha : SD X G W a fa) (hb : SD X G W b fb) : SD X G W (.IfExp c a b pos) (ifM f fa fb) := by
  refine PE.imp (pe_ifExp hc ha hb) fun σ H Q ⟨O, env, R, t⟩ => ?_
  obtain ⟨O1, env1, R1, r1, e1, p1⟩ := bindL (RV := RB) R t
  refine ⟨O1, env1, R1, r1, e1, p1.mono fun c H2 ⟨c', env2, O2, R2, s2, rc, t2⟩ => ?_⟩
  have rc' : c' = c := rc
  subst rc'
  cases c' with
  | true => exact ⟨O2, env2, R2, t2⟩
  | false => exact ⟨O2, env2, R2, t2⟩
theorem sv_if {c a b : Expr} {pos : Pos} {fa fb : M Vl} (hc : SB X G W c f) (ha : SV X G W a fa) (hb : SV X G W b fb) : SV X G W (.IfExp c a b pos) (ifM f fa fb) := by
  refine PE.imp (pe_ifExp hc ha hb) fun σ H Q ⟨O, env, R, t⟩ => ?_
  obtain ⟨O1, env1, R1, r1, e1, p1⟩ := bindL (RV := RB) R t
  refine ⟨O1, env1, R1, r1, e1, p1.mono fun c H2 ⟨c', env2, O2, R2, s2, rc, t2⟩ => ?_⟩
  have rc' : c' = c := rc
  subst rc'
  cases c' with
  | true => exact ⟨O2, env2, R2, t2⟩
  | false => exact ⟨O2, env2, R2, t2⟩
end

/-! ### constants, argument lists, displays -/
section
variable {X : Cx} {G : Gd} {W : WX} {pos : Pos} {j : Nat}
theorem sd_const {e : Expr} {v : V} {d : D} (h : PE X e (tC v)) (r : ∀ O H, Rp G.K O H d v) : SD X G W e (M.ret d) := PE.imp h fun σ H Q ⟨O, env, R, t⟩ => tAt.ret (RV := RD G) t R (r O H)
theorem sd_int {i : Int} : SD X G W (.Constant (.int i) j pos) (M.ret (.int i)) := sd_const pe_int fun _ _ => Rp.int'
theorem sd_bl {b : Bool} : SD X G W (.Constant (.bool b) j pos) (M.ret (.bool b)) := sd_const pe_bl fun _ _ => Rp.bl'
theorem sd_str {x : Str} : SD X G W (.Constant (.str x) j pos) (M.ret (.str x)) := sd_const pe_str fun _ _ => Rp.str'
theorem sd_non : SD X G W (.Constant .none j pos) (M.ret .none) := sd_const pe_non fun _ _ => Rp.non'
def consA (f : M D) (g : M (List D)) : M (List D) := f.bnd fun d => g.bnd fun ds => M.ret (d :: ds)
theorem sa_nil : SA X G W [] (M.ret []) := PA.imp pa_nil fun σ H Q ⟨O, env, R, t⟩ => tAt.ret (RV := RA G) t R (by show RpAll _ _ _ [] []; simp only [RpAll])
theorem sa_cons {e : Expr} {es : List Expr} {f : M D} {g : M (List D)} (h : SD X G W e f) (h' : SA X G W es g) (hs : starEach (e :: es) X.env = (false, eval e X.env) :: starEach es X.env := by rfl) : SA X G W (e :: es) (consA f g) := by
  refine PA.imp (pa_cons h h' hs) fun σ H Q ⟨O, env, R, t⟩ => ?_
  obtain ⟨O1, env1, R1, r1, e1, p1⟩ := bindL (RV := RD G) R t
  refine ⟨O1, env1, R1, r1, e1, p1.mono fun x H2 ⟨dx, env2, O2, R2, s2, rx, t2⟩ => ?_⟩
  obtain ⟨O3, env3, R3, r3, e3, p3⟩ := bindL (RV := RA G) R2 t2
  refine ⟨O3, env3, R3, r3, e3, p3.mono fun xs H4 ⟨ds, env4, O4, R4, s4, rxs, t4⟩ => ?_⟩
  refine tAt.ret (RV := RA G) t4 R4 ?_
  show RpAll G.K O4 H4 (dx :: ds) (x :: xs)
  simp only [RpAll]
  exact ⟨Rp.step s4 dx x rx, rxs⟩
def tupM (f : M (List D)) : M D := f.bnd fun ds => M.opt (if ds.length ≤ sizeLine then some (.tuple ds) else none)
def lstM (f : M (List D)) : M Vl := f.bnd fun ds => M.opt (if ds.length ≤ sizeLine then some (.own ds) else none)
theorem sd_tup {es : List Expr} {x1 : Nat} {f : M (List D)} (h : SA X G W es f) : SD X G W (.Tuple es x1 pos) (tupM f) := by
  refine PE.imp (pe_tup h) fun σ H Q ⟨O, env, R, t⟩ => ?_
  obtain ⟨O1, env1, R1, r1, e1, p1⟩ := bindL (RV := RA G) R t
  refine ⟨O1, env1, R1, r1, e1, p1.mono fun xs H2 ⟨ds, env2, O2, R2, s2, rx, t2⟩ => ?_⟩
  obtain ⟨d, ed, q⟩ := t2.optAt
  split at ed
  · rename_i hz
    cases ed
    have rx' : RpAll G.K O2 H2 ds xs := rx
    refine ⟨by rw [← rx'.length]; exact hz, fun p hp => ?_⟩
    refine VQ.tup (K := G.K) (O := O2) (Q := Q) R2.ol (fun v H' g r => q v O2 H' (R2.grow g) g.step r) rx' hp
  · cases ed
theorem sv_lst {es : List Expr} {f : M (List D)} (h : SA X G W es f) : SV X G W (.List es pos) (lstM f) := by
  refine PE.imp (pe_lst h) fun σ H Q ⟨O, env, R, t⟩ => ?_
  obtain ⟨O1, env1, R1, r1, e1, p1⟩ := bindL (RV := RA G) R t
  refine ⟨O1, env1, R1, r1, e1, p1.mono fun xs H2 ⟨ds, env2, O2, R2, s2, rx, t2⟩ => ?_⟩
  obtain ⟨d, ed, q⟩ := finOp R2 t2
  split at ed
  · rename_i hz
    cases ed
    have rx' : RpAll G.K O2 H2 ds xs := rx
    exact ⟨by rw [← rx'.length]; exact hz, fun p hp => q.lst rx' hp⟩
  · cases ed
theorem sd_dict0 : SD X G W (.Dict [] [] pos) (M.ret (.dict [])) := by
  refine PE.imp pe_dnewK fun σ H Q ⟨O, env, R, t⟩ => ?_
  intro p hp
  refine tAt.retAt (RV := RD G) t (R.grow (Grow.upd hp)) (Grow.upd hp).step ?_
  show Rp G.K O _ (.dict []) (.ref p)
  simp only [Rp, RpKv]
  exact ⟨p, [], rfl, upd_same, fun z => R.ol p z hp, True.intro⟩
end
end PV

/-! PV5: where one stands; names; the built-in functions. -/
namespace PV
open PySem PySem.Spec PyProof.Rows L2

structure Wo where
  P : Program
  w : World
  base : Heap
  mg : Str → Option Value
  K : PySem.W.Frag
  cls : Nat → Addr
/-- what stands for sys.modules is no list -/
def SysOk (K : PySem.W.Frag) : Prop := ∃ o : Obj, K.lookup sysModules = some o ∧ ∀ vs n, o.data ≠ .seq vs n
/-- where one stands: the names, the scope, whether in a block, room for k calls -/
structure At0 (X : Cx) (G : Gd) (N : List Str) (sc : Scope) (blk : Bool) (M : Wo) : Prop where
  hN : X.N = N
  nd : N.Nodup
  hsc : X.env.scope = sc
  fn : blk = false → ∀ x, X.fn x = true
  gd : X.A.guards = some []
  hK : X.K = G.K
  hmg : X.mg = M.mg
  hP : X.prog = M.P
  hw : X.w = M.w
  hb : X.base = M.base
  gK : G.K = M.K
  gc : G.cls = M.cls
  stk : blk = false → X.stack = X.env :: X.outer ∧ X.env.frame = some X.env.locals
  ex0 : blk = false → X.ex = []
  sys : SysOk M.K
/-- .. and no exception is handled -/
structure At (X : Cx) (G : Gd) (W : WX) (N : List Str) (sc : Scope) (blk : Bool) (k : Nat) (M : Wo) : Prop extends At0 X G N sc blk M where
  calm : X.calm = true
  tk : Takes X W
  pass : PassesOwn (model X.prog X.w) X.A X.env X.xe
  room : Room k X.A

section
variable {G : Gd} {O O' : Own} {H H' : Hp} {σ σ' : L2.St} {env : SEnv}
theorem set_some {α : Type} {l : List (Option α)} {i j : Nat} {a b : α} (h : (l.set i (some a))[j]? = some (some b)) : (j = i ∧ a = b) ∨ (j ≠ i ∧ l[j]? = some (some b)) := by
  by_cases e : i = j
  · subst e
    by_cases hl : i < l.length
    · rw [List.getElem?_set_self hl] at h
      cases h
      exact .inl ⟨rfl, rfl⟩
    · rw [List.getElem?_eq_none (by simpa using hl)] at h; cases h
  · rw [List.getElem?_set_ne e] at h
    exact .inr ⟨fun z => e z.symm, h⟩
theorem set_none {α : Type} {l : List (Option α)} {i j : Nat} {b : α} (h : (l.set i none)[j]? = some (some b)) : j ≠ i ∧ l[j]? = some (some b) := by
  by_cases e : i = j
  · subst e
    by_cases hl : i < l.length
    · rw [List.getElem?_set_self hl] at h; cases h
    · rw [List.getElem?_eq_none (by simpa using hl)] at h; cases h
  · rw [List.getElem?_set_ne e] at h
    exact ⟨fun z => e z.symm, h⟩
theorem OwnAt.of_drop {i j : Nat} (h : OwnAt (env.set i none) j) : j ≠ i ∧ OwnAt env j := by
  rcases h with ⟨xs, h⟩ | ⟨xs, h⟩
  · exact ⟨(set_none h).1, .inl ⟨xs, (set_none h).2⟩⟩
  · exact ⟨(set_none h).1, .inr ⟨xs, (set_none h).2⟩⟩
/-- slot i is emptied; what the name holds may be anything -/
theorem Rel.drop (R : Rel G O H σ env) {i : Nat} (nm : ∀ xs : List D, env[i]? ≠ some (some (Sl.mu xs))) (hl : σ'.length = σ.length) (hs : ∀ j, j ≠ i → σ'[j]? = σ[j]?) : Rel G O H σ' (env.set i none) where
  len := by rw [List.length_set, hl]; exact R.len
  ol := R.ol
  fr := R.fr
  oc := R.oc
  val := fun j x e => by
    obtain ⟨n, e⟩ := set_none e
    rw [hs j n]
    exact R.val j x e
  exv := fun j x e => by
    obtain ⟨n, e⟩ := set_none e
    rw [hs j n]
    exact R.exv j x e
  own := fun j xs e => by
    obtain ⟨n, e⟩ := set_none e
    rw [hs j n]
    exact R.own j xs e
  muA := fun j xs e => R.muA j xs (set_none e).2
  mst := fun j p hp => by
    obtain ⟨xs, vs, e, r⟩ := R.mst j p hp
    have n : j ≠ i := fun z => nm xs (by rw [← z]; exact e)
    rw [hs j n, List.getElem?_set_ne (Ne.symm n)]
    exact ⟨xs, vs, e, r⟩
  inj := fun a b p n h1 h2 e1 e2 => by
    obtain ⟨n1, h1⟩ := h1.of_drop
    obtain ⟨n2, h2⟩ := h2.of_drop
    rw [hs a n1] at e1
    rw [hs b n2] at e2
    exact R.inj a b p n h1 h2 e1 e2
theorem OwnAt.of_setD {i j : Nat} {x : D} (h : OwnAt (env.set i (some (.d x))) j) : OwnAt env j ∧ j ≠ i := by
  rcases h with ⟨xs, h⟩ | ⟨xs, h⟩
  · rcases set_some h with ⟨_, z⟩ | ⟨n, h⟩
    · cases z
    · exact ⟨.inl ⟨xs, h⟩, n⟩
  · rcases set_some h with ⟨_, z⟩ | ⟨n, h⟩
    · cases z
    · exact ⟨.inr ⟨xs, h⟩, n⟩
/-- an empty slot gets a tree -/
theorem Rel.putD (R : Rel G O H σ env) {i : Nat} {x : D} {v : V} (nm : ∀ xs : List D, env[i]? ≠ some (some (Sl.mu xs))) (hv : σ[i]? = some (some v)) (r : Rp G.K O H x v) : Rel G O H σ (env.set i (some (.d x))) where
  len := by rw [List.length_set]; exact R.len
  ol := R.ol
  fr := R.fr
  oc := R.oc
  val := fun j y e => by
    rcases set_some e with ⟨rfl, z⟩ | ⟨n, e⟩
    · cases z; exact ⟨v, hv, r⟩
    · exact R.val j y e
  exv := fun j y e => by
    rcases set_some e with ⟨rfl, z⟩ | ⟨n, e⟩
    · cases z
    · exact R.exv j y e
  own := fun j xs e => by
    rcases set_some e with ⟨rfl, z⟩ | ⟨n, e⟩
    · cases z
    · exact R.own j xs e
  muA := fun j xs e => by
    rcases set_some e with ⟨rfl, z⟩ | ⟨n, e⟩
    · cases z
    · exact R.muA j xs e
  mst := fun j p hp => by
    obtain ⟨xs, vs, e, r⟩ := R.mst j p hp
    have n : j ≠ i := fun z => nm xs (by rw [← z]; exact e)
    rw [List.getElem?_set_ne (Ne.symm n)]
    exact ⟨xs, vs, e, r⟩
  inj := fun a b p n h1 h2 e1 e2 => R.inj a b p n h1.of_setD.1 h2.of_setD.1 e1 e2
theorem OwnAt.of_setX {i j : Nat} {x : Exn} (h : OwnAt (env.set i (some (.x x))) j) : OwnAt env j ∧ j ≠ i := by
  rcases h with ⟨xs, h⟩ | ⟨xs, h⟩
  · rcases set_some h with ⟨_, z⟩ | ⟨n, h⟩
    · cases z
    · exact ⟨.inl ⟨xs, h⟩, n⟩
  · rcases set_some h with ⟨_, z⟩ | ⟨n, h⟩
    · cases z
    · exact ⟨.inr ⟨xs, h⟩, n⟩
/-- an empty slot gets an exception -/
theorem Rel.putX (R : Rel G O H σ env) {i : Nat} {x : Exn} {v : V} (nm : ∀ xs : List D, env[i]? ≠ some (some (Sl.mu xs))) (hv : σ[i]? = some (some v)) (r : XR G.K G.cls O H x v) : Rel G O H σ (env.set i (some (.x x))) where
  len := by rw [List.length_set]; exact R.len
  ol := R.ol
  fr := R.fr
  oc := R.oc
  val := fun j y e => by
    rcases set_some e with ⟨rfl, z⟩ | ⟨n, e⟩
    · cases z
    · exact R.val j y e
  exv := fun j y e => by
    rcases set_some e with ⟨rfl, z⟩ | ⟨n, e⟩
    · cases z; exact ⟨v, hv, r⟩
    · exact R.exv j y e
  own := fun j xs e => by
    rcases set_some e with ⟨rfl, z⟩ | ⟨n, e⟩
    · cases z
    · exact R.own j xs e
  muA := fun j xs e => by
    rcases set_some e with ⟨rfl, z⟩ | ⟨n, e⟩
    · cases z
    · exact R.muA j xs e
  mst := fun j p hp => by
    obtain ⟨xs, vs, e, r⟩ := R.mst j p hp
    have n : j ≠ i := fun z => nm xs (by rw [← z]; exact e)
    rw [List.getElem?_set_ne (Ne.symm n)]
    exact ⟨xs, vs, e, r⟩
  inj := fun a b p n h1 h2 e1 e2 => R.inj a b p n h1.of_setX.1 h2.of_setX.1 e1 e2
/-- an empty slot gets a list of its own -/
theorem Rel.putOwn (R : Rel G O H σ env) {i : Nat} {xs : List D} {p : Addr} {vs : List V} (nm : env[i]? = some none) (hv : σ[i]? = some (some (V.ref p))) (h1 : H p = some (.lst vs)) (ra : RpAll G.K O H xs vs) (o1 : O p) (h0 : G.H0 p = none)
    (n : ∀ j : Nat, OwnAt env j → σ[j]? ≠ some (some (V.ref p))) : Rel G O H σ (env.set i (some (.own xs))) where
  len := by rw [List.length_set]; exact R.len
  ol := R.ol
  fr := R.fr
  oc := R.oc
  val := fun j y e => by
    rcases set_some e with ⟨rfl, z⟩ | ⟨n, e⟩
    · cases z
    · exact R.val j y e
  exv := fun j y e => by
    rcases set_some e with ⟨rfl, z⟩ | ⟨n, e⟩
    · cases z
    · exact R.exv j y e
  own := fun j ys e => by
    rcases set_some e with ⟨rfl, z⟩ | ⟨n, e⟩
    · cases z; exact ⟨p, vs, hv, h1, ra, o1, h0⟩
    · exact R.own j ys e
  muA := fun j xs e => by
    rcases set_some e with ⟨rfl, z⟩ | ⟨n, e⟩
    · cases z
    · exact R.muA j xs e
  mst := fun j q hq => by
    obtain ⟨ys, ws, e, r⟩ := R.mst j q hq
    have n : j ≠ i := fun z => by rw [z, nm] at e; cases e
    rw [List.getElem?_set_ne (Ne.symm n)]
    exact ⟨ys, ws, e, r⟩
  inj := fun a b q nab h1 h2 e1 e2 => by
    have key : ∀ {j : Nat}, OwnAt (env.set i (some (.own xs))) j → j = i ∨ (j ≠ i ∧ OwnAt env j) := fun {j} h => by
      rcases h with ⟨ys, h⟩ | ⟨ys, h⟩
      · rcases set_some h with ⟨e, _⟩ | ⟨m, h⟩
        · exact .inl e
        · exact .inr ⟨m, .inl ⟨ys, h⟩⟩
      · rcases set_some h with ⟨_, z⟩ | ⟨m, h⟩
        · cases z
        · exact .inr ⟨m, .inr ⟨ys, h⟩⟩
    rcases key h1 with rfl | ⟨m1, k1⟩ <;> rcases key h2 with rfl | ⟨m2, k2⟩
    · exact nab rfl
    · rw [hv] at e1; cases e1
      exact n b k2 e2
    · rw [hv] at e2; cases e2
      exact n a k1 e1
    · exact R.inj a b q nab k1 k2 e1 e2

/-! ### names -/
def rdM (i : Nat) : M D := fun env => match env[i]? with
  | some (some (.d x)) => some (.ok x, env)
  | some (some (.own xs)) => some (.ok (.list xs), env.set i (some (.d (.list xs))))
  | _ => none
/-- the name is given away (return x) -/
def mvM (i : Nat) : M Vl := fun env => match env[i]? with
  | some (some (.d x)) => some (.ok (.d x), env)
  | some (some (.own xs)) => some (.ok (.own xs), env.set i none)
  | _ => none
theorem set_again {α : Type} {l : List α} {i : Nat} {a b : α} : (l.set i a).set i b = l.set i b := by simp
theorem Rel.freeze (R : Rel G O H σ env) {i : Nat} {xs : List D} (e : env[i]? = some (some (Sl.own xs))) : ∃ (p : Addr) (O' : Own), σ[i]? = some (some (V.ref p)) ∧ Rel G O' H σ (env.set i (some (.d (.list xs)))) ∧ Step O H O' H ∧ Rp G.K O' H (.list xs) (.ref p) := by
  obtain ⟨p, vs, e1, h1, ra, o1, h0⟩ := R.own i xs e
  have R1 : Rel G O H σ (env.set i none) := R.drop (fun ys z => by rw [e] at z; cases z) rfl fun _ _ => rfl
  have hi : i < env.length := (List.getElem?_eq_some_iff.mp e).1
  obtain ⟨R2, s⟩ := R1.letGo h0 fun j hj ej => by
    obtain ⟨n, hj⟩ := hj.of_drop
    exact R.inj j i p n hj (.inl ⟨xs, e⟩) ej e1
  have rp : Rp G.K (fun a => O a ∧ a ≠ p) H (.list xs) (.ref p) := by
    simp only [Rp]
    exact ⟨p, vs, rfl, .inl ⟨.inl h1, fun z => z.2 rfl⟩, RpAll.step s xs vs ra⟩
  have R3 := R2.putD (i := i) (x := .list xs) (v := .ref p) (fun ys z => by rw [List.getElem?_set_self hi] at z; cases z) e1 rp
  rw [set_again] at R3
  exact ⟨p, _, e1, R3, s, rp⟩
end

section
variable {X : Cx} {G : Gd} {W : WX} {N : List Str} {sc : Scope} {blk : Bool} {k : Nat} {Mo : Wo} {pos : Pos}
theorem sd_name (A : At0 X G N sc blk Mo) (i : Nat) {x : Str} (hi : N[i]? = some x := by rfl) (hv : Vis sc x := by first | exact Or.inl rfl | exact Or.inr (Or.inl rfl) | exact Or.inr (Or.inr rfl)) (hd : (x == ("__debug__" : Str)) = false := by decide) (hcd : (x == ("__classdict__" : Str)) = false := by decide) : SD X G W (.Name x pos) (rdM i) := by
  refine PE.imp (pe_var (i := i) (by rw [A.hN]; exact hi) (by rw [A.hsc]; exact hv) hd hcd) fun σ H Q ⟨O, env, R, r, e, p⟩ => ?_
  unfold rdM at e
  split at e
  · rename_i x h
    cases e
    obtain ⟨v, e1, rv⟩ := R.val i x h
    exact ⟨v, e1, p v O H R Step.refl rv⟩
  · rename_i xs h
    cases e
    obtain ⟨q, O', e1, R', s, rp⟩ := R.freeze h
    exact ⟨_, e1, p _ O' H R' s rp⟩
  · cases e
theorem sv_move (A : At0 X G N sc blk Mo) (i : Nat) {x : Str} (hi : N[i]? = some x := by rfl) (hv : Vis sc x := by first | exact Or.inl rfl | exact Or.inr (Or.inl rfl) | exact Or.inr (Or.inr rfl)) (hd : (x == ("__debug__" : Str)) = false := by decide) (hcd : (x == ("__classdict__" : Str)) = false := by decide) : SV X G W (.Name x pos) (mvM i) := by
  refine PE.imp (pe_var (i := i) (by rw [A.hN]; exact hi) (by rw [A.hsc]; exact hv) hd hcd) fun σ H Q ⟨O, env, R, r, e, p⟩ => ?_
  unfold mvM at e
  split at e
  · rename_i x h
    cases e
    obtain ⟨v, e1, rv⟩ := R.val i x h
    exact ⟨v, e1, p v O H R Step.refl rv⟩
  · rename_i xs h
    cases e
    obtain ⟨q, vs, e1, h1, ra, o1, h0⟩ := R.own i xs h
    refine ⟨_, e1, p _ O H (R.drop (fun ys z => by rw [h] at z; cases z) rfl fun _ _ => rfl) Step.refl ⟨q, vs, rfl, h1, ra, o1, h0, fun j hj ej => ?_⟩⟩
    obtain ⟨n, hj⟩ := hj.of_drop
    exact R.inj j i q n hj (.inl ⟨xs, h⟩) ej e1
  · cases e
/-- a constant of the module -/
theorem sd_glob (A : At0 X G N sc blk Mo) {x : Str} {v : V} {u : Value} {d : D} (hg : sc.names.lookup x = some .globalImplicit) (hm : Mo.mg x = some u) (r : RelV v u) (rp : ∀ O H, Rp G.K O H d v) (hd : (x == ("__debug__" : Str)) = false := by decide) : SD X G W (.Name x pos) (M.ret d) :=
  sd_const (pe_glob (by show X.env.scope.names.lookup x = _; rw [A.hsc]; exact hg) (by rw [A.hmg]; exact hm) r hd) rp

/-! ### the built-in functions -/
def calM (f : M (List D)) (g : List D → Option Vl) : M Vl := f.bnd fun ds => M.opt (g ds)
variable {x : Str} {p : Pos} {e : Expr} {es : List Expr} {f : M (List D)} {g : List D → Option Vl} {id T : String} {r : List V → Hp → VK → Prop}
theorem tCB_imp (A : At X G W N sc blk k Mo) (s : CaS X.K r g) {σ : L2.St} {H : Hp} {Q : VK} (h : tG G W (RL G) (calM f g) σ H Q) : tCB r (tG G W (RA G) f) σ H Q := by
  obtain ⟨O, env, R, t⟩ := h
  obtain ⟨O1, env1, R1, r1, e1, p1⟩ := bindL (RV := RA G) R t
  refine ⟨O1, env1, R1, r1, e1, p1.mono fun xs H2 ⟨ds, env2, O2, R2, s2, rx, t2⟩ => ?_⟩
  obtain ⟨vl, ev, q⟩ := finOp R2 t2
  rw [A.hK] at s
  exact s O2 H2 xs ds vl Q R2.ol rx ev q
theorem sv_callB (A : At X G W N sc blk k Mo) (hc : CallR X (.builtin id) r) (s : CaS X.K r g) (hg : sc.names.lookup x = some .globalImplicit) (hm : Mo.mg x = none) (hv : bootBuiltins x = some (.builtin id)) (ha : SA X G W (e :: es) f) (hn : x ≠ "__name__" := by decide) (hdb : (x == ("__debug__" : Str)) = false := by decide)
    (he : starEach (e :: es) X.env = (false, eval e X.env) :: starEach es X.env := by rfl) (hpl : (backTo pos (starEach es X.env)).any (·.1) = false := by rfl) : SV X G W (.Call (.Name x p) (e :: es) [] pos) (calM f g) :=
  PE.imp (pe_callB hc (by show X.env.scope.names.lookup x = _; rw [A.hsc]; exact hg) (by rw [A.hmg]; exact hm) hv ha hn hdb he hpl) fun _ _ _ => tCB_imp A s
theorem sv_callTy (A : At X G W N sc blk k Mo) (hc : CallR X (.type T) r) (s : CaS X.K r g) (hg : sc.names.lookup x = some .globalImplicit) (hm : Mo.mg x = none) (hv : bootBuiltins x = some (.type T)) (ha : SA X G W (e :: es) f) (hn : x ≠ "__name__" := by decide) (hdb : (x == ("__debug__" : Str)) = false := by decide)
    (he : starEach (e :: es) X.env = (false, eval e X.env) :: starEach es X.env := by rfl) (hpl : (backTo pos (starEach es X.env)).any (·.1) = false := by rfl) : SV X G W (.Call (.Name x p) (e :: es) [] pos) (calM f g) :=
  PE.imp (pe_callTy hc (by show X.env.scope.names.lookup x = _; rw [A.hsc]; exact hg) (by rw [A.hmg]; exact hm) hv ha hn hdb he hpl) fun _ _ _ => tCB_imp A s
end

section
variable {K : PySem.W.Frag} {X : Cx}
theorem RpAll.one {O : Own} {H : Hp} {d : D} {xs : List V} (h : RpAll K O H [d] xs) : ∃ v, xs = [v] ∧ Rp K O H d v := by
  match xs, h with
  | [v], h => simp only [RpAll] at h; exact ⟨v, rfl, h.1⟩
  | [], h => simp only [RpAll] at h
  | _ :: _ :: _, h => simp only [RpAll] at h; exact h.2.elim
theorem RpAll.two {O : Own} {H : Hp} {d e : D} {xs : List V} (h : RpAll K O H [d, e] xs) : ∃ v w, xs = [v, w] ∧ Rp K O H d v ∧ Rp K O H e w := by
  match xs, h with
  | [v, w], h => simp only [RpAll] at h; exact ⟨v, w, rfl, h.1, h.2.1⟩
  | [], h => simp only [RpAll] at h
  | [_], h => simp only [RpAll] at h; exact h.2.elim
  | _ :: _ :: _ :: _, h => simp only [RpAll] at h; exact h.2.2.elim
/-- len -/
def lenD : List D → Option Vl
  | [.list xs] => some (.d (.int xs.length))
  | [.tuple xs] => some (.d (.int xs.length))
  | [.str z] => if z.length ≤ sizeLine then some (.d (.int z.length)) else none
  | _ => none
theorem len_S : CaS K (fun xs H Q => (∃ p ys, xs = [.ref p] ∧ (SqL K H p ys ∨ SqT K H p ys) ∧ Q (.int ys.length) H) ∨ ∃ z, xs = [.str z] ∧ z.length ≤ sizeLine ∧ Q (.int z.length) H) lenD := by
  intro O H xs ds vl Q ol rx e q
  unfold lenD at e
  split at e
  · cases e
    obtain ⟨v, rfl, r⟩ := rx.one
    obtain ⟨a, ys, rfl, ra, qa⟩ := r.list_inv
    exact .inl ⟨a, ys, rfl, .inl ra.sq, by rw [← qa.length]; exact q.int⟩
  · cases e
    obtain ⟨v, rfl, r⟩ := rx.one
    obtain ⟨a, ys, rfl, ra, qa⟩ := r.tup_inv
    exact .inl ⟨a, ys, rfl, .inr ra.sq, by rw [← qa.length]; exact q.int⟩
  · split at e
    · rename_i hz
      cases e
      obtain ⟨v, rfl, r⟩ := rx.one
      exact .inr ⟨_, by rw [r.str_inv], hz, q.int⟩
    · cases e
  · cases e
theorem call_lenA : CallR X (.builtin "len") (fun xs H Q => (∃ p ys, xs = [.ref p] ∧ (SqL X.K H p ys ∨ SqT X.K H p ys) ∧ Q (.int ys.length) H) ∨ ∃ z, xs = [.str z] ∧ z.length ≤ sizeLine ∧ Q (.int z.length) H) := call_len_seq.or call_len_str
def absD : List D → Option Vl
  | [.int i] => some (.d (.int (if i < 0 then -i else i)))
  | _ => none
theorem abs_S : CaS K (fun xs H Q => ∃ i, xs = [.int i] ∧ Q (.int (if i < 0 then -i else i)) H) absD := by
  intro O H xs ds vl Q ol rx e q
  unfold absD at e
  split at e
  · cases e
    obtain ⟨v, rfl, r⟩ := rx.one
    exact ⟨_, by rw [r.int_inv], q.int⟩
  · cases e
def maxD : List D → Option Vl
  | [.int i, .int j] => some (.d (.int (if j > i then j else i)))
  | _ => none
def minD : List D → Option Vl
  | [.int i, .int j] => some (.d (.int (if j < i then j else i)))
  | _ => none
theorem max_S : CaS K (fun xs H Q => ∃ i j, xs = [.int i, .int j] ∧ Q (.int (if j > i then j else i)) H) maxD := by
  intro O H xs ds vl Q ol rx e q
  unfold maxD at e
  split at e
  · cases e
    obtain ⟨v, w, rfl, r, r'⟩ := rx.two
    exact ⟨_, _, by rw [r.int_inv, r'.int_inv], q.int⟩
  · cases e
theorem min_S : CaS K (fun xs H Q => ∃ i j, xs = [.int i, .int j] ∧ Q (.int (if j < i then j else i)) H) minD := by
  intro O H xs ds vl Q ol rx e q
  unfold minD at e
  split at e
  · cases e
    obtain ⟨v, w, rfl, r, r'⟩ := rx.two
    exact ⟨_, _, by rw [r.int_inv, r'.int_inv], q.int⟩
  · cases e
def intD : List D → Option Vl
  | [.int i] => some (.d (.int i))
  | [.bool k] => some (.d (.int (if k then 1 else 0)))
  | _ => none
theorem int_S : CaS K (fun xs H Q => (∃ i, xs = [.int i] ∧ Q (.int i) H) ∨ ∃ k, xs = [.bl k] ∧ Q (.int (if k then 1 else 0)) H) intD := by
  intro O H xs ds vl Q ol rx e q
  unfold intD at e
  split at e
  · cases e
    obtain ⟨v, rfl, r⟩ := rx.one
    exact .inl ⟨_, by rw [r.int_inv], q.int⟩
  · cases e
    obtain ⟨v, rfl, r⟩ := rx.one
    exact .inr ⟨_, by rw [r.bl_inv], q.int⟩
  · cases e
def listD : List D → Option Vl
  | [.list xs] => some (.own xs)
  | [.tuple xs] => some (.own xs)
  | _ => none
theorem list_S : CaS K (fun xs H Q => ∃ p ys, xs = [.ref p] ∧ (SqL K H p ys ∨ SqT K H p ys) ∧ ∀ l, H l = none → Q (.ref l) (upd H l (.lst ys))) listD := by
  intro O H xs ds vl Q ol rx e q
  unfold listD at e
  split at e
  · cases e
    obtain ⟨v, rfl, r⟩ := rx.one
    obtain ⟨a, ys, rfl, ra, qa⟩ := r.list_inv
    exact ⟨a, ys, rfl, .inl ra.sq, fun l hl => q.lst qa hl⟩
  · cases e
    obtain ⟨v, rfl, r⟩ := rx.one
    obtain ⟨a, ys, rfl, ra, qa⟩ := r.tup_inv
    exact ⟨a, ys, rfl, .inr ra.sq, fun l hl => q.lst qa hl⟩
  · cases e
def tupleD : List D → Option Vl
  | [.list xs] => some (.d (.tuple xs))
  | [.tuple xs] => some (.d (.tuple xs))
  | _ => none
theorem tuple_S : CaS K (fun xs H Q => ∃ p ys, xs = [.ref p] ∧ ((SqL K H p ys ∧ ∀ l, H l = none → Q (.ref l) (upd H l (.tup ys))) ∨ (SqT K H p ys ∧ Q (.ref p) H))) tupleD := by
  intro O H xs ds vl Q ol rx e q
  unfold tupleD at e
  split at e
  · cases e
    obtain ⟨v, rfl, r⟩ := rx.one
    obtain ⟨a, ys, rfl, ra, qa⟩ := r.list_inv
    exact ⟨a, ys, rfl, .inl ⟨ra.sq, fun l hl => q.tup ol qa hl⟩⟩
  · cases e
    obtain ⟨v, rfl, r⟩ := rx.one
    have r' := r
    obtain ⟨a, ys, rfl, ra, qa⟩ := r.tup_inv
    exact ⟨a, ys, rfl, .inr ⟨ra.sq, q.same r'⟩⟩
  · cases e

/-! ### isinstance of built-in types -/
def tyName : D → String
  | .none => "NoneType"
  | .bool _ => "bool"
  | .int _ => "int"
  | .str _ => "str"
  | .list _ => "list"
  | .tuple _ => "tuple"
  | .dict _ => "dict"
theorem Rp.tyX {O : Own} {H : Hp} {d : D} {v : V} (r : Rp K O H d v) : TyX K H v (.type (tyName d)) := by
  cases d with
  | none => rw [r.non_inv]; exact .base .non
  | bool b => rw [r.bl_inv]; exact .base (.bl b)
  | int i => rw [r.int_inv]; exact .base (.int i)
  | str x => rw [r.str_inv]; exact .base (.str x)
  | list ds =>
    obtain ⟨a, xs, rfl, ra, _⟩ := r.list_inv
    rcases ra with ⟨h | ⟨o, h⟩, _⟩ | ⟨o, its, n, h, c, _⟩
    · exact .base (.lst h)
    · exact .base (.frz h)
    · exact .kList h c
  | tuple ds =>
    obtain ⟨a, xs, rfl, ra, _⟩ := r.tup_inv
    rcases ra with ⟨h | ⟨o, h⟩, _⟩ | ⟨o, its, n, h, c, _⟩
    · exact .base (.tup h)
    · exact .fTuple h
    · exact .kTuple h c
  | dict ds =>
    simp only [Rp] at r
    obtain ⟨a, xs, rfl, h, _⟩ := r
    exact .base (.dK h)
/-- the built-in types asked for -/
inductive Ty where
  | int | bool | str | list | tuple | dict
def Ty.name : Ty → String
  | .int => "int" | .bool => "bool" | .str => "str" | .list => "list" | .tuple => "tuple" | .dict => "dict"
def isTy : Ty → D → Bool
  | .int, .int _ => true
  | .int, .bool _ => true
  | .bool, .bool _ => true
  | .str, .str _ => true
  | .list, .list _ => true
  | .tuple, .tuple _ => true
  | .dict, .dict _ => true
  | _, _ => false
theorem isTy_kit (T : Ty) (d : D) : kitB (tyName d) T.name = some (isTy T d) := by
  cases T <;> cases d <;> simp only [tyName, Ty.name, isTy] <;> decide +kernel
end

section
variable {X : Cx} {G : Gd} {W : WX} {N : List Str} {sc : Scope} {blk : Bool} {k : Nat} {Mo : Wo} {pos p p2 : Pos} {e : Expr} {f : M D}
def isiM (T : Ty) (f : M D) : M D := f.bnd fun d => M.ret (.bool (isTy T d))
/-- isinstance(e, T) -/
theorem sd_isi (A : At X G W N sc blk k Mo) (T : Ty) {tn : Str} (hT : tn = Str.ofString T.name) (hg : sc.names.lookup ("isinstance" : Str) = some .globalImplicit) (hg2 : sc.names.lookup tn = some .globalImplicit) (hm : Mo.mg "isinstance" = none) (hm2 : Mo.mg tn = none) (hv : bootBuiltins tn = some (.type T.name))
    (h : SD X G W e f) (hs : starEach [e, .Name tn p2] X.env = (false, eval e X.env) :: starEach [.Name tn p2] X.env := by rfl) (hs2 : starEach [.Name tn p2] X.env = (false, eval (.Name tn p2) X.env) :: starEach [] X.env := by rfl)
    (hpl : (backTo pos (starEach [.Name tn p2] X.env)).any (·.1) = false := by rfl) (hn : tn ≠ "__name__" := by decide) (hd : (tn == ("__debug__" : Str)) = false := by decide) :
    SD X G W (.Call (.Name "isinstance" p) [e, .Name tn p2] [] pos) (isiM T f) := by
  have gl : ∀ {x : Str}, sc.names.lookup x = some .globalImplicit → Gl X x := fun {x} h => by show X.env.scope.names.lookup x = _; rw [A.hsc]; exact h
  refine PE.imp (pe_callB call_isi (gl hg) (by rw [A.hmg]; exact hm) (by decide +kernel) (pa_cons h (pa_cons (pe_bltn (v := .ty T.name) (gl hg2) (by rw [A.hmg]; exact hm2) hv rfl hn hd) pa_nil hs2) hs) (by decide) (by decide) hs hpl) fun σ H Q ⟨O, env, R, t⟩ => ?_
  obtain ⟨O1, env1, R1, r1, e1, p1⟩ := bindL (RV := RD G) R t
  refine ⟨O1, env1, R1, r1, e1, p1.mono fun x H2 ⟨d, env2, O2, R2, s2, rx, t2⟩ => ?_⟩
  refine ⟨x, .ty T.name, _, _, isTy T d, rfl, .ty _, by rw [A.hK]; exact Rp.tyX rx, kit_ty (isTy_kit T d), tAt.ret (RV := RD G) t2 R2 Rp.bl'⟩
def isi2M (T U : Ty) (f : M D) : M D := f.bnd fun d => M.ret (.bool (isTy T d || isTy U d))
/-- isinstance(e, (T, U)) -/
theorem sd_isi2 (A : At X G W N sc blk k Mo) (T U : Ty) {tn un : Str} {x1 : Nat} {p3 p4 : Pos} (hg : sc.names.lookup ("isinstance" : Str) = some .globalImplicit) (hg2 : sc.names.lookup tn = some .globalImplicit) (hg3 : sc.names.lookup un = some .globalImplicit) (hm : Mo.mg "isinstance" = none) (hm2 : Mo.mg tn = none) (hm3 : Mo.mg un = none)
    (hv : bootBuiltins tn = some (.type T.name)) (hv2 : bootBuiltins un = some (.type U.name))
    (h : SD X G W e f) (hs : starEach [e, .Tuple [.Name tn p2, .Name un p3] x1 p4] X.env = (false, eval e X.env) :: starEach [.Tuple [.Name tn p2, .Name un p3] x1 p4] X.env := by rfl)
    (hs2 : starEach [.Tuple [.Name tn p2, .Name un p3] x1 p4] X.env = (false, eval (.Tuple [.Name tn p2, .Name un p3] x1 p4) X.env) :: starEach [] X.env := by rfl)
    (hs3 : starEach [.Name tn p2, .Name un p3] X.env = (false, eval (.Name tn p2) X.env) :: starEach [.Name un p3] X.env := by rfl) (hs4 : starEach [.Name un p3] X.env = (false, eval (.Name un p3) X.env) :: starEach [] X.env := by rfl)
    (hpl : (backTo pos (starEach [.Tuple [.Name tn p2, .Name un p3] x1 p4] X.env)).any (·.1) = false := by rfl) (hn : tn ≠ "__name__" := by decide) (hd : (tn == ("__debug__" : Str)) = false := by decide) (hn2 : un ≠ "__name__" := by decide) (hd2 : (un == ("__debug__" : Str)) = false := by decide) :
    SD X G W (.Call (.Name "isinstance" p) [e, .Tuple [.Name tn p2, .Name un p3] x1 p4] [] pos) (isi2M T U f) := by
  have gl : ∀ {x : Str}, sc.names.lookup x = some .globalImplicit → Gl X x := fun {x} h => by show X.env.scope.names.lookup x = _; rw [A.hsc]; exact h
  refine PE.imp (pe_callB call_isiT (gl hg) (by rw [A.hmg]; exact hm) (by decide +kernel) (pa_cons h (pa_cons (pe_tup (pa_cons (pe_bltn (v := .ty T.name) (gl hg2) (by rw [A.hmg]; exact hm2) hv rfl hn hd) (pa_cons (pe_bltn (v := .ty U.name) (gl hg3) (by rw [A.hmg]; exact hm3) hv2 rfl hn2 hd2) pa_nil hs4) hs3)) pa_nil hs2) hs) (by decide) (by decide) hs hpl) fun σ H Q ⟨O, env, R, t⟩ => ?_
  obtain ⟨O1, env1, R1, r1, e1, p1⟩ := bindL (RV := RD G) R t
  refine ⟨O1, env1, R1, r1, e1, p1.mono fun x H2 ⟨d, env2, O2, R2, s2, rx, t2⟩ => ?_⟩
  refine ⟨by show 2 ≤ sizeLine; decide, fun q hq => ?_⟩
  have g2 : Grow H2 (upd H2 q (.tup [.ty T.name, .ty U.name])) := Grow.upd hq
  refine ⟨x, q, [.ty T.name, .ty U.name], _, [.type T.name, .type U.name], isTy T d || isTy U d, rfl, upd_same, .cons (.ty _) (.cons (.ty _) .nil), by rw [A.hK]; exact Rp.tyX (Rp.step (Grow.step (O := O2) g2) d x rx), ?_, tAt.retAt (RV := RD G) t2 (R2.grow g2) g2.step Rp.bl'⟩
  refine kitAny_cons (kit_ty (isTy_kit T d)) (fun hf => kitAny_cons (r := isTy T d || isTy U d) (kit_ty (isTy_kit U d)) (fun hg => ?_) fun hg => by rw [hg]; simp) fun hb => by rw [hb]; rfl
  rw [hf, hg]
  exact kitAny_nil
end
end PV

/-! PV6: repr; what a def promises; calls. -/
namespace PV
open PySem PySem.Spec PyProof.Rows L2

/-! ### repr -/
mutual
/-- dicts within are empty -/
def emD : D → Bool
  | .list ds => emDAll ds
  | .tuple ds => emDAll ds
  | .dict kvs => kvs.isEmpty
  | _ => true
def emDAll : List D → Bool
  | [] => true
  | d :: ds => emD d && emDAll ds
end
def reprOk (d : D) : Bool := emD d && d.showable && decide (d.depth ≤ 64) && decide (d.shown.length ≤ sizeLine)
section
variable {X : Cx} {pins : List (Addr × Obj)} {σ : L2.St} {O : Own} {H : Hp} {s : Shared}
mutual
theorem Rp.readsL (I : Inv X pins σ H s) (sy : SysOk X.K) : ∀ (d : D) (v : V) (u : Value), emD d = true → Rp X.K O H d v → RelV v u → ∃ as, Reads s.heap u d as ∧ sysModules ∉ as
  | .none, v, u, _, r, ru => by rw [r.non_inv] at ru; cases ru; exact ⟨[], .none, by simp⟩
  | .bool b, v, u, _, r, ru => by rw [r.bl_inv] at ru; cases ru; exact ⟨[], .bool b, by simp⟩
  | .int i, v, u, _, r, ru => by rw [r.int_inv] at ru; obtain ⟨t, rfl⟩ := ru; exact ⟨[], .int i t, by simp⟩
  | .str x, v, u, _, r, ru => by rw [r.str_inv] at ru; obtain ⟨t, rfl⟩ := ru; exact ⟨[], .str x t, by simp⟩
  | .list ds, v, u, n, r, ru => by
    obtain ⟨a, xs, rfl, ra, qa⟩ := r.list_inv
    cases ru
    obtain ⟨its, rv, ht, hz⟩ := I.list ra.sq
    obtain ⟨o, e, c, m, hd⟩ := ht.isList
    obtain ⟨as, h, hn⟩ := RpAll.readsL I sy ds xs its (by simpa [emD] using n) qa rv
    refine ⟨a :: as, .list e c hd (by simpa using h), fun z => ?_⟩
    rcases List.mem_cons.mp z with z | z
    · obtain ⟨o', e', hne⟩ := sy
      have q := I.kIn _ _ e'
      rw [z, e] at q
      cases q
      exact hne _ _ hd
    · exact hn z
  | .tuple ds, v, u, n, r, ru => by
    obtain ⟨a, xs, rfl, ra, qa⟩ := r.tup_inv
    cases ru
    obtain ⟨its, rv, ⟨o, e, c, m, hd⟩, hz⟩ := I.tuple ra.sq
    obtain ⟨as, h, hn⟩ := RpAll.readsL I sy ds xs its (by simpa [emD] using n) qa rv
    exact ⟨as, .tuple e c hd (by simpa using h), hn⟩
  | .dict kvs, v, u, n, r, ru => by
    have e : kvs = [] := by simpa [emD] using n
    subst e
    simp only [Rp] at r
    obtain ⟨a, ps, rfl, ha, na, q⟩ := r
    cases ps with
    | cons p ps => simp only [RpKv] at q
    | nil =>
      cases ru
      obtain ⟨_, hs, vs, kv, o, es, ep, e, ex, hd, _, pr, _⟩ := I.hok a _ ha
      cases kv
      have hes : es.toList = [] := by
        generalize es.toList = l at pr
        cases pr
        rfl
      refine ⟨[a] ++ [], .dict (as := []) (bs := []) e ex.1 hd (by rw [hes]; exact .nil) (by rw [hes]; exact .nil), ?_⟩
      intro z
      have z' : sysModules = a := by simpa using z
      rw [z'] at hs
      simp at hs
theorem RpAll.readsL (I : Inv X pins σ H s) (sy : SysOk X.K) : ∀ (ds : List D) (vs : List V) (us : List Value), emDAll ds = true → RpAll X.K O H ds vs → Vals vs us → ∃ as, ReadsAll s.heap us ds as ∧ sysModules ∉ as
  | [], vs, us, _, r, ru => by
    cases vs with
    | nil => cases ru; exact ⟨[], .nil, by simp⟩
    | cons v vs => simp only [RpAll] at r
  | d :: ds, vs, us, n, r, ru => by
    cases vs with
    | nil => simp only [RpAll] at r
    | cons v vs =>
      simp only [RpAll] at r
      cases ru with
      | cons r1 r2 =>
        have n' : emD d = true ∧ emDAll ds = true := by simpa [emDAll] using n
        obtain ⟨as, h1, n1⟩ := Rp.readsL I sy d v _ n'.1 r.1 r1
        obtain ⟨bs, h2, n2⟩ := RpAll.readsL I sy ds vs _ n'.2 r.2 r2
        exact ⟨as ++ bs, .cons h1 h2, fun z => (List.mem_append.mp z).elim n1 n2⟩
end
end
def rRepr (K : PySem.W.Frag) : List V → Hp → VK → Prop := fun xs H Q => ∃ (O : Own) (d : D) (x : V), xs = [x] ∧ Rp K O H d x ∧ reprOk d = true ∧ Q (.str d.shown) H
theorem call_repr {X : Cx} (hg : X.A.guards = some []) (hu : X.A.units + 66 < cLine) (sy : SysOk X.K) : CallR X (.builtin "repr") (rRepr X.K) := by
  intro pins s σ H xs us Q I r h
  obtain ⟨O, d, x, rfl, rp, ok, q⟩ := h
  obtain ⟨u, rfl, ru⟩ := vals1 r
  unfold reprOk at ok
  simp only [Bool.and_eq_true, decide_eq_true_eq] at ok
  obtain ⟨⟨⟨h1, h2⟩, h3⟩, h4⟩ := ok
  obtain ⟨as, rd, n0⟩ := Rp.readsL I sy d x u h1 rp ru
  have hs : d.hasDict = true → sysModules ∉ as := fun _ => n0
  cases rd with
  | none => exact PySem.P.repr_of_none ⟨.str _, H, I.tok _, ⟨_, rfl⟩, by simpa only [PyData.shown] using q⟩
  | bool b => exact PySem.P.repr_of_bool ⟨.str _, H, I.tok _, ⟨_, rfl⟩, by simpa only [PyData.shown] using q⟩
  | int i t => exact PySem.P.repr_of_int (by simpa [PyData.showable] using h2) ⟨.str _, H, I.tok _, ⟨_, rfl⟩, by simpa only [PyData.shown] using q⟩
  | str y t => exact PySem.P.repr_of_str ⟨.str _, H, I.tok _, ⟨_, rfl⟩, by simpa only [PyData.shown] using q⟩ (by simpa only [PyData.shown] using h4)
  | list a b c e => exact PySem.repr_of_reads' (.list a b c e) h2 hs hg (by omega) (fun _ _ z => z) (fun h' w tk k => ⟨.str _, H, I.kept k, ⟨w, rfl⟩, q⟩) h4
  | tuple a b c e => exact PySem.repr_of_reads' (.tuple a b c e) h2 hs hg (by omega) (fun _ _ z => z) (fun h' w tk k => ⟨.str _, H, I.kept k, ⟨w, rfl⟩, q⟩) h4
  | dict a b c e f => exact PySem.repr_of_reads' (.dict a b c e f) h2 hs hg (by omega) (fun _ _ z => z) (fun h' w tk k => ⟨.str _, H, I.kept k, ⟨w, rfl⟩, q⟩) h4
def reprD : List D → Option Vl
  | [d] => if reprOk d = true then some (.d (.str d.shown)) else none
  | _ => none
theorem repr_S {K : PySem.W.Frag} : CaS K (rRepr K) reprD := by
  intro O H xs ds vl Q ol rx e q
  unfold reprD at e
  split at e
  · split at e
    · rename_i d ok
      cases e
      obtain ⟨v, rfl, r⟩ := rx.one
      exact ⟨O, d, v, rfl, r, ok, q.str⟩
    · cases e
  · cases e
/-- str of a whole number, a truth, a text -/
def strD : List D → Option Vl
  | [.int i] => if i.natAbs.log2 < 1920 then some (.d (.str (toString i))) else none
  | [.bool b] => some (.d (.str (if b then "True" else "False")))
  | [.str x] => some (.d (.str x))
  | _ => none
theorem call_strA {X : Cx} : CallR X (.type "str") (fun xs H Q => (∃ i, xs = [.int i] ∧ i.natAbs.log2 < 1920 ∧ Q (.str (toString i)) H) ∨ (∃ b, xs = [.bl b] ∧ Q (.str (if b then "True" else "False")) H) ∨ ∃ a, xs = [.str a] ∧ Q (.str a) H) := by
  refine call_str_int.or (CallR.or ?_ SkE.call_str_str)
  intro pins s σ H xs us Q I r h
  obtain ⟨b, rfl, q⟩ := h
  obtain ⟨u, rfl, ru⟩ := vals1 r
  cases ru
  exact PySem.P.str_of_bool ⟨.str _, H, I.tok _, ⟨_, rfl⟩, q⟩
theorem str_S {K : PySem.W.Frag} : CaS K (fun xs H Q => (∃ i, xs = [.int i] ∧ i.natAbs.log2 < 1920 ∧ Q (.str (toString i)) H) ∨ (∃ b, xs = [.bl b] ∧ Q (.str (if b then "True" else "False")) H) ∨ ∃ a, xs = [.str a] ∧ Q (.str a) H) strD := by
  intro O H xs ds vl Q ol rx e q
  unfold strD at e
  split at e
  · split at e
    · rename_i hz
      cases e
      obtain ⟨v, rfl, r⟩ := rx.one
      exact .inl ⟨_, by rw [r.int_inv], hz, q.str⟩
    · cases e
  · cases e
    obtain ⟨v, rfl, r⟩ := rx.one
    exact .inr (.inl ⟨_, by rw [r.bl_inv], q.str⟩)
  · cases e
    obtain ⟨v, rfl, r⟩ := rx.one
    exact .inr (.inr ⟨_, by rw [r.str_inv], q.str⟩)
  · cases e
end PV

/-! PV7: what a def promises, by its meaning; how a body keeps it; calls. -/
namespace PV
open PySem PySem.Spec PyProof.Rows L2

inductive Ar where
  | d (x : D)
  | m (xs : List D)
  | x (e : Exn)
abbrev Fn := List Ar → Option (Rz Vl × List (List D))
inductive Fl where
  | nx | bk | ct
  | rt (x : Vl)
  | ex (e : Exn)
abbrev Stm := SEnv → Option (Fl × SEnv)

section
variable (K : PySem.W.Frag) (cls : Nat → Addr) (O : Own) (H : Hp)
def ArgR : Ar → V → Prop
  | .d x, v => Rp K O H x v
  | .m xs, v => ∃ (p : Addr) (ws : List V), v = V.ref p ∧ H p = some (.lst ws) ∧ RpAll K O H xs ws ∧ O p
  | .x e, v => XR K cls O H e v
def ArgsR : List Ar → List V → Prop
  | [], [] => True
  | a :: as, v :: vs => ArgR K cls O H a v ∧ ArgsR as vs
  | _, _ => False
def MutsR : List (List D) → List Addr → Prop
  | [], [] => True
  | xs :: r, p :: ps => (∃ ws : List V, H p = some (.lst ws) ∧ RpAll K O H xs ws) ∧ MutsR r ps
  | _, _ => False
end
def mAd : List Ar → List V → List Addr
  | .m _ :: as, .ref p :: vs => p :: mAd as vs
  | _ :: as, _ :: vs => mAd as vs
  | _, _ => []
def muIx : Nat → List Ar → List Nat
  | i, .m _ :: as => i :: muIx (i + 1) as
  | i, .d _ :: as => muIx (i + 1) as
  | i, .x _ :: as => muIx (i + 1) as
  | _, [] => []
def RetR (K : PySem.W.Frag) (O : Own) (H : Hp) (O' : Own) (H' : Hp) : Vl → V → Prop
  | .d x, v => O' = O ∧ Rp K O' H' x v
  | .own xs, v => ∃ (p : Addr) (ws : List V), v = V.ref p ∧ H p = none ∧ O' = (fun a => O a ∨ a = p) ∧ H' p = some (.lst ws) ∧ RpAll K O' H' xs ws
def Keeps (H : Hp) (ads : List Addr) (H' : Hp) : Prop := ∀ a o, H a = some o → a ∉ ads → H' a = some o
def FnEnd (K : PySem.W.Frag) (cls : Nat → Addr) (O : Own) (H : Hp) (ads : List Addr) (outs : List (List D)) (Q : VK) (E : XK) : Rz Vl → Prop
  | .ok x => ∀ v O' H', Keeps H ads H' → MutsR K O' H' outs ads → RetR K O H O' H' x v → Q v H'
  | .ex e => ∀ cl dd H', Keeps H ads H' → MutsR K O H' outs ads → ExR ⟨K, H, O, [], cls⟩ O H' e cl dd → E cl dd H'
def spF (K : PySem.W.Frag) (cls : Nat → Addr) (c : Fn) : Sp := fun vs H Q E =>
  ∃ O args r outs, (∀ a, O a → H a ≠ none) ∧ ArgsR K cls O H args vs ∧ (mAd args vs).Nodup ∧ c args = some (r, outs) ∧ FnEnd K cls O H (mAd args vs) outs Q E r

structure FnG (M : Wo) (k : Nat) (f : Addr) (fd : FuncData) (ps : List Str) (sp : Sp) : Prop where
  len : ∀ vs H Q E, sp vs H Q E → vs.length = ps.length
  run : ∀ (A : Around) (outer : List Env) (s : Shared) (H : Hp) (args : Args) (us : List Value) (vs : List V) (Q : VK) (E : XK), A.guards = some [] → Room k A → Env0 M.P M.w M.K M.mg M.base A outer s H → BindsTo s fd args (ps.zip us) → Vals vs us → sp vs H Q E →
    codeAny (model M.P M.w) A (.call (.ref f) args) (CR (L2.CX M.P M.w) outer M.P M.w H s Q E) s
theorem FnG.mono {M : Wo} {j k : Nat} {f : Addr} {fd : FuncData} {ps : List Str} {sp : Sp} (F : FnG M j f fd ps sp) (h : j ≤ k) : FnG M k f fd ps sp :=
  ⟨F.len, fun A outer s H args us vs Q E hg hr => F.run A outer s H args us vs Q E hg (hr.mono h)⟩

/-! ### statements -/
def PstS (G : Gd) (W : WX) (O : Own) (H : Hp) (D : Ends) : Fl × SEnv → Prop
  | (.nx, env') => ∀ σ' O' H', Rel G O' H' σ' env' → Step O H O' H' → D.nx σ' H'
  | (.bk, env') => ∀ σ' O' H', Rel G O' H' σ' env' → Step O H O' H' → D.bk σ' H'
  | (.ct, env') => ∀ σ' O' H', Rel G O' H' σ' env' → Step O H O' H' → D.ct σ' H'
  | (.rt x, env') => ∀ v σ' O' H', Rel G O' H' σ' env' → Step O H O' H' → RL G σ' x v env' O' H' → D.rt v H'
  | (.ex e, env') => ∀ cls dd σ' O' H', Rel G O' H' σ' env' → Step O H O' H' → ExR G O' H' e cls dd → W cls dd σ' H'
def tAtS (G : Gd) (W : WX) (f : Stm) (O : Own) (env : SEnv) (H : Hp) (D : Ends) : Prop := ∃ r, f env = some r ∧ PstS G W O H D r
def tSt (G : Gd) (W : WX) (f : Stm) : TS := fun D σ H => ∃ O env, Rel G O H σ env ∧ tAtS G W f O env H D
def SS (X : Cx) (G : Gd) (W : WX) (st : Stmt) (f : Stm) : Prop := PS X st (tSt G W f)
def SSs (X : Cx) (G : Gd) (W : WX) (st : List Stmt) (f : Stm) : Prop := PSs X st (tSt G W f)
theorem PstS.weak {G : Gd} {W : WX} {O O1 : Own} {H H1 : Hp} {D : Ends} {r : Fl × SEnv} (p : PstS G W O H D r) (s : Step O H O1 H1) : PstS G W O1 H1 D r := by
  obtain ⟨r, e⟩ := r
  cases r with
  | nx => exact fun σ' O' H' R t => p σ' O' H' R (s.trans t)
  | bk => exact fun σ' O' H' R t => p σ' O' H' R (s.trans t)
  | ct => exact fun σ' O' H' R t => p σ' O' H' R (s.trans t)
  | rt x => exact fun v σ' O' H' R t => p v σ' O' H' R (s.trans t)
  | ex x => exact fun c d σ' O' H' R t => p c d σ' O' H' R (s.trans t)

/-! ### a body -/
def Ar.sl : Ar → Sl
  | .d y => .d y
  | .m xs => .mu xs
  | .x e => .x e
def initE (n : Nat) (args : List Ar) : SEnv := args.map (fun a => some a.sl) ++ List.replicate (n - args.length) none
def outsOf : List Nat → SEnv → Option (List (List D))
  | [], _ => some []
  | i :: is, env => match env[i]?, outsOf is env with
    | some (some (.mu xs)), some r => some (xs :: r)
    | _, _ => none
def retOf : Fl → Option (Rz Vl)
  | .nx => some (.ok (.d .none))
  | .rt x => some (.ok x)
  | .ex e => some (.ex e)
  | _ => none
/-- n names, np parameters -/
def runFn (n np : Nat) (f : Stm) : Fn := fun args =>
  if args.length = np then
    match f (initE n args) with
    | none => none
    | some (fl, env') => match retOf fl, outsOf (muIx 0 args) env' with
      | some r, some outs => some (r, outs)
      | _, _ => none
  else none

section
variable {K : PySem.W.Frag} {cls : Nat → Addr} {O : Own} {H : Hp}
theorem ArgsR.length : ∀ {args : List Ar} {vs : List V}, ArgsR K cls O H args vs → args.length = vs.length
  | [], [], _ => rfl
  | a :: as, v :: vs, h => by
    simp only [ArgsR] at h
    simp only [List.length_cons, ArgsR.length h.2]
  | [], _ :: _, h => by simp only [ArgsR] at h
  | _ :: _, [], h => by simp only [ArgsR] at h
theorem ArgsR.get : ∀ {args : List Ar} {vs : List V} {i : Nat} {a : Ar}, ArgsR K cls O H args vs → args[i]? = some a → ∃ v, vs[i]? = some v ∧ ArgR K cls O H a v
  | [], [], _, _, _, e => by simp at e
  | a :: as, v :: vs, 0, x, h, e => by
    simp only [ArgsR] at h
    simp at e; subst e
    exact ⟨v, rfl, h.1⟩
  | a :: as, v :: vs, i + 1, x, h, e => by
    simp only [ArgsR] at h
    obtain ⟨w, e1, r⟩ := ArgsR.get (i := i) h.2 (by simpa using e)
    exact ⟨w, by simpa using e1, r⟩
  | [], _ :: _, _, _, h, _ => by simp only [ArgsR] at h
  | _ :: _, [], _, _, h, _ => by simp only [ArgsR] at h
/-- the slots of lists that are changed, with their addresses -/
theorem mem_ms : ∀ {args : List Ar} {vs : List V} {k i : Nat} {p : Addr}, ArgsR K cls O H args vs → (i, p) ∈ (muIx k args).zip (mAd args vs) → k ≤ i ∧ (∃ xs : List D, args[i - k]? = some (Ar.m xs)) ∧ vs[i - k]? = some (V.ref p)
  | [], [], _, _, _, _, h => by simp [muIx] at h
  | .d x :: as, v :: vs, k, i, p, r, h => by
    simp only [ArgsR] at r
    have h' : (i, p) ∈ (muIx (k + 1) as).zip (mAd as vs) := by
      have e : mAd (Ar.d x :: as) (v :: vs) = mAd as vs := by cases v <;> rfl
      rw [e] at h
      exact h
    obtain ⟨h1, ⟨xs, h2⟩, h3⟩ := mem_ms r.2 h'
    have e : i - k = (i - (k + 1)) + 1 := by omega
    refine ⟨by omega, ⟨xs, ?_⟩, ?_⟩
    · rw [e]; simpa using h2
    · rw [e]; simpa using h3
  | .x x :: as, v :: vs, k, i, p, r, h => by
    simp only [ArgsR] at r
    have h' : (i, p) ∈ (muIx (k + 1) as).zip (mAd as vs) := by
      have e : mAd (Ar.x x :: as) (v :: vs) = mAd as vs := by cases v <;> rfl
      rw [e] at h
      exact h
    obtain ⟨h1, ⟨xs, h2⟩, h3⟩ := mem_ms r.2 h'
    have e : i - k = (i - (k + 1)) + 1 := by omega
    refine ⟨by omega, ⟨xs, ?_⟩, ?_⟩
    · rw [e]; simpa using h2
    · rw [e]; simpa using h3
  | .m x :: as, v :: vs, k, i, p, r, h => by
    simp only [ArgsR] at r
    obtain ⟨⟨q, ws, rfl, _⟩, r2⟩ := r
    have h' : (i, p) ∈ (k, q) :: (muIx (k + 1) as).zip (mAd as vs) := h
    rcases List.mem_cons.mp h' with e | h'
    · cases e
      refine ⟨Nat.le_refl _, ⟨x, ?_⟩, ?_⟩ <;> rw [Nat.sub_self] <;> rfl
    · obtain ⟨h1, ⟨xs, h2⟩, h3⟩ := mem_ms r2 h'
      have e : i - k = (i - (k + 1)) + 1 := by omega
      refine ⟨by omega, ⟨xs, ?_⟩, ?_⟩
      · rw [e]; simpa using h2
      · rw [e]; simpa using h3
  | [], _ :: _, _, _, _, r, _ => by simp only [ArgsR] at r
  | _ :: _, [], _, _, _, r, _ => by simp only [ArgsR] at r
theorem ms_mem : ∀ {args : List Ar} {vs : List V} {k i : Nat} {xs : List D}, ArgsR K cls O H args vs → args[i]? = some (Ar.m xs) → ∃ p : Addr, vs[i]? = some (V.ref p) ∧ (k + i, p) ∈ (muIx k args).zip (mAd args vs)
  | [], [], _, _, _, _, h => by simp at h
  | .d x :: as, v :: vs, k, 0, xs, r, h => by simp at h
  | .x x :: as, v :: vs, k, 0, xs, r, h => by simp at h
  | .m x :: as, v :: vs, k, 0, xs, r, h => by
    simp only [ArgsR] at r
    obtain ⟨⟨q, ws, rfl, _⟩, r2⟩ := r
    exact ⟨q, rfl, List.mem_cons_self ..⟩
  | .d x :: as, v :: vs, k, i + 1, xs, r, h => by
    simp only [ArgsR] at r
    obtain ⟨p, h1, h2⟩ := ms_mem (k := k + 1) r.2 (show as[i]? = some (Ar.m xs) by simpa using h)
    refine ⟨p, by simpa using h1, ?_⟩
    have e : mAd (Ar.d x :: as) (v :: vs) = mAd as vs := by cases v <;> rfl
    rw [e]
    have e2 : k + (i + 1) = k + 1 + i := by omega
    rw [e2]
    exact h2
  | .x x :: as, v :: vs, k, i + 1, xs, r, h => by
    simp only [ArgsR] at r
    obtain ⟨p, h1, h2⟩ := ms_mem (k := k + 1) r.2 (show as[i]? = some (Ar.m xs) by simpa using h)
    refine ⟨p, by simpa using h1, ?_⟩
    have e : mAd (Ar.x x :: as) (v :: vs) = mAd as vs := by cases v <;> rfl
    rw [e]
    have e2 : k + (i + 1) = k + 1 + i := by omega
    rw [e2]
    exact h2
  | .m x :: as, v :: vs, k, i + 1, xs, r, h => by
    simp only [ArgsR] at r
    obtain ⟨⟨q, ws, rfl, _⟩, r2⟩ := r
    obtain ⟨p, h1, h2⟩ := ms_mem (k := k + 1) r2 (show as[i]? = some (Ar.m xs) by simpa using h)
    refine ⟨p, by simpa using h1, ?_⟩
    have e2 : k + (i + 1) = k + 1 + i := by omega
    rw [e2]
    exact List.mem_cons_of_mem _ h2
  | [], _ :: _, _, _, _, r, _ => by simp only [ArgsR] at r
  | _ :: _, [], _, _, _, r, _ => by simp only [ArgsR] at r
theorem zip_inj {is : List Nat} : ∀ {ps : List Addr} {i j : Nat} {p : Addr}, ps.Nodup → (i, p) ∈ is.zip ps → (j, p) ∈ is.zip ps → i = j := by
  induction is with
  | nil => intro ps i j p _ h; simp at h
  | cons k is ih =>
    intro ps i j p nd h1 h2
    cases ps with
    | nil => simp at h1
    | cons q ps =>
      rw [List.zip_cons_cons] at h1 h2
      have n1 := (List.nodup_cons.mp nd).1
      rcases List.mem_cons.mp h1 with e1 | h1' <;> rcases List.mem_cons.mp h2 with e2 | h2'
      · cases e1; cases e2; rfl
      · cases e1
        exact absurd (List.of_mem_zip h2').2 n1
      · cases e2
        exact absurd (List.of_mem_zip h1').2 n1
      · exact ih (List.nodup_cons.mp nd).2 h1' h2'
theorem init_get {n i : Nat} {args : List Ar} {s : Sl} (h : (initE n args)[i]? = some (some s)) : ∃ a, args[i]? = some a ∧ a.sl = s := by
  unfold initE at h
  by_cases hi : i < args.length
  · rw [List.getElem?_append_left (by simpa using hi), List.getElem?_map, List.getElem?_eq_getElem hi] at h
    have h' : some (some args[i].sl) = some (some s) := h
    cases h'
    exact ⟨_, List.getElem?_eq_getElem hi, rfl⟩
  · rw [List.getElem?_append_right (by simpa using hi), List.getElem?_replicate] at h
    split at h <;> cases h
theorem init_at {n i : Nat} {args : List Ar} {a : Ar} (h : args[i]? = some a) : (initE n args)[i]? = some (some a.sl) := by
  unfold initE
  have hi : i < args.length := (List.getElem?_eq_some_iff.mp h).1
  rw [List.getElem?_append_left (by simpa using hi), List.getElem?_map, h]
  rfl
theorem start_at {N : List Str} {vs : List V} {i : Nat} {v : V} (h : vs[i]? = some v) : (L2.start N vs)[i]? = some (some v) := by
  unfold L2.start
  have hi : i < vs.length := (List.getElem?_eq_some_iff.mp h).1
  rw [List.getElem?_append_left (by simpa using hi), List.getElem?_map, h]
  rfl
/-- the relation at a def's entry -/
theorem rel_init {cls : Nat → Addr} {N : List Str} {args : List Ar} {vs : List V} (ol : ∀ a, O a → H a ≠ none) (r : ArgsR K cls O H args vs) (nd : (mAd args vs).Nodup) (hl : args.length ≤ N.length) :
    Rel ⟨K, H, O, (muIx 0 args).zip (mAd args vs), cls⟩ O H (L2.start N vs) (initE N.length args) where
  len := by
    have e := r.length
    unfold initE L2.start
    simp only [List.length_append, List.length_map, List.length_replicate]
    omega
  ol := ol
  fr := fun a o h _ => h
  oc := fun a h => ⟨h, ol a h⟩
  val := fun i x h => by
    obtain ⟨a, h1, h2⟩ := init_get h
    obtain ⟨v, h3, h4⟩ := r.get h1
    cases a with
    | d y =>
      have e : Sl.d y = Sl.d x := h2
      cases e
      exact ⟨v, start_at h3, h4⟩
    | m ys =>
      have e : Sl.mu ys = Sl.d x := h2
      cases e
    | x ys => exact nomatch (show Sl.x ys = Sl.d x from h2)
  exv := fun i x h => by
    obtain ⟨a, h1, h2⟩ := init_get h
    obtain ⟨v, h3, h4⟩ := r.get h1
    cases a with
    | d y => exact nomatch (show Sl.d y = Sl.x x from h2)
    | m ys => exact nomatch (show Sl.mu ys = Sl.x x from h2)
    | x y =>
      have e : Sl.x y = Sl.x x := h2
      cases e
      exact ⟨v, start_at h3, h4⟩
  own := fun i xs h => by
    obtain ⟨a, h1, h2⟩ := init_get h
    cases a with
    | d y => exact nomatch (show Sl.d y = Sl.own xs from h2)
    | m ys => exact nomatch (show Sl.mu ys = Sl.own xs from h2)
    | x ys => exact nomatch (show Sl.x ys = Sl.own xs from h2)
  muA := fun i xs h => by
    obtain ⟨a, h1, h2⟩ := init_get h
    cases a with
    | d y => exact nomatch (show Sl.d y = Sl.mu xs from h2)
    | x y => exact nomatch (show Sl.x y = Sl.mu xs from h2)
    | m ys =>
      obtain ⟨p, h3, h4⟩ := ms_mem (k := 0) r h1
      rw [Nat.zero_add] at h4
      exact ⟨p, h4⟩
  mst := fun i p h => by
    obtain ⟨_, ⟨xs, h2⟩, h3⟩ := mem_ms r h
    rw [Nat.sub_zero] at h2 h3
    obtain ⟨v, h4, q, ws, h5, h6, h7, h8⟩ := r.get h2
    rw [h3] at h4; cases h4
    cases h5
    exact ⟨xs, ws, init_at h2, start_at h3, h6, h7, h8, ⟨fun z => (nomatch h6.symm.trans z), h8⟩⟩
  inj := fun i j p n h1 h2 e1 e2 => by
    have key : ∀ {i : Nat}, OwnAt (initE N.length args) i → (L2.start N vs)[i]? = some (some (V.ref p)) → (i, p) ∈ (muIx 0 args).zip (mAd args vs) := fun {i} h e => by
      have hm : ∃ ys : List D, args[i]? = some (Ar.m ys) := by
        rcases h with ⟨xs, h⟩ | ⟨xs, h⟩ <;> obtain ⟨a, h1, h2⟩ := init_get h
        · cases a with
          | d y => exact nomatch (show Sl.d y = Sl.own xs from h2)
          | m ys => exact nomatch (show Sl.mu ys = Sl.own xs from h2)
          | x ys => exact nomatch (show Sl.x ys = Sl.own xs from h2)
        · cases a with
          | d y => exact nomatch (show Sl.d y = Sl.mu xs from h2)
          | x y => exact nomatch (show Sl.x y = Sl.mu xs from h2)
          | m ys => exact ⟨ys, h1⟩
      obtain ⟨ys, hm⟩ := hm
      obtain ⟨q, h3, h4⟩ := ms_mem (k := 0) r hm
      rw [start_at h3] at e
      cases e
      rw [Nat.zero_add] at h4
      exact h4
    exact n (zip_inj nd (key h1 e1) (key h2 e2))
theorem outs_muts {G : Gd} {O' O'' : Own} {H' : Hp} {σ' : L2.St} {env' : SEnv} (R : Rel G O' H' σ' env') (st : Step O' H' O'' H') : ∀ {is : List Nat} {ps : List Addr} {outs : List (List D)}, is.length = ps.length → (∀ q ∈ is.zip ps, q ∈ G.ms) → outsOf is env' = some outs → MutsR G.K O'' H' outs ps
  | [], [], outs, _, _, e => by cases e; simp only [MutsR]
  | [], _ :: _, _, hl, _, _ => by simp at hl
  | _ :: _, [], _, hl, _, _ => by simp at hl
  | i :: is, p :: ps, outs, hl, h, e => by
    unfold outsOf at e
    split at e
    · rename_i xs r h1 h2
      cases e
      obtain ⟨ys, ws, e1, e2, e3, e4, _⟩ := R.mst i p (h _ (List.mem_cons_self ..))
      rw [h1] at e1; cases e1
      simp only [MutsR]
      exact ⟨⟨ws, e3, RpAll.step st xs ws e4⟩, outs_muts R st (by simpa using hl) (fun q hq => h q (List.mem_cons_of_mem _ hq)) h2⟩
    · cases e
theorem mu_len : ∀ {args : List Ar} {vs : List V} {k : Nat}, ArgsR K cls O H args vs → (muIx k args).length = (mAd args vs).length
  | [], [], _, _ => rfl
  | .d x :: as, v :: vs, k, r => by
    simp only [ArgsR] at r
    have e : mAd (Ar.d x :: as) (v :: vs) = mAd as vs := by cases v <;> rfl
    rw [e]
    exact mu_len (k := k + 1) r.2
  | .x x :: as, v :: vs, k, r => by
    simp only [ArgsR] at r
    have e : mAd (Ar.x x :: as) (v :: vs) = mAd as vs := by cases v <;> rfl
    rw [e]
    exact mu_len (k := k + 1) r.2
  | .m x :: as, v :: vs, k, r => by
    simp only [ArgsR] at r
    obtain ⟨⟨q, ws, rfl, _⟩, r2⟩ := r
    show (muIx (k + 1) as).length + 1 = (mAd as vs).length + 1
    rw [mu_len (k := k + 1) r2]
  | [], _ :: _, _, r => by simp only [ArgsR] at r
  | _ :: _, [], _, r => by simp only [ArgsR] at r
theorem mem_mAd : ∀ {args : List Ar} {vs : List V} {p : Addr}, ArgsR K cls O H args vs → p ∈ mAd args vs → ∃ i, (i, p) ∈ (muIx 0 args).zip (mAd args vs) := fun {args vs p} r h => by
  obtain ⟨n, hn, e⟩ := List.getElem_of_mem h
  have hl := mu_len (k := 0) r
  refine ⟨(muIx 0 args)[n]'(by omega), ?_⟩
  rw [← e]
  exact List.mem_iff_getElem.mpr ⟨n, by rw [List.length_zip]; omega, by rw [List.getElem_zip]⟩
end

/-- what a body's end gives -/
theorem body_end {K : PySem.W.Frag} {cls : Nat → Addr} {O : Own} {H : Hp} {args : List Ar} {vs : List V} {G : Gd} (hG : G = ⟨K, H, O, (muIx 0 args).zip (mAd args vs), cls⟩) (r : ArgsR K cls O H args vs) {O' : Own} {H' : Hp} {σ' : L2.St} {env' : SEnv} (R : Rel G O' H' σ' env') {outs : List (List D)}
    (ho : outsOf (muIx 0 args) env' = some outs) : Keeps H (mAd args vs) H' ∧ Step O' H' O H' ∧ ∀ O'', Step O' H' O'' H' → MutsR K O'' H' outs (mAd args vs) := by
  subst hG
  refine ⟨fun a o h n => R.fr a o h fun ⟨i, hi⟩ => n (List.of_mem_zip hi).2, fun a o h n => ⟨h, fun z => n (R.oc a z).1⟩, fun O'' st => ?_⟩
  exact outs_muts (G := ⟨K, H, O, (muIx 0 args).zip (mAd args vs), cls⟩) R st (mu_len r) (fun q hq => hq) ho
end PV

/-! PV8: a body keeps its promise; calls; statements. -/
namespace PV
open PySem PySem.Spec PyProof.Rows L2

theorem ExR.step {G G' : Gd} {O O' : Own} {H H' : Hp} {e : Exn} {cl : Value} {dd : Option Addr} (hk : G.K = G'.K) (hc : G.cls = G'.cls) (s : Step O H O' H') (x : ExR G O H e cl dd) : ExR G' O' H' e cl dd := by
  obtain ⟨x1, x2⟩ := x
  refine ⟨by rw [← hc]; exact x1, ?_⟩
  rw [← hk]
  exact x2.step s

/-- a def keeps what its body means -/
theorem fnG_of {M : Wo} {k : Nat} {f : Addr} {name qual : Str} {params : Arguments} {body : List Stmt} {scope : Scope} {dV kV doc pm cdv ct oc : Value} {an od : Option Addr} {osl : Array (Option Value)} {N ps : List Str} {fsem : Stm}
    (lk : M.K.lookup f = some ⟨oc, od, .func (PySem.W.fnOf name qual params body scope dV kV doc pm an cdv ct), osl⟩) (hcd : PySem.W.codeIn M.K cdv qual = true) (sy : SysOk M.K) (S : FnScope N ps scope)
    (hbody : ∀ (X : Cx) (G : Gd) (W : WX), At X G W N scope false k M → SSs X G W body fsem) :
    FnG M (k + 1) f (PySem.W.fnOf name qual params body scope dV kV doc pm an cdv ct) ps (spF M.K M.cls (runFn N.length ps.length fsem)) := by
  have npl : ∀ {args r}, runFn N.length ps.length fsem args = some r → args.length = ps.length := fun {args r} h => by
    unfold runFn at h
    split at h
    · assumption
    · cases h
  constructor
  · rintro vs H Q E ⟨O, args, r, outs, _, ra, _, hc, _⟩
    rw [← ra.length]
    exact npl hc
  · intro A outer s H args us vs Q E hgd hr e0 hb rv hsp
    have hlen : vs.length = ps.length := by
      obtain ⟨O, args, r, outs, _, ra, _, hc, _⟩ := hsp
      rw [← ra.length]
      exact npl hc
    obtain ⟨O, ars, r, outs, ol, ra, nd, hc, fin⟩ := hsp
    have inK : M.K.In s.heap := e0.mod.kin.keeps fun b o z => (e0.bs b o z).1
    have noL : s.heap.NoLimit := e0.mod.nolimit.keeps fun b o z => (e0.bs b o z).1
    refine codeAny_call_function hr.depth (inK _ _ lk) rfl S.co S.gen rfl (PySem.W.codeRec_of inK hcd) (hb _ _ _ _ ?_)
    refine wpAny_newFunctionEnv_cells S.kind (fun y hy => ?_) fun env he s1 x => ?_
    · obtain ⟨n, v⟩ := y
      rcases S.par n (List.of_mem_zip hy).1 with z | z
      · exact .inl z
      · exact .inr ⟨z, PySem.W.cellsFrom_some _ _ _ (.inl z)⟩
    · subst he
      refine ⟨noL.keeps x.toInCall.keep, codeAny_func ?_⟩
      have I : Inv (cxOf (L2.CX M.P M.w) M.P M.w M.K M.mg M.base N qual scope f cdv A outer s H E) [] (L2.start N vs) H s1 := inv_start S hr.hd e0 hlen rv x
      have hG : ∃ G : Gd, G = ⟨M.K, H, O, (muIx 0 ars).zip (mAd ars vs), M.cls⟩ := ⟨_, rfl⟩
      obtain ⟨G, hG⟩ := hG
      have at0 : At (cxOf (L2.CX M.P M.w) M.P M.w M.K M.mg M.base N qual scope f cdv A outer s H E) G (fun cl dd _ H' => E cl dd H') N scope false k M := by
        refine { hN := rfl, nd := S.nd, hsc := rfl, fn := fun _ _ => rfl, calm := rfl, tk := ?_, pass := ?_, gd := hgd, room := hr.deeper _, hK := by rw [hG]; rfl, hmg := rfl, hP := rfl, hw := rfl, hb := rfl, gK := by rw [hG], gc := by rw [hG], stk := fun _ => ⟨rfl, rfl⟩, ex0 := fun _ => rfl, sys := sy }
        · exact takes_of (E := E) (E₁ := fun e s' => L2.CX M.P M.w outer H s E e s') rfl rfl rfl rfl
        · exact passes_of (K := fun e s' => L2.CX M.P M.w outer H s E e s') (E₁ := fun e s' => L2.CX M.P M.w outer H s E e s') rfl
      have sem := hbody _ G _ at0
      -- what the meaning gives
      have hl : ars.length ≤ N.length := by
        have z := congrArg List.length S.pre
        rw [List.length_take] at z
        rw [npl hc]; omega
      have R0 : Rel G O H (L2.start N vs) (initE N.length ars) := by rw [hG]; exact rel_init ol ra nd hl
      unfold runFn at hc
      rw [if_pos (npl hc)] at hc
      cases hf : fsem (initE N.length ars) with
      | none => rw [hf] at hc; cases hc
      | some q =>
        obtain ⟨fl, env'⟩ := q
        rw [hf] at hc
        dsimp only at hc
        split at hc
        · rename_i r' outs' hret houts
          cases hc
          have GK : G.K = M.K := by rw [hG]
          have reading : tSt G (fun cl dd _ H' => E cl dd H') fsem { nx := fun _ H' => Q .non H', rt := Q } (L2.start N vs) H := by
            refine ⟨O, _, R0, (fl, env'), hf, ?_⟩
            cases fl with
            | nx =>
              cases hret
              intro σ' O' H' R' st
              obtain ⟨k1, k2, k3⟩ := body_end hG ra R' houts
              exact fin .non O H' k1 (k3 O k2) ⟨rfl, Rp.non'⟩
            | rt y =>
              cases hret
              intro v σ' O' H' R' st rl
              obtain ⟨k1, k2, k3⟩ := body_end hG ra R' houts
              cases y with
              | d d =>
                have rl' : Rp G.K O' H' d v := rl
                rw [GK] at rl'
                exact fin v O H' k1 (k3 O k2) ⟨rfl, Rp.step k2 d v rl'⟩
              | own xs =>
                obtain ⟨p, ws, rfl, h1, h2, h3, h4, _⟩ := rl
                rw [GK] at h2
                have st2 : Step O' H' (fun a => O a ∨ a = p) H' := fun a o h n => ⟨h, fun z => by
                  rcases z with z | z
                  · exact (k2 a o h n).2 z
                  · rw [z] at n; exact n h3⟩
                have hp : H p = none := by rw [hG] at h4; exact h4
                exact fin _ _ H' k1 (k3 _ st2) ⟨p, ws, rfl, hp, rfl, h1, RpAll.step st2 xs ws h2⟩
            | ex e =>
              cases hret
              intro cl dd σ' O' H' R' st xr
              obtain ⟨k1, k2, k3⟩ := body_end hG ra R' houts
              exact fin cl dd H' k1 (k3 O k2) (ExR.step (by rw [hG]) (by rw [hG]) k2 xr)
            | bk => cases hret
            | ct => cases hret
          refine wpAny_mono (sem.run [] s1 (L2.start N vs) H _ I reading) (fun fl s' hs => ?_) fun _ _ z => z
          have back : ∀ {σ' : L2.St} {H' : Hp} {v : V} {u : Value}, Inv (cxOf (L2.CX M.P M.w) M.P M.w M.K M.mg M.base N qual scope f cdv A outer s H E) [] σ' H' s' → RelV v u → Q v H' → CE outer M.P M.w H s Q u s' :=
            fun {σ' H' v u} J r1 q => ⟨v, H', J.os, J.bare, J.base, J.hok, r1, q⟩
          cases fl with
          | ret u =>
            obtain ⟨v, σ', H', J, r1, q⟩ := hs
            exact back J r1 q
          | next =>
            obtain ⟨σ', H', J, q⟩ := hs
            exact back (v := V.non) (u := Value.none) J rfl q
          | brk =>
            obtain ⟨_, _, _, q⟩ := hs
            exact q.elim
          | cont =>
            obtain ⟨_, _, _, q⟩ := hs
            exact q.elim
        · cases hc

/-! ### calls -/
inductive Av where
  | d (x : D)
  | m (i : Nat)
  | x (e : Exn)
/-- what stands for an argument: a tree, or the list of slot i itself -/
def AvR (K : PySem.W.Frag) (cls : Nat → Addr) (σ : L2.St) (O : Own) (H : Hp) : Av → V → Prop
  | .d x, v => Rp K O H x v
  | .m i, v => σ[i]? = some (some v)
  | .x e, v => XR K cls O H e v
def AvsR (K : PySem.W.Frag) (cls : Nat → Addr) (σ : L2.St) (O : Own) (H : Hp) : List Av → List V → Prop
  | [], [] => True
  | a :: as, v :: vs => AvR K cls σ O H a v ∧ AvsR K cls σ O H as vs
  | _, _ => False
def RAv (G : Gd) : RVT (List Av) (List V) := fun σ as vs _ O H => AvsR G.K G.cls σ O H as vs
def SAv (X : Cx) (G : Gd) (W : WX) (es : List Expr) (f : M (List Av)) : Prop := PA X es (tG G W (RAv G) f)
def consD (f : M D) (g : M (List Av)) : M (List Av) := f.bnd fun d => g.bnd fun r => M.ret (.d d :: r)
/-- the exception of slot i -/
def consX (i : Nat) (g : M (List Av)) : M (List Av) := fun env => match env[i]? with
  | some (some (.x e)) => g.bnd (fun r => M.ret (.x e :: r)) env
  | _ => none
def listAt (env : SEnv) (i : Nat) : Option (List D) := match env[i]? with
  | some (some (.own xs)) => some xs
  | some (some (.mu xs)) => some xs
  | _ => none
def consMu (i : Nat) (g : M (List Av)) : M (List Av) := fun env => match listAt env i with
  | none => none
  | some _ => g.bnd (fun r => M.ret (.m i :: r)) env
theorem listAt_own {env : SEnv} {i : Nat} {xs : List D} (h : listAt env i = some xs) : env[i]? = some (some (Sl.own xs)) ∨ env[i]? = some (some (Sl.mu xs)) := by
  unfold listAt at h
  split at h
  · rename_i e; cases h; exact .inl e
  · rename_i e; cases h; exact .inr e
  · cases h
theorem listAt_ownAt {env : SEnv} {i : Nat} {xs : List D} (h : listAt env i = some xs) : OwnAt env i := by
  rcases listAt_own h with h | h
  · exact .inl ⟨xs, h⟩
  · exact .inr ⟨xs, h⟩
/-- the list of a slot, at its address -/
theorem Rel.lstAt {G : Gd} {O : Own} {H : Hp} {σ : L2.St} {env : SEnv} (R : Rel G O H σ env) {i : Nat} {xs : List D} (h : listAt env i = some xs) : ∃ (p : Addr) (vs : List V), σ[i]? = some (some (V.ref p)) ∧ H p = some (.lst vs) ∧ RpAll G.K O H xs vs ∧ O p ∧ (G.H0 p = none ∨ G.Mu p) := by
  rcases listAt_own h with h | h
  · obtain ⟨p, vs, h1, h2, h3, h4, h5⟩ := R.own i xs h
    exact ⟨p, vs, h1, h2, h3, h4, .inl h5⟩
  · obtain ⟨p, hp⟩ := R.muA i xs h
    obtain ⟨ys, vs, e, h1, h2, h3, h4, _⟩ := R.mst i p hp
    rw [h] at e; cases e
    exact ⟨p, vs, h1, h2, h3, h4, .inr ⟨i, hp⟩⟩
section
variable {X : Cx} {G : Gd} {W : WX} {N : List Str} {sc : Scope} {blk : Bool} {k : Nat} {Mo : Wo} {pos : Pos} {e : Expr} {es : List Expr} {f : M D} {g : M (List Av)}
theorem sav_nil : SAv X G W [] (M.ret []) := PA.imp pa_nil fun σ H Q ⟨O, env, R, t⟩ => tAt.ret (RV := RAv G) t R (by show AvsR _ _ _ _ _ [] []; simp only [AvsR])
theorem AvsR.step {K : PySem.W.Frag} {cls : Nat → Addr} {σ : L2.St} {O O' : Own} {H H' : Hp} (s : Step O H O' H') : ∀ {as : List Av} {vs : List V}, AvsR K cls σ O H as vs → AvsR K cls σ O' H' as vs
  | [], [], _ => by simp only [AvsR]
  | .d x :: as, v :: vs, h => by
    simp only [AvsR, AvR] at h ⊢
    exact ⟨Rp.step s x v h.1, AvsR.step s h.2⟩
  | .m i :: as, v :: vs, h => by
    simp only [AvsR, AvR] at h ⊢
    exact ⟨h.1, AvsR.step s h.2⟩
  | .x e :: as, v :: vs, h => by
    simp only [AvsR, AvR] at h ⊢
    exact ⟨h.1.step s, AvsR.step s h.2⟩
  | [], _ :: _, h => by simp only [AvsR] at h
  | _ :: _, [], h => by simp only [AvsR] at h
theorem sav_d (h : SD X G W e f) (h' : SAv X G W es g) (hs : starEach (e :: es) X.env = (false, eval e X.env) :: starEach es X.env := by rfl) : SAv X G W (e :: es) (consD f g) := by
  refine PA.imp (pa_cons h h' hs) fun σ H Q ⟨O, env, R, t⟩ => ?_
  obtain ⟨O1, env1, R1, r1, e1, p1⟩ := bindL (RV := RD G) R t
  refine ⟨O1, env1, R1, r1, e1, p1.mono fun x H2 ⟨dx, env2, O2, R2, s2, rx, t2⟩ => ?_⟩
  obtain ⟨O3, env3, R3, r3, e3, p3⟩ := bindL (RV := RAv G) R2 t2
  refine ⟨O3, env3, R3, r3, e3, p3.mono fun xs H4 ⟨as, env4, O4, R4, s4, rxs, t4⟩ => ?_⟩
  refine tAt.ret (RV := RAv G) t4 R4 ?_
  show AvsR G.K G.cls σ O4 H4 (.d dx :: as) (x :: xs)
  simp only [AvsR, AvR]
  exact ⟨Rp.step s4 dx x rx, rxs⟩
theorem sav_x (A : At X G W N sc blk k Mo) (i : Nat) {x : Str} {p : Pos} (h' : SAv X G W es g) (hi : N[i]? = some x := by rfl) (hv : Vis sc x := by first | exact Or.inl rfl | exact Or.inr (Or.inl rfl) | exact Or.inr (Or.inr rfl)) (hd : (x == ("__debug__" : Str)) = false := by decide) (hcd : (x == ("__classdict__" : Str)) = false := by decide)
    (hs : starEach (.Name x p :: es) X.env = (false, eval (.Name x p) X.env) :: starEach es X.env := by rfl) : SAv X G W (.Name x p :: es) (consX i g) := by
  refine PA.imp (pa_cons (pe_var (i := i) (by rw [A.hN]; exact hi) (by rw [A.hsc]; exact hv) hd hcd) h' hs) fun σ H Q ⟨O, env, R, r, er, pr⟩ => ?_
  unfold consX at er
  split at er
  · rename_i ex hl
    obtain ⟨v, e1, xr⟩ := R.exv i ex hl
    refine ⟨_, e1, ?_⟩
    obtain ⟨O1, env1, R1, r1, e2, p1⟩ := bindL (RV := RAv G) (RW := RAv G) (Q := Q) R ⟨r, er, pr⟩
    refine ⟨O1, env1, R1, r1, e2, p1.mono fun ys H4 ⟨as, env4, O4, R4, s4, rxs, t4⟩ => ?_⟩
    refine tAt.ret (RV := RAv G) t4 R4 ?_
    show AvsR G.K G.cls σ O4 H4 (.x ex :: as) (v :: ys)
    simp only [AvsR, AvR]
    exact ⟨xr.step s4, rxs⟩
  · cases er
theorem sav_m (A : At X G W N sc blk k Mo) (i : Nat) {x : Str} {p : Pos} (h' : SAv X G W es g) (hi : N[i]? = some x := by rfl) (hv : Vis sc x := by first | exact Or.inl rfl | exact Or.inr (Or.inl rfl) | exact Or.inr (Or.inr rfl)) (hd : (x == ("__debug__" : Str)) = false := by decide) (hcd : (x == ("__classdict__" : Str)) = false := by decide)
    (hs : starEach (.Name x p :: es) X.env = (false, eval (.Name x p) X.env) :: starEach es X.env := by rfl) : SAv X G W (.Name x p :: es) (consMu i g) := by
  refine PA.imp (pa_cons (pe_var (i := i) (by rw [A.hN]; exact hi) (by rw [A.hsc]; exact hv) hd hcd) h' hs) fun σ H Q ⟨O, env, R, r, er, pr⟩ => ?_
  unfold consMu at er
  split at er
  · cases er
  · rename_i xs hl
    obtain ⟨q, vs, e1, _⟩ := R.lstAt hl
    refine ⟨_, e1, ?_⟩
    obtain ⟨O1, env1, R1, r1, e2, p1⟩ := bindL (RV := RAv G) (RW := RAv G) (Q := Q) R ⟨r, er, pr⟩
    refine ⟨O1, env1, R1, r1, e2, p1.mono fun ys H4 ⟨as, env4, O4, R4, s4, rxs, t4⟩ => ?_⟩
    refine tAt.ret (RV := RAv G) t4 R4 ?_
    show AvsR G.K G.cls σ O4 H4 (.m i :: as) (V.ref q :: ys)
    simp only [AvsR, AvR]
    exact ⟨e1, rxs⟩
end
def argsOf (env : SEnv) : List Av → Option (List Ar)
  | [] => some []
  | .d x :: as => (argsOf env as).map fun r => .d x :: r
  | .x x :: as => (argsOf env as).map fun r => .x x :: r
  | .m i :: as => match listAt env i, argsOf env as with
    | some xs, some r => some (.m xs :: r)
    | _, _ => none
def slots : List Av → List Nat
  | [] => []
  | .d _ :: as => slots as
  | .x _ :: as => slots as
  | .m i :: as => i :: slots as
def setOut (env : SEnv) (i : Nat) (ys : List D) : SEnv := match env[i]? with
  | some (some (.mu _)) => env.set i (some (.mu ys))
  | _ => env.set i (some (.own ys))
def setOuts (env : SEnv) : List Nat → List (List D) → Option SEnv
  | [], [] => some env
  | i :: is, ys :: r => setOuts (setOut env i ys) is r
  | _, _ => none
def callAt (c : Fn) (as : List Av) : M Vl := fun env =>
  if (slots as).Nodup then
    match argsOf env as with
    | none => none
    | some args => match c args with
      | none => none
      | some (r, outs) => match setOuts env (slots as) outs with
        | none => none
        | some env' => some (r, env')
  else none
def callF (c : Fn) (f : M (List Av)) : M Vl := f.bnd (callAt c)

theorem setOut_ne {env : SEnv} {i j : Nat} {ys : List D} (h : j ≠ i) : (setOut env i ys)[j]? = env[j]? := by
  unfold setOut
  split <;> rw [List.getElem?_set_ne (Ne.symm h)]
theorem setOut_at {env : SEnv} {i : Nat} {xs ys : List D} (h : listAt env i = some xs) : ((setOut env i ys)[i]? = some (some (Sl.own ys)) ∧ env[i]? = some (some (Sl.own xs))) ∨ ((setOut env i ys)[i]? = some (some (Sl.mu ys)) ∧ env[i]? = some (some (Sl.mu xs))) := by
  rcases listAt_own h with e | e <;> have hi := (List.getElem?_eq_some_iff.mp e).1
  · refine .inl ⟨?_, e⟩
    unfold setOut
    rw [e]
    exact List.getElem?_set_self hi
  · refine .inr ⟨?_, e⟩
    unfold setOut
    rw [e]
    exact List.getElem?_set_self hi
theorem setOuts_ne : ∀ {is : List Nat} {outs : List (List D)} {env env' : SEnv} {j : Nat}, setOuts env is outs = some env' → j ∉ is → env'[j]? = env[j]?
  | [], [], _, _, _, h, _ => by cases h; rfl
  | i :: is, ys :: r, env, env', j, h, n => by
    have e := setOuts_ne (is := is) (outs := r) (env := setOut env i ys) h fun z => n (List.mem_cons_of_mem _ z)
    rw [e, setOut_ne fun z => n (by rw [z]; exact List.mem_cons_self ..)]
  | [], _ :: _, _, _, _, h, _ => by cases h
  | _ :: _, [], _, _, _, h, _ => by cases h
theorem setOuts_len : ∀ {is : List Nat} {outs : List (List D)} {env env' : SEnv}, setOuts env is outs = some env' → env'.length = env.length
  | [], [], _, _, h => by cases h; rfl
  | i :: is, ys :: r, env, env', h => by
    rw [setOuts_len (is := is) (outs := r) (env := setOut env i ys) h]
    unfold setOut
    split <;> simp
  | [], _ :: _, _, _, h => by cases h
  | _ :: _, [], _, _, h => by cases h
/-- the addresses of the slots handed in -/
theorem mAd_slots {G : Gd} {O : Own} {H : Hp} {σ : L2.St} {env : SEnv} (R : Rel G O H σ env) : ∀ {as : List Av} {vs : List V} {args : List Ar}, AvsR G.K G.cls σ O H as vs → argsOf env as = some args →
    ArgsR G.K G.cls O H args vs ∧ (mAd args vs).length = (slots as).length ∧ (∀ i ∈ slots as, ∃ xs, listAt env i = some xs) ∧ ∀ i p, (i, p) ∈ (slots as).zip (mAd args vs) → σ[i]? = some (some (V.ref p))
  | [], [], args, _, e => by
    cases e
    refine ⟨by simp only [ArgsR], rfl, by simp [slots], by simp [slots]⟩
  | .d x :: as, v :: vs, args, h, e => by
    simp only [AvsR, AvR] at h
    unfold argsOf at e
    cases e1 : argsOf env as with
    | none => rw [e1] at e; cases e
    | some r =>
      rw [e1] at e; cases e
      obtain ⟨h1, h2, h3, h4⟩ := mAd_slots R h.2 e1
      have em : mAd (Ar.d x :: r) (v :: vs) = mAd r vs := by cases v <;> rfl
      rw [em]
      exact ⟨by simp only [ArgsR, ArgR]; exact ⟨h.1, h1⟩, h2, h3, h4⟩
  | .x x :: as, v :: vs, args, h, e => by
    simp only [AvsR, AvR] at h
    unfold argsOf at e
    cases e1 : argsOf env as with
    | none => rw [e1] at e; cases e
    | some r =>
      rw [e1] at e; cases e
      obtain ⟨h1, h2, h3, h4⟩ := mAd_slots R h.2 e1
      have em : mAd (Ar.x x :: r) (v :: vs) = mAd r vs := by cases v <;> rfl
      rw [em]
      exact ⟨by simp only [ArgsR, ArgR]; exact ⟨h.1, h1⟩, h2, h3, h4⟩
  | .m i :: as, v :: vs, args, h, e => by
    simp only [AvsR, AvR] at h
    unfold argsOf at e
    cases el : listAt env i with
    | none => rw [el] at e; cases e
    | some xs =>
      cases e1 : argsOf env as with
      | none => rw [el, e1] at e; cases e
      | some r =>
        rw [el, e1] at e; cases e
        obtain ⟨h1, h2, h3, h4⟩ := mAd_slots R h.2 e1
        obtain ⟨p, ws, e2, e3, e4, e5, _⟩ := R.lstAt el
        rw [h.1] at e2; cases e2
        refine ⟨by simp only [ArgsR, ArgR]; exact ⟨⟨p, ws, rfl, e3, e4, e5⟩, h1⟩, by show (mAd r vs).length + 1 = (slots as).length + 1; rw [h2], fun j hj => ?_, fun j q hq => ?_⟩
        · rcases List.mem_cons.mp hj with rfl | hj
          · exact ⟨xs, el⟩
          · exact h3 j hj
        · rcases List.mem_cons.mp (show (j, q) ∈ (i, p) :: (slots as).zip (mAd r vs) from hq) with z | z
          · cases z; exact h.1
          · exact h4 j q z
  | [], _ :: _, _, h, _ => by simp only [AvsR] at h
  | _ :: _, [], _, h, _ => by simp only [AvsR] at h
end PV

/-! PV9: the rule of a call; statements. -/
namespace PV
open PySem PySem.Spec PyProof.Rows L2

theorem zip_of {is : List Nat} : ∀ {ps : List Addr} {i : Nat}, ps.length = is.length → i ∈ is → ∃ p, (i, p) ∈ is.zip ps := by
  induction is with
  | nil => intro ps i _ h; simp at h
  | cons k is ih =>
    intro ps i hl h
    cases ps with
    | nil => simp at hl
    | cons q ps =>
      rcases List.mem_cons.mp h with rfl | h
      · exact ⟨q, List.mem_cons_self ..⟩
      · obtain ⟨p, hp⟩ := ih (by simpa using hl) h
        exact ⟨p, List.mem_cons_of_mem _ hp⟩
theorem zip_of' {is : List Nat} : ∀ {ps : List Addr} {p : Addr}, ps.length = is.length → p ∈ ps → ∃ i, (i, p) ∈ is.zip ps := by
  induction is with
  | nil => intro ps p hl h; cases ps with
    | nil => simp at h
    | cons q ps => simp at hl
  | cons k is ih =>
    intro ps p hl h
    cases ps with
    | nil => simp at hl
    | cons q ps =>
      rcases List.mem_cons.mp h with rfl | h
      · exact ⟨k, List.mem_cons_self ..⟩
      · obtain ⟨i, hi⟩ := ih (by simpa using hl) h
        exact ⟨i, List.mem_cons_of_mem _ hi⟩
theorem setOuts_at {K : PySem.W.Frag} {O' : Own} {H' : Hp} : ∀ {is : List Nat} {ads : List Addr} {outs : List (List D)} {env env' : SEnv} {i : Nat} {p : Addr}, is.Nodup → MutsR K O' H' outs ads → (∀ i ∈ is, ∃ xs, listAt env i = some xs) → setOuts env is outs = some env' → (i, p) ∈ is.zip ads →
    ∃ (ys : List D) (ws : List V), H' p = some (.lst ws) ∧ RpAll K O' H' ys ws ∧ ((env'[i]? = some (some (Sl.own ys)) ∧ ∃ xs : List D, env[i]? = some (some (Sl.own xs))) ∨ (env'[i]? = some (some (Sl.mu ys)) ∧ ∃ xs : List D, env[i]? = some (some (Sl.mu xs))))
  | [], _, _, _, _, _, _, _, _, _, _, h => by simp at h
  | k :: is, [], _, _, _, _, _, _, _, _, _, h => by simp at h
  | k :: is, q :: ads, [], _, _, _, _, _, m, _, _, _ => by simp only [MutsR] at m
  | k :: is, q :: ads, ys :: r, env, env', i, p, nd, m, hL, hs, h => by
    simp only [MutsR] at m
    obtain ⟨⟨ws, h1, h2⟩, m2⟩ := m
    obtain ⟨n1, n2⟩ := List.nodup_cons.mp nd
    have hs' : setOuts (setOut env k ys) is r = some env' := hs
    rcases List.mem_cons.mp (show (i, p) ∈ (k, q) :: is.zip ads from h) with z | z
    · have z1 : i = k := congrArg Prod.fst z
      have z2 : p = q := congrArg Prod.snd z
      subst z1 z2
      obtain ⟨xs, hx⟩ := hL i (List.mem_cons_self ..)
      have e := setOuts_ne hs' n1
      rcases setOut_at (ys := ys) hx with ⟨e1, e2⟩ | ⟨e1, e2⟩
      · exact ⟨ys, ws, h1, h2, .inl ⟨by rw [e, e1], xs, e2⟩⟩
      · exact ⟨ys, ws, h1, h2, .inr ⟨by rw [e, e1], xs, e2⟩⟩
    · have hi : i ∈ is := (List.of_mem_zip z).1
      have hik : i ≠ k := fun y => n1 (y ▸ hi)
      have hL' : ∀ j ∈ is, ∃ xs, listAt (setOut env k ys) j = some xs := fun j hj => by
        obtain ⟨xs, hx⟩ := hL j (List.mem_cons_of_mem _ hj)
        refine ⟨xs, ?_⟩
        have hjk : j ≠ k := fun y => n1 (y ▸ hj)
        unfold listAt at hx ⊢
        rw [setOut_ne hjk]
        exact hx
      obtain ⟨zs, us, a1, a2, a3⟩ := setOuts_at n2 m2 hL' hs' z
      refine ⟨zs, us, a1, a2, ?_⟩
      rw [setOut_ne hik] at a3
      exact a3

section
variable {G : Gd} {O O' : Own} {H H' : Hp} {σ : L2.St} {env env' : SEnv} {is : List Nat} {ads : List Addr} {outs : List (List D)}
/-- behind a call -/
theorem Rel.called (R : Rel G O H σ env) (nd : is.Nodup) (hl : ads.length = is.length) (h3 : ∀ i ∈ is, ∃ xs, listAt env i = some xs) (h4 : ∀ i p, (i, p) ∈ is.zip ads → σ[i]? = some (some (V.ref p))) (hk : Keeps H ads H') (hm : MutsR G.K O' H' outs ads)
    (hO : O' = O ∨ ∃ q, H q = none ∧ H' q ≠ none ∧ O' = fun a => O a ∨ a = q) (hs : setOuts env is outs = some env') : Rel G O' H' σ env' ∧ Step O H O' H' := by
  have sub : ∀ a, O a → O' a := fun a h => by
    rcases hO with e | ⟨q, _, _, e⟩
    · rw [e]; exact h
    · rw [e]; exact .inl h
  have adA : ∀ a, a ∈ ads → ∃ i, i ∈ is ∧ (i, a) ∈ is.zip ads ∧ O a ∧ (G.H0 a = none ∨ G.Mu a) := fun a h => by
    obtain ⟨i, hi⟩ := zip_of' hl h
    obtain ⟨xs, hx⟩ := h3 i (List.of_mem_zip hi).1
    obtain ⟨p, vs, e1, _, _, e2, e3⟩ := R.lstAt hx
    rw [h4 i a hi] at e1; cases e1
    exact ⟨i, (List.of_mem_zip hi).1, hi, e2, e3⟩
  have notNew : ∀ a o, H a = some o → ¬ O a → ¬ O' a := fun a o h n => by
    rcases hO with e | ⟨q, hq, _, e⟩
    · rw [e]; exact n
    · rw [e]
      intro z
      rcases z with z | z
      · exact n z
      · rw [z, hq] at h; cases h
  have st : Step O H O' H' := fun a o h n => by
    refine ⟨hk a o h fun z => ?_, notNew a o h n⟩
    obtain ⟨_, _, _, h1, _⟩ := adA a z
    exact n h1
  have atIs : ∀ {i p}, (i, p) ∈ is.zip ads → ∃ (ys : List D) (ws : List V), H' p = some (.lst ws) ∧ RpAll G.K O' H' ys ws ∧ ((env'[i]? = some (some (Sl.own ys)) ∧ ∃ xs : List D, env[i]? = some (some (Sl.own xs))) ∨ (env'[i]? = some (some (Sl.mu ys)) ∧ ∃ xs : List D, env[i]? = some (some (Sl.mu xs)))) := fun h => setOuts_at nd hm h3 hs h
  have notD : ∀ {i}, i ∈ is → (∀ x : D, env'[i]? ≠ some (some (Sl.d x))) := fun {i} hi x z => by
    obtain ⟨p, hp⟩ := zip_of hl hi
    obtain ⟨ys, ws, _, _, e⟩ := atIs hp
    rcases e with ⟨e, _⟩ | ⟨e, _⟩ <;> rw [z] at e <;> cases e
  have notX : ∀ {i}, i ∈ is → (∀ x : Exn, env'[i]? ≠ some (some (Sl.x x))) := fun {i} hi x z => by
    obtain ⟨p, hp⟩ := zip_of hl hi
    obtain ⟨ys, ws, _, _, e⟩ := atIs hp
    rcases e with ⟨e, _⟩ | ⟨e, _⟩ <;> rw [z] at e <;> cases e
  have ownBack : ∀ {j}, OwnAt env' j → OwnAt env j := fun {j} h => by
    by_cases hj : j ∈ is
    · obtain ⟨xs, hx⟩ := h3 j hj
      exact listAt_ownAt hx
    · have e := setOuts_ne hs hj
      rcases h with ⟨xs, h⟩ | ⟨xs, h⟩
      · exact .inl ⟨xs, by rw [← e]; exact h⟩
      · exact .inr ⟨xs, by rw [← e]; exact h⟩
  -- a slot that was not handed in stands elsewhere
  have apart : ∀ {j p}, j ∉ is → OwnAt env j → σ[j]? = some (some (V.ref p)) → p ∉ ads := fun {j p} hj ho e z => by
    obtain ⟨i, hi, hz, _⟩ := adA p z
    obtain ⟨xs, hx⟩ := h3 i hi
    exact R.inj j i p (fun y => hj (y ▸ hi)) ho (listAt_ownAt hx) e (h4 i p hz)
  refine ⟨?_, st⟩
  refine { len := ?_, ol := ?_, fr := ?_, oc := ?_, val := ?_, exv := fun j x e => ?_, own := ?_, muA := ?_, mst := ?_, inj := ?_ }
  · rw [setOuts_len hs]; exact R.len
  · intro a h
    have hOa : O a → H' a ≠ none := fun h => by
      cases e : H a with
      | none => exact absurd e (R.ol a h)
      | some o =>
        by_cases z : a ∈ ads
        · obtain ⟨i, _, hz, _⟩ := adA a z
          obtain ⟨ys, ws, e1, _⟩ := atIs hz
          rw [e1]; exact fun z => nomatch z
        · rw [hk a o e z]; exact fun z => nomatch z
    rcases hO with e | ⟨q, _, hq, e⟩
    · rw [e] at h; exact hOa h
    · rw [e] at h
      rcases h with h | h
      · exact hOa h
      · rw [h]; exact hq
  · intro a o h m
    refine hk a o (R.fr a o h m) fun z => ?_
    obtain ⟨_, _, _, _, h1⟩ := adA a z
    rcases h1 with h1 | h1
    · rw [h] at h1; cases h1
    · exact m h1
  · intro a h
    exact ⟨sub a (R.oc a h).1, (R.oc a h).2⟩
  · intro j x e
    have hj : j ∉ is := fun z => notD z x e
    rw [setOuts_ne hs hj] at e
    obtain ⟨v, e1, r⟩ := R.val j x e
    exact ⟨v, e1, Rp.step st x v r⟩
  · have hj : j ∉ is := fun z => notX z x e
    rw [setOuts_ne hs hj] at e
    obtain ⟨v, e1, r⟩ := R.exv j x e
    exact ⟨v, e1, r.step st⟩
  · intro j xs e
    by_cases hj : j ∈ is
    · obtain ⟨p, hp⟩ := zip_of hl hj
      obtain ⟨ys, ws, a1, a2, a3⟩ := atIs hp
      rcases a3 with ⟨a3, zs, a4⟩ | ⟨a3, _⟩
      · rw [e] at a3; cases a3
        obtain ⟨q, us, b1, _, _, b2, b3⟩ := R.own j zs a4
        rw [h4 j p hp] at b1; cases b1
        exact ⟨_, ws, h4 j _ hp, a1, a2, sub _ b2, b3⟩
      · rw [e] at a3; cases a3
    · rw [setOuts_ne hs hj] at e
      obtain ⟨q, us, b1, b2, b3, b4, b5⟩ := R.own j xs e
      exact ⟨q, us, b1, hk _ _ b2 (apart hj (.inl ⟨xs, e⟩) b1), RpAll.step st xs us b3, sub _ b4, b5⟩
  · intro j xs e
    by_cases hj : j ∈ is
    · obtain ⟨p, hp⟩ := zip_of hl hj
      obtain ⟨ys, ws, a1, a2, a3⟩ := atIs hp
      rcases a3 with ⟨a3, _⟩ | ⟨_, zs, a4⟩
      · rw [e] at a3; cases a3
      · exact R.muA j zs a4
    · rw [setOuts_ne hs hj] at e
      exact R.muA j xs e
  · intro j p hp
    obtain ⟨xs, vs, e, e1, b1, b2, b3, b4, b5⟩ := R.mst j p hp
    by_cases hj : j ∈ is
    · obtain ⟨q, hq⟩ := zip_of hl hj
      have e2 := h4 j q hq
      rw [e1] at e2; cases e2
      obtain ⟨ys, ws, a1, a2, a3⟩ := atIs hq
      rcases a3 with ⟨_, zs, a4⟩ | ⟨a3, _⟩
      · rw [e] at a4; cases a4
      · exact ⟨ys, ws, a3, e1, a1, a2, sub _ b3, b4, b5⟩
    · refine ⟨xs, vs, by rw [setOuts_ne hs hj]; exact e, e1, hk _ _ b1 (apart hj (.inr ⟨xs, e⟩) e1), RpAll.step st xs vs b2, sub _ b3, b4, b5⟩
  · intro i j p n a b e1 e2
    exact R.inj i j p n (ownBack a) (ownBack b) e1 e2
end

section
variable {X : Cx} {G : Gd} {W : WX} {N : List Str} {sc : Scope} {blk : Bool} {k : Nat} {Mo : Wo} {pos p : Pos} {x : Str} {e : Expr} {es : List Expr} {fa : M (List Av)} {c : Fn} {f : Addr} {fd : FuncData} {ps : List Str}
theorem run_G {pins : List (Addr × Obj)} {σ : L2.St} {H : Hp} {s : Shared} {Q : VK} {us : List Value} {vs : List V} {E : XK} {sp : Sp} (A : At X G W N sc blk k Mo) (F : FnG Mo k f fd ps sp) (hb : Binds X.K fd ps []) (hx : PassesAt (L2.CX X.prog X.w) X σ E)
    (I : Inv X pins σ H s) (r : Vals vs us) (h : sp vs H Q E) : wpAny (model X.prog X.w) X.A (call (.ref f) us) (EP X pins σ Q) X.xe s := by
  have hl : us.length = ps.length := by rw [← r.length]; exact F.len _ _ _ _ h
  have b := hb s us I.kIn (by rw [List.append_nil]; exact hl)
  rw [List.append_nil] at b
  have e0 := I.env0
  rw [A.hP, A.hw, A.hmg, A.hb, A.hK, A.gK] at e0
  rw [A.hP, A.hw]
  refine wpAny_call (codeAny_mono (F.run X.A X.stack s H ⟨us, []⟩ us vs Q E A.gd A.room e0 b r h) fun rs s' hq => ?_)
  rw [← A.hP, ← A.hw] at hq
  cases rs with
  | error er => exact hx pins H s er s' I hq
  | ok fl =>
    cases fl with
    | ret u => exact I.after hq
    | next => exact False.elim hq
    | brk => exact False.elim hq
    | cont => exact False.elim hq
/-- the promise, from the call's meaning -/
theorem call_imp (A : At X G W N sc blk k Mo) {O : Own} {env : SEnv} {σ : L2.St} {H : Hp} {Q : VK} {as : List Av} {vs : List V} (R : Rel G O H σ env) (rv : AvsR G.K G.cls σ O H as vs) (t : tAt G W (RL G) (callAt c as) O env σ H Q) : spF X.K G.cls c vs H Q (WE W σ) := by
  obtain ⟨r, e, pr⟩ := t
  unfold callAt at e
  split at e
  · rename_i nd
    cases ea : argsOf env as with
    | none => rw [ea] at e; cases e
    | some args =>
      rw [ea] at e
      dsimp only at e
      cases ec : c args with
      | none => rw [ec] at e; cases e
      | some q =>
        obtain ⟨rz, outs⟩ := q
        rw [ec] at e
        dsimp only at e
        cases es' : setOuts env (slots as) outs with
        | none => rw [es'] at e; cases e
        | some env' =>
          rw [es'] at e
          cases e
          obtain ⟨h1, h2, h3, h4⟩ := mAd_slots R rv ea
          have hnd : (mAd args vs).Nodup := by
            refine List.pairwise_iff_getElem.mpr fun a b ha hb hab z => ?_
            have la : a < (slots as).length := by omega
            have lb : b < (slots as).length := by omega
            have m1 : ((slots as)[a], (mAd args vs)[a]) ∈ (slots as).zip (mAd args vs) := List.mem_iff_getElem.mpr ⟨a, by rw [List.length_zip]; omega, by rw [List.getElem_zip]⟩
            have m2 : ((slots as)[b], (mAd args vs)[b]) ∈ (slots as).zip (mAd args vs) := List.mem_iff_getElem.mpr ⟨b, by rw [List.length_zip]; omega, by rw [List.getElem_zip]⟩
            have ne : (slots as)[a] ≠ (slots as)[b] := List.pairwise_iff_getElem.mp nd a b la lb hab
            obtain ⟨x1, hx1⟩ := h3 _ (List.getElem_mem la)
            obtain ⟨x2, hx2⟩ := h3 _ (List.getElem_mem lb)
            have s1 := h4 _ _ m1
            have s2 := h4 _ _ m2
            rw [z] at s1
            exact R.inj _ _ _ ne (listAt_ownAt hx1) (listAt_ownAt hx2) s1 s2
          rw [A.hK]
          refine ⟨O, args, rz, outs, R.ol, h1, hnd, ec, ?_⟩
          cases rz with
          | ok y =>
            intro v O' H' hk hm rr
            cases y with
            | d d =>
              obtain ⟨eO, rp⟩ := rr
              obtain ⟨R', st⟩ := R.called nd h2 h3 h4 hk hm (.inl eO) es'
              exact pr v O' H' R' st rp
            | own xs =>
              obtain ⟨q, ws, rfl, hq, eO, hq', rp⟩ := rr
              obtain ⟨R', st⟩ := R.called nd h2 h3 h4 hk hm (.inr ⟨q, hq, (fun z => nomatch hq'.symm.trans z), eO⟩) es'
              refine pr _ O' H' R' st ⟨q, ws, rfl, hq', rp, by rw [eO]; exact .inr rfl, R.fresh0 hq, fun i hi z => ?_⟩
              have hi' : OwnAt env i := by
                by_cases hj : i ∈ slots as
                · obtain ⟨xs, hx⟩ := h3 i hj
                  exact listAt_ownAt hx
                · have e := setOuts_ne es' hj
                  rcases hi with ⟨xs, h⟩ | ⟨xs, h⟩
                  · exact .inl ⟨xs, by rw [← e]; exact h⟩
                  · exact .inr ⟨xs, by rw [← e]; exact h⟩
              obtain ⟨q', vs', e1, e2, _⟩ := R.ownAddr hi'
              rw [z] at e1; cases e1
              rw [hq] at e2; cases e2
          | ex er =>
            intro cl dd H' hk hm xr
            obtain ⟨R', st⟩ := R.called nd h2 h3 h4 hk hm (.inl rfl) es'
            exact pr cl dd O H' R' st (ExR.step rfl rfl Step.refl xr)
  · cases e
/-- f(e, ..) -/
theorem sv_call (A : At X G W N sc blk k Mo) (F : FnG Mo k f fd ps (spF Mo.K Mo.cls c)) (hg : sc.names.lookup x = some .globalImplicit) (hm : Mo.mg x = some (.ref f)) (hk : PySem.W.keepIn Mo.K (.ref f) = true) (hb : Binds Mo.K fd ps [])
    (ha : SAv X G W (e :: es) fa) (hdb : (x == ("__debug__" : Str)) = false := by decide) (he : starEach (e :: es) X.env = (false, eval e X.env) :: starEach es X.env := by rfl) (hpl : (backTo pos (starEach es X.env)).any (·.1) = false := by rfl) :
    SV X G W (.Call (.Name x p) (e :: es) [] pos) (callF c fa) := by
  refine ⟨fun pins s σ H Q I ⟨O, env, R, t⟩ => ?_⟩
  refine wpAny_Call_Name_kw (ld_glob I (by show X.env.scope.names.lookup x = _; rw [A.hsc]; exact hg) (by rw [A.hmg]; exact hm) ?_ hdb)
  refine PySem.W.callWith_K (h₀ := X.base) I.ok.mod.kin (by rw [A.hK, A.gK]; exact hk) (thn (ha.run pos pins s σ H _ I (bindL (RV := RAv G) R t |> fun ⟨O1, env1, R1, tt⟩ => ⟨O1, env1, R1, tt⟩)) fun us s1 ⟨vs, H1, I1, r, q⟩ => ⟨I1.kIn, ?_⟩) he hpl
  obtain ⟨as, env1, O1, R1, s1', rv, t1⟩ := q
  have q := call_imp A R1 rv t1
  rw [A.hK, A.gK, A.gc] at q
  exact run_G A F (by rw [A.hK, A.gK]; exact hb) (passAt A.tk σ) I1 r q
end
end PV

/-! PV10: statements. -/
namespace PV
open PySem PySem.Spec PyProof.Rows L2

section
variable {X : Cx} {G : Gd} {W : WX} {N : List Str} {sc : Scope} {blk : Bool} {k : Nat} {Mo : Wo} {pos : Pos} {st : Stmt} {rest : List Stmt} {f g : Stm} {e : Expr}
/-- from a reading of an expression to a reading of a statement -/
theorem bindS {α β : Type} {RV : RVT α β} {fa : M α} {kk : α → Stm} {D : Ends} {O : Own} {env : SEnv} {σ : L2.St} {H : Hp} (R : Rel G O H σ env)
    (h : tAtS G W (fun env => match fa env with
      | none => none
      | some (.ok a, e) => kk a e
      | some (.ex x, e) => some (.ex x, e)) O env H D) :
    tG G W RV fa σ H (fun b H1 => ∃ a env1 O1, Rel G O1 H1 σ env1 ∧ Step O H O1 H1 ∧ RV σ a b env1 O1 H1 ∧ tAtS G W (kk a) O1 env1 H1 D) := by
  obtain ⟨r, er, p⟩ := h
  dsimp only at er
  cases hf : fa env with
  | none => rw [hf] at er; cases er
  | some q =>
    obtain ⟨q, env1⟩ := q
    rw [hf] at er
    cases q with
    | ok a => exact ⟨O, env, R, (.ok a, env1), hf, fun b O' H' R' s rv => ⟨a, env1, O', R', s, rv, r, er, p.weak s⟩⟩
    | ex x =>
      cases er
      exact ⟨O, env, R, (.ex x, env1), hf, fun c d O' H' R' s xr => p c d σ O' H' R' s xr⟩
def thenS {α : Type} (fa : M α) (kk : α → Stm) : Stm := fun env => match fa env with
  | none => none
  | some (.ok a, e) => kk a e
  | some (.ex x, e) => some (.ex x, e)
def nilS : Stm := fun env => some (.nx, env)
def seqS (f g : Stm) : Stm := fun env => match f env with
  | none => none
  | some (.nx, e) => g e
  | some r => some r
theorem nil_at {D : Ends} {O : Own} {env : SEnv} {σ : L2.St} {H : Hp} (t : tAtS G W nilS O env H D) (R : Rel G O H σ env) : D.nx σ H := by
  obtain ⟨r, er, p⟩ := t
  cases er
  exact p σ O H R Step.refl
theorem ss_nil : SSs X G W [] nilS := PSs.imp pss_nil fun D σ H ⟨O, env, R, t⟩ => nil_at t R
theorem seq_imp {t u : TS} {D : Ends} {σ : L2.St} {H : Hp} (h : tSt G W (seqS f g) D σ H) : tSt G W f { D with nx := tSt G W g D } σ H := by
  obtain ⟨O, env, R, r, er, p⟩ := h
  unfold seqS at er
  cases hf : f env with
  | none => rw [hf] at er; cases er
  | some q =>
    obtain ⟨fl, env1⟩ := q
    rw [hf] at er
    refine ⟨O, env, R, (fl, env1), hf, ?_⟩
    cases fl with
    | nx => exact fun σ' O' H' R' s => ⟨O', env1, R', r, er, p.weak s⟩
    | bk => cases er; exact p
    | ct => cases er; exact p
    | rt x => cases er; exact p
    | ex x => cases er; exact p
theorem ss_cons (h1 : SS X G W st f) (h2 : SSs X G W rest g) : SSs X G W (st :: rest) (seqS f g) :=
  PSs.imp (pss_cons h1 h2) fun D σ H h => seq_imp (t := tNext) (u := tNext) h
theorem ss_one (h1 : SS X G W st f) : SSs X G W [st] f := pss_one h1
def passS : Stm := nilS
theorem ss_pass : SS X G W (.Pass pos) passS := PS.imp ps_pass fun D σ H ⟨O, env, R, t⟩ => nil_at t R
def breakS : Stm := fun env => some (.bk, env)
def contS : Stm := fun env => some (.ct, env)
theorem ss_break : SS X G W (.Break pos) breakS := PS.imp ps_break fun D σ H ⟨O, env, R, r, er, p⟩ => by
  cases er; exact p σ O H R Step.refl
theorem ss_cont : SS X G W (.Continue pos) contS := PS.imp ps_continue fun D σ H ⟨O, env, R, r, er, p⟩ => by
  cases er; exact p σ O H R Step.refl
def retS (fa : M Vl) : Stm := thenS fa fun x env => some (.rt x, env)
theorem ss_ret {fa : M Vl} (h : SV X G W e fa) : SS X G W (.Return (some e) pos) (retS fa) := by
  refine PS.imp (ps_ret h) fun D σ H ⟨O, env, R, t⟩ => ?_
  obtain ⟨O1, env1, R1, r1, e1, p1⟩ := bindS (RV := RL G) R t
  refine ⟨O1, env1, R1, r1, e1, p1.mono fun v H2 ⟨x, env2, O2, R2, s2, rx, r, er, p⟩ => ?_⟩
  cases er
  exact p v σ O2 H2 R2 Step.refl rx
def retN : Stm := fun env => some (.rt (.d .none), env)
theorem ss_retN : SS X G W (.Return none pos) retN := PS.imp ps_retN fun D σ H ⟨O, env, R, r, er, p⟩ => by
  cases er; exact p .non σ O H R Step.refl (Rp.non' (K := G.K) (O := O) (H := H))
def dropS (fa : M Vl) : Stm := thenS fa fun _ env => some (.nx, env)
theorem ss_drop {fa : M Vl} (h : SV X G W e fa) (hs : swapsWith e none pos.line X.env = pure false := by rfl) : SS X G W (.Expr e pos) (dropS fa) := by
  refine PS.imp (ps_expr h hs) fun D σ H ⟨O, env, R, t⟩ => ?_
  obtain ⟨O1, env1, R1, r1, e1, p1⟩ := bindS (RV := RL G) R t
  refine ⟨O1, env1, R1, r1, e1, p1.mono fun v H2 ⟨x, env2, O2, R2, s2, rx, r, er, p⟩ => ?_⟩
  cases er
  exact p σ O2 H2 R2 Step.refl
def ifS (c : M Bool) (f g : Stm) : Stm := thenS c fun b => if b = true then f else g
theorem ss_if {c : Expr} {a b : List Stmt} {fc : M Bool} (hc : SB X G W c fc) (ha : SSs X G W a f) (hb : SSs X G W b g) : SS X G W (.If c a b pos) (ifS fc f g) := by
  refine PS.imp (ps_if hc ha hb) fun D σ H ⟨O, env, R, t⟩ => ?_
  obtain ⟨O1, env1, R1, r1, e1, p1⟩ := bindS (RV := RB) R t
  refine ⟨O1, env1, R1, r1, e1, p1.mono fun v H2 ⟨x, env2, O2, R2, s2, rx, t2⟩ => ?_⟩
  have rx' : x = v := rx
  subst rx'
  cases x with
  | true => exact ⟨O2, env2, R2, t2⟩
  | false => exact ⟨O2, env2, R2, t2⟩
def Vl.sl : Vl → Sl
  | .d x => .d x
  | .own xs => .own xs
/-- a name is given a value -/
def storeE (i : Nat) (s : Sl) (env : SEnv) : Option SEnv := match env[i]? with
  | none => none
  | some (some (.mu _)) => none
  | some _ => some (env.set i (some s))
theorem Rel.store {O : Own} {H : Hp} {σ : L2.St} {env env' : SEnv} {i : Nat} {x : Vl} {v : V} (R : Rel G O H σ env) (h : storeE i x.sl env = some env') (rx : RL G σ x v env O H) : Rel G O H (σ.set i (some v)) env' := by
  unfold storeE at h
  split at h
  · cases h
  · cases h
  · rename_i s hm hi
    cases h
    have hl : i < env.length := (List.getElem?_eq_some_iff.mp hi).1
    have hσ : (σ.set i (some v))[i]? = some (some v) := List.getElem?_set_self (by rw [← R.len]; exact hl)
    have nm : ∀ xs : List D, env[i]? ≠ some (some (Sl.mu xs)) := fun xs z => hm xs (by rw [hi] at z; exact Option.some.inj z)
    have R1 : Rel G O H (σ.set i (some v)) (env.set i none) := R.drop nm (List.length_set ..) fun j n => List.getElem?_set_ne (Ne.symm n)
    cases x with
    | d d =>
      have R2 := R1.putD (i := i) (x := d) (v := v) (fun ys z => by rw [List.getElem?_set_self hl] at z; cases z) hσ rx
      rw [set_again] at R2
      exact R2
    | own xs =>
      obtain ⟨p, vs, rfl, h1, ra, o1, h0, n⟩ := rx
      have R2 := R1.putOwn (i := i) (xs := xs) (p := p) (vs := vs) (List.getElem?_set_self hl) hσ h1 ra o1 h0 fun j hj ej => by
        obtain ⟨nj, hj⟩ := hj.of_drop
        rw [List.getElem?_set_ne (Ne.symm nj)] at ej
        exact n j hj ej
      rw [set_again] at R2
      exact R2
def asgS (i : Nat) (fa : M Vl) : Stm := thenS fa fun x env => (storeE i x.sl env).map fun e => (.nx, e)
theorem ss_asg (A : At0 X G N sc blk Mo) (i : Nat) {x : Str} {pos' : Pos} {fa : M Vl} (h : SV X G W e fa) (hi : N[i]? = some x := by rfl) (hx : Loc sc x := by first | exact Or.inl rfl | exact Or.inr rfl) (hf : blk = false ∨ sc.names.lookup x = some .local := by first | exact Or.inl rfl | exact Or.inr rfl)
    (hs : swapsWith e (some (.Name x pos')) pos.line X.env = pure false := by rfl) : SS X G W (.Assign [.Name x pos'] e pos) (asgS i fa) := by
  refine PS.imp (ps_set (i := i) (by rw [A.hN]; exact A.nd) (by rw [A.hN]; exact hi) (by rw [A.hsc]; exact hx) h hs (by
    rcases hf with z | z
    · exact .inl (A.fn z x)
    · exact .inr (by rw [A.hsc]; exact z))) fun D σ H ⟨O, env, R, t⟩ => ?_
  obtain ⟨O1, env1, R1, r1, e1, p1⟩ := bindS (RV := RL G) R t
  refine ⟨O1, env1, R1, r1, e1, p1.mono fun v H2 ⟨y, env2, O2, R2, s2, rx, r, er, p⟩ => ?_⟩
  dsimp only at er
  cases hst : storeE i y.sl env2 with
  | none => rw [hst] at er; cases er
  | some env3 =>
    rw [hst] at er
    cases er
    exact p _ O2 H2 (R2.store hst rx) Step.refl

/-! ### targets -/
abbrev Tgt := D → SEnv → Option SEnv
/-- slots but those at ws are left -/
def But (ws : List Nat) (σ σ' : L2.St) : Prop := σ'.length = σ.length ∧ ∀ j, j ∉ ws → σ'[j]? = σ[j]?
def tTg (G : Gd) (ws : List Nat) (t : Tgt) : TG := fun v σ H Q => ∃ O env d env', Rel G O H σ env ∧ Rp G.K O H d v ∧ t d env = some env' ∧ ∀ σ', Rel G O H σ' env' → But ws σ σ' → Q σ' H
def STg (X : Cx) (G : Gd) (tg : Expr) (ws : List Nat) (t : Tgt) : Prop := PG X tg (tTg G ws t)
abbrev Tgts := List D → SEnv → Option SEnv
def tTgs (G : Gd) (ws : List Nat) (t : Tgts) : TGs := fun vs σ H Q => ∃ O env ds env', Rel G O H σ env ∧ RpAll G.K O H ds vs ∧ t ds env = some env' ∧ ∀ σ', Rel G O H σ' env' → But ws σ σ' → Q σ' H
def STgs (X : Cx) (G : Gd) (tg : List Expr) (ws : List Nat) (t : Tgts) : Prop := PGs X tg (tTgs G ws t)
theorem PG.imp {X : Cx} {tg : Expr} {t u : TG} (h : PG X tg t) (q : ∀ v σ H Q, u v σ H Q → t v σ H Q) : PG X tg u := ⟨fun pins s σ H v w Q I r hu => h.run pins s σ H v w Q I r (q v σ H Q hu)⟩
theorem PGs.imp {X : Cx} {tg : List Expr} {t u : TGs} (h : PGs X tg t) (q : ∀ v σ H Q, u v σ H Q → t v σ H Q) : PGs X tg u := ⟨fun pins s σ H v w Q I r hu => h.run pins s σ H v w Q I r (q v σ H Q hu)⟩
def nameT (i : Nat) : Tgt := fun d env => storeE i (.d d) env
theorem st_name (A : At0 X G N sc blk Mo) (i : Nat) {x : Str} {pos' : Pos} (hi : N[i]? = some x := by rfl) (hx : Loc sc x := by first | exact Or.inl rfl | exact Or.inr rfl) (hf : blk = false ∨ sc.names.lookup x = some .local := by first | exact Or.inl rfl | exact Or.inr rfl) : STg X G (.Name x pos') [i] (nameT i) := by
  refine PG.imp (pg_name (i := i) (by rw [A.hN]; exact A.nd) (by rw [A.hN]; exact hi) (by rw [A.hsc]; exact hx) (by
    rcases hf with z | z
    · exact .inl (A.fn z x)
    · exact .inr (by rw [A.hsc]; exact z))) fun v σ H Q ⟨O, env, d, env', R, r, et, q⟩ => ?_
  exact q _ (R.store (x := .d d) et r) ⟨List.length_set .., fun j n => List.getElem?_set_ne fun z => n (by simp [z])⟩
def nilT : Tgts := fun ds env => match ds with
  | [] => some env
  | _ => none
def consT (t : Tgt) (u : Tgts) : Tgts := fun ds env => match ds with
  | [] => none
  | d :: r => match t d env with
    | none => none
    | some e => u r e
theorem sts_nil : STgs X G [] [] nilT := PGs.imp pgs_nil fun vs σ H Q ⟨O, env, ds, env', R, r, et, q⟩ => by
  cases ds with
  | nil =>
    cases et
    cases vs with
    | nil => exact ⟨rfl, q σ R ⟨rfl, fun _ _ => rfl⟩⟩
    | cons v vs => simp only [RpAll] at r
  | cons d ds => cases et
theorem sts_cons {es : List Expr} {ws us : List Nat} {t : Tgt} {u : Tgts} (h1 : STg X G e ws t) (h2 : STgs X G es us u) (hs : (assignEach (e :: es) X.env).map (·.2) = assign e X.env :: (assignEach es X.env).map (·.2) := by rfl) : STgs X G (e :: es) (ws ++ us) (consT t u) := by
  refine PGs.imp (pgs_cons h1 h2 hs) fun vs σ H Q ⟨O, env, ds, env', R, r, et, q⟩ => ?_
  cases ds with
  | nil => cases et
  | cons d ds =>
    cases vs with
    | nil => simp only [RpAll] at r
    | cons v vs =>
      simp only [RpAll] at r
      unfold consT at et
      cases ht : t d env with
      | none => simp only [ht] at et; cases et
      | some e1 =>
        simp only [ht] at et
        exact ⟨v, vs, rfl, O, env, d, e1, R, r.1, ht, fun σ' R' b1 => ⟨O, e1, ds, env', R', r.2, et, fun σ2 R2 b2 => q σ2 R2 ⟨b2.1.trans b1.1, fun j n => (b2.2 j fun z => n (List.mem_append_right _ z)).trans (b1.2 j fun z => n (List.mem_append_left _ z))⟩⟩⟩
def tupT (n : Nat) (u : Tgts) : Tgt := fun d env => match d with
  | .tuple ds => if ds.length = n then u ds env else none
  | _ => none
theorem st_tup (A : At X G W N sc blk k Mo) {es : List Expr} {kk : Nat} {ws : List Nat} {u : Tgts} {n : Nat} (h : STgs X G es ws u) (hn : (assignEach es X.env).length = n := by rfl) (hst : (assignEach es X.env).findIdx? (·.1) = none := by rfl) : STg X G (.Tuple es kk pos) ws (tupT n u) := by
  refine PG.imp (pg_tup A.calm h hn hst) fun v σ H Q ⟨O, env, d, env', R, r, et, q⟩ => ?_
  unfold tupT at et
  split at et
  · rename_i ds
    split at et
    · rename_i hl
      obtain ⟨a, xs, rfl, ra, qa⟩ := Rp.tup_inv r
      exact ⟨a, xs, rfl, by rw [A.hK]; exact ra.sq, by rw [← qa.length]; exact hl, O, env, ds, env', R, qa, et, q⟩
    · cases et
  · cases et
/-- target = e, the value a tree -/
def tasS (fa : M D) (t : Tgt) : Stm := thenS fa fun d env => (t d env).map fun e => (.nx, e)
theorem ss_tas {tg : Expr} {fa : M D} {ws : List Nat} {t : Tgt} (h : SD X G W e fa) (ht : STg X G tg ws t) (hs : swapsWithSole [tg] e pos.line X.env = pure false := by rfl) (hw : swappedStores [tg] e X.env = pure none := by rfl) (h1 : (assignEach [tg] X.env).map (·.2) = [assign tg X.env] := by rfl) : SS X G W (.Assign [tg] e pos) (tasS fa t) := by
  refine PS.imp (ps_asg h ht hs hw h1) fun D σ H ⟨O, env, R, tt⟩ => ?_
  obtain ⟨O1, env1, R1, r1, e1, p1⟩ := bindS (RV := RD G) R tt
  refine ⟨O1, env1, R1, r1, e1, p1.mono fun v H2 ⟨d, env2, O2, R2, s2, rx, r, er, p⟩ => ?_⟩
  dsimp only at er
  cases hst : t d env2 with
  | none => rw [hst] at er; cases er
  | some env3 =>
    rw [hst] at er
    cases er
    exact ⟨O2, env2, d, env3, R2, rx, hst, fun σ' R' _ => p σ' O2 H2 R' Step.refl⟩
/-- a, b = x, y (plain names) -/
def parS (i j : Nat) (fa : M (List D)) : Stm := thenS fa fun ds env => match ds with
  | [x, y] => match storeE i (.d x) env with
    | none => none
    | some e => (storeE j (.d y) e).map fun e => (.nx, e)
  | _ => none
theorem ss_par (A : At X G W N sc blk k Mo) (i j : Nat) {x y : Str} {a b : Expr} {fa : M (List D)} {px py pt : Pos} {kt k2 : Nat} {pt2 : Pos} (h : SA X G W [a, b] fa) (hi : N[i]? = some x := by rfl) (hj : N[j]? = some y := by rfl) (hij : i ≠ j := by decide)
    (hx : sc.names.lookup x = some .local := by rfl) (hy : sc.names.lookup y = some .local := by rfl)
    (hw : ∀ env : Env, env.scope = sc → swappedStores [.Tuple [.Name x px, .Name y py] kt pt] (.Tuple [a, b] k2 pt2) env = pure (some [x, y]) := by intro env h; obtain ⟨⟩ := env; cases h; rfl)
    (hs : swapsWithSole [.Tuple [.Name x px, .Name y py] kt pt] (.Tuple [a, b] k2 pt2) pos.line X.env = pure false := by rfl) :
    SS X G W (.Assign [.Tuple [.Name x px, .Name y py] kt pt] (.Tuple [a, b] k2 pt2) pos) (parS i j fa) := by
  refine PS.imp (ps_par A.calm (by rw [A.hN]; exact A.nd) (by rw [A.hN]; exact hi) (by rw [A.hN]; exact hj) hij (by rw [A.hsc]; exact hx) (by rw [A.hsc]; exact hy) h (hw _ A.hsc) hs) fun D σ H ⟨O, env, R, t⟩ => ?_
  obtain ⟨O1, env1, R1, r1, e1, p1⟩ := bindS (RV := RA G) R t
  refine ⟨O1, env1, R1, r1, e1, p1.mono fun vs H2 ⟨ds, env2, O2, R2, s2, rx, r, er, p⟩ => ?_⟩
  dsimp only at er
  split at er
  · rename_i dx dy
    obtain ⟨v, w, rfl, rv, rw'⟩ := RpAll.two rx
    cases h1 : storeE i (.d dx) env2 with
    | none => rw [h1] at er; cases er
    | some e1 =>
      rw [h1] at er
      dsimp only at er
      cases h2 : storeE j (.d dy) e1 with
      | none => rw [h2] at er; cases er
      | some e2 =>
        rw [h2] at er
        cases er
        have R3 := R2.store (x := .d dx) h1 rv
        have R4 := R3.store (x := .d dy) h2 rw'
        exact ⟨v, w, rfl, p _ O2 H2 R4 Step.refl⟩
  · cases er
/-- x op= e of whole numbers and of what + serves -/
def augS (i : Nat) (fa : M D) (g : D → D → Option Vl) : Stm := thenS ((rdM i).bnd fun a => fa.bnd fun b => M.opt (g a b)) fun x env => (storeE i x.sl env).map fun e => (.nx, e)
end
end PV

/-! PV11: stores into lists, loops. -/
namespace PV
open PySem PySem.Spec PyProof.Rows L2

section
variable {G : Gd} {O : Own} {H : Hp} {σ : L2.St} {env : SEnv}
/-- the list of slot i changed -/
theorem Rel.changed (R : Rel G O H σ env) {i : Nat} {xs ys : List D} {p : Addr} {vs : List V} (h : listAt env i = some xs) (hp : σ[i]? = some (some (V.ref p))) (hv : H p ≠ none) (ry : RpAll G.K O H ys vs) : Rel G O (upd H p (.lst vs)) σ (setOut env i ys) ∧ Step O H O (upd H p (.lst vs)) := by
  have st : Step O H O (upd H p (.lst vs)) := fun a o e n => by
    refine ⟨?_, n⟩
    rw [upd_ne fun z => ?_]
    · exact e
    · subst z
      obtain ⟨q, ws, e1, _, _, e2, _⟩ := R.lstAt h
      rw [hp] at e1; cases e1
      exact n e2
  refine R.called (is := [i]) (ads := [p]) (outs := [ys]) (O' := O) (H' := upd H p (.lst vs)) (by simp) rfl (fun j hj => ?_) (fun j q hq => ?_) (fun a o e n => ?_) ?_ (.inl rfl) rfl
  · have e : j = i := by simpa using hj
    subst e
    exact ⟨xs, h⟩
  · have e : j = i ∧ q = p := by simpa using hq
    obtain ⟨rfl, rfl⟩ := e
    exact hp
  · rw [upd_ne fun z => n (by simp [z])]; exact e
  · simp only [MutsR]
    exact ⟨⟨vs, upd_same, RpAll.step st ys vs ry⟩, True.intro⟩
end

section
variable {X : Cx} {G : Gd} {W : WX} {N : List Str} {sc : Scope} {blk : Bool} {k : Nat} {Mo : Wo} {pos : Pos} {st : Stmt} {rest : List Stmt} {f g : Stm} {e : Expr}
theorem name_pe (A : At X G W N sc blk k Mo) (i : Nat) {x : Str} {p : Pos} (hi : N[i]? = some x) (hv : Vis sc x) (hd : (x == ("__debug__" : Str)) = false) (hcd : (x == ("__classdict__" : Str)) = false) : PE X (.Name x p) (tVar i) :=
  pe_var (i := i) (by rw [A.hN]; exact hi) (by rw [A.hsc]; exact hv) hd hcd

/-- xs.append(e), xs of slot i -/
def appM (i : Nat) (fe : M D) : M Vl := fun env => match listAt env i with
  | none => none
  | some _ => fe.bnd (fun d env1 => match listAt env1 i with
    | none => none
    | some xs => if xs.length < sizeLine then some (.ok (.d .none), setOut env1 i (xs ++ [d])) else none) env
theorem sv_append (A : At X G W N sc blk k Mo) (i : Nat) {x : Str} {p apos : Pos} {fe : M D} (h : SD X G W e fe) (hi : N[i]? = some x := by rfl) (hv : Vis sc x := by first | exact Or.inl rfl | exact Or.inr (Or.inl rfl) | exact Or.inr (Or.inr rfl)) (hd : (x == ("__debug__" : Str)) = false := by decide) (hcd : (x == ("__classdict__" : Str)) = false := by decide)
    (hs : starEach [e] X.env = (false, eval e X.env) :: starEach [] X.env := by rfl)
    (hbase : attributeBase (.Name x p) "append" X.env (eval (.Name x p) X.env) = eval (.Name x p) X.env := by rfl)
    (hfew : ((backTo pos (starEach [e] X.env)).all (fun x => !x.1) && (backToKw pos (keywordEach [] X.env)).all (fun x => x.1.isSome)
      && decide ([e].length + ([] : List Keyword).length + (if ([] : List Keyword).isEmpty then 0 else 1) < 30)) = true := by rfl)
    (hline : (apos.endLine == pos.line) = true := by rfl) (hplain : (backTo pos (starEach [] X.env)).any (·.1) = false := by rfl) : SV X G W (.Call (.Attribute (.Name x p) "append" apos) [e] [] pos) (appM i fe) := by
  refine PE.imp (pe_bm PySem.F.plainAttrs_list PySem.F.slot_list_append PySem.F.type_list_append mt_append (name_pe A i hi hv hd hcd) (pa_cons h pa_nil hs) hbase hfew hline hs hplain) fun σ H Q ⟨O, env, R, r, er, pr⟩ => ?_
  unfold appM at er
  split at er
  · cases er
  · rename_i xs hl
    obtain ⟨q, vs, e1, e2, _⟩ := R.lstAt hl
    refine ⟨_, e1, .inl ⟨rfl, vs, SqL.of e2⟩, ?_⟩
    obtain ⟨O1, env1, R1, r1, e3, p1⟩ := bindL (RV := RD G) (RW := RL G) (Q := Q) R ⟨r, er, pr⟩
    refine ⟨O1, env1, R1, r1, e3, p1.mono fun v H2 ⟨d, env2, O2, R2, s2, rd, r2, er2, p2⟩ => ?_⟩
    dsimp only at er2
    split at er2
    · cases er2
    · rename_i ys hl2
      split at er2
      · rename_i hz
        cases er2
        obtain ⟨q', ws, f1, f2, f3, _⟩ := R2.lstAt hl2
        rw [e1] at f1; cases f1
        have ry : RpAll G.K O2 H2 (ys ++ [d]) (ws ++ [v]) := f3.append (by simp only [RpAll]; exact ⟨rd, True.intro⟩)
        obtain ⟨R3, s3⟩ := R2.changed hl2 e1 (by rw [f2]; exact fun z => nomatch z) ry
        refine ⟨q, ws, v, rfl, rfl, f2, by rw [← f3.length]; exact hz, p2 .non O2 _ R3 s3 (Rp.non' (K := G.K) (O := O2) (H := upd H2 q (.lst (ws ++ [v]))))⟩
      · cases er2
/-- xs[i] = e, xs of slot j -/
def setS (j : Nat) (fe fi : M D) : Stm := thenS fe fun v env => match listAt env j with
  | none => none
  | some _ => thenS fi (fun kd env1 => match kd, listAt env1 j with
    | .int kk, some xs => match ixN xs.length kk with
      | some n => some (.nx, setOut env1 j (xs.set n v))
      | none => none
    | _, _ => none) env
theorem ss_set (A : At X G W N sc blk k Mo) (j : Nat) {x : Str} {i : Expr} {p sp : Pos} {fe fi : M D} (h : SD X G W e fe) (h' : SD X G W i fi) (hi : N[j]? = some x := by rfl) (hv : Vis sc x := by first | exact Or.inl rfl | exact Or.inr (Or.inl rfl) | exact Or.inr (Or.inr rfl)) (hd : (x == ("__debug__" : Str)) = false := by decide) (hcd : (x == ("__classdict__" : Str)) = false := by decide)
    (ha : ∀ v, assign (.Subscript (.Name x p) i sp) X.env v = (do
      let ov ← holding [v] (eval (.Name x p) X.env)
      let iv ← holding [v, ov] (eval i X.env)
      standAt sp
      holding [v, ov, iv] (setItem ov iv v)
      release [v, ov, iv] []) := by intro _; rfl)
    (hs : swapsWithSole [.Subscript (.Name x p) i sp] e pos.line X.env = pure false := by rfl) (hw : swappedStores [.Subscript (.Name x p) i sp] e X.env = pure none := by rfl) (h1 : (assignEach [.Subscript (.Name x p) i sp] X.env).map (·.2) = [assign (.Subscript (.Name x p) i sp) X.env] := by rfl) :
    SS X G W (.Assign [.Subscript (.Name x p) i sp] e pos) (setS j fe fi) := by
  refine PS.imp (ps_asg h (pg_sub (name_pe A j hi hv hd hcd) h' set_list ha) hs hw h1) fun D σ H ⟨O, env, R, t⟩ => ?_
  obtain ⟨O1, env1, R1, r1, e1, p1⟩ := bindS (RV := RD G) R t
  refine ⟨O1, env1, R1, r1, e1, p1.mono fun v H2 ⟨dv, env2, O2, R2, s2, rv, r, er, pr⟩ => ?_⟩
  dsimp only at er
  cases hl : listAt env2 j with
  | none => rw [hl] at er; cases er
  | some xs =>
    rw [hl] at er
    dsimp only at er
    obtain ⟨q, vs, f1, f2, _⟩ := R2.lstAt hl
    refine ⟨_, f1, ?_⟩
    obtain ⟨O3, env3, R3, r3, e3, p3⟩ := bindS (RV := RD G) (D := D) R2 ⟨r, er, pr⟩
    refine ⟨O3, env3, R3, r3, e3, p3.mono fun kv H4 ⟨kd, env4, O4, R4, s4, rk, r5, er5, p5⟩ => ?_⟩
    dsimp only at er5
    split at er5
    · rename_i kk xs' hl4
      cases hn : ixN xs'.length kk with
      | none => rw [hn] at er5; cases er5
      | some n =>
        rw [hn] at er5
        cases er5
        obtain ⟨q', ws, g1, g2, g3, _⟩ := R4.lstAt hl4
        rw [f1] at g1; cases g1
        have ry : RpAll G.K O4 H4 (xs'.set n dv) (ws.set n v) := g3.set n (Rp.step s4 dv v rv)
        obtain ⟨R5, s5⟩ := R4.changed hl4 f1 (by rw [g2]; exact fun z => nomatch z) ry
        exact ⟨q, ws, kk, n, rfl, Rp.int_inv rk, g2, by rw [← g3.length]; exact hn, p5 σ O4 _ R5 s5⟩
    · cases er5
/-- xs[i], xs the list of slot j, not let go -/
def atM (j : Nat) (fi : M D) : M D := fun env => match listAt env j with
  | none => none
  | some _ => fi.bnd (fun kd env1 => match kd, listAt env1 j with
    | .int kk, some xs => match L2.atI xs kk with
      | some d => some (.ok d, env1)
      | none => none
    | _, _ => none) env
theorem sd_at (A : At X G W N sc blk k Mo) (j : Nat) {x : Str} {i : Expr} {p : Pos} {fi : M D} (h' : SD X G W i fi) (hs : PlainIx i) (hi : N[j]? = some x := by rfl) (hv : Vis sc x := by first | exact Or.inl rfl | exact Or.inr (Or.inl rfl) | exact Or.inr (Or.inr rfl)) (hd : (x == ("__debug__" : Str)) = false := by decide) (hcd : (x == ("__classdict__" : Str)) = false := by decide) :
    SD X G W (.Subscript (.Name x p) i pos) (atM j fi) := by
  refine PE.imp (pe_ix ix_list (name_pe A j hi hv hd hcd) h' hs) fun σ H Q ⟨O, env, R, r, er, pr⟩ => ?_
  unfold atM at er
  split at er
  · cases er
  · rename_i xs hl
    obtain ⟨q, vs, e1, e2, _⟩ := R.lstAt hl
    refine ⟨_, e1, ?_⟩
    obtain ⟨O1, env1, R1, r1, e3, p1⟩ := bindL (RV := RD G) (RW := RD G) (Q := Q) R ⟨r, er, pr⟩
    refine ⟨O1, env1, R1, r1, e3, p1.mono fun kv H2 ⟨kd, env2, O2, R2, s2, rk, r2, er2, p2⟩ => ?_⟩
    dsimp only at er2
    split at er2
    · rename_i kk xs' hl2
      cases hn : L2.atI xs' kk with
      | none => rw [hn] at er2; cases er2
      | some d =>
        rw [hn] at er2
        cases er2
        obtain ⟨q', ws, g1, g2, g3, _⟩ := R2.lstAt hl2
        rw [e1] at g1; cases g1
        obtain ⟨v, hv', rv⟩ := g3.atI hn
        exact ⟨q, ws, kk, v, rfl, Rp.int_inv rk, SqL.of g2, hv', p2 v O2 H2 R2 Step.refl rv⟩
    · cases er2
/-- len(xs), xs the list of slot j, not let go -/
def lenM (j : Nat) : M D := fun env => match listAt env j with
  | none => none
  | some xs => some (.ok (.int xs.length), env)
theorem sd_len (A : At X G W N sc blk k Mo) (j : Nat) {x : Str} {p p2 : Pos} (hg : sc.names.lookup ("len" : Str) = some .globalImplicit) (hm : Mo.mg "len" = none) (hi : N[j]? = some x := by rfl) (hv : Vis sc x := by first | exact Or.inl rfl | exact Or.inr (Or.inl rfl) | exact Or.inr (Or.inr rfl)) (hd : (x == ("__debug__" : Str)) = false := by decide) (hcd : (x == ("__classdict__" : Str)) = false := by decide)
    (hs : starEach [.Name x p] X.env = (false, eval (.Name x p) X.env) :: starEach [] X.env := by rfl) (hpl : (backTo pos (starEach [] X.env)).any (·.1) = false := by rfl) : SD X G W (.Call (.Name "len" p2) [.Name x p] [] pos) (lenM j) := by
  refine PE.imp (pe_callB call_len_seq (by show X.env.scope.names.lookup ("len" : Str) = _; rw [A.hsc]; exact hg) (by rw [A.hmg]; exact hm) PySem.boot_len (pa_cons (name_pe A j hi hv hd hcd) pa_nil hs) (by decide) (by decide) hs hpl) fun σ H Q ⟨O, env, R, r, er, pr⟩ => ?_
  unfold lenM at er
  split at er
  · cases er
  · rename_i xs hl
    cases er
    obtain ⟨q, vs, e1, e2, e3, _⟩ := R.lstAt hl
    exact ⟨_, e1, q, vs, rfl, .inl (SqL.of e2), pr _ O H R Step.refl (by show Rp G.K O H (.int xs.length) (.int vs.length); rw [e3.length]; exact Rp.int')⟩
/-- xs == e, xs the list of slot j, not let go (xs != e: neg) -/
def eqM (j : Nat) (g : D → D → Option Vl) (fe : M D) : M Vl := fun env => match listAt env j with
  | none => none
  | some _ => fe.bnd (fun d env1 => match listAt env1 j with
    | some xs => M.opt (g (.list xs) d) env1
    | none => none) env
/-- the list of a slot, as a tree, as long as nothing is changed -/
theorem Rel.peek {O : Own} {H : Hp} {σ : L2.St} {env : SEnv} (R : Rel G O H σ env) {j : Nat} {xs : List D} (h : listAt env j = some xs) : ∃ (p : Addr) (O' : Own), σ[j]? = some (some (V.ref p)) ∧ (∀ a, O' a → O a) ∧ (∀ a, O a → a ≠ p → O' a) ∧ Rp G.K O' H (.list xs) (.ref p) := by
  obtain ⟨q, vs, e1, e2, e3, e4, _⟩ := R.lstAt h
  refine ⟨q, fun a => O a ∧ a ≠ q, e1, fun a z => z.1, fun a z n => ⟨z, n⟩, ?_⟩
  simp only [Rp]
  exact ⟨q, vs, rfl, .inl ⟨.inl e2, fun z => z.2 rfl⟩, RpAll.step (fun a o h n => ⟨h, fun z => n z.1⟩) xs vs e3⟩
theorem sv_eqM (A : At X G W N sc blk k Mo) (j : Nat) {op : CmpOp} {gg : D → D → Option Vl} {rr : R2} {x : Str} {b : Expr} {p : Pos} {fe : M D} (ho : OpR X (compareOp op) rr) (s : OpS X.K rr gg) (hgd : ∀ x y v, gg x y = some v → ∃ d, v = .d (.bool d)) (hm : behindInMarks op b = false) (h : SD X G W b fe) (hi : N[j]? = some x := by rfl) (hv : Vis sc x := by first | exact Or.inl rfl | exact Or.inr (Or.inl rfl) | exact Or.inr (Or.inr rfl)) (hd : (x == ("__debug__" : Str)) = false := by decide) (hcd : (x == ("__classdict__" : Str)) = false := by decide) :
    SV X G W (.Compare (.Name x p) [op] [b] pos) (eqM j gg fe) := by
  refine PE.imp (pe_cmpR ho (name_pe A j hi hv hd hcd) h hm) fun σ H Q ⟨O, env, R, r, er, pr⟩ => ?_
  unfold eqM at er
  split at er
  · cases er
  · rename_i xs hl
    obtain ⟨q, vs, e1, e2, _⟩ := R.lstAt hl
    refine ⟨_, e1, ?_⟩
    obtain ⟨O1, env1, R1, r1, e3, p1⟩ := bindL (RV := RD G) (RW := RL G) (Q := Q) R ⟨r, er, pr⟩
    refine ⟨O1, env1, R1, r1, e3, p1.mono fun y H2 ⟨d, env2, O2, R2, s2, rd, t2⟩ => ?_⟩
    obtain ⟨r2, er2, p2⟩ := t2
    dsimp only at er2
    cases hl2 : listAt env2 j with
    | none => rw [hl2] at er2; cases er2
    | some ys =>
      rw [hl2] at er2
      obtain ⟨vl, ev, qq⟩ := finOp R2 (Q := Q) ⟨r2, er2, p2⟩
      obtain ⟨d', rfl⟩ := hgd _ _ _ ev
      obtain ⟨q', O', f1, f2, f3, f4⟩ := R2.peek hl2
      rw [e1] at f1; cases f1
      rw [A.hK] at s
      refine s O' H2 (.ref q) y (.list ys) d _ Q (fun a z => R2.ol a (f2 a z)) f4 (Rp.step (fun a o h n => ⟨h, fun z => n (f2 a z)⟩) d y rd) ev fun v H' g rv => ?_
      exact qq v H' g (by have rv' : Rp G.K O' H' (.bool d') v := rv; show Rp G.K O2 H' (.bool d') v; rw [rv'.bl_inv]; exact Rp.bl')
/-- xs[a:b], xs the list of slot j, not let go -/
def cutM (j : Nat) (fl fh : M (Option Int)) : M Vl := fun env => match listAt env j with
  | none => none
  | some _ => fl.bnd (fun l => fh.bnd fun h env1 => match listAt env1 j with
    | some xs => some (.ok (.own (cutL xs l h)), env1)
    | none => none) env
theorem optAny {O : Own} {H : Hp} {σ : L2.St} {env : SEnv} {α β : Type} {RV : RVT α β} {Q : β → Hp → Prop} {a : α} (t : tAt G W RV (fun env => some (.ok a, env)) O env σ H Q) : tAt G W RV (M.opt (some a)) O env σ H Q := t
theorem sv_cutM (A : At X G W N sc blk k Mo) (j : Nat) {x : Str} {lo hi' : Option Expr} {p p2 : Pos} {fl fh : M (Option Int)} (hl : SO X G W lo fl) (hh : SO X G W hi' fh) (hi : N[j]? = some x := by rfl) (hv : Vis sc x := by first | exact Or.inl rfl | exact Or.inr (Or.inl rfl) | exact Or.inr (Or.inr rfl)) (hd : (x == ("__debug__" : Str)) = false := by decide) (hcd : (x == ("__classdict__" : Str)) = false := by decide) :
    SV X G W (.Subscript (.Name x p) (.Slice lo hi' none p2) pos) (cutM j fl fh) := by
  refine PE.imp (pe_slice sl_list (name_pe A j hi hv hd hcd) hl hh) fun σ H Q ⟨O, env, R, r, er, pr⟩ => ?_
  unfold cutM at er
  split at er
  · cases er
  · rename_i xs hl0
    obtain ⟨q, vs, e1, e2, _⟩ := R.lstAt hl0
    refine ⟨_, e1, ?_⟩
    obtain ⟨O1, env1, R1, r1, e3, p1⟩ := bindL (RV := RO) (RW := RL G) (Q := Q) R ⟨r, er, pr⟩
    refine ⟨O1, env1, R1, r1, e3, p1.mono fun l H2 ⟨l', env2, O2, R2, s2, rl, t2⟩ => ?_⟩
    obtain ⟨O3, env3, R3, r3, e5, p3⟩ := bindL (RV := RO) (RW := RL G) (Q := Q) R2 t2
    refine ⟨O3, env3, R3, r3, e5, p3.mono fun h H4 ⟨h', env4, O4, R4, s4, rh, r6, er6, p6⟩ => ?_⟩
    have rl' : l' = l := rl
    have rh' : h' = h := rh
    subst rl' rh'
    dsimp only at er6
    cases hl4 : listAt env4 j with
    | none => rw [hl4] at er6; cases er6
    | some ys =>
      rw [hl4] at er6
      cases er6
      obtain ⟨q', ws, g1, g2, g3, _⟩ := R4.lstAt hl4
      rw [e1] at g1; cases g1
      obtain ⟨vl, ev, qq⟩ := finOp R4 (o := some (.own (cutL ys l' h'))) (Q := Q) ⟨_, rfl, p6⟩
      cases ev
      exact ⟨q, ws, rfl, SqL.of g2, fun p hp => qq.lst (g3.cut l' h') hp⟩
end
end PV

/-! PV12: while, for, what is walked, comprehensions. -/
namespace PV
open PySem PySem.Spec PyProof.Rows L2

/-! ### while -/
def whileN (c : M Bool) (b : Stm) : Nat → Stm
  | 0, _ => none
  | n + 1, env => match c env with
    | none => none
    | some (.ex x, e) => some (.ex x, e)
    | some (.ok false, e) => some (.nx, e)
    | some (.ok true, e) => match b e with
      | none => none
      | some (.nx, e') => whileN c b n e'
      | some (.ct, e') => whileN c b n e'
      | some (.bk, e') => some (.nx, e')
      | some (.rt x, e') => some (.rt x, e')
      | some (.ex x, e') => some (.ex x, e')
theorem whileN_mono {c : M Bool} {b : Stm} : ∀ {n m : Nat} {env : SEnv} {r : Fl × SEnv}, n ≤ m → whileN c b n env = some r → whileN c b m env = some r
  | 0, _, _, _, _, h => by cases h
  | n + 1, 0, _, _, hl, _ => absurd hl (by omega)
  | n + 1, m + 1, env, r, hl, h => by
    unfold whileN at h ⊢
    cases hc : c env with
    | none => rw [hc] at h; cases h
    | some q =>
      obtain ⟨q, e⟩ := q
      rw [hc] at h
      cases q with
      | ex x => exact h
      | ok bb =>
        cases bb with
        | false => exact h
        | true =>
          dsimp only at h ⊢
          cases hb : b e with
          | none => rw [hb] at h; cases h
          | some q2 =>
            obtain ⟨fl, e'⟩ := q2
            rw [hb] at h
            cases fl with
            | nx => exact whileN_mono (by omega) h
            | ct => exact whileN_mono (by omega) h
            | bk => exact h
            | rt x => exact h
            | ex x => exact h
open Classical in
noncomputable def whileS (c : M Bool) (b : Stm) : Stm := fun env => if h : ∃ n, (whileN c b n env).isSome = true then whileN c b (Classical.choose h) env else none
theorem whileS_of {c : M Bool} {b : Stm} {n : Nat} {env : SEnv} {r : Fl × SEnv} (h : whileN c b n env = some r) : whileS c b env = some r := by
  have hx : ∃ n, (whileN c b n env).isSome = true := ⟨n, by rw [h]; rfl⟩
  unfold whileS
  rw [dif_pos hx]
  obtain ⟨r', e⟩ := Option.isSome_iff_exists.mp (Classical.choose_spec hx)
  rw [e]
  have h1 := whileN_mono (Nat.le_max_left n (Classical.choose hx)) h
  have h2 := whileN_mono (Nat.le_max_right n (Classical.choose hx)) e
  rw [h1] at h2
  exact h2.symm
theorem whileS_ex {c : M Bool} {b : Stm} {env : SEnv} {r : Fl × SEnv} (h : whileS c b env = some r) : ∃ n, whileN c b n env = some r := by
  unfold whileS at h
  split at h
  · exact ⟨_, h⟩
  · cases h

section
variable {X : Cx} {G : Gd} {W : WX} {N : List Str} {sc : Scope} {blk : Bool} {k : Nat} {Mo : Wo} {pos : Pos} {e : Expr}
theorem ss_while (A : At X G W N sc blk k Mo) {c : Expr} {body : List Stmt} {fc : M Bool} {f : Stm} (hc : SB X G W c fc) (hb : SSs X G W body f) : SS X G W (.While c body [] pos) (whileS fc f) := by
  refine PS.imp (ps_while A.pass hc hb) fun D σ H ⟨O, env, R, r, er, pr⟩ => ?_
  obtain ⟨n, hn⟩ := whileS_ex er
  refine ⟨fun m σ H1 => ∃ O1 env1, Rel G O1 H1 σ env1 ∧ Step O H O1 H1 ∧ whileN fc f m env1 = some r, ⟨n, O, env, R, Step.refl, hn⟩, ?_⟩
  rintro m σ1 H1 ⟨O1, env1, R1, s1, h1⟩
  cases m with
  | zero => cases h1
  | succ m =>
    unfold whileN at h1
    cases hcc : fc env1 with
    | none => rw [hcc] at h1; cases h1
    | some q =>
      obtain ⟨q, env2⟩ := q
      rw [hcc] at h1
      refine ⟨O1, env1, R1, (q, env2), hcc, ?_⟩
      cases q with
      | ex x =>
        cases h1
        exact fun cl dd O' H' R' s' xr => pr cl dd σ1 O' H' R' (s1.trans s') xr
      | ok bb =>
        intro b O2 H2 R2 s2 rb
        have rb' : bb = b := rb
        subst rb'
        cases bb with
        | false =>
          cases h1
          exact pr σ1 O2 H2 R2 (s1.trans s2)
        | true =>
          dsimp only at h1
          refine ⟨fun σ' H' => ∃ O3 env3, Rel G O3 H' σ' env3 ∧ Step O H O3 H' ∧ whileN fc f m env3 = some r, fun σ' H' hN => ⟨m, Nat.lt_succ_self m, hN⟩, ?_⟩
          cases hf : f env2 with
          | none => rw [hf] at h1; cases h1
          | some q2 =>
            obtain ⟨fl, env3⟩ := q2
            rw [hf] at h1
            refine ⟨O2, env2, R2, (fl, env3), hf, ?_⟩
            have s12 := s1.trans s2
            cases fl with
            | nx => exact fun σ' O' H' R' s' => ⟨O', env3, R', s12.trans s', h1⟩
            | ct => exact fun σ' O' H' R' s' => ⟨O', env3, R', s12.trans s', h1⟩
            | bk =>
              cases h1
              exact fun σ' O' H' R' s' => pr σ' O' H' R' (s12.trans s')
            | rt x =>
              cases h1
              exact fun v σ' O' H' R' s' rl => pr v σ' O' H' R' (s12.trans s') rl
            | ex x =>
              cases h1
              exact fun cl dd σ' O' H' R' s' xr => pr cl dd σ' O' H' R' (s12.trans s') xr
end

/-! ### what is walked -/
/-- the iterator hands out these trees, one behind another -/
def ItOk (G : Gd) (J : It) (O1 : Own) (H1 : Hp) (ds : List D) : Prop := ∀ O H, Step O1 H1 O H → (∀ a, O a → H a ≠ none) →
  (∀ i d, ds[i]? = some d → J.go i H ∧ ∀ x H', J.yld i H x H' → Grow H H' ∧ Rp G.K O H' d x) ∧ J.stop ds.length H
def RI (G : Gd) : RVT (List D) It := fun _ ds J _ O H => ItOk G J O H ds
def SI (X : Cx) (G : Gd) (W : WX) (tg iter : Expr) (f : M (List D)) : Prop := PI X tg iter (tG G W (RI G) f)
theorem PI.imp {X : Cx} {tg iter : Expr} {t u : TI} (h : PI X tg iter t) (q : ∀ σ H R, u σ H R → t σ H R) : PI X tg iter u := ⟨fun pins s σ H R I hu => h.run pins s σ H R I (q σ H R hu)⟩
def itemsD : D → Option (List D)
  | .list ds => some ds
  | .tuple ds => some ds
  | _ => none
def seqI (f : M D) : M (List D) := f.bnd fun d => M.opt (itemsD d)
section
variable {X : Cx} {G : Gd} {W : WX} {N : List Str} {sc : Scope} {blk : Bool} {k : Nat} {Mo : Wo} {pos : Pos} {e tg iter : Expr}
/-- a list or a tuple, whichever it is -/
theorem pi_seq {l : Expr} {tl : TE} (hl : PE X l tl) : PI X tg l (fun σ H R => tl σ H fun x H1 => ∃ a, x = V.ref a ∧ (((∃ xs, SqL X.K H1 a xs) ∧ R (Itl X.K a) H1) ∨ ((∃ xs, SqT X.K H1 a xs) ∧ R (Itt X.K a) H1))) := by
  refine ⟨fun pins s σ H R I h => ?_⟩
  refine thn (hl.run pins s σ H _ I h) fun v s1 ⟨x, H1, I1, r1, a, e, q⟩ => ?_
  subst e
  cases r1
  have newFp : ∀ b ∈ [s1.heap.objs.size], FpOk X pins H1 b := fun b hb => by
    have e : b = s1.heap.objs.size := by simpa using hb
    rw [e]
    exact I1.fpOk (Nat.le_refl _) (I1.hok.fresh (Nat.le_refl _))
  rcases q with ⟨⟨xs, hq⟩, q⟩ | ⟨⟨xs, hq⟩, q⟩
  · obtain ⟨its, rv, p, hz⟩ := I1.list hq
    exact wpAny_pyIter_list p.isList ⟨s1.heap.objs.size, [s1.heap.objs.size], _, _, H1, rfl, I1.kept (t' := s1.toks) fun b o z => Heap.get?_push_of_some _ z, turn_list a _, ⟨_, Heap.get?_push_size _ rfl, rfl, rfl⟩, newFp, q⟩
  · obtain ⟨its, rv, p, hz⟩ := I1.tuple hq
    exact wpAny_pyIter_tuple (show s1.heap.IsTuple a its.toArray from p) ⟨s1.heap.objs.size, [s1.heap.objs.size], _, _, H1, rfl, I1.kept (t' := s1.toks) fun b o z => Heap.get?_push_of_some _ z, turn_tuple a _, ⟨_, Heap.get?_push_size _ rfl, rfl, rfl⟩, newFp, q⟩
theorem itl_ok {O1 : Own} {H1 : Hp} {a : Addr} {xs : List V} {ds : List D} (ra : RdL G.K O1 H1 a xs) (qa : RpAll G.K O1 H1 ds xs) : ItOk G (Itl G.K a) O1 H1 ds := fun O H st ol => by
  have ra' := (ra.step st).sq
  have qa' := RpAll.step st ds xs qa
  refine ⟨fun i d hd => ?_, ⟨xs, ra', by rw [qa.length]; exact Nat.le_refl _⟩⟩
  obtain ⟨v, hv, rv⟩ := qa'.get hd
  refine ⟨⟨xs, v, ra', hv⟩, fun x H' ⟨e, y⟩ => ?_⟩
  subst e
  have z := y xs ra'
  rw [hv] at z; cases z
  exact ⟨Grow.refl, rv⟩
theorem itt_ok {O1 : Own} {H1 : Hp} {a : Addr} {xs : List V} {ds : List D} (ra : RdT G.K O1 H1 a xs) (qa : RpAll G.K O1 H1 ds xs) : ItOk G (Itt G.K a) O1 H1 ds := fun O H st ol => by
  have ra' := (ra.step st).sq
  have qa' := RpAll.step st ds xs qa
  refine ⟨fun i d hd => ?_, ⟨xs, ra', by rw [qa.length]; exact Nat.le_refl _⟩⟩
  obtain ⟨v, hv, rv⟩ := qa'.get hd
  refine ⟨⟨xs, v, ra', hv⟩, fun x H' ⟨e, y⟩ => ?_⟩
  subst e
  have z := y xs ra'
  rw [hv] at z; cases z
  exact ⟨Grow.refl, rv⟩
theorem si_seq (hK : X.K = G.K) {f : M D} (h : SD X G W e f) : SI X G W tg e (seqI f) := by
  refine PI.imp (pi_seq h) fun σ H R' ⟨O, env, R, t⟩ => ?_
  obtain ⟨O1, env1, R1, r1, e1, p1⟩ := bindL (RV := RD G) R t
  refine ⟨O1, env1, R1, r1, e1, p1.mono fun x H2 ⟨d, env2, O2, R2, s2, rx, t2⟩ => ?_⟩
  obtain ⟨ds, ed, q⟩ := t2.optAt
  unfold itemsD at ed
  rw [hK]
  split at ed
  · cases ed
    obtain ⟨a, xs, rfl, ra, qa⟩ := Rp.list_inv rx
    exact ⟨a, rfl, .inl ⟨⟨xs, ra.sq⟩, q _ O2 H2 R2 Step.refl (itl_ok ra qa)⟩⟩
  · cases ed
    obtain ⟨a, xs, rfl, ra, qa⟩ := Rp.tup_inv rx
    exact ⟨a, rfl, .inr ⟨⟨xs, ra.sq⟩, q _ O2 H2 R2 Step.refl (itt_ok ra qa)⟩⟩
  · cases ed
/-- range(n) -/
def rangeL (lo : Int) (n : Nat) : List D := (List.range n).map fun i => .int (lo + (i : Nat))
def rng1 (f : M (List D)) : M (List D) := f.bnd fun ds => M.opt (match ds with
  | [.int j] => if -(2 ^ 62) ≤ j ∧ j < 2 ^ 62 then some (rangeL 0 j.toNat) else none
  | _ => none)
def rng2 (f : M (List D)) : M (List D) := f.bnd fun ds => M.opt (match ds with
  | [.int i, .int j] => if (-(2 ^ 62) ≤ i ∧ i < 2 ^ 62) ∧ -(2 ^ 62) ≤ j ∧ j < 2 ^ 62 then some (rangeL i (j - i).toNat) else none
  | _ => none)
theorem itr_ok {O1 : Own} {H1 : Hp} {lo : Int} {n : Nat} : ItOk G (Itr lo n) O1 H1 (rangeL lo n) := fun O H st ol => by
  have hl : (rangeL lo n).length = n := by unfold rangeL; simp
  refine ⟨fun i d hd => ?_, by rw [hl]; exact Nat.le_refl n⟩
  have hi : i < n := by rw [← hl]; exact (List.getElem?_eq_some_iff.mp hd).1
  refine ⟨hi, fun x H' ⟨e, y⟩ => ?_⟩
  subst e y
  unfold rangeL at hd
  rw [List.getElem?_map, List.getElem?_range hi] at hd
  cases hd
  exact ⟨Grow.refl, Rp.int'⟩
theorem si_range1 (A : At X G W N sc blk k Mo) {p : Pos} {f : M (List D)} (hg : sc.names.lookup ("range" : Str) = some .globalImplicit) (hm : Mo.mg "range" = none) (h : SA X G W [e] f) (hs : starEach [e] X.env = [(false, eval e X.env)] := by rfl) : SI X G W tg (.Call (.Name "range" p) [e] [] pos) (rng1 f) := by
  refine PI.imp (pi_range1 (by show X.env.scope.names.lookup ("range" : Str) = _; rw [A.hsc]; exact hg) (by rw [A.hmg]; exact hm) h hs) fun σ H R' ⟨O, env, R, t⟩ => ?_
  obtain ⟨O1, env1, R1, r1, e1, p1⟩ := bindL (RV := RA G) R t
  refine ⟨O1, env1, R1, r1, e1, p1.mono fun x H2 ⟨ds, env2, O2, R2, s2, rx, t2⟩ => ?_⟩
  obtain ⟨is, ed, q⟩ := t2.optAt
  split at ed
  · rename_i j
    split at ed
    · rename_i hj
      cases ed
      obtain ⟨v, rfl, rv⟩ := RpAll.one rx
      exact ⟨j, by rw [rv.int_inv], hj.1, hj.2, q _ O2 H2 R2 Step.refl itr_ok⟩
    · cases ed
  · cases ed
theorem si_range2 (A : At X G W N sc blk k Mo) {e2 : Expr} {p : Pos} {f : M (List D)} (hg : sc.names.lookup ("range" : Str) = some .globalImplicit) (hm : Mo.mg "range" = none) (h : SA X G W [e, e2] f) (hs : starEach [e, e2] X.env = [(false, eval e X.env), (false, eval e2 X.env)] := by rfl) (hs2 : starEach [e2] X.env = [(false, eval e2 X.env)] := by rfl) : SI X G W tg (.Call (.Name "range" p) [e, e2] [] pos) (rng2 f) := by
  refine PI.imp (pi_range2 (by show X.env.scope.names.lookup ("range" : Str) = _; rw [A.hsc]; exact hg) (by rw [A.hmg]; exact hm) h hs hs2) fun σ H R' ⟨O, env, R, t⟩ => ?_
  obtain ⟨O1, env1, R1, r1, e1, p1⟩ := bindL (RV := RA G) R t
  refine ⟨O1, env1, R1, r1, e1, p1.mono fun x H2 ⟨ds, env2, O2, R2, s2, rx, t2⟩ => ?_⟩
  obtain ⟨is, ed, q⟩ := t2.optAt
  split at ed
  · rename_i i j
    split at ed
    · rename_i hj
      cases ed
      obtain ⟨v, w, rfl, rv, rw'⟩ := RpAll.two rx
      exact ⟨i, j, by rw [rv.int_inv, rw'.int_inv], ⟨hj.1.1, hj.1.2, hj.2.1, hj.2.2⟩, q _ O2 H2 R2 Step.refl itr_ok⟩
    · cases ed
  · cases ed
/-- zip of two -/
def zipI (f : M (List D)) : M (List D) := f.bnd fun ds => M.opt (match ds with
  | [.list xs, .list ys] => some ((xs.zip ys).map fun p => .tuple [p.1, p.2])
  | [.tuple xs, .tuple ys] => some ((xs.zip ys).map fun p => .tuple [p.1, p.2])
  | _ => none)
theorem zip_at {ds es : List D} {i : Nat} {d : D} (h : ((ds.zip es).map fun p => PyData.tuple [p.1, p.2])[i]? = some d) : ∃ x y, ds[i]? = some x ∧ es[i]? = some y ∧ d = .tuple [x, y] := by
  rw [List.getElem?_map] at h
  cases hz : (ds.zip es)[i]? with
  | none => rw [hz] at h; cases h
  | some q =>
    rw [hz] at h
    cases h
    obtain ⟨x, y⟩ := q
    obtain ⟨h1, h2⟩ := List.getElem?_zip_eq_some.mp hz
    exact ⟨x, y, h1, h2, rfl⟩
theorem pair_ok {O : Own} {H H' : Hp} {T : Addr} {x y : D} {v w : V} (ol : ∀ a, O a → H a ≠ none) (hT : H T = none) (e : H' = upd H T (.tup [v, w])) (r1 : Rp G.K O H x v) (r2 : Rp G.K O H y w) : Grow H H' ∧ Rp G.K O H' (.tuple [x, y]) (.ref T) := by
  subst e
  refine ⟨Grow.upd hT, ?_⟩
  simp only [Rp]
  refine ⟨T, [v, w], rfl, .inl ⟨.inl upd_same, fun z => ol T z hT⟩, ?_⟩
  simp only [RpAll]
  exact ⟨Rp.step (Grow.upd hT).step x v r1, Rp.step (Grow.upd hT).step y w r2, True.intro⟩
theorem si_zip (A : At X G W N sc blk k Mo) {e2 : Expr} {p tpos : Pos} {elts : List Expr} {kk : Nat} {f : M (List D)} (hg : sc.names.lookup ("zip" : Str) = some .globalImplicit) (hm : Mo.mg "zip" = none) (h : SA X G W [e, e2] f) (hs : starEach [e, e2] X.env = (false, eval e X.env) :: starEach [e2] X.env := by rfl) (hpl : (backTo pos (starEach [e2] X.env)).any (·.1) = false := by rfl) : SI X G W (.Tuple elts kk tpos) (.Call (.Name "zip" p) [e, e2] [] pos) (zipI f) := by
  refine PI.imp (RZ.pi_zipA (by show X.env.scope.names.lookup ("zip" : Str) = _; rw [A.hsc]; exact hg) (by rw [A.hmg]; exact hm) h hs hpl) fun σ H R' ⟨O, env, R, t⟩ => ?_
  obtain ⟨O1, env1, R1, r1, e1, p1⟩ := bindL (RV := RA G) R t
  refine ⟨O1, env1, R1, r1, e1, p1.mono fun x H2 ⟨ds, env2, O2, R2, s2, rx, t2⟩ => ?_⟩
  obtain ⟨is, ed, q⟩ := t2.optAt
  rw [A.hK]
  split at ed
  · rename_i xs ys
    cases ed
    obtain ⟨v, w, rfl, rv, rw'⟩ := RpAll.two rx
    obtain ⟨a, vs, rfl, ra, qa⟩ := rv.list_inv
    obtain ⟨b, ws, rfl, rb, qb⟩ := rw'.list_inv
    refine ⟨a, b, vs, ws, rfl, .inl ⟨ra.sq, rb.sq, q _ O2 H2 R2 Step.refl ?_⟩⟩
    intro O3 H3 st ol
    have ra' := (ra.step st).sq
    have rb' := (rb.step st).sq
    have qa' := RpAll.step st xs vs qa
    have qb' := RpAll.step st ys ws qb
    refine ⟨fun i d hd => ?_, ⟨vs, ws, ra', rb', ?_⟩⟩
    · obtain ⟨x, y, h1, h2, rfl⟩ := zip_at hd
      obtain ⟨v, hv, rv⟩ := qa'.get h1
      obtain ⟨w, hw, rw'⟩ := qb'.get h2
      refine ⟨⟨vs, ws, v, w, ra', rb', hv, hw⟩, fun z H' ⟨T, x1, y1, ez, hT, eH, f1, f2⟩ => ?_⟩
      have g1 := f1 vs ra'
      have g2 := f2 ws rb'
      rw [hv] at g1; cases g1
      rw [hw] at g2; cases g2
      rw [ez]
      exact pair_ok ol hT eH rv rw'
    · have l1 := qa.length
      have l2 := qb.length
      rw [List.length_map, List.length_zip]
      omega
  · rename_i xs ys
    cases ed
    obtain ⟨v, w, rfl, rv, rw'⟩ := RpAll.two rx
    obtain ⟨a, vs, rfl, ra, qa⟩ := rv.tup_inv
    obtain ⟨b, ws, rfl, rb, qb⟩ := rw'.tup_inv
    refine ⟨a, b, vs, ws, rfl, .inr ⟨ra.sq, rb.sq, q _ O2 H2 R2 Step.refl ?_⟩⟩
    intro O3 H3 st ol
    have ra' := (ra.step st).sq
    have rb' := (rb.step st).sq
    have qa' := RpAll.step st xs vs qa
    have qb' := RpAll.step st ys ws qb
    refine ⟨fun i d hd => ?_, ⟨vs, ws, ra', rb', ?_⟩⟩
    · obtain ⟨x, y, h1, h2, rfl⟩ := zip_at hd
      obtain ⟨v, hv, rv⟩ := qa'.get h1
      obtain ⟨w, hw, rw'⟩ := qb'.get h2
      refine ⟨⟨vs, ws, v, w, ra', rb', hv, hw⟩, fun z H' ⟨T, x1, y1, ez, hT, eH, f1, f2⟩ => ?_⟩
      have g1 := f1 vs ra'
      have g2 := f2 ws rb'
      rw [hv] at g1; cases g1
      rw [hw] at g2; cases g2
      rw [ez]
      exact pair_ok ol hT eH rv rw'
    · have l1 := qa.length
      have l2 := qb.length
      rw [List.length_map, List.length_zip]
      omega
  · cases ed
end

/-! ### for -/
def forL (t : Tgt) (b : Stm) : List D → Stm
  | [], env => some (.nx, env)
  | d :: ds, env => match t d env with
    | none => none
    | some e => match b e with
      | none => none
      | some (.nx, e') => forL t b ds e'
      | some (.ct, e') => forL t b ds e'
      | some (.bk, e') => some (.nx, e')
      | some (.rt x, e') => some (.rt x, e')
      | some (.ex x, e') => some (.ex x, e')
def forS (items : M (List D)) (t : Tgt) (b : Stm) : Stm := thenS items fun ds => forL t b ds
section
variable {X : Cx} {G : Gd} {W : WX} {N : List Str} {sc : Scope} {blk : Bool} {k : Nat} {Mo : Wo} {pos : Pos}
theorem ss_for (A : At X G W N sc blk k Mo) {tg iter : Expr} {body : List Stmt} {fi : M (List D)} {ws : List Nat} {t : Tgt} {f : Stm} (hi : SI X G W tg iter fi) (ht : STg X G tg ws t) (hb : SSs X G W body f) (hs : ∀ x, foldedSetIterable iter X.env x = pure x := by intro _; rfl) : SS X G W (.For tg iter body [] pos) (forS fi t f) := by
  refine PS.imp (ps_for A.pass A.calm hi ht hb hs) fun D σ H ⟨O, env, R, tt⟩ => ?_
  obtain ⟨O1, env1, R1, r1, e1, p1⟩ := bindS (RV := RI G) R tt
  refine ⟨O1, env1, R1, r1, e1, p1.mono fun J H2 ⟨ds, env2, O2, R2, s2, rj, r, er, pr⟩ => ?_⟩
  refine ⟨fun i m σ H3 => m + i = ds.length ∧ ∃ O3 env3, Rel G O3 H3 σ env3 ∧ Step O2 H2 O3 H3 ∧ forL t f (ds.drop i) env3 = some r, ⟨ds.length, by omega, O2, env2, R2, Step.refl, er⟩, ?_⟩
  rintro i m σ3 H3 ⟨hm, O3, env3, R3, s3, h3⟩
  obtain ⟨go, stop⟩ := rj O3 H3 s3 R3.ol
  cases hd : ds.drop i with
  | nil =>
    have hi : i = ds.length := by
      have z := congrArg List.length hd
      rw [List.length_drop] at z
      simp only [List.length_nil] at z
      omega
    rw [hd] at h3
    cases h3
    subst hi
    exact .inl ⟨stop, pr σ3 O3 H3 R3 s3⟩
  | cons d rest =>
    have hget : ds[i]? = some d := by
      have z := congrArg (fun l => l[0]?) hd
      simpa using z
    have hrest : ds.drop (i + 1) = rest := by
      have z := congrArg List.tail hd
      simpa using z
    obtain ⟨g1, y1⟩ := go i d hget
    rw [hd] at h3
    have hlt : i < ds.length := (List.getElem?_eq_some_iff.mp hget).1
    refine .inr ⟨g1, fun σ' H' => m - 1 + (i + 1) = ds.length ∧ ∃ O4 env4, Rel G O4 H' σ' env4 ∧ Step O2 H2 O4 H' ∧ forL t f (ds.drop (i + 1)) env4 = some r, fun σ' H' hN => ⟨m - 1, by omega, hN⟩, fun x H4 hy => ?_⟩
    obtain ⟨gr, rx⟩ := y1 x H4 hy
    have R4 := R3.grow gr
    have s4 : Step O2 H2 O3 H4 := s3.trans gr.step
    unfold forL at h3
    cases ht1 : t d env3 with
    | none => rw [ht1] at h3; cases h3
    | some env4 =>
      rw [ht1] at h3
      dsimp only at h3
      refine ⟨O3, env3, d, env4, R4, rx, ht1, fun σ5 R5 _ => ?_⟩
      cases hf : f env4 with
      | none => rw [hf] at h3; cases h3
      | some q =>
        obtain ⟨fl, env5⟩ := q
        rw [hf] at h3
        refine ⟨O3, env4, R5, (fl, env5), hf, ?_⟩
        cases fl with
        | nx => exact fun σ' O' H' R' s' => ⟨by omega, O', env5, R', s4.trans s', by rw [hrest]; exact h3⟩
        | ct => exact fun σ' O' H' R' s' => ⟨by omega, O', env5, R', s4.trans s', by rw [hrest]; exact h3⟩
        | bk =>
          cases h3
          exact fun σ' O' H' R' s' => pr σ' O' H' R' (s4.trans s')
        | rt x =>
          cases h3
          exact fun v σ' O' H' R' s' rl => pr v σ' O' H' R' (s4.trans s') rl
        | ex x =>
          cases h3
          exact fun cl dd σ' O' H' R' s' xr => pr cl dd σ' O' H' R' (s4.trans s') xr
end
end PV

/-! PV13: list comprehensions. -/
namespace PV
open PySem PySem.Spec PyProof.Rows L2

/-- a slot as a block sees it: lists of one's own are lists of the def around -/
def toBlk : Option Sl → Option Sl
  | some (.own xs) => some (.mu xs)
  | s => s
def blkE (vs : List Nat) (env : SEnv) : SEnv := (List.range env.length).map fun i => if i ∈ vs then none else toBlk (env.getD i none)
/-- back in the def around -/
def fromBlk : Option Sl → Option Sl → Option Sl
  | some (.own _), some (.mu ys) => some (.own ys)
  | _, t => t
def unE (vs : List Nat) (env e3 : SEnv) : SEnv := (List.range env.length).map fun i => if i ∈ vs then env.getD i none else fromBlk (env.getD i none) (e3.getD i none)
theorem getD_some {env : SEnv} {i : Nat} {s : Sl} : env.getD i none = some s ↔ env[i]? = some (some s) := by
  rw [List.getD_eq_getElem?_getD]
  cases h : env[i]? with
  | none => simp
  | some t => simp
theorem blkE_at {vs : List Nat} {env : SEnv} {i : Nat} {s : Sl} (h : (blkE vs env)[i]? = some (some s)) : i ∉ vs ∧ ((∃ xs : List D, env[i]? = some (some (Sl.own xs)) ∧ s = .mu xs) ∨ (env[i]? = some (some s) ∧ ∀ xs : List D, s ≠ .own xs)) := by
  unfold blkE at h
  rw [List.getElem?_map] at h
  by_cases hi : i < env.length
  · rw [List.getElem?_range hi] at h
    have h' : (if i ∈ vs then none else toBlk (env.getD i none)) = some s := Option.some.inj h
    split at h'
    · cases h'
    · rename_i n
      refine ⟨n, ?_⟩
      cases hg : env.getD i none with
      | none => rw [hg] at h'; cases h'
      | some t =>
        rw [hg] at h'
        have ht := getD_some.mp hg
        cases t with
        | d x => cases h'; exact .inr ⟨ht, fun xs z => nomatch z⟩
        | own xs => cases h'; exact .inl ⟨xs, ht, rfl⟩
        | mu xs => cases h'; exact .inr ⟨ht, fun xs z => nomatch z⟩
        | x e => cases h'; exact .inr ⟨ht, fun xs z => nomatch z⟩
  · rw [List.getElem?_eq_none (by simpa using hi)] at h
    cases h
theorem blkE_of {vs : List Nat} {env : SEnv} {i : Nat} {xs : List D} (n : i ∉ vs) (h : listAt env i = some xs) : (blkE vs env)[i]? = some (some (Sl.mu xs)) := by
  have ht : env[i]? = some (some (Sl.own xs)) ∨ env[i]? = some (some (Sl.mu xs)) := listAt_own h
  have hi : i < env.length := by
    rcases ht with h | h <;> exact (List.getElem?_eq_some_iff.mp h).1
  unfold blkE
  rw [List.getElem?_map, List.getElem?_range hi]
  show some (if i ∈ vs then none else toBlk (env.getD i none)) = _
  rw [if_neg n]
  rcases ht with h | h <;> rw [getD_some.mpr h] <;> rfl
theorem blkE_len {vs : List Nat} {env : SEnv} : (blkE vs env).length = env.length := by unfold blkE; simp
theorem unE_len {vs : List Nat} {env e3 : SEnv} : (unE vs env e3).length = env.length := by unfold unE; simp
theorem unE_at {vs : List Nat} {env e3 : SEnv} {i : Nat} {s : Sl} (h : (unE vs env e3)[i]? = some (some s)) : (i ∈ vs ∧ env[i]? = some (some s)) ∨ (i ∉ vs ∧ ((∃ xs ys : List D, env[i]? = some (some (Sl.own xs)) ∧ e3[i]? = some (some (Sl.mu ys)) ∧ s = .own ys) ∨ (e3[i]? = some (some s) ∧ ((∀ xs : List D, env[i]? ≠ some (some (Sl.own xs))) ∨ ∀ ys : List D, s ≠ .mu ys)))) := by
  unfold unE at h
  rw [List.getElem?_map] at h
  by_cases hi : i < env.length
  · rw [List.getElem?_range hi] at h
    have h' : (if i ∈ vs then env.getD i none else fromBlk (env.getD i none) (e3.getD i none)) = some s := Option.some.inj h
    split at h'
    · rename_i hv
      exact .inl ⟨hv, getD_some.mp h'⟩
    · rename_i hv
      refine .inr ⟨hv, ?_⟩
      unfold fromBlk at h'
      split at h'
      · rename_i xs ys h1 h2
        cases h'
        exact .inl ⟨xs, ys, getD_some.mp h1, getD_some.mp h2, rfl⟩
      · rename_i h1
        refine .inr ⟨getD_some.mp h', ?_⟩
        by_cases hx : ∃ xs : List D, env[i]? = some (some (Sl.own xs))
        · obtain ⟨xs, hx⟩ := hx
          refine .inr fun ys z => ?_
          subst z
          exact h1 xs ys (getD_some.mpr hx) h'
        · exact .inl fun xs z => hx ⟨xs, z⟩
  · rw [List.getElem?_eq_none (by simpa using hi)] at h
    cases h
theorem wipe_get {σ : L2.St} {j : Nat} : ∀ {vs : List Nat}, j ∉ vs → (wipe σ vs)[j]? = σ[j]?
  | [], _ => rfl
  | v :: vs, n => by
    unfold wipe
    rw [List.getElem?_set_ne fun z => n (by simp [z])]
    exact wipe_get fun z => n (List.mem_cons_of_mem _ z)
theorem wipe_in {σ : L2.St} {j : Nat} : ∀ {vs : List Nat}, j ∈ vs → j < σ.length → (wipe σ vs)[j]? = some none
  | v :: vs, m, hj => by
    unfold wipe
    by_cases e : v = j
    · subst e
      exact List.getElem?_set_self (by rw [wipe_length]; exact hj)
    · rw [List.getElem?_set_ne e]
      rcases List.mem_cons.mp m with z | z
      · exact absurd z.symm e
      · exact wipe_in z hj
theorem wipe_but {σ σ' : L2.St} {vs ws : List Nat} (h : But ws (wipe σ vs) σ') (sub : ∀ i ∈ ws, i ∈ vs) : wipe σ' vs = wipe σ vs := by
  have hl : σ'.length = σ.length := by rw [h.1, wipe_length]
  refine List.ext_getElem? fun j => ?_
  by_cases hj : j ∈ vs
  · by_cases lt : j < σ.length
    · rw [wipe_in hj lt, wipe_in hj (by rw [hl]; exact lt)]
    · rw [List.getElem?_eq_none (by rw [wipe_length, hl]; omega), List.getElem?_eq_none (by rw [wipe_length]; omega)]
  · rw [wipe_get hj, wipe_get hj, h.2 j fun z => hj (sub j z), wipe_get hj]

/-- the lists of the def around, as the block may change them -/
def msE (vs : List Nat) (σ : L2.St) (env : SEnv) : List (Nat × Addr) := (List.range env.length).filterMap fun i => if i ∈ vs then none else match listAt env i, σ[i]? with
  | some _, some (some (.ref p)) => some (i, p)
  | _, _ => none
theorem mem_msE {vs : List Nat} {σ : L2.St} {env : SEnv} {i : Nat} {p : Addr} : (i, p) ∈ msE vs σ env ↔ i ∉ vs ∧ (∃ xs, listAt env i = some xs) ∧ σ[i]? = some (some (V.ref p)) := by
  unfold msE
  rw [List.mem_filterMap]
  constructor
  · rintro ⟨j, hj, e⟩
    split at e
    · cases e
    · rename_i n
      split at e
      · rename_i xs q h1 h2
        cases e
        exact ⟨n, ⟨xs, h1⟩, h2⟩
      · cases e
  · rintro ⟨n, ⟨xs, h⟩, e⟩
    have hi : i < env.length := by
      rcases listAt_own h with h | h <;> exact (List.getElem?_eq_some_iff.mp h).1
    refine ⟨i, List.mem_range.mpr hi, ?_⟩
    rw [if_neg n, h, e]
section
variable {G : Gd} {O O' : Own} {H H' : Hp} {σ σ' : L2.St} {env e3 : SEnv} {vs : List Nat}
abbrev blkG (G : Gd) (O : Own) (H : Hp) (vs : List Nat) (σ : L2.St) (env : SEnv) : Gd := ⟨G.K, H, O, msE vs σ env, G.cls⟩
theorem blkE_ownAt {i : Nat} (h : OwnAt (blkE vs env) i) : i ∉ vs ∧ ∃ xs, listAt env i = some xs := by
  rcases h with ⟨xs, h⟩ | ⟨xs, h⟩ <;> obtain ⟨n, h⟩ := blkE_at h
  · rcases h with ⟨ys, h1, h2⟩ | ⟨h1, h2⟩
    · cases h2
    · exact absurd rfl (h2 xs)
  · refine ⟨n, ?_⟩
    rcases h with ⟨ys, h1, h2⟩ | ⟨h1, h2⟩
    · exact ⟨ys, by unfold listAt; rw [h1]⟩
    · exact ⟨xs, by unfold listAt; rw [h1]⟩
/-- entering a block -/
theorem Rel.enter (R : Rel G O H σ env) : Rel (blkG G O H vs σ env) O H (wipe σ vs) (blkE vs env) where
  len := by rw [blkE_len, wipe_length]; exact R.len
  ol := R.ol
  fr := fun a o h _ => h
  oc := fun a h => ⟨h, R.ol a h⟩
  val := fun i x h => by
    obtain ⟨n, h⟩ := blkE_at h
    rcases h with ⟨xs, _, z⟩ | ⟨h, _⟩
    · cases z
    · obtain ⟨v, e, r⟩ := R.val i x h
      exact ⟨v, by rw [wipe_get n]; exact e, r⟩
  exv := fun i x h => by
    obtain ⟨n, h⟩ := blkE_at h
    rcases h with ⟨xs, _, z⟩ | ⟨h, _⟩
    · cases z
    · obtain ⟨v, e, r⟩ := R.exv i x h
      exact ⟨v, by rw [wipe_get n]; exact e, r⟩
  own := fun i xs h => by
    obtain ⟨n, h⟩ := blkE_at h
    rcases h with ⟨ys, _, z⟩ | ⟨_, h⟩
    · cases z
    · exact absurd rfl (h xs)
  muA := fun i xs h => by
    obtain ⟨n, ys, hl⟩ := blkE_ownAt (.inr ⟨xs, h⟩)
    obtain ⟨p, ws, e, _⟩ := R.lstAt hl
    exact ⟨p, mem_msE.mpr ⟨n, ⟨ys, hl⟩, e⟩⟩
  mst := fun i p h => by
    obtain ⟨n, ⟨xs, hl⟩, e⟩ := mem_msE.mp h
    obtain ⟨q, ws, e1, e2, e3, e4, _⟩ := R.lstAt hl
    rw [e] at e1; cases e1
    exact ⟨xs, ws, blkE_of n hl, by rw [wipe_get n]; exact e, e2, e3, e4, ⟨fun z => (nomatch e2.symm.trans z), e4⟩⟩
  inj := fun i j p n h1 h2 e1 e2 => by
    obtain ⟨n1, xs, l1⟩ := blkE_ownAt h1
    obtain ⟨n2, ys, l2⟩ := blkE_ownAt h2
    rw [wipe_get n1] at e1
    rw [wipe_get n2] at e2
    exact R.inj i j p n (listAt_ownAt l1) (listAt_ownAt l2) e1 e2
/-- leaving it -/
theorem Rel.leave (R : Rel G O H σ env) (nv : ∀ i ∈ vs, ∀ xs : List D, env[i]? ≠ some (some (Sl.mu xs))) (R' : Rel (blkG G O H vs σ env) O' H' σ' e3) (hb : ∀ j, j ∉ vs → σ'[j]? = σ[j]?) (st : Step O H O' H') : Rel G O' H' σ (unE vs env e3) ∧ ∀ a o, H a = some o → O a → (∀ i, OwnAt env i → σ[i]? ≠ some (some (V.ref a))) → H' a = some o ∧ O' a := by
  have mu_of : ∀ {i : Nat} {p : Addr}, i ∉ vs → OwnAt env i → σ[i]? = some (some (V.ref p)) → (i, p) ∈ msE vs σ env := fun {i p} n h e => by
    refine mem_msE.mpr ⟨n, ?_, e⟩
    rcases h with ⟨xs, h⟩ | ⟨xs, h⟩ <;> exact ⟨xs, by unfold PV.listAt; rw [h]⟩
  have notMu : ∀ {a : Addr}, (∀ i, i ∉ vs → OwnAt env i → σ[i]? ≠ some (some (V.ref a))) → ¬ (blkG G O H vs σ env).Mu a := fun {a} h ⟨i, hi⟩ => by
    obtain ⟨n, ⟨xs, hl⟩, e⟩ := mem_msE.mp hi
    exact h i n (listAt_ownAt hl) e
  have keep : ∀ a o, H a = some o → (∀ i, i ∉ vs → OwnAt env i → σ[i]? ≠ some (some (V.ref a))) → H' a = some o := fun a o h n => R'.fr a o h (notMu n)
  have sub : ∀ a, O a → O' a := fun a h => (R'.oc a h).1
  refine ⟨?_, fun a o h q n => ⟨keep a o h fun i _ => n i, sub a q⟩⟩
  -- a slot in vs that holds a list stands elsewhere
  have inVs : ∀ {i : Nat} {p : Addr}, i ∈ vs → OwnAt env i → σ[i]? = some (some (V.ref p)) → ∀ j, j ∉ vs → OwnAt env j → σ[j]? ≠ some (some (V.ref p)) := fun {i p} hi ho e j hj hoj ej =>
    R.inj i j p (fun z => hj (z ▸ hi)) ho hoj e ej
  have ownU : ∀ {i : Nat}, OwnAt (unE vs env e3) i → (i ∈ vs ∧ OwnAt env i) ∨ (i ∉ vs ∧ OwnAt e3 i) := fun {i} h => by
    rcases h with ⟨xs, h⟩ | ⟨xs, h⟩ <;> rcases unE_at h with ⟨a, b⟩ | ⟨a, b⟩
    · exact .inl ⟨a, .inl ⟨xs, b⟩⟩
    · rcases b with ⟨zs, ys, b1, b2, b3⟩ | ⟨b1, _⟩
      · exact .inr ⟨a, .inr ⟨ys, b2⟩⟩
      · exact .inr ⟨a, .inl ⟨xs, b1⟩⟩
    · exact .inl ⟨a, .inr ⟨xs, b⟩⟩
    · rcases b with ⟨zs, ys, b1, b2, b3⟩ | ⟨b1, _⟩
      · cases b3
      · exact .inr ⟨a, .inr ⟨xs, b1⟩⟩
  refine { len := by rw [unE_len]; exact R.len, ol := R'.ol, fr := fun a o h m => ?_, oc := fun a h => ⟨sub a (R.oc a h).1, (R.oc a h).2⟩, val := fun i x h => ?_, exv := fun i x h => ?_, own := fun i xs h => ?_, muA := fun i xs h => ?_, mst := fun i p h => ?_, inj := fun i j p n h1 h2 e1 e2 => ?_ }
  · refine keep a o (R.fr a o h m) fun i _ hi e => ?_
    rcases hi with ⟨xs, hi⟩ | ⟨xs, hi⟩
    · obtain ⟨p, _, e1, _, _, _, h0⟩ := R.own i xs hi
      rw [e] at e1; cases e1
      rw [h] at h0; cases h0
    · obtain ⟨p, hp⟩ := R.muA i xs hi
      obtain ⟨_, _, _, e1, _⟩ := R.mst i p hp
      rw [e] at e1; cases e1
      exact m ⟨i, hp⟩
  · rcases unE_at h with ⟨_, b⟩ | ⟨a, b⟩
    · obtain ⟨v, e, r⟩ := R.val i x b
      exact ⟨v, e, Rp.step st x v r⟩
    · rcases b with ⟨zs, ys, b1, b2, b3⟩ | ⟨b1, _⟩
      · cases b3
      · obtain ⟨v, e, r⟩ := R'.val i x b1
        exact ⟨v, by rw [← hb i a]; exact e, r⟩
  · rcases unE_at h with ⟨_, b⟩ | ⟨a, b⟩
    · obtain ⟨v, e, r⟩ := R.exv i x b
      exact ⟨v, e, r.step st⟩
    · rcases b with ⟨zs, ys, b1, b2, b3⟩ | ⟨b1, _⟩
      · cases b3
      · obtain ⟨v, e, r⟩ := R'.exv i x b1
        exact ⟨v, by rw [← hb i a]; exact e, r⟩
  · rcases unE_at h with ⟨a, b⟩ | ⟨a, b⟩
    · obtain ⟨p, vs', e, h1, ra, o1, h0⟩ := R.own i xs b
      exact ⟨p, vs', e, keep p _ h1 (inVs a (.inl ⟨xs, b⟩) e), RpAll.step st xs vs' ra, sub p o1, h0⟩
    · rcases b with ⟨zs, ys, b1, b2, b3⟩ | ⟨b1, _⟩
      · cases b3
        obtain ⟨p, _, e, _, _, _, h0⟩ := R.own i zs b1
        obtain ⟨xs', vs', c1, c2, c3, c4, c5, _⟩ := R'.mst i p (mu_of a (.inl ⟨zs, b1⟩) e)
        rw [b2] at c1; cases c1
        exact ⟨p, vs', e, c3, c4, c5, h0⟩
      · obtain ⟨p, vs', e, h1, ra, o1, h0⟩ := R'.own i xs b1
        exact ⟨p, vs', by rw [← hb i a]; exact e, h1, ra, o1, R.fresh0 h0⟩
  · rcases unE_at h with ⟨a, b⟩ | ⟨a, b⟩
    · exact R.muA i xs b
    · rcases b with ⟨zs, ys, b1, b2, b3⟩ | ⟨b1, b2⟩
      · cases b3
      · -- it was one of the def around
        obtain ⟨p, hp⟩ := R'.muA i xs b1
        obtain ⟨_, ⟨zs, hl⟩, e⟩ := mem_msE.mp hp
        rcases listAt_own hl with hl | hl
        · rcases b2 with b2 | b2
          · exact absurd hl (b2 zs)
          · exact absurd rfl (b2 xs)
        · exact R.muA i zs hl
  · obtain ⟨xs, ws, e, e1, h1, r1, o1, h0, hc⟩ := R.mst i p h
    have nvi : i ∉ vs := fun z => nv i z xs e
    obtain ⟨xs', ws', c1, c2, c3, c4, c5, _⟩ := R'.mst i p (mu_of nvi (.inr ⟨xs, e⟩) e1)
    refine ⟨xs', ws', ?_, e1, c3, c4, c5, h0, hc⟩
    have hi : i < env.length := (List.getElem?_eq_some_iff.mp e).1
    unfold unE
    rw [List.getElem?_map, List.getElem?_range hi]
    show some (if i ∈ vs then env.getD i none else fromBlk (env.getD i none) (e3.getD i none)) = _
    rw [if_neg nvi, getD_some.mpr e, getD_some.mpr c1]
    rfl
  · rcases ownU h1 with ⟨a1, b1⟩ | ⟨a1, b1⟩ <;> rcases ownU h2 with ⟨a2, b2⟩ | ⟨a2, b2⟩
    · exact R.inj i j p n b1 b2 e1 e2
    · -- i in vs, j changed in the block
      rw [← hb j a2] at e2
      obtain ⟨q, ws, c1, c2, c3⟩ := R'.ownAddr b2
      rw [e2] at c1; cases c1
      obtain ⟨pp, ws2, d1, d2, d3⟩ := R.ownAddr b1
      rw [e1] at d1; cases d1
      rcases b2 with ⟨zs, b2⟩ | ⟨zs, b2⟩
      · obtain ⟨q', _, f1, _, _, _, f2⟩ := R'.own j zs b2
        rw [e2] at f1; cases f1
        have f2' : H p = none := f2
        rw [d2] at f2'; cases f2'
      · obtain ⟨q', hq'⟩ := R'.muA j zs b2
        obtain ⟨_, _, _, f1, _⟩ := R'.mst j q' hq'
        rw [e2] at f1; cases f1
        obtain ⟨n2, ⟨us, hl⟩, f3⟩ := mem_msE.mp hq'
        exact R.inj i j p n b1 (listAt_ownAt hl) e1 f3
    · rw [← hb i a1] at e1
      obtain ⟨pp, ws2, d1, d2, d3⟩ := R.ownAddr b2
      rw [e2] at d1; cases d1
      rcases b1 with ⟨zs, b1⟩ | ⟨zs, b1⟩
      · obtain ⟨q', _, f1, _, _, _, f2⟩ := R'.own i zs b1
        rw [e1] at f1; cases f1
        have f2' : H p = none := f2
        rw [d2] at f2'; cases f2'
      · obtain ⟨q', hq'⟩ := R'.muA i zs b1
        obtain ⟨_, _, _, f1, _⟩ := R'.mst i q' hq'
        rw [e1] at f1; cases f1
        obtain ⟨n2, ⟨us, hl⟩, f3⟩ := mem_msE.mp hq'
        exact R.inj i j p n (listAt_ownAt hl) b2 f3 e2
    · rw [← hb i a1] at e1
      rw [← hb j a2] at e2
      exact R'.inj i j p n b1 b2 e1 e2
end
end PV

/-! PV14: the rule of a list comprehension. -/
namespace PV
open PySem PySem.Spec PyProof.Rows L2

def compL (t : Tgt) (vs : List Nat) (c : M Bool) (f : M D) : List D → List D → SEnv → Option (List D × SEnv)
  | [], acc, env => some (acc, env)
  | d :: ds, acc, env => match t d (blkE vs env) with
    | none => none
    | some e1 => match c e1 with
      | some (.ok b, e2) => if b = true then
          match f e2 with
          | some (.ok x, e3) => if acc.length < sizeLine then compL t vs c f ds (acc ++ [x]) (unE vs env e3) else none
          | _ => none
        else compL t vs c f ds acc (unE vs env e2)
      | _ => none
def noMu (vs : List Nat) (env : SEnv) : Bool := vs.all fun i => match env.getD i none with
  | some (.mu _) => false
  | _ => true
def compM (items : M (List D)) (t : Tgt) (vs : List Nat) (c : M Bool) (f : M D) : M Vl := fun env => match items env with
  | none => none
  | some (.ex x, e) => some (.ex x, e)
  | some (.ok ds, e) => if noMu vs e = true then
      match compL t vs c f ds [] e with
      | none => none
      | some (xs, e') => some (.ok (.own xs), e')
    else none
theorem noMu_at {vs : List Nat} {env : SEnv} (h : noMu vs env = true) : ∀ i ∈ vs, ∀ xs : List D, env[i]? ≠ some (some (Sl.mu xs)) := fun i hi xs e => by
  have z := List.all_eq_true.mp h i hi
  rw [getD_some.mpr e] at z
  cases z
theorem unE_noMu {vs : List Nat} {env e3 : SEnv} (h : ∀ i ∈ vs, ∀ xs : List D, env[i]? ≠ some (some (Sl.mu xs))) : ∀ i ∈ vs, ∀ xs : List D, (unE vs env e3)[i]? ≠ some (some (Sl.mu xs)) := fun i hi xs e => by
  rcases unE_at e with ⟨_, b⟩ | ⟨a, _⟩
  · exact h i hi xs b
  · exact a hi

/-- no exception leaves a block -/
abbrev W0 : WX := fun _ _ _ _ => False
def Cnd (Mo : Wo) (G : Gd) : Prop := G.K = Mo.K ∧ G.cls = Mo.cls
theorem PE.ex {X : Cx} {e : Expr} {t : Gd → TE} {P : Gd → Prop} (h : ∀ G, P G → PE X e (t G)) : PE X e (fun σ H Q => ∃ G, P G ∧ t G σ H Q) := ⟨fun pins s σ H Q I ⟨G, p, q⟩ => (h G p).run pins s σ H Q I q⟩
theorem PTs.ex {X : Cx} {e : List Expr} {t : Gd → TT} {P : Gd → Prop} (h : ∀ G, P G → PTs X e (t G)) : PTs X e (fun σ H Q => ∃ G, P G ∧ t G σ H Q) := ⟨fun pins s σ H Q I ⟨G, p, q⟩ => (h G p).run pins s σ H Q I q⟩
theorem PG.ex {X : Cx} {e : Expr} {t : Gd → TG} {P : Gd → Prop} (h : ∀ G, P G → PG X e (t G)) : PG X e (fun v σ H Q => ∃ G, P G ∧ t G v σ H Q) := ⟨fun pins s σ H v u Q I r ⟨G, p, q⟩ => (h G p).run pins s σ H v u Q I r q⟩
section
variable {X : Cx} {G : Gd} {W : WX} {N : List Str} {sc : Scope} {blk : Bool} {k : Nat} {Mo : Wo}
/-- where one stands in a block -/
theorem At.inBlk (A : At X G W N sc blk k Mo) {G' : Gd} (c : Cnd Mo G') (s : Shared) (H : Hp) (scope : Scope) (C : Addr) (cl : List (Str × Addr)) (fp : List Addr) : At (X.blk s H scope (compEnvC scope cl C X.env) fp) G' W0 N (relS scope sc) true k Mo where
  hN := A.hN
  nd := A.nd
  hsc := by show relS scope X.env.scope = relS scope sc; rw [A.hsc]
  fn := fun z => nomatch z
  calm := A.calm
  tk := takes0
  pass := PassesOwn.never
  gd := A.gd
  room := A.room
  hK := by show X.K = G'.K; rw [A.hK, A.gK, c.1]
  hmg := A.hmg
  hP := A.hP
  hw := A.hw
  hb := A.hb
  gK := c.1
  gc := c.2
  stk := fun z => nomatch z
  ex0 := fun z => nomatch z
  sys := A.sys

abbrev gA (Mo : Wo) (ws : List Nat) (t : Tgt) : TG := fun v σ H Q => ∃ G', Cnd Mo G' ∧ tTg G' ws t v σ H Q
abbrev ttA (Mo : Wo) (c : M Bool) : TT := fun σ H Q => ∃ G', Cnd Mo G' ∧ tG G' W0 RB c σ H Q
abbrev teA (Mo : Wo) (f : M D) : TE := fun σ H Q => ∃ G', Cnd Mo G' ∧ tG G' W0 (RD G') f σ H Q

theorem comp_imp (A : At X G W N sc blk k Mo) {fi : M (List D)} {t : Tgt} {ws vs : List Nat} {c : M Bool} {f : M D} (sub : ∀ i ∈ ws, i ∈ vs) {σ : L2.St} {H : Hp} {Q : VK} (h : tG G W (RL G) (compM fi t vs c f) σ H Q) :
    tLc (tG G W (RI G) fi) (gA Mo ws t) (ttA Mo c) (teA Mo f) vs σ H Q := by
  obtain ⟨O, env, R, r, er, pr⟩ := h
  unfold compM at er
  cases hi : fi env with
  | none => rw [hi] at er; cases er
  | some q =>
    obtain ⟨q, env1⟩ := q
    rw [hi] at er
    refine ⟨O, env, R, (q, env1), hi, ?_⟩
    cases q with
    | ex x => cases er; exact pr
    | ok ds =>
      intro J O1 H1 R1 s1 rj D hD
      dsimp only at er
      split at er
      · rename_i hmu
        cases hc : compL t vs c f ds [] env1 with
        | none => rw [hc] at er; cases er
        | some q2 =>
          obtain ⟨xs, env'⟩ := q2
          rw [hc] at er
          cases er
          have hD0 : G.H0 D = none := R1.fresh0 hD
          have gD : Grow H1 (upd H1 D (.lst [])) := Grow.upd hD
          have R2 : Rel G (fun a => O1 a ∨ a = D) (upd H1 D (.lst [])) σ env1 := R1.new gD hD (by rw [upd_same]; exact fun z => nomatch z)
          have s2 : Step O1 H1 (fun a => O1 a ∨ a = D) (upd H1 D (.lst [])) := gD.stepNew hD
          refine ⟨fun i m H3 => m + i = ds.length ∧ ∃ O3 env3 accd acc, Rel G O3 H3 σ env3 ∧ Step O1 H1 O3 H3 ∧ (∀ i ∈ vs, ∀ xs : List PyData, env3[i]? ≠ some (some (Sl.mu xs))) ∧ H3 D = some (.lst acc) ∧ RpAll G.K O3 H3 accd acc ∧ O3 D ∧ (∀ i, OwnAt env3 i → σ[i]? ≠ some (some (V.ref D))) ∧ compL t vs c f (ds.drop i) accd env3 = some (xs, env'),
            ⟨ds.length, by omega, _, env1, [], [], R2, s2, noMu_at hmu, upd_same, by simp only [RpAll], .inr rfl, fun i hi e => ?_, hc⟩, ?_⟩
          · obtain ⟨p, ws', e1, e2, _⟩ := R1.ownAddr hi
            rw [e] at e1; cases e1
            rw [hD] at e2; cases e2
          · rintro i m H3 ⟨hm, O3, env3, accd, acc, R3, s3, nv, hDa, ra, oD, nD, h3⟩
            obtain ⟨go, stop⟩ := rj O3 H3 s3 R3.ol
            cases hd : ds.drop i with
            | nil =>
              have hi : i = ds.length := by
                have z := congrArg List.length hd
                rw [List.length_drop] at z
                simp only [List.length_nil] at z
                omega
              rw [hd] at h3
              cases h3
              subst hi
              exact .inl ⟨stop, pr _ O3 H3 R3 (s1.trans s3) ⟨D, acc, rfl, hDa, ra, oD, hD0, nD⟩⟩
            | cons d rest =>
              have hget : ds[i]? = some d := by
                have z := congrArg (fun l => l[0]?) hd
                simpa using z
              have hrest : ds.drop (i + 1) = rest := by
                have z := congrArg List.tail hd
                simpa using z
              obtain ⟨g1, y1⟩ := go i d hget
              rw [hd] at h3
              have hlt : i < ds.length := (List.getElem?_eq_some_iff.mp hget).1
              refine .inr ⟨g1, fun H' => m - 1 + (i + 1) = ds.length ∧ ∃ O3 env3 accd acc, Rel G O3 H' σ env3 ∧ Step O1 H1 O3 H' ∧ (∀ i ∈ vs, ∀ xs : List PyData, env3[i]? ≠ some (some (Sl.mu xs))) ∧ H' D = some (.lst acc) ∧ RpAll G.K O3 H' accd acc ∧ O3 D ∧ (∀ i, OwnAt env3 i → σ[i]? ≠ some (some (V.ref D))) ∧ compL t vs c f (ds.drop (i + 1)) accd env3 = some (xs, env'),
                fun H' hN => ⟨m - 1, by omega, hN⟩, fun x H4 hy => ?_⟩
              obtain ⟨gr, rx⟩ := y1 x H4 hy
              have R4 := R3.grow gr
              have s4 : Step O1 H1 O3 H4 := s3.trans gr.step
              have hD4 : H4 D = some (.lst acc) := gr D _ hDa
              have ra4 : RpAll G.K O3 H4 accd acc := RpAll.step gr.step accd acc ra
              unfold compL at h3
              cases ht1 : t d (blkE vs env3) with
              | none => rw [ht1] at h3; cases h3
              | some e1 =>
                rw [ht1] at h3
                dsimp only at h3
                have cG : Cnd Mo (blkG G O3 H4 vs σ env3) := ⟨A.gK, A.gc⟩
                refine ⟨_, cG, O3, blkE vs env3, d, e1, R4.enter, rx, ht1, fun σ2 R5 b5 => ⟨wipe_but b5 sub, ?_⟩⟩
                have hb : ∀ j, j ∉ vs → σ2[j]? = σ[j]? := fun j hj => by rw [b5.2 j fun z => hj (sub j z), wipe_get hj]
                cases hcc : c e1 with
                | none => rw [hcc] at h3; cases h3
                | some qc =>
                  obtain ⟨qc, e2⟩ := qc
                  rw [hcc] at h3
                  cases qc with
                  | ex x => cases h3
                  | ok b =>
                    dsimp only at h3
                    refine ⟨_, cG, O3, e1, R5, (.ok b, e2), hcc, fun b' O6 H6 R6 s6 rb => ?_⟩
                    have rb' : b = b' := rb
                    subst rb'
                    cases b with
                    | true =>
                      rw [if_pos rfl] at h3
                      refine iteT ?_
                      cases hf : f e2 with
                      | none => rw [hf] at h3; cases h3
                      | some qf =>
                        obtain ⟨qf, e3⟩ := qf
                        rw [hf] at h3
                        cases qf with
                        | ex x => cases h3
                        | ok y =>
                          dsimp only at h3
                          split at h3
                          · rename_i hz
                            refine ⟨_, cG, O6, e2, R6, (.ok y, e3), hf, fun yv O7 H7 R7 s7 ry => ?_⟩
                            have s47 : Step O3 H4 O7 H7 := s6.trans s7
                            obtain ⟨R8, kp⟩ := R4.leave nv R7 hb s47
                            obtain ⟨hD7, oD7⟩ := kp D _ hD4 oD nD
                            have ra7 : RpAll G.K O7 H7 accd acc := RpAll.step s47 accd acc ra4
                            have st9 : Step O7 H7 O7 (upd H7 D (.lst (acc ++ [yv]))) := fun a o h n => ⟨by rw [upd_ne fun z => n (by rw [z]; exact oD7)]; exact h, n⟩
                            have nD8 : ∀ i, OwnAt (unE vs env3 e3) i → σ[i]? ≠ some (some (V.ref D)) := fun i hi e => by
                              obtain ⟨p, ws', f1, f2, f3⟩ := R8.ownAddr hi
                              rcases hi with ⟨zs, hi⟩ | ⟨zs, hi⟩ <;> rcases unE_at hi with ⟨a, b⟩ | ⟨a, b⟩
                              · exact nD i (.inl ⟨zs, b⟩) e
                              · rcases b with ⟨us, ys, b1, b2, b3⟩ | ⟨b1, _⟩
                                · exact nD i (.inl ⟨us, b1⟩) e
                                · obtain ⟨q', _, g1, _, _, _, g2⟩ := R7.own i zs b1
                                  rw [hb i a] at g1
                                  rw [e] at g1; cases g1
                                  have g2' : H4 D = none := g2
                                  rw [hD4] at g2'; cases g2'
                              · exact nD i (.inr ⟨zs, b⟩) e
                              · rcases b with ⟨us, ys, b1, b2, b3⟩ | ⟨b1, _⟩
                                · cases b3
                                · obtain ⟨q', hq'⟩ := R7.muA i zs b1
                                  obtain ⟨n2, ⟨us, hl⟩, g3⟩ := mem_msE.mp hq'
                                  exact nD i (listAt_ownAt hl) e
                            have R9 : Rel G O7 (upd H7 D (.lst (acc ++ [yv]))) σ (unE vs env3 e3) := R8.move st9 (fun i p hi e => ⟨upd_ne fun z => nD8 i hi (by rw [← z]; exact e), by
                                obtain ⟨p', ws', f1, f2, f3⟩ := R8.ownAddr hi
                                rw [e] at f1; cases f1
                                exact f3⟩) (fun a o h h0 m q => ⟨by rw [upd_ne fun z => h0 (by rw [z]; exact hD0)]; exact h, q⟩) fun a h => by
                                  by_cases z : a = D
                                  · rw [z, upd_same]; exact fun z => nomatch z
                                  · rw [upd_ne z]; exact R8.ol a h
                            refine ⟨acc, hD7, by rw [← ra7.length]; exact hz, by omega, O7, unE vs env3 e3, accd ++ [y], acc ++ [yv], R9, (s4.trans s47).trans st9, unE_noMu nv, upd_same, RpAll.step st9 _ _ (ra7.append (by simp only [RpAll]; exact ⟨ry, True.intro⟩)), oD7, nD8, by rw [hrest]; exact h3⟩
                          · cases h3
                    | false =>
                      rw [if_neg Bool.false_ne_true] at h3
                      refine iteF ?_
                      obtain ⟨R8, kp⟩ := R4.leave nv R6 hb s6
                      obtain ⟨hD7, oD7⟩ := kp D _ hD4 oD nD
                      have nD8 : ∀ i, OwnAt (unE vs env3 e2) i → σ[i]? ≠ some (some (V.ref D)) := fun i hi e => by
                        rcases hi with ⟨zs, hi⟩ | ⟨zs, hi⟩ <;> rcases unE_at hi with ⟨a, b⟩ | ⟨a, b⟩
                        · exact nD i (.inl ⟨zs, b⟩) e
                        · rcases b with ⟨us, ys, b1, b2, b3⟩ | ⟨b1, _⟩
                          · exact nD i (.inl ⟨us, b1⟩) e
                          · obtain ⟨q', _, g1, _, _, _, g2⟩ := R6.own i zs b1
                            rw [hb i a] at g1
                            rw [e] at g1; cases g1
                            have g2' : H4 D = none := g2
                            rw [hD4] at g2'; cases g2'
                        · exact nD i (.inr ⟨zs, b⟩) e
                        · rcases b with ⟨us, ys, b1, b2, b3⟩ | ⟨b1, _⟩
                          · cases b3
                          · obtain ⟨q', hq'⟩ := R6.muA i zs b1
                            obtain ⟨n2, ⟨us, hl⟩, g3⟩ := mem_msE.mp hq'
                            exact nD i (listAt_ownAt hl) e
                      exact ⟨by omega, O6, unE vs env3 e2, accd, acc, R8, s4.trans s6, unE_noMu nv, hD7, RpAll.step s6 accd acc ra4, oD7, nD8, by rw [hrest]; exact h3⟩
      · cases er

variable {elt tg iter cnd : Expr} {scope : Scope} {own : List (Str × Nat)} {pos : Pos} {fi : M (List D)} {t : Tgt} {ws : List Nat} {c : M Bool} {f : M D}
/-- [elt for tg in iter if cnd] -/
theorem sv_comp1 (A : At X G W N sc blk k Mo) (hi : SI X G W tg iter fi) (ok : BlkOk N sc scope own)
    (hg : ∀ X' G', At X' G' W0 N (relS scope sc) true k Mo → STg X' G' tg ws t)
    (ht : ∀ X' G', At X' G' W0 N (relS scope sc) true k Mo → SB X' G' W0 cnd c)
    (he : ∀ X' G', At X' G' W0 N (relS scope sc) true k Mo → SD X' G' W0 elt f)
    (sub : ∀ i ∈ ws, i ∈ own.map (·.2) := by decide) (hs : ∀ x, foldedSetIterable iter X.env x = pure x := by intro _; rfl) :
    SV X G W (.ListComp elt [⟨tg, iter, [cnd], 0⟩] scope pos) (compM fi t (own.map (·.2)) c f) := by
  refine PE.imp (pe_lc A.calm (by rw [A.hN]; exact A.nd) hi (by rw [A.hN, A.hsc]; exact ok)
    (fun s H C cl fp => PG.ex (P := Cnd Mo) (t := fun G' => tTg G' ws t) fun G' cG => hg _ _ (A.inBlk cG s H scope C cl fp))
    (fun s H C cl fp => PTs.ex (P := Cnd Mo) (t := fun G' => tG G' W0 RB c) fun G' cG => pts_one (ht _ _ (A.inBlk cG s H scope C cl fp)))
    (fun s H C cl fp => PE.ex (P := Cnd Mo) (t := fun G' => tG G' W0 (RD G') f) fun G' cG => he _ _ (A.inBlk cG s H scope C cl fp)) hs) fun σ H Q h => comp_imp A sub h
/-- [elt for tg in iter] -/
theorem pts_yes {X : Cx} {G : Gd} {W : WX} : PTs X [] (tG G W RB (M.ret true)) := ⟨fun pins s σ H Q I ⟨O, env, R, t⟩ => pts_nil.run pins s σ H Q I (tAt.ret (RV := RB) t R rfl)⟩
theorem sv_comp0 (A : At X G W N sc blk k Mo) (hi : SI X G W tg iter fi) (ok : BlkOk N sc scope own)
    (hg : ∀ X' G', At X' G' W0 N (relS scope sc) true k Mo → STg X' G' tg ws t)
    (he : ∀ X' G', At X' G' W0 N (relS scope sc) true k Mo → SD X' G' W0 elt f)
    (sub : ∀ i ∈ ws, i ∈ own.map (·.2) := by decide) (hs : ∀ x, foldedSetIterable iter X.env x = pure x := by intro _; rfl) :
    SV X G W (.ListComp elt [⟨tg, iter, [], 0⟩] scope pos) (compM fi t (own.map (·.2)) (M.ret true) f) := by
  refine PE.imp (pe_lc A.calm (by rw [A.hN]; exact A.nd) hi (by rw [A.hN, A.hsc]; exact ok)
    (fun s H C cl fp => PG.ex (P := Cnd Mo) (t := fun G' => tTg G' ws t) fun G' cG => hg _ _ (A.inBlk cG s H scope C cl fp))
    (fun s H C cl fp => PTs.ex (P := Cnd Mo) (t := fun G' => tG G' W0 RB (M.ret true)) fun G' cG => pts_yes)
    (fun s H C cl fp => PE.ex (P := Cnd Mo) (t := fun G' => tG G' W0 (RD G') f) fun G' cG => he _ _ (A.inBlk cG s H scope C cl fp)) hs) fun σ H Q h => comp_imp A sub h
/-- y = [elt for tg in iter ..] on one line, y a local -/
theorem setLc_imp {i : Nat} {te : TE} {fa : M Vl} (hte : ∀ σ H Q, tG G W (RL G) fa σ H Q → te σ H Q) {D : Ends} {σ : L2.St} {H : Hp} (h : tSt G W (asgS i fa) D σ H) : tAsg te (gName i) D σ H := by
  obtain ⟨O, env, R, t⟩ := h
  refine hte _ _ _ ?_
  obtain ⟨O1, env1, R1, r1, e1, p1⟩ := bindS (RV := RL G) R t
  refine ⟨O1, env1, R1, r1, e1, p1.mono fun v H2 ⟨y, env2, O2, R2, s2, rx, r, er, p⟩ => ?_⟩
  dsimp only at er
  cases hst : storeE i y.sl env2 with
  | none => rw [hst] at er; cases er
  | some env3 =>
    rw [hst] at er
    cases er
    exact p _ O2 H2 (R2.store hst rx) Step.refl
theorem ss_comp1 (A : At X G W N sc blk k Mo) (i : Nat) {y : Str} {py spos : Pos} (hi : SI X G W tg iter fi) (ok : BlkOk N sc scope own)
    (hg : ∀ X' G', At X' G' W0 N (relS scope sc) true k Mo → STg X' G' tg ws t)
    (ht : ∀ X' G', At X' G' W0 N (relS scope sc) true k Mo → SB X' G' W0 cnd c)
    (he : ∀ X' G', At X' G' W0 N (relS scope sc) true k Mo → SD X' G' W0 elt f)
    (hy : N[i]? = some y := by rfl) (hyl : sc.names.lookup y = some .local := by rfl) (hl : (py.line == pos.line) = true := by rfl) (hk : sc.kind = .function := by rfl) (hno : (scope.names.any fun (n, k) => n == y && (k == .local || k == .cell)) = false := by decide +kernel)
    (sub : ∀ i ∈ ws, i ∈ own.map (·.2) := by decide) (hs : ∀ x, foldedSetIterable iter X.env x = pure x := by intro _; rfl) :
    SS X G W (.Assign [.Name y py] (.ListComp elt [⟨tg, iter, [cnd], 0⟩] scope pos) spos) (asgS i (compM fi t (own.map (·.2)) c f)) :=
  PS.imp (ps_setLc (i := i) A.calm (by rw [A.hN]; exact A.nd) (by rw [A.hN]; exact hy) (by rw [A.hsc]; exact hyl) (sw_true (by rw [A.hsc]; exact hk) (by rw [A.hsc]; exact hyl) hl hno) hi (by rw [A.hN, A.hsc]; exact ok)
    (fun s H C cl fp => PG.ex (P := Cnd Mo) (t := fun G' => tTg G' ws t) fun G' cG => hg _ _ (A.inBlk cG s H scope C cl fp))
    (fun s H C cl fp => PTs.ex (P := Cnd Mo) (t := fun G' => tG G' W0 RB c) fun G' cG => pts_one (ht _ _ (A.inBlk cG s H scope C cl fp)))
    (fun s H C cl fp => PE.ex (P := Cnd Mo) (t := fun G' => tG G' W0 (RD G') f) fun G' cG => he _ _ (A.inBlk cG s H scope C cl fp)) hs) fun D σ H h => setLc_imp (fun _ _ _ => comp_imp A sub) h
theorem ss_comp0 (A : At X G W N sc blk k Mo) (i : Nat) {y : Str} {py spos : Pos} (hi : SI X G W tg iter fi) (ok : BlkOk N sc scope own)
    (hg : ∀ X' G', At X' G' W0 N (relS scope sc) true k Mo → STg X' G' tg ws t)
    (he : ∀ X' G', At X' G' W0 N (relS scope sc) true k Mo → SD X' G' W0 elt f)
    (hy : N[i]? = some y := by rfl) (hyl : sc.names.lookup y = some .local := by rfl) (hl : (py.line == pos.line) = true := by rfl) (hk : sc.kind = .function := by rfl) (hno : (scope.names.any fun (n, k) => n == y && (k == .local || k == .cell)) = false := by decide +kernel)
    (sub : ∀ i ∈ ws, i ∈ own.map (·.2) := by decide) (hs : ∀ x, foldedSetIterable iter X.env x = pure x := by intro _; rfl) :
    SS X G W (.Assign [.Name y py] (.ListComp elt [⟨tg, iter, [], 0⟩] scope pos) spos) (asgS i (compM fi t (own.map (·.2)) (M.ret true) f)) :=
  PS.imp (ps_setLc (i := i) A.calm (by rw [A.hN]; exact A.nd) (by rw [A.hN]; exact hy) (by rw [A.hsc]; exact hyl) (sw_true (by rw [A.hsc]; exact hk) (by rw [A.hsc]; exact hyl) hl hno) hi (by rw [A.hN, A.hsc]; exact ok)
    (fun s H C cl fp => PG.ex (P := Cnd Mo) (t := fun G' => tTg G' ws t) fun G' cG => hg _ _ (A.inBlk cG s H scope C cl fp))
    (fun s H C cl fp => PTs.ex (P := Cnd Mo) (t := fun G' => tG G' W0 RB (M.ret true)) fun G' cG => pts_yes)
    (fun s H C cl fp => PE.ex (P := Cnd Mo) (t := fun G' => tG G' W0 (RD G') f) fun G' cG => he _ _ (A.inBlk cG s H scope C cl fp)) hs) fun D σ H h => setLc_imp (fun _ _ _ => comp_imp A sub) h
end
end PV

/-! PV15: raise, try. -/
namespace PV
open PySem PySem.Spec PyProof.Rows L2

theorem fly_keeps {B h h' : Heap} {l : List Env} {a : Addr} {Z : Obj → Prop} (k : ∀ b o, h.get? b = some o → h'.get? b = some o) (f : HandSPX.FlyingZ B l a Z h) : HandSPX.FlyingZ B l a Z h' := by
  obtain ⟨f1, f2, f3, oe, vs, T, oT, ts, e1, e2, e3, e4, e5, e6, e7, e8, e9⟩ := f
  exact ⟨fun b o e => k b o (f1 b o e), f2, f3.of_keeps (fun b o e _ => ⟨o, k b o e, rfl⟩), oe, vs, T, oT, ts, k _ _ e1, e2, e3, e4, e5, e6, k _ _ e7, e8, e9⟩

section
variable {X : Cx} {pins : List (Addr × Obj)} {σ : L2.St} {H : Hp} {s sI : Shared} {a : Addr}
/-- the exception is tracked -/
theorem inv_track (I : Inv X pins σ H s) (hs0 : X.s_0.heap.get? a = none) (na : H a = none) {c : Value} {d : Option Addr} {oe : Obj} {vs : Array Value} (he : s.heap.get? a = some oe) (hz : Zc c d oe) (hd : oe.data = .fields vs)
    (nL : a ≠ X.env.locals) (np : ∀ p ∈ X.pn ++ pins, p.1 ≠ a) : Inv X pins σ (upd H a (exH a c d)) s := by
  have ne_of : ∀ {b u}, H b = some u → b ≠ a := fun {b u} e z => by rw [z, na] at e; cases e
  refine ⟨I.ok, I.os, I.bare, ⟨I.base.keep, I.base.slot, fun b o e n hx => ?_, I.base.there, fun b xs e => ?_, fun b o u e => ?_, fun b ps e => ?_⟩, I.loc, I.cell, ?_, fun y c e => ?_, fun p hp => ?_, fun b u e => ?_, I.len⟩
  · have nb : b ≠ a := fun z => by rw [z, hs0] at e; cases e
    rw [upd_ne nb]
    exact I.base.free b o e n hx
  · have z := I.base.tups b xs e
    rw [upd_ne (ne_of z)]; exact z
  · have z := I.base.frzs b o u e
    rw [upd_ne (ne_of z)]; exact z
  · obtain ⟨more, z⟩ := I.base.tbls b ps e
    exact ⟨more, by rw [upd_ne (ne_of z)]; exact z⟩
  · rw [upd_ne fun z => nL z.symm]; exact I.free
  · rw [upd_ne fun z => ?_]
    · exact I.freeC y c e
    · obtain ⟨v, hv⟩ := I.cell y c e
      obtain ⟨o', h1, h2⟩ : ∃ o', s.heap.get? c = some o' ∧ o'.data = .cell v := by
        obtain ⟨o', h1, h2⟩ := hv
        exact ⟨o', h1, h2⟩
      rw [z, he] at h1
      cases h1
      rw [hd] at h2
      cases h2
  · obtain ⟨e, n, r⟩ := I.pin p hp
    exact ⟨e, by rw [upd_ne (np p hp)]; exact n, r⟩
  · by_cases hb : b = a
    · subst hb
      rw [upd_same] at e
      cases e
      exact ⟨⟨oe, he, hz, vs, hd⟩, ⟨oe, he⟩, fun h1 h2 ⟨o, q1, q2⟩ k => ⟨o, k o q1, q2⟩⟩
    · rw [upd_ne hb] at e
      exact (I.hok b u e).stay (fun _ _ _ q => q) (fun b' e' => by rw [upd_ne (ne_of e')]; exact e') fun b' xs e' => by rw [upd_ne (ne_of e')]; exact e'
theorem inv_suite (I : Inv X pins σ H s) : Inv (X.suite a (X.pn ++ pins)) [] σ H s :=
  ⟨I.ok.suite _ _, I.os, I.bare, I.base, I.loc, I.cell, I.free, I.freeC, fun p hp => I.pin p (by rw [List.append_nil] at hp; exact hp), I.hok, I.len⟩
theorem inv_unsuite (ok : X.Ok) {pn' : List (Addr × Obj)} (I : Inv (X.suite a (X.pn ++ pins)) pn' σ H s) : Inv X pins σ H s :=
  ⟨ok, I.os, I.bare, I.base, I.loc, I.cell, I.free, I.freeC, fun p hp => I.pin p (List.mem_append_left _ hp), I.hok, I.len⟩
end

/-- the test of an except clause -/
def TstOk (X : Cx) (cls : Nat → Addr) (test : Expr) (mat : List Bool) : Prop := ∀ (a : Addr) (pn : List (Addr × Obj)) (σ : L2.St) (H : Hp) (s : Shared) (cid : Nat) (b : Bool) (Q : Value → Shared → Prop) (E : Value → Shared → Prop), Inv (X.suite a pn) [] σ H s →
  (∃ oe, s.heap.get? a = some oe ∧ oe.cls = .ref (cls cid)) → mat[cid]? = some b →
  (∀ c h' t', (∀ b o, s.heap.get? b = some o → h'.get? b = some o) → PySem.W.Looks (model X.prog X.w) h' (excMatches (.ref a) c) b → Q c { s with heap := h', toks := t' }) → wpAny (model X.prog X.w) (X.A.mark (some (.ref a))) (eval test X.env) Q E s

structure HdM where
  mat : List Bool
  nm : Option Nat
  suite : Stm
def shut (i : Option Nat) : Option (Fl × SEnv) → Option (Fl × SEnv)
  | some (.ex _, _) => none
  | some (f, e) => match i with
    | none => some (f, e)
    | some i => some (f, e.set i none)
  | none => none
def handS : List HdM → Exn → Stm
  | [], e, env => some (.ex e, env)
  | h :: r, e, env => match h.mat[e.cid]? with
    | none => none
    | some false => handS r e env
    | some true => match h.nm with
      | none => shut none (h.suite env)
      | some i => match storeE i (.x e) env with
        | none => none
        | some env1 => shut (some i) (h.suite env1)
def tryS (body : Stm) (hds : List HdM) : Stm := fun env => match body env with
  | some (.ex e, env1) => handS hds e env1
  | r => r
def wTry (G : Gd) (W : WX) (D : Ends) (hds : List HdM) : WX := fun cls dd σ H => ∃ O env e r, Rel G O H σ env ∧ ExR G O H e cls dd ∧ handS hds e env = some r ∧ PstS G W O H D r
theorem try_imp {G : Gd} {W : WX} {fb : Stm} {hds : List HdM} {D : Ends} {σ : L2.St} {H : Hp} (h : tSt G W (tryS fb hds) D σ H) : tSt G (wTry G W D hds) fb D σ H := by
  obtain ⟨O, env, R, r, er, p⟩ := h
  unfold tryS at er
  cases hf : fb env with
  | none => rw [hf] at er; cases er
  | some q =>
    obtain ⟨fl, env1⟩ := q
    rw [hf] at er
    refine ⟨O, env, R, (fl, env1), hf, ?_⟩
    cases fl with
    | nx => cases er; exact p
    | bk => cases er; exact p
    | ct => cases er; exact p
    | rt x => cases er; exact p
    | ex x => exact fun cls dd σ' O' H' R' st xr => ⟨O', env1, x, r, R', xr, er, p.weak st⟩

inductive HdsT (X : Cx) (G : Gd) (N : List Str) : List ExceptHandler → List HdM → Prop
  | nil : HdsT X G N [] []
  | bare {test : Expr} {mat : List Bool} {b₀ : Stmt} {suite : List Stmt} {pos' : Pos} {hds : List ExceptHandler} {l : List HdM} {f : Stm} (ht : TstOk X G.cls test mat)
      (hsu : ∀ (a : Addr) (pn : List (Addr × Obj)), SSs (X.suite a pn) G W0 (b₀ :: suite) f) (r : HdsT X G N hds l) :
      HdsT X G N (.ExceptHandler (some test) none (b₀ :: suite) pos' :: hds) (⟨mat, none, f⟩ :: l)
  | named {test : Expr} {mat : List Bool} {n : Str} {i : Nat} {b₀ : Stmt} {suite : List Stmt} {pos' : Pos} {hds : List ExceptHandler} {l : List HdM} {f : Stm} (ht : TstOk X G.cls test mat)
      (hi : N[i]? = some n) (hln : X.env.kindOf n = some .local) (hsu : ∀ (a : Addr) (pn : List (Addr × Obj)), SSs (X.suite a pn) G W0 (b₀ :: suite) f) (r : HdsT X G N hds l) :
      HdsT X G N (.ExceptHandler (some test) (some n) (b₀ :: suite) pos' :: hds) (⟨mat, some i, f⟩ :: l)

/-- slots: an exception is put in -/
theorem Rel.storeX {G : Gd} {O : Own} {H : Hp} {σ : L2.St} {env env' : SEnv} {i : Nat} {x : Exn} {v : V} (R : Rel G O H σ env) (h : storeE i (.x x) env = some env') (rx : XR G.K G.cls O H x v) : Rel G O H (σ.set i (some v)) env' := by
  unfold storeE at h
  split at h
  · cases h
  · cases h
  · rename_i s hm hi
    cases h
    have hl : i < env.length := (List.getElem?_eq_some_iff.mp hi).1
    have hσ : (σ.set i (some v))[i]? = some (some v) := List.getElem?_set_self (by rw [← R.len]; exact hl)
    have nm : ∀ xs : List D, env[i]? ≠ some (some (Sl.mu xs)) := fun xs z => hm xs (by rw [hi] at z; exact Option.some.inj z)
    have R1 : Rel G O H (σ.set i (some v)) (env.set i none) := R.drop nm (List.length_set ..) fun j n => List.getElem?_set_ne (Ne.symm n)
    have R2 := R1.putX (i := i) (x := x) (v := v) (fun ys z => by rw [List.getElem?_set_self hl] at z; cases z) hσ rx
    rw [set_again] at R2
    exact R2
theorem storeE_noMu {env env' : SEnv} {i : Nat} {s : Sl} (h : storeE i s env = some env') : (∀ xs : List D, env[i]? ≠ some (some (Sl.mu xs))) ∧ env' = env.set i (some s) := by
  unfold storeE at h
  split at h
  · cases h
  · cases h
  · rename_i s hm hi
    cases h
    exact ⟨fun xs z => hm xs (by rw [hi] at z; exact Option.some.inj z), rfl⟩
section
variable {X : Cx} {G : Gd} {W : WX} {N : List Str} {sc : Scope} {k : Nat} {Mo : Wo} {pos : Pos} {body : List Stmt} {h₀ : ExceptHandler} {hds : List ExceptHandler} {l : List HdM} {fb : Stm}
theorem At.toTry {blk : Bool} (A : At X G W N sc blk k Mo) {W' : WX} {pn : List (Addr × Obj)} {xe : Value → Shared → Prop} (tk : Takes (X.tr pn xe) W') (ps : PassesOwn (model X.prog X.w) X.A X.env xe) : At (X.tr pn xe) G W' N sc blk k Mo where
  hN := A.hN
  nd := A.nd
  hsc := A.hsc
  fn := A.fn
  gd := A.gd
  hK := A.hK
  hmg := A.hmg
  hP := A.hP
  hw := A.hw
  hb := A.hb
  gK := A.gK
  gc := A.gc
  stk := A.stk
  ex0 := A.ex0
  sys := A.sys
  calm := A.calm
  tk := tk
  pass := ps
  room := A.room
theorem At0.toSuite {blk : Bool} (A : At0 X G N sc blk Mo) (a : Addr) (pn : List (Addr × Obj)) : At0 (X.suite a pn) G N sc blk Mo where
  hN := A.hN
  nd := A.nd
  hsc := A.hsc
  fn := A.fn
  gd := A.gd
  hK := A.hK
  hmg := A.hmg
  hP := A.hP
  hw := A.hw
  hb := A.hb
  gK := A.gK
  gc := A.gc
  stk := A.stk
  ex0 := A.ex0
  sys := A.sys
end
end PV

/-! PV16: the rule of try. -/
namespace PV
open PySem PySem.Spec PyProof.Rows L2

theorem shut_none {o : Option (Fl × SEnv)} {r : Fl × SEnv} (h : shut none o = some r) : ∃ fl env2, o = some (fl, env2) ∧ r = (fl, env2) ∧ ∀ e, fl ≠ .ex e := by
  unfold shut at h
  split at h
  · cases h
  · rename_i f e hne
    cases h
    exact ⟨f, e, rfl, rfl, fun x z => hne x z⟩
  · cases h
theorem shut_some {i : Nat} {o : Option (Fl × SEnv)} {r : Fl × SEnv} (h : shut (some i) o = some r) : ∃ fl env2, o = some (fl, env2) ∧ r = (fl, env2.set i none) ∧ ∀ e, fl ≠ .ex e := by
  unfold shut at h
  split at h
  · cases h
  · rename_i f e hne
    cases h
    exact ⟨f, e, rfl, rfl, fun x z => hne x z⟩
  · cases h
theorem pst_w0 {G : Gd} {W : WX} {O : Own} {H : Hp} {D : Ends} {fl : Fl} {env : SEnv} (nex : ∀ e, fl ≠ .ex e) (p : PstS G W O H D (fl, env)) : PstS G W0 O H D (fl, env) := by
  cases fl with
  | nx => exact p
  | bk => exact p
  | ct => exact p
  | rt x => exact p
  | ex x => exact absurd rfl (nex x)
theorem pst_drop {G : Gd} {W : WX} {O : Own} {H H2 : Hp} {σ : L2.St} {env env2 : SEnv} {D : Ends} {fl : Fl} {i : Nat} (R : Rel G O H σ env) (nm : ∀ xs : List PyData, env[i]? ≠ some (some (Sl.mu xs))) (gw : Grow H H2) (nex : ∀ e, fl ≠ .ex e) (p : PstS G W O H D (fl, env2.set i none)) :
    PstS G W0 O H2 { nx := fun σ' H' => D.nx (σ'.set i none) H', rt := D.rt, bk := fun σ' H' => D.bk (σ'.set i none) H', ct := fun σ' H' => D.ct (σ'.set i none) H' } (fl, env2) := by
  have dr : ∀ {σ' O' H'}, Rel G O' H' σ' env2 → Rel G O' H' (σ'.set i none) (env2.set i none) := fun {σ' O' H'} R' => R'.drop (fun xs z => by
    obtain ⟨q, hq⟩ := R'.muA i xs z
    obtain ⟨ys, _, e, _⟩ := R.mst i q hq
    exact nm ys e) (List.length_set ..) fun j n => List.getElem?_set_ne (Ne.symm n)
  cases fl with
  | nx => exact fun σ' O' H' R' st => p _ O' H' (dr R') (gw.step.trans st)
  | bk => exact fun σ' O' H' R' st => p _ O' H' (dr R') (gw.step.trans st)
  | ct => exact fun σ' O' H' R' st => p _ O' H' (dr R') (gw.step.trans st)
  | rt x =>
    refine fun v σ' O' H' R' st rl => p v _ O' H' (dr R') (gw.step.trans st) ?_
    cases x with
    | d d => exact rl
    | own xs =>
      obtain ⟨q, vs, h1, h2, h3, h4, h5, h6⟩ := rl
      refine ⟨q, vs, h1, h2, h3, h4, h5, fun j hj e => ?_⟩
      obtain ⟨n, hj⟩ := hj.of_drop
      rw [List.getElem?_set_ne (Ne.symm n)] at e
      exact h6 j hj e
  | ex x => exact absurd rfl (nex x)
section
variable {X : Cx} {G : Gd} {W : WX} {N : List Str} {sc : Scope} {k : Nat} {Mo : Wo} {pos : Pos} {body : List Stmt} {h₀ : ExceptHandler} {hds : List ExceptHandler} {l : List HdM} {fb : Stm}
theorem ss_try (A : At X G W N sc false k Mo) (hb : ∀ (X' : Cx) (W' : WX), At X' G W' N sc false k Mo → SSs X' G W' body fb) (hh : HdsT X G N (h₀ :: hds) l) : SS X G W (.Try body (h₀ :: hds) [] [] pos) (tryS fb l) := by
  refine ⟨fun pins s σ H D I h0 => ?_⟩
  have h := try_imp h0
  obtain ⟨hs, hf⟩ := A.stk rfl
  have ok := I.ok
  have hfr : X.A.frames = some (X.env :: X.outer) := by rw [ok.frames, hs]
  refine wpAny_Try_except ?_
  have body_ := hb (X.tr (X.pn ++ pins) (fun e s₁ => wpAny (model X.prog X.w) X.A (noteFrame e X.env) (fun _ s₂ => wpAny (model X.prog X.w) X.A (setFlight e none) (fun _ s₃ =>
    wpAny (model X.prog X.w) X.A (handleBy e X.env (h₀ :: hds)) (SP X pins D) X.xe s₃) X.xe s₂) X.xe s₁)) (wTry G W D l) (A.toTry (fun u s' xx => ?_) PassesOwn.looking)
  · refine wpAny_mono (body_.run [] s σ H D (I.toTry _) h) (fun f s1 hsp => ?_) (fun e s1 he => he)
    cases f with
    | next =>
      obtain ⟨σ', H', J', q⟩ := hsp
      exact wpAny_execs_nil ⟨σ', H', J'.ofTry ok, q⟩
    | brk =>
      obtain ⟨σ', H', J', q⟩ := hsp
      exact ⟨σ', H', J'.ofTry ok, q⟩
    | cont =>
      obtain ⟨σ', H', J', q⟩ := hsp
      exact ⟨σ', H', J'.ofTry ok, q⟩
    | ret u =>
      obtain ⟨v, σ', H', J', r, q⟩ := hsp
      exact ⟨v, σ', H', J'.ofTry ok, r, q⟩
  · -- the catch
    obtain ⟨a, B, sI, pins', σ', H', cls, d, rfl, J', nb, up, sky, na, os, ag, O, env, e, r, R, xr, er, pr⟩ := xx
    have J : Inv X pins σ' H' sI := J'.ofTry ok
    have sky' : Sky B (X.env :: X.outer) a (Zc cls d) X.env.locals s'.heap := by rw [← hs]; exact sky
    show wpAny (model X.prog X.w) X.A (noteFrame (.ref a) X.env) _ _ _
    refine Sky.land Zc.steady hfr hf sky' fun h3 fl3 up3 => ?_
    have ec : cls = .ref (G.cls e.cid) := xr.1
    have notFr : ∀ {h : Heap} {o : Obj} {vs : Array Value}, h.FunFrames B (X.env :: X.outer) → h.get? a = some o → o.data = .fields vs → a ∉ frs (X.env :: X.outer) := fun {h o vs} ff e dd hm => by
      obtain ⟨_, o', e', hnf⟩ := ff.mem hm
      rw [e] at e'; cases e'
      exact hnf _ dd
    have nfr : a ∉ frs (X.env :: X.outer) := by
      obtain ⟨oe3, vs3, he3, hz3, hd3⟩ := fl3.there
      exact notFr fl3.2.2.1 he3 hd3
    have nL : a ≠ X.env.locals := fun z => nfr (List.mem_filterMap.mpr ⟨X.env, List.mem_cons_self, by rw [hf, z]⟩)
    have nI : sI.heap.get? a = none := by
      cases q : sI.heap.get? a with
      | none => rfl
      | some o =>
        have z := nb a o q (by rw [hs]; exact nfr)
        rw [fl3.2.1] at z; cases z
    have n0 : X.s_0.heap.get? a = none := by
      cases q : X.s_0.heap.get? a with
      | none => rfl
      | some o =>
        obtain ⟨o', q'⟩ := J.base.there a o q (by rw [A.ex0 rfl]; exact List.not_mem_nil)
        rw [nI] at q'; cases q'
    have np : ∀ p ∈ X.pn ++ pins, p.1 ≠ a := fun p hp z => by
      have q := (J.pin p hp).1
      rw [z, nI] at q; cases q
    -- the clauses, one behind the other
    have go : ∀ {hds' : List ExceptHandler} {l' : List HdM}, HdsT X G N hds' l' → ∀ {h5 : Heap} {t5 : Nat}, HandSPX.FlyingZ B (X.env :: X.outer) a (Zc cls d) h5 → sI.heap.UpToSlots h5 → handS l' e env = some r →
        wpAny (model X.prog X.w) X.A (handleBy (.ref a) X.env hds') (SP X pins D) X.xe { s' with heap := h5, toks := t5 } := by
      intro hds' l' hk
      induction hk with
      | nil =>
        intro h5 t5 fl5 up5 er
        cases er
        refine wpAny_handleBy_nil ?_
        obtain ⟨k1, k2, k3, oe, vs, T, oT, ts', he, hz, hd, h1, hr⟩ := id fl5
        unfold PySem.passOn
        refine wpAny_bind (wpAny_field he hd h1 ?_)
        rw [if_neg (show ¬ ((Value.ref T == Value.none) = true) from by simp)]
        have fin : wpAny (model X.prog X.w) X.A (setFlight (.ref a) X.env.frame) (fun _ s4 => wpAny (model X.prog X.w) X.A (throw (.ref a) : Sem Flow) (SP X pins D) X.xe s4) X.xe { s' with heap := h5, toks := t5 } := by
          rw [hf]
          refine HandSPX.setFlight_upZ fl5 fun h4 hh4 up4 => wpAny_throw (A.tk _ _ ?_)
          exact ⟨a, B, sI, pins, σ', H', cls, d, rfl, J, nb, up5.trans up4, .inr (.inr (by rw [hs]; exact hh4)), na, os, ag, pr cls d σ' O H' R Step.refl xr⟩
        first
          | exact wpAny_bind (wpAny_pure (wpAny_bind fin))
          | exact wpAny_bind fin
      | @bare test mat b₀ suite pos' hds2 l2 f ht hsu _ ih =>
        intro h5 t5 fl5 up5 er
        obtain ⟨oe5, vs5, he5, hz5, hd5⟩ := fl5.there
        unfold handS at er
        cases hm : mat[e.cid]? with
        | none => simp only [hm] at er; cases er
        | some b =>
          simp only [hm] at er
          have J5 : Inv X pins σ' H' { s' with heap := h5, toks := t5 } := J.landed nb fl5.1 up5 os ag
          refine wpAny_handleBy_cons (codeAny_handlers_test ?_) (by intro q; cases q)
          refine ht a (X.pn ++ pins) σ' H' _ e.cid b _ _ (inv_suite J5) ⟨oe5, he5, by rw [hz5.1, ec]⟩ hm fun c h6 t6 k6 LM => ?_
          have fl6 := fly_keeps k6 fl5
          have up6 := up5.trans (Heap.UpToSlots.of_keeps k6)
          refine LM.here ?_
          cases b with
          | true =>
            refine codeAny_handlers_suite ?_
            refine HandSPX.lands_againZ fl6 fun h7 fl7 up7 => ?_
            have J7 : Inv X pins σ' H' { s' with heap := h7, toks := t6 } := J.landed nb fl7.1 (up6.trans up7) os ag
            dsimp only at er
            obtain ⟨fl, env2, hfe, rfl, nex⟩ := shut_none er
            have rd : tSt G W0 f D σ' H' := ⟨O, env, R, (fl, env2), hfe, pst_w0 nex pr⟩
            refine wpAny_mono ((hsu a (X.pn ++ pins)).run [] _ σ' H' D (inv_suite J7) rd) (fun f6 s6 hsp => ?_) (fun _ _ z => False.elim z)
            cases f6 with
            | next =>
              obtain ⟨σ6, H6, S6, q6⟩ := hsp
              exact ⟨_, _, inv_unsuite ok S6, q6⟩
            | brk =>
              obtain ⟨σ6, H6, S6, q6⟩ := hsp
              exact ⟨_, _, inv_unsuite ok S6, q6⟩
            | cont =>
              obtain ⟨σ6, H6, S6, q6⟩ := hsp
              exact ⟨_, _, inv_unsuite ok S6, q6⟩
            | ret u =>
              obtain ⟨v6, σ6, H6, S6, r6, q6⟩ := hsp
              exact ⟨_, _, _, inv_unsuite ok S6, r6, q6⟩
          | false =>
            show wpAny _ X.A (handleBy (.ref a) X.env hds2) _ _ _
            exact ih fl6 up6 er
      | @named test mat n i b₀ suite pos' hds2 l2 f ht hi hln hsu _ ih =>
        intro h5 t5 fl5 up5 er
        obtain ⟨oe5, vs5, he5, hz5, hd5⟩ := fl5.there
        unfold handS at er
        cases hm : mat[e.cid]? with
        | none => simp only [hm] at er; cases er
        | some b =>
          simp only [hm] at er
          have J5 : Inv X pins σ' H' { s' with heap := h5, toks := t5 } := J.landed nb fl5.1 up5 os ag
          refine wpAny_handleBy_cons (codeAny_handlers_test ?_) (by intro q; cases q)
          refine ht a (X.pn ++ pins) σ' H' _ e.cid b _ _ (inv_suite J5) ⟨oe5, he5, by rw [hz5.1, ec]⟩ hm fun c h6 t6 k6 LM => ?_
          have fl6 := fly_keeps k6 fl5
          have up6 := up5.trans (Heap.UpToSlots.of_keeps k6)
          refine LM.here ?_
          cases b with
          | true =>
            refine codeAny_handlers_suite_as ?_
            refine HandSPX.lands_againZ fl6 fun h7 fl7 up7 => ?_
            have J7 : Inv X pins σ' H' { s' with heap := h7, toks := t6 } := J.landed nb fl7.1 (up6.trans up7) os ag
            obtain ⟨oe7, vs7, he7, hz7, hd7⟩ := fl7.there
            have K7 := inv_track J7 n0 na he7 hz7 hd7 nL np
            dsimp only at er
            cases hst : storeE i (.x e) env with
            | none => rw [hst] at er; cases er
            | some env1 =>
              rw [hst] at er
              dsimp only at er
              obtain ⟨fl, env2, hfe, rfl, nex⟩ := shut_some er
              have gw : Grow H' (upd H' a (exH a cls d)) := Grow.upd na
              have xr2 : XR G.K G.cls O (upd H' a (exH a cls d)) e (.ref a) := ⟨a, d, rfl, by rw [upd_same, ec], fun z => R.ol a z na, (xr.2).step gw.step⟩
              have R2 := (R.grow gw).storeX hst xr2
              have nm := (storeE_noMu hst).1
              refine store_ok (X := X.suite a (X.pn ++ pins)) (v := .ref a) (inv_suite K7) (by show X.N.Nodup; rw [A.hN]; exact A.nd) (by show X.N[i]? = _; rw [A.hN]; exact hi) (.inl hln) rfl (fun s8 S8 => ?_) (.inr hln)
              have rd : tSt G W0 f { nx := fun σ' H' => D.nx (σ'.set i none) H', rt := D.rt, bk := fun σ' H' => D.bk (σ'.set i none) H', ct := fun σ' H' => D.ct (σ'.set i none) H' } (σ'.set i (some (.ref a))) (upd H' a (exH a cls d)) := ⟨O, env1, R2, (fl, env2), hfe, pst_drop R nm gw nex pr⟩
              refine wpAny_mono ((hsu a (X.pn ++ pins)).run [] s8 _ _ _ S8 rd) (fun f6 s6 hsp => ?_) (fun _ _ z => False.elim z)
              have end_ : ∀ {σ6 : L2.St} {H6 : Hp} {Q : Shared → Prop}, Inv (X.suite a (X.pn ++ pins)) [] σ6 H6 s6 → (∀ s7, Inv X pins (σ6.set i none) H6 s7 → Q s7) →
                  wpAny (model X.prog X.w) X.A (do bindName X.env n .none; unbindBehindTheSuite X.env n pos') (fun _ s7 => Q s7) X.xe s6 := fun {σ6 H6 Q} S6 hq => gone_ok (inv_unsuite ok S6) (by rw [A.hN]; exact A.nd) (by rw [A.hN]; exact hi) hln hq
              cases f6 with
              | next =>
                obtain ⟨σ6, H6, S6, q6⟩ := hsp
                exact end_ S6 fun s7 J7 => ⟨_, _, J7, q6⟩
              | brk =>
                obtain ⟨σ6, H6, S6, q6⟩ := hsp
                exact end_ S6 fun s7 J7 => ⟨_, _, J7, q6⟩
              | cont =>
                obtain ⟨σ6, H6, S6, q6⟩ := hsp
                exact end_ S6 fun s7 J7 => ⟨_, _, J7, q6⟩
              | ret u =>
                obtain ⟨v6, σ6, H6, S6, r6, q6⟩ := hsp
                exact end_ S6 fun s7 J7 => ⟨_, _, _, J7, r6, q6⟩
          | false =>
            show wpAny _ X.A (handleBy (.ref a) X.env hds2) _ _ _
            exact ih fl6 up6 er
    exact go hh fl3 (up.trans up3) er
end
end PV

/-! PV17: tests of except clauses, raise, what is asked of an exception. -/
namespace PV
open PySem PySem.Spec PyProof.Rows L2

/-- a class by its name -/
inductive CName (sc : Scope) (Mo : Wo) : Str → V → Value → Prop
  | own {x : Str} {C : Addr} (hg : sc.names.lookup x = some .globalImplicit) (hm : Mo.mg x = some (.ref C)) (hd : (x == ("__debug__" : Str)) = false) : CName sc Mo x (.ref C) (.ref C)
  | bi {x : Str} {n : String} (hg : sc.names.lookup x = some .globalImplicit) (hm : Mo.mg x = none) (hv : bootBuiltins x = some (.type n)) (hn : x ≠ "__name__") (hd : (x == ("__debug__" : Str)) = false) : CName sc Mo x (.ty n) (.type n)
inductive CNames (sc : Scope) (Mo : Wo) : List Expr → List V → List Value → Prop
  | nil : CNames sc Mo [] [] []
  | cons {x : Str} {p : Pos} {es : List Expr} {v : V} {u : Value} {vs : List V} {us : List Value} (h : CName sc Mo x v u) (r : CNames sc Mo es vs us) : CNames sc Mo (.Name x p :: es) (v :: vs) (u :: us)
theorem CName.cls {sc : Scope} {Mo : Wo} {x : Str} {v : V} {u : Value} (h : CName sc Mo x v u) : ClsV v u := by
  cases h with
  | own => exact .own _
  | bi => exact .ty _
theorem CNames.cls {sc : Scope} {Mo : Wo} {es : List Expr} {vs : List V} {us : List Value} (h : CNames sc Mo es vs us) : Paired ClsV vs us := by
  induction h with
  | nil => exact .nil
  | cons h r ih => exact .cons h.cls ih
section
variable {X : Cx} {G : Gd} {W : WX} {N : List Str} {sc : Scope} {blk : Bool} {k : Nat} {Mo : Wo} {pos p : Pos} {x : Str} {v : V} {u : Value}
theorem CName.pe (A : At0 X G N sc blk Mo) (h : CName sc Mo x v u) : PE X (.Name x p) (tC v) := by
  cases h with
  | own hg hm hd => exact pe_glob (by show X.env.scope.names.lookup x = _; rw [A.hsc]; exact hg) (by rw [A.hmg]; exact hm) rfl hd
  | bi hg hm hv hn hd => exact pe_bltn (by show X.env.scope.names.lookup x = _; rw [A.hsc]; exact hg) (by rw [A.hmg]; exact hm) hv rfl hn hd
theorem CName.names (A : At0 X G N sc blk Mo) (h : CName sc Mo x v u) : Names X x u := by
  cases h with
  | own hg hm hd => exact ⟨by show X.env.scope.names.lookup x = _; rw [A.hsc]; exact hg, hd, .inl (by rw [A.hmg]; exact hm)⟩
  | bi hg hm hv hn hd => exact ⟨by show X.env.scope.names.lookup x = _; rw [A.hsc]; exact hg, hd, .inr ⟨by rw [A.hmg]; exact hm, hv, hn⟩⟩
def tCs (vs : List V) : TA := fun _ H Q => Q vs H
theorem CNames.pa (A : At0 X G N sc blk Mo) {es : List Expr} {vs : List V} {us : List Value} (h : CNames sc Mo es vs us) : PA X es (tCs vs) := by
  induction h with
  | nil => exact PA.imp pa_nil fun _ _ _ q => q
  | cons h r ih => exact PA.imp (pa_cons (h.pe A) ih) fun _ _ _ q => q
theorem ld_cname {E : Value → Shared → Prop} {Q : Value → Shared → Prop} {pins : List (Addr × Obj)} {σ : L2.St} {H : Hp} {s : Shared} (I : Inv X pins σ H s) (h : Names X x u) (q : Q u s) : wpAny (model X.prog X.w) X.A (eval (.Name x p) X.env) Q E s := by
  obtain ⟨hg, hdbg, hm | ⟨hm, hv, hnn⟩⟩ := h
  · exact ld_glob I hg hm q hdbg
  · exact ld_blt I hg hm hv q hnn hdbg
/-- except x -/
theorem tst_one (A : At0 X G N sc blk Mo) {mat : List Bool} (h : CName sc Mo x v u) (hmat : ∀ (cid : Nat) (b : Bool), mat[cid]? = some b → PySem.W.exmOne Mo.K (.ref (Mo.cls cid)) u = some b) : TstOk X G.cls (.Name x p) mat := by
  intro a pn σ H s cid b Q E I ⟨oe, he, hc⟩ hm q
  have LT : PySem.W.Looks (model X.prog X.w) s.heap (typeOf (.ref a)) (.ref (G.cls cid)) := fun A Q E s k q => wpAny_typeOf_ref (k _ _ he) (by rw [hc]; exact q)
  have LM := PySem.W.exm_one (M := model X.prog X.w) I.kIn LT (by show PySem.W.exmOne X.K _ _ = some b; rw [A.hK, A.gK, A.gc]; exact hmat cid b hm)
  exact ld_cname (X := X.suite a pn) I (h.names (A.toSuite a pn)) (q u s.heap s.toks (fun _ _ z => z) LM)
/-- except (x, y) -/
theorem tst_two (A : At0 X G N sc blk Mo) {mat : List Bool} {y : Str} {v2 : V} {u2 : Value} {p2 pt : Pos} {kk : Nat} (h : CName sc Mo x v u) (h2 : CName sc Mo y v2 u2) (hmat : ∀ (cid : Nat) (b : Bool), mat[cid]? = some b → PySem.W.exmAny Mo.K (.ref (Mo.cls cid)) [u, u2] = some b) : TstOk X G.cls (.Tuple [.Name x p, .Name y p2] kk pt) mat := by
  intro a pn σ H s cid b Q E I ⟨oe, he, hc⟩ hm q
  have LT : PySem.W.Looks (model X.prog X.w) s.heap (typeOf (.ref a)) (.ref (G.cls cid)) := fun A Q E s k q => wpAny_typeOf_ref (k _ _ he) (by rw [hc]; exact q)
  refine wpAny_Tuple ?_
  refine wpAny_items_cons (ld_cname (X := X.suite a pn) I (h.names (A.toSuite a pn)) ?_)
  refine wpAny_items_cons (ld_cname (X := X.suite a pn) I (h2.names (A.toSuite a pn)) ?_)
  refine wpAny_items_nil ⟨by size_fits, ?_⟩
  have kp : ∀ q o, s.heap.get? q = some o → (s.heap.push { cls := .type "tuple", data := .seq [u, u2].toArray }).get? q = some o := fun _ _ z => Heap.get?_push_of_some _ z
  exact q _ _ s.toks kp (PySem.W.exm_tup2 (M := model X.prog X.w) (I.kIn.keeps kp) (LT.keeps kp) (Heap.get?_push_size s.heap rfl) (by show PySem.W.exmAny X.K _ _ = some b; rw [A.hK, A.gK, A.gc]; exact hmat cid b hm))
/-- except (x, y, z) -/
theorem tst_three (A : At0 X G N sc blk Mo) {mat : List Bool} {y z : Str} {v2 v3 : V} {u2 u3 : Value} {p2 p3 pt : Pos} {kk : Nat} (h : CName sc Mo x v u) (h2 : CName sc Mo y v2 u2) (h3 : CName sc Mo z v3 u3) (hmat : ∀ (cid : Nat) (b : Bool), mat[cid]? = some b → PySem.W.exmAny Mo.K (.ref (Mo.cls cid)) [u, u2, u3] = some b) : TstOk X G.cls (.Tuple [.Name x p, .Name y p2, .Name z p3] kk pt) mat := by
  intro a pn σ H s cid b Q E I ⟨oe, he, hc⟩ hm q
  have LT : PySem.W.Looks (model X.prog X.w) s.heap (typeOf (.ref a)) (.ref (G.cls cid)) := fun A Q E s k q => wpAny_typeOf_ref (k _ _ he) (by rw [hc]; exact q)
  refine wpAny_Tuple ?_
  refine wpAny_items_cons (ld_cname (X := X.suite a pn) I (h.names (A.toSuite a pn)) ?_)
  refine wpAny_items_cons (ld_cname (X := X.suite a pn) I (h2.names (A.toSuite a pn)) ?_)
  refine wpAny_items_cons (ld_cname (X := X.suite a pn) I (h3.names (A.toSuite a pn)) ?_)
  refine wpAny_items_nil ⟨by size_fits, ?_⟩
  have kp : ∀ q o, s.heap.get? q = some o → (s.heap.push { cls := .type "tuple", data := .seq [u, u2, u3].toArray }).get? q = some o := fun _ _ z => Heap.get?_push_of_some _ z
  exact q _ _ s.toks kp (PySem.W.exm_tup3 (M := model X.prog X.w) (I.kIn.keeps kp) (LT.keeps kp) (Heap.get?_push_size s.heap rfl) (by show PySem.W.exmAny X.K _ _ = some b; rw [A.hK, A.gK, A.gc]; exact hmat cid b hm))

/-! ### raise C(text) -/
def raiseS (cid : Nat) : Stm := fun env => some (.ex ⟨cid, none⟩, env)
theorem ss_raise (A : At X G W N sc blk k Mo) (cid : Nat) {m : Str} {j : Nat} {p2 pc : Pos} {bmB : List Value} {B newId initId : String} (F : ExcBaseFacts B newId initId bmB) (hg : sc.names.lookup x = some .globalImplicit) (hm : Mo.mg x = some (.ref (Mo.cls cid))) (q : PySem.W.excIn Mo.K (Mo.cls cid) bmB newId = true)
    (kC : PySem.W.keepIn Mo.K (.ref (Mo.cls cid)) = true) (h1 : PySem.W.subIn Mo.K (.ref (Mo.cls cid)) (.type "BaseException") = some true) (h2 : PySem.W.typeIn Mo.K (.ref (Mo.cls cid)) = some (.type "type")) (hd : (x == ("__debug__" : Str)) = false := by decide) :
    SS X G W (.Raise (some (.Call (.Name x p) [.Constant (.str m) j p2] [] pc)) none pos) (raiseS cid) := by
  have eK : X.K = Mo.K := by rw [A.hK, A.gK]
  refine PS.imp (ps_raise A.calm A.tk (pmk_own F (by rw [eK]; exact q) (by rw [A.hmg]; exact hm) (by rw [eK]; exact kC) (raises_own (by rw [eK]; exact h1) (by rw [eK]; exact h2)) (by show X.env.scope.names.lookup x = _; rw [A.hsc]; exact hg) hd)) fun D σ H ⟨O, env, R, r, er, pr⟩ => ?_
  cases er
  exact pr _ _ σ O H R Step.refl ⟨by rw [A.gc], rfl⟩

/-! ### isinstance of an exception -/
def rIsX (K : PySem.W.Frag) : List V → Hp → VK → Prop := fun xs H Q => ∃ (a C : Addr) (c : V) (cv : Value) (b : Bool), xs = [.ref a, c] ∧ H a = some (exH a (.ref C) none) ∧ ExcC K C ∧ ClsV c cv ∧ PySem.W.kitOne K (.ref C) cv = some b ∧ Q (.bl b) H
def rIsXT (K : PySem.W.Frag) : List V → Hp → VK → Prop := fun xs H Q => ∃ (a C tp : Addr) (cs : List V) (us : List Value) (b : Bool), xs = [.ref a, .ref tp] ∧ H a = some (exH a (.ref C) none) ∧ ExcC K C ∧ H tp = some (.tup cs) ∧ Paired ClsV cs us ∧ PySem.W.kitAny K (.ref C) us = some b ∧ Q (.bl b) H
theorem inst_of {pins : List (Addr × Obj)} {σ : L2.St} {H : Hp} {s : Shared} (I : Inv X pins σ H s) {a C : Addr} (h : H a = some (exH a (.ref C) none)) : ∃ oe, PySem.W.InstAt s.heap a oe C none := by
  obtain ⟨⟨oe, hget, hz, vs, hv⟩, _⟩ := (show ObjOk X.prog X.w H s.heap a (.ext fun h => ∃ oe, h.get? a = some oe ∧ Zc (.ref C) none oe ∧ ∃ vs, oe.data = .fields vs) from I.hok a _ h)
  refine ⟨oe, ?_⟩
  obtain ⟨oc, od, oda, osl⟩ := oe
  obtain ⟨h1, h2⟩ := hz
  dsimp only at h1 h2 hv
  subst h1 h2 hv
  exact ⟨hget, rfl, rfl, trivial⟩
theorem call_isX : CallR X (.builtin "isinstance") (rIsX X.K) := by
  intro pins s σ H xs us Q I r h
  obtain ⟨a, C, c, cv, b, rfl, ha, T, hcv, e, q⟩ := h
  obtain ⟨u1, u2, rfl, r1, r2⟩ := vals2 r
  cases (show u1 = Value.ref a from r1)
  have ec := hcv.eq r2
  subst ec
  obtain ⟨oe, J⟩ := inst_of I ha
  exact PySem.W.kia_one (PySem.W.handS_kitx_exc T.hg T.hk T.hs T.hd T.ha T.hn T.ht T.hm) I.kIn J e (fun z => nomatch z) fun tk => ⟨.bl b, H, I.tok tk, rfl, q⟩
theorem call_isXT : CallR X (.builtin "isinstance") (rIsXT X.K) := by
  intro pins s σ H xs us Q I r h
  obtain ⟨a, C, tp, cs, cvs, b, rfl, ha, T, hT, hcv, e, q⟩ := h
  obtain ⟨u1, u2, rfl, r1, r2⟩ := vals2 r
  cases (show u1 = Value.ref a from r1)
  cases (show u2 = Value.ref tp from r2)
  obtain ⟨oe, J⟩ := inst_of I ha
  obtain ⟨_, its, rv, o, h1, h2, n, h3⟩ := (show ObjOk X.prog X.w H s.heap tp (.tup cs) from I.hok tp _ hT)
  have e3 := ClsV.all hcv rv
  subst e3
  obtain ⟨oc, od, dt, sl⟩ := o
  simp only at h2 h3
  subst h2 h3
  exact PySem.W.kia_tup (PySem.W.handS_kitx_exc T.hg T.hk T.hs T.hd T.ha T.hn T.ht T.hm) I.kIn J h1 e (fun z => nomatch z) fun tk => ⟨.bl b, H, I.tok tk, rfl, q⟩
def isxM (i : Nat) (l : List Bool) : M D := fun env => match env[i]? with
  | some (some (.x ⟨cid, none⟩)) => (l[cid]?).map fun b => (.ok (.bool b), env)
  | _ => none
theorem isx_inv {i : Nat} {l : List Bool} {env : SEnv} {r : Rz D × SEnv} (h : isxM i l env = some r) : ∃ (cid : Nat) (b : Bool), env[i]? = some (some (Sl.x ⟨cid, none⟩)) ∧ l[cid]? = some b ∧ r = (.ok (.bool b), env) := by
  unfold isxM at h
  split at h
  · rename_i cid he
    cases hl : l[cid]? with
    | none => rw [hl] at h; cases h
    | some b =>
      rw [hl] at h
      cases h
      exact ⟨cid, b, he, hl, rfl⟩
  · cases h
/-- isinstance(e, c), e an exception -/
theorem sd_isx (A : At0 X G N sc blk Mo) (i : Nat) (l : List Bool) {c : Str} {p1 p2 : Pos} (hc : CName sc Mo c v u) (hkit : ∀ (cid : Nat) (b : Bool), l[cid]? = some b → ExcC Mo.K (Mo.cls cid) ∧ PySem.W.kitOne Mo.K (.ref (Mo.cls cid)) u = some b)
    (hgi : sc.names.lookup ("isinstance" : Str) = some .globalImplicit) (hmi : Mo.mg "isinstance" = none) (hi : N[i]? = some x := by rfl) (hv : Vis sc x := by first | exact Or.inl rfl | exact Or.inr (Or.inl rfl) | exact Or.inr (Or.inr rfl)) (hd : (x == ("__debug__" : Str)) = false := by decide) (hcd : (x == ("__classdict__" : Str)) = false := by decide)
    (hs : starEach [.Name x p1, .Name c p2] X.env = (false, eval (.Name x p1) X.env) :: starEach [.Name c p2] X.env := by rfl) (hs2 : starEach [.Name c p2] X.env = (false, eval (.Name c p2) X.env) :: starEach [] X.env := by rfl)
    (hpl : (backTo pos (starEach [.Name c p2] X.env)).any (·.1) = false := by rfl) : SD X G W (.Call (.Name "isinstance" p) [.Name x p1, .Name c p2] [] pos) (isxM i l) := by
  refine PE.imp (pe_callB call_isX (by show X.env.scope.names.lookup ("isinstance" : Str) = _; rw [A.hsc]; exact hgi) (by rw [A.hmg]; exact hmi) (by decide +kernel) (pa_cons (pe_var (i := i) (by rw [A.hN]; exact hi) (by rw [A.hsc]; exact hv) hd hcd) (pa_cons (hc.pe A) pa_nil hs2) hs) (by decide) (by decide) hs hpl) fun σ H Q ⟨O, env, R, r, er, pr⟩ => ?_
  obtain ⟨cid, b, he, hl, rfl⟩ := isx_inv er
  obtain ⟨w, e1, a, dd, rfl, h1, h2, h3⟩ := R.exv i _ he
  have hdd : dd = none := h3
  subst hdd
  have hk := hkit cid b hl
  rw [← A.gK, ← A.hK, ← A.gc] at hk
  exact ⟨_, e1, a, G.cls cid, v, u, b, rfl, h1, hk.1, hc.cls, hk.2, pr _ O H R Step.refl (Rp.bl' (K := G.K) (O := O) (H := H))⟩
/-- isinstance(e, (c, ..)), e an exception -/
theorem sd_isxT (A : At0 X G N sc blk Mo) (i : Nat) (l : List Bool) {es : List Expr} {vs : List V} {us : List Value} {kk : Nat} {p1 p2 : Pos} (hc : CNames sc Mo es vs us) (hlen : vs.length ≤ sizeLine) (hkit : ∀ (cid : Nat) (b : Bool), l[cid]? = some b → ExcC Mo.K (Mo.cls cid) ∧ PySem.W.kitAny Mo.K (.ref (Mo.cls cid)) us = some b)
    (hgi : sc.names.lookup ("isinstance" : Str) = some .globalImplicit) (hmi : Mo.mg "isinstance" = none) (hi : N[i]? = some x := by rfl) (hv : Vis sc x := by first | exact Or.inl rfl | exact Or.inr (Or.inl rfl) | exact Or.inr (Or.inr rfl)) (hd : (x == ("__debug__" : Str)) = false := by decide) (hcd : (x == ("__classdict__" : Str)) = false := by decide)
    (hs : starEach [.Name x p1, .Tuple es kk p2] X.env = (false, eval (.Name x p1) X.env) :: starEach [.Tuple es kk p2] X.env := by rfl) (hs2 : starEach [.Tuple es kk p2] X.env = (false, eval (.Tuple es kk p2) X.env) :: starEach [] X.env := by rfl)
    (hpl : (backTo pos (starEach [.Tuple es kk p2] X.env)).any (·.1) = false := by rfl) : SD X G W (.Call (.Name "isinstance" p) [.Name x p1, .Tuple es kk p2] [] pos) (isxM i l) := by
  refine PE.imp (pe_callB call_isXT (by show X.env.scope.names.lookup ("isinstance" : Str) = _; rw [A.hsc]; exact hgi) (by rw [A.hmg]; exact hmi) (by decide +kernel) (pa_cons (pe_var (i := i) (by rw [A.hN]; exact hi) (by rw [A.hsc]; exact hv) hd hcd) (pa_cons (pe_tup (hc.pa A)) pa_nil hs2) hs) (by decide) (by decide) hs hpl) fun σ H Q ⟨O, env, R, r, er, pr⟩ => ?_
  obtain ⟨cid, b, he, hl, rfl⟩ := isx_inv er
  obtain ⟨w, e1, a, dd, rfl, h1, h2, h3⟩ := R.exv i _ he
  have hdd : dd = none := h3
  subst hdd
  have hk := hkit cid b hl
  rw [← A.gK, ← A.hK, ← A.gc] at hk
  refine ⟨_, e1, hlen, fun q hq => ?_⟩
  have g2 : Grow H (upd H q (.tup vs)) := Grow.upd hq
  exact ⟨a, G.cls cid, q, vs, us, b, rfl, g2 _ _ h1, hk.1, upd_same, hc.cls, hk.2, pr _ O _ (R.grow g2) g2.step (Rp.bl' (K := G.K) (O := O) (H := _))⟩
/-- y = e, e an exception -/
def asgX (j i : Nat) : Stm := fun env => match env[i]? with
  | some (some (.x e)) => (storeE j (.x e) env).map fun env' => (.nx, env')
  | _ => none
theorem ss_asgX (A : At0 X G N sc blk Mo) (j i : Nat) {y : Str} {p1 py : Pos} (hj : N[j]? = some y := by rfl) (hy : Loc sc y := by first | exact Or.inl rfl | exact Or.inr rfl) (hf : blk = false ∨ sc.names.lookup y = some .local := by first | exact Or.inl rfl | exact Or.inr rfl)
    (hi : N[i]? = some x := by rfl) (hv : Vis sc x := by first | exact Or.inl rfl | exact Or.inr (Or.inl rfl) | exact Or.inr (Or.inr rfl)) (hd : (x == ("__debug__" : Str)) = false := by decide) (hcd : (x == ("__classdict__" : Str)) = false := by decide)
    (hs : swapsWith (.Name x p1) (some (.Name y py)) pos.line X.env = pure false := by rfl) : SS X G W (.Assign [.Name y py] (.Name x p1) pos) (asgX j i) := by
  refine PS.imp (ps_set (i := j) (by rw [A.hN]; exact A.nd) (by rw [A.hN]; exact hj) (by rw [A.hsc]; exact hy) (pe_var (i := i) (by rw [A.hN]; exact hi) (by rw [A.hsc]; exact hv) hd hcd) hs (by
    rcases hf with z | z
    · exact .inl (A.fn z y)
    · exact .inr (by rw [A.hsc]; exact z))) fun D σ H ⟨O, env, R, r, er, pr⟩ => ?_
  unfold asgX at er
  split at er
  · rename_i e he
    obtain ⟨w, e1, xr⟩ := R.exv i _ he
    cases hst : storeE j (.x e) env with
    | none => rw [hst] at er; cases er
    | some env3 =>
      rw [hst] at er
      cases er
      exact ⟨w, e1, pr _ O H (R.storeX hst xr) Step.refl⟩
  · cases er
end
end PV

/-! PV18: calls by keywords, defaults; lists repeated; sequences turned about. -/
namespace PV
open PySem PySem.Spec PyProof.Rows L2

theorem AvsR.append {K : PySem.W.Frag} {cls : Nat → Addr} {σ : L2.St} {O : Own} {H : Hp} : ∀ {as bs : List Av} {vs ws : List V}, AvsR K cls σ O H as vs → AvsR K cls σ O H bs ws → AvsR K cls σ O H (as ++ bs) (vs ++ ws)
  | [], _, [], _, _, h => h
  | a :: as, _, v :: vs, _, h, h' => by
    simp only [AvsR] at h
    show AvsR K cls σ O H (a :: (as ++ _)) (v :: (vs ++ _))
    simp only [AvsR]
    exact ⟨h.1, AvsR.append h.2 h'⟩
  | [], _, _ :: _, _, h, _ => by simp only [AvsR] at h
  | _ :: _, _, [], _, h, _ => by simp only [AvsR] at h
theorem AvsR.length {K : PySem.W.Frag} {cls : Nat → Addr} {σ : L2.St} {O : Own} {H : Hp} : ∀ {as : List Av} {vs : List V}, AvsR K cls σ O H as vs → as.length = vs.length
  | [], [], _ => rfl
  | a :: as, v :: vs, h => by
    simp only [AvsR] at h
    simp only [List.length_cons, AvsR.length h.2]
  | [], _ :: _, h => by simp only [AvsR] at h
  | _ :: _, [], h => by simp only [AvsR] at h
section
variable {X : Cx} {G : Gd} {W : WX} {N : List Str} {sc : Scope} {blk : Bool} {k : Nat} {Mo : Wo} {pos p : Pos} {x : Str} {e : Expr} {es : List Expr} {fa fk : M (List Av)} {c : Fn} {f : Addr} {fd : FuncData} {ps ks : List Str}
theorem run_GB {pins : List (Addr × Obj)} {σ : L2.St} {H : Hp} {s : Shared} {Q : VK} {us : List Value} {vs : List V} {E : XK} {sp : Sp} {args : Args} (A : At X G W N sc blk k Mo) (F : FnG Mo k f fd ps sp) (b : BindsTo s fd args (ps.zip us)) (hx : PassesAt (L2.CX X.prog X.w) X σ E)
    (I : Inv X pins σ H s) (r : Vals vs us) (h : sp vs H Q E) : codeAny (model X.prog X.w) X.A (.call (.ref f) args) (fun rs s' => match rs with
      | .error er => X.xe er s'
      | .ok (.ret u) => EP X pins σ Q u s'
      | .ok _ => False) s := by
  have e0 := I.env0
  rw [A.hP, A.hw, A.hmg, A.hb, A.hK, A.gK] at e0
  rw [A.hP, A.hw]
  refine codeAny_mono (F.run X.A X.stack s H args us vs Q E A.gd A.room e0 b r h) fun rs s' hq => ?_
  rw [← A.hP, ← A.hw] at hq
  cases rs with
  | error er => exact hx pins H s er s' I hq
  | ok fl =>
    cases fl with
    | ret u => exact I.after hq
    | next => exact False.elim hq
    | brk => exact False.elim hq
    | cont => exact False.elim hq
def callD (c : Fn) (fa : M (List Av)) (ds : List D) : M Vl := fa.bnd fun as => callAt c (as ++ ds.map .d)
/-- f(e, ..), the last ones by their defaults -/
theorem sv_callD (A : At X G W N sc blk k Mo) (F : FnG Mo k f fd ps (spF Mo.K Mo.cls c)) (hg : sc.names.lookup x = some .globalImplicit) (hm : Mo.mg x = some (.ref f)) (hk : PySem.W.keepIn Mo.K (.ref f) = true) {dvs : List V} {dds : List D} (hb : ∃ ds, Vals dvs ds ∧ Binds Mo.K fd ps ds) (hd : ∀ σ O H, AvsR Mo.K Mo.cls σ O H (dds.map .d) dvs)
    (ha : SAv X G W (e :: es) fa) (hdb : (x == ("__debug__" : Str)) = false := by decide) (he : starEach (e :: es) X.env = (false, eval e X.env) :: starEach es X.env := by rfl) (hpl : (backTo pos (starEach es X.env)).any (·.1) = false := by rfl) :
    SV X G W (.Call (.Name x p) (e :: es) [] pos) (callD c fa dds) := by
  refine ⟨fun pins s σ H Q I ⟨O, env, R, t⟩ => ?_⟩
  obtain ⟨ds, rds, hb⟩ := hb
  refine wpAny_Call_Name_kw (ld_glob I (by show X.env.scope.names.lookup x = _; rw [A.hsc]; exact hg) (by rw [A.hmg]; exact hm) ?_ hdb)
  refine PySem.W.callWith_K (h₀ := X.base) I.ok.mod.kin (by rw [A.hK, A.gK]; exact hk) (thn (ha.run pos pins s σ H _ I (bindL (RV := RAv G) R t |> fun ⟨O1, env1, R1, tt⟩ => ⟨O1, env1, R1, tt⟩)) fun us s1 ⟨vs, H1, I1, r, q⟩ => ⟨I1.kIn, ?_⟩) he hpl
  obtain ⟨as, env1, O1, R1, s1', rv, t1⟩ := q
  have rv' : AvsR G.K G.cls σ O1 H1 (as ++ dds.map .d) (vs ++ dvs) := AvsR.append rv (by rw [A.gK, A.gc]; exact hd σ O1 H1)
  have q := call_imp A R1 rv' t1
  rw [A.hK, A.gK, A.gc] at q
  have hl : (us ++ ds).length = ps.length := by rw [← (r.append rds).length]; exact F.len _ _ _ _ q
  refine wpAny_call (codeAny_mono (run_GB A F (hb s1 us (by have z := I1.kIn; rw [A.hK, A.gK] at z; exact z) hl) (passAt A.tk σ) I1 (r.append rds) q) fun rs s' hq => ?_)
  cases rs with
  | error er => exact hq
  | ok fl =>
    cases fl with
    | ret u => exact hq
    | next => exact False.elim hq
    | brk => exact False.elim hq
    | cont => exact False.elim hq
/-- keywords' values -/
def SKw (X : Cx) (G : Gd) (W : WX) (kws : List Keyword) (f : M (List Av)) : Prop := PK X kws (tG G W (RAv G) f)
theorem PK.imp {kws : List Keyword} {t u : TA} (h : PK X kws t) (q : ∀ σ H Q, u σ H Q → t σ H Q) : PK X kws u := ⟨fun pos pins s σ H Q I hu => h.run pos pins s σ H Q I (q σ H Q hu)⟩
theorem skw_nil : SKw X G W [] (M.ret []) := PK.imp pk_nil fun σ H Q ⟨O, env, R, t⟩ => tAt.ret (RV := RAv G) t R (by show AvsR _ _ _ _ _ [] []; simp only [AvsR])
theorem skw_cons {nm : Option Str} {kpos : Pos} {kws : List Keyword} {fd : M D} (h : SD X G W e fd) (h' : SKw X G W kws fk) : SKw X G W (⟨nm, e, kpos⟩ :: kws) (consD fd fk) := by
  refine PK.imp (pk_cons h h') fun σ H Q ⟨O, env, R, t⟩ => ?_
  obtain ⟨O1, env1, R1, r1, e1, p1⟩ := bindL (RV := RD G) R t
  refine ⟨O1, env1, R1, r1, e1, p1.mono fun x H2 ⟨dx, env2, O2, R2, s2, rx, t2⟩ => ?_⟩
  obtain ⟨O3, env3, R3, r3, e3, p3⟩ := bindL (RV := RAv G) R2 t2
  refine ⟨O3, env3, R3, r3, e3, p3.mono fun xs H4 ⟨as, env4, O4, R4, s4, rxs, t4⟩ => ?_⟩
  refine tAt.ret (RV := RAv G) t4 R4 ?_
  show AvsR G.K G.cls σ O4 H4 (.d dx :: as) (x :: xs)
  simp only [AvsR, AvR]
  exact ⟨Rp.step s4 dx x rx, rxs⟩
def callK (c : Fn) (n m : Nat) (g : List Av → List Av → List Av) (fa fk : M (List Av)) : M Vl := fa.bnd fun as => fk.bnd fun ks => if as.length = n ∧ ks.length = m then callAt c (g as ks) else fun _ => none
theorem sv_callK (A : At X G W N sc blk k Mo) (F : FnG Mo k f fd ps (spF Mo.K Mo.cls c)) (hg : sc.names.lookup x = some .globalImplicit) (hm : Mo.mg x = some (.ref f)) (hk : PySem.W.keepIn Mo.K (.ref f) = true) {n : Nat} {kws : List Keyword} {g : List Value → List Value → List Value} {gV : List V → List V → List V} (gA : List Av → List Av → List Av)
    (hb : KBn Mo.K fd ps n ks g gV) (hgA : ∀ σ O H as vs bs zs, as.length = n → bs.length = ks.length → AvsR Mo.K Mo.cls σ O H as vs → AvsR Mo.K Mo.cls σ O H bs zs → AvsR Mo.K Mo.cls σ O H (gA as bs) (gV vs zs))
    (ha : SAv X G W (e :: es) fa) (hkw : SKw X G W kws fk) (hall : (backToKw pos (keywordEach kws X.env)).all (·.1.isSome) = true := by rfl) (hks : (backToKw pos (keywordEach kws X.env)).filterMap (·.1) = ks := by rfl)
    (hdb : (x == ("__debug__" : Str)) = false := by decide) (he : starEach (e :: es) X.env = (false, eval e X.env) :: starEach es X.env := by rfl)
    (hpl : ((backTo pos (starEach (e :: es) X.env)).any (·.1) || (backToKw pos (keywordEach kws X.env)).any (·.1.isNone)) = false := by rfl) :
    SV X G W (.Call (.Name x p) (e :: es) kws pos) (callK c n ks.length gA fa fk) := by
  refine ⟨fun pins s σ H Q I ⟨O, env, R, t⟩ => ?_⟩
  refine wpAny_Call_Name_kw (ld_glob I (by show X.env.scope.names.lookup x = _; rw [A.hsc]; exact hg) (by rw [A.hmg]; exact hm) ?_ hdb)
  refine PySem.W.callWith_KW (h₀ := X.base) I.ok.mod.kin (by rw [A.hK, A.gK]; exact hk) hall (thn (ha.run pos pins s σ H _ I (bindL (RV := RAv G) R t |> fun ⟨O1, env1, R1, tt⟩ => ⟨O1, env1, R1, tt⟩)) fun us s1 ⟨vs, H1, I1, r, q⟩ => ?_) hpl he
  obtain ⟨as, env1, O1, R1, s1', rv, t1⟩ := q
  refine thn (hkw.run pos pins s1 σ H1 _ I1 (bindL (RV := RAv G) R1 t1 |> fun ⟨O1, env1, R1, tt⟩ => ⟨O1, env1, R1, tt⟩)) fun ws s2 ⟨zs, H2, I2, rz, q⟩ => ⟨I2.kIn, ?_⟩
  obtain ⟨bs, env2, O2, R2, s2', rv2, t2⟩ := q
  rw [hks]
  have hlen : as.length = n ∧ bs.length = ks.length := by
    obtain ⟨r0, e0, _⟩ := t2
    split at e0
    · assumption
    · cases e0
  rw [if_pos hlen] at t2
  have rv' : AvsR G.K G.cls σ O2 H2 (gA as bs) (gV vs zs) := by
    have h1 := AvsR.step s2' rv
    have h2 : AvsR G.K G.cls σ O2 H2 bs zs := rv2
    rw [A.gK, A.gc] at h1 h2 ⊢
    exact hgA σ O2 H2 as vs bs zs hlen.1 hlen.2 h1 h2
  have q := call_imp A R2 rv' t2
  rw [A.hK, A.gK, A.gc] at q
  have r2 := hb.rel r rz
  have l1 : us.length = n := by rw [← r.length, ← AvsR.length rv]; exact hlen.1
  have l2 : ws.length = ks.length := by rw [← rz.length, ← AvsR.length rv2]; exact hlen.2
  refine wpAny_call (codeAny_mono (run_GB A F (hb.to s2 us ws (by have z := I2.kIn; rw [A.hK, A.gK] at z; exact z) l1 l2) (passAt A.tk σ) I2 r2 q) fun rs s' hq => ?_)
  cases rs with
  | error er => exact hq
  | ok fl =>
    cases fl with
    | ret u => exact hq
    | next => exact False.elim hq
    | brk => exact False.elim hq
    | cont => exact False.elim hq
end
end PV

/-! PV19: lists repeated; sequences turned about. -/
namespace PV
open PySem PySem.Spec PyProof.Rows L2
section
variable {X : Cx} {prog : Program} {w : World} {A : Around} {E : Value → Shared → Prop} {s : Shared}
theorem RdL.exact {pins : List (Addr × Obj)} {σ : L2.St} {H : Hp} {O : Own} (I : Inv X pins σ H s) {a : Addr} {xs : List V} (r : RdL X.K O H a xs) : ∃ (its : List Value) (n : Nat), Vals xs its ∧ xs.length ≤ sizeLine ∧ s.heap.get? a = some { cls := .type "list", data := .seq its.toArray n } := by
  rcases r with ⟨r | ⟨o, r⟩, _⟩ | ⟨o, its, n, h1, h2, h3, h4, h5, h6, h7⟩
  · obtain ⟨z, its, n, rv, e⟩ := (show ObjOk X.prog X.w H s.heap a (.lst xs) from I.hok a _ r)
    exact ⟨its, n, rv, z, e⟩
  · obtain ⟨_, z, its, n, rv, e⟩ := (show ObjOk X.prog X.w H s.heap a (.frz o (.lst xs)) from I.hok a _ r)
    exact ⟨its, n, rv, z, e⟩
  · have e := I.kIn a o h1
    obtain ⟨c, d, dt, sl⟩ := o
    dsimp only at h2 h3 h4 h7
    subst h2 h3 h4 h7
    exact ⟨its.toList, n, h6, by rw [h6.length, Array.length_toList]; exact h5, by rw [e]⟩
def rRepA (K : PySem.W.Frag) : R2 := fun x y H Q => ∃ O l k xs, x = .ref l ∧ y = .int k ∧ RdL K O H l xs ∧ -(2 ^ 63) ≤ k ∧ k < 2 ^ 63 ∧ xs.length * k.toNat ≤ sizeLine ∧
  ∀ p, H p = none → Q (.ref p) (upd H p (.lst (List.replicate k.toNat xs).flatten))
theorem op_repA : OpR X (binaryOp .Mult) (rRepA X.K) := by
  intro pins s σ H x y v u Q I rx ry h
  obtain ⟨O, l, k, xs, rfl, rfl, hH, h1, h2, hz, q⟩ := h
  cases rx
  obtain ⟨t, rfl⟩ := ry
  obtain ⟨its, n, r, _, e⟩ := hH.exact I
  have hl := r.length
  have hlen : its.toArray.size * k.toNat ≤ sizeLine := by rw [List.size_toArray, ← hl]; exact hz
  have hcap : ¬ its.toArray.size * k.toNat > (2 ^ 63 - 1) / 8 := by
    have : (sizeLine : Nat) ≤ (2 ^ 63 - 1) / 8 := by decide
    omega
  have hfit : ¬ (!Builtin.List.listFitsIndex k) = true := by
    rw [fitsIndex_both h1 h2]
    exact Bool.false_ne_true
  have hlong : ¬ Builtin.List.listTooLong (its.toArray.size * k.toNat) = true := by
    rw [notLongL hlen]
    exact Bool.false_ne_true
  have hnew : List.foldl (fun x1 x2 => x1 ++ x2) #[] (List.replicate (if its.toArray.isEmpty = true then 0 else k.toNat) its.toArray) = (List.replicate k.toNat its).flatten.toArray := by
    have f0 : ∀ m : Nat, List.foldl (fun x1 x2 => x1 ++ x2) #[] (List.replicate m its.toArray) = (List.replicate m its).flatten.toArray := fun m => by
      have := foldl_rep its m []
      rw [List.nil_append] at this
      exact this
    rw [f0]
    cases its with
    | nil => simp
    | cons a r' => rw [if_neg (by simp)]
  refine wpAny_binaryOp_repeat_ref (T := "list") (U := "int") (by decide) ⟨_, e, rfl⟩ (fun s' => typeIs_int s' k t) noFill_list_mul F.fills_int_mul F.slot_int_rmul repeat_list F.slot_int_index.lookup
    (call_meets F.slot_int_rmul (typeIs_int s k t) F.entry_int_rmul (F.args_int_rmul_2 _ _) (int___rmul___int_list k t l its.toArray n)
      ⟨e, rfl, ⟨_, e, rfl⟩, call_meets F.slot_list_mul ⟨_, e, rfl⟩ F.entry_list_mul (F.args_list_mul_2 _ _) (AutoListH.list___mul___list_int_3 l its.toArray n k t hfit hcap hlong) ⟨e, ?_⟩⟩)
  rw [hnew]
  exact ⟨.ref _, _, I.lnew (t' := s.toks) (r.rep k.toNat) (by rw [PyProof.Rows.lm_len_rep_flat, Nat.mul_comm]; exact hz), rfl, q _ I.fresh⟩
def repD : D → D → Option Vl
  | .list xs, .int k => if -(2 ^ 63) ≤ k ∧ k < 2 ^ 63 ∧ xs.length * k.toNat ≤ sizeLine then some (.own (List.replicate k.toNat xs).flatten) else none
  | _, _ => none
theorem RpAll.rep {K : PySem.W.Frag} {O : Own} {H : Hp} {ds : List D} {vs : List V} (h : RpAll K O H ds vs) : ∀ k : Nat, RpAll K O H (List.replicate k ds).flatten (List.replicate k vs).flatten
  | 0 => by simp only [List.replicate_zero, List.flatten_nil, RpAll]
  | k + 1 => by
    simp only [List.replicate_succ, List.flatten_cons]
    exact h.append (RpAll.rep h k)
theorem rep_S {K : PySem.W.Frag} : OpS K (rRepA K) repD := by
  intro O H x y dx dy vl Q ol rx ry e q
  unfold repD at e
  split at e
  · split at e
    · rename_i hz
      cases e
      obtain ⟨a, xs, rfl, ra, qa⟩ := rx.list_inv
      exact ⟨O, a, _, xs, rfl, ry.int_inv, ra, hz.1, hz.2.1, by rw [← qa.length]; exact hz.2.2, fun p hp => q.lst (qa.rep _) hp⟩
    · cases e
  · cases e
/-- * of whole numbers and of lists -/
def mulA : D → D → Option Vl := fun x y => (mulD x y).or (repD x y)
theorem op_mulA : OpR X (binaryOp .Mult) (fun x y H Q => rI CMulW (fun i j => .int (i * j)) x y H Q ∨ rRepA X.K x y H Q) := op_mulW.or op_repA
theorem mulA_S {K : PySem.W.Frag} : OpS K (fun x y H Q => rI CMulW (fun i j => .int (i * j)) x y H Q ∨ rRepA K x y H Q) mulA := OpS.or mul_S rep_S

/-! ### [::-1] -/
theorem sliceApplied_rev {sl : Addr} {vl vu vs : Value} {n : Nat} {Q : Int × Int × Nat → Shared → Prop} (hs : s.heap.IsSliceOf sl vl vu vs) (pl : IsPart vl none) (pu : IsPart vu none) (ps : IsPart vs (some (-1)))
    (h : Q ((n : Int) - 1, -1, n) s) : wpAny (model prog w) A (Builtin.Slice.sliceApplied (.ref sl) (pure (n : Int))) Q E s := by
  obtain ⟨os, hos, hcs, hds⟩ := id hs
  unfold Builtin.Slice.sliceApplied Builtin.Slice.sliceFields
  refine wpAny_bind (wpAny_bind (wpAny_field hos hds (x := vl) rfl (wpAny_bind (wpAny_field hos hds (x := vu) rfl (wpAny_bind (wpAny_field hos hds (x := vs) rfl (wpAny_pure ?_)))))))
  refine wpAny_bind (HT.slicePart_ ps ?_)
  show wpAny _ _ (if ((-1 : Int) == 0) = true then _ else _) _ _ s
  rw [if_neg (by decide)]
  refine wpAny_bind (HT.slicePart_ pl (wpAny_bind (HT.slicePart_ pu (wpAny_bind (wpAny_pure ?_)))))
  have e1 : Builtin.Slice.sliceAdjust none none (-1) (n : Int) = ((n : Int) - 1, -1) := rfl
  have e2 : Builtin.Slice.slicePlaces ((n : Int) - 1) (-1) (-1) = n := by
    unfold Builtin.Slice.slicePlaces
    rw [if_neg (by decide)]
    by_cases hn : n = 0
    · subst hn; rfl
    · rw [if_pos (by omega), show -(-1 : Int) = 1 from rfl, Int.ediv_one]
      omega
  show wpAny _ _ (match Builtin.Slice.sliceAdjust none none (-1) (n : Int) with | (lo, hi) => pure (lo, (-1 : Int), Builtin.Slice.slicePlaces lo hi (-1))) _ _ s
  rw [e1]
  show wpAny _ _ (pure ((n : Int) - 1, (-1 : Int), Builtin.Slice.slicePlaces ((n : Int) - 1) (-1) (-1))) _ _ s
  rw [e2]
  exact wpAny_pure h
theorem filterMap_map {α β : Type} (f : α → Option β) (g : α → β) : ∀ (l : List α), (∀ m ∈ l, f m = some (g m)) → l.filterMap f = l.map g
  | [], _ => rfl
  | a :: l, h => by
    rw [List.filterMap_cons, h a (List.mem_cons_self ..), List.map_cons]
    dsimp only
    rw [filterMap_map f g l fun m hm => h m (List.mem_cons_of_mem _ hm)]
theorem pick_rev (xs : Array Value) : ((List.range xs.size).filterMap fun (m : Nat) => xs[(((xs.size : Nat) : Int) - 1 + (m : Int) * (-1)).toNat]?).toArray = xs.toList.reverse.toArray := by
  congr 1
  refine List.ext_getElem? fun i => ?_
  have e : (List.range xs.size).filterMap (fun (m : Nat) => xs[(((xs.size : Nat) : Int) - 1 + (m : Int) * (-1)).toNat]?) = (List.range xs.size).map (fun m => xs.getD (xs.size - 1 - m) .none) := by
    refine filterMap_map _ _ _ fun m hm => ?_
    have hm' := List.mem_range.mp hm
    have : (((xs.size : Nat) : Int) - 1 + (m : Int) * (-1)).toNat = xs.size - 1 - m := by omega
    rw [this]
    have hlt : xs.size - 1 - m < xs.size := by omega
    simp [Array.getD, hlt]
  rw [e]
  by_cases hi : i < xs.size
  · rw [List.getElem?_map, List.getElem?_range hi, List.getElem?_reverse (by rw [Array.length_toList]; exact hi)]
    have hlt : xs.size - 1 - i < xs.size := by omega
    simp [Array.getD, hlt]
  · rw [List.getElem?_eq_none (by simpa using hi), List.getElem?_eq_none (by simpa using hi)]
theorem getItem_tuple_rev {t sl : Addr} {items : Array Value} {vl vu vs : Value} {Q : Value → Shared → Prop} (ht : IsTup s.heap t items) (hs : s.heap.IsSliceOf sl vl vu vs) (pl : IsPart vl none) (pu : IsPart vu none) (ps : IsPart vs (some (-1)))
    (h : Q (.ref s.heap.objs.size) { s with heap := s.heap.push { cls := .type "tuple", data := .seq items.toList.reverse.toArray } })
    (hsz : items.size ≤ sizeLine) : wpAny (model prog w) A (getItem (.ref t) (.ref sl)) Q E s := by
  have htake : sizeOk (.seq items.toList.reverse.toArray) := by
    show items.toList.reverse.toArray.size ≤ sizeLine
    rw [List.size_toArray, List.length_reverse, Array.length_toList]
    exact hsz
  obtain ⟨os, hos, hcs, hds⟩ := id hs
  have hTs : s.TypeIs (.ref sl) "slice" := ⟨os, hos, hcs⟩
  unfold getItem
  try with_reducible refine wpAny_holding ?_
  first | refine wpAny_bind (wpAny_pure ?_) | skip
  refine wpAny_bind (wpAny_sequenceKey ht.typeIs (by decide) ?_)
  refine wpAny_bind (wpAny_callSpecial?_slot (name := Str.ofString "__getitem__") ht.typeIs PyProof.Rows.slot_tuple_getitem
    (wpAny_call_entry PyProof.Rows.slot_tuple_getitem ht.typeIs entry_tuple_getitem ?_ (args_tuple_getitem _ _)))
  show wpAny _ _ (Builtin.Tuple.tupleItemsOf (.ref t) >>= _) _ _ s
  refine wpAny_bind (tupleItemsOf_ ht ?_)
  refine wpAny_bind (wpAny_typeOf hTs ?_)
  rw [if_pos (by decide)]
  refine wpAny_bind (sliceApplied_rev hs pl pu ps ?_)
  have hno : ¬ ((((items.size : Nat) : Int) - 1 == 0 && (-1 : Int) == 1 && items.size == items.size) = true) := by
    rw [show ((-1 : Int) == 1) = false from rfl, Bool.and_false, Bool.false_and]
    exact Bool.false_ne_true
  show wpAny _ _ (if (((items.size : Nat) : Int) - 1 == 0 && (-1 : Int) == 1 && items.size == items.size) = true then _ else _) _ _ s
  rw [if_neg hno, pick_rev]
  first
    | exact wpAny_bind (m := Builtin.Tuple.tupleExact _) (wpAny_newObj_type (wpAny_pure ⟨_, rfl, wpAny_pure h⟩) htake)
    | exact wpAny_bind (m := Builtin.Tuple.tupleExact _) (wpAny_newObj_type (wpAny_bind (wpAny_pure (wpAny_pure ⟨_, rfl, wpAny_pure h⟩))) htake)
    | exact wpAny_bind (wpAny_bind (m := Builtin.Tuple.tupleExact _) (wpAny_newObj_type (wpAny_pure (wpAny_pure ⟨_, rfl, wpAny_pure h⟩)) htake))
    | exact wpAny_bind (wpAny_bind (m := Builtin.Tuple.tupleExact _) (wpAny_newObj_type (wpAny_pure ⟨_, rfl, wpAny_pure h⟩) htake))
def tRevA (K : PySem.W.Frag) (te : TE) : TE := fun σ H Q => te σ H fun x H1 => ∃ a xs, x = .ref a ∧ ((SqL K H1 a xs ∧ ∀ p, H1 p = none → Q (.ref p) (upd H1 p (.lst xs.reverse))) ∨ (SqT K H1 a xs ∧ ∀ p, H1 p = none → Q (.ref p) (upd H1 p (.tup xs.reverse))))
theorem pe_revA {e : Expr} {te : TE} {k : Nat} {p1 p2 p3 pos : Pos} (he : PE X e te) : PE X (.Subscript e (.Slice none none (some (.UnaryOp .USub (.Constant (.int 1) k p1) p2)) p3) pos) (tRevA X.K te) := by
  refine ⟨fun pins s σ H Q I h => ?_⟩
  refine Subscript_ (thn (he.run pins s σ H _ I h) fun v s1 ⟨x, H1, I1, r1, q1⟩ => ?_)
  obtain ⟨a, xs, ex, q⟩ := q1
  subst ex
  cases r1
  have hst : PO X (some (.UnaryOp .USub (.Constant (.int 1) k p1) p2)) (tPart (tUn (rU fun i => .int (-i)) (tC (.int 1)))) := po_some (pe_un un_neg pe_int)
  refine wpAny_Slice (thn (po_none.run pins s1 σ H1 (fun o H2 => o = none ∧ H2 = H1) I1 ⟨rfl, rfl⟩) fun vl s2 ⟨l, H2, I2, pl, el, e2⟩ => ?_)
  subst el e2
  refine thn (po_none.run pins s2 σ H2 (fun o H3 => o = none ∧ H3 = H2) I2 ⟨rfl, rfl⟩) fun vu s3 ⟨u, H3, I3, pu, eu, e3⟩ => ?_
  subst eu e3
  refine thn (hst.run pins s3 σ H3 (fun o H4 => o = some (-1) ∧ H4 = H3) I3 ⟨1, rfl, -1, rfl, rfl, rfl⟩) fun vs s4 ⟨o, H4, I4, ps, eo, e4⟩ => ?_
  subst eo e4
  have I5 : Inv X pins σ H4 { s4 with heap := s4.heap.push { cls := .type "slice", data := .fields #[vl, vu, vs] } } := I4.kept (t' := s4.toks) fun b ob q => Heap.get?_push_of_some _ q
  rcases q with ⟨hx, q⟩ | ⟨hx, q⟩
  · obtain ⟨its, r, ht, hz⟩ := I5.list hx
    have hlen := r.length
    show wpAny (model X.prog X.w) X.A (subscriptTail e (.Slice none none (some (.UnaryOp .USub (.Constant (.int 1) k p1) p2)) p3) (.ref a) (.ref s4.heap.objs.size)) (EP X pins σ Q) X.xe { s4 with heap := s4.heap.push { cls := .type "slice", data := .fields #[vl, vu, vs] } }
    refine tail_any (ops := [.ref a, .ref s4.heap.objs.size]) ht.isList.typeIs (PySem.slot_list_getitem.lookup) ?_ (by with_unfolding_all rfl)
    refine wpAny_getItem_list_slice ht.isList (Heap.IsSliceOf.new _ vl vu vs) pl pu ps (by decide) ?_ (by rw [List.size_toArray]; omega)
    rw [PySem.W.krv_pick]
    refine ⟨.ref _, _, I5.laid (t' := s4.toks) (o := .lst xs.reverse) (fun b ob q => Heap.get?_push_of_some _ q) (Nat.le_refl _) ?_, rfl, q _ (I5.hok.fresh (Nat.le_refl _))⟩
    exact ⟨by rw [List.length_reverse]; exact hz, _, 0, r.reverse, Heap.get?_push_size _ rfl⟩
  · obtain ⟨its, r, ht, hz⟩ := I5.tuple hx
    have hlen := r.length
    show wpAny (model X.prog X.w) X.A (subscriptTail e (.Slice none none (some (.UnaryOp .USub (.Constant (.int 1) k p1) p2)) p3) (.ref a) (.ref s4.heap.objs.size)) (EP X pins σ Q) X.xe { s4 with heap := s4.heap.push { cls := .type "slice", data := .fields #[vl, vu, vs] } }
    refine tail_any (ops := [.ref a, .ref s4.heap.objs.size]) ht.typeIs PyProof.Rows.slot_tuple_getitem.lookup ?_ (by with_unfolding_all rfl)
    refine getItem_tuple_rev ht (Heap.IsSliceOf.new _ vl vu vs) pl pu ps ?_ (by rw [List.size_toArray]; omega)
    refine ⟨.ref _, _, I5.laid (t' := s4.toks) (o := .tup xs.reverse) (fun b ob q => Heap.get?_push_of_some _ q) (Nat.le_refl _) ?_, rfl, q _ (I5.hok.fresh (Nat.le_refl _))⟩
    exact ⟨by rw [List.length_reverse]; exact hz, _, r.reverse, IsTup.new _ _⟩
variable {G : Gd} {W : WX} {fa : M D}
def revD : D → Option Vl
  | .list xs => some (.own xs.reverse)
  | .tuple xs => some (.d (.tuple xs.reverse))
  | _ => none
theorem sv_rev {e : Expr} {k : Nat} {p1 p2 p3 pos : Pos} (hK : X.K = G.K) (he : SD X G W e fa) : SV X G W (.Subscript e (.Slice none none (some (.UnaryOp .USub (.Constant (.int 1) k p1) p2)) p3) pos) (un fa revD) := by
  refine PE.imp (pe_revA he) fun σ H Q ⟨O, env, R, t⟩ => ?_
  obtain ⟨O1, env1, R1, r1, e1, p1⟩ := bindL (RV := RD G) R t
  refine ⟨O1, env1, R1, r1, e1, p1.mono fun x H2 ⟨dx, env2, O2, R2, s2, rx, t2⟩ => ?_⟩
  obtain ⟨vl, ev, q⟩ := finOp R2 t2
  unfold revD at ev
  rw [hK]
  split at ev
  · cases ev
    obtain ⟨a, xs, rfl, ra, qa⟩ := Rp.list_inv rx
    exact ⟨a, xs, rfl, .inl ⟨ra.sq, fun p hp => q.lst qa.reverse hp⟩⟩
  · cases ev
    obtain ⟨a, xs, rfl, ra, qa⟩ := Rp.tup_inv rx
    exact ⟨a, xs, rfl, .inr ⟨ra.sq, fun p hp => q.tup R2.ol qa.reverse hp⟩⟩
  · cases ev
end
end PV

/-! PV20: the law's end. -/
namespace PV
open PySem PySem.Spec PyProof.Rows L2

theorem end_call {M : Wo} {mb : Str → Option Value} {k : Nat} {fa a : Addr} {fd : FuncData} {x : Str} {sp : Sp} {s₁ : Shared} {vs : List Value} {ns : List Int}
    (P : Program) (w : World) (K : PySem.W.Frag) (mg : Str → Option Value) (cls : Nat → Addr)
    (KX : K.In s₁.heap) (hns : s₁.heap.Ns mainGlobals mg) (hb : s₁.heap.Ns builtinsNs mb) (hbb : ∀ x : Str, x ≠ "__name__" → mb x = bootBuiltins x) (hlim : s₁.heap.NoLimit) (hg : s₁.gens = #[])
    (ha : s₁.heap.get? a = some { cls := .type "list", data := .seq vs.toArray }) (hi : IntsAre vs ns) (hl : ns.length ≤ sizeLine) (hr : Room k callerA)
    (F : ∀ base : Heap, K.In base → base.Ns mainGlobals mg → FnG ⟨P, w, base, mg, K, cls⟩ k fa fd [x] sp) (hbind : ∀ (s : Shared) (u : Value), BindsTo s fd ⟨[u], []⟩ [(x, u)])
    (hsp : ∀ H : Hp, RdL K (fun _ => False) H a (ns.map V.int) → sp [.ref a] H (fun v _ => v = .bl true) fun _ _ _ => False) :
    codeAny (model P w) callerA (.call (.ref fa) ⟨[.ref a], []⟩) (fun r s' => r = .ok (.ret (.bool true)) ∧ OldK s₁.heap s'.heap ∧ s'.os = s₁.os ∧ AllBare s'.gens) s₁ := by
  have rv := vals_ints hi
  have lenV := hi.length
  have core : ∀ H : Hp, Only H → RdL K (fun _ => False) H a (ns.map V.int) → HOk P w H s₁.heap → (∀ b, H b ≠ none → b = a) → (H a ≠ none → K.lookup a = none) →
      codeAny (model P w) callerA (.call (.ref fa) ⟨[.ref a], []⟩) (fun r s' => r = .ok (.ret (.bool true)) ∧ OldK s₁.heap s'.heap ∧ s'.os = s₁.os ∧ AllBare s'.gens) s₁ := by
    intro H hO hS hok hA hK
    have base_of : ∀ {b : Addr} {o : Obj}, s₁.heap.get? b = some o → H b = none → (hidT s₁.heap H).get? b = some o := fun e n => hidT_get e n
    have noA : ∀ {b : Addr} {o : Obj} {es : Array DictEntry} {ep : Nat}, s₁.heap.get? b = some o → o.data = .dict es ep → H b = none := fun {b o es ep} e d => by
      cases q : H b with
      | none => rfl
      | some u =>
        have e' : b = a := hA b (by rw [q]; simp)
        subst e'
        rw [ha] at e; cases e
        have d' : Data.seq vs.toArray _ = Data.dict es ep := d
        cases d'
    have nsK : ∀ {b : Addr} {m : Str → Option Value}, s₁.heap.Ns b m → (hidT s₁.heap H).Ns b m := fun {b m} ⟨o, es, ep, e, d, r⟩ => ⟨o, es, ep, base_of e (noA e d), d, r⟩
    have hKb : K.In (hidT s₁.heap H) := fun b o e => base_of (KX b o e) (by
      cases q : H b with
      | none => rfl
      | some u =>
        have e' : b = a := hA b (by rw [q]; simp)
        subst e'
        rw [hK (by rw [q]; simp)] at e; cases e)
    have hM : Mod K mg (hidT s₁.heap H) := ⟨hKb, nsK hns, ⟨mb, nsK hb, hbb⟩, let ⟨mc, h1, h2⟩ := hlim; ⟨mc, nsK h1, h2⟩⟩
    have e0 : Env0 P w K mg (hidT s₁.heap H) callerA [] s₁ H := ⟨rfl, hM, fun b o e => of_hidT e, Nat.le_of_eq (hidT_size _ _), trivial, fun b hb => absurd (show b ∈ ([] : List Addr) from hb) (by simp), hok, .of_eq hg⟩
    refine codeAny_mono ((F _ hKb (nsK hns)).run callerA [] s₁ H ⟨[.ref a], []⟩ [.ref a] [.ref a] _ _ rfl hr e0 (hbind s₁ (.ref a)) (.cons rfl .nil) (hsp H hS)) fun r s' h => ?_
    cases r with
    | error e =>
      obtain ⟨_, _, _, _, _, _, _, _, _, _, _, _, z⟩ := h
      exact z.elim
    | ok fl =>
      cases fl with
      | next => exact False.elim h
      | brk => exact False.elim h
      | cont => exact False.elim h
      | ret u =>
        obtain ⟨v, H', os, bare, un, hok', r', q⟩ := h
        have q' : v = .bl true := q
        subst q'
        obtain rfl : u = Value.bool true := r'
        refine ⟨rfl, OldK.of_keep fun b o e => ?_, os, bare⟩
        cases q : H b with
        | none => exact un.keep b o e q (by intro z; exact absurd (show b ∈ ([] : List Addr) from z) (by simp)) (by simp)
        | some u =>
          rcases hO b with z | ⟨ob, xs, z⟩
          · rw [q] at z; cases z
          · have z2 := un.frzs b ob _ z
            obtain ⟨e1, _⟩ := hok b _ z
            obtain ⟨e2, _⟩ := hok' b _ z2
            rw [e] at e1; cases e1
            exact e2
  cases hk : K.lookup a with
  | some o =>
    have e := KX a o hk
    rw [ha] at e
    cases e
    refine core (fun _ => none) (fun _ => .inl rfl) (.inr ⟨_, vs.toArray, _, hk, rfl, rfl, rfl, by rw [List.size_toArray, lenV]; exact hl, by simpa using rv, rfl⟩) (fun b u z => by have z' : (none : Option HO) = some u := z; cases z') (fun b z => absurd rfl z) fun z => absurd rfl z
  | none =>
    refine core (fun b => if b = a then some (.frz { cls := .type "list", data := .seq vs.toArray } (.lst (ns.map V.int))) else none) (fun b => ?_) (.inl ⟨.inr ⟨{ cls := .type "list", data := .seq vs.toArray }, if_pos rfl⟩, fun z => z⟩) (fun b u z => ?_) (fun b z => ?_) fun _ => hk
    · by_cases hb : b = a
      · exact .inr ⟨_, _, if_pos hb⟩
      · exact .inl (if_neg hb)
    · by_cases hb : b = a
      · have z' := (if_pos hb).symm.trans z
        cases z'
        subst hb
        exact ⟨ha, by rw [List.length_map]; exact hl, vs, _, rv, ha⟩
      · have z' := (if_neg hb).symm.trans z
        cases z'
    · by_cases hb : b = a
      · exact hb
      · exact absurd (if_neg hb) z
theorem rp_ints {K : PySem.W.Frag} {O : Own} {H : Hp} : ∀ (ns : List Int), RpAll K O H (ns.map PyData.int) (ns.map V.int)
  | [] => by simp only [List.map_nil, RpAll]
  | n :: ns => by
    simp only [List.map_cons, RpAll]
    exact ⟨Rp.int', rp_ints ns⟩
/-- the law's meaning gives True -/
theorem law_sp {K : PySem.W.Frag} {cls : Nat → Addr} {c : Fn} {ns : List Int} (h : c [.d (.list (ns.map PyData.int))] = some (.ok (.d (.bool true)), [])) {H : Hp} {a : Addr} (r : RdL K (fun _ => False) H a (ns.map V.int)) : spF K cls c [.ref a] H (fun v _ => v = .bl true) fun _ _ _ => False := by
  refine ⟨fun _ => False, [.d (.list (ns.map PyData.int))], .ok (.d (.bool true)), [], fun a h => h.elim, ?_, List.Pairwise.nil, h, fun v O' H' _ _ rr => rr.2.bl_inv⟩
  simp only [ArgsR, ArgR, Rp]
  exact ⟨⟨a, _, rfl, r, rp_ints ns⟩, True.intro⟩
/-- the goal that k_head leaves -/
theorem walk_G {l : PySem.W.OpenLaw} {n k : Nat} {q : Program} {loose : List Str} {XP : (Str → Option Value) → Heap → Prop} {YP : World → Heap → Prop} {d : DefRec} {K : Params → PySem.W.Frag} {cls : PySem.W.Frag → Nat → Addr} {c : Fn} {x : Str}
    (hn : l.most = some n) (hn2 : n ≤ sizeLine) (hdf : d.params.defaults = []) (hr : Room k callerA)
    (hY : ∀ (w : World) (h : Heap), YP w h → (K w.params).In h)
    (F : ∀ (w : World) (mg : Str → Option Value) (fa : Addr) (h : Heap), (K w.params).In h → h.Ns mainGlobals mg → mg d.name = some (.ref fa) →
      ∃ fd : FuncData, (∀ (s : Shared) (u : Value), BindsTo s fd ⟨[u], []⟩ [(x, u)]) ∧
        ∀ base : Heap, (K w.params).In base → base.Ns mainGlobals mg → FnG ⟨l.prog, w, base, mg, K w.params, cls (K w.params)⟩ k fa fd [x] (spF (K w.params) (cls (K w.params)) c))
    (hsp : ∀ ns : List Int, ns.length ≤ n → c [.d (.list (ns.map PyData.int))] = some (.ok (.d (.bool true)), [])) :
    PySem.W.WalkO q loose XP YP l.row.toRowW d [] (fun f vs => PySem.call f vs) := by
  refine Att.attach_call hn hdf fun w s₀ s₁ mg mb fa o pm cd doc a vs ns G Y ho hd hcd hmg hobj hints hlen hg => ?_
  have KX := hY w _ Y
  obtain ⟨fd, hb, hF⟩ := F w mg fa _ KX G.T.g hmg
  exact end_call (M := ⟨l.prog, w, s₁.heap, mg, K w.params, cls (K w.params)⟩) l.prog w (K w.params) mg (cls (K w.params)) KX G.T.g G.T.b G.T.builtins G.T.nolimit hg hobj hints (Nat.le_trans hlen hn2) hr hF hb fun H hS => law_sp (hsp ns hlen) hS
end PV

/-! PV21: defs by their names; the facts of the head. -/
namespace PV
open PySem PySem.Spec PyProof.Rows L2

theorem bt_abs : bootBuiltins "abs" = some (.builtin "abs") := by decide +kernel
theorem bt_len : bootBuiltins "len" = some (.builtin "len") := by decide +kernel
theorem bt_max : bootBuiltins "max" = some (.builtin "max") := by decide +kernel
theorem bt_min : bootBuiltins "min" = some (.builtin "min") := by decide +kernel
theorem bt_repr : bootBuiltins "repr" = some (.builtin "repr") := by decide +kernel
theorem bt_int : bootBuiltins "int" = some (.type "int") := by decide +kernel
theorem bt_str : bootBuiltins "str" = some (.type "str") := by decide +kernel
theorem bt_bool : bootBuiltins "bool" = some (.type "bool") := by decide +kernel
theorem bt_list : bootBuiltins "list" = some (.type "list") := by decide +kernel
theorem bt_tuple : bootBuiltins "tuple" = some (.type "tuple") := by decide +kernel
theorem bt_dict : bootBuiltins "dict" = some (.type "dict") := by decide +kernel
theorem bt_VE : bootBuiltins "ValueError" = some (.type "ValueError") := by decide +kernel
theorem bt_LE : bootBuiltins "LookupError" = some (.type "LookupError") := by decide +kernel
section
variable {X : Cx} {G : Gd} {W : WX} {N : List Str} {sc : Scope} {blk : Bool} {k : Nat} {Mo : Wo} {pos p : Pos} {x : Str} {e : Expr} {es : List Expr} {fa fk : M (List Av)} {c : Fn} {ps ks : List Str}
theorem At0.sysX (A : At0 X G N sc blk Mo) : SysOk X.K := by rw [A.hK, A.gK]; exact A.sys
theorem At.u64 (A : At X G W N sc blk k Mo) : X.A.units + 64 < cLine := by have := A.room.un; omega
theorem At.u66 (A : At X G W N sc blk k Mo) : X.A.units + 66 < cLine := by have := A.room.un; omega
/-- a def of the module, every parameter written -/
def HasN (Mo : Wo) (x : Str) (ps : List Str) (c : Fn) (k : Nat) : Prop := ∃ f fd, Mo.mg x = some (.ref f) ∧ PySem.W.keepIn Mo.K (.ref f) = true ∧ Binds Mo.K fd ps [] ∧ FnG Mo k f fd ps (spF Mo.K Mo.cls c)
/-- .. the last ones by their defaults -/
def HasD (Mo : Wo) (x : Str) (ps : List Str) (c : Fn) (dvs : List V) (k : Nat) : Prop := ∃ f fd, Mo.mg x = some (.ref f) ∧ PySem.W.keepIn Mo.K (.ref f) = true ∧ (∃ ds, Vals dvs ds ∧ Binds Mo.K fd ps ds) ∧ FnG Mo k f fd ps (spF Mo.K Mo.cls c)
/-- .. by keywords -/
def HasK (Mo : Wo) (x : Str) (ps : List Str) (c : Fn) (n : Nat) (ks : List Str) (gV : List V → List V → List V) (k : Nat) : Prop := ∃ f fd g, Mo.mg x = some (.ref f) ∧ PySem.W.keepIn Mo.K (.ref f) = true ∧ KBn Mo.K fd ps n ks g gV ∧ FnG Mo k f fd ps (spF Mo.K Mo.cls c)
theorem HasN.mono {j : Nat} (h : HasN Mo x ps c j) (hj : j ≤ k) : HasN Mo x ps c k := let ⟨f, fd, h1, h2, h3, h4⟩ := h; ⟨f, fd, h1, h2, h3, h4.mono hj⟩
theorem HasD.mono {j : Nat} {dvs : List V} (h : HasD Mo x ps c dvs j) (hj : j ≤ k) : HasD Mo x ps c dvs k := let ⟨f, fd, h1, h2, h3, h4⟩ := h; ⟨f, fd, h1, h2, h3, h4.mono hj⟩
theorem HasK.mono {j n : Nat} {gV : List V → List V → List V} (h : HasK Mo x ps c n ks gV j) (hj : j ≤ k) : HasK Mo x ps c n ks gV k := let ⟨f, fd, g, h1, h2, h3, h4⟩ := h; ⟨f, fd, g, h1, h2, h3, h4.mono hj⟩
theorem sv_cN (A : At X G W N sc blk k Mo) (h : HasN Mo x ps c k) (hg : sc.names.lookup x = some .globalImplicit) (ha : SAv X G W (e :: es) fa) (hdb : (x == ("__debug__" : Str)) = false := by decide) (he : starEach (e :: es) X.env = (false, eval e X.env) :: starEach es X.env := by rfl) (hpl : (backTo pos (starEach es X.env)).any (·.1) = false := by rfl) :
    SV X G W (.Call (.Name x p) (e :: es) [] pos) (callF c fa) := by
  obtain ⟨f, fd, h1, h2, h3, h4⟩ := h
  exact sv_call A h4 hg h1 h2 h3 ha hdb he hpl
theorem sv_cD (A : At X G W N sc blk k Mo) {dvs : List V} {dds : List D} (h : HasD Mo x ps c dvs k) (hg : sc.names.lookup x = some .globalImplicit) (hd : ∀ σ O H, AvsR Mo.K Mo.cls σ O H (dds.map .d) dvs) (ha : SAv X G W (e :: es) fa) (hdb : (x == ("__debug__" : Str)) = false := by decide) (he : starEach (e :: es) X.env = (false, eval e X.env) :: starEach es X.env := by rfl) (hpl : (backTo pos (starEach es X.env)).any (·.1) = false := by rfl) :
    SV X G W (.Call (.Name x p) (e :: es) [] pos) (callD c fa dds) := by
  obtain ⟨f, fd, h1, h2, h3, h4⟩ := h
  exact sv_callD A h4 hg h1 h2 h3 hd ha hdb he hpl
theorem sv_cK (A : At X G W N sc blk k Mo) {n : Nat} {kws : List Keyword} {gV : List V → List V → List V} (gA : List Av → List Av → List Av) (h : HasK Mo x ps c n ks gV k) (hg : sc.names.lookup x = some .globalImplicit)
    (hgA : ∀ σ O H as vs bs zs, as.length = n → bs.length = ks.length → AvsR Mo.K Mo.cls σ O H as vs → AvsR Mo.K Mo.cls σ O H bs zs → AvsR Mo.K Mo.cls σ O H (gA as bs) (gV vs zs))
    (ha : SAv X G W (e :: es) fa) (hkw : SKw X G W kws fk) (hall : (backToKw pos (keywordEach kws X.env)).all (·.1.isSome) = true := by rfl) (hks : (backToKw pos (keywordEach kws X.env)).filterMap (·.1) = ks := by rfl)
    (hdb : (x == ("__debug__" : Str)) = false := by decide) (he : starEach (e :: es) X.env = (false, eval e X.env) :: starEach es X.env := by rfl)
    (hpl : ((backTo pos (starEach (e :: es) X.env)).any (·.1) || (backToKw pos (keywordEach kws X.env)).any (·.1.isNone)) = false := by rfl) :
    SV X G W (.Call (.Name x p) (e :: es) kws pos) (callK c n ks.length gA fa fk) := by
  obtain ⟨f, fd, g, h1, h2, h3, h4⟩ := h
  exact sv_callK A h4 hg h1 h2 gA h3 hgA ha hkw hall hks hdb he hpl
/-- the def keeps its meaning -/
theorem fn_of_D {M : Wo} {name qual : Str} {params : Arguments} {body : List Stmt} {scope : Scope} {dvs : List V} {kws : List (Str × V)} {f : Addr} {fd : FuncData} {fsem : Stm} (F : FunD M.K name qual params body scope dvs kws f fd) (sy : SysOk M.K) (S : FnScope N ps scope)
    (hbody : ∀ (X : Cx) (G : Gd) (W : WX), At X G W N scope false k M → SSs X G W body fsem) : FnG M (k + 1) f fd ps (spF M.K M.cls (runFn N.length ps.length fsem)) := by
  obtain ⟨oc, od, dV, kV, doc, pm, an, cdv, ct, osl, rfl, lk, hcd, _, _⟩ := F.ex
  exact fnG_of lk hcd sy S hbody
/-- nothing is promised -/
theorem fn_none {M : Wo} {f : Addr} {fd : FuncData} : FnG M k f fd ps (spF M.K M.cls fun _ => none) := by
  refine ⟨fun vs H Q E h => ?_, fun A outer s H args us vs Q E _ _ _ _ _ h => ?_⟩
  · obtain ⟨_, _, _, _, _, _, _, h, _⟩ := h
    cases h
  · obtain ⟨_, _, _, _, _, _, _, h, _⟩ := h
    cases h
end

/-! ### the facts -/
def sysB (K : PySem.W.Frag) : Bool := match K.lookup sysModules with
  | some ⟨_, _, .dict _ _, _⟩ => true
  | _ => false
theorem sysB_ok {K : PySem.W.Frag} (h : sysB K = true) : SysOk K := by
  unfold sysB at h
  split at h
  · rename_i e
    exact ⟨_, e, fun _ _ z => nomatch z⟩
  · cases h
def hookP (n : Nat) (fa : List He.Fa) (fn : List He.DefD) (ex : PySem.W.Frag → Bool) : PySem.W.Hook where
  α := He.AlD × Bool
  obs := fun s => (fun K => (He.obsD fa fn K, sysB K && ex K)) (He.frG s.heap.get? (sysModules :: He.asD s.heap.get? n))
  val := fun _ => (He.valD fn, true)
  says := fun _ h => ∃ K : PySem.W.Frag, K.In h ∧ He.SaysD fa fn K ∧ (sysB K && ex K) = true
  of := fun _ s e => ⟨He.frG s.heap.get? (sysModules :: He.asD s.heap.get? n), He.frG_in, congrArg (fun z : He.AlD × Bool => z.1) e, congrArg (fun z : He.AlD × Bool => z.2) e⟩
  keeps := fun _ _ _ ⟨K, hK, c⟩ k => ⟨K, PySem.W.Frag.In.keeps hK k, c⟩
def obsP (n : Nat) (fa : List He.Fa) (fn : List He.DefD) (ex : PySem.W.Frag → Bool) (s : PySem.W.SharedT) : He.AlD × Bool := (fun K => (He.obsD fa fn K, sysB K && ex K)) (He.frG (HandSHeadRun.getT s) (sysModules :: He.asD (HandSHeadRun.getT s) n))
theorem obsP_eq {n : Nat} {fa : List He.Fa} {fn : List He.DefD} {ex : PySem.W.Frag → Bool} (s : PySem.W.SharedT) : obsP n fa fn ex s = (hookP n fa fn ex).obs s.abs := by
  have e : HandSHeadRun.getT s = s.abs.heap.get? := funext (HandSHeadRun.getT_eq s)
  unfold obsP
  rw [e]
  rfl
/-- the end over a head by facts -/
theorem walk_GE {l : PySem.W.OpenLaw} {n k : Nat} {q : Program} {loose : List Str} {XP : (Str → Option Value) → Heap → Prop} {YP : World → Heap → Prop} {d : DefRec} {cls : PySem.W.Frag → Nat → Addr} {c : Fn} {x : Str}
    (hn : l.most = some n) (hn2 : n ≤ sizeLine) (hdf : d.params.defaults = []) (hr : Room k callerA)
    (F : ∀ (w : World) (mg : Str → Option Value) (fa : Addr) (h : Heap), YP w h → h.Ns mainGlobals mg → mg d.name = some (.ref fa) →
      ∃ (K : PySem.W.Frag) (fd : FuncData), K.In h ∧ (∀ (s : Shared) (u : Value), BindsTo s fd ⟨[u], []⟩ [(x, u)]) ∧
        ∀ base : Heap, K.In base → base.Ns mainGlobals mg → FnG ⟨l.prog, w, base, mg, K, cls K⟩ k fa fd [x] (spF K (cls K) c))
    (hsp : ∀ ns : List Int, ns.length ≤ n → c [.d (.list (ns.map PyData.int))] = some (.ok (.d (.bool true)), [])) :
    PySem.W.WalkO q loose XP YP l.row.toRowW d [] (fun f vs => PySem.call f vs) := by
  refine Att.attach_call hn hdf fun w s₀ s₁ mg mb fa o pm cd doc a vs ns G Y ho hd hcd hmg hobj hints hlen hg => ?_
  obtain ⟨K, fd, KX, hb, hF⟩ := F w mg fa _ Y G.T.g hmg
  exact end_call (M := ⟨l.prog, w, s₁.heap, mg, K, cls K⟩) l.prog w K mg (cls K) KX G.T.g G.T.b G.T.builtins G.T.nolimit hg hobj hints (Nat.le_trans hlen hn2) hr hF hb fun H hS => law_sp (hsp ns hlen) hS
/-- what a law's defs lean on -/
structure Fx (fa : List He.Fa) (fn : List He.DefD) (ex : PySem.W.Frag → Bool) (cls : PySem.W.Frag → Nat → Addr) (Mo : Wo) : Prop where
  ins : Mo.K.In Mo.base
  ns : Mo.base.Ns mainGlobals Mo.mg
  says : He.SaysD fa fn Mo.K
  ex : ex Mo.K = true
  cls : Mo.cls = cls Mo.K
  sys : SysOk Mo.K
section
variable {fa : List He.Fa} {fn : List He.DefD} {ex : PySem.W.Frag → Bool} {cls : PySem.W.Frag → Nat → Addr} {Mo : Wo} {k : Nat}
theorem Fx.glo (F : Fx fa fn ex cls Mo) (i : Nat) {x : Str} (h : fa[i]? = some (.glo x) := by rfl) : Mo.mg x = some (.ref (He.ga Mo.K x)) := He.glo_ok F.ins F.ns (F.says.fact i h)
theorem Fx.free (F : Fx fa fn ex cls Mo) (i : Nat) {x : Str} (h : fa[i]? = some (.free x) := by rfl) : Mo.mg x = none := He.free_ok F.ins F.ns (F.says.fact i h)
theorem Fx.int (F : Fx fa fn ex cls Mo) (i : Nat) {x : Str} {z : Int} (h : fa[i]? = some (.int x z) := by rfl) : ∃ t, Mo.mg x = some (.int z t) := He.int_ok F.ins F.ns (F.says.fact i h)
/-- a def without defaults -/
theorem Fx.def0 (F : Fx fa fn ex cls Mo) {N ps : List Str} {x : Str} {params : Arguments} {body : List Stmt} {scope : Scope} {fsem : Stm} (i j : Nat) (h : fn[i]? = some ⟨(x, none), x, x, params, body, scope, [], []⟩) (hg : fa[j]? = some (.glo x)) (S : FnScope N ps scope)
    (hb : ∀ (kV doc pm : Value) (an : Option Addr) (cdv ct : Value) (us : List Value), us.length = ps.length → bindArgs (PySem.W.fnOf x x params body scope .none kV doc pm an cdv ct) ⟨us, []⟩ = pure (ps.zip us))
    (hbody : ∀ (X : Cx) (G : Gd) (W : WX), At X G W N scope false k Mo → SSs X G W body fsem) : HasN Mo x ps (runFn N.length ps.length fsem) (k + 1) := by
  obtain ⟨fd, F0⟩ := F.says.def_ i h
  have F1 : FunD Mo.K x x params body scope [] [] (He.ga Mo.K x) fd := F0
  exact ⟨_, fd, F.glo j hg, F1.kp, F1.bindsN hb, fn_of_D F1 F.sys S hbody⟩
end
end PV

/-! PV22: small helps of the printed walks. -/
namespace PV
open PySem PySem.Spec PyProof.Rows L2
theorem eqD_bool : ∀ x y v, eqD x y = some v → ∃ d, v = .d (.bool d) := fun x y v h => by
  unfold eqD at h
  cases e : eqB x y with
  | none => rw [e] at h; cases h
  | some b => rw [e] at h; cases h; exact ⟨_, rfl⟩
theorem neD_bool : ∀ x y v, neD x y = some v → ∃ d, v = .d (.bool d) := fun x y v h => by
  unfold neD at h
  cases e : eqB x y with
  | none => rw [e] at h; cases h
  | some b => rw [e] at h; cases h; exact ⟨_, rfl⟩
section
variable {X : Cx} {G : Gd} {W : WX} {N : List Str} {sc : Scope} {blk : Bool} {k : Nat} {Mo : Wo} {pos p : Pos} {x : Str}
theorem sd_gint (A : At0 X G N sc blk Mo) {z : Int} (hg : sc.names.lookup x = some .globalImplicit) (h : ∃ t, Mo.mg x = some (.int z t)) (hd : (x == ("__debug__" : Str)) = false := by decide) : SD X G W (.Name x pos) (M.ret (.int z)) := by
  obtain ⟨t, h⟩ := h
  exact sd_glob (v := V.int z) A hg h ⟨t, rfl⟩ (fun _ _ => Rp.int') hd
theorem kind_of (A : At0 X G N sc blk Mo) (h : sc.names.lookup x = some .local) : X.env.kindOf x = some .local := by
  show X.env.scope.names.lookup x = _
  rw [A.hsc]
  exact h
end
def excB (K : PySem.W.Frag) (C : Addr) : Bool :=
  decide (PySem.W.findIn K (.ref C) "__getattribute__" = some (some (.builtin "BaseException.__getattribute__"))) && (decide (PySem.W.findIn K (.ref C) "__getattr__" = some none) && (decide (PySem.W.subIn K (.ref C) (.type "BaseException") = some true) && (PySem.W.hasDictIn K C &&
    (decide (PySem.W.findIn K (.ref C) "__class__" = some (some (.builtin "object.__class__"))) && (decide (PySem.W.specialIn K (.builtin "object.__class__") "__get__" = some (some (.builtin "getset_descriptor.__get__"))) && (decide (PySem.W.takesIn K (.builtin "object.__class__") = some true) && decide (PySem.W.mroIn K C (.type "object") = some true)))))))
theorem and2 {a b : Bool} (h : (a && b) = true) : a = true ∧ b = true := Bool.and_eq_true_iff.mp h
theorem excB_ok {K : PySem.W.Frag} {C : Addr} (h : excB K C = true) : ExcC K C := by
  obtain ⟨h1, h⟩ := and2 h
  obtain ⟨h2, h⟩ := and2 h
  obtain ⟨h3, h⟩ := and2 h
  obtain ⟨h4, h⟩ := and2 h
  obtain ⟨h5, h⟩ := and2 h
  obtain ⟨h6, h⟩ := and2 h
  obtain ⟨h7, h8⟩ := and2 h
  exact ⟨of_decide_eq_true h1, of_decide_eq_true h2, of_decide_eq_true h3, h4, of_decide_eq_true h5, of_decide_eq_true h6, of_decide_eq_true h7, of_decide_eq_true h8⟩
def baseVE : List Value := [.type "ValueError", .type "Exception", .type "BaseException", .type "object"]
def baseLE : List Value := [.type "LookupError", .type "Exception", .type "BaseException", .type "object"]
def raiB (K : PySem.W.Frag) (C : Addr) (bm : List Value) (newId : String) : Bool := PySem.W.excIn K C bm newId && (PySem.W.keepIn K (.ref C) && (decide (PySem.W.subIn K (.ref C) (.type "BaseException") = some true) && decide (PySem.W.typeIn K (.ref C) = some (.type "type"))))
theorem raiB_ok {K : PySem.W.Frag} {C : Addr} {bm : List Value} {newId : String} (h : raiB K C bm newId = true) : PySem.W.excIn K C bm newId = true ∧ PySem.W.keepIn K (.ref C) = true ∧ PySem.W.subIn K (.ref C) (.type "BaseException") = some true ∧ PySem.W.typeIn K (.ref C) = some (.type "type") := by
  obtain ⟨h1, h⟩ := and2 h
  obtain ⟨h2, h⟩ := and2 h
  obtain ⟨h3, h4⟩ := and2 h
  exact ⟨h1, h2, of_decide_eq_true h3, of_decide_eq_true h4⟩
theorem xt_ok {K : PySem.W.Frag} {C : Addr} {o : Option Bool} {b : Bool} (h : (excB K C && decide (o = some b)) = true) : ExcC K C ∧ o = some b := by
  obtain ⟨h1, h2⟩ := and2 h
  exact ⟨excB_ok h1, of_decide_eq_true h2⟩
section
variable {fa : List He.Fa} {fn : List He.DefD} {exl : PySem.W.Frag → List Bool} {cls : PySem.W.Frag → Nat → Addr} {Mo : Wo} {k : Nat}
theorem Fx.exAt (F : Fx fa fn (fun K => (exl K).all id) cls Mo) (j : Nat) {t : Bool} (h : (exl Mo.K)[j]? = some t := by rfl) : t = true := List.all_eq_true.mp F.ex t (List.mem_of_getElem? h)
/-- nothing is promised yet (a def that calls itself) -/
theorem Fx.defN {ex : PySem.W.Frag → Bool} (F : Fx fa fn ex cls Mo) {ps : List Str} {x : Str} {params : Arguments} {body : List Stmt} {scope : Scope} (i j : Nat) (h : fn[i]? = some ⟨(x, none), x, x, params, body, scope, [], []⟩) (hg : fa[j]? = some (.glo x))
    (hb : ∀ (kV doc pm : Value) (an : Option Addr) (cdv ct : Value) (us : List Value), us.length = ps.length → bindArgs (PySem.W.fnOf x x params body scope .none kV doc pm an cdv ct) ⟨us, []⟩ = pure (ps.zip us)) : HasN Mo x ps (fun _ => none) k := by
  obtain ⟨fd, F0⟩ := F.says.def_ i h
  have F1 : FunD Mo.K x x params body scope [] [] (He.ga Mo.K x) fd := F0
  exact ⟨_, fd, F.glo j hg, F1.kp, F1.bindsN hb, fn_none⟩
end
end PV

/-! PV23: the meanings run by simp. -/
namespace PV
open PySem PySem.Spec PyProof.Rows L2
section
variable {α β : Type} {a : α} {env : SEnv} {m : M α} {k : α → M β} {o : Option α} {fa fb : M D} {fv : M Vl} {fc fc2 : M Bool} {fl : M (List D)} {fav : M (List Av)} {f g : Stm} {gg : D → D → Option Vl} {g1 : D → Option Vl} {gl : List D → Option Vl} {i j : Nat}
@[simp] theorem e_ret : M.ret a env = some (.ok a, env) := rfl
@[simp] theorem e_bnd : M.bnd m k env = (match m env with
  | none => none
  | some (.ok a, e) => k a e
  | some (.ex x, e) => some (.ex x, e)) := rfl
@[simp] theorem e_opt : M.opt o env = (match o with
  | none => none
  | some a => some (.ok a, env)) := rfl
@[simp] theorem e_fz : PV.fz fv env = M.bnd fv (fun x => M.ret x.fz) env := rfl
@[simp] theorem e_toV : PV.toV fa env = M.bnd fa (fun x => M.ret (.d x)) env := rfl
@[simp] theorem e_vfz1 (x : D) : Vl.fz (.d x) = x := rfl
@[simp] theorem e_vfz2 (x : List D) : Vl.fz (.own x) = .list x := rfl
@[simp] theorem e_vsl1 (x : D) : Vl.sl (.d x) = .d x := rfl
@[simp] theorem e_vsl2 (x : List D) : Vl.sl (.own x) = .own x := rfl
@[simp] theorem e_bin : PV.bin fa fb gg env = M.bnd fa (fun x => M.bnd fb fun y => M.opt (gg x y)) env := rfl
@[simp] theorem e_un : PV.un fa g1 env = M.bnd fa (fun x => M.opt (g1 x)) env := rfl
@[simp] theorem e_calM : calM fl gl env = M.bnd fl (fun ds => M.opt (gl ds)) env := rfl
@[simp] theorem e_consA : consA fa fl env = M.bnd fa (fun d => M.bnd fl fun ds => M.ret (d :: ds)) env := rfl
@[simp] theorem e_consD : consD fa fav env = M.bnd fa (fun d => M.bnd fav fun r => M.ret (.d d :: r)) env := rfl
@[simp] theorem e_consMu : consMu i fav env = (match listAt env i with
  | none => none
  | some _ => M.bnd fav (fun r => M.ret (.m i :: r)) env) := rfl
@[simp] theorem e_listAt : listAt env i = (match env[i]? with
  | some (some (.own xs)) => some xs
  | some (some (.mu xs)) => some xs
  | _ => none) := rfl
@[simp] theorem e_rdM : rdM i env = (match env[i]? with
  | some (some (.d x)) => some (.ok x, env)
  | some (some (.own xs)) => some (.ok (.list xs), env.set i (some (.d (.list xs))))
  | _ => none) := rfl
@[simp] theorem e_mvM : mvM i env = (match env[i]? with
  | some (some (.d x)) => some (.ok (.d x), env)
  | some (some (.own xs)) => some (.ok (.own xs), env.set i none)
  | _ => none) := rfl
@[simp] theorem e_atM : atM i fa env = (match listAt env i with
  | none => none
  | some _ => M.bnd fa (fun kd env1 => match kd, listAt env1 i with
    | .int kk, some xs => match L2.atI xs kk with
      | some d => some (.ok d, env1)
      | none => none
    | _, _ => none) env) := rfl
@[simp] theorem e_isi (T : Ty) : isiM T fa env = M.bnd fa (fun d => M.ret (.bool (isTy T d))) env := rfl
@[simp] theorem e_isi2 (T U : Ty) : isi2M T U fa env = M.bnd fa (fun d => M.ret (.bool (isTy T d || isTy U d))) env := rfl
@[simp] theorem e_andV : andV fa fb env = M.bnd fa (fun d => M.bnd (M.opt (truD d)) fun b => if b = true then fb else M.ret d) env := rfl
@[simp] theorem e_orV : orV fa fb env = M.bnd fa (fun d => M.bnd (M.opt (truD d)) fun b => if b = true then M.ret d else fb) env := rfl
@[simp] theorem e_notV : notV fa env = M.bnd fa (fun d => M.opt ((truD d).map fun b => .bool (!b))) env := rfl
@[simp] theorem e_tru : tru fa env = M.bnd fa (fun d => M.opt (truD d)) env := rfl
@[simp] theorem e_cmpB : cmpB fa fb gg env = M.bnd fa (fun x => M.bnd fb fun y => M.opt (match gg x y with
  | some (.d (.bool b)) => some b
  | _ => none)) env := rfl
@[simp] theorem e_andB : andB fc fc2 env = M.bnd fc (fun b => if b = true then fc2 else M.ret false) env := rfl
@[simp] theorem e_orB : orB fc fc2 env = M.bnd fc (fun b => if b = true then M.ret true else fc2) env := rfl
@[simp] theorem e_notB : notB fc env = M.bnd fc (fun b => M.ret (!b)) env := rfl
@[simp] theorem e_ifM (m1 m2 : M α) : ifM fc m1 m2 env = M.bnd fc (fun b => if b = true then m1 else m2) env := rfl
@[simp] theorem e_tupM : tupM fl env = M.bnd fl (fun ds => M.opt (if ds.length ≤ sizeLine then some (.tuple ds) else none)) env := rfl
@[simp] theorem e_lstM : lstM fl env = M.bnd fl (fun ds => M.opt (if ds.length ≤ sizeLine then some (.own ds) else none)) env := rfl
@[simp] theorem e_ite {c : Prop} [Decidable c] (m1 m2 : M α) : (if c then m1 else m2) env = if c then m1 env else m2 env := by split <;> rfl
@[simp] theorem e_iteS {c : Prop} [Decidable c] (m1 m2 : Stm) : (if c then m1 else m2) env = if c then m1 env else m2 env := by split <;> rfl
@[simp] theorem e_then (kk : α → Stm) : thenS m kk env = (match m env with
  | none => none
  | some (.ok a, e) => kk a e
  | some (.ex x, e) => some (.ex x, e)) := rfl
@[simp] theorem e_nil : nilS env = some (.nx, env) := rfl
@[simp] theorem e_seq : seqS f g env = (match f env with
  | none => none
  | some (.nx, e) => g e
  | some r => some r) := rfl
@[simp] theorem e_ret1 : retS fv env = thenS fv (fun x env => some (.rt x, env)) env := rfl
@[simp] theorem e_retN : retN env = some (.rt (.d .none), env) := rfl
@[simp] theorem e_drop : dropS fv env = thenS fv (fun _ env => some (.nx, env)) env := rfl
@[simp] theorem e_if : ifS fc f g env = thenS fc (fun b => if b = true then f else g) env := rfl
@[simp] theorem e_asg : asgS i fv env = thenS fv (fun x env => (storeE i x.sl env).map fun e => (.nx, e)) env := rfl
@[simp] theorem e_store (s : Sl) : storeE i s env = (match env[i]? with
  | none => none
  | some (some (.mu _)) => none
  | some _ => some (env.set i (some s))) := rfl
@[simp] theorem e_par : parS i j fl env = thenS fl (fun ds env => match ds with
  | [x, y] => match storeE i (.d x) env with
    | none => none
    | some e => (storeE j (.d y) e).map fun e => (.nx, e)
  | _ => none) env := rfl
@[simp] theorem e_set : setS j fa fb env = thenS fa (fun v env => match listAt env j with
  | none => none
  | some _ => thenS fb (fun kd env1 => match kd, listAt env1 j with
    | .int kk, some xs => match ixN xs.length kk with
      | some n => some (.nx, setOut env1 j (xs.set n v))
      | none => none
    | _, _ => none) env) env := rfl
@[simp] theorem e_setOut (ys : List D) : setOut env i ys = (match env[i]? with
  | some (some (.mu _)) => env.set i (some (.mu ys))
  | _ => env.set i (some (.own ys))) := rfl
@[simp] theorem e_callF (c : Fn) : callF c fav env = M.bnd fav (callAt c) env := rfl
@[simp] theorem e_callAt (c : Fn) (as : List Av) : callAt c as env = (if (slots as).Nodup then
    match argsOf env as with
    | none => none
    | some args => match c args with
      | none => none
      | some (r, outs) => match setOuts env (slots as) outs with
        | none => none
        | some env' => some (r, env')
  else none) := rfl
@[simp] theorem e_slots0 : slots [] = [] := rfl
@[simp] theorem e_slots1 (x : D) (as : List Av) : slots (.d x :: as) = slots as := rfl
@[simp] theorem e_slots2 (as : List Av) : slots (.m i :: as) = i :: slots as := rfl
@[simp] theorem e_slots3 (x : Exn) (as : List Av) : slots (.x x :: as) = slots as := rfl
@[simp] theorem e_args0 : argsOf env [] = some [] := rfl
@[simp] theorem e_args1 (x : D) (as : List Av) : argsOf env (.d x :: as) = (argsOf env as).map fun r => .d x :: r := rfl
@[simp] theorem e_args2 (as : List Av) : argsOf env (.m i :: as) = (match listAt env i, argsOf env as with
  | some xs, some r => some (.m xs :: r)
  | _, _ => none) := rfl
@[simp] theorem e_args3 (x : Exn) (as : List Av) : argsOf env (.x x :: as) = (argsOf env as).map fun r => .x x :: r := rfl
@[simp] theorem e_outs0 : setOuts env [] [] = some env := rfl
@[simp] theorem e_outs1 (is : List Nat) (ys : List D) (r : List (List D)) : setOuts env (i :: is) (ys :: r) = setOuts (setOut env i ys) is r := rfl
@[simp] theorem e_run (n np : Nat) (args : List Ar) : runFn n np f args = (if args.length = np then
    match f (initE n args) with
    | none => none
    | some (fl, env') => match retOf fl, outsOf (muIx 0 args) env' with
      | some r, some outs => some (r, outs)
      | _, _ => none
  else none) := rfl
@[simp] theorem e_init (n : Nat) (args : List Ar) : initE n args = args.map (fun a => some a.sl) ++ List.replicate (n - args.length) none := rfl
@[simp] theorem e_sl1 (x : D) : Ar.sl (.d x) = .d x := rfl
@[simp] theorem e_sl2 (x : List D) : Ar.sl (.m x) = .mu x := rfl
@[simp] theorem e_sl3 (x : Exn) : Ar.sl (.x x) = .x x := rfl
@[simp] theorem e_ro1 : retOf .nx = some (.ok (.d .none)) := rfl
@[simp] theorem e_ro2 (x : Vl) : retOf (.rt x) = some (.ok x) := rfl
@[simp] theorem e_ro3 (x : Exn) : retOf (.ex x) = some (.ex x) := rfl
@[simp] theorem e_mi0 : muIx i [] = [] := rfl
@[simp] theorem e_mi1 (x : List D) (as : List Ar) : muIx i (.m x :: as) = i :: muIx (i + 1) as := rfl
@[simp] theorem e_mi2 (x : D) (as : List Ar) : muIx i (.d x :: as) = muIx (i + 1) as := rfl
@[simp] theorem e_mi3 (x : Exn) (as : List Ar) : muIx i (.x x :: as) = muIx (i + 1) as := rfl
@[simp] theorem e_oo0 : outsOf [] env = some [] := rfl
@[simp] theorem e_oo1 (is : List Nat) : outsOf (i :: is) env = (match env[i]?, outsOf is env with
  | some (some (.mu xs)), some r => some (xs :: r)
  | _, _ => none) := rfl
end
@[simp] theorem e_sz (n : Nat) (h : n ≤ 1000) : n ≤ sizeLine := Nat.le_trans h (by decide)
/-! ### operations -/
@[simp] theorem o_sub (i j : Int) : subD (.int i) (.int j) = some (.d (.int (i - j))) := rfl
@[simp] theorem o_lt (i j : Int) : ltD (.int i) (.int j) = some (.d (.bool (decide (i < j)))) := rfl
@[simp] theorem o_le (i j : Int) : leD (.int i) (.int j) = some (.d (.bool (decide (i ≤ j)))) := rfl
@[simp] theorem o_gt (i j : Int) : gtD (.int i) (.int j) = some (.d (.bool (decide (j < i)))) := rfl
@[simp] theorem o_ge (i j : Int) : geD (.int i) (.int j) = some (.d (.bool (decide (j ≤ i)))) := rfl
@[simp] theorem o_neg (i : Int) : negD (.int i) = some (.d (.int (-i))) := rfl
@[simp] theorem o_add (i j : Int) : addD (.int i) (.int j) = some (.d (.int (i + j))) := rfl
theorem o_mod {i j : Int} (h : j ≠ 0) : modD (.int i) (.int j) = some (.d (.int (i.fmod j))) := by
  unfold modD intG okMod
  simp [h]
theorem o_fdiv {i j : Int} (h : j ≠ 0) (h2 : j.natAbs.log2 < 9000) : fdivD (.int i) (.int j) = some (.d (.int (i.fdiv j))) := by
  unfold fdivD intG okDiv
  simp [h, h2]
theorem o_mul {i j : Int} (h : i.natAbs.log2 + j.natAbs.log2 < 1000000) : mulA (.int i) (.int j) = some (.d (.int (i * j))) := by
  unfold mulA mulD intG okMul
  simp [h]
theorem o_pow {i j : Int} (h0 : 0 ≤ j) (h : (Builtin.Int.intBits i : Int) * j ≤ 2 ^ 27) : powD (.int i) (.int j) = some (.d (.int (i ^ j.toNat))) := by
  unfold powD intG okPow
  have h0' : (decide (0 ≤ j)) = true := decide_eq_true h0
  have h' : decide ((Builtin.Int.intBits i : Int) * j ≤ 2 ^ 27) = true := decide_eq_true h
  dsimp only
  rw [h0', h', Bool.true_and, if_pos rfl]
@[simp] theorem o_abs (i : Int) : absD [.int i] = some (.d (.int (if i < 0 then -i else i))) := rfl
@[simp] theorem o_int (i : Int) : intD [.int i] = some (.d (.int i)) := rfl
@[simp] theorem o_intb (b : Bool) : intD [.bool b] = some (.d (.int (if b then 1 else 0))) := by cases b <;> rfl
@[simp] theorem o_max (i j : Int) : maxD [.int i, .int j] = some (.d (.int (if j > i then j else i))) := rfl
@[simp] theorem o_min (i j : Int) : minD [.int i, .int j] = some (.d (.int (if j < i then j else i))) := rfl
@[simp] theorem o_lenL (xs : List D) : lenD [.list xs] = some (.d (.int xs.length)) := rfl
@[simp] theorem o_lenT (xs : List D) : lenD [.tuple xs] = some (.d (.int xs.length)) := rfl
@[simp] theorem o_truB (b : Bool) : truD (.bool b) = some b := rfl
@[simp] theorem o_truN : truD .none = some false := rfl
@[simp] theorem o_truI (i : Int) : truD (.int i) = some (i != 0) := rfl
@[simp] theorem o_truL (xs : List D) : truD (.list xs) = some (!xs.isEmpty) := rfl
@[simp] theorem o_truT (xs : List D) : truD (.tuple xs) = some (!xs.isEmpty) := rfl
@[simp] theorem o_ixL (xs : List D) (i : Int) : ixD (.list xs) (.int i) = (L2.atI xs i).map .d := rfl
@[simp] theorem o_ixT (xs : List D) (i : Int) : ixD (.tuple xs) (.int i) = (L2.atI xs i).map .d := rfl
end PV

/-! PV24: the law's pot: what is drawn. -/
namespace PV
open PySem PySem.Spec PyProof.Rows L2
noncomputable section
def takeS : Stm :=
  seqS (ifS (cmpB (atM 0 (M.ret (.int 0))) (M.ret (.int 0)) gtD)
    (seqS (asgS 2 (bin (atM 0 (M.ret (.int 0))) (rdM 1) modD)) <|
    seqS (setS 0 (PV.fz (bin (atM 0 (M.ret (.int 0))) (rdM 1) fdivD)) (M.ret (.int 0))) <|
    retS (mvM 2))
    (nilS)) <|
  seqS (setS 0 (PV.fz (bin (atM 0 (M.ret (.int 2))) (M.ret (.int 1)) addD)) (M.ret (.int 2))) <|
  seqS (asgS 3 (bin (PV.fz (bin (PV.fz (bin (atM 0 (M.ret (.int 1))) (PV.fz (bin (M.ret (.int 104729)) (atM 0 (M.ret (.int 2))) mulA)) addD)) (M.ret (.int 3)) powD)) (M.ret (.int 2305843009213693921)) modD)) <|
  seqS (asgS 4 (bin (PV.fz (bin (PV.fz (bin (PV.fz (bin (rdM 3) (PV.fz (bin (atM 0 (M.ret (.int 1))) (M.ret (.int 65537)) modD)) addD)) (PV.fz (bin (M.ret (.int 31)) (atM 0 (M.ret (.int 2))) mulA)) addD)) (M.ret (.int 5)) powD)) (M.ret (.int 2305843009213693907)) modD)) <|
  retS (bin (PV.fz (bin (rdM 4) (M.ret (.int 1024)) fdivD)) (rdM 1) modD)
def takeC : Fn := runFn 5 2 takeS
def potS : Stm :=
  seqS (asgS 2 (PV.toV (M.ret (.int 0)))) <|
  seqS (ifS (cmpB (rdM 1) (PV.fz (calM (consA (rdM 0) (M.ret [])) lenD)) ltD)
    (asgS 2 (bin (PV.fz (calM (consA (PV.fz (bin (rdM 0) (rdM 1) ixD)) (M.ret [])) absD)) (PV.fz (bin (PV.fz (bin (M.ret (.int 10)) (M.ret (.int 60)) powD)) (M.ret (.int 10)) powD)) modD))
    (nilS)) <|
  retS (lstM (consA (PV.fz (bin (rdM 2) (PV.fz (calM (consA (PV.fz (bin (rdM 2) (PV.fz (bin (M.ret (.int 10)) (M.ret (.int 18)) powD)) geD)) (M.ret [])) intD)) mulA)) (consA (PV.fz (bin (PV.fz (bin (PV.fz (bin (PV.fz (bin (PV.fz (bin (rdM 2) (M.ret (.int 2147483629)) modD)) (PV.fz (bin (M.ret (.int 7919)) (rdM 1) mulA)) addD)) (M.ret (.int 1)) addD)) (M.ret (.int 5)) powD)) (M.ret (.int 2305843009213693951)) modD)) (consA (M.ret (.int 0)) (M.ret [])))))
def potC : Fn := runFn 3 2 potS
end
/-- a pot: a < 10 ^ 600, b < 2 ^ 61, so many draws -/
def Pot (n : Nat) (xs : List D) : Prop := ∃ a b c : Int, xs = [.int a, .int b, .int c] ∧ 0 ≤ a ∧ a < 10 ^ 600 ∧ 0 ≤ b ∧ b < 2 ^ 61 ∧ 0 ≤ c ∧ c ≤ n
theorem log2_le {i : Int} {k : Nat} (h : i.natAbs < 2 ^ k) : i.natAbs.log2 ≤ k := by
  by_cases h0 : i.natAbs = 0
  · rw [h0]; exact Nat.zero_le _
  · exact Nat.le_of_lt ((Nat.log2_lt h0).mpr h)
theorem bits_le {i : Int} {k : Nat} (h : i.natAbs < 2 ^ k) : Builtin.Int.intBits i ≤ k + 1 := by
  have h1 := log2_le h
  unfold Builtin.Int.intBits
  split <;> omega
@[simp] theorem at0 (x : D) (xs : List D) : L2.atI (x :: xs) 0 = some x := atI_nat (xs := x :: xs) (j := 0) rfl
theorem at1 (x y : D) (xs : List D) : L2.atI (x :: y :: xs) 1 = some y := atI_nat (xs := x :: y :: xs) (j := 1) rfl
theorem at2 (x y z : D) (xs : List D) : L2.atI (x :: y :: z :: xs) 2 = some z := atI_nat (xs := x :: y :: z :: xs) (j := 2) rfl
theorem take_spec {n : Nat} {pot : List D} {m : Int} (hp : Pot n pot) (hn : n < 1000000) (h0 : 0 < m) (hm : m.natAbs.log2 < 9000) : ∃ v pot', takeC [.m pot, .d (.int m)] = some (.ok (.d (.int v)), [pot']) ∧ 0 ≤ v ∧ v < m ∧ Pot (n + 1) pot' := by
  obtain ⟨a, b, c, rfl, ha, ha2, hb, hb2, hc, hc2⟩ := hp
  have hm0 : m ≠ 0 := by omega
  unfold takeC takeS
  by_cases h : 0 < a
  · have e1 : modD (.int a) (.int m) = some (.d (.int (a.fmod m))) := o_mod hm0
    have e2 : fdivD (.int a) (.int m) = some (.d (.int (a.fdiv m))) := o_fdiv hm0 hm
    refine ⟨a.fmod m, [.int (a.fdiv m), .int b, .int c], ?_, ?_, ?_, ?_⟩
    · simp [h, e1, e2, ixN]
    · exact Int.fmod_nonneg_of_pos a h0
    · exact Int.fmod_lt_of_pos a h0
    · refine ⟨_, b, c, rfl, ?_, ?_, hb, hb2, hc, by omega⟩
      · exact Int.fdiv_nonneg ha (by omega)
      · have q : a.fdiv m ≤ a := by
          rw [Int.fdiv_eq_ediv_of_nonneg _ (by omega)]
          exact Int.ediv_le_self _ ha
        omega
  · have ec : (c + 1).natAbs < 2 ^ 21 := by omega
    have x0 : 0 ≤ b + 104729 * (c + 1) ∧ b + 104729 * (c + 1) < 2 ^ 62 := by omega
    have o1 : mulA (.int 104729) (.int (c + 1)) = some (.d (.int (104729 * (c + 1)))) := o_mul (by
      have h1 := log2_le ec
      have h2 : (104729 : Int).natAbs.log2 ≤ 17 := log2_le (by decide)
      omega)
    have o2 : powD (.int (b + 104729 * (c + 1))) (.int 3) = some (.d (.int ((b + 104729 * (c + 1)) ^ 3))) := o_pow (by decide) (by
      have h1 := bits_le (i := b + 104729 * (c + 1)) (k := 62) (by omega)
      omega)
    have o3 : modD (.int ((b + 104729 * (c + 1)) ^ 3)) (.int 2305843009213693921) = some (.d (.int (((b + 104729 * (c + 1)) ^ 3).fmod 2305843009213693921))) := o_mod (by decide)
    generalize he : ((b + 104729 * (c + 1)) ^ 3).fmod 2305843009213693921 = one at o3
    have e0 : 0 ≤ one := by rw [← he]; exact Int.fmod_nonneg_of_pos _ (by decide)
    have e1 : one < 2305843009213693921 := by rw [← he]; exact Int.fmod_lt_of_pos _ (by decide)
    have o4 : modD (.int b) (.int 65537) = some (.d (.int (b.fmod 65537))) := o_mod (by decide)
    have f0 : 0 ≤ b.fmod 65537 := Int.fmod_nonneg_of_pos _ (by decide)
    have f1 : b.fmod 65537 < 65537 := Int.fmod_lt_of_pos _ (by decide)
    generalize b.fmod 65537 = bm at o4 f0 f1
    have o5 : mulA (.int 31) (.int (c + 1)) = some (.d (.int (31 * (c + 1)))) := o_mul (by
      have h1 := log2_le ec
      have h2 : (31 : Int).natAbs.log2 ≤ 5 := log2_le (by decide)
      omega)
    have o6 : powD (.int (one + bm + 31 * (c + 1))) (.int 5) = some (.d (.int ((one + bm + 31 * (c + 1)) ^ 5))) := o_pow (by decide) (by
      have h1 := bits_le (i := one + bm + 31 * (c + 1)) (k := 62) (by omega)
      omega)
    have o7 : modD (.int ((one + bm + 31 * (c + 1)) ^ 5)) (.int 2305843009213693907) = some (.d (.int (((one + bm + 31 * (c + 1)) ^ 5).fmod 2305843009213693907))) := o_mod (by decide)
    generalize ((one + bm + 31 * (c + 1)) ^ 5).fmod 2305843009213693907 = other at o7
    have o8 : fdivD (.int other) (.int 1024) = some (.d (.int (other.fdiv 1024))) := o_fdiv (by decide) (by
      have h2 : (1024 : Int).natAbs.log2 ≤ 11 := log2_le (by decide)
      omega)
    have o9 : modD (.int (other.fdiv 1024)) (.int m) = some (.d (.int ((other.fdiv 1024).fmod m))) := o_mod hm0
    refine ⟨(other.fdiv 1024).fmod m, [.int a, .int b, .int (c + 1)], ?_, ?_, ?_, ?_⟩
    · simp [h, at1, at2, o1, o2, o3, o4, o5, o6, o7, o8, o9, ixN]
    · exact Int.fmod_nonneg_of_pos _ h0
    · exact Int.fmod_lt_of_pos _ h0
    · exact ⟨a, b, c + 1, rfl, ha, ha2, hb, hb2, by omega, by omega⟩
theorem atInt {ns : List Int} {k : Int} (h0 : 0 ≤ k) (h : k < (ns.length : Int)) : ∃ i : Int, L2.atI (ns.map PyData.int) k = some (.int i) := by
  obtain ⟨j, rfl⟩ := Int.eq_ofNat_of_zero_le h0
  have hj : j < ns.length := by omega
  exact ⟨ns[j], atI_nat (xs := ns.map PyData.int) (j := j) (by rw [List.getElem?_map, List.getElem?_eq_getElem hj]; rfl)⟩
theorem pow18 : powD (.int 10) (.int 18) = some (.d (.int (10 ^ 18))) := o_pow (by decide) (by decide)
theorem pow60 : powD (.int 10) (.int 60) = some (.d (.int (10 ^ 60))) := o_pow (by decide) (by decide)
theorem pow600 : powD (.int (10 ^ 60)) (.int 10) = some (.d (.int ((10 ^ 60) ^ 10))) := o_pow (by decide) (by
  have h1 := bits_le (i := (10 : Int) ^ 60) (k := 200) (by decide)
  omega)
theorem pot_tail {cell k : Int} (h0 : 0 ≤ cell) (h1 : cell < 10 ^ 600) (hk : 0 ≤ k) (hk2 : k < 1000) : ∃ pot, Pot 0 pot ∧ ∀ env : SEnv, env[1]? = some (some (.d (.int k))) → env[2]? = some (some (.d (.int cell))) →
    lstM (consA (PV.fz (bin (rdM 2) (PV.fz (calM (consA (PV.fz (bin (rdM 2) (PV.fz (bin (M.ret (.int 10)) (M.ret (.int 18)) powD)) geD)) (M.ret [])) intD)) mulA)) (consA (PV.fz (bin (PV.fz (bin (PV.fz (bin (PV.fz (bin (PV.fz (bin (rdM 2) (M.ret (.int 2147483629)) modD)) (PV.fz (bin (M.ret (.int 7919)) (rdM 1) mulA)) addD)) (M.ret (.int 1)) addD)) (M.ret (.int 5)) powD)) (M.ret (.int 2305843009213693951)) modD)) (consA (M.ret (.int 0)) (M.ret [])))) env = some (.ok (.own pot), env) := by
  have o1 : mulA (.int cell) (.int (if 10 ^ 18 ≤ cell then 1 else 0)) = some (.d (.int (cell * (if 10 ^ 18 ≤ cell then 1 else 0)))) := o_mul (by
    have b1 := log2_le (i := cell) (k := 2000) (by
      have : (10 : Int) ^ 600 < 2 ^ 2000 := by decide
      omega)
    have b2 : (if (10 : Int) ^ 18 ≤ cell then (1 : Int) else 0).natAbs.log2 ≤ 1 := by split <;> decide
    omega)
  have o2 : modD (.int cell) (.int 2147483629) = some (.d (.int (cell.fmod 2147483629))) := o_mod (by decide)
  have f0 : 0 ≤ cell.fmod 2147483629 := Int.fmod_nonneg_of_pos _ (by decide)
  have f1 : cell.fmod 2147483629 < 2147483629 := Int.fmod_lt_of_pos _ (by decide)
  generalize cell.fmod 2147483629 = cm at o2 f0 f1
  have o3 : mulA (.int 7919) (.int k) = some (.d (.int (7919 * k))) := o_mul (by
    have b1 := log2_le (i := k) (k := 10) (by omega)
    have b2 : (7919 : Int).natAbs.log2 ≤ 13 := log2_le (by decide)
    omega)
  have o4 : powD (.int (cm + 7919 * k + 1)) (.int 5) = some (.d (.int ((cm + 7919 * k + 1) ^ 5))) := o_pow (by decide) (by
    have b1 := bits_le (i := cm + 7919 * k + 1) (k := 32) (by omega)
    omega)
  have o5 : modD (.int ((cm + 7919 * k + 1) ^ 5)) (.int 2305843009213693951) = some (.d (.int (((cm + 7919 * k + 1) ^ 5).fmod 2305843009213693951))) := o_mod (by decide)
  have g0 : 0 ≤ ((cm + 7919 * k + 1) ^ 5).fmod 2305843009213693951 := Int.fmod_nonneg_of_pos _ (by decide)
  have g1 : ((cm + 7919 * k + 1) ^ 5).fmod 2305843009213693951 < 2305843009213693951 := Int.fmod_lt_of_pos _ (by decide)
  generalize ((cm + 7919 * k + 1) ^ 5).fmod 2305843009213693951 = bb at o5 g0 g1
  refine ⟨[.int (cell * (if 10 ^ 18 ≤ cell then 1 else 0)), .int bb, .int 0], ⟨_, _, _, rfl, ?_, ?_, g0, by omega, by omega, by omega⟩, fun env e1 e2 => ?_⟩
  · split <;> omega
  · split <;> omega
  · simp [-Int.reducePow, e1, e2, pow18, o1, o2, o3, o4, o5]
theorem pot_spec {ns : List Int} {k : Int} (hk : 0 ≤ k) (hk2 : k < 1000) : ∃ pot, potC [.d (.list (ns.map PyData.int)), .d (.int k)] = some (.ok (.own pot), []) ∧ Pot 0 pot := by
  unfold potC potS
  by_cases h : k < (ns.length : Int)
  · obtain ⟨i, hi⟩ := atInt hk h
    have m1 : modD (.int (if i < 0 then -i else i)) (.int ((10 ^ 60) ^ 10)) = some (.d (.int ((if i < 0 then -i else i).fmod ((10 ^ 60) ^ 10)))) := o_mod (by decide)
    obtain ⟨pot, hp, hr⟩ := pot_tail (cell := (if i < 0 then -i else i).fmod ((10 ^ 60) ^ 10)) (Int.fmod_nonneg_of_pos _ (by decide)) (by
      have := Int.fmod_lt_of_pos (if i < 0 then -i else i) (show (0 : Int) < (10 ^ 60) ^ 10 by decide)
      have e : ((10 : Int) ^ 60) ^ 10 = 10 ^ 600 := by decide
      rw [← e]; exact this) hk hk2
    refine ⟨pot, ?_, hp⟩
    have hr' := hr [some (.d (.list (ns.map PyData.int))), some (.d (.int k)), some (.d (.int ((if i < 0 then -i else i).fmod ((10 ^ 60) ^ 10))))] rfl rfl
    simp [-e_lstM, -Int.reducePow, h, hi, pow60, pow600, m1, hr']
  · obtain ⟨pot, hp, hr⟩ := pot_tail (cell := 0) (by decide) (by decide) hk hk2
    refine ⟨pot, ?_, hp⟩
    have hr' := hr [some (.d (.list (ns.map PyData.int))), some (.d (.int k)), some (.d (.int 0))] rfl rfl
    simp [-e_lstM, h, hr']
end PV

/-! PV26: == of a dict and a text. -/
namespace PV
open PySem PySem.Spec PyProof.Rows L2
theorem dict_eq_no_str (l : Addr) (es : Array DictEntry) (ep : Nat) (dd : Option Addr) (sl : Array (Option Value)) (b : Str) (u : Tok) :
    Meets (Builtin.«dict.__eq__» ⟨[.ref l, .str b u], []⟩) (fun _ R s => s.heap.get? l = some { cls := .type "dict", dict := dd, data := .dict es ep, slots := sl } ∧ R (.ok (.ret .notImplemented)) s) :=
  .of_wp fun prog w A R s h => by obtain ⟨hp, g, d, tk, os⟩ := s; obtain ⟨hl, h⟩ := h; have f1 := F.sub_str_dict; wp_walk using wpAny_loadPart' hl; exact ⟨_, rfl, h⟩
theorem str_eq_no_dict (b : Str) (u : Tok) (l : Addr) (c : Value) (es : Array DictEntry) (ep : Nat) (dd : Option Addr) (sl : Array (Option Value)) :
    Meets (Builtin.«str.__eq__» ⟨[.str b u, .ref l], []⟩) (fun _ R s => s.heap.get? l = some { cls := c, dict := dd, data := .dict es ep, slots := sl } ∧ R (.ok (.ret .notImplemented)) s) :=
  .of_wp fun prog w A R s h => by obtain ⟨hp, g, d, tk, os⟩ := s; obtain ⟨hl, h⟩ := h; wp_walk using wpAny_loadPart' hl, wpAny_load hl; exact ⟨_, rfl, h⟩
section
variable {X : Cx}
theorem op_eqDS (hu : X.A.units + 64 < cLine) : OpR X (compareOp .Eq) (fun x y H Q => ∃ a kvs z, x = .ref a ∧ H a = some (.dK kvs) ∧ y = .str z ∧ Q (.bl false) H) := by
  intro pins s σ H x y v u Q I rx ry h
  obtain ⟨a, kvs, z, rfl, ha, rfl, q⟩ := h
  cases rx
  obtain ⟨t, rfl⟩ := ry
  obtain ⟨_, _, vs, _, o, es, ep, e, ex, hd, _⟩ := (show ObjOk X.prog X.w H s.heap a (.dK kvs) from I.hok a _ ha)
  obtain ⟨cls, dd, data, sl⟩ := o
  have ec := ex.1
  simp only at ec hd
  subst ec hd
  show wpAny _ _ (richCompare .Eq (.ref a) (.str z t)) _ _ _
  refine SeqAt.rc_eq_decline_or (k := false) ⟨_, e, rfl⟩ (typeIs_str s z t) (by decide) F.sub_str_dict F.slot_dict_eq F.slot_str_eq_refl
    (fun _ hq => call_meets F.slot_dict_eq ⟨_, e, rfl⟩ F.entry_dict_eq (F.args_dict_eq_2 _ _) (dict_eq_no_str a es ep dd sl z t) ⟨e, hq⟩)
    (fun _ hq => call_meets F.slot_str_eq_refl (typeIs_str s z t) F.entry_str_eq (F.args_str_eq_2 _ _) (str_eq_no_dict z t a (.type "dict") es ep dd sl) ⟨e, hq⟩)
    (fun _ hq => wpAny_of_eq (rfl : isSame (.ref a) (.str z t) = pure false) hq) (.inr (by omega)) ⟨.bl false, H, I, rfl, q⟩
def eqDS : D → D → Option Vl
  | .dict _, .str _ => some (.d (.bool false))
  | _, _ => none
theorem eqDS_S {K : PySem.W.Frag} : OpS K (fun x y H Q => ∃ a kvs z, x = .ref a ∧ H a = some (.dK kvs) ∧ y = .str z ∧ Q (.bl false) H) eqDS := by
  intro O H x y dx dy vl Q ol rx ry e q
  unfold eqDS at e
  split at e
  · cases e
    simp only [Rp] at rx
    obtain ⟨a, ps, rfl, ha, _, _⟩ := rx
    exact ⟨a, ps, _, rfl, ha, ry.str_inv, q.bl⟩
  · cases e
/-- ==, a dict and a text too -/
def eqT : D → D → Option Vl := fun x y => (eqD x y).or (eqDS x y)
theorem op_eqT (hu : X.A.units + 64 < cLine) : OpR X (compareOp .Eq) (fun x y H Q => (rEq x y H Q ∨ rEqD X.K x y H Q) ∨ ∃ a kvs z, x = .ref a ∧ H a = some (.dK kvs) ∧ y = .str z ∧ Q (.bl false) H) := (op_eqA hu).or (op_eqDS hu)
theorem eqT_S {K : PySem.W.Frag} : OpS K (fun x y H Q => (rEq x y H Q ∨ rEqD K x y H Q) ∨ ∃ a kvs z, x = .ref a ∧ H a = some (.dK kvs) ∧ y = .str z ∧ Q (.bl false) H) eqT := OpS.or eq_S eqDS_S
end
end PV

/-! PV27: more of the meanings by simp; loops; what repr shows. -/
namespace PV
open PySem PySem.Spec PyProof.Rows L2
section
variable {c : M Bool} {b : Stm} {env e e' : SEnv} {r : Fl × SEnv} {i : Nat} {fa fb : M D} {fl : M (List D)} {fav fk : M (List Av)} {fv : M Vl}
theorem whileS_end (h : c env = some (.ok false, e)) : whileS c b env = some (.nx, e) := whileS_of (n := 1) (by unfold whileN; rw [h])
theorem whileS_step (h : c env = some (.ok true, e)) (h2 : b e = some (.nx, e')) (h3 : whileS c b e' = some r) : whileS c b env = some r := by
  obtain ⟨n, hn⟩ := whileS_ex h3
  exact whileS_of (n := n + 1) (by unfold whileN; rw [h]; dsimp only; rw [h2]; exact hn)
/-- a walk whose body always comes through -/
theorem forL_nx {t : Tgt} {b : Stm} (I : SEnv → Prop) : ∀ {ds : List D} {env : SEnv}, (∀ d ∈ ds, ∀ env, I env → ∃ e1 e2, t d env = some e1 ∧ b e1 = some (.nx, e2) ∧ I e2) → I env → ∃ e, forL t b ds env = some (.nx, e) ∧ I e
  | [], env, _, h0 => ⟨env, rfl, h0⟩
  | d :: ds, env, h, h0 => by
    obtain ⟨e1, e2, h1, h2, h3⟩ := h d (List.mem_cons_self ..) env h0
    obtain ⟨e, h4, h5⟩ := forL_nx I (ds := ds) (fun d' hd => h d' (List.mem_cons_of_mem _ hd)) h3
    refine ⟨e, ?_, h5⟩
    unfold forL
    rw [h1]
    dsimp only
    rw [h2]
    exact h4
@[simp] theorem e_for (t : Tgt) : forS fl t b env = thenS fl (fun ds => forL t b ds) env := rfl
@[simp] theorem e_rng1 : rng1 fl env = M.bnd fl (fun ds => M.opt (match ds with
  | [.int j] => if -(2 ^ 62) ≤ j ∧ j < 2 ^ 62 then some (rangeL 0 j.toNat) else none
  | _ => none)) env := rfl
@[simp] theorem e_rng2 : rng2 fl env = M.bnd fl (fun ds => M.opt (match ds with
  | [.int i, .int j] => if (-(2 ^ 62) ≤ i ∧ i < 2 ^ 62) ∧ -(2 ^ 62) ≤ j ∧ j < 2 ^ 62 then some (rangeL i (j - i).toNat) else none
  | _ => none)) env := rfl
@[simp] theorem e_seqI : seqI fa env = M.bnd fa (fun d => M.opt (itemsD d)) env := rfl
@[simp] theorem e_itL (xs : List D) : itemsD (.list xs) = some xs := rfl
@[simp] theorem e_itT (xs : List D) : itemsD (.tuple xs) = some xs := rfl
@[simp] theorem e_nameT (d : D) : nameT i d env = storeE i (.d d) env := rfl
@[simp] theorem e_nilT : nilT [] env = some env := rfl
@[simp] theorem e_consT (t : Tgt) (u : Tgts) (d : D) (ds : List D) : consT t u (d :: ds) env = (match t d env with
  | none => none
  | some e => u ds e) := rfl
@[simp] theorem e_tupT (n : Nat) (u : Tgts) (ds : List D) : tupT n u (.tuple ds) env = (if ds.length = n then u ds env else none) := rfl
@[simp] theorem e_tas (t : Tgt) : tasS fa t env = thenS fa (fun d env => (t d env).map fun e => (.nx, e)) env := rfl
@[simp] theorem e_raise (cid : Nat) : raiseS cid env = some (.ex ⟨cid, none⟩, env) := rfl
@[simp] theorem e_try (hds : List HdM) : tryS b hds env = (match b env with
  | some (.ex e, env1) => handS hds e env1
  | r => r) := rfl
@[simp] theorem e_hand0 (x : Exn) : handS [] x env = some (.ex x, env) := rfl
@[simp] theorem e_hand1 (h : HdM) (r : List HdM) (x : Exn) : handS (h :: r) x env = (match h.mat[x.cid]? with
  | none => none
  | some false => handS r x env
  | some true => match h.nm with
    | none => shut none (h.suite env)
    | some i => match storeE i (.x x) env with
      | none => none
      | some env1 => shut (some i) (h.suite env1)) := rfl
@[simp] theorem e_isx (l : List Bool) : isxM i l env = (match env[i]? with
  | some (some (.x ⟨cid, none⟩)) => (l[cid]?).map fun b => (.ok (.bool b), env)
  | _ => none) := rfl
@[simp] theorem e_callD (cc : Fn) (ds : List D) : callD cc fav ds env = M.bnd fav (fun as => callAt cc (as ++ ds.map .d)) env := rfl
@[simp] theorem e_callK (cc : Fn) (n m : Nat) (g : List Av → List Av → List Av) : callK cc n m g fav fk env = M.bnd fav (fun as => M.bnd fk fun ks => if as.length = n ∧ ks.length = m then callAt cc (g as ks) else fun _ => none) env := rfl
@[simp] theorem e_noPart : noPart env = some (.ok none, env) := rfl
@[simp] theorem e_part : part fa env = M.bnd fa (fun d => M.opt ((asInt d).map some)) env := rfl
@[simp] theorem e_asInt (i : Int) : asInt (.int i) = some i := rfl
@[simp] theorem e_slice (fl fh : M (Option Int)) : slice fa fl fh env = M.bnd fa (fun x => M.bnd fl fun l => M.bnd fh fun h => M.opt (slD x l h)) env := rfl
@[simp] theorem o_slL (xs : List D) (l h : Option Int) : slD (.list xs) l h = some (.own (cutL xs l h)) := rfl
@[simp] theorem o_slT (xs : List D) (l h : Option Int) : slD (.tuple xs) l h = some (.d (.tuple (cutL xs l h))) := rfl
@[simp] theorem o_revL (xs : List D) : revD (.list xs) = some (.own xs.reverse) := rfl
@[simp] theorem o_revT (xs : List D) : revD (.tuple xs) = some (.d (.tuple xs.reverse)) := rfl
@[simp] theorem o_list1 (xs : List D) : listD [.list xs] = some (.own xs) := rfl
@[simp] theorem o_list2 (xs : List D) : listD [.tuple xs] = some (.own xs) := rfl
@[simp] theorem o_tup1 (xs : List D) : tupleD [.list xs] = some (.d (.tuple xs)) := rfl
@[simp] theorem o_tup2 (xs : List D) : tupleD [.tuple xs] = some (.d (.tuple xs)) := rfl
theorem o_addT {xs ys : List D} (h : xs.length + ys.length ≤ 1000) : addD (.tuple xs) (.tuple ys) = some (.d (.tuple (xs ++ ys))) := by
  unfold addD catD intG
  dsimp only
  rw [if_pos (Nat.le_trans h (by decide))]
  rfl
theorem o_addL {xs ys : List D} (h : xs.length + ys.length ≤ 1000) : addD (.list xs) (.list ys) = some (.own (xs ++ ys)) := by
  unfold addD catD catL intG
  dsimp only
  rw [if_pos (Nat.le_trans h (by decide))]
  rfl
theorem o_repL {xs : List D} {k : Int} (h0 : 0 ≤ k) (h1 : k ≤ 1000) (h : xs.length ≤ 1000) : mulA (.list xs) (.int k) = some (.own (List.replicate k.toNat xs).flatten) := by
  unfold mulA mulD intG repD
  dsimp only
  have hs : xs.length * k.toNat ≤ sizeLine := by
    have a1 : xs.length * k.toNat ≤ 1000 * 1000 := Nat.mul_le_mul h (by omega)
    rw [sizeLine_eq]; omega
  rw [if_pos ⟨by omega, by omega, hs⟩]
  rfl
/-! ### == -/
@[simp] theorem q_int (i j : Int) : eqB (.int i) (.int j) = some (decide (i = j)) := by
  unfold eqB
  have h1 : ∀ k : Int, SeqAt.shaped (.int k) = true := fun k => rfl
  have h2 : PyData.eqv (.int i) (.int j) = decide (i = j) := by
    unfold PyData.eqv
    rw [Bool.eq_iff_iff]
    simp
  dsimp only
  rw [if_pos ⟨h1 i, h1 j⟩, h2]
@[simp] theorem o_eqI (i j : Int) : eqD (.int i) (.int j) = some (.d (.bool (decide (i = j)))) := by unfold eqD; rw [q_int]; rfl
@[simp] theorem o_neI (i j : Int) : neD (.int i) (.int j) = some (.d (.bool (!decide (i = j)))) := by unfold neD; rw [q_int]; rfl
@[simp] theorem o_eqS (x y : Str) : eqD (.str x) (.str y) = some (.d (.bool (decide (x = y)))) := rfl
@[simp] theorem o_neS (x y : Str) : neD (.str x) (.str y) = some (.d (.bool (!decide (x = y)))) := rfl
theorem Pot.mono {n m : Nat} {p : List D} (h : Pot n p) (hm : n ≤ m) : Pot m p := by
  obtain ⟨a, b, c, e, h1, h2, h3, h4, h5, h6⟩ := h
  exact ⟨a, b, c, e, h1, h2, h3, h4, h5, by omega⟩
/-! ### picks -/
theorem pick {α : Type} {xs : List α} {i : Int} (h0 : 0 ≤ i) (h1 : i < xs.length) : ∃ v, L2.atI xs i = some v ∧ v ∈ xs := by
  obtain ⟨j, rfl⟩ := Int.eq_ofNat_of_zero_le h0
  have hj : j < xs.length := by omega
  exact ⟨xs[j], atI_nat (xs := xs) (j := j) (List.getElem?_eq_getElem hj), List.getElem_mem hj⟩
/-! ### repr -/
mutual
def Sm : D → Prop
  | .none => True
  | .bool _ => True
  | .int i => i.natAbs < 10 ^ 500
  | .str x => ∀ c ∈ x.cps.toList, c < 16 ^ 8
  | .list ds => SmAll ds
  | .tuple ds => SmAll ds
  | .dict kvs => kvs = []
def SmAll : List D → Prop
  | [] => True
  | d :: ds => Sm d ∧ SmAll ds
end
mutual
theorem sm_show : ∀ d : D, Sm d → d.showable = true ∧ d.leavesShort 501 = true
  | .none, _ => ⟨rfl, rfl⟩
  | .bool _, _ => ⟨rfl, rfl⟩
  | .int i, h => by
    have h' : i.natAbs < 10 ^ 500 := by simpa only [Sm] using h
    refine ⟨?_, ?_⟩
    · unfold PyData.showable
      refine decide_eq_true (Nat.lt_of_le_of_lt (log2_le (k := 1700) (Nat.lt_trans h' (by decide))) (by decide))
    · unfold PyData.leavesShort
      refine decide_eq_true ?_
      show (Str.ofString (toString i)).length ≤ 501
      rw [PySem.ofString_length]
      exact int_text_length_le10 (k := 500) (by decide) h'
  | .str x, h => by
    refine ⟨rfl, ?_⟩
    simp only [PyData.leavesShort, List.all_eq_true, decide_eq_true_eq]
    simpa only [Sm] using h
  | .list ds, h => by
    obtain ⟨h1, h2⟩ := smAll_show ds (by simpa only [Sm] using h)
    exact ⟨by simpa only [PyData.showable] using h1, by simpa only [PyData.leavesShort] using h2⟩
  | .tuple ds, h => by
    obtain ⟨h1, h2⟩ := smAll_show ds (by simpa only [Sm] using h)
    exact ⟨by simpa only [PyData.showable] using h1, by simpa only [PyData.leavesShort] using h2⟩
  | .dict kvs, h => by
    have e : kvs = [] := by simpa only [Sm] using h
    subst e
    exact ⟨rfl, rfl⟩
theorem smAll_show : ∀ ds : List D, SmAll ds → PyData.showableAll ds = true ∧ PyData.leavesShortAll 501 ds = true
  | [], _ => ⟨rfl, rfl⟩
  | d :: ds, h => by
    have h' : Sm d ∧ SmAll ds := by simpa only [SmAll] using h
    obtain ⟨h1, h2⟩ := sm_show d h'.1
    obtain ⟨h3, h4⟩ := smAll_show ds h'.2
    exact ⟨by simp only [PyData.showableAll, h1, h3, Bool.and_self], by simp only [PyData.leavesShortAll, h2, h4, Bool.and_self]⟩
end
theorem sm_text (s : String) : Sm (.str (Str.ofString s)) := by
  simp only [Sm]
  rw [Str.ofString_eq_toList]
  intro c hc
  simp only [List.toList_toArray, List.mem_map] at hc
  obtain ⟨ch, _, rfl⟩ := hc
  have h1 : ch.toNat < 0x110000 := by
    have := ch.valid
    unfold UInt32.isValidChar Nat.isValidChar at this
    show ch.val.toNat < _
    omega
  omega
mutual
theorem sm_em : ∀ d : D, Sm d → emD d = true
  | .none, _ => rfl
  | .bool _, _ => rfl
  | .int _, _ => rfl
  | .str _, _ => rfl
  | .list ds, h => by
    simp only [emD]
    exact smAll_em ds (by simpa only [Sm] using h)
  | .tuple ds, h => by
    simp only [emD]
    exact smAll_em ds (by simpa only [Sm] using h)
  | .dict kvs, h => by
    have e : kvs = [] := by simpa only [Sm] using h
    subst e
    rfl
theorem smAll_em : ∀ ds : List D, SmAll ds → emDAll ds = true
  | [], _ => rfl
  | d :: ds, h => by
    have h' : Sm d ∧ SmAll ds := by simpa only [SmAll] using h
    simp only [emDAll, sm_em d h'.1, smAll_em ds h'.2, Bool.and_self]
end
def Okr (d : D) : Prop := Sm d ∧ d.depth ≤ 64 ∧ d.weight ≤ 30000
theorem okr_repr {d : D} (h : Okr d) : reprOk d = true := by
  obtain ⟨h2, h3, h4⟩ := h
  obtain ⟨h5, h6⟩ := sm_show d h2
  have h7 := PyData.shown_le 501 (by decide) d h6
  have h8 : d.shown.length ≤ sizeLine := by
    rw [sizeLine_eq]
    have : (501 + 2) * d.weight ≤ 503 * 30000 := Nat.mul_le_mul (Nat.le_refl _) h4
    omega
  unfold reprOk
  rw [h5, sm_em d h2, decide_eq_true h3, decide_eq_true h8]
  rfl
theorem o_repr {d : D} (h : Okr d) : reprD [d] = some (.d (.str d.shown)) := by
  unfold reprD
  dsimp only
  rw [if_pos (okr_repr h)]
end
end PV

/-! PV28: slots of any content; counted walks; comprehensions. -/
namespace PV
open PySem PySem.Spec PyProof.Rows L2
/-- no list of the caller's -/
def NM (s : Option Sl) : Prop := ∀ xs : List D, s ≠ some (.mu xs)
@[simp] theorem nm_none : NM none := fun _ z => nomatch z
@[simp] theorem nm_d (x : D) : NM (some (.d x)) := fun _ z => nomatch z
@[simp] theorem nm_own (x : List D) : NM (some (.own x)) := fun _ z => nomatch z
@[simp] theorem nm_x (x : Exn) : NM (some (.x x)) := fun _ z => nomatch z
theorem s_zero {s : Option Sl} {t : Sl} {env : SEnv} (h : NM s) : storeE 0 t (s :: env) = some (some t :: env) := by
  unfold storeE
  simp only [List.getElem?_cons_zero]
  split
  · rename_i e; cases e
  · rename_i xs e; cases e; exact absurd rfl (h _)
  · rfl
theorem s_succ {s : Option Sl} {t : Sl} {env : SEnv} {i : Nat} : storeE (i + 1) t (s :: env) = (storeE i t env).map (s :: ·) := by
  unfold storeE
  simp only [List.getElem?_cons_succ, List.set_cons_succ]
  cases env[i]? with
  | none => rfl
  | some o => cases o with
    | none => rfl
    | some t' => cases t' <;> rfl
/-- a walk, counted -/
theorem forL_cnt {t : Tgt} {b : Stm} (I : Nat → SEnv → Prop) (m : Nat) : ∀ {ds : List D} {n : Nat} {env : SEnv}, (∀ n, n < m → ∀ d ∈ ds, ∀ env, I n env → ∃ e1 e2, t d env = some e1 ∧ b e1 = some (.nx, e2) ∧ I (n + 1) e2) → n + ds.length ≤ m → I n env → ∃ e, forL t b ds env = some (.nx, e) ∧ I (n + ds.length) e
  | [], n, env, _, _, h0 => ⟨env, rfl, h0⟩
  | d :: ds, n, env, h, hm, h0 => by
    rw [List.length_cons] at hm
    obtain ⟨e1, e2, h1, h2, h3⟩ := h n (by omega) d (List.mem_cons_self ..) env h0
    obtain ⟨e, h4, h5⟩ := forL_cnt I m (ds := ds) (fun k hk d' hd => h k hk d' (List.mem_cons_of_mem _ hd)) (by omega) h3
    refine ⟨e, ?_, by rw [List.length_cons, Nat.add_comm ds.length, ← Nat.add_assoc]; exact h5⟩
    unfold forL
    rw [h1]
    dsimp only
    rw [h2]
    exact h4
theorem un_blk {i : Nat} {env : SEnv} {s : Option Sl} : unE [i] env ((blkE [i] env).set i s) = env := by
  refine List.ext_getElem? fun j => ?_
  unfold unE
  rw [List.getElem?_map]
  by_cases hj : j < env.length
  · rw [List.getElem?_range hj, List.getElem?_eq_getElem hj]
    show some (if j ∈ [i] then env.getD j none else fromBlk (env.getD j none) (((blkE [i] env).set i s).getD j none)) = _
    have g : env.getD j none = env[j] := by simp [List.getD_eq_getElem?_getD, List.getElem?_eq_getElem hj]
    by_cases h : j ∈ [i]
    · rw [if_pos h, g]
    · rw [if_neg h, g]
      have hne : j ≠ i := by simpa using h
      have g2 : ((blkE [i] env).set i s).getD j none = toBlk env[j] := by
        rw [List.getD_eq_getElem?_getD, List.getElem?_set_ne (Ne.symm hne)]
        unfold blkE
        rw [List.getElem?_map, List.getElem?_range hj]
        show (some (if j ∈ [i] then none else toBlk (env.getD j none))).getD none = _
        rw [if_neg h, g]
        rfl
      rw [g2]
      cases env[j] with
      | none => rfl
      | some t => cases t <;> rfl
  · rw [List.getElem?_eq_none (by simpa using hj), List.getElem?_eq_none (by simpa using hj)]
    rfl
/-- [f(x) for x in ds], f changes nothing -/
theorem comp_pure {i : Nat} {f : M D} {g : D → D} {env : SEnv} (hi : i < env.length) : ∀ {ds acc : List D}, (∀ d ∈ ds, f ((blkE [i] env).set i (some (.d d))) = some (.ok (g d), (blkE [i] env).set i (some (.d d)))) → acc.length + ds.length ≤ 1000 →
    compL (nameT i) [i] (M.ret true) f ds acc env = some (acc ++ ds.map g, env)
  | [], acc, _, _ => by simp [compL]
  | d :: ds, acc, h, hl => by
    have hb : (blkE [i] env)[i]? = some none := by
      unfold blkE
      rw [List.getElem?_map, List.getElem?_range hi]
      simp
    have h1 : nameT i d (blkE [i] env) = some ((blkE [i] env).set i (some (.d d))) := by
      unfold nameT storeE
      rw [hb]
    unfold compL
    rw [h1]
    simp only [e_ret, if_true]
    rw [h d (List.mem_cons_self ..)]
    dsimp only
    rw [List.length_cons] at hl
    rw [if_pos (Nat.lt_of_lt_of_le (show acc.length < 1000 by omega) (by decide)), un_blk, comp_pure hi (fun d' hd => h d' (List.mem_cons_of_mem _ hd)) (by rw [List.length_append, List.length_singleton]; omega)]
    simp
theorem noMu_one {i : Nat} {env : SEnv} (h : NM (env.getD i none)) : noMu [i] env = true := by
  unfold noMu
  simp only [List.all_cons, List.all_nil, Bool.and_true]
  split
  · rename_i xs e; exact absurd e (h xs)
  · rfl
theorem comp_call1 {c : Fn} {i : Nat} {env : SEnv} (hi : i < env.length) {d v : D} (h : c [.d d] = some (.ok (.d v), [])) : PV.fz (callF c (consD (rdM i) (M.ret []))) ((blkE [i] env).set i (some (.d d))) = some (.ok v, (blkE [i] env).set i (some (.d d))) := by
  have hg : ((blkE [i] env).set i (some (.d d)))[i]? = some (some (.d d)) := List.getElem?_set_self (by rw [blkE_len]; exact hi)
  simp [hg, h]
theorem mem_range {lo : Int} {n : Nat} {d : D} (h : d ∈ rangeL lo n) : ∃ i : Nat, i < n ∧ d = .int (lo + i) := by
  unfold rangeL at h
  obtain ⟨i, hi, rfl⟩ := List.mem_map.mp h
  exact ⟨i, List.mem_range.mp hi, rfl⟩
theorem e_compM (items : M (List D)) (t : Tgt) (vs : List Nat) (c : M Bool) (f : M D) (env : SEnv) : compM items t vs c f env = (match items env with
  | none => none
  | some (.ex x, e) => some (.ex x, e)
  | some (.ok ds, e) => if noMu vs e = true then
      match compL t vs c f ds [] e with
      | none => none
      | some (xs, e') => some (.ok (.own xs), e')
    else none) := rfl
end PV

/-! PVF: fractions: what the program's and the law's small defs compute. -/
noncomputable section
namespace PvFr
open PySem PySem.Spec PyProof.Rows L2 PV
abbrev c__law_take : Fn := takeC
theorem take_c : c__law_take = takeC := rfl
def sem_is_whole : Stm :=
  retS (toV (andV (isiM .int (rdM 0)) (notV (isiM .bool (rdM 0)))))
def c_is_whole : Fn := runFn 1 1 sem_is_whole
def b_shared_part_1 : Stm :=
  parS 0 1 (consA (rdM 1) (consA (fz (bin (rdM 0) (rdM 1) modD)) (M.ret [])))
def sem_shared_part : Stm :=
  seqS (whileS (cmpB (rdM 1) (M.ret (.int 0)) gtD)
    (b_shared_part_1)) <|
  retS (mvM 0)
def c_shared_part : Fn := runFn 2 2 sem_shared_part
def sem_is_fraction : Stm :=
  seqS (ifS (orB (notB (tru (isiM .tuple (rdM 0)))) (cmpB (fz (calM (consA (rdM 0) (M.ret [])) lenD)) (M.ret (.int 2)) neD))
    (retS (toV (M.ret (.bool false))))
    (nilS)) <|
  seqS (tasS (rdM 0) (tupT 2 (consT (nameT 1) (consT (nameT 2) (nilT))))) <|
  retS (toV (andV (fz (callF c_is_whole (consD (rdM 1) (M.ret [])))) (andV (fz (callF c_is_whole (consD (rdM 2) (M.ret [])))) (andV (fz (bin (rdM 2) (M.ret (.int 1)) geD)) (fz (bin (fz (callF c_shared_part (consD (fz (calM (consA (rdM 1) (M.ret [])) absD)) (consD (rdM 2) (M.ret []))))) (M.ret (.int 1)) eqD))))))
def c_is_fraction : Fn := runFn 3 1 sem_is_fraction
def sem_lowest : Stm :=
  seqS (asgS 2 (callF c_shared_part (consD (fz (calM (consA (rdM 0) (M.ret [])) absD)) (consD (fz (calM (consA (rdM 1) (M.ret [])) absD)) (M.ret []))))) <|
  seqS (ifS (cmpB (rdM 1) (M.ret (.int 0)) ltD)
    (asgS 2 (un (rdM 2) negD))
    (nilS)) <|
  retS (toV (tupM (consA (fz (bin (rdM 0) (rdM 2) fdivD)) (consA (fz (bin (rdM 1) (rdM 2) fdivD)) (M.ret [])))))
def c_lowest : Fn := runFn 3 2 sem_lowest
def sem__law_great : Stm :=
  seqS (ifS (cmpB (rdM 1) (fz (bin (M.ret (.int 10)) (M.ret (.int 12)) powD)) ltD)
    (retS (callF c__law_take (consMu 0 (consD (rdM 1) (M.ret [])))))
    (nilS)) <|
  seqS (asgS 2 (bin (fz (bin (fz (callF c__law_take (consMu 0 (consD (fz (bin (M.ret (.int 10)) (M.ret (.int 12)) powD)) (M.ret []))))) (fz (bin (M.ret (.int 10)) (M.ret (.int 24)) powD)) mulA)) (fz (bin (fz (callF c__law_take (consMu 0 (consD (fz (bin (M.ret (.int 10)) (M.ret (.int 12)) powD)) (M.ret []))))) (fz (bin (M.ret (.int 10)) (M.ret (.int 12)) powD)) mulA)) addD)) <|
  retS (bin (fz (bin (rdM 2) (fz (callF c__law_take (consMu 0 (consD (fz (bin (M.ret (.int 10)) (M.ret (.int 12)) powD)) (M.ret []))))) addD)) (rdM 1) modD)
def c__law_great : Fn := runFn 3 2 sem__law_great
def b__law_lowest_1 : Stm :=
  parS 2 3 (consA (rdM 3) (consA (fz (bin (rdM 2) (rdM 3) modD)) (M.ret [])))
def sem__law_lowest : Stm :=
  seqS (parS 2 3 (consA (fz (calM (consA (rdM 0) (M.ret [])) absD)) (consA (rdM 1) (M.ret [])))) <|
  seqS (whileS (cmpB (rdM 3) (M.ret (.int 0)) neD)
    (b__law_lowest_1)) <|
  retS (toV (tupM (consA (fz (bin (rdM 0) (rdM 2) fdivD)) (consA (fz (bin (rdM 1) (rdM 2) fdivD)) (M.ret [])))))
def c__law_lowest : Fn := runFn 4 2 sem__law_lowest
def sem__law_fraction : Stm :=
  seqS (asgS 1 (callF c__law_take (consMu 0 (consD (M.ret (.int 6)) (M.ret []))))) <|
  seqS (asgS 2 (bin (fz (lstM (consA (M.ret (.int 6)) (consA (M.ret (.int 6)) (consA (M.ret (.int 30)) (consA (M.ret (.int 1000)) (consA (fz (bin (M.ret (.int 10)) (M.ret (.int 30)) powD)) (consA (fz (bin (M.ret (.int 10)) (M.ret (.int 30)) powD)) (M.ret []))))))))) (rdM 1) ixD)) <|
  retS (callF c__law_lowest (consD (fz (bin (fz (callF c__law_great (consMu 0 (consD (fz (bin (fz (bin (M.ret (.int 2)) (rdM 2) mulA)) (M.ret (.int 1)) addD)) (M.ret []))))) (rdM 2) subD)) (consD (fz (bin (M.ret (.int 1)) (fz (callF c__law_great (consMu 0 (consD (fz (bin (fz (lstM (consA (M.ret (.int 6)) (consA (M.ret (.int 2)) (consA (M.ret (.int 30)) (consA (M.ret (.int 1000)) (consA (fz (bin (M.ret (.int 10)) (M.ret (.int 30)) powD)) (consA (M.ret (.int 9)) (M.ret []))))))))) (rdM 1) ixD)) (M.ret []))))) addD)) (M.ret []))))
def c__law_fraction : Fn := runFn 3 1 sem__law_fraction
def sem__law_whole : Stm :=
  retS (toV (andV (isiM .int (rdM 0)) (notV (isiM .bool (rdM 0)))))
def c__law_whole : Fn := runFn 1 1 sem__law_whole
def sem__law_is_fraction : Stm :=
  seqS (ifS (orB (notB (tru (isiM .tuple (rdM 0)))) (orB (cmpB (fz (calM (consA (rdM 0) (M.ret [])) lenD)) (M.ret (.int 2)) neD) (orB (notB (tru (fz (callF c__law_whole (consD (fz (bin (rdM 0) (M.ret (.int 0)) ixD)) (M.ret [])))))) (notB (tru (fz (callF c__law_whole (consD (fz (bin (rdM 0) (M.ret (.int 1)) ixD)) (M.ret [])))))))))
    (retS (toV (M.ret (.bool false))))
    (nilS)) <|
  retS (toV (andV (fz (bin (fz (bin (rdM 0) (M.ret (.int 1)) ixD)) (M.ret (.int 0)) gtD)) (fz (bin (fz (callF c__law_lowest (consD (fz (bin (rdM 0) (M.ret (.int 0)) ixD)) (consD (fz (bin (rdM 0) (M.ret (.int 1)) ixD)) (M.ret []))))) (rdM 0) eqD))))
def c__law_is_fraction : Fn := runFn 1 1 sem__law_is_fraction
def sem__law_bent (cf : Fn) : Stm :=
  seqS (asgS 3 (callF c__law_take (consMu 0 (consD (M.ret (.int 12)) (M.ret []))))) <|
  seqS (ifS (andB (tru (isiM .tuple (rdM 1))) (andB (cmpB (rdM 1) (tupM (M.ret [])) neD) (andB (cmpB (rdM 2) (M.ret (.int 0)) gtD) (cmpB (rdM 3) (M.ret (.int 3)) gtD))))
    (seqS (asgS 4 (callF c__law_take (consMu 0 (consD (fz (calM (consA (rdM 1) (M.ret [])) lenD)) (M.ret []))))) <|
    retS (bin (fz (bin (fz (slice (rdM 1) (noPart) (part (rdM 4)))) (tupM (consA (fz (callF cf (consMu 0 (consD (fz (bin (rdM 1) (rdM 4) ixD)) (consD (fz (bin (rdM 2) (M.ret (.int 1)) subD)) (M.ret [])))))) (M.ret []))) addD)) (fz (slice (rdM 1) (part (fz (bin (rdM 4) (M.ret (.int 1)) addD))) (noPart))) addD))
    (nilS)) <|
  seqS (ifS (tru (isiM .tuple (rdM 1)))
    (retS (bin (fz (lstM (consA (fz (calM (consA (rdM 1) (M.ret [])) listD)) (consA (fz (slice (rdM 1) (part (M.ret (.int 1))) (noPart))) (consA (fz (bin (rdM 1) (fz (slice (rdM 1) (noPart) (part (M.ret (.int 1))))) addD)) (consA (fz (un (rdM 1) revD)) (consA (tupM (consA (rdM 1) (M.ret []))) (consA (tupM (M.ret [])) (consA (M.ret .none) (consA (fz (slice (rdM 1) (noPart) (part (fz (un (M.ret (.int 1)) negD))))) (M.ret []))))))))))) (fz (bin (rdM 3) (M.ret (.int 8)) modD)) ixD))
    (nilS)) <|
  seqS (ifS (tru (isiM .bool (rdM 1)))
    (retS (bin (fz (lstM (consA (notV (rdM 1)) (consA (fz (calM (consA (rdM 1) (M.ret [])) intD)) (consA (M.ret .none) (consA (fz (calM (consA (rdM 1) (M.ret [])) strD)) (consA (tupM (consA (rdM 1) (M.ret []))) (M.ret [])))))))) (fz (bin (rdM 3) (M.ret (.int 5)) modD)) ixD))
    (nilS)) <|
  seqS (ifS (tru (isiM .int (rdM 1)))
    (retS (bin (fz (lstM (consA (fz (bin (rdM 1) (M.ret (.int 1)) addD)) (consA (fz (bin (M.ret (.int 0)) (rdM 1) subD)) (consA (fz (bin (rdM 1) (M.ret (.int 1)) subD)) (consA (fz (bin (M.ret (.int 2)) (rdM 1) mulA)) (consA (M.ret (.bool true)) (consA (M.ret .none) (consA (fz (calM (consA (rdM 1) (M.ret [])) strD)) (consA (tupM (consA (rdM 1) (M.ret []))) (consA (M.ret (.int 0)) (consA (fz (bin (M.ret (.int 10)) (M.ret (.int 59)) powD)) (consA (M.ret (.int 1)) (consA (M.ret (.dict [])) (M.ret []))))))))))))))) (rdM 3) ixD))
    (nilS)) <|
  retS (bin (fz (lstM (consA (M.ret .none) (consA (M.ret (.bool true)) (consA (M.ret (.int 0)) (consA (M.ret (.str "")) (consA (tupM (M.ret [])) (consA (fz (lstM (M.ret []))) (consA (M.ret (.dict [])) (consA (M.ret (.str "a")) (consA (tupM (consA (M.ret (.int 0)) (consA (M.ret (.int 1)) (M.ret [])))) (consA (fz (bin (M.ret (.int 10)) (M.ret (.int 59)) powD)) (consA (fz (un (M.ret (.int 1)) negD)) (consA (tupM (consA (M.ret (.int 1)) (M.ret []))) (M.ret []))))))))))))))) (rdM 3) ixD)
def c__law_bent : Nat → Fn
  | 0 => fun _ => none
  | n + 1 => runFn 5 3 (sem__law_bent (c__law_bent n))
theorem pow12 : powD (.int 10) (.int 12) = some (.d (.int (10 ^ 12))) := o_pow (by decide) (by decide)
theorem pow24 : powD (.int 10) (.int 24) = some (.d (.int (10 ^ 24))) := o_pow (by decide) (by decide)
theorem pow30 : powD (.int 10) (.int 30) = some (.d (.int (10 ^ 30))) := o_pow (by decide) (by decide)
theorem pow59 : powD (.int 10) (.int 59) = some (.d (.int (10 ^ 59))) := o_pow (by decide) (by decide)
theorem whole_eq (x : PyData) : c_is_whole [.d x] = some (.ok (.d (.bool (match x with | .int _ => true | _ => false))), []) := by
  unfold c_is_whole sem_is_whole
  cases x <;> simp [isTy]
theorem lwhole_eq (x : PyData) : c__law_whole [.d x] = some (.ok (.d (.bool (match x with | .int _ => true | _ => false))), []) := by
  unfold c__law_whole sem__law_whole
  cases x <;> simp [isTy]
theorem great_spec {n : Nat} {pot : List PyData} {m : Int} (hp : Pot n pot) (hn : n + 3 < 1000000) (h0 : 0 < m) (hm : m.natAbs.log2 < 9000) : ∃ v pot', c__law_great [.m pot, .d (.int m)] = some (.ok (.d (.int v)), [pot']) ∧ 0 ≤ v ∧ v < m ∧ Pot (n + 3) pot' := by
  unfold c__law_great sem__law_great
  rw [take_c]
  by_cases h : m < 10 ^ 12
  · obtain ⟨v, p1, e1, h1, h2, h3⟩ := take_spec hp (by omega) h0 hm
    refine ⟨v, p1, ?_, h1, h2, h3.mono (by omega)⟩
    simp [-Int.reducePow, pow12, h, e1]
  · have l12 : ((10 : Int) ^ 12).natAbs.log2 < 9000 := by decide
    obtain ⟨v1, p1, e1, a1, b1, q1⟩ := take_spec hp (by omega) (m := 10 ^ 12) (by decide) l12
    obtain ⟨v2, p2, e2, a2, b2, q2⟩ := take_spec q1 (by omega) (m := 10 ^ 12) (by decide) l12
    obtain ⟨v3, p3, e3, a3, b3, q3⟩ := take_spec q2 (by omega) (m := 10 ^ 12) (by decide) l12
    have m1 : mulA (.int v1) (.int (10 ^ 24)) = some (.d (.int (v1 * 10 ^ 24))) := o_mul (by
      have := log2_le (i := v1) (k := 40) (by omega)
      have := log2_le (i := (10 : Int) ^ 24) (k := 80) (by decide)
      omega)
    have m2 : mulA (.int v2) (.int (10 ^ 12)) = some (.d (.int (v2 * 10 ^ 12))) := o_mul (by
      have := log2_le (i := v2) (k := 40) (by omega)
      have := log2_le (i := (10 : Int) ^ 12) (k := 40) (by decide)
      omega)
    have m3 : modD (.int (v1 * 10 ^ 24 + v2 * 10 ^ 12 + v3)) (.int m) = some (.d (.int ((v1 * 10 ^ 24 + v2 * 10 ^ 12 + v3).fmod m))) := o_mod (by omega)
    refine ⟨(v1 * 10 ^ 24 + v2 * 10 ^ 12 + v3).fmod m, p3, ?_, Int.fmod_nonneg_of_pos _ h0, Int.fmod_lt_of_pos _ h0, q3⟩
    simp [-Int.reducePow, pow12, pow24, h, e1, e2, e3, m1, m2, m3]
/-! ### the greatest common part -/
theorem fmod_nat (a b : Nat) : Int.fmod (a : Int) (b : Int) = ((a % b : Nat) : Int) := by
  rw [Int.fmod_eq_emod_of_nonneg _ (by omega)]
  norm_cast
theorem shared_loop : ∀ (b a : Nat), whileS (cmpB (rdM 1) (M.ret (.int 0)) gtD) b_shared_part_1 [some (.d (.int a)), some (.d (.int b))] = some (.nx, [some (.d (.int (Nat.gcd a b))), some (.d (.int 0))]) := by
  intro b
  induction b using Nat.strongRecOn with
  | ind b ih =>
    intro a
    by_cases hb : b = 0
    · subst hb
      rw [Nat.gcd_zero_right]
      exact whileS_end (by simp)
    · have hm : modD (.int a) (.int b) = some (.d (.int ((a % b : Nat) : Int))) := by rw [o_mod (by omega), fmod_nat]
      have hlt : a % b < b := Nat.mod_lt _ (by omega)
      refine whileS_step (e := [some (.d (.int a)), some (.d (.int b))]) (e' := [some (.d (.int b)), some (.d (.int ((a % b : Nat) : Int)))]) ?_ ?_ ?_
      · have : 0 < b := by omega
        simp [this]
      · simp [b_shared_part_1, hm]
      · rw [ih (a % b) hlt b]
        have e : Nat.gcd b (a % b) = Nat.gcd a b := by rw [Nat.gcd_comm a b, Nat.gcd_rec b a, Nat.gcd_comm]
        rw [e]
theorem shared_spec (a b : Nat) : c_shared_part [.d (.int a), .d (.int b)] = some (.ok (.d (.int (Nat.gcd a b))), []) := by
  unfold c_shared_part sem_shared_part
  have h := shared_loop b a
  simp [-e_par, -e_cmpB, h]
theorem abs_nat (i : Int) : (if i < 0 then -i else i) = ((i.natAbs : Nat) : Int) := by split <;> omega
theorem llow_loop (x y : Option Sl) : ∀ (b a : Nat), whileS (cmpB (rdM 3) (M.ret (.int 0)) neD) b__law_lowest_1 [x, y, some (.d (.int a)), some (.d (.int b))] = some (.nx, [x, y, some (.d (.int (Nat.gcd a b))), some (.d (.int 0))]) := by
  intro b
  induction b using Nat.strongRecOn with
  | ind b ih =>
    intro a
    by_cases hb : b = 0
    · subst hb
      rw [Nat.gcd_zero_right]
      exact whileS_end (by simp)
    · have hm : modD (.int a) (.int b) = some (.d (.int ((a % b : Nat) : Int))) := by rw [o_mod (by omega), fmod_nat]
      have hlt : a % b < b := Nat.mod_lt _ (by omega)
      refine whileS_step (e := [x, y, some (.d (.int a)), some (.d (.int b))]) (e' := [x, y, some (.d (.int b)), some (.d (.int ((a % b : Nat) : Int)))]) ?_ ?_ ?_
      · simp [hb]
      · simp [b__law_lowest_1, hm]
      · rw [ih (a % b) hlt b]
        have e : Nat.gcd b (a % b) = Nat.gcd a b := by rw [Nat.gcd_comm a b, Nat.gcd_rec b a, Nat.gcd_comm]
        rw [e]
/-- a size that // bears -/
abbrev Sz (i : Int) : Prop := i.natAbs < 2 ^ 8000
theorem gcd_sz {a b : Nat} (hb : b ≠ 0) (h : b < 2 ^ 8000) : Nat.gcd a b ≠ 0 ∧ (Nat.gcd a b).log2 < 9000 := by
  have h1 : Nat.gcd a b ≤ b := Nat.gcd_le_right _ (by omega)
  have h0 : Nat.gcd a b ≠ 0 := by
    intro z
    exact hb (Nat.eq_zero_of_gcd_eq_zero_right z)
  refine ⟨h0, ?_⟩
  have : (Nat.gcd a b).log2 < 8000 := (Nat.log2_lt h0).mpr (by omega)
  omega
/-- over / under in lowest terms, under above 0 -/
def lowP (a b : Int) : PyData := .tuple [.int (a.fdiv (Nat.gcd a.natAbs b.natAbs)), .int (b.fdiv (Nat.gcd a.natAbs b.natAbs))]
theorem llow_spec {a b : Int} (hb : 0 < b) (hs : Sz b) : c__law_lowest [.d (.int a), .d (.int b)] = some (.ok (.d (lowP a b)), []) := by
  unfold c__law_lowest sem__law_lowest
  obtain ⟨g0, g1⟩ := gcd_sz (a := a.natAbs) (b := b.natAbs) (by omega) hs
  have eb : b = ((b.natAbs : Nat) : Int) := by omega
  have h := llow_loop (some (.d (.int a))) (some (.d (.int b))) b.natAbs a.natAbs
  rw [← eb] at h
  have d1 : fdivD (.int a) (.int (Nat.gcd a.natAbs b.natAbs : Nat)) = some (.d (.int (a.fdiv (Nat.gcd a.natAbs b.natAbs : Nat)))) := o_fdiv (by omega) (by simpa using g1)
  have d2 : fdivD (.int b) (.int (Nat.gcd a.natAbs b.natAbs : Nat)) = some (.d (.int (b.fdiv (Nat.gcd a.natAbs b.natAbs : Nat)))) := o_fdiv (by omega) (by simpa using g1)
  simp only [e_run, e_seq, e_init]
  have e1 : parS 2 3 (consA (PV.fz (calM (consA (rdM 0) (M.ret [])) absD)) (consA (rdM 1) (M.ret []))) [some (.d (.int a)), some (.d (.int b)), none, none] = some (.nx, [some (.d (.int a)), some (.d (.int b)), some (.d (.int a.natAbs)), some (.d (.int b))]) := by
    simp [abs_nat]
  have e1' : parS 2 3 (consA (PV.fz (calM (consA (rdM 0) (M.ret [])) absD)) (consA (rdM 1) (M.ret []))) (List.map (fun a => some a.sl) [Ar.d (PyData.int a), Ar.d (PyData.int b)] ++ List.replicate (4 - [Ar.d (PyData.int a), Ar.d (PyData.int b)].length) none) = _ := e1
  rw [e1']
  simp [-e_par, -e_cmpB, h, d1, d2, lowP]
theorem low_spec {a b : Int} (hb : b ≠ 0) (hs : Sz b) : c_lowest [.d (.int a), .d (.int b)] = some (.ok (.d (if b < 0 then lowP (-a) (-b) else lowP a b)), []) := by
  unfold c_lowest sem_lowest
  obtain ⟨g0, g1⟩ := gcd_sz (a := a.natAbs) (b := b.natAbs) (by omega) hs
  have hsp := shared_spec a.natAbs b.natAbs
  by_cases h : b < 0
  · have d1 : fdivD (.int a) (.int (-(Nat.gcd a.natAbs b.natAbs : Nat))) = some (.d (.int (a.fdiv (-(Nat.gcd a.natAbs b.natAbs : Nat))))) := o_fdiv (by omega) (by simpa using g1)
    have d2 : fdivD (.int b) (.int (-(Nat.gcd a.natAbs b.natAbs : Nat))) = some (.d (.int (b.fdiv (-(Nat.gcd a.natAbs b.natAbs : Nat))))) := o_fdiv (by omega) (by simpa using g1)
    have n1 : a.fdiv (-(Nat.gcd a.natAbs b.natAbs : Nat)) = (-a).fdiv (Nat.gcd a.natAbs b.natAbs : Nat) := by
      rw [← Int.neg_fdiv_neg, Int.neg_neg]
    have n2 : b.fdiv (-(Nat.gcd a.natAbs b.natAbs : Nat)) = (-b).fdiv (Nat.gcd a.natAbs b.natAbs : Nat) := by
      rw [← Int.neg_fdiv_neg, Int.neg_neg]
    rw [show ((b.natAbs : Nat) : Int) = -b by omega] at hsp
    simp [abs_nat, hsp, h, d1, d2, lowP, n1, n2]
  · have d1 : fdivD (.int a) (.int (Nat.gcd a.natAbs b.natAbs : Nat)) = some (.d (.int (a.fdiv (Nat.gcd a.natAbs b.natAbs : Nat)))) := o_fdiv (by omega) (by simpa using g1)
    have d2 : fdivD (.int b) (.int (Nat.gcd a.natAbs b.natAbs : Nat)) = some (.d (.int (b.fdiv (Nat.gcd a.natAbs b.natAbs : Nat)))) := o_fdiv (by omega) (by simpa using g1)
    rw [show ((b.natAbs : Nat) : Int) = b by omega] at hsp
    simp [abs_nat, hsp, h, d1, d2, lowP]
/-! ### is_fraction -/
def isF : PyData → Bool
  | .tuple [.int a, .int b] => decide (1 ≤ b) && decide (Nat.gcd a.natAbs b.natAbs = 1)
  | _ => false
theorem isF_spec (x : PyData) : c_is_fraction [.d x] = some (.ok (.d (.bool (isF x))), []) := by
  unfold c_is_fraction sem_is_fraction
  cases x with
  | tuple ds =>
    match ds with
    | [] => simp [isTy, isF]
    | [a] => simp [isTy, isF]
    | a :: b :: d :: r =>
      have hl : ¬ ((r.length : Int) + 1 + 1 + 1 = 2) := by omega
      simp [isTy, isF, hl]
    | [a, b] =>
      have w1 := whole_eq a
      have w2 := whole_eq b
      cases a <;> (try simp [isTy, isF, w1]) <;> cases b <;> (try simp [isTy, isF, w2])
      rename_i a b
      by_cases h : 1 ≤ b
      · have hsp := shared_spec a.natAbs b.natAbs
        rw [show ((b.natAbs : Nat) : Int) = b by omega] at hsp
        simp only [h, abs_nat]
        simp [hsp]
        omega
      · simp [h]
  | _ => simp [isTy, isF]
/-- sizes of a fraction's parts -/
def SzT : PyData → Prop
  | .tuple [.int _, .int b] => Sz b
  | _ => True
theorem ediv_g {a b : Int} {g : Nat} (hb : 0 < b) (hg0 : g ≠ 0) : (decide (a.fdiv (g : Int) = a) && decide (b.fdiv (g : Int) = b)) = decide (g = 1) := by
  by_cases h1 : g = 1
  · subst h1
    simp
  · have h2 : b.fdiv (g : Int) ≠ b := by
      rw [Int.fdiv_eq_ediv_of_nonneg _ (by omega)]
      have : b / (g : Int) < b := Int.ediv_lt_of_lt_mul (by omega) (by
        have h3 : b * 2 ≤ b * (g : Int) := Int.mul_le_mul_of_nonneg_left (by omega) (by omega)
        omega)
      omega
    simp [h1, h2]
theorem ediv_gcd {a b : Int} (hb : 0 < b) : (decide (a.fdiv (Nat.gcd a.natAbs b.natAbs : Nat) = a) && decide (b.fdiv (Nat.gcd a.natAbs b.natAbs : Nat) = b)) = decide (Nat.gcd a.natAbs b.natAbs = 1) := ediv_g hb fun z => by
  have := Nat.eq_zero_of_gcd_eq_zero_right z
  omega
theorem eq_pair (a b c d : Int) : eqD (.tuple [.int a, .int b]) (.tuple [.int c, .int d]) = some (.d (.bool (decide (a = c) && decide (b = d)))) := by
  have h1 : ∀ i j : Int, SeqAt.shaped (.tuple [.int i, .int j]) = true := fun i j => rfl
  have h2 : PyData.eqv (.tuple [.int a, .int b]) (.tuple [.int c, .int d]) = (decide (a = c) && decide (b = d)) := by
    simp only [PyData.eqv, PyData.eqvAll, Bool.and_true]
    rw [Bool.eq_iff_iff]
    simp
  unfold eqD eqB
  dsimp only
  rw [if_pos ⟨h1 a b, h1 c d⟩, h2]
  rfl
theorem lisF_spec {x : PyData} (hs : SzT x) : c__law_is_fraction [.d x] = some (.ok (.d (.bool (isF x))), []) := by
  unfold c__law_is_fraction sem__law_is_fraction
  cases x with
  | tuple ds =>
    match ds, hs with
    | [], _ => simp [isTy, isF]
    | [a], _ => simp [isTy, isF]
    | a :: b :: d :: r, _ =>
      have hl : ¬ ((r.length : Int) + 1 + 1 + 1 = 2) := by omega
      simp [isTy, isF, hl]
    | [a, b], hs =>
      have w1 := lwhole_eq a
      have w2 := lwhole_eq b
      cases a <;> (try simp [isTy, isF, w1, at1]) <;> cases b <;> (try simp [isTy, isF, w2, at1])
      rename_i a b
      by_cases h : 0 < b
      · have hl := llow_spec (a := a) h hs
        have h' : 1 ≤ b := by omega
        simp [h, h', hl, lowP, eq_pair, ← ediv_gcd h]
      · have h' : ¬ 1 ≤ b := by omega
        simp [h, h']
  | _ => simp [isTy, isF]
/-! ### bent -/
/-- a part of a thing -/
def Sp : PyData → Prop
  | .int i => i.natAbs < 10 ^ 240
  | _ => True
def EOk (v : PyData) : Prop := Sm v ∧ v.depth ≤ 2 ∧ v.weight ≤ 3000 ∧ Sp v
theorem w_int {x : Int} (h : x.natAbs < 10 ^ 500) : (PyData.int x).weight ≤ 1701 := by
  have h1 := log2_le (i := x) (k := 1700) (Nat.lt_trans h (by decide +kernel))
  simp only [PyData.weight]
  split <;> omega
theorem eok_int {x : Int} (h : x.natAbs < 10 ^ 240) : EOk (.int x) := by
  have h5 : x.natAbs < 10 ^ 500 := Nat.lt_trans h (by decide +kernel)
  exact ⟨by simpa only [Sm] using h5, by simp only [PyData.depth]; omega, Nat.le_trans (w_int h5) (by decide), h⟩
theorem str_len {x : Int} (h : x.natAbs < 10 ^ 200) : (PyData.str (toString x)).weight ≤ 1000 := by
  show (Str.ofString (toString x)).length ≤ 1000
  rw [PySem.ofString_length]
  exact Nat.le_trans (int_text_length_le10 (k := 200) (by decide) h) (by decide)
theorem bent_int {n k : Nat} {pot : List PyData} {x deep : Int} (hp : Pot k pot) (hk : k + 1 < 1000000) (hx : x.natAbs < 10 ^ 200) : ∃ v pot', c__law_bent (n + 1) [.m pot, .d (.int x), .d (.int deep)] = some (.ok (.d v), [pot']) ∧ EOk v ∧ Pot (k + 1) pot' := by
  obtain ⟨w, p1, e1, w0, w1, hp1⟩ := take_spec hp (by omega) (m := 12) (by decide) (by decide)
  obtain ⟨z, hs, hz⟩ : ∃ z : Str, strD [.int x] = some (.d (.str z)) ∧ EOk (.str z) := by
    refine ⟨toString x, ?_, sm_text _, by simp only [PyData.depth]; omega, Nat.le_trans (str_len hx) (by decide), True.intro⟩
    unfold strD
    dsimp only
    rw [if_pos (Nat.lt_of_le_of_lt (log2_le (k := 700) (Nat.lt_trans hx (by decide +kernel))) (by decide))]
  have hm : mulA (.int 2) (.int x) = some (.d (.int (2 * x))) := o_mul (by
    have h1 := log2_le (i := x) (k := 700) (Nat.lt_trans hx (by decide))
    have h2 := log2_le (i := 2) (k := 2) (by decide)
    omega)
  obtain ⟨v, ev, hv⟩ := pick (α := PyData) (xs := [.int (x + 1), .int (-x), .int (x - 1), .int (2 * x), .bool true, .none, .str z, .tuple [.int x], .int 0, .int (10 ^ 59), .int 1, .dict []]) w0 (by simpa using w1)
  refine ⟨v, p1, ?_, ?_, hp1⟩
  · show runFn 5 3 (sem__law_bent (c__law_bent n)) _ = _
    unfold sem__law_bent
    rw [take_c]
    simp [-Int.reducePow, e1, isTy, hs, hm, pow59, ev]
  · simp only [List.mem_cons, List.not_mem_nil, or_false] at hv
    have b : (10 : Nat) ^ 200 + 10 ^ 200 + 1 < 10 ^ 240 := by decide
    have b5 : (10 : Nat) ^ 240 < 10 ^ 500 := by decide +kernel
    rcases hv with rfl | rfl | rfl | rfl | rfl | rfl | rfl | rfl | rfl | rfl | rfl | rfl
    · exact eok_int (by omega)
    · exact eok_int (by omega)
    · exact eok_int (by omega)
    · exact eok_int (by omega)
    · exact ⟨by simp only [Sm], by decide, by decide, True.intro⟩
    · exact ⟨by simp only [Sm], by decide, by decide, True.intro⟩
    · exact hz
    · have wx := w_int (x := x) (by omega)
      exact ⟨by simp only [Sm, SmAll, and_true]; omega, by simp only [PyData.depth, PyData.depthAll]; omega, by simp only [PyData.weight, PyData.weightAll] at wx ⊢; omega, True.intro⟩
    · exact eok_int (by decide)
    · exact eok_int (by decide +kernel)
    · exact eok_int (by decide)
    · exact ⟨by simp only [Sm], by decide, by decide, True.intro⟩
/-- a thing that is asked -/
def Tp : PyData → Prop
  | .tuple [.int a, .int b] => a.natAbs < 10 ^ 240 ∧ b.natAbs < 10 ^ 240
  | _ => True
/-- what stands half as far -/
def Okh (v : PyData) : Prop := Sm v ∧ v.depth ≤ 20 ∧ v.weight ≤ 14000
theorem Okh.okr {v : PyData} (h : Okh v) : Okr v := ⟨h.1, Nat.le_trans h.2.1 (by decide), Nat.le_trans h.2.2 (by decide)⟩
theorem Okh.two {x y : PyData} (hx : Okh x) (hy : Okh y) : Okr (.tuple [x, y]) := by
  obtain ⟨x1, x2, x3⟩ := hx
  obtain ⟨y1, y2, y3⟩ := hy
  refine ⟨?_, ?_, ?_⟩
  · simp only [Sm, SmAll]; exact ⟨x1, y1, True.intro⟩
  · simp only [PyData.depth, PyData.depthAll]; omega
  · simp only [PyData.weight, PyData.weightAll]; omega
def TOk (v : PyData) : Prop := Okh v ∧ SzT v ∧ Tp v
theorem sm_sz {b : Int} (h : Sm (.int b)) : Sz b := by
  have h' : b.natAbs < 10 ^ 500 := by simpa only [Sm] using h
  exact Nat.lt_trans h' (by decide +kernel)
theorem tok_pair {x y : PyData} (hx : EOk x) (hy : EOk y) : TOk (.tuple [x, y]) := by
  obtain ⟨x2, x3, x4, x5⟩ := hx
  obtain ⟨y2, y3, y4, y5⟩ := hy
  refine ⟨⟨?_, ?_, ?_⟩, ?_, ?_⟩
  · simp only [Sm, SmAll]; exact ⟨x2, y2, True.intro⟩
  · simp only [PyData.depth, PyData.depthAll]; omega
  · simp only [PyData.weight, PyData.weightAll]; omega
  · cases x with
    | int i => cases y with
      | int j => exact sm_sz y2
      | _ => exact True.intro
    | _ => exact True.intro
  · cases x with
    | int i => cases y with
      | int j => exact ⟨x5, y5⟩
      | _ => exact True.intro
    | _ => exact True.intro
theorem bent_tup {n k : Nat} {pot : List PyData} {a b deep : Int} (hp : Pot k pot) (hk : k + 3 < 1000000) (ha : a.natAbs < 10 ^ 200) (hb : b.natAbs < 10 ^ 200) (hd : 0 < deep) : ∃ v pot', c__law_bent (n + 2) [.m pot, .d (.tuple [.int a, .int b]), .d (.int deep)] = some (.ok (.d v), [pot']) ∧ TOk v ∧ Pot (k + 3) pot' := by
  obtain ⟨w, p1, e1, w0, w1, hp1⟩ := take_spec hp (by omega) (m := 12) (by decide) (by decide)
  have big : (10 : Nat) ^ 200 < 10 ^ 240 := by decide
  have ea := eok_int (x := a) (by omega)
  have eb := eok_int (x := b) (by omega)
  have hne : neD (.tuple [.int a, .int b]) (.tuple []) = some (.d (.bool true)) := by
    have h1 : SeqAt.shaped (.tuple [.int a, .int b]) = true := rfl
    have h2 : SeqAt.shaped (.tuple []) = true := rfl
    unfold neD eqB
    dsimp only
    rw [if_pos ⟨h1, h2⟩]
    rfl
  by_cases hw : 3 < w
  · obtain ⟨t, p2, e2, t0, t1, hp2⟩ := take_spec hp1 (by omega) (m := 2) (by decide) (by decide)
    have ht : t = 0 ∨ t = 1 := by omega
    rcases ht with rfl | rfl
    · obtain ⟨v, p3, e3, hv, hp3⟩ := bent_int (n := n) (deep := deep - 1) hp2 (by omega) ha
      have c1 : cutL [PyData.int a, .int b] none (some 0) = [] := rfl
      have c2 : cutL [PyData.int a, .int b] (some 1) none = [.int b] := rfl
      have s1 := o_addT (xs := []) (ys := [v]) (by simp)
      have s2 := o_addT (xs := [v]) (ys := [.int b]) (by simp)
      refine ⟨.tuple [v, .int b], p3, ?_, tok_pair hv eb, hp3⟩
      show runFn 5 3 (sem__law_bent (c__law_bent (n + 1))) _ = _
      unfold sem__law_bent
      rw [take_c]
      simp at s1 s2
      simp [e1, e2, e3, isTy, hne, hd, hw, c1, c2, s1, s2]
    · obtain ⟨v, p3, e3, hv, hp3⟩ := bent_int (n := n) (deep := deep - 1) hp2 (by omega) hb
      have c1 : cutL [PyData.int a, .int b] none (some 1) = [.int a] := rfl
      have c2 : cutL [PyData.int a, .int b] (some 2) none = [] := rfl
      have s1 := o_addT (xs := [.int a]) (ys := [v]) (by simp)
      have s2 := o_addT (xs := [.int a, v]) (ys := []) (by simp)
      refine ⟨.tuple [.int a, v], p3, ?_, tok_pair ea hv, hp3⟩
      show runFn 5 3 (sem__law_bent (c__law_bent (n + 1))) _ = _
      unfold sem__law_bent
      rw [take_c]
      simp at s1 s2
      simp [e1, e2, e3, isTy, hne, hd, hw, c1, c2, s1, s2, at1]
  · have c1 : cutL [PyData.int a, .int b] none (some 1) = [.int a] := rfl
    have c2 : cutL [PyData.int a, .int b] (some 1) none = [.int b] := rfl
    have c3 : cutL [PyData.int a, .int b] none (some (-1)) = [.int a] := rfl
    have s1 := o_addT (xs := [.int a, .int b]) (ys := [.int a]) (by simp)
    have m1 : modD (.int w) (.int 8) = some (.d (.int (w.fmod 8))) := o_mod (by decide)
    obtain ⟨v, ev, hv⟩ := pick (α := PyData) (xs := [.list [.int a, .int b], .tuple [.int b], .tuple [.int a, .int b, .int a], .tuple [.int b, .int a], .tuple [.tuple [.int a, .int b]], .tuple [], .none, .tuple [.int a]]) (i := w.fmod 8) (Int.fmod_nonneg_of_pos _ (by decide)) (by simpa using Int.fmod_lt_of_pos w (show (0 : Int) < 8 by decide))
    refine ⟨v, p1, ?_, ?_, hp1.mono (by omega)⟩
    · show runFn 5 3 (sem__law_bent (c__law_bent (n + 1))) _ = _
      unfold sem__law_bent
      rw [take_c]
      simp at s1
      simp [e1, isTy, hne, hd, hw, c1, c2, c3, s1, m1, ev]
    · have wa := ea.2.2.1
      have wb := eb.2.2.1
      have sa : Sm (.int a) := ea.1
      have sb : Sm (.int b) := eb.1
      simp only [List.mem_cons, List.not_mem_nil, or_false] at hv
      rcases hv with rfl | rfl | rfl | rfl | rfl | rfl | rfl | rfl
      · exact ⟨⟨by simp only [Sm, SmAll] at sa sb ⊢; exact ⟨sa, sb, True.intro⟩, by simp only [PyData.depth, PyData.depthAll]; omega, by simp only [PyData.weight, PyData.weightAll] at wa wb ⊢; omega⟩, True.intro, True.intro⟩
      · exact ⟨⟨by simp only [Sm, SmAll] at sa sb ⊢; exact ⟨sb, True.intro⟩, by simp only [PyData.depth, PyData.depthAll]; omega, by simp only [PyData.weight, PyData.weightAll] at wa wb ⊢; omega⟩, True.intro, True.intro⟩
      · exact ⟨⟨by simp only [Sm, SmAll] at sa sb ⊢; exact ⟨sa, sb, sa, True.intro⟩, by simp only [PyData.depth, PyData.depthAll]; omega, by simp only [PyData.weight, PyData.weightAll] at wa wb ⊢; omega⟩, True.intro, True.intro⟩
      · exact tok_pair eb ea
      · exact ⟨⟨by simp only [Sm, SmAll] at sa sb ⊢; exact ⟨⟨sa, sb, True.intro⟩, True.intro⟩, by simp only [PyData.depth, PyData.depthAll]; omega, by simp only [PyData.weight, PyData.weightAll] at wa wb ⊢; omega⟩, True.intro, True.intro⟩
      · exact ⟨⟨by simp only [Sm, SmAll], by decide, by decide⟩, True.intro, True.intro⟩
      · exact ⟨⟨by simp only [Sm], by decide, by decide⟩, True.intro, True.intro⟩
      · exact ⟨⟨by simp only [Sm, SmAll] at sa sb ⊢; exact ⟨sa, True.intro⟩, by simp only [PyData.depth, PyData.depthAll]; omega, by simp only [PyData.weight, PyData.weightAll] at wa wb ⊢; omega⟩, True.intro, True.intro⟩
/-! ### drawn fractions and numbers -/
theorem lowP_ok {a b : Int} (hb : 0 < b) : ∃ p q : Int, lowP a b = .tuple [.int p, .int q] ∧ 0 < q ∧ p.natAbs ≤ a.natAbs ∧ q.natAbs ≤ b.natAbs := by
  have hg : Nat.gcd a.natAbs b.natAbs ≠ 0 := fun z => by
    have := Nat.eq_zero_of_gcd_eq_zero_right z
    omega
  have hd : ((Nat.gcd a.natAbs b.natAbs : Nat) : Int) ∣ b := by
    exact Int.ofNat_dvd_left.mpr (Nat.gcd_dvd_right _ _)
  have h1 : ∀ i : Int, (i.fdiv (Nat.gcd a.natAbs b.natAbs : Nat)).natAbs ≤ i.natAbs := fun i => by
    rw [Int.fdiv_eq_ediv_of_nonneg _ (by omega)]
    exact Int.natAbs_ediv_le_natAbs _ _
  refine ⟨_, _, rfl, ?_, h1 a, h1 b⟩
  rw [Int.fdiv_eq_ediv_of_nonneg _ (by omega)]
  exact Int.ediv_pos_of_pos_of_dvd hb (by omega) hd
theorem frac_spec {k : Nat} {pot : List PyData} (hp : Pot k pot) (hk : k + 7 < 1000000) : ∃ (a b : Int) (pot' : List PyData), c__law_fraction [.m pot] = some (.ok (.d (.tuple [.int a, .int b])), [pot']) ∧ 0 < b ∧ a.natAbs < 10 ^ 100 ∧ b.natAbs < 10 ^ 100 ∧ Pot (k + 7) pot' := by
  obtain ⟨w, p1, e1, w0, w1, hp1⟩ := take_spec hp (by omega) (m := 6) (by decide) (by decide)
  obtain ⟨v, ev, hv⟩ := pick (α := PyData) (xs := [.int 6, .int 6, .int 30, .int 1000, .int (10 ^ 30), .int (10 ^ 30)]) w0 (by simpa using w1)
  obtain ⟨u, eu, hu⟩ := pick (α := PyData) (xs := [.int 6, .int 2, .int 30, .int 1000, .int (10 ^ 30), .int 9]) w0 (by simpa using w1)
  have hv' : ∃ t : Int, v = .int t ∧ 0 < t ∧ t ≤ 10 ^ 30 := by
    simp only [List.mem_cons, List.not_mem_nil, or_false] at hv
    rcases hv with rfl | rfl | rfl | rfl | rfl | rfl <;> exact ⟨_, rfl, by decide, by decide⟩
  have hu' : ∃ t : Int, u = .int t ∧ 0 < t ∧ t ≤ 10 ^ 30 := by
    simp only [List.mem_cons, List.not_mem_nil, or_false] at hu
    rcases hu with rfl | rfl | rfl | rfl | rfl | rfl <;> exact ⟨_, rfl, by decide, by decide⟩
  obtain ⟨t, rfl, t0, t1⟩ := hv'
  obtain ⟨u, rfl, u0, u1⟩ := hu'
  have lg : ∀ i : Int, 0 < i → i ≤ 10 ^ 31 → i.natAbs.log2 < 9000 := fun i h0 h1 => by
    have := log2_le (i := i) (k := 110) (by
      have : (10 : Int) ^ 31 < 2 ^ 110 := by decide
      omega)
    omega
  have hm : mulA (.int 2) (.int t) = some (.d (.int (2 * t))) := o_mul (by
    have := lg t t0 (by omega)
    have := log2_le (i := 2) (k := 2) (by decide)
    omega)
  obtain ⟨g1, p2, e2, a0, a1, hp2⟩ := great_spec hp1 (by omega) (m := 2 * t + 1) (by omega) (lg _ (by omega) (by omega))
  obtain ⟨g2, p3, e3, b0, b1, hp3⟩ := great_spec hp2 (by omega) (m := u) (by omega) (lg _ (by omega) (by omega))
  have big : (10 : Nat) ^ 31 < 10 ^ 100 := by decide
  have hs : Sz (1 + g2) := Nat.lt_trans (show (1 + g2).natAbs < 10 ^ 31 by omega) (by decide +kernel)
  have hl := llow_spec (a := g1 - t) (b := 1 + g2) (by omega) hs
  obtain ⟨p, q, el, q0, p1', q1'⟩ := lowP_ok (a := g1 - t) (b := 1 + g2) (by omega)
  rw [el] at hl
  refine ⟨p, q, p3, ?_, q0, by omega, by omega, hp3⟩
  unfold c__law_fraction sem__law_fraction
  rw [take_c]
  simp [-Int.reducePow, e1, pow30, ev, hm, e2, eu, e3, hl]
def lowR (a b : Int) : PyData := if b < 0 then lowP (-a) (-b) else lowP a b
end PvFr
end

/-! PV29: comparisons in a chain, in, all, insert, statements of which nothing is promised. -/
namespace PV
open PySem PySem.Spec PyProof.Rows L2
/-- nothing is promised -/
def failS : Stm := fun _ => none
theorem ss_fail {X : Cx} {G : Gd} {W : WX} {st : Stmt} : SS X G W st failS := ⟨fun pins s σ H D I ⟨_, _, _, _, e, _⟩ => nomatch e⟩
def blO : Option Vl → Option Bool
  | some (.d (.bool b)) => some b
  | _ => none
theorem blO_some {o : Option Vl} {b : Bool} (h : blO o = some b) : o = some (.d (.bool b)) := by
  unfold blO at h
  split at h
  · cases h; rfl
  · cases h
def chnB (fa fb fc : M D) (g g' : D → D → Option Vl) : M Bool := fa.bnd fun x => fb.bnd fun y => (M.opt (blO (g x y))).bnd fun c => if c = true then fc.bnd fun z => M.opt (blO (g' y z)) else M.ret false
section
variable {X : Cx} {G : Gd} {W : WX} {N : List Str} {sc : Scope} {blk : Bool} {k : Nat} {Mo : Wo} {pos : Pos} {a b c : Expr} {fa fb fc : M D} {g g' : D → D → Option Vl} {r r' : R2} {op op' : CmpOp}
theorem chain_imp (hK : X.K = G.K) (s : OpS X.K r g) (s' : OpS X.K r' g') {σ : L2.St} {H : Hp} {Q : Bool → Hp → Prop} (h : tG G W RB (chnB fa fb fc g g') σ H Q) :
    tChain r r' (tG G W (RD G) fa) (tG G W (RD G) fb) (tG G W (RD G) fc) σ H (fun x H' => ∃ k, x = .bl k ∧ Q k H') := by
  obtain ⟨O, env, R, t⟩ := h
  obtain ⟨O1, env1, R1, r1, e1, p1⟩ := bindL (RV := RD G) R t
  refine ⟨O1, env1, R1, r1, e1, p1.mono fun x H2 ⟨dx, env2, O2, R2, s2, rx, t2⟩ => ?_⟩
  obtain ⟨O3, env3, R3, r3, e3, p3⟩ := bindL (RV := RD G) R2 t2
  refine ⟨O3, env3, R3, r3, e3, p3.mono fun y H4 ⟨dy, env4, O4, R4, s4, ry, t4⟩ => ?_⟩
  obtain ⟨c1, e, t5⟩ := optBind t4
  rw [hK] at s s'
  refine s O4 H4 x y dx dy _ _ R4.ol (Rp.step s4 dx x rx) ry (blO_some e) fun v H5 g5 rv => ?_
  have rv' : Rp G.K O4 H5 (.bool c1) v := rv
  refine ⟨c1, rv'.bl_inv, ?_⟩
  cases c1 with
  | false =>
    rw [if_neg (by decide)] at t5 ⊢
    obtain ⟨r6, e6, p6⟩ := t5
    cases e6
    exact ⟨false, rfl, p6 false O4 H5 (R4.grow g5) g5.step rfl⟩
  | true =>
    rw [if_pos rfl] at t5 ⊢
    have R5 := R4.grow g5
    obtain ⟨r0, e0, p0⟩ := t5
    obtain ⟨O7, env7, R7, r7, e7, p7⟩ := bindL (RV := RD G) (RW := RB) (Q := Q) R5 ⟨r0, e0, p0.weak g5.step⟩
    refine ⟨O7, env7, R7, r7, e7, p7.mono fun z H8 ⟨dz, env8, O8, R8, s8, rz, t8⟩ => ?_⟩
    obtain ⟨c2, e2, q2⟩ := t8.optAt
    refine s' O8 H8 y z dy dz _ _ R8.ol (Rp.step s8 dy y (Rp.step g5.step dy y ry)) rz (blO_some e2) fun v' H9 g9 rv9 => ?_
    have rv' : Rp G.K O8 H9 (.bool c2) v' := rv9
    exact ⟨c2, rv'.bl_inv, q2 c2 O8 H9 (R8.grow g9) g9.step rfl⟩
theorem sb_chain (hK : X.K = G.K) (ho : OpR X (compareOp op) r) (s : OpS X.K r g) (ho' : OpR X (compareOp op') r') (s' : OpS X.K r' g') (ha : SD X G W a fa) (hb : SD X G W b fb) (hc : SD X G W c fc)
    (hm : lastMarks [op, op'] [b, c] = false := by with_unfolding_all rfl) : SB X G W (.Compare a [op, op'] [b, c] pos) (chnB fa fb fc g g') :=
  PT.imp (pt_chain ho ho' ha hb hc hm) fun _ _ _ h => chain_imp hK s s' h
def chnV (fa fb fc : M D) (g g' : D → D → Option Vl) : M D := (chnB fa fb fc g g').bnd fun b => M.ret (.bool b)
theorem boolV {f : M Bool} {σ : L2.St} {H : Hp} {Q : VK} (h : tG G W (RD G) (f.bnd fun b => M.ret (.bool b)) σ H Q) : tG G W RB f σ H (fun b H' => Q (.bl b) H') := by
  obtain ⟨O, env, R, t⟩ := h
  obtain ⟨O1, env1, R1, r1, e1, p1⟩ := bindL (RV := RB) (RW := RD G) (Q := Q) R t
  refine ⟨O1, env1, R1, r1, e1, p1.mono fun b H2 ⟨b', env2, O2, R2, s2, rb, t2⟩ => ?_⟩
  obtain ⟨r3, e3, p3⟩ := t2
  cases e3
  have rb' : b' = b := rb
  subst rb'
  exact p3 _ O2 H2 R2 Step.refl Rp.bl'
theorem chain_val (hK : X.K = G.K) (s : OpS X.K r g) (s' : OpS X.K r' g') {σ : L2.St} {H : Hp} {Q : VK} (h : tG G W (RD G) (chnV fa fb fc g g') σ H Q) :
    tChain r r' (tG G W (RD G) fa) (tG G W (RD G) fb) (tG G W (RD G) fc) σ H Q := by
  obtain ⟨O, env, R, t⟩ := boolV h
  obtain ⟨O1, env1, R1, r1, e1, p1⟩ := bindL (RV := RD G) R t
  refine ⟨O1, env1, R1, r1, e1, p1.mono fun x H2 ⟨dx, env2, O2, R2, s2, rx, t2⟩ => ?_⟩
  obtain ⟨O3, env3, R3, r3, e3, p3⟩ := bindL (RV := RD G) R2 t2
  refine ⟨O3, env3, R3, r3, e3, p3.mono fun y H4 ⟨dy, env4, O4, R4, s4, ry, t4⟩ => ?_⟩
  obtain ⟨c1, e, t5⟩ := optBind t4
  rw [hK] at s s'
  refine s O4 H4 x y dx dy _ _ R4.ol (Rp.step s4 dx x rx) ry (blO_some e) fun v H5 g5 rv => ?_
  have rv' : Rp G.K O4 H5 (.bool c1) v := rv
  refine ⟨c1, rv'.bl_inv, ?_⟩
  cases c1 with
  | false =>
    rw [if_neg (by decide)] at t5 ⊢
    obtain ⟨r6, e6, p6⟩ := t5
    cases e6
    exact p6 false O4 H5 (R4.grow g5) g5.step rfl
  | true =>
    rw [if_pos rfl] at t5 ⊢
    have R5 := R4.grow g5
    obtain ⟨r0, e0, p0⟩ := t5
    obtain ⟨O7, env7, R7, r7, e7, p7⟩ := bindL (RV := RD G) (RW := RB) (Q := fun b H' => Q (.bl b) H') R5 ⟨r0, e0, p0.weak g5.step⟩
    refine ⟨O7, env7, R7, r7, e7, p7.mono fun z H8 ⟨dz, env8, O8, R8, s8, rz, t8⟩ => ?_⟩
    obtain ⟨c2, e2, q2⟩ := t8.optAt
    refine s' O8 H8 y z dy dz _ _ R8.ol (Rp.step s8 dy y (Rp.step g5.step dy y ry)) rz (blO_some e2) fun v' H9 g9 rv9 => ?_
    have rv' : Rp G.K O8 H9 (.bool c2) v' := rv9
    rw [rv'.bl_inv]
    exact q2 c2 O8 H9 (R8.grow g9) g9.step rfl
theorem sd_chain (hK : X.K = G.K) (ho : OpR X (compareOp op) r) (s : OpS X.K r g) (ho' : OpR X (compareOp op') r') (s' : OpS X.K r' g') (ha : SD X G W a fa) (hb : SD X G W b fb) (hc : SD X G W c fc)
    (hm : lastMarks [op, op'] [b, c] = false := by with_unfolding_all rfl) : SD X G W (.Compare a [op, op'] [b, c] pos) (chnV fa fb fc g g') :=
  PE.imp (pe_chain ho ho' ha hb hc hm) fun σ H Q h => by
    exact chain_val hK s s' h
/-! ### in -/
def inD (neg : Bool) : D → D → Option Vl
  | d, .list ds => if SeqAt.shaped d = true ∧ SeqAt.shaped (.list ds) = true then some (.d (.bool (neg ^^ ds.any fun z => PyData.eqv z d))) else none
  | _, _ => none
theorem inD_bool (neg : Bool) : ∀ x y v, inD neg x y = some v → ∃ d, v = .d (.bool d) := by
  intro x y v e
  unfold inD at e
  split at e
  · split at e
    · cases e; exact ⟨_, rfl⟩
    · cases e
  · cases e
variable {K : PySem.W.Frag}
theorem in_S : OpS K (rInD K) (inD false) := by
  intro O H x y dx dy vl Q ol rx ry e q
  unfold inD at e
  split at e
  · split at e
    · rename_i h
      cases e
      exact ⟨_, _, rx.dp _ _ (noDict_of_lay _ (SeqAt.canLay_of_shaped h.1)), ry.dp _ _ (noDict_of_lay _ (SeqAt.canLay_of_shaped h.2)), h.1, h.2, by rw [Bool.false_xor] at q; exact q.bl⟩
    · cases e
  · cases e
theorem notIn_S : OpS K (rNotInD K) (inD true) := by
  intro O H x y dx dy vl Q ol rx ry e q
  unfold inD at e
  split at e
  · split at e
    · rename_i h
      cases e
      exact ⟨_, _, rx.dp _ _ (noDict_of_lay _ (SeqAt.canLay_of_shaped h.1)), ry.dp _ _ (noDict_of_lay _ (SeqAt.canLay_of_shaped h.2)), h.1, h.2, by rw [Bool.true_xor] at q; exact q.bl⟩
    · cases e
  · cases e
/-- e in xs, xs the list of slot j -/
def inM (j : Nat) (g : D → D → Option Vl) (fe : M D) : M Vl := fe.bnd fun d env1 => match listAt env1 j with
  | some xs => M.opt (g d (.list xs)) env1
  | none => none
theorem sv_inM (A : At X G W N sc blk k Mo) (j : Nat) {op : CmpOp} {gg : D → D → Option Vl} {rr : R2} {x : Str} {b : Expr} {p : Pos} {fe : M D} (ho : OpR X (compareOp op) rr) (s : OpS X.K rr gg) (hgd : ∀ x y v, gg x y = some v → ∃ d, v = .d (.bool d)) (h : SD X G W b fe) (hi : N[j]? = some x := by rfl) (hv : Vis sc x := by first | exact Or.inl rfl | exact Or.inr (Or.inl rfl) | exact Or.inr (Or.inr rfl)) (hd : (x == ("__debug__" : Str)) = false := by decide) (hcd : (x == ("__classdict__" : Str)) = false := by decide)
    (hm : behindInMarks op (.Name x p) = false := by with_unfolding_all rfl) :
    SV X G W (.Compare b [op] [.Name x p] pos) (inM j gg fe) := by
  refine PE.imp (pe_cmpR ho h (name_pe A j hi hv hd hcd) hm) fun σ H Q ⟨O, env, R, t⟩ => ?_
  obtain ⟨O1, env1, R1, r1, e3, p1⟩ := bindL (RV := RD G) (RW := RL G) (Q := Q) R t
  refine ⟨O1, env1, R1, r1, e3, p1.mono fun y H2 ⟨d, env2, O2, R2, s2, rd, t2⟩ => ?_⟩
  obtain ⟨r2, er2, p2⟩ := t2
  dsimp only at er2
  cases hl2 : listAt env2 j with
  | none => rw [hl2] at er2; cases er2
  | some ys =>
    rw [hl2] at er2
    obtain ⟨vl, ev, qq⟩ := finOp R2 (Q := Q) ⟨r2, er2, p2⟩
    obtain ⟨d', rfl⟩ := hgd _ _ _ ev
    obtain ⟨q', O', f1, f2, f3, f4⟩ := R2.peek hl2
    refine ⟨_, f1, ?_⟩
    rw [A.hK] at s
    refine s O' H2 y (.ref q') d (.list ys) _ Q (fun a z => R2.ol a (f2 a z)) (Rp.step (fun a o h n => ⟨h, fun z => n (f2 a z)⟩) d y rd) f4 ev fun v H' g rv => ?_
    exact qq v H' g (by have rv' : Rp G.K O' H' (.bool d') v := rv; show Rp G.K O2 H' (.bool d') v; rw [rv'.bl_inv]; exact Rp.bl')
theorem inM_imp (A : At X G W N sc blk k Mo) (j : Nat) {gg : D → D → Option Vl} {rr : R2} {fe : M D} (s : OpS X.K rr gg) (hgd : ∀ x y v, gg x y = some v → ∃ d, v = .d (.bool d)) {σ : L2.St} {H : Hp} {Q : Bool → Hp → Prop}
    (h : tG G W RB ((inM j gg fe).bnd fun vl => M.opt (blO (some vl))) σ H Q) : tOp rr (tG G W (RD G) fe) (tVar j) σ H (fun x H' => ∃ k, x = .bl k ∧ Q k H') := by
  obtain ⟨O, env, R, t⟩ := h
  have t' : tAt G W RB (fe.bnd fun d => M.bnd (fun env1 => match listAt env1 j with
    | some xs => M.opt (gg d (.list xs)) env1
    | none => none) fun vl => M.opt (blO (some vl))) O env σ H Q := by
    obtain ⟨r, e, p⟩ := t
    refine ⟨r, ?_, p⟩
    rw [← e]
    unfold inM M.bnd
    cases fe env with
    | none => rfl
    | some q =>
      obtain ⟨q, e1⟩ := q
      cases q <;> rfl
  obtain ⟨O1, env1, R1, r1, e3, p1⟩ := bindL (RV := RD G) R t'
  refine ⟨O1, env1, R1, r1, e3, p1.mono fun y H2 ⟨d, env2, O2, R2, s2, rd, t2⟩ => ?_⟩
  obtain ⟨r2, er2, p2⟩ := t2
  unfold M.bnd at er2
  dsimp only at er2
  cases hl2 : listAt env2 j with
  | none => rw [hl2] at er2; cases er2
  | some ys =>
    rw [hl2] at er2
    unfold M.opt at er2
    dsimp only at er2
    cases hg : gg d (.list ys) with
    | none => rw [hg] at er2; cases er2
    | some vl =>
      obtain ⟨d', rfl⟩ := hgd _ _ _ hg
      rw [hg] at er2
      cases er2
      obtain ⟨q', O', f1, f2, f3, f4⟩ := R2.peek hl2
      refine ⟨_, f1, ?_⟩
      rw [A.hK] at s
      refine s O' H2 y (.ref q') d (.list ys) _ _ (fun a z => R2.ol a (f2 a z)) (Rp.step (fun a o h n => ⟨h, fun z => n (f2 a z)⟩) d y rd) f4 hg fun v H' g rv => ?_
      have rv' : Rp G.K O' H' (.bool d') v := rv
      exact ⟨d', rv'.bl_inv, p2 d' O2 H' (R2.grow g) g.step rfl⟩
def inB (j : Nat) (g : D → D → Option Vl) (fe : M D) : M Bool := (inM j g fe).bnd fun vl => M.opt (blO (some vl))
theorem sb_inM (A : At X G W N sc blk k Mo) (j : Nat) {op : CmpOp} {gg : D → D → Option Vl} {rr : R2} {x : Str} {b : Expr} {p : Pos} {fe : M D} (ho : OpR X (compareOp op) rr) (s : OpS X.K rr gg) (hgd : ∀ x y v, gg x y = some v → ∃ d, v = .d (.bool d)) (h : SD X G W b fe) (hi : N[j]? = some x := by rfl) (hv : Vis sc x := by first | exact Or.inl rfl | exact Or.inr (Or.inl rfl) | exact Or.inr (Or.inr rfl)) (hd : (x == ("__debug__" : Str)) = false := by decide) (hcd : (x == ("__classdict__" : Str)) = false := by decide)
    (hm : behindInMarks op (.Name x p) = false := by with_unfolding_all rfl) :
    SB X G W (.Compare b [op] [.Name x p] pos) (inB j gg fe) :=
  PT.imp (pt_cmpR ho h (name_pe A j hi hv hd hcd) hm) fun _ _ _ h => inM_imp A j s hgd h
/-! ### all, any -/
def bls : List D → Option (List Bool)
  | [] => some []
  | .bool b :: ds => (bls ds).map (b :: ·)
  | _ => none
theorem bls_S {O : Own} {H : Hp} : ∀ {ds : List D} {xs : List V} {bs : List Bool}, RpAll K O H ds xs → bls ds = some bs → xs = bs.map V.bl
  | [], xs, bs, r, e => by
    cases e
    match xs, r with
    | [], _ => rfl
    | _ :: _, r => simp only [RpAll] at r
  | d :: ds, xs, bs, r, e => by
    match xs, r with
    | [], r => simp only [RpAll] at r
    | v :: vs, r =>
      simp only [RpAll] at r
      cases d with
      | bool b =>
        unfold bls at e
        cases hb : bls ds with
        | none => rw [hb] at e; cases e
        | some bs' =>
          rw [hb] at e; cases e
          rw [List.map_cons, r.1.bl_inv, bls_S r.2 hb]
      | _ => cases e
def allD : List D → Option Vl
  | [.list ds] => (bls ds).map fun bs => .d (.bool (bs.all id))
  | _ => none
def anyD : List D → Option Vl
  | [.list ds] => (bls ds).map fun bs => .d (.bool (bs.any id))
  | _ => none
theorem all_S : CaS K (rAll K) allD := by
  intro O H xs ds vl Q ol rx e q
  unfold allD at e
  split at e
  · rename_i ds
    cases hb : bls ds with
    | none => rw [hb] at e; cases e
    | some bs =>
      rw [hb] at e; cases e
      obtain ⟨v, rfl, r⟩ := rx.one
      obtain ⟨a, ys, rfl, ra, qa⟩ := r.list_inv
      have e2 := bls_S qa hb
      subst e2
      exact ⟨a, bs, rfl, ra.sq, q.bl⟩
  · cases e
theorem any_S : CaS K (rAny K) anyD := by
  intro O H xs ds vl Q ol rx e q
  unfold anyD at e
  split at e
  · rename_i ds
    cases hb : bls ds with
    | none => rw [hb] at e; cases e
    | some bs =>
      rw [hb] at e; cases e
      obtain ⟨v, rfl, r⟩ := rx.one
      obtain ⟨a, ys, rfl, ra, qa⟩ := r.list_inv
      have e2 := bls_S qa hb
      subst e2
      exact ⟨a, bs, rfl, ra.sq, q.bl⟩
  · cases e
/-! ### insert -/
def insO (j : Nat) (n d : D) : M Vl := fun env1 => match n with
  | .int i => match listAt env1 j with
    | some xs => if xs.length < sizeLine ∧ 0 ≤ i ∧ i < 2 ^ 63 then some (.ok (.d .none), setOut env1 j (xs.take i.toNat ++ [d] ++ xs.drop i.toNat)) else none
    | none => none
  | _ => none
/-- xs.insert(i, e), xs of slot j -/
def insM (j : Nat) (fi fe : M D) : M Vl := fun env => match listAt env j with
  | none => none
  | some _ => fi.bnd (fun n => fe.bnd fun d => insO j n d) env
theorem RpAll.takeN {O : Own} {H : Hp} : ∀ {ds : List D} {xs : List V} (n : Nat), RpAll K O H ds xs → RpAll K O H (ds.take n) (xs.take n)
  | [], [], n, _ => by simp [RpAll]
  | [], _ :: _, _, r => by simp only [RpAll] at r
  | _ :: _, [], _, r => by simp only [RpAll] at r
  | _ :: _, _ :: _, 0, _ => by simp [RpAll]
  | _ :: _, _ :: _, n + 1, r => by
    simp only [RpAll] at r
    simp only [List.take_succ_cons, RpAll]
    exact ⟨r.1, RpAll.takeN n r.2⟩
theorem RpAll.dropN {O : Own} {H : Hp} : ∀ {ds : List D} {xs : List V} (n : Nat), RpAll K O H ds xs → RpAll K O H (ds.drop n) (xs.drop n)
  | [], [], n, _ => by simp [RpAll]
  | [], _ :: _, _, r => by simp only [RpAll] at r
  | _ :: _, [], _, r => by simp only [RpAll] at r
  | _ :: _, _ :: _, 0, r => r
  | _ :: _, _ :: _, n + 1, r => by
    simp only [RpAll] at r
    simp only [List.drop_succ_cons]
    exact RpAll.dropN n r.2
theorem sv_insert (A : At X G W N sc blk k Mo) (i : Nat) {x : Str} {e1 e2 : Expr} {p apos : Pos} {f1 f2 : M D} (h1 : SD X G W e1 f1) (h2 : SD X G W e2 f2) (hi : N[i]? = some x := by rfl) (hv : Vis sc x := by first | exact Or.inl rfl | exact Or.inr (Or.inl rfl) | exact Or.inr (Or.inr rfl)) (hd : (x == ("__debug__" : Str)) = false := by decide) (hcd : (x == ("__classdict__" : Str)) = false := by decide)
    (hs : starEach [e1, e2] X.env = (false, eval e1 X.env) :: starEach [e2] X.env := by rfl) (hs2 : starEach [e2] X.env = (false, eval e2 X.env) :: starEach [] X.env := by rfl)
    (hbase : attributeBase (.Name x p) "insert" X.env (eval (.Name x p) X.env) = eval (.Name x p) X.env := by rfl)
    (hfew : ((backTo pos (starEach [e1, e2] X.env)).all (fun x => !x.1) && (backToKw pos (keywordEach [] X.env)).all (fun x => x.1.isSome)
      && decide ([e1, e2].length + ([] : List Keyword).length + (if ([] : List Keyword).isEmpty then 0 else 1) < 30)) = true := by rfl)
    (hline : (apos.endLine == pos.line) = true := by rfl) (hplain : (backTo pos (starEach [e2] X.env)).any (·.1) = false := by rfl) : SV X G W (.Call (.Attribute (.Name x p) "insert" apos) [e1, e2] [] pos) (insM i f1 f2) := by
  refine PE.imp (pe_bm PySem.F.plainAttrs_list PySem.F.slot_list_insert PySem.F.type_list_insert mt_insert (name_pe A i hi hv hd hcd) (pa_cons h1 (pa_cons h2 pa_nil hs2) hs) hbase hfew hline hs hplain) fun σ H Q ⟨O, env, R, r, er, pr⟩ => ?_
  unfold insM at er
  split at er
  · cases er
  · rename_i xs hl
    obtain ⟨q, vs, e1, e2, _⟩ := R.lstAt hl
    refine ⟨_, e1, .inl ⟨rfl, vs, SqL.of e2⟩, ?_⟩
    obtain ⟨O1, env1, R1, r1, e3, p1⟩ := bindL (RV := RD G) (RW := RL G) (Q := Q) R ⟨r, er, pr⟩
    refine ⟨O1, env1, R1, r1, e3, p1.mono fun v H2 ⟨d, env2, O2, R2, s2, rd, t2⟩ => ?_⟩
    obtain ⟨O3, env3, R3, r3, e4, p3⟩ := bindL (RV := RD G) (RW := RL G) (Q := Q) R2 t2
    refine ⟨O3, env3, R3, r3, e4, p3.mono fun w H4 ⟨d', env4, O4, R4, s4, rd', r5, er5, p5⟩ => ?_⟩
    unfold insO at er5
    cases d with
    | int n =>
      dsimp only at er5
      cases hl2 : listAt env4 i with
      | none => rw [hl2] at er5; cases er5
      | some ys =>
       rw [hl2] at er5
       dsimp only at er5
       split at er5
       · rename_i hz
         cases er5
         obtain ⟨q', ws, g1, g2, g3, _⟩ := R4.lstAt hl2
         rw [e1] at g1; cases g1
         have ry : RpAll G.K O4 H4 (ys.take n.toNat ++ [d'] ++ ys.drop n.toNat) (ws.take n.toNat ++ [w] ++ ws.drop n.toNat) := ((RpAll.takeN _ g3).append (by simp only [RpAll]; exact ⟨rd', True.intro⟩)).append (RpAll.dropN _ g3)
         obtain ⟨R5, s5⟩ := R4.changed hl2 e1 (by rw [g2]; exact fun z => nomatch z) ry
         refine ⟨q, ws, n, w, rfl, by rw [Rp.int_inv rd], g2, by rw [← g3.length]; exact hz.1, hz.2.1, hz.2.2, p5 .non O4 _ R5 s5 (Rp.non' (K := G.K) (O := O4) (H := upd H4 q (.lst (ws.take n.toNat ++ [w] ++ ws.drop n.toNat))))⟩
       · cases er5
    | _ => cases er5
theorem RpAll.three {O : Own} {H : Hp} {d e f : D} {xs : List V} (h : RpAll K O H [d, e, f] xs) : ∃ u v w, xs = [u, v, w] ∧ Rp K O H d u ∧ Rp K O H e v ∧ Rp K O H f w := by
  match xs, h with
  | [u, v, w], h => simp only [RpAll] at h; exact ⟨u, v, w, rfl, h.1, h.2.1, h.2.2.1⟩
  | [], h => simp only [RpAll] at h
  | [_], h => simp only [RpAll] at h; exact h.2.elim
  | [_, _], h => simp only [RpAll] at h; exact h.2.2.elim
  | _ :: _ :: _ :: _ :: _, h => simp only [RpAll] at h; exact h.2.2.2.elim
/-- a, b, c = x, y, z (plain names) -/
def parS3 (i j l : Nat) (fa : M (List D)) : Stm := thenS fa fun ds env => match ds with
  | [x, y, z] => match storeE i (.d x) env with
    | none => none
    | some e => match storeE j (.d y) e with
      | none => none
      | some e => (storeE l (.d z) e).map fun e => (.nx, e)
  | _ => none
theorem ss_par3 (A : At X G W N sc blk k Mo) (i j l : Nat) {x y z : Str} {a b c : Expr} {fa : M (List D)} {px py pz pt : Pos} {kt k2 : Nat} {pt2 : Pos} (h : SA X G W [a, b, c] fa) (hi : N[i]? = some x := by rfl) (hj : N[j]? = some y := by rfl) (hl : N[l]? = some z := by rfl) (hij : i ≠ j := by decide) (hil : i ≠ l := by decide) (hjl : j ≠ l := by decide)
    (hx : sc.names.lookup x = some .local := by rfl) (hy : sc.names.lookup y = some .local := by rfl) (hz : sc.names.lookup z = some .local := by rfl)
    (hw : ∀ env : Env, env.scope = sc → swappedStores [.Tuple [.Name x px, .Name y py, .Name z pz] kt pt] (.Tuple [a, b, c] k2 pt2) env = pure (some [x, y, z]) := by intro env h; obtain ⟨⟩ := env; cases h; rfl)
    (hs : swapsWithSole [.Tuple [.Name x px, .Name y py, .Name z pz] kt pt] (.Tuple [a, b, c] k2 pt2) pos.line X.env = pure false := by rfl) :
    SS X G W (.Assign [.Tuple [.Name x px, .Name y py, .Name z pz] kt pt] (.Tuple [a, b, c] k2 pt2) pos) (parS3 i j l fa) := by
  refine PS.imp (ps_par3 A.calm (by rw [A.hN]; exact A.nd) (by rw [A.hN]; exact hi) (by rw [A.hN]; exact hj) (by rw [A.hN]; exact hl) hij hil hjl (by rw [A.hsc]; exact hx) (by rw [A.hsc]; exact hy) (by rw [A.hsc]; exact hz) h (hw _ A.hsc) hs) fun D σ H ⟨O, env, R, t⟩ => ?_
  obtain ⟨O1, env1, R1, r1, e1, p1⟩ := bindS (RV := RA G) R t
  refine ⟨O1, env1, R1, r1, e1, p1.mono fun vs H2 ⟨ds, env2, O2, R2, s2, rx, r, er, p⟩ => ?_⟩
  dsimp only at er
  split at er
  · rename_i dx dy dz
    obtain ⟨u, v, w, rfl, ru, rv, rw'⟩ := RpAll.three rx
    cases h1 : storeE i (.d dx) env2 with
    | none => rw [h1] at er; cases er
    | some e1 =>
      rw [h1] at er
      dsimp only at er
      cases h2 : storeE j (.d dy) e1 with
      | none => rw [h2] at er; cases er
      | some e2 =>
        rw [h2] at er
        dsimp only at er
        cases h3 : storeE l (.d dz) e2 with
        | none => rw [h3] at er; cases er
        | some e3 =>
          rw [h3] at er
          cases er
          have R3 := R2.store (x := .d dx) h1 ru
          have R4 := R3.store (x := .d dy) h2 rv
          have R5 := R4.store (x := .d dz) h3 rw'
          exact ⟨u, v, w, rfl, p _ O2 H2 R5 Step.refl⟩
  · cases er
theorem swNone {X : Cx} {sc : Scope} {tg e : Expr} (h : ∀ env : Env, env.scope = sc → swappedStores [tg] e env = pure none) (hs : X.env.scope = sc) : swappedStores [tg] e X.env = pure none := h _ hs
theorem At.u65 (A : At X G W N sc blk k Mo) : X.A.units + 65 < cLine := by have := A.room.un; omega
theorem bt_all : bootBuiltins "all" = some (.builtin "all") := by decide +kernel
theorem bt_any : bootBuiltins "any" = some (.builtin "any") := by decide +kernel
end
end PV

/-! PV30: a star in a target. -/
namespace PV
open PySem PySem.Spec PySem.Calls PyProof.Rows L2
theorem star_items {prog : Program} {w : World} {A : Around} {E : Value → Shared → Prop} {s : Shared} {l : Addr} {x : Value} {xs : List Value} {Q : List Value → Shared → Prop} (hl : IsTup s.heap l (x :: xs).toArray) (hh : A.handled = none) (hz : xs.length + 1 ≤ sizeLine)
    (h : ∀ (h' : Heap) (tk : Nat), (∀ b o, s.heap.get? b = some o → h'.get? b = some o) → Q [x, .ref h'.objs.size] { s with heap := h'.push (seqObj "list" xs.toArray 0), toks := tk }) : wpAny (model prog w) A (unpackItems (.ref l) 2 (some 1)) Q E s := by
  have hlt : l ≠ s.heap.objs.size := by obtain ⟨o, ho, _⟩ := hl; exact Nat.ne_of_lt (Heap.lt_size ho)
  have hsz : (x :: xs).toArray.size = xs.length + 1 := by simp
  unfold unpackItems
  refine wpAny_bind ?_
  unfold notIterableAtAll
  refine wpAny_bind (wpAny_specialOf hl.typeIs slot_tuple_iter.lookup ?_)
  refine wpAny_pure ?_
  simp only [Bool.false_eq_true, if_false]
  refine wpAny_bind (wpAny_holding (iter_tuple hl ?_))
  refine wpAny_bind (wpAny_holding (draw_tuple hlt 1 0 _ _ ⟨_, Heap.get?_push_size _ rfl, rfl, rfl⟩ (hl.push _) (by omega) fun h₁ hit₁ hs₁ => ?_))
  have hl₁ : IsTup h₁ l (x :: xs).toArray := (hl.push _).extBut hs₁.extBut hlt
  rw [Nat.zero_add] at hit₁
  have hit₁' := hit₁
  obtain ⟨oi, hoi, _⟩ := hit₁'
  have hl₁' := hl₁
  obtain ⟨ol, hol, _⟩ := hl₁'
  rw [List.drop_zero]
  have e1 : (x :: xs).toArray.toList.take 1 = [x] := rfl
  have e2 : (x :: xs).toArray.toList.drop 1 = xs := rfl
  rw [e1, if_neg (show ¬ (([x] : List Value).length < 1) by simp)]
  refine wpAny_bind (wpAny_holding (W.kun_collect (s := { s with heap := h₁ }) (T := "tuple_iterator") (.inr (.inr (.inr rfl))) (Walks.tuple (A := A.in1) hh s.heap.objs.size l hlt (x :: xs).toArray) (fun j u st => st.1.typeIs) (k := 1) (by omega) ⟨hit₁, hl₁⟩ (Heap.lt_size hoi) (Heap.lt_size hol) (fun h₂ tk hk => ?_) (by omega)))
  rw [e2]
  show wpAny _ _ (if xs.length < 0 then _ else _) _ _ _
  rw [if_neg (by omega)]
  show wpAny _ _ (newList (xs.take (xs.length - 0)) >>= fun d => pure ([x] ++ [d] ++ xs.drop (xs.length - 0))) _ _ _
  rw [Nat.sub_zero, List.take_length, List.drop_length]
  refine wpAny_bind (wpAny_newList ?_ (by omega))
  refine wpAny_pure (h h₂ tk fun b o e => ?_)
  have hb : b ≠ s.heap.objs.size := Nat.ne_of_lt (Heap.lt_size e)
  exact hk b o hb (hs₁.extBut b o hb (Heap.get?_push_of_some _ e))
theorem pg_star {X : Cx} (hc : X.calm = true) {x y : Str} {px py ps pos : Pos} {kk : Nat} {t : TGs} (h : PGs X [.Name x px, .Name y py] t) : PG X (.Tuple [.Name x px, .Starred (.Name y py) ps] kk pos) (fun v σ H Q => ∃ a z zs, v = .ref a ∧ SqT X.K H a (z :: zs) ∧ ∀ p, H p = none → t [z, .ref p] σ (upd H p (.lst zs)) Q) := by
  refine ⟨fun pins s σ H v u Q I r hw => ?_⟩
  obtain ⟨a, z, zs, rfl, hq, hw⟩ := hw
  cases r
  obtain ⟨its, rv, ht, hz⟩ := I.tuple hq
  cases rv with
  | cons r1 r2 =>
    rename_i u1 us
    have hlen : zs.length = us.length := r2.length
    rw [assign_Tuple]
    refine wpAny_bind (wpAny_standAt ?_)
    unfold unpack
    refine wpAny_bind (wpAny_holding (star_items (x := u1) (xs := us) ht (I.ok.hd hc) (by have := hz; simp at this; omega) fun h' tk k => ?_))
    have I1 : Inv X pins σ H { s with heap := h', toks := tk } := I.kept k
    have I2 : Inv X pins σ (upd H h'.objs.size (.lst zs)) { s with heap := h'.push (seqObj "list" us.toArray 0), toks := tk } :=
      I1.laid (t' := tk) (fun b o e => Heap.get?_push_of_some _ e) (Nat.le_refl _) (show ObjOk X.prog X.w _ _ _ (.lst zs) from ⟨by have := hz; simp at this; omega, us, 0, r2, Heap.get?_push_size _ rfl⟩)
    exact h.run pins _ σ _ [z, .ref h'.objs.size] [u1, .ref h'.objs.size] Q I2 (.cons r1 (.cons rfl .nil)) (hw _ (I1.hok.fresh (Nat.le_refl _)))
/-- x, *ys = a tuple -/
def starS (i j : Nat) (fa : M D) : Stm := thenS fa fun d env => match d with
  | .tuple (x :: xs) => match storeE i (.d x) env with
    | none => none
    | some e => (storeE j (.own xs) e).map fun e => (.nx, e)
  | _ => none
section
variable {X : Cx} {G : Gd} {W : WX} {N : List Str} {sc : Scope} {blk : Bool} {k : Nat} {Mo : Wo} {pos : Pos} {e : Expr}
theorem ss_star (A : At X G W N sc blk k Mo) (i j : Nat) {x y : Str} {fa : M D} {px py ps pt : Pos} {kk : Nat} (h : SD X G W e fa) (hi : N[i]? = some x := by rfl) (hj : N[j]? = some y := by rfl) (hij : i ≠ j := by decide)
    (hx : Loc sc x := by first | exact Or.inl rfl | exact Or.inr rfl) (hy : Loc sc y := by first | exact Or.inl rfl | exact Or.inr rfl) (hf : blk = false := by rfl)
    (hs : swapsWithSole [.Tuple [.Name x px, .Starred (.Name y py) ps] kk pt] e pos.line X.env = pure false := by rfl) (hw : swappedStores [.Tuple [.Name x px, .Starred (.Name y py) ps] kk pt] e X.env = pure none := by rfl) (h1 : (assignEach [.Tuple [.Name x px, .Starred (.Name y py) ps] kk pt] X.env).map (·.2) = [assign (.Tuple [.Name x px, .Starred (.Name y py) ps] kk pt) X.env] := by rfl) :
    SS X G W (.Assign [.Tuple [.Name x px, .Starred (.Name y py) ps] kk pt] e pos) (starS i j fa) := by
  have nd : X.N.Nodup := by rw [A.hN]; exact A.nd
  have g1 : PG X (.Name x px) (gName i) := pg_name (i := i) nd (by rw [A.hN]; exact hi) (by rw [A.hsc]; exact hx) (.inl (A.fn hf x))
  have g2 : PG X (.Name y py) (gName j) := pg_name (i := j) nd (by rw [A.hN]; exact hj) (by rw [A.hsc]; exact hy) (.inl (A.fn hf y))
  refine PS.imp (ps_asg h (pg_star A.calm (pgs_cons g1 (pgs_cons g2 pgs_nil))) hs hw h1) fun D σ H ⟨O, env, R, tt⟩ => ?_
  obtain ⟨O1, env1, R1, r1, e1, p1⟩ := bindS (RV := RD G) R tt
  refine ⟨O1, env1, R1, r1, e1, p1.mono fun v H2 ⟨d, env2, O2, R2, s2, rx, r, er, p⟩ => ?_⟩
  dsimp only at er
  split at er
  · rename_i d ds
    obtain ⟨a, vs, rfl, ra, qa⟩ := Rp.tup_inv rx
    cases vs with
    | nil => simp only [RpAll] at qa
    | cons z zs =>
      simp only [RpAll] at qa
      obtain ⟨q1, q2⟩ := qa
      refine ⟨a, z, zs, rfl, by rw [A.hK]; exact ra.sq, fun q hq => ?_⟩
      cases h1 : storeE i (.d d) env2 with
      | none => rw [h1] at er; cases er
      | some e1 =>
        rw [h1] at er
        dsimp only at er
        cases h2 : storeE j (.own ds) e1 with
        | none => rw [h2] at er; cases er
        | some e2 =>
          rw [h2] at er
          cases er
          have g : Grow H2 (upd H2 q (.lst zs)) := Grow.upd hq
          have R3 := R2.new g hq (by rw [upd_same]; exact fun z => nomatch z)
          have st : Step O2 H2 _ (upd H2 q (.lst zs)) := g.stepNew hq
          have R4 := R3.store (x := .d d) h1 (Rp.step st d z q1)
          have R5 := R4.store (i := j) (x := .own ds) (v := .ref q) h2 ⟨q, zs, rfl, upd_same, RpAll.step st ds zs q2, .inr rfl, R2.fresh0 hq, fun m hm em => by
            have hne : m ≠ i := fun z0 => by
              subst z0
              unfold storeE at h1
              split at h1
              · cases h1
              · cases h1
              · rename_i s hm' hi'
                cases h1
                have hl : m < env2.length := (List.getElem?_eq_some_iff.mp hi').1
                rcases hm with ⟨xs, hx⟩ | ⟨xs, hx⟩ <;> · rw [List.getElem?_set_self hl] at hx; cases hx
            have ho : OwnAt env2 m := by
              unfold storeE at h1
              split at h1
              · cases h1
              · cases h1
              · cases h1
                rcases hm with ⟨xs, hx⟩ | ⟨xs, hx⟩
                · rw [List.getElem?_set_ne (Ne.symm hne)] at hx; exact .inl ⟨xs, hx⟩
                · rw [List.getElem?_set_ne (Ne.symm hne)] at hx; exact .inr ⟨xs, hx⟩
            rw [List.getElem?_set_ne (Ne.symm hne)] at em
            obtain ⟨q', vs', e1', h1', _⟩ := R2.ownAddr ho
            rw [em] at e1'; cases e1'
            rw [hq] at h1'; cases h1'⟩
          exact ⟨z, [.ref q], rfl, .ref q, [], rfl, rfl, p _ _ _ R5 st⟩
  · cases er
end
end PV

/-! PV31: sorted(set(pairs)), pop, the greatest and the least of a list. -/
namespace PV
open PySem PySem.Spec PySem.Calls PyProof.Rows L2
/-! ### sorted(a set of pairs) -/
def addrOf : Value → Addr
  | .ref a => a
  | _ => 0
def pairOf : List Int → Int × Int
  | [x, y] => (x, y)
  | _ => (0, 0)
def lexL (p q : List Int) : Bool := SrtO.lexB (pairOf p) (pairOf q)
theorem refs_un : ∀ {vs : List Value}, (∀ v ∈ vs, ∃ a, v = Value.ref a) → vs = (vs.map addrOf).map Value.ref
  | [], _ => rfl
  | v :: vs, h => by
    obtain ⟨a, rfl⟩ := h v (List.mem_cons_self ..)
    rw [List.map_cons, List.map_cons, ← refs_un fun u hu => h u (List.mem_cons_of_mem _ hu)]
    rfl
theorem vals_refs : ∀ as : List Addr, Vals (as.map V.ref) (as.map Value.ref)
  | [] => .nil
  | _ :: as => .cons rfl (vals_refs as)
def rSortedSP (K : PySem.W.Frag) (P : Program) (w : World) : List V → Hp → VK → Prop := fun vs H Q => ∃ (a : Addr) (L : List (Addr × List Int)), vs = [V.ref a] ∧ H a = some (SetTO P w a L) ∧ (∀ p ∈ L, SqT K H p.1 (p.2.map V.int) ∧ p.2.length = 2) ∧
  ∀ (M : List (Addr × List Int)) (p : Addr), M.Perm L → (M.map (·.2)).Nodup → M.Pairwise (fun q r => lexL r.2 q.2 = false) → H p = none → Q (.ref p) (upd H p (.lst (M.map fun q => V.ref q.1)))
theorem pair_len {l : List Int} (h : l.length = 2) : ∃ x y, l = [x, y] := by
  match l, h with
  | [x, y], _ => exact ⟨x, y, rfl⟩
theorem two_ints {vs : List Value} {x y : Int} (h : IntsAre vs [x, y]) : ∃ t u, vs = [.int x t, .int y u] := by
  have e := h.length
  match vs, h, e with
  | [v, u], h, _ =>
    have h1 := h.nums
    obtain ⟨xs, e⟩ := h.allInts.items
    match xs, e with
    | ⟨[(i, t), (j, k)]⟩, e =>
      have e' : [v, u] = [Value.int i t, Value.int j k] := by simpa [intItems] using e
      cases e'
      have h2 : [i, j] = [x, y] := h1
      cases h2
      exact ⟨t, k, rfl⟩
    | ⟨[]⟩, e => simp [intItems] at e
    | ⟨[_]⟩, e => simp [intItems] at e
    | ⟨_ :: _ :: _ :: _⟩, e => simp [intItems] at e
theorem cr_sortedSP {X : Cx} (hc : X.calm = true) : CallR X (.builtin "sorted") (rSortedSP X.K X.prog X.w) := by
  intro pins s σ H vs us Q I r h
  obtain ⟨a, L, rfl, ha, hk, q⟩ := h
  have S0 : SetT0 X.prog X.w s.heap a L := (I.hok a _ ha).1
  obtain ⟨es, ep, t, S⟩ := S0.full fun p hp => I.isT (hk p hp).1
  obtain ⟨o, ho, hex, hd⟩ := S.ob
  have hlen := S.size
  have hfew := S.few
  rw [Vals.ref1 r]
  refine Calls.call_function_entry kind_sorted plain_sorted entry_sorted (args_sorted1 _) (?_ : wpAny _ _ (Builtin.«sorted» _) _ _ _)
  unfold Builtin.«sorted»
  refine wpAny_bind (m := checkCount "sorted" 1 1 _) (wpAny_pure (wpAny_bind (collect_set (A := X.A.in1) (I.ok.hd hc) ⟨o, ho, hex.1, hd⟩ S.fits (by unfold scanBound; omega) S.tab.ris S.led fun s1 vs k1 hz g1 o1 pm => ?_)))
  have hes : es.toList.map (·.2) = (L.map (·.1)).map Value.ref := by
    rw [S.rows]
    unfold rowsOf
    rw [List.map_map, List.map_map]; rfl
  rw [hes] at pm
  have hrefs : ∀ us : List Value, us.Perm vs → ∀ v ∈ us, ∃ q ∈ L, v = Value.ref q.1 := fun us hu v hv => by
    obtain ⟨b, hb, e⟩ := List.mem_map.mp ((hu.trans pm).mem_iff.mp hv)
    obtain ⟨q, hq, e2⟩ := List.mem_map.mp hb
    exact ⟨q, hq, by rw [← e, ← e2]⟩
  have hvl : vs.length = L.length := by rw [pm.length_eq, List.length_map, List.length_map]
  have hvz : vs.length ≤ sizeLine := by rw [sizeLine_eq]; omega
  refine wpAny_bind (wpAny_newList ?_ hvz)
  have hoL : (s1.heap.push (seqObj "list" vs.toArray 0)).get? s1.heap.objs.size = some (seqObj "list" vs.toArray 0) := Heap.get?_push_size _ rfl
  have tk : ∀ q ∈ L, TS.TupInts (s1.heap.push (seqObj "list" vs.toArray 0)) (.ref q.1) q.2 := fun q hq => tupInts_of (P := X.prog) (w := X.w) (isT_keep (S.tup q hq) fun b u e => Heap.get?_push_of_some _ (k1 b u e))
  have prs : ∀ v ∈ vs, Srt.IsPair (s1.heap.push (seqObj "list" vs.toArray 0)) v (pairOf (TS.intsOf (s1.heap.push (seqObj "list" vs.toArray 0)) v)).1 (pairOf (TS.intsOf (s1.heap.push (seqObj "list" vs.toArray 0)) v)).2 := fun v hv => by
    obtain ⟨q, hq, rfl⟩ := hrefs vs (List.Perm.refl _) v hv
    have e1 := (tk q hq).ints
    obtain ⟨x, y, e2⟩ := pair_len (hk q hq).2
    rw [e1, e2]
    obtain ⟨b, its, e3, ⟨o3, ho3, hc3, n3, hd3⟩, hi⟩ := tk q hq
    rw [e2] at hi
    obtain ⟨t1, t2, e4⟩ := two_ints hi
    have e5 : its = #[.int x t1, .int y t2] := by
      rw [← Array.toArray_toList (xs := its), e4]
    rw [e5] at hd3
    exact ⟨b, o3, t1, t2, n3, e3, ho3, hc3, hd3⟩
  refine wpAny_bind (wpAny_holding (wpAny_call_entry slot_list_sort ⟨_, hoL, rfl⟩ entry_list_sort (SrtO.list_sort_ord (s := { s1 with heap := s1.heap.push (seqObj "list" vs.toArray 0) }) (SrtO.swo_lex fun v => pairOf (TS.intsOf (s1.heap.push (seqObj "list" vs.toArray 0)) v)) hoL hvz
    (fun h2 => SrtO.pairs_sortableO (s := { s1 with heap := s1.heap.push (seqObj "list" vs.toArray 0) }) (by omega) prs fun o' e => ?_) fun out hs hb => ⟨_, rfl, ?_⟩) (args_list_sort _)))
  · have e' : some o' = some (seqObj "list" vs.toArray 0) := e.symm.trans hoL
    cases e'
    intro z
    exact absurd (Value.type.inj z) (by decide)
  · obtain ⟨c, hcc⟩ := sortedHeap_at (vs := vs) (out := out.toArray) hoL
    have pout : out.Perm ((L.map (·.1)).map Value.ref) := hb.perm.trans pm
    have eout : out = (out.map addrOf).map Value.ref := refs_un fun v hv => by
      obtain ⟨q, _, e⟩ := hrefs out hb.perm v hv
      exact ⟨q.1, e⟩
    have pa : (out.map addrOf).Perm (L.map (·.1)) := by
      have z := pout.map addrOf
      rw [List.map_map] at z
      exact z.trans (by rw [show (addrOf ∘ Value.ref) = id from rfl, List.map_id])
    have pM : ((out.map addrOf).map fun b => (b, TS.intsOf (s1.heap.push (seqObj "list" vs.toArray 0)) (.ref b))).Perm L := by
      have z := pa.map fun b => (b, TS.intsOf (s1.heap.push (seqObj "list" vs.toArray 0)) (.ref b))
      refine z.trans (List.Perm.of_eq ?_)
      rw [List.map_map]
      refine (List.map_congr_left fun q hq => ?_).trans (List.map_id L)
      show (q.1, TS.intsOf _ (.ref q.1)) = q
      rw [(tk q hq).ints]
    have hp : s.heap.objs.size ≤ s1.heap.objs.size := hz
    have hn : H s1.heap.objs.size = none := I.hok.fresh hp
    have kk : ∀ b u, s.heap.get? b = some u → (sortedHeap (s1.heap.push (seqObj "list" vs.toArray 0)) s1.heap.objs.size vs out.toArray).get? b = some u := fun b u e => by
      have z := k1 b u e
      have hlt := Heap.lt_size z
      exact (sortedHeap_old (Nat.ne_of_lt hlt) (by rw [size_push']; exact Nat.lt_succ_of_lt hlt)).trans (Heap.get?_push_of_some _ z)
    have eM : (((out.map addrOf).map fun b => (b, TS.intsOf (s1.heap.push (seqObj "list" vs.toArray 0)) (.ref b))).map fun q => V.ref q.1) = (out.map addrOf).map V.ref := by
      rw [List.map_map]; rfl
    have hl : ((out.map addrOf).map V.ref).length ≤ sizeLine := by
      rw [List.length_map, pa.length_eq, List.length_map, sizeLine_eq]; omega
    have qq := q _ s1.heap.objs.size pM ((pM.map (·.2)).nodup_iff.mpr S.nd) (by
      rw [eout] at hs
      exact List.pairwise_map.mpr (List.pairwise_map.mp hs)) hn
    rw [eM] at qq
    have new : ObjOk X.prog X.w (upd H s1.heap.objs.size (.lst ((out.map addrOf).map V.ref))) (sortedHeap (s1.heap.push (seqObj "list" vs.toArray 0)) s1.heap.objs.size vs out.toArray) s1.heap.objs.size (.lst ((out.map addrOf).map V.ref)) :=
      ⟨hl, out, c, by have := vals_refs (out.map addrOf); rw [← eout] at this; exact this, hcc⟩
    exact wpAny_pure ⟨_, rfl, .ref s1.heap.objs.size, _, I.call' (s' := { s1 with heap := sortedHeap (s1.heap.push (seqObj "list" vs.toArray 0)) s1.heap.objs.size vs out.toArray }) (ch := []) o1 (Un.laid kk hp hn) (I.hok.laid kk hp new) (by show AllBare s1.gens; rw [g1]; exact I.bare) (fun _ z => nomatch z), rfl, qq⟩
end PV

/-! PV32: meanings of sorted(set(pairs)), pop, max and min of lists. -/
namespace PV
open PySem PySem.Spec PySem.Calls PyProof.Rows L2
abbrev P2 := Int × Int
abbrev mkP (p : P2) : D := .tuple [.int p.1, .int p.2]
def prsD : List D → Option (List P2)
  | [] => some []
  | .tuple [.int x, .int y] :: ds => (prsD ds).map ((x, y) :: ·)
  | _ => none
theorem prsD_map : ∀ ps : List P2, prsD (ps.map mkP) = some ps
  | [] => rfl
  | p :: ps => by
    show (prsD (ps.map mkP)).map (p :: ·) = _
    rw [prsD_map ps]; rfl
/-- by the first, then by the second -/
def lt2 (p q : P2) : Prop := p.1 < q.1 ∨ (p.1 = q.1 ∧ p.2 < q.2)
instance (p q : P2) : Decidable (lt2 p q) := inferInstanceAs (Decidable (_ ∨ _))
def insP (p : P2) : List P2 → List P2
  | [] => [p]
  | q :: r => if p = q then q :: r else if lt2 p q then p :: q :: r else q :: insP p r
def sortP : List P2 → List P2
  | [] => []
  | p :: r => insP p (sortP r)
theorem lt2_tri {p q : P2} (h : ¬ p = q) (h2 : ¬ lt2 p q) : lt2 q p := by
  have : ¬ (p.1 = q.1 ∧ p.2 = q.2) := fun z => h (Prod.ext z.1 z.2)
  unfold lt2 at *
  omega
theorem lt2_tr {p q r : P2} (h : lt2 p q) (h2 : lt2 q r) : lt2 p r := by unfold lt2 at *; omega
theorem lt2_ir {p : P2} : ¬ lt2 p p := by unfold lt2; omega
theorem insP_mem {p x : P2} : ∀ {l : List P2}, x ∈ insP p l ↔ x = p ∨ x ∈ l
  | [] => by simp [insP]
  | q :: r => by
    unfold insP
    split
    · rename_i e; subst e; simp
    · split
      · simp
      · simp only [List.mem_cons, insP_mem (l := r)]
        constructor
        · rintro (h | h | h) <;> simp [h]
        · rintro (h | h | h) <;> simp [h]
theorem insP_sorted {p : P2} : ∀ {l : List P2}, l.Pairwise lt2 → (insP p l).Pairwise lt2
  | [], _ => List.pairwise_singleton ..
  | q :: r, h => by
    obtain ⟨h1, h2⟩ := List.pairwise_cons.mp h
    unfold insP
    split
    · exact h
    · rename_i ne
      split
      · rename_i lt
        exact List.pairwise_cons.mpr ⟨fun x hx => by
          rcases List.mem_cons.mp hx with rfl | hx
          · exact lt
          · exact lt2_tr lt (h1 x hx), h⟩
      · rename_i nl
        refine List.pairwise_cons.mpr ⟨fun x hx => ?_, insP_sorted h2⟩
        rcases insP_mem.mp hx with rfl | hx
        · exact lt2_tri ne nl
        · exact h1 x hx
theorem sortP_mem {x : P2} : ∀ {l : List P2}, x ∈ sortP l ↔ x ∈ l
  | [] => Iff.rfl
  | p :: r => by
    unfold sortP
    rw [insP_mem, sortP_mem, List.mem_cons]
theorem sortP_sorted : ∀ l : List P2, (sortP l).Pairwise lt2
  | [] => List.Pairwise.nil
  | p :: r => insP_sorted (sortP_sorted r)
theorem sorted_uniq : ∀ {l m : List P2}, l.Pairwise lt2 → m.Pairwise lt2 → (∀ x, x ∈ l ↔ x ∈ m) → l = m
  | [], [], _, _, _ => rfl
  | [], y :: m, _, _, h => absurd ((h y).mpr (List.mem_cons_self ..)) (by simp)
  | x :: l, [], _, _, h => absurd ((h x).mp (List.mem_cons_self ..)) (by simp)
  | x :: l, y :: m, hl, hm, h => by
    obtain ⟨a1, a2⟩ := List.pairwise_cons.mp hl
    obtain ⟨b1, b2⟩ := List.pairwise_cons.mp hm
    have e : x = y := by
      rcases List.mem_cons.mp ((h x).mp (List.mem_cons_self ..)) with e | hx
      · exact e
      · rcases List.mem_cons.mp ((h y).mpr (List.mem_cons_self ..)) with e | hy
        · exact e.symm
        · exact absurd (lt2_tr (a1 y hy) (b1 x hx)) lt2_ir
    subst e
    rw [sorted_uniq a2 b2 fun z => ?_]
    constructor
    · intro hz
      rcases List.mem_cons.mp ((h z).mp (List.mem_cons_of_mem _ hz)) with e | q
      · subst e; exact absurd (a1 z hz) lt2_ir
      · exact q
    · intro hz
      rcases List.mem_cons.mp ((h z).mpr (List.mem_cons_of_mem _ hz)) with e | q
      · subst e; exact absurd (b1 z hz) lt2_ir
      · exact q
theorem sortP_len : ∀ l : List P2, (sortP l).length ≤ l.length := by
  have hi : ∀ (p : P2) (l : List P2), (insP p l).length ≤ l.length + 1 := fun p l => by
    induction l with
    | nil => simp [insP]
    | cons q r ih =>
      unfold insP
      split
      · simp
      · split
        · simp
        · simp only [List.length_cons]; omega
  intro l
  induction l with
  | nil => simp [sortP]
  | cons p r ih =>
    unfold sortP
    have := hi p (sortP r)
    simp only [List.length_cons]; omega
def sortSetD : D → Option Vl
  | .list ds => (prsD ds).bind fun ps => if ps.length < 64 then some (.own ((sortP ps).map mkP)) else none
  | _ => none
/-- sorted(set(e)) -/
def sortSetM (fe : M D) : M Vl := fe.bnd fun d => M.opt (sortSetD d)
section
variable {K : PySem.W.Frag} {O : Own} {H : Hp}
theorem rpAll_two_ints {x y : Int} {vs : List V} (h : RpAll K O H [.int x, .int y] vs) : vs = [.int x, .int y] := by
  obtain ⟨v, w, rfl, h1, h2⟩ := RpAll.two h
  rw [h1.int_inv, h2.int_inv]
theorem prs_ks : ∀ {ds : List D} {vs : List V} {ps : List P2}, RpAll K O H ds vs → prsD ds = some ps → ∃ ks : List (Addr × List Int), vs = ks.map (fun q => V.ref q.1) ∧ ks.map (·.2) = ps.map (fun p => [p.1, p.2]) ∧ ∀ q ∈ ks, RdT K O H q.1 (q.2.map V.int)
  | [], vs, ps, r, e => by
    cases e
    match vs, r with
    | [], _ => exact ⟨[], rfl, rfl, fun _ z => by cases z⟩
    | _ :: _, r => simp only [RpAll] at r
  | d :: ds, vs, ps, r, e => by
    match vs, r with
    | [], r => simp only [RpAll] at r
    | v :: vs, r =>
      simp only [RpAll] at r
      unfold prsD at e
      split at e
      · rename_i h; cases h
      · rename_i x y ds' h
        cases h
        cases hp : prsD ds with
        | none => rw [hp] at e; cases e
        | some ps' =>
          rw [hp] at e; cases e
          obtain ⟨ks, e1, e2, e3⟩ := prs_ks r.2 hp
          obtain ⟨a, ws, rfl, ra, qa⟩ := Rp.tup_inv r.1
          rw [rpAll_two_ints qa] at ra
          refine ⟨(a, [x, y]) :: ks, by rw [List.map_cons, e1], by rw [List.map_cons, e2]; rfl, fun q hq => ?_⟩
          rcases List.mem_cons.mp hq with rfl | hq
          · exact ra
          · exact e3 q hq
      · cases e
theorem rp_pair {a : Addr} {x y : Int} (h : RdT K O H a [.int x, .int y]) : Rp K O H (mkP (x, y)) (.ref a) := by
  simp only [Rp]
  refine ⟨a, [.int x, .int y], rfl, h, ?_⟩
  simp only [RpAll]
  exact ⟨Rp.int', Rp.int', True.intro⟩
theorem rpAll_pairs : ∀ {ks : List (Addr × List Int)} {ps : List P2}, ks.map (·.2) = ps.map (fun p => [p.1, p.2]) → (∀ q ∈ ks, RdT K O H q.1 (q.2.map V.int)) → RpAll K O H (ps.map mkP) (ks.map fun q => V.ref q.1)
  | [], [], _, _ => by simp [RpAll]
  | [], _ :: _, e, _ => by cases e
  | _ :: _, [], e, _ => by cases e
  | q :: ks, p :: ps, e, h => by
    rw [List.map_cons, List.map_cons] at e
    injection e with e1 e2
    simp only [List.map_cons, RpAll]
    refine ⟨?_, rpAll_pairs e2 fun q hq => h q (List.mem_cons_of_mem _ hq)⟩
    have z := h q (List.mem_cons_self ..)
    rw [show q.2 = [p.1, p.2] from e1] at z
    exact rp_pair z
theorem lexL_lt2 {p q : P2} : lexL [p.1, p.2] [q.1, q.2] = true ↔ lt2 p q := SrtO.lexB_iff
end
section
variable {X : Cx} {G : Gd} {W : WX} {N : List Str} {sc : Scope} {blk : Bool} {k : Nat} {Mo : Wo} {pos : Pos} {e : Expr}
theorem bt_set : bootBuiltins "set" = some (.type "set") := by decide +kernel
theorem bt_sorted : bootBuiltins "sorted" = some (.builtin "sorted") := by decide +kernel
theorem sv_sortSet (A : At X G W N sc blk k Mo) {p1 p2 pos2 : Pos} {fe : M D} (h : SD X G W e fe) (hg : sc.names.lookup ("sorted" : Str) = some .globalImplicit) (hm : Mo.mg "sorted" = none) (hg2 : sc.names.lookup ("set" : Str) = some .globalImplicit) (hm2 : Mo.mg "set" = none)
    (he : starEach [e] X.env = (false, eval e X.env) :: starEach [] X.env := by rfl) (hpl2 : (backTo pos2 (starEach [] X.env)).any (·.1) = false := by rfl) (hpl : (backTo pos (starEach [] X.env)).any (·.1) = false := by rfl)
    (he2 : starEach [.Call (.Name "set" p2) [e] [] pos2] X.env = (false, eval (.Call (.Name "set" p2) [e] [] pos2) X.env) :: starEach [] X.env := by rfl) :
    SV X G W (.Call (.Name "sorted" p1) [.Call (.Name "set" p2) [e] [] pos2] [] pos) (sortSetM fe) := by
  have inner := pe_callTy (pos := pos2) (cr_setOfT A.calm A.u64) (by show X.env.scope.names.lookup ("set" : Str) = _; rw [A.hsc]; exact hg2) (by rw [A.hmg]; exact hm2) bt_set (pa_cons h pa_nil he) (by decide) (by decide) he hpl2 (p := p2)
  refine PE.imp (pe_callB (cr_sortedSP A.calm) (by show X.env.scope.names.lookup ("sorted" : Str) = _; rw [A.hsc]; exact hg) (by rw [A.hmg]; exact hm) bt_sorted (pa_cons inner pa_nil he2) (by decide) (by decide) he2 hpl) fun σ H Q ⟨O, env, R, t⟩ => ?_
  obtain ⟨O1, env1, R1, r1, e1, p1⟩ := bindL (RV := RD G) (RW := RL G) (Q := Q) R t
  refine ⟨O1, env1, R1, r1, e1, p1.mono fun x H2 ⟨d, env2, O2, R2, s2, rx, t2⟩ => ?_⟩
  obtain ⟨vl, ev, q⟩ := finOp R2 t2
  unfold sortSetD at ev
  split at ev
  · rename_i ds
    cases hp : prsD ds with
    | none => rw [hp] at ev; cases ev
    | some ps =>
      rw [hp] at ev
      simp only [Option.bind_some] at ev
      split at ev
      · rename_i hz
        cases ev
        obtain ⟨a, xs, rfl, ra, qa⟩ := Rp.list_inv rx
        obtain ⟨ks, f1, f2, f3⟩ := prs_ks qa hp
        have hks : ks.length = ps.length := by
          have z := congrArg List.length f2
          simpa using z
        show rSetOfT X.K X.prog X.w [V.ref a] H2 (fun s H3 => rSortedSP X.K X.prog X.w [s] H3 Q)
        rw [A.hK]
        refine ⟨a, ks, rfl, by rw [← f1]; exact ra.sq, fun q hq => (f3 q hq).sq, by omega, fun b L hb hL1 hL2 => ?_⟩
        have g1 : Grow H2 (upd H2 b (SetTO X.prog X.w b L)) := Grow.upd hb
        have st1 := g1.step (O := O2)
        refine ⟨b, L, rfl, upd_same, fun p hp' => ⟨?_, ?_⟩, fun M p pm nd sr hpn => ?_⟩
        · exact ((f3 p (hL1 p hp')).step st1).sq
        · have : p.2 ∈ ks.map (·.2) := List.mem_map.mpr ⟨p, hL1 p hp', rfl⟩
          rw [f2] at this
          obtain ⟨z, _, e⟩ := List.mem_map.mp this
          rw [← e]; rfl
        · have hpb : p ≠ b := fun z => by rw [z, upd_same] at hpn; cases hpn
          have hp2 : H2 p = none := by rw [upd_ne hpb] at hpn; exact hpn
          have hM : ∀ z ∈ M, z ∈ ks := fun z hz' => hL1 z (pm.mem_iff.mp hz')
          have e0 : M.map (·.2) = (sortP ps).map (fun p => [p.1, p.2]) := by
            obtain ⟨ms, em⟩ : ∃ ms : List P2, M.map (·.2) = ms.map (fun p => [p.1, p.2]) := by
              refine ⟨M.map fun z => pairOf z.2, ?_⟩
              rw [List.map_map]
              refine List.map_congr_left fun z hz' => ?_
              have : z.2 ∈ ks.map (·.2) := List.mem_map.mpr ⟨z, hM z hz', rfl⟩
              rw [f2] at this
              obtain ⟨w, _, e⟩ := List.mem_map.mp this
              show z.2 = [(pairOf z.2).1, (pairOf z.2).2]
              rw [← e]; rfl
            rw [em]
            congr 1
            refine sorted_uniq ?_ (sortP_sorted ps) fun z => ?_
            · have sr' : (M.map (·.2)).Pairwise (fun a b => lexL b a = false) := List.pairwise_map.mpr sr
              have both := List.pairwise_and_iff.mpr ⟨sr', nd⟩
              rw [em] at both
              refine (List.pairwise_map.mp both).imp fun {u v} huv => ?_
              refine lt2_tri (fun e => huv.2 (by rw [e])) fun hlt => ?_
              rw [lexL_lt2.mpr hlt] at huv
              exact absurd huv.1 (by decide)
            · rw [sortP_mem]
              have k1 : z ∈ ms ↔ [z.1, z.2] ∈ M.map (·.2) := by
                rw [em, List.mem_map]
                constructor
                · intro h; exact ⟨z, h, rfl⟩
                · rintro ⟨w, hw, e⟩
                  have : w = z := by
                    injection e with e1 e2
                    injection e2 with e2
                    exact Prod.ext e1 e2
                  rw [← this]; exact hw
              have k2 : z ∈ ps ↔ [z.1, z.2] ∈ ks.map (·.2) := by
                rw [f2, List.mem_map]
                constructor
                · intro h; exact ⟨z, h, rfl⟩
                · rintro ⟨w, hw, e⟩
                  have : w = z := by
                    injection e with e1 e2
                    injection e2 with e2
                    exact Prod.ext e1 e2
                  rw [← this]; exact hw
              rw [k1, k2]
              constructor
              · intro h
                obtain ⟨w, hw, e⟩ := List.mem_map.mp h
                exact List.mem_map.mpr ⟨w, hM w hw, e⟩
              · intro h
                obtain ⟨w, hw, e⟩ := List.mem_map.mp h
                have := hL2 w hw
                rw [e] at this
                obtain ⟨u, hu, eu⟩ := List.mem_map.mp this
                exact List.mem_map.mpr ⟨u, pm.mem_iff.mpr hu, eu⟩
          have ra2 : RpAll G.K O2 H2 ((sortP ps).map mkP) (M.map fun q => V.ref q.1) := rpAll_pairs e0 fun z hz' => f3 z (hM z hz')
          exact q _ _ (g1.trans (Grow.upd hpn)) ⟨p, _, rfl, hp2, upd_same, ra2⟩
      · cases ev
  · cases ev
end
end PV

/-! PV33: pop; max and min of a list; max of five. -/
namespace PV
open PySem PySem.Spec PySem.Calls PyProof.Rows L2
/-- xs.pop(), xs of slot i -/
def popM (i : Nat) : M Vl := fun env => match listAt env i with
  | none => none
  | some xs => match xs.getLast? with
    | none => none
    | some d => some (.ok (.d d), setOut env i xs.dropLast)
section
variable {X : Cx} {G : Gd} {W : WX} {N : List Str} {sc : Scope} {blk : Bool} {k : Nat} {Mo : Wo} {pos : Pos} {e : Expr}
theorem sv_pop (A : At X G W N sc blk k Mo) (i : Nat) {x : Str} {p apos : Pos} (hi : N[i]? = some x := by rfl) (hv : Vis sc x := by first | exact Or.inl rfl | exact Or.inr (Or.inl rfl) | exact Or.inr (Or.inr rfl)) (hd : (x == ("__debug__" : Str)) = false := by decide) (hcd : (x == ("__classdict__" : Str)) = false := by decide)
    (hbase : attributeBase (.Name x p) "pop" X.env (eval (.Name x p) X.env) = eval (.Name x p) X.env := by rfl) (hline : (apos.endLine == pos.line) = true := by rfl) : SV X G W (.Call (.Attribute (.Name x p) "pop" apos) [] [] pos) (popM i) := by
  refine PE.imp (pe_bm0 PySem.F.plainAttrs_list PySem.F.slot_list_pop PySem.F.type_list_pop mt_pop (name_pe A i hi hv hd hcd) hbase hline) fun σ H Q ⟨O, env, R, r, er, pr⟩ => ?_
  unfold popM at er
  split at er
  · cases er
  · rename_i xs hl
    split at er
    · cases er
    · rename_i d hd'
      cases er
      obtain ⟨q, vs, e1, e2, e3, _⟩ := R.lstAt hl
      have hlen := e3.length
      rw [List.getLast?_eq_getElem?] at hd'
      obtain ⟨y, hy, ry⟩ := e3.get hd'
      rw [hlen] at hy
      have r2 : RpAll G.K O H xs.dropLast vs.dropLast := by
        rw [List.dropLast_eq_take, List.dropLast_eq_take, hlen]
        exact RpAll.takeN _ e3
      obtain ⟨R2, s2⟩ := R.changed hl e1 (by rw [e2]; exact fun z => nomatch z) r2
      exact ⟨_, e1, .inl ⟨rfl, vs, SqL.of e2⟩, q, vs, y, rfl, rfl, e2, hy, pr y O _ R2 s2 (Rp.step s2 d y ry)⟩
end
/-! ### the greatest, the least -/
def intsD : List D → Option (List Int)
  | [] => some []
  | .int i :: ds => (intsD ds).map (i :: ·)
  | _ => none
theorem intsD_map : ∀ ns : List Int, intsD (ns.map .int) = some ns
  | [] => rfl
  | n :: ns => by
    show (intsD (ns.map .int)).map (n :: ·) = _
    rw [intsD_map ns]; rfl
def mxI : Int → List Int → Int
  | a, [] => a
  | a, b :: r => mxI (if b > a then b else a) r
def mnI : Int → List Int → Int
  | a, [] => a
  | a, b :: r => mnI (if b < a then b else a) r
theorem mxI_ge : ∀ (r : List Int) (a : Int), a ≤ mxI a r ∧ (∀ y ∈ r, y ≤ mxI a r) ∧ (mxI a r = a ∨ mxI a r ∈ r)
  | [], a => ⟨Int.le_refl _, by simp, .inl rfl⟩
  | b :: r, a => by
    obtain ⟨h1, h2, h3⟩ := mxI_ge r (if b > a then b else a)
    unfold mxI
    refine ⟨?_, ?_, ?_⟩
    · refine Int.le_trans ?_ h1
      split <;> omega
    · intro y hy
      rcases List.mem_cons.mp hy with rfl | hy
      · refine Int.le_trans ?_ h1
        split <;> omega
      · exact h2 y hy
    · rcases h3 with h | h
      · rw [h]
        split
        · exact .inr (List.mem_cons_self ..)
        · exact .inl rfl
      · exact .inr (List.mem_cons_of_mem _ h)
theorem mnI_le : ∀ (r : List Int) (a : Int), mnI a r ≤ a ∧ (∀ y ∈ r, mnI a r ≤ y) ∧ (mnI a r = a ∨ mnI a r ∈ r)
  | [], a => ⟨Int.le_refl _, by simp, .inl rfl⟩
  | b :: r, a => by
    obtain ⟨h1, h2, h3⟩ := mnI_le r (if b < a then b else a)
    unfold mnI
    refine ⟨?_, ?_, ?_⟩
    · refine Int.le_trans h1 ?_
      split <;> omega
    · intro y hy
      rcases List.mem_cons.mp hy with rfl | hy
      · refine Int.le_trans h1 ?_
        split <;> omega
      · exact h2 y hy
    · rcases h3 with h | h
      · rw [h]
        split
        · exact .inr (List.mem_cons_self ..)
        · exact .inl rfl
      · exact .inr (List.mem_cons_of_mem _ h)
theorem mxI_uniq {a m : Int} {r : List Int} (h1 : m ∈ a :: r) (h2 : ∀ y ∈ a :: r, y ≤ m) : m = mxI a r := by
  obtain ⟨g1, g2, g3⟩ := mxI_ge r a
  have k1 : m ≤ mxI a r := by
    rcases List.mem_cons.mp h1 with rfl | h
    · exact g1
    · exact g2 m h
  have k2 : mxI a r ≤ m := by
    rcases g3 with h | h
    · rw [h]; exact h2 a (List.mem_cons_self ..)
    · exact h2 _ (List.mem_cons_of_mem _ h)
  omega
theorem mnI_uniq {a m : Int} {r : List Int} (h1 : m ∈ a :: r) (h2 : ∀ y ∈ a :: r, m ≤ y) : m = mnI a r := by
  obtain ⟨g1, g2, g3⟩ := mnI_le r a
  have k1 : mnI a r ≤ m := by
    rcases List.mem_cons.mp h1 with rfl | h
    · exact g1
    · exact g2 m h
  have k2 : m ≤ mnI a r := by
    rcases g3 with h | h
    · rw [h]; exact h2 a (List.mem_cons_self ..)
    · exact h2 _ (List.mem_cons_of_mem _ h)
  omega
def maxLD : List D → Option Vl
  | [.list ds] => match intsD ds with
    | some (a :: r) => some (.d (.int (mxI a r)))
    | _ => none
  | _ => none
def minLD : List D → Option Vl
  | [.list ds] => match intsD ds with
    | some (a :: r) => some (.d (.int (mnI a r)))
    | _ => none
  | _ => none
def max5D : List D → Option Vl
  | [.int a, .int b, .int c, .int d, .int e] => some (.d (.int (mxI a [b, c, d, e])))
  | _ => none
section
variable {K : PySem.W.Frag}
theorem intsD_S {O : Own} {H : Hp} : ∀ {ds : List D} {xs : List V} {ns : List Int}, RpAll K O H ds xs → intsD ds = some ns → xs = ns.map V.int
  | [], xs, ns, r, e => by
    cases e
    match xs, r with
    | [], _ => rfl
    | _ :: _, r => simp only [RpAll] at r
  | d :: ds, xs, ns, r, e => by
    match xs, r with
    | [], r => simp only [RpAll] at r
    | v :: vs, r =>
      simp only [RpAll] at r
      cases d with
      | int i =>
        unfold intsD at e
        cases hb : intsD ds with
        | none => rw [hb] at e; cases e
        | some ns' =>
          rw [hb] at e; cases e
          rw [List.map_cons, r.1.int_inv, intsD_S r.2 hb]
      | _ => cases e
theorem maxL_S : CaS K (rMax K) maxLD := by
  intro O H xs ds vl Q ol rx e q
  unfold maxLD at e
  split at e
  · rename_i ds
    split at e
    · rename_i a r hb
      cases e
      obtain ⟨v, rfl, rv⟩ := rx.one
      obtain ⟨p, ys, rfl, ra, qa⟩ := rv.list_inv
      have e2 := intsD_S qa hb
      subst e2
      exact ⟨p, a :: r, rfl, ra.sq, by simp, fun m h1 h2 => by rw [mxI_uniq h1 h2]; exact q.int⟩
    · cases e
  · cases e
theorem minL_S : CaS K (rMin K) minLD := by
  intro O H xs ds vl Q ol rx e q
  unfold minLD at e
  split at e
  · rename_i ds
    split at e
    · rename_i a r hb
      cases e
      obtain ⟨v, rfl, rv⟩ := rx.one
      obtain ⟨p, ys, rfl, ra, qa⟩ := rv.list_inv
      have e2 := intsD_S qa hb
      subst e2
      exact ⟨p, a :: r, rfl, ra.sq, by simp, fun m h1 h2 => by rw [mnI_uniq h1 h2]; exact q.int⟩
    · cases e
  · cases e
theorem args_max5 (a b c d e : Value) : argsOk "max" ⟨[a, b, c, d, e], []⟩ := by unfold argsOk; kernel_rfl
theorem max_five {prog : Program} {w : World} {A : Around} {E : Value → Shared → Prop} {s : Shared} {a b c d e : Int} {t1 t2 t3 t4 t5 : Tok} {Q : Value → Shared → Prop} (hh : A.handled = none)
    (h : ∀ (h' : Heap) (tk : Nat) (m : Int) (t : Tok), (∀ d o, s.heap.get? d = some o → h'.get? d = some o) → m ∈ [a, b, c, d, e] → (∀ y ∈ [a, b, c, d, e], y ≤ m) → Q (.int m t) { s with heap := h', toks := tk }) :
    wpAny (model prog w) A (call (.builtin "max") [.int a t1, .int b t2, .int c t3, .int d t4, .int e t5]) Q E s := by
  generalize hxs : (#[(a, t1), (b, t2), (c, t3), (d, t4), (e, t5)] : Array (Int × Tok)) = xs
  have hnum : xs.toList.map (·.1) = [a, b, c, d, e] := by rw [← hxs]; rfl
  have hsz5 : xs.size = 5 := by rw [← hxs]; rfl
  have hT : (s.heap.push { cls := .type "tuple", data := .seq #[.int a t1, .int b t2, .int c t3, .int d t4, .int e t5] }).IsTuple s.heap.objs.size (intItems xs) := ⟨_, Heap.get?_push_size _ rfl, rfl, 0, by rw [← hxs]; simp [intItems]⟩
  refine call_function_tree F.kind_max F.plain_max F.entry_max (args_max5 _ _ _ _ _) (?_ : wpAny _ A.in1 (Builtin.Builtins.bindParams "max" ["key", "default"] 0 ⟨[], []⟩ >>= _) _ _ s)
  refine wpAny_bind (wpAny_of_eq (a := [none, none]) rfl (?_ : wpAny _ A.in1 (newTuple [.int a t1, .int b t2, .int c t3, .int d t4, .int e t5] >>= _) _ _ s))
  refine wpAny_bind (wpAny_newObj_type (wpAny_bind (wpAny_pyIter_tuple hT (wpAny_bind (wpAny_newObj_type ?_)))))
  generalize hh1 : s.heap.push { cls := .type "tuple", data := .seq #[.int a t1, .int b t2, .int c t3, .int d t4, .int e t5] } = h1 at *
  have z1 : h1.objs.size = s.heap.objs.size + 1 := by rw [← hh1]; exact Heap.size_push ..
  have k1 : ∀ b' o, s.heap.get? b' = some o → h1.get? b' = some o := fun b' o q => by rw [← hh1]; exact Heap.get?_push_of_some _ q
  have z2 : ∀ o : Obj, (h1.push o).objs.size = s.heap.objs.size + 2 := fun o => by rw [Heap.size_push, z1]
  have hI : h1.objs.size ∉ ([] : List Addr) := by simp
  have hname : (toString "max" ++ toString ".loop" : String) = "max.loop" := by decide
  rw [hname]
  refine wpAny_pure ⟨plainId_quiet F.plain_max_loop _, codeAny_max_loop_first (Walks.tuple (A := A.in1) hh h1.objs.size s.heap.objs.size (Nat.ne_of_lt (by rw [z1]; exact Nat.lt_succ_self _)) (intItems xs)) _ (CmpOf.ints_gt (numAt xs) fun _ _ => intItems_at) _ ?_ (by simp [intItems, hsz5]) ⟨⟨_, Heap.get?_push_of_some _ (Heap.get?_push_size _ rfl), rfl, rfl⟩, (hT.push _).push _⟩ (Heap.get?_push_size _ rfl) fun v h' tk hP hk => ?_⟩
  · intro hm
    have e1 := z2 { cls := .type "tuple_iterator", data := .fields #[.ref s.heap.objs.size, .int 0 0] }
    rw [e1] at hm
    rcases List.mem_cons.mp hm with q | hm
    · rw [z1] at q
      exact absurd (show s.heap.objs.size + 2 = s.heap.objs.size + 1 from q) (by omega)
    · have q := List.mem_singleton.mp hm
      exact absurd (show s.heap.objs.size + 2 = s.heap.objs.size from q) (by omega)
  · obtain ⟨t, rfl⟩ := intItems_at hP
    have e2 : (intItems xs).size - 1 = xs.size - 1 := by simp [intItems]
    obtain ⟨g1, g2⟩ := argBest_gt (numAt xs) (xs.size - 1)
    rw [← e2] at g1 g2
    refine h h' tk _ t (fun b' o q => hk b' o ?_ ?_ (Heap.get?_push_of_some _ (Heap.get?_push_of_some _ (k1 b' o q)))) ?_ ?_
    · have lt := Heap.lt_size q
      intro hm
      have q2 := List.mem_singleton.mp hm
      rw [q2, z1] at lt
      exact absurd (show s.heap.objs.size + 1 < s.heap.objs.size from lt) (by omega)
    · have lt := Heap.lt_size q
      have e1 := z2 { cls := .type "tuple_iterator", data := .fields #[.ref s.heap.objs.size, .int 0 0] }
      rw [e1]
      intro q2
      rw [q2] at lt
      exact absurd (show s.heap.objs.size + 2 < s.heap.objs.size from lt) (by omega)
    · rw [numAt_eq, hnum]; exact PySem.getD_mem (by simp only [List.length_cons, List.length_nil]; omega)
    · intro y hy
      rw [← hnum] at hy
      obtain ⟨j, hj, rfl⟩ := mem_getD hy
      rw [List.length_map, Array.length_toList] at hj
      rw [← numAt_eq]; exact g2 j (by omega)
theorem call_max5 {X : Cx} (hc : X.calm = true) : CallR X (.builtin "max") (fun xs H Q => ∃ a b c d e, xs = [.int a, .int b, .int c, .int d, .int e] ∧ Q (.int (mxI a [b, c, d, e])) H) := by
  intro pins s σ H xs us Q I r h
  obtain ⟨a, b, c, d, e, rfl, q⟩ := h
  cases r with
  | cons r1 r =>
    cases r with
    | cons r2 r =>
      cases r with
      | cons r3 r =>
        cases r with
        | cons r4 r =>
          cases r with
          | cons r5 r =>
            cases r
            obtain ⟨t1, rfl⟩ := r1
            obtain ⟨t2, rfl⟩ := r2
            obtain ⟨t3, rfl⟩ := r3
            obtain ⟨t4, rfl⟩ := r4
            obtain ⟨t5, rfl⟩ := r5
            exact max_five (I.ok.hd hc) fun h' tk m t k h1 h2 => ⟨.int m, H, I.kept k, ⟨_, rfl⟩, by rw [mxI_uniq h1 h2]; exact q⟩
theorem max5_S : CaS K (fun xs H Q => ∃ a b c d e, xs = [.int a, .int b, .int c, .int d, .int e] ∧ Q (.int (mxI a [b, c, d, e])) H) max5D := by
  intro O H xs ds vl Q ol rx e q
  unfold max5D at e
  split at e
  · rename_i a b c d e'
    cases e
    match xs, rx with
    | [v1, v2, v3, v4, v5], rx =>
      simp only [RpAll] at rx
      obtain ⟨h1, h2, h3, h4, h5, _⟩ := rx
      exact ⟨a, b, c, d, e', by rw [h1.int_inv, h2.int_inv, h3.int_inv, h4.int_inv, h5.int_inv], q.int⟩
    | [], rx => simp only [RpAll] at rx
    | [_], rx => simp only [RpAll] at rx; exact rx.2.elim
    | [_, _], rx => simp only [RpAll] at rx; exact rx.2.2.elim
    | [_, _, _], rx => simp only [RpAll] at rx; exact rx.2.2.2.elim
    | [_, _, _, _], rx => simp only [RpAll] at rx; exact rx.2.2.2.2.elim
    | _ :: _ :: _ :: _ :: _ :: _ :: _, rx => simp only [RpAll] at rx; exact rx.2.2.2.2.2.elim
  · cases e
end
end PV

/-! PV34: enumerate of a list or a tuple. -/
namespace PySem
theorem enumTup_meets (t : Addr) (items : Array Value) :
    Meets (Builtin.«enumerate.__new__» ⟨[.type "enumerate", .ref t], []⟩) (fun _ R s => s.heap.IsTuple t items ∧
      R (.ok (.ret (.ref (s.heap.push { cls := .type "tuple_iterator", data := .fields #[.ref t, .int 0 0] }).objs.size)))
        { s with heap := (s.heap.push { cls := .type "tuple_iterator", data := .fields #[.ref t, .int 0 0] }).push { cls := .type "enumerate", data := .fields #[.none, .bool false, .ref s.heap.objs.size, rawInt 0, .none, .none] } }) :=
  .of_wp fun prog w A R s hyp => by
    cases s with
    | mk hp g d tk os =>
    have sub0 := sub_enumerate
    have goes : ∀ {B : Around} {E : Value → Shared → Prop} {Q : Value → Shared → Prop}, Q (.ref hp.objs.size) ⟨hp.push { cls := .type "tuple_iterator", data := .fields #[.ref t, .int 0 0] }, g, d, tk, os⟩ → wpAny (model prog w) B (pyIter (.ref t)) Q E ⟨hp, g, d, tk, os⟩ :=
      fun q => wpAny_pyIter_tuple (s := ⟨hp, g, d, tk, os⟩) hyp.1 q
    have fin := hyp.2
    wp_walk using goes
    refine wpAny_stack_any fun st => wpAny_pure ?_
    split
    · rename_i c _ _ _ _ _
      cases (c == Value.type "enumerate") <;> (wp_walk using goes; exact ⟨_, rfl, fin⟩)
    · wp_walk using goes
      exact ⟨_, rfl, fin⟩
theorem enumTup_call {prog : Program} {w : World} {A : Around} {E : Value → Shared → Prop} {s : Shared} {t : Addr} {items : Array Value} {Q : Value → Shared → Prop} (hT : s.heap.IsTuple t items)
    (h : ∀ h' : Heap, IsEnum h' (s.heap.objs.size + 1) s.heap.objs.size 0 .none → h'.IsTupleIter s.heap.objs.size t 0 → (∀ b o, s.heap.get? b = some o → h'.get? b = some o) → Q (.ref (s.heap.objs.size + 1)) { s with heap := h' }) :
    wpAny (model prog w) A (call (.type "enumerate") [.ref t]) Q E s := by
  have z : (s.heap.push { cls := .type "tuple_iterator", data := .fields #[.ref t, .int 0 0] }).objs.size = s.heap.objs.size + 1 := Heap.size_push ..
  have en : IsEnum ((s.heap.push { cls := .type "tuple_iterator", data := .fields #[.ref t, .int 0 0] }).push { cls := .type "enumerate", data := .fields #[.none, .bool false, .ref s.heap.objs.size, rawInt 0, .none, .none] }) (s.heap.objs.size + 1) s.heap.objs.size 0 .none := by
    rw [← z]; exact Heap.get?_push_size _ rfl
  have fin := h _ en ⟨_, Heap.get?_push_of_some _ (Heap.get?_push_size _ rfl), rfl, rfl⟩ fun b o x => Heap.get?_push_of_some _ (Heap.get?_push_of_some _ x)
  rw [← z] at fin en
  exact callType_new F.called_enumerate (by decide) (F.typeCall_enumerate_1 _) (F.newCall_enumerate_1 _) (fun obj => F.args_object_init_2 obj _) F.entry_enumerate_new (enumTup_meets t items) ⟨hT, ⟨_, en, rfl⟩, fin⟩
end PySem
namespace PV
open PySem PySem.Spec PySem.Calls PyProof.Rows L2
/-- the tuple at a, each item in a new pair behind its number -/
def IteT (K : PySem.W.Frag) (a : Addr) : It :=
  ⟨fun i H => ∃ (xs : List V) (x : V), SqT K H a xs ∧ xs[i]? = some x, fun i H v H' => ∃ T x, v = .ref T ∧ H T = none ∧ H' = upd H T (.tup [.int (i : Nat), x]) ∧ ∀ xs, SqT K H a xs → xs[i]? = some x, fun i H => ∃ xs : List V, SqT K H a xs ∧ xs.length ≤ i⟩
theorem enum_ne {h : Heap} {e it a : Addr} {i : Int} {old : Value} {items : Array Value} (he : IsEnum h e it i old) (ht : h.IsTuple a items) : e ≠ a := fun z => by
  subst z
  obtain ⟨o, ho, hc, _⟩ := ht
  rw [show h.get? e = _ from he] at ho
  have c := congrArg Obj.cls (Option.some.inj ho)
  exact absurd (Value.type.inj (c.trans hc)) (by decide)
theorem titer_ne {h : Heap} {it a : Addr} {i : Nat} {items : Array Value} (he : h.IsTupleIter it a i) (ht : h.IsTuple a items) : a ≠ it := fun z => by
  subst z
  obtain ⟨o, ho, hc, _⟩ := ht
  obtain ⟨o2, ho2, hc2, _⟩ := he
  rw [ho2] at ho
  cases ho
  exact absurd (Value.type.inj (hc2.symm.trans hc)) (by decide)
theorem turn_enumT {P : Program} {w : World} {K : PySem.W.Frag} {elts : List Expr} {kk : Nat} {tpos : Pos} (a e it : Addr) :
    Turn P w K (.Tuple elts kk tpos) (IteT K a) [e, it] e (fun i h => (∃ old, IsEnum h e it ((i : Nat) : Int) old) ∧ h.IsTupleIter it a i ∧ e ≠ it) where
  mem := by simp
  obj := fun i h st b hb => by
    obtain ⟨⟨old, he⟩, ⟨o, ho, hc, hd⟩, _⟩ := st
    rcases List.mem_cons.mp hb with z | hb
    · subst z; exact ⟨_, he, fun v q => nomatch q⟩
    · have z := List.mem_singleton.mp hb
      subst z; exact ⟨o, ho, fun v q => by rw [hd] at q; cases q⟩
  keep := fun i h h' st k => let ⟨⟨old, he⟩, hi, hne⟩ := st; ⟨⟨old, k e (by simp) _ he⟩, hi.at fun o q => k it (by simp) o q, hne⟩
  item := by
    intro X hP hw hK hc i pins s σ H E I hf st hg
    subst hP hw hK
    obtain ⟨⟨old, he⟩, hit, hne⟩ := st
    obtain ⟨xs, x, hq, hx⟩ := hg
    obtain ⟨its, rv, p, hz⟩ := I.tuple hq
    obtain ⟨u, hu, ru⟩ := rv.get hx
    have p' : s.heap.IsTuple a its.toArray := p
    have hae := enum_ne he p'
    have hai := titer_ne hit p'
    have hel : e < s.heap.objs.size := Heap.lt_size he
    have hlen : i < its.toArray.size := by
      have z := (List.getElem?_eq_some_iff.mp hu).1
      simpa using z
    refine wpAny_pyNext_enum_itemD (Draws.tuple (A := X.A.in1) (I.ok.hd hc) it a hai its.toArray) he ⟨hit, p'⟩ hlen hne (by simp [hne, hae]) fun y h' tk hy ho hst hT hsz hk => ?_
    have ey : y = u := by
      rw [List.getElem?_toArray, hu] at hy
      exact (Option.some.inj hy).symm
    subst ey
    refine ⟨_, rfl, wpAny_letOwnedTupleGo_enum (s := { s with heap := h', toks := tk + 1 }) ho fun h'' he' sb => ?_⟩
    have hT2 : h''.get? s.heap.objs.size = some { cls := .type "tuple", data := .seq #[.int i tk, y] } := (sb.2 _ (Nat.ne_of_gt hel)).trans hT
    have new : ObjOk X.prog X.w (upd H s.heap.objs.size (.tup [.int (i : Nat), x])) h'' s.heap.objs.size (.tup [.int (i : Nat), x]) :=
      ⟨by show 2 ≤ sizeLine; decide, [.int i tk, y], .cons ⟨_, rfl⟩ (.cons ru .nil), ⟨_, hT2, rfl, _, rfl⟩⟩
    have I1 : Inv X pins σ (upd H s.heap.objs.size (.tup [.int (i : Nat), x])) { s with heap := h'', toks := tk + 1 } :=
      I.turnedNew (ch := [e, it]) (fun b ob hb q => (sb.2 b (fun z => hb (by simp [z]))).trans (hk b ob (fun z => hb (by simp [z])) (fun z => hb (by simp [z])) q)) hf (Nat.le_refl _) new
    refine ⟨.ref s.heap.objs.size, _, I1, rfl, ⟨_, x, rfl, I.hok.fresh (Nat.le_refl _), rfl, fun ys hy' => ?_⟩, ⟨⟨y, ?_⟩, hst.1.at fun o q => (sb.2 it (Ne.symm hne)).trans q, hne⟩, fun b hb => ?_⟩
    · rw [I.tuple_inj hy' hq]; exact hx
    · rw [show ((i + 1 : Nat) : Int) = (i : Int) + 1 by omega]
      exact he'
    · have hb' : H b = none := (hf b hb).1
      have hlt : b ≠ s.heap.objs.size := fun z => by
        rcases List.mem_cons.mp hb with q | q
        · rw [q] at z; exact absurd hel (by rw [z]; exact Nat.lt_irrefl _)
        · have q := List.mem_singleton.mp q
          obtain ⟨o, ho', _⟩ := hit
          have := Heap.lt_size ho'
          rw [← q, z] at this
          exact absurd this (Nat.lt_irrefl _)
      rw [upd_ne hlt]; exact hb'
  done := by
    intro X hP hw hK hc i pins s σ H E I hf st hg
    subst hP hw hK
    obtain ⟨⟨old, he⟩, hit, hne⟩ := st
    obtain ⟨xs, hq, hx⟩ := hg
    obtain ⟨its, rv, p, hz⟩ := I.tuple hq
    obtain ⟨f0, f1, f2, f3, f4, f5⟩ := hf it (by simp)
    have p' : s.heap.IsTuple a its.toArray := p
    have hl := rv.length
    have hQ : ∀ h' : Heap, Heap.ExtBut it s.heap h' → (none : Option Value) = none ∧ Inv X pins σ H { s with heap := h' } := fun h' eb => ⟨rfl, I.turned (t' := s.toks) (fun b o hb q => eb b o hb q) f0 f1 f3 f4 f5⟩
    have D : Draws X.prog X.w X.A.in1 it [it, a] i (fun j v => True) (fun j h => h.IsTupleIter it a j ∧ h.IsTuple a its.toArray ∧ j = i) :=
      ⟨fun _ _ st => let ⟨o, ho, _⟩ := st.1; ⟨o, ho⟩, fun _ _ _ st hk => ⟨st.1.at fun o q => hk it (by simp) o q, st.2.1.at fun o q => hk a (by simp) o q, st.2.2⟩,
        fun j s' Q E' hj hst hQ' => absurd hst.2.2 (by omega),
        fun s' Q E' hst hE => wpAny_nextOf_tuple_end (I.ok.hd hc) hst.1 hst.2.1 (by
          rw [List.getElem?_toArray]
          exact List.getElem?_eq_none (by omega)) hE⟩
    exact wpAny_pyNext_enum_endD D he ⟨hit, p', rfl⟩ hQ
  self := fun A i s Q E st h => let ⟨⟨_, he⟩, _⟩ := st; wpAny_pyIter_enum he h
theorem pi_enumT {X : Cx} {e : Expr} {te : TE} {p pos tpos : Pos} {elts : List Expr} {kk : Nat} (hg : Gl X "enumerate") (hm : X.mg "enumerate" = none) (ha : PE X e te) (hs : starEach [e] X.env = [(false, eval e X.env)] := by rfl) :
    PI X (.Tuple elts kk tpos) (.Call (.Name "enumerate" p) [e] [] pos) (fun σ H R => te σ H fun x H1 => ∃ a, x = V.ref a ∧ (((∃ xs, SqL X.K H1 a xs) ∧ R (Ite X.K a) H1) ∨ ((∃ xs, SqT X.K H1 a xs) ∧ R (IteT X.K a) H1))) := by
  have hs' : starEach [e] X.env = (false, eval e X.env) :: starEach [] X.env := hs
  refine ⟨fun pins s σ H R I h => Call_ (ld_blt I hg hm boot_enumerate (PyProof.Rows.callWith_type1 (thn ((pa_cons ha pa_nil hs').run pos pins s σ H (fun vs H1 => match vs with
    | [x] => ∃ a, x = V.ref a ∧ (((∃ xs, SqL X.K H1 a xs) ∧ R (Ite X.K a) H1) ∨ ((∃ xs, SqT X.K H1 a xs) ∧ R (IteT X.K a) H1))
    | _ => False) I h) fun us s1 ⟨vs, H1, I1, r1, q1⟩ => ?_) hs rfl))⟩
  have fps : ∀ b ∈ [s1.heap.objs.size + 1, s1.heap.objs.size], FpOk X pins H1 b := fun b hb => by
    have hle : s1.heap.objs.size ≤ b := by
      rcases List.mem_cons.mp hb with z | z
      · rw [z]; exact Nat.le_add_right _ _
      · rw [List.mem_singleton.mp z]; exact Nat.le_refl _
    exact I1.fpOk hle (I1.hok.fresh hle)
  match vs, q1 with
  | [x], q1 =>
    obtain ⟨a, rfl, q⟩ := q1
    obtain ⟨u, rfl, ru⟩ := vals1 r1
    obtain rfl : u = Value.ref a := ru
    rcases q with ⟨⟨xs, hq⟩, q⟩ | ⟨⟨xs, hq⟩, q⟩
    · obtain ⟨its, rv, p', hz⟩ := I1.list hq
      exact call_enumerate_list p'.isList fun h' he hit hsz hk => wpAny_pyIter_enum he ⟨s1.heap.objs.size + 1, [s1.heap.objs.size + 1, s1.heap.objs.size], _, _, H1, rfl, I1.kept (t' := s1.toks) hk, turn_enum a _ _, ⟨⟨.none, he⟩, hit, Nat.succ_ne_self _⟩, fps, q⟩
    · obtain ⟨its, rv, p', hz⟩ := I1.tuple hq
      exact enumTup_call (show s1.heap.IsTuple a its.toArray from p') fun h' he hit hk => wpAny_pyIter_enum he ⟨s1.heap.objs.size + 1, [s1.heap.objs.size + 1, s1.heap.objs.size], _, _, H1, rfl, I1.kept (t' := s1.toks) hk, turn_enumT a _ _, ⟨⟨.none, he⟩, hit, Nat.succ_ne_self _⟩, fps, q⟩
/-! ### its meaning -/
def enumL : Nat → List D → List D
  | _, [] => []
  | n, d :: ds => .tuple [.int n, d] :: enumL (n + 1) ds
theorem enumL_at : ∀ {ds : List D} {n i : Nat} {x : D}, (enumL n ds)[i]? = some x → ∃ d, ds[i]? = some d ∧ x = .tuple [.int ((n + i : Nat) : Int), d]
  | [], _, _, _, h => by simp [enumL] at h
  | d :: ds, n, 0, x, h => by
    simp only [enumL, List.getElem?_cons_zero] at h ⊢
    cases h
    exact ⟨d, rfl, rfl⟩
  | d :: ds, n, i + 1, x, h => by
    simp only [enumL, List.getElem?_cons_succ] at h ⊢
    obtain ⟨d', h1, h2⟩ := enumL_at h
    exact ⟨d', h1, by rw [h2, show n + 1 + i = n + (i + 1) by omega]⟩
theorem enumL_len : ∀ (ds : List D) (n : Nat), (enumL n ds).length = ds.length
  | [], _ => rfl
  | _ :: ds, n => by simp [enumL, enumL_len ds]
def enumI (f : M D) : M (List D) := f.bnd fun d => M.opt ((itemsD d).map (enumL 0))
section
variable {X : Cx} {G : Gd} {W : WX} {N : List Str} {sc : Scope} {blk : Bool} {k : Nat} {Mo : Wo} {pos : Pos} {e : Expr}
theorem bt_enumerate : bootBuiltins "enumerate" = some (.type "enumerate") := by decide +kernel
theorem si_enum (A : At X G W N sc blk k Mo) {p tpos : Pos} {elts : List Expr} {kk : Nat} {f : M D} (hg : sc.names.lookup ("enumerate" : Str) = some .globalImplicit) (hm : Mo.mg "enumerate" = none) (h : SD X G W e f) (hs : starEach [e] X.env = [(false, eval e X.env)] := by rfl) : SI X G W (.Tuple elts kk tpos) (.Call (.Name "enumerate" p) [e] [] pos) (enumI f) := by
  refine PI.imp (pi_enumT (by show X.env.scope.names.lookup ("enumerate" : Str) = _; rw [A.hsc]; exact hg) (by rw [A.hmg]; exact hm) h hs) fun σ H R' ⟨O, env, R, t⟩ => ?_
  obtain ⟨O1, env1, R1, r1, e1, p1⟩ := bindL (RV := RD G) R t
  refine ⟨O1, env1, R1, r1, e1, p1.mono fun x H2 ⟨d, env2, O2, R2, s2, rx, t2⟩ => ?_⟩
  obtain ⟨es, ed, q⟩ := t2.optAt
  rw [A.hK]
  have go : ∀ (a : Addr) (xs : List V) (ds : List D) (get : Hp → List V → Prop) (J : It), RpAll G.K O2 H2 ds xs → (∀ O H, Step O2 H2 O H → get H xs) →
      J = ⟨fun i H => ∃ (xs : List V) (x : V), get H xs ∧ xs[i]? = some x, fun i H v H' => ∃ T x, v = .ref T ∧ H T = none ∧ H' = upd H T (.tup [.int (i : Nat), x]) ∧ ∀ xs, get H xs → xs[i]? = some x, fun i H => ∃ xs : List V, get H xs ∧ xs.length ≤ i⟩ → ItOk G J O2 H2 (enumL 0 ds) := by
    intro a xs ds get J qa hget hJ
    subst hJ
    intro O3 H3 st ol
    have qa' := RpAll.step st ds xs qa
    have g3 := hget O3 H3 st
    refine ⟨fun i x hx => ?_, ⟨xs, g3, by rw [enumL_len, qa.length]; exact Nat.le_refl _⟩⟩
    obtain ⟨d', h1, rfl⟩ := enumL_at hx
    obtain ⟨v, hv, rv⟩ := qa'.get h1
    refine ⟨⟨xs, v, g3, hv⟩, fun z H' ⟨T, x1, ez, hT, eH, f1⟩ => ?_⟩
    have g1 := f1 xs g3
    rw [hv] at g1; cases g1
    rw [ez, Nat.zero_add]
    exact pair_ok ol hT eH Rp.int' rv
  unfold itemsD at ed
  split at ed
  · cases ed
    obtain ⟨a, xs, rfl, ra, qa⟩ := Rp.list_inv rx
    exact ⟨a, rfl, .inl ⟨⟨xs, ra.sq⟩, q _ O2 H2 R2 Step.refl (go a xs _ (fun H xs => SqL G.K H a xs) _ qa (fun O H st => (ra.step st).sq) rfl)⟩⟩
  · cases ed
    obtain ⟨a, xs, rfl, ra, qa⟩ := Rp.tup_inv rx
    exact ⟨a, rfl, .inr ⟨⟨xs, ra.sq⟩, q _ O2 H2 R2 Step.refl (go a xs _ (fun H xs => SqT G.K H a xs) _ qa (fun O H st => (ra.step st).sq) rfl)⟩⟩
  · cases ed
end
end PV

/-! PV35: list(zip(a tuple, a list)). -/
namespace PySem
open Sem (wp)
/-- a zip over the tuple a and the list b, i pairs drawn; what it gave out last is held or it has given nothing -/
structure ZSt (h : Heap) (z TI TO i1 i2 a b S : Addr) (xs ys : Array Value) (i : Nat) : Prop where
  ti : IsTupOf2 h TI (.ref i1) (.ref i2)
  d1 : h.IsTupleIter i1 a i ∧ h.IsTuple a xs
  d2 : h.IsListIter i2 b i ∧ h.IsList b ys
  zz : (IsZip h z TI TO .none ∧ ∃ p q, IsTupOf2 h TO p q) ∨ ∃ T f oT, IsZipHeld h z TI TO T f ∧ h.get? T = some oT ∧ T ≠ z ∧ T ≠ TO ∧ T ≠ i1 ∧ T ≠ i2 ∧ T ≠ S
  too : ∃ o, h.get? TO = some o
structure ZAp (z TI TO i1 i2 a b S : Addr) : Prop extends ZipSep2 z TI TO i1 i2 [i1, a] [i2, b] where
  sz : S ≠ z
  sti : S ≠ TI
  sto : S ≠ TO
  s1 : S ≠ i1
  s2 : S ≠ i2
  sa : S ≠ a
  sb : S ≠ b
section
variable {prog : Program} {w : World} {A : Around} {E : Value → Shared → Prop} {s : Shared} {z TI TO i1 i2 a b S : Addr} {xs ys : Array Value} {i : Nat}
theorem ZAp.a1 (D : ZAp z TI TO i1 i2 a b S) (hx : s.heap.IsTupleIter i1 a i) (ha : s.heap.IsTuple a xs) : a ≠ i1 := fun e => by
  subst e
  obtain ⟨o, ho, hc, _⟩ := hx
  obtain ⟨o2, ho2, hc2, _⟩ := ha
  rw [ho] at ho2; cases ho2
  exact absurd (Value.type.inj (hc.symm.trans hc2)) (by decide)
theorem ZAp.b2 (D : ZAp z TI TO i1 i2 a b S) (hx : s.heap.IsListIter i2 b i) (hb : s.heap.IsList b ys) : b ≠ i2 := fun e => by
  subst e
  obtain ⟨o, ho, hc, _⟩ := hx
  obtain ⟨o2, ho2, hc2, _⟩ := hb
  rw [ho] at ho2; cases ho2
  exact absurd (Value.type.inj (hc.symm.trans hc2)) (by decide)
theorem zhNext {Q : Value → Shared → Prop} {T : Addr} {f : Bool} {oT : Obj} {n1 n2 : Nat} {fp1 fp2 : List Addr} {P1 P2 : Nat → Value → Prop} {St1 St2 : Nat → Heap → Prop} (D : ZipSep2 z TI TO i1 i2 fp1 fp2) (D1 : Draws prog w A i1 fp1 n1 P1 St1) (D2 : Draws prog w A i2 fp2 n2 P2 St2)
    (hz : IsZipHeld s.heap z TI TO T f) (hT : s.heap.get? T = some oT) (hTI : IsTupOf2 s.heap TI (.ref i1) (.ref i2)) (st1 : St1 i s.heap) (st2 : St2 i s.heap) (l1 : i < n1) (l2 : i < n2)
    (hQ : ∀ x y h' tk, P1 i x → P2 i y → IsZipHeld h' z TI TO T true → St1 (i + 1) h' → St2 (i + 1) h' → IsTupOf2 h' s.heap.objs.size x y → (∀ c o, c ≠ z → c ≠ i1 → c ≠ i2 → s.heap.get? c = some o → h'.get? c = some o) → Q (.ref s.heap.objs.size) { s with heap := h', toks := tk }) :
    wpAny (model prog w) A (Builtin.«zip.__next__» ⟨[.ref z], []⟩) (fun fin s' => ∃ v, fin = .done (.ret v) ∧ Q v s') E s := by
  cases s with
  | mk hp g d tk0 os =>
  refine (?_ : wpAny _ _ (field (.ref z) 2 >>= _) _ _ _)
  refine wpAny_bind (wpAny_field hz rfl (x := .bool false) rfl (?_ : wpAny _ _ (field (.ref z) 3 >>= _) _ _ _))
  refine wpAny_bind (wpAny_field hz rfl (x := .ref TI) rfl (wpAny_bind (wpAny_seqItems hTI rfl (?_ : wpAny _ _ (Builtin.SmallTypes.ownedTupleIsFree (.ref z) >>= _) _ _ _))))
  refine wpAny_bind (wpAny_tupleHeld_zip hz hT fun g0 hz0 hs0 => ?_)
  simp only [Bool.false_eq_true, if_false]
  rw [← Array.forIn_toList]
  simp only [List.forIn_cons, List.forIn_nil]
  refine wpAny_bind (wpAny_bind (wpAny_bind (wpAny_holding (?_ : wpAny _ _ (Builtin.SmallTypes.nextOf (.ref i1) >>= _) _ _ _))))
  refine wpAny_bind (D1.item i _ _ _ l1 (D1.over st1 hs0 D.zf1) fun x1 p1 tk1 hx1 sn1 hp1 => wpAny_pure (wpAny_pure (wpAny_bind (wpAny_bind (wpAny_holding (?_ : wpAny _ _ (Builtin.SmallTypes.nextOf (.ref i2) >>= _) _ _ _))))))
  replace hp1 : Heap.SameBut i1 g0 p1 := hp1
  refine wpAny_bind (D2.item i _ _ _ l2 (D2.over (D2.over st2 hs0 D.zf2) hp1 D.sep1_2) fun x2 p2 tk2 hx2 sn2 hp2 => wpAny_pure (wpAny_pure (wpAny_pure (?_ : wpAny _ _ (newTuple [x1, x2] >>= _) _ _ _))))
  replace hp2 : Heap.SameBut i2 p1 p2 := hp2
  have sz : p2.objs.size = hp.objs.size := by rw [hp2.1, hp1.1, hs0.1]
  have kk : ∀ c o, c ≠ z → c ≠ i1 → c ≠ i2 → hp.get? c = some o → p2.get? c = some o := fun c o c1 c2 c3 e => hp2.extBut _ _ c3 (hp1.extBut _ _ c2 (hs0.extBut _ _ c1 e))
  have zk : IsZipHeld p2 z TI TO T true := hp2.extBut _ _ D.zi2 (hp1.extBut _ _ D.zi1 hz0)
  refine wpAny_bind (wpAny_newTuple (wpAny_pure ⟨_, rfl, ?_⟩))
  have np : IsTupOf2 (p2.push { cls := .type "tuple", data := .seq #[x1, x2] }) p2.objs.size x1 x2 := Heap.get?_push_size _ rfl
  rw [sz] at np
  show Q (.ref p2.objs.size) _
  rw [sz]
  exact hQ x1 x2 _ tk2 hx1 hx2 (Heap.get?_push_of_some _ zk) (D1.frame _ _ _ (D1.over sn1 hp2 D.sep2_1) fun c _ o e => Heap.get?_push_of_some _ e) (D2.frame _ _ _ sn2 fun c _ o e => Heap.get?_push_of_some _ e) np fun c o c1 c2 c3 e => Heap.get?_push_of_some _ (kk c o c1 c2 c3 e)
theorem zhEnd {Q : Fin → Shared → Prop} {T : Addr} {f : Bool} {oT : Obj} {n1 n2 : Nat} {fp1 fp2 : List Addr} {P1 P2 : Nat → Value → Prop} {St1 St2 : Nat → Heap → Prop} (D : ZipSep2 z TI TO i1 i2 fp1 fp2) (D1 : Draws prog w A i1 fp1 n1 P1 St1)
    (hz : IsZipHeld s.heap z TI TO T f) (hT : s.heap.get? T = some oT) (hTI : IsTupOf2 s.heap TI (.ref i1) (.ref i2)) (st1 : St1 n1 s.heap)
    (hE : ∀ h' e, (∀ c o, c ≠ z → c ≠ i1 → s.heap.get? c = some o → h'.get? c = some o) → (∃ o, h'.get? e = some o ∧ o.cls = .type "StopIteration") → E (.ref e) { s with heap := h' }) :
    wpAny (model prog w) A (Builtin.«zip.__next__» ⟨[.ref z], []⟩) Q E s := by
  cases s with
  | mk hp g d tk0 os =>
  refine (?_ : wpAny _ _ (field (.ref z) 2 >>= _) _ _ _)
  refine wpAny_bind (wpAny_field hz rfl (x := .bool false) rfl (?_ : wpAny _ _ (field (.ref z) 3 >>= _) _ _ _))
  refine wpAny_bind (wpAny_field hz rfl (x := .ref TI) rfl (wpAny_bind (wpAny_seqItems hTI rfl (?_ : wpAny _ _ (Builtin.SmallTypes.ownedTupleIsFree (.ref z) >>= _) _ _ _))))
  refine wpAny_bind (wpAny_tupleHeld_zip hz hT fun g0 hz0 hs0 => ?_)
  simp only [Bool.false_eq_true, if_false]
  rw [← Array.forIn_toList]
  simp only [List.forIn_cons, List.forIn_nil]
  refine wpAny_bind (wpAny_bind (wpAny_bind (wpAny_holding (?_ : wpAny _ _ (Builtin.SmallTypes.nextOf (.ref i1) >>= _) _ _ _))))
  exact wpAny_bind (D1.done _ _ _ (D1.over st1 hs0 D.zf1) fun h' e k he => hE h' e (fun c o c1 c2 q => k _ _ c2 (hs0.extBut _ _ c1 q)) he)
/-- one more pair -/
theorem zstep {Q : Option Value → Shared → Prop} (hh : A.handled = none) (D : ZAp z TI TO i1 i2 a b S) (st : ZSt s.heap z TI TO i1 i2 a b S xs ys i) (lz : ∃ o, s.heap.get? S = some o) {x y : Value} (hx : xs[i]? = some x) (hy : ys[i]? = some y)
    (hQ : ∀ h' tk, ZSt h' z TI TO i1 i2 a b S xs ys (i + 1) → IsTupOf2 h' s.heap.objs.size x y → (∀ c o, c ≠ z → c ≠ TO → c ≠ i1 → c ≠ i2 → s.heap.get? c = some o → h'.get? c = some o) → Q (some (.ref s.heap.objs.size)) { s with heap := h', toks := tk }) :
    wpAny (model prog w) A (pyNext (.ref z)) Q E s := by
  have lx : i < xs.size := (Array.getElem?_eq_some_iff.mp hx).1
  have ly : i < ys.size := (Array.getElem?_eq_some_iff.mp hy).1
  have D1 := Draws.tuple (prog := prog) (w := w) (A := A.in1) hh i1 a (D.a1 st.d1.1 st.d1.2) xs
  have D2 := Draws.list (prog := prog) (w := w) (A := A.in1) hh i2 b (D.b2 st.d2.1 st.d2.2) ys
  have new : ∀ {c : Addr}, (∃ o, s.heap.get? c = some o) → s.heap.objs.size ≠ c := fun ⟨o, e⟩ => Nat.ne_of_gt (Heap.lt_size e)
  have e1 : ∃ o, s.heap.get? i1 = some o := let ⟨o, e, _⟩ := st.d1.1; ⟨o, e⟩
  have e2 : ∃ o, s.heap.get? i2 = some o := let ⟨o, e, _⟩ := st.d2.1; ⟨o, e⟩
  have pick1 : ∀ {u : Value}, xs[i]? = some u → u = x := fun e => by rw [hx] at e; exact (Option.some.inj e).symm
  have pick2 : ∀ {u : Value}, ys[i]? = some u → u = y := fun e => by rw [hy] at e; exact (Option.some.inj e).symm
  rcases st.zz with ⟨hz, p, q, hTO⟩ | ⟨T, f, oT, hz, hT, t1, t2, t3, t4, t5⟩
  · refine wpAny_pyNext_zipD2_item D.toZipSep2 D1 D2 hz st.ti hTO st.d1 st.d2 lx ly fun x1 x2 h' tk q1 q2 b1 b2 d1 d2 b5 b6 b7 => ?_
    obtain rfl := pick1 q1
    obtain rfl := pick2 q2
    exact hQ h' tk ⟨b7 _ _ D.TIz D.TITO D.TIi1 D.TIi2 st.ti, d1, d2, .inr ⟨_, false, _, b1, b5, new ⟨_, hz⟩, new ⟨_, hTO⟩, new e1, new e2, new lz⟩, ⟨_, b2⟩⟩ b5 b7
  · have ty : s.TypeIs (.ref z) "zip" := ⟨_, hz, rfl⟩
    unfold pyNext
    refine wpAny_bind (wpAny_attempt (wpAny_callSpecial?_slot (name := Str.ofString "__next__") ty F.slot_zip_next (wpAny_call_entry F.slot_zip_next ty F.entry_zip_next
      (zhNext D.toZipSep2 D1 D2 hz hT st.ti st.d1 st.d2 lx ly fun x1 x2 h' tk q1 q2 b1 d1 d2 b5 b7 => wpAny_pure ?_) (F.args_zip_next_1 _))))
    obtain rfl := pick1 q1
    obtain rfl := pick2 q2
    exact hQ h' tk ⟨b7 _ _ D.TIz D.TIi1 D.TIi2 st.ti, d1, d2, .inr ⟨T, true, oT, b1, b7 _ _ t1 t3 t4 hT, t1, t2, t3, t4, t5⟩, let ⟨o, e⟩ := st.too; ⟨o, b7 _ _ D.TOz D.Ti1 D.Ti2 e⟩⟩ b5 fun c o c1 _ c3 c4 e => b7 c o c1 c3 c4 e
/-- none is left -/
theorem zstop {Q : Option Value → Shared → Prop} (hh : A.handled = none) (D : ZAp z TI TO i1 i2 a b S) (st : ZSt s.heap z TI TO i1 i2 a b S xs ys xs.size) (ly : xs.size ≤ ys.size)
    (hQ : ∀ h' tk, (∀ c o, c ≠ z → c ≠ TO → c ≠ i1 → c ≠ i2 → s.heap.get? c = some o → h'.get? c = some o) → Q none { s with heap := h', toks := tk }) : wpAny (model prog w) A (pyNext (.ref z)) Q E s := by
  have D1 := Draws.tuple (prog := prog) (w := w) (A := A.in1) hh i1 a (D.a1 st.d1.1 st.d1.2) xs
  have D2 := Draws.list (prog := prog) (w := w) (A := A.in1) hh i2 b (D.b2 st.d2.1 st.d2.2) ys
  rcases st.zz with ⟨hz, p, q, hTO⟩ | ⟨T, f, oT, hz, hT, _⟩
  · exact wpAny_pyNext_zipD2_end D.toZipSep2 D1 D2 hz st.ti hTO st.d1 st.d2 (Nat.le_refl _) ly (.inl rfl) hQ
  · have ty : s.TypeIs (.ref z) "zip" := ⟨_, hz, rfl⟩
    unfold pyNext
    refine wpAny_bind (wpAny_attempt (wpAny_callSpecial?_slot (name := Str.ofString "__next__") ty F.slot_zip_next (wpAny_call_entry F.slot_zip_next ty F.entry_zip_next
      (zhEnd (n2 := ys.size) (fp2 := [i2, b]) (P2 := fun _ _ => True) (St2 := fun _ _ => True) D.toZipSep2 D1 hz hT st.ti st.d1 fun h' e k he => ?_) (F.args_zip_next_1 _))))
    obtain ⟨o, ho, hc⟩ := he
    exact wpAny_bind (wpAny_isInstance (T := "StopIteration") (b := true) ⟨o, ho, hc⟩ isSubtype_stop (wpAny_pure (hQ h' _ fun c o c1 _ c3 _ q => k c o c1 c3 q)))
end
end PySem

/-! PV36: list(zip(a tuple, a list)) over the layer. -/
namespace PySem
theorem zip_nolen : typeLookup (.type "zip") "__len__" = pure none := by rw [typeLookup_type, builtinLookup_eq_fast]; kernel_rfl
theorem zip_nohint : typeLookup (.type "zip") "__length_hint__" = pure none := by rw [typeLookup_type, builtinLookup_eq_fast]; kernel_rfl
end PySem
namespace PV
open PySem PySem.Spec PySem.Calls PyProof.Rows L2
/-- the pairs made so far -/
structure Made (H0 H : Hp) (S : Addr) (xs ys : List V) (ts : List Addr) : Prop where
  keep : ∀ c u, H0 c = some u → H c = some u
  lst : H S = some (.lst (ts.map V.ref))
  prs : ∀ (j : Nat) (t : Addr), ts[j]? = some t → ∃ x y, xs[j]? = some x ∧ ys[j]? = some y ∧ H t = some (.tup [x, y]) ∧ H0 t = none
section
variable {X : Cx} {pins : List (Addr × Obj)} {σ : L2.St} {z TI TO i1 i2 a b S : Addr} {xs ys : List V} {H0 : Hp} {A : Around} {R : Result → Shared → Prop} {res : Value}
theorem zloop (hh : A.handled = none) (D : ZAp z TI TO i1 i2 a b S) (hle : xs.length ≤ ys.length) (hz : xs.length ≤ 1000) (h0S : H0 S = none)
    (fin : ∀ s' H' ts, Inv X pins σ H' s' → Made H0 H' S xs ys ts → ts.length = xs.length → R (.ok (.ret res)) s') :
    ∀ (k i : Nat) (s : Shared) (H : Hp) (ts : List Addr), xs.length - i = k → i ≤ xs.length → Inv X pins σ H s → SqT X.K H0 a xs → SqL X.K H0 b ys → (∀ c ∈ [z, TO, i1, i2], FpOk X pins H c) → Made H0 H S xs ys ts → ts.length = i →
      (∃ us vs : Array Value, us.size = xs.length ∧ xs.length ≤ vs.size ∧ Vals xs us.toList ∧ Vals ys vs.toList ∧ ZSt s.heap z TI TO i1 i2 a b S us vs i) →
      codeAny (model X.prog X.w) A (.builtin "list.extend.loop" ⟨[.ref S, .ref z, res], []⟩) R s := by
  intro k
  induction k with
  | zero =>
    intro i s H ts hk hi I ha hb hf md hts ⟨us, vs, u1, v1, ru, rv, st⟩
    have e : i = us.size := by omega
    subst e
    refine codeAny_builtin F.entry_extend_loop ?_
    rw [Around.under_plainId F.plain_extend_loop _]
    refine (?_ : wpAny _ A.in1 (pyNext (.ref z) >>= _) _ _ s)
    refine wpAny_bind (zstop (A := A.in1) hh D st (by omega) fun h' tk hk' => wpAny_pure ?_)
    refine fin _ H ts (I.turnedL (ch := [z, TO, i1, i2]) (fun c o hc e => hk' c o (fun q => hc (by simp [q])) (fun q => hc (by simp [q])) (fun q => hc (by simp [q])) (fun q => hc (by simp [q])) e) hf) md (by omega)
  | succ k ih =>
    intro i s H ts hk hi I ha hb hf md hts ⟨us, vs, u1, v1, ru, rv, st⟩
    have lt : i < xs.length := by omega
    have hx : xs[i]? = some xs[i] := List.getElem?_eq_getElem lt
    have hy : ys[i]? = some ys[i] := List.getElem?_eq_getElem (by omega)
    obtain ⟨u, hu, rxu⟩ := ru.get hx
    obtain ⟨v, hv, ryv⟩ := rv.get hy
    obtain ⟨sz, its, n, r, hl, eS⟩ := I.lstM md.lst
    refine codeAny_builtin F.entry_extend_loop ?_
    rw [Around.under_plainId F.plain_extend_loop _]
    refine (?_ : wpAny _ A.in1 (pyNext (.ref z) >>= _) _ _ s)
    refine wpAny_bind (zstep (A := A.in1) hh D st ⟨_, eS⟩ (x := u) (y := v) (by rw [← Array.getElem?_toList]; exact hu) (by rw [← Array.getElem?_toList]; exact hv) fun h' tk st' hT hk' => ?_)
    refine (?_ : wpAny _ A.in1 (updateSeq S (·.push (.ref s.heap.objs.size)) >>= _) _ _ _)
    have eS' : h'.get? S = some { cls := .type "list", data := .seq its.toArray n } := hk' S _ D.sz D.sto D.s1 D.s2 eS
    have I1 : Inv X pins σ (upd H s.heap.objs.size (.tup [xs[i], ys[i]])) { s with heap := h', toks := tk } :=
      I.turnedNew (ch := [z, TO, i1, i2]) (fun c o hc e => hk' c o (fun q => hc (by simp [q])) (fun q => hc (by simp [q])) (fun q => hc (by simp [q])) (fun q => hc (by simp [q])) e) hf (Nat.le_refl _)
        ⟨by show 2 ≤ sizeLine; decide, [u, v], .cons rxu (.cons ryv .nil), ⟨_, hT, rfl, _, rfl⟩⟩
    have nT : H s.heap.objs.size = none := I.fresh
    have nS : S ≠ s.heap.objs.size := fun q => by
      have := md.lst
      rw [q, nT] at this; cases this
    have hS1 : upd H s.heap.objs.size (.tup [xs[i], ys[i]]) S = some (.lst (ts.map V.ref)) := by rw [upd_ne nS]; exact md.lst
    have lts : (ts.map V.ref).length = i := by rw [List.length_map, hts]
    refine wpAny_bind (wpAny_updateSeq eS' rfl (wpAny_pure ⟨plainId_quiet F.plain_extend_loop _, ?_⟩) (by rw [List.size_toArray, ← hl, lts, sizeLine_eq]; omega) (by rw [Array.size_push, List.size_toArray, ← hl, lts, sizeLine_eq]; omega))
    have I2 : Inv X pins σ (upd (upd H s.heap.objs.size (.tup [xs[i], ys[i]])) S (.lst ((ts ++ [s.heap.objs.size]).map V.ref))) { s with heap := h'.update S (Obj.mapSeq (·.push (.ref s.heap.objs.size))), toks := tk } :=
      I1.lset (its' := its ++ [.ref s.heap.objs.size]) (t' := tk) hS1 eS' (by simp) (by rw [List.map_append]; exact r.append (.cons rfl .nil)) (by rw [List.length_map, List.length_append, hts, sizeLine_eq]; simp; omega)
    have keep2 : ∀ c o, c ≠ S → h'.get? c = some o → (h'.update S (Obj.mapSeq (·.push (.ref s.heap.objs.size)))).get? c = some o := fun c o hc e => (Heap.get?_update_other _ _ (Ne.symm hc)).trans e
    refine ih (i + 1) _ _ (ts ++ [s.heap.objs.size]) (by omega) lt I2 ha hb (fun c hc => ?_) ⟨fun c q e => ?_, upd_same, fun j t e => ?_⟩ (by simp [hts]) ⟨us, vs, u1, v1, ru, rv, ?_⟩
    · obtain ⟨f0, f1, f2, f3, f4, f5⟩ := hf c hc
      have c1 : c ≠ S := fun q => by rw [q, md.lst] at f0; cases f0
      have c2 : c ≠ s.heap.objs.size := fun q => by
        simp only [List.mem_cons, List.not_mem_nil, or_false] at hc
        have hlt : ∃ o, s.heap.get? c = some o := by
          rcases hc with rfl | rfl | rfl | rfl
          · rcases st.zz with ⟨hz, _⟩ | ⟨T, f, oT, hz, _⟩ <;> exact ⟨_, hz⟩
          · exact st.too
          · obtain ⟨o, e, _⟩ := st.d1.1; exact ⟨o, e⟩
          · obtain ⟨o, e, _⟩ := st.d2.1; exact ⟨o, e⟩
        obtain ⟨o, e⟩ := hlt
        have := Heap.lt_size e
        rw [q] at this
        exact absurd this (Nat.lt_irrefl _)
      exact ⟨by rw [upd_ne c1, upd_ne c2]; exact f0, f1, f2, f3, f4, f5⟩
    · have c1 : c ≠ S := fun z' => by rw [z', h0S] at e; cases e
      have c2 : c ≠ s.heap.objs.size := fun z' => by
        have := md.keep c q e
        rw [z', nT] at this; cases this
      rw [upd_ne c1, upd_ne c2]; exact md.keep c q e
    · by_cases hj : j < ts.length
      · rw [List.getElem?_append_left hj] at e
        obtain ⟨x, y, g1, g2, g3, g4⟩ := md.prs j t e
        have c1 : t ≠ S := fun z' => by rw [z', md.lst] at g3; cases g3
        have c2 : t ≠ s.heap.objs.size := fun z' => by rw [z', nT] at g3; cases g3
        exact ⟨x, y, g1, g2, by rw [upd_ne c1, upd_ne c2]; exact g3, g4⟩
      · rw [List.getElem?_append_right (by omega)] at e
        have ej : j = i := by
          have := (List.getElem?_eq_some_iff.mp e).1
          simp only [List.length_singleton] at this
          omega
        subst ej
        rw [hts, Nat.sub_self] at e
        have et : s.heap.objs.size = t := by simpa using e
        subst et
        refine ⟨_, _, hx, hy, by rw [upd_ne (Ne.symm nS), upd_same], ?_⟩
        cases h0 : H0 s.heap.objs.size with
        | none => rfl
        | some q => have := md.keep _ q h0; rw [nT] at this; cases this
    · refine ⟨keep2 _ _ (Ne.symm D.sti) st'.ti, ⟨st'.d1.1.at fun o e => keep2 _ o (Ne.symm D.s1) e, st'.d1.2.at fun o e => keep2 _ o (Ne.symm D.sa) e⟩, ⟨st'.d2.1.at fun o e => keep2 _ o (Ne.symm D.s2) e, st'.d2.2.at fun o e => keep2 _ o (Ne.symm D.sb) e⟩, ?_, let ⟨o, e⟩ := st'.too; ⟨o, keep2 _ _ (Ne.symm D.sto) e⟩⟩
      rcases st'.zz with ⟨hz, p, q, hTO⟩ | ⟨T, f, oT, hz, hT', t1, t2, t3, t4, t5⟩
      · exact .inl ⟨keep2 _ _ (Ne.symm D.sz) hz, p, q, keep2 _ _ (Ne.symm D.sto) hTO⟩
      · exact .inr ⟨T, f, oT, keep2 _ _ (Ne.symm D.sz) hz, keep2 _ _ t5 hT', t1, t2, t3, t4, t5⟩
/-- list.__init__ of a zip -/
theorem zinit (hh : A.handled = none) (D : ZAp z TI TO i1 i2 a b S) (hle : xs.length ≤ ys.length) (hz : xs.length ≤ 1000) (h0S : H0 S = none) {s : Shared} {us vs : Array Value}
    (fin : ∀ s' H' ts, Inv X pins σ H' s' → Made H0 H' S xs ys ts → ts.length = xs.length → R (.ok (.ret .none)) s')
    (I : Inv X pins σ (upd H0 S (.lst [])) s) (ha : SqT X.K H0 a xs) (hb : SqL X.K H0 b ys) (hf : ∀ c ∈ [z, TO, i1, i2], FpOk X pins H0 c)
    (u1 : us.size = xs.length) (v1 : xs.length ≤ vs.size) (ru : Vals xs us.toList) (rv : Vals ys vs.toList) (st : ZSt s.heap z TI TO i1 i2 a b S us vs 0) (zt : s.TypeIs (.ref z) "zip") (hS : s.heap.get? S = some { cls := .type "list", data := .seq #[] })
    (zi : IsZip s.heap z TI TO .none) :
    wpAny (model X.prog X.w) A.in1 (Builtin.«list.__init__» ⟨[.ref S, .ref z], []⟩)
      (fun fin s' => match fin with | .done f => R (.ok f) s' | .again c' => c'.quiet = true ∧ codeAny (model X.prog X.w) A c' R s') (fun e s' => R (.error e) s') s := by
  refine (?_ : wpAny _ A.in1 (do let old ← Builtin.List.listItems (.ref S); Builtin.List.listUpdate (.ref S) (fun _ => #[]); letGo old.toList.reverse; Builtin.List.listExtendWith (.ref S) (.ref z) .none) _ _ s)
  unfold Builtin.List.listItems
  refine wpAny_bind (wpAny_bind (wpAny_seqItems hS rfl (wpAny_pure (?_ : wpAny _ A.in1 (updateSeq S (fun _ => #[]) >>= fun _ => letGo (#[] : Array Value).toList.reverse >>= fun _ => Builtin.List.listExtendWith (.ref S) (.ref z) .none) _ _ s))))
  have q1 := Heap.get?_update_self (Obj.mapSeq (fun _ => (#[] : Array Value))) hS rfl
  have k1 : ∀ c o, c ≠ S → s.heap.get? c = some o → (s.heap.update S (Obj.mapSeq (fun _ => (#[] : Array Value)))).get? c = some o := fun c o hc e => (Heap.get?_update_other _ _ (Ne.symm hc)).trans e
  refine wpAny_bind (wpAny_updateSeq hS rfl (wpAny_bind (wpAny_letGo ?_)))
  have moved : ∀ h' : Heap, (∀ c o, c ≠ S → s.heap.get? c = some o → h'.get? c = some o) → ZSt h' z TI TO i1 i2 a b S us vs 0 := fun h' kk => by
    refine ⟨kk _ _ (Ne.symm D.sti) st.ti, ⟨st.d1.1.at fun o e => kk _ o (Ne.symm D.s1) e, st.d1.2.at fun o e => kk _ o (Ne.symm D.sa) e⟩, ⟨st.d2.1.at fun o e => kk _ o (Ne.symm D.s2) e, st.d2.2.at fun o e => kk _ o (Ne.symm D.sb) e⟩, ?_, let ⟨o, e⟩ := st.too; ⟨o, kk _ _ (Ne.symm D.sto) e⟩⟩
    rcases st.zz with ⟨hz, p, q, hTO⟩ | ⟨T, f, oT, hz, hT', t1, t2, t3, t4, t5⟩
    · exact .inl ⟨kk _ _ (Ne.symm D.sz) hz, p, q, kk _ _ (Ne.symm D.sto) hTO⟩
    · exact .inr ⟨T, f, oT, kk _ _ (Ne.symm D.sz) hz, kk _ _ t5 hT', t1, t2, t3, t4, t5⟩
  have zty : ∀ (h' : Heap) (tk : Nat), (∀ c o, c ≠ S → s.heap.get? c = some o → h'.get? c = some o) → Shared.TypeIs { s with heap := h', toks := tk } (.ref z) "zip" := fun h' tk kk => by
    obtain ⟨o, ho, hc⟩ := zt
    exact ⟨o, kk _ o (Ne.symm D.sz) ho, hc⟩
  unfold Builtin.List.listExtendWith
  refine wpAny_bind (wpAny_typeOf (zty _ s.toks k1) ?_)
  have e1 : Builtin.List.listSameRef (.ref S) (.ref z) = false := by simp [Builtin.List.listSameRef, D.sz]
  have e2 : (Value.type "zip" == Value.type "list") = false := by decide
  have e3 : (Value.type "zip" == Value.type "tuple") = false := by decide
  simp only [e1, e2, e3, Bool.or_false, Bool.false_eq_true, if_false]
  refine wpAny_bind (wpAny_pyIter_zip (k1 _ _ (Ne.symm D.sz) zi) (wpAny_bind (wpAny_holding ?_)))
  unfold Builtin.List.listLengthHint
  refine wpAny_bind (wpAny_specialOf (zty _ s.toks k1) zip_nolen (?_ : wpAny _ A.in1 (specialOf (Value.ref z) (Str.ofString "__length_hint__") >>= _) _ _ _))
  refine wpAny_bind (wpAny_specialOf (zty _ s.toks k1) zip_nohint (wpAny_pure ?_))
  refine (?_ : wpAny _ A.in1 (rule "list.extend.makes-room" >>= fun _ => Builtin.List.listTouch (.ref S) >>= fun _ => again (.builtin "list.extend.loop" ⟨[.ref S, .ref z, .none], []⟩)) _ _ _)
  refine wpAny_bind (wpAny_rule (wpAny_bind (?_ : wpAny _ A.in1 (updateSeq S (·.push .none) >>= fun _ => updateSeq S (·.pop)) _ _ _)))
  refine wpAny_bind (wpAny_updateSeq q1 rfl ?_)
  have q2 := Heap.get?_update_self (Obj.mapSeq (·.push Value.none)) q1 rfl
  refine wpAny_updateSeq (hz := by seq_fits) q2 rfl (wpAny_pure ⟨plainId_quiet F.plain_extend_loop _, ?_⟩)
  have q3 := Heap.get?_update_self (Obj.mapSeq (·.pop)) q2 rfl
  have k3 : ∀ c o, c ≠ S → s.heap.get? c = some o → (((s.heap.update S (Obj.mapSeq (fun _ => (#[] : Array Value)))).update S (Obj.mapSeq (·.push Value.none))).update S (Obj.mapSeq (·.pop))).get? c = some o := fun c o hc e =>
    (Heap.get?_update_other _ _ (Ne.symm hc)).trans ((Heap.get?_update_other _ _ (Ne.symm hc)).trans (k1 c o hc e))
  have I3 := I.write (x := S) (e := S) (o := .lst []) (t' := s.toks) (by rw [upd_same]; exact True.intro) (.inl rfl) (fun c o hc e => k3 c o hc e) ⟨_, q3⟩ ⟨Nat.zero_le _, [], _, .nil, q3⟩
  refine zloop hh D hle hz h0S fin xs.length 0 _ _ [] (by omega) (Nat.zero_le _) I3 ha hb (fun c hc => ?_) ⟨fun c q e => ?_, upd_same, fun j t e => by simp at e⟩ rfl ⟨us, vs, u1, v1, ru, rv, moved _ k3⟩
  · obtain ⟨f0, f1⟩ := hf c hc
    have c1 : c ≠ S := by
      simp only [List.mem_cons, List.not_mem_nil, or_false] at hc
      rcases hc with rfl | rfl | rfl | rfl
      · exact Ne.symm D.sz
      · exact Ne.symm D.sto
      · exact Ne.symm D.s1
      · exact Ne.symm D.s2
    exact ⟨by rw [upd_ne c1, upd_ne c1]; exact f0, f1⟩
  · have c1 : c ≠ S := fun z' => by rw [z', h0S] at e; cases e
    rw [upd_ne c1, upd_ne c1]; exact e
end
end PV

/-! PV37: list(zip(a tuple, a list)) as an expression. -/
namespace PV
open PySem PySem.Spec PySem.Calls PyProof.Rows L2
theorem bt_zip : bootBuiltins "zip" = some (.type "zip") := by decide +kernel
def rListZip (X : Cx) : List V → Hp → VK → Prop := fun vs H1 Q => ∃ a b xs ys, vs = [V.ref a, V.ref b] ∧ SqT X.K H1 a xs ∧ SqL X.K H1 b ys ∧ xs.length ≤ ys.length ∧ xs.length ≤ 1000 ∧
  ∀ S H2 ts, H1 S = none → Made H1 H2 S xs ys ts → ts.length = xs.length → Q (.ref S) H2
theorem pe_listZip {X : Cx} {e e2 : Expr} {ta : TA} {p1 p2 pos pos2 : Pos} (hc : X.calm = true) (hg : Gl X "list") (hm : X.mg "list" = none) (hg2 : Gl X "zip") (hm2 : X.mg "zip" = none) (ha : PA X [e, e2] ta)
    (hs : starEach [e, e2] X.env = (false, eval e X.env) :: starEach [e2] X.env := by rfl) (hpl2 : (backTo pos2 (starEach [e2] X.env)).any (·.1) = false := by rfl)
    (hs2 : starEach [.Call (.Name "zip" p2) [e, e2] [] pos2] X.env = (false, eval (.Call (.Name "zip" p2) [e, e2] [] pos2) X.env) :: starEach [] X.env := by rfl) (hpl : (backTo pos (starEach [] X.env)).any (·.1) = false := by rfl) :
    PE X (.Call (.Name "list" p1) [.Call (.Name "zip" p2) [e, e2] [] pos2] [] pos) (fun σ H Q => ta σ H fun vs H1 => rListZip X vs H1 Q) := by
  refine ⟨fun pins s σ H Q I h => Call_ (ld_blt I hg hm bt_list (PyProof.Rows.callWith_type1 ?_ hs2 hpl))⟩
  rw [hs2]
  refine Calls.spliced_cons (?_ : wpAny (model X.prog X.w) X.A (eval (.Call (.Name "zip" p2) [e, e2] [] pos2) X.env) (fun v s₁ => wpAny (model X.prog X.w) X.A (spliced []) (fun vs s₂ => wpAny (model X.prog X.w) X.A (call (.type "list") (v :: vs)) _ X.xe s₂) X.xe s₁) X.xe s)
  refine Call_ (ld_blt I hg2 hm2 bt_zip (PyProof.Rows.callWith_type1 (thn (ha.run pos2 pins s σ H _ I h) fun us s1 ⟨vs, H1, I1, r1, q1⟩ => ?_) hs hpl2))
  obtain ⟨a, b, xs, ys, rfl, hqx, hqy, hle, hz, q⟩ := q1
  obtain ⟨ua, ub, rfl, ra, rb⟩ := vals2 r1
  obtain rfl : ua = Value.ref a := ra
  obtain rfl : ub = Value.ref b := rb
  obtain ⟨its, rv, p1', z1⟩ := I1.tuple hqx
  obtain ⟨its2, rv2, p2', z2⟩ := I1.list hqy
  have pt : s1.heap.IsTuple a its.toArray := p1'
  have la : a < s1.heap.objs.size := by obtain ⟨o, ho, _⟩ := pt; exact Heap.lt_size ho
  have lb : b < s1.heap.objs.size := p2'.lt
  refine zip_begins2 (begins_tuple a its.toArray) (begins_list b its2.toArray) pt p2'.isList fun h' hzip hTI hTO ho1 ho2 hsz hk => ?_
  have I2 : Inv X pins σ H1 { s1 with heap := h' } := I1.kept (t' := s1.toks) hk
  have sS : h'.objs.size = s1.heap.objs.size + 5 := hsz
  have sep : ZAp (s1.heap.objs.size + 4) (s1.heap.objs.size + 2) (s1.heap.objs.size + 3) s1.heap.objs.size (s1.heap.objs.size + 1) a b h'.objs.size :=
    { zip_sep2 (N := s1.heap.objs.size) (fp1 := [a]) (fp2 := [b]) (fun c hc => by rw [List.mem_singleton.mp hc]; exact la) (fun c hc => by rw [List.mem_singleton.mp hc]; exact lb) with
      sz := by rw [sS]; exact fun q => absurd (show s1.heap.objs.size + 5 = s1.heap.objs.size + 4 from q) (by omega)
      sti := by rw [sS]; exact fun q => absurd (show s1.heap.objs.size + 5 = s1.heap.objs.size + 2 from q) (by omega)
      sto := by rw [sS]; exact fun q => absurd (show s1.heap.objs.size + 5 = s1.heap.objs.size + 3 from q) (by omega)
      s1 := by rw [sS]; exact fun q => absurd (show s1.heap.objs.size + 5 = s1.heap.objs.size from q) (by omega)
      s2 := by rw [sS]; exact fun q => absurd (show s1.heap.objs.size + 5 = s1.heap.objs.size + 1 from q) (by omega)
      sa := by rw [sS]; exact fun q => absurd (show s1.heap.objs.size + 5 < s1.heap.objs.size from by rw [q]; exact la) (by omega)
      sb := by rw [sS]; exact fun q => absurd (show s1.heap.objs.size + 5 < s1.heap.objs.size from by rw [q]; exact lb) (by omega) }
  have st0 : ZSt h' (s1.heap.objs.size + 4) (s1.heap.objs.size + 2) (s1.heap.objs.size + 3) s1.heap.objs.size (s1.heap.objs.size + 1) a b h'.objs.size its.toArray its2.toArray 0 :=
    ⟨hTI, ⟨⟨_, ho1, rfl, rfl⟩, pt.at fun o e => hk a o e⟩, ⟨⟨_, ho2, rfl, rfl⟩, p2'.isList.at fun o e => hk b o e⟩, .inl ⟨hzip, _, _, hTO⟩, ⟨_, hTO⟩⟩
  have h0S : H1 h'.objs.size = none := I2.hok.fresh (Nat.le_refl _)
  refine Calls.spliced_nil ?_
  refine callType_codes (Q₁ := fun obj s₁ => obj = .ref h'.objs.size ∧ s₁ = { s1 with heap := h'.push { cls := .type "list", data := .seq #[] } }) F.called_list (F.typeCall_list_1 _) F.entry_list_init (code_list_new _ ⟨rfl, rfl⟩) fun obj s₁ hh => ?_
  obtain ⟨rfl, rfl⟩ := hh
  have hS : (h'.push { cls := .type "list", data := .seq #[] }).get? h'.objs.size = some { cls := .type "list", data := .seq #[] } := Heap.get?_push_size _ rfl
  have kp : ∀ c o, h'.get? c = some o → (h'.push { cls := .type "list", data := .seq #[] }).get? c = some o := fun c o e => Heap.get?_push_of_some _ e
  have I3 : Inv X pins σ (upd H1 h'.objs.size (.lst [])) { s1 with heap := h'.push { cls := .type "list", data := .seq #[] } } := I2.lnew (its := []) (t' := s1.toks) .nil (Nat.zero_le _)
  refine ⟨⟨_, hS, rfl⟩, F.args_list_init_2 _ _, ?_⟩
  have fps : ∀ c ∈ [s1.heap.objs.size + 4, s1.heap.objs.size + 3, s1.heap.objs.size, s1.heap.objs.size + 1], FpOk X pins H1 c := fun c hc => by
    have hle : s1.heap.objs.size ≤ c := by
      simp only [List.mem_cons, List.not_mem_nil, or_false] at hc
      rcases hc with z | z | z | z
      · rw [z]; exact Nat.le_add_right _ _
      · rw [z]; exact Nat.le_add_right _ _
      · rw [z]; exact Nat.le_refl _
      · rw [z]; exact Nat.le_add_right _ _
    exact I1.fpOk hle (I1.hok.fresh hle)
  have l1 := rv.length
  have l2 := rv2.length
  refine zinit (A := X.A.in1) (I.ok.hd hc) sep hle hz h0S (fun s' H' ts Iv md hl => ⟨rfl, .ref h'.objs.size, H', Iv, rfl, q _ H' ts h0S md hl⟩) I3 hqx hqy fps (us := its.toArray) (vs := its2.toArray) (by simp [l1]) (by simp; omega) (by simpa using rv) (by simpa using rv2) ?_ ⟨_, kp _ _ hzip, rfl⟩ hS (kp _ _ hzip)
  · refine ⟨kp _ _ st0.ti, ⟨st0.d1.1.at fun o e => kp _ o e, st0.d1.2.at fun o e => kp _ o e⟩, ⟨st0.d2.1.at fun o e => kp _ o e, st0.d2.2.at fun o e => kp _ o e⟩, .inl ⟨kp _ _ hzip, _, _, kp _ _ hTO⟩, ⟨_, kp _ _ hTO⟩⟩
/-! ### its meaning -/
def lzD : List D → Option Vl
  | [.tuple xs, .list ys] => if xs.length ≤ ys.length ∧ xs.length ≤ 1000 then some (.own ((xs.zip ys).map fun p => .tuple [p.1, p.2])) else none
  | _ => none
def listZipM (f : M (List D)) : M Vl := f.bnd fun ds => M.opt (lzD ds)
section
variable {X : Cx} {G : Gd} {W : WX} {N : List Str} {sc : Scope} {blk : Bool} {k : Nat} {Mo : Wo} {pos : Pos} {e : Expr}
theorem made_all {K : PySem.W.Frag} {O O' : Own} {H0 H : Hp} (st : Step O H0 O' H) (no : ∀ t u, H0 t = none → H t = some (.tup u) → ¬ O' t) : ∀ {xs ys : List D} {vs ws : List V} {ts : List Addr}, RpAll K O H0 xs vs → RpAll K O H0 ys ws → ts.length = vs.length → vs.length ≤ ws.length →
    (∀ (j : Nat) (t : Addr), ts[j]? = some t → ∃ x y, vs[j]? = some x ∧ ws[j]? = some y ∧ H t = some (.tup [x, y]) ∧ H0 t = none) → RpAll K O' H ((xs.zip ys).map fun p => PyData.tuple [p.1, p.2]) (ts.map V.ref)
  | [], ys, vs, ws, ts, rx, ry, h1, h2, h => by
    match vs, rx with
    | [], _ =>
      have : ts = [] := List.eq_nil_of_length_eq_zero h1
      subst this
      simp [RpAll]
    | _ :: _, rx => simp only [RpAll] at rx
  | x :: xs, ys, vs, ws, ts, rx, ry, h1, h2, h => by
    match vs, rx with
    | [], rx => simp only [RpAll] at rx
    | v :: vs, rx =>
      match ts, h1 with
      | [], h1 => simp at h1
      | t :: ts, h1 =>
        match ys, ws, ry with
        | [], [], _ => simp at h2
        | [], _ :: _, ry => simp only [RpAll] at ry
        | _ :: _, [], ry => simp only [RpAll] at ry
        | y :: ys, w :: ws, ry =>
          simp only [RpAll] at rx ry
          obtain ⟨x0, y0, e1, e2, e3, e4⟩ := h 0 t rfl
          simp only [List.getElem?_cons_zero, Option.some.injEq] at e1 e2
          subst e1; subst e2
          simp only [List.zip_cons_cons, List.map_cons, RpAll]
          refine ⟨?_, made_all st no rx.2 ry.2 (by simpa using h1) (by simpa using h2) fun j t' e => ?_⟩
          · simp only [Rp]
            refine ⟨t, [v, w], rfl, .inl ⟨.inl e3, no t _ e4 e3⟩, ?_⟩
            simp only [RpAll]
            exact ⟨Rp.step st x v rx.1, Rp.step st y w ry.1, True.intro⟩
          · have := h (j + 1) t' e
            simpa using this
theorem sv_listZip (A : At X G W N sc blk k Mo) {e2 : Expr} {p1 p2 pos2 : Pos} {f : M (List D)} (h : SA X G W [e, e2] f) (hg : sc.names.lookup ("list" : Str) = some .globalImplicit) (hm : Mo.mg "list" = none) (hg2 : sc.names.lookup ("zip" : Str) = some .globalImplicit) (hm2 : Mo.mg "zip" = none)
    (hs : starEach [e, e2] X.env = (false, eval e X.env) :: starEach [e2] X.env := by rfl) (hpl2 : (backTo pos2 (starEach [e2] X.env)).any (·.1) = false := by rfl)
    (hs2 : starEach [.Call (.Name "zip" p2) [e, e2] [] pos2] X.env = (false, eval (.Call (.Name "zip" p2) [e, e2] [] pos2) X.env) :: starEach [] X.env := by rfl) (hpl : (backTo pos (starEach [] X.env)).any (·.1) = false := by rfl) :
    SV X G W (.Call (.Name "list" p1) [.Call (.Name "zip" p2) [e, e2] [] pos2] [] pos) (listZipM f) := by
  refine PE.imp (pe_listZip A.calm (by show X.env.scope.names.lookup ("list" : Str) = _; rw [A.hsc]; exact hg) (by rw [A.hmg]; exact hm) (by show X.env.scope.names.lookup ("zip" : Str) = _; rw [A.hsc]; exact hg2) (by rw [A.hmg]; exact hm2) h hs hpl2 hs2 hpl) fun σ H Q ⟨O, env, R, t⟩ => ?_
  obtain ⟨O1, env1, R1, r1, e1, p1'⟩ := bindL (RV := RA G) (RW := RL G) (Q := Q) R t
  refine ⟨O1, env1, R1, r1, e1, p1'.mono fun vs H2 ⟨ds, env2, O2, R2, s2, rx, t2⟩ => ?_⟩
  obtain ⟨vl, ev, q⟩ := t2.optAt
  unfold lzD at ev
  split at ev
  · rename_i xs ys
    split at ev
    · rename_i hz
      cases ev
      obtain ⟨v, w, rfl, rv, rw'⟩ := RpAll.two rx
      obtain ⟨a, vs, rfl, ra, qa⟩ := Rp.tup_inv rv
      obtain ⟨b, ws, rfl, rb, qb⟩ := Rp.list_inv rw'
      have l1 := qa.length
      have l2 := qb.length
      have sa : SqT X.K H2 a vs := by rw [A.hK]; exact ra.sq
      have sb : SqL X.K H2 b ws := by rw [A.hK]; exact rb.sq
      refine ⟨a, b, vs, ws, rfl, sa, sb, by omega, by omega, fun S H3 ts hS md hl => ?_⟩
      have g : Grow H2 H3 := md.keep
      refine q _ _ H3 (R2.new g hS (by rw [md.lst]; exact fun z => nomatch z)) (g.stepNew hS) ⟨S, ts.map V.ref, rfl, md.lst, made_all (g.stepNew hS) (fun t u h0 h1 z => ?_) qa qb hl (by omega) md.prs, .inr rfl, R2.fresh0 hS, fun i h e => ?_⟩
      · rcases z with z | z
        · exact R2.ol t z h0
        · rw [z, md.lst] at h1; cases h1
      · obtain ⟨q', vs', e1, h1, _⟩ := R2.ownAddr h
        rw [e] at e1; cases e1
        rw [hS] at h1; cases h1
    · cases ev
  · cases ev
end
end PV

/-! PV38: a whole number in a tuple of whole numbers. -/
namespace PV
open PySem PySem.Spec PySem.Calls PyProof.Rows L2
def inT (neg : Bool) : D → D → Option Vl
  | .int i, .tuple ds => (intsD ds).map fun ns => .d (.bool (neg ^^ ns.any fun z => z == i))
  | _, _ => none
def inA (neg : Bool) (x y : D) : Option Vl := (inD neg x y).or (inT neg x y)
section
variable {K : PySem.W.Frag}
theorem flat_ints (ns : List Int) : (ns.map V.int).all flatV = true := by
  induction ns with
  | nil => rfl
  | cons n ns ih => rw [List.map_cons, List.all_cons, ih]; rfl
theorem inV_ints (i : Int) (ns : List Int) : inV (.int i) (ns.map V.int) = ns.any fun z => z == i := by
  unfold inV
  rw [List.any_map]
  rfl
theorem inT_S (neg : Bool) : OpS K (rIn K neg) (inT neg) := by
  intro O H x y dx dy vl Q ol rx ry e q
  unfold inT at e
  split at e
  · rename_i i ds
    cases hb : intsD ds with
    | none => rw [hb] at e; cases e
    | some ns =>
      rw [hb] at e; cases e
      obtain ⟨a, ws, rfl, ra, qa⟩ := Rp.tup_inv ry
      have e2 := intsD_S qa hb
      subst e2
      rw [rx.int_inv]
      refine ⟨a, ns.map V.int, rfl, .inr ra.sq, rfl, flat_ints ns, ?_⟩
      rw [inV_ints]
      cases neg
      · have := q.bl; rw [Bool.false_xor] at this; exact this
      · have := q.bl; rw [Bool.true_xor] at this; exact this
  · cases e
end
section
variable {X : Cx}
theorem op_inA (hu : X.A.units + 65 < cLine) : OpR X (compareOp .In) (fun x y H Q => rInD X.K x y H Q ∨ rIn X.K false x y H Q) := (op_inD hu).or op_in_seq
theorem op_notInA (hu : X.A.units + 65 < cLine) : OpR X (compareOp .NotIn) (fun x y H Q => rNotInD X.K x y H Q ∨ rIn X.K true x y H Q) := (op_notInD hu).or op_notIn_seq
theorem inA_S {K : PySem.W.Frag} : OpS K (fun x y H Q => rInD K x y H Q ∨ rIn K false x y H Q) (inA false) := OpS.or in_S (inT_S false)
theorem notInA_S {K : PySem.W.Frag} : OpS K (fun x y H Q => rNotInD K x y H Q ∨ rIn K true x y H Q) (inA true) := OpS.or notIn_S (inT_S true)
end
end PV

/-! PV39: a new list handed to a parameter that is changed. -/
namespace PV
open PySem PySem.Spec PyProof.Rows L2
def callOk (c : Fn) (x : Vl) : M Vl := fun env => match x with
  | .own xs => match c [.m xs] with
    | some (r, [_]) => some (r, env)
    | _ => none
  | .d _ => none
def callO (c : Fn) (f : M Vl) : M Vl := f.bnd (callOk c)
@[simp] theorem e_callO (c : Fn) (f : M Vl) (env : SEnv) : callO c f env = M.bnd f (callOk c) env := rfl
theorem e_callOk {c : Fn} {xs ys : List D} {r : Rz Vl} {env : SEnv} (h : c [.m xs] = some (r, [ys])) : callOk c (.own xs) env = some (r, env) := by
  unfold callOk
  dsimp only
  rw [h]
section
variable {X : Cx} {G : Gd} {W : WX} {N : List Str} {sc : Scope} {blk : Bool} {k : Nat} {Mo : Wo} {pos p : Pos} {e : Expr} {f : M Vl} {c : Fn} {x : Str} {ps : List Str}
theorem callO_imp (A : At X G W N sc blk k Mo) {O : Own} {env : SEnv} {σ : L2.St} {H : Hp} {Q : VK} {y : Vl} {v : V} (R : Rel G O H σ env) (rv : RL G σ y v env O H) (t : tAt G W (RL G) (callOk c y) O env σ H Q) : spF X.K G.cls c [v] H Q (WE W σ) := by
  obtain ⟨r, e, pr⟩ := t
  unfold callOk at e
  cases y with
  | d _ => cases e
  | own xs =>
    obtain ⟨a, vs, rfl, h1, h2, h3, h4, h5⟩ := rv
    dsimp only at e
    split at e
    · rename_i rz ys ec
      cases e
      rw [A.hK]
      have kO : ∀ b, O b → H b ≠ none := R.ol
      have mv : ∀ {O' : Own} {H' : Hp} {ws : List V}, Keeps H [a] H' → H' a = some (.lst ws) → (O' = O ∨ ∃ q, H q = none ∧ H' q ≠ none ∧ O' = fun b => O b ∨ b = q) → Rel G O' H' σ env ∧ Step O H O' H' := fun {O' H' ws} hk ha hO => by
        have kp : ∀ b o, H b = some o → b ≠ a → H' b = some o := fun b o hb n => hk b o hb (by simpa using n)
        have up : ∀ b, O b → O' b := fun b hb => by
          rcases hO with rfl | ⟨q, _, _, rfl⟩
          · exact hb
          · exact .inl hb
        have st : Step O H O' H' := fun b o hb n => by
          have ne : b ≠ a := fun z => n (z ▸ h3)
          refine ⟨kp b o hb ne, fun z => ?_⟩
          rcases hO with rfl | ⟨q, hq, _, rfl⟩
          · exact n z
          · rcases z with z | z
            · exact n z
            · rw [z, hq] at hb; cases hb
        refine ⟨R.move st (fun i q hi hs => ?_) (fun b o hb g _ ob => ?_) (fun b hb => ?_), st⟩
        · have ne : q ≠ a := fun z => h5 i hi (z ▸ hs)
          obtain ⟨q', ws', e1, e2, e3⟩ := R.ownAddr hi
          rw [hs] at e1; cases e1
          exact ⟨(kp q _ e2 ne).trans e2.symm, up q e3⟩
        · have ne : b ≠ a := fun z => g (z ▸ h4)
          exact ⟨kp b o hb ne, up b ob⟩
        · have old : O b → H' b ≠ none := fun ob => by
            by_cases z : b = a
            · rw [z, ha]; exact fun w => nomatch w
            · cases hb' : H b with
              | none => exact absurd hb' (kO b ob)
              | some o => rw [kp b o hb' z]; exact fun w => nomatch w
          rcases hO with rfl | ⟨q, _, hq, rfl⟩
          · exact old hb
          · rcases hb with hb | hb
            · exact old hb
            · rw [hb]; exact hq
      refine ⟨O, [.m xs], rz, [ys], R.ol, ⟨⟨a, vs, rfl, h1, h2, h3⟩, trivial⟩, by show [a].Nodup; simp, ec, ?_⟩
      cases rz with
      | ok y =>
        intro v O' H' hk hm rr
        obtain ⟨⟨ws, m1, m2⟩, _⟩ := hm
        cases y with
        | d d =>
          obtain ⟨eO, rp⟩ := rr
          obtain ⟨R', st⟩ := mv hk m1 (.inl eO)
          exact pr v O' H' R' st rp
        | own zs =>
          obtain ⟨q, us, rfl, hq, eO, hq', rp⟩ := rr
          obtain ⟨R', st⟩ := mv hk m1 (.inr ⟨q, hq, (fun z => nomatch hq'.symm.trans z), eO⟩)
          refine pr _ O' H' R' st ⟨q, us, rfl, hq', rp, by rw [eO]; exact .inr rfl, R.fresh0 hq, fun i hi z => ?_⟩
          obtain ⟨q', vs', e1, e2, _⟩ := R.ownAddr hi
          rw [z] at e1; cases e1
          rw [hq] at e2; cases e2
      | ex er =>
        intro cl dd H' hk hm xr
        obtain ⟨⟨ws, m1, m2⟩, _⟩ := hm
        obtain ⟨R', st⟩ := mv hk m1 (.inl rfl)
        exact pr cl dd O H' R' st (ExR.step rfl rfl Step.refl xr)
    · cases e
/-- f(e), e a new list -/
theorem sv_cO (A : At X G W N sc blk k Mo) (h : HasN Mo x ps c k) (hg : sc.names.lookup x = some .globalImplicit) (hv : SV X G W e f) (hdb : (x == ("__debug__" : Str)) = false := by decide) (he : starEach [e] X.env = (false, eval e X.env) :: starEach [] X.env := by rfl) (hpl : (backTo pos (starEach [] X.env)).any (·.1) = false := by rfl) :
    SV X G W (.Call (.Name x p) [e] [] pos) (callO c f) := by
  obtain ⟨a, fd, hm, hk, hb, F⟩ := h
  refine ⟨fun pins s σ H Q I ⟨O, env, R, t⟩ => ?_⟩
  refine wpAny_Call_Name_kw (ld_glob I (by show X.env.scope.names.lookup x = _; rw [A.hsc]; exact hg) (by rw [A.hmg]; exact hm) ?_ hdb)
  obtain ⟨O1, env1, R1, r1, e1, p1⟩ := bindL (RV := RL G) R t
  have pa : PA X [e] _ := pa_cons hv pa_nil he
  refine PySem.W.callWith_K (h₀ := X.base) I.ok.mod.kin (by rw [A.hK, A.gK]; exact hk) (thn (pa.run pos pins s σ H (fun vs H1 => spF X.K G.cls c vs H1 Q (WE W σ)) I ⟨O1, env1, R1, r1, e1, p1.mono fun y H2 ⟨dy, env2, O2, R2, s2, ry, t2⟩ => callO_imp A R2 ry t2⟩) fun us s1 ⟨vs, H1, I1, r, q⟩ => ⟨I1.kIn, ?_⟩) he hpl
  rw [A.hK, A.gK, A.gc] at q
  exact run_G A F (by rw [A.hK, A.gK]; exact hb) (passAt A.tk σ) I1 r q
end
/-- x is None -/
theorem op_is {X : Cx} : OpR X (compareOp .Is) (fun x y H Q => y = .non ∧ Q (.bl (decide (x = .non))) H) := by
  intro pins s σ H x y v u Q I rx ry h
  obtain ⟨rfl, q⟩ := h
  cases ry
  refine is_none_gen (fin_bl I q ?_)
  cases x with
  | non => cases rx; rfl
  | bl b => cases rx; rw [decide_eq_false fun z => nomatch z]; rfl
  | int i => obtain ⟨t, rfl⟩ := rx; rw [decide_eq_false fun z => nomatch z]; rfl
  | str i => obtain ⟨t, rfl⟩ := rx; rw [decide_eq_false fun z => nomatch z]; rfl
  | byt i => obtain ⟨t, rfl⟩ := rx; rw [decide_eq_false fun z => nomatch z]; rfl
  | flt i => obtain ⟨t, rfl⟩ := rx; rw [decide_eq_false fun z => nomatch z]; rfl
  | ref a => cases rx; rw [decide_eq_false fun z => nomatch z]; rfl
  | ty n => cases rx; rw [decide_eq_false fun z => nomatch z]; rfl
end PV

/-! PV40: x is True, x is not False, x is not None. -/
namespace PV
open PySem PySem.Spec PyProof.Rows L2
def isT (x y : D) : Option Vl := match x, y with
  | .bool a, .bool b => some (.d (.bool (a == b)))
  | _, _ => none
def nisT (x y : D) : Option Vl := match x, y with
  | .bool a, .bool b => some (.d (.bool (a != b)))
  | _, _ => none
@[simp] theorem o_isT (a b : Bool) : isT (.bool a) (.bool b) = some (.d (.bool (a == b))) := rfl
@[simp] theorem o_nisT (a b : Bool) : nisT (.bool a) (.bool b) = some (.d (.bool (a != b))) := rfl
section
variable {K : PySem.W.Frag} {X : Cx}
theorem isT_S : OpS K (fun x y H Q => ∃ a b, x = .bl a ∧ y = .bl b ∧ Q (.bl (a == b)) H) isT := by
  intro O H x y dx dy vl Q ol rx ry e q
  unfold isT at e
  split at e
  · cases e
    exact ⟨_, _, rx, ry, q.bl⟩
  · cases e
theorem nisT_S : OpS K (fun x y H Q => ∃ a b, x = .bl a ∧ y = .bl b ∧ Q (.bl (a != b)) H) nisT := by
  intro O H x y dx dy vl Q ol rx ry e q
  unfold nisT at e
  split at e
  · cases e
    exact ⟨_, _, rx, ry, q.bl⟩
  · cases e
theorem op_isT : OpR X (compareOp .Is) (fun x y H Q => ∃ a b, x = .bl a ∧ y = .bl b ∧ Q (.bl (a == b)) H) := by
  intro pins s σ H x y v u Q I rx ry h
  obtain ⟨a, b, rfl, rfl, q⟩ := h
  cases rx
  cases ry
  exact is_bool (fin_bl I q rfl)
theorem op_nisT : OpR X (compareOp .IsNot) (fun x y H Q => ∃ a b, x = .bl a ∧ y = .bl b ∧ Q (.bl (a != b)) H) := by
  intro pins s σ H x y v u Q I rx ry h
  obtain ⟨a, b, rfl, rfl, q⟩ := h
  cases rx
  cases ry
  exact isnot_bool (fin_bl I q rfl)
/-- x is not None -/
theorem op_isNot : OpR X (compareOp .IsNot) (fun x y H Q => y = .non ∧ Q (.bl (!decide (x = .non))) H) := by
  intro pins s σ H x y v u Q I rx ry h
  obtain ⟨rfl, q⟩ := h
  cases ry
  refine isnot_none_gen (fin_bl I q ?_)
  cases x with
  | non => cases rx; rfl
  | bl b => cases rx; rw [decide_eq_false fun z => nomatch z]; rfl
  | int i => obtain ⟨t, rfl⟩ := rx; rw [decide_eq_false fun z => nomatch z]; rfl
  | str i => obtain ⟨t, rfl⟩ := rx; rw [decide_eq_false fun z => nomatch z]; rfl
  | byt i => obtain ⟨t, rfl⟩ := rx; rw [decide_eq_false fun z => nomatch z]; rfl
  | flt i => obtain ⟨t, rfl⟩ := rx; rw [decide_eq_false fun z => nomatch z]; rfl
  | ref a => cases rx; rw [decide_eq_false fun z => nomatch z]; rfl
  | ty n => cases rx; rw [decide_eq_false fun z => nomatch z]; rfl
end
end PV

/-! PV41: y = [..], y read in a later comprehension. -/
namespace PV
open PySem PySem.Spec PyProof.Rows L2
theorem sw_cell {elt : Expr} {gs : List Comprehension} {scope : Scope} {pos py : Pos} {y : Str} {l : Nat} {env : Env} (hy : env.scope.names.lookup y = some .cell) : swapsWith (.ListComp elt gs scope pos) (some (.Name y py)) l env = pure false := by
  have ky : env.kindOf y = some .cell := hy
  have e : (some NameKind.cell == some NameKind.local) = false := rfl
  unfold swapsWith
  simp only [ky, e, Bool.and_false, Bool.false_and]
end PV

/-! PV42: a, b = a list. -/
namespace PV
open PySem PySem.Spec PyProof.Rows L2
def lstT (n : Nat) (u : Tgts) : Tgt := fun d env => match d with
  | .list ds => if ds.length = n then u ds env else none
  | _ => none
@[simp] theorem e_lstT (n : Nat) (u : Tgts) (ds : List D) (env : SEnv) : lstT n u (.list ds) env = (if ds.length = n then u ds env else none) := rfl
section
variable {X : Cx} {G : Gd} {W : WX} {N : List Str} {sc : Scope} {blk : Bool} {k : Nat} {Mo : Wo} {pos : Pos}
theorem st_lst (A : At X G W N sc blk k Mo) {es : List Expr} {kk : Nat} {ws : List Nat} {u : Tgts} {n : Nat} (h : STgs X G es ws u) (hn : (assignEach es X.env).length = n := by rfl) (hst : (assignEach es X.env).findIdx? (·.1) = none := by rfl) : STg X G (.Tuple es kk pos) ws (lstT n u) := by
  refine PG.imp (pg_lst A.calm h hn hst) fun v σ H Q ⟨O, env, d, env', R, r, et, q⟩ => ?_
  unfold lstT at et
  split at et
  · rename_i ds
    split at et
    · rename_i hl
      obtain ⟨a, xs, rfl, ra, qa⟩ := Rp.list_inv r
      exact ⟨a, xs, rfl, by rw [A.hK]; exact ra.sq, by rw [← qa.length]; exact hl, O, env, ds, env', R, qa, et, q⟩
    · cases et
  · cases et
end
end PV

/-! PV43: xs[i], xs[j] = a tuple (targets that change a list of its own). -/
namespace PV
open PySem PySem.Spec PyProof.Rows L2
def tTgH (G : Gd) (t : Tgt) : TG := fun v σ H Q => ∃ O env d env', Rel G O H σ env ∧ Rp G.K O H d v ∧ t d env = some env' ∧ ∀ O' H', Rel G O' H' σ env' → Step O H O' H' → Q σ H'
def STh (X : Cx) (G : Gd) (tg : Expr) (t : Tgt) : Prop := PG X tg (tTgH G t)
def tTgsH (G : Gd) (t : Tgts) : TGs := fun vs σ H Q => ∃ O env ds env', Rel G O H σ env ∧ RpAll G.K O H ds vs ∧ t ds env = some env' ∧ ∀ O' H', Rel G O' H' σ env' → Step O H O' H' → Q σ H'
def SThs (X : Cx) (G : Gd) (tg : List Expr) (t : Tgts) : Prop := PGs X tg (tTgsH G t)
def subT (j : Nat) (fi : M D) : Tgt := fun d env => match listAt env j with
  | none => none
  | some _ => match fi env with
    | some (.ok kd, env1) => match kd, listAt env1 j with
      | .int kk, some xs => match ixN xs.length kk with
        | some n => some (setOut env1 j (xs.set n d))
        | none => none
      | _, _ => none
    | _ => none
section
variable {X : Cx} {G : Gd} {W : WX} {N : List Str} {sc : Scope} {blk : Bool} {k : Nat} {Mo : Wo} {pos : Pos} {e : Expr}
theorem sth_sub (A : At X G W N sc blk k Mo) (j : Nat) {x : Str} {i : Expr} {p sp : Pos} {fi : M D} (h' : SD X G W i fi) (hi : N[j]? = some x := by rfl) (hv : Vis sc x := by first | exact Or.inl rfl | exact Or.inr (Or.inl rfl) | exact Or.inr (Or.inr rfl)) (hd : (x == ("__debug__" : Str)) = false := by decide) (hcd : (x == ("__classdict__" : Str)) = false := by decide)
    (ha : ∀ v, assign (.Subscript (.Name x p) i sp) X.env v = (do
      let ov ← holding [v] (eval (.Name x p) X.env)
      let iv ← holding [v, ov] (eval i X.env)
      standAt sp
      holding [v, ov, iv] (setItem ov iv v)
      release [v, ov, iv] []) := by intro _; rfl) : STh X G (.Subscript (.Name x p) i sp) (subT j fi) := by
  refine PG.imp (pg_sub (name_pe A j hi hv hd hcd) h' set_list ha) fun v σ H2 Q ⟨O2, env2, dv, env', R2, rv, et, q⟩ => ?_
  unfold subT at et
  cases hl : listAt env2 j with
  | none => rw [hl] at et; cases et
  | some xs =>
    rw [hl] at et
    dsimp only at et
    obtain ⟨a, vs, f1, f2, _⟩ := R2.lstAt hl
    refine ⟨_, f1, ?_⟩
    cases hf : fi env2 with
    | none => rw [hf] at et; cases et
    | some r =>
      obtain ⟨r, env4⟩ := r
      cases r with
      | ex z => rw [hf] at et; cases et
      | ok kd =>
        rw [hf] at et
        dsimp only at et
        refine ⟨O2, env2, R2, (.ok kd, env4), hf, fun kv O4 H4 R4 s4 rk => ?_⟩
        split at et
        · rename_i kk xs' hl4
          cases hn : ixN xs'.length kk with
          | none => rw [hn] at et; cases et
          | some n =>
            rw [hn] at et
            cases et
            obtain ⟨q', ws, g1, g2, g3, _⟩ := R4.lstAt hl4
            rw [f1] at g1; cases g1
            have ry : RpAll G.K O4 H4 (xs'.set n dv) (ws.set n v) := g3.set n (Rp.step s4 dv v rv)
            obtain ⟨R5, s5⟩ := R4.changed hl4 f1 (by rw [g2]; exact fun z => nomatch z) ry
            exact ⟨_, ws, kk, n, rfl, Rp.int_inv rk, g2, by rw [← g3.length]; exact hn, q _ _ R5 (s4.trans s5)⟩
        · cases et
theorem sths_nil : SThs X G [] nilT := PGs.imp pgs_nil fun vs σ H Q ⟨O, env, ds, env', R, r, et, q⟩ => by
  cases ds with
  | nil =>
    cases et
    cases vs with
    | nil => exact ⟨rfl, q O H R Step.refl⟩
    | cons v vs => simp only [RpAll] at r
  | cons d ds => cases et
theorem sths_cons {es : List Expr} {t : Tgt} {u : Tgts} (h1 : STh X G e t) (h2 : SThs X G es u) (hs : (assignEach (e :: es) X.env).map (·.2) = assign e X.env :: (assignEach es X.env).map (·.2) := by rfl) : SThs X G (e :: es) (consT t u) := by
  refine PGs.imp (pgs_cons h1 h2 hs) fun vs σ H Q ⟨O, env, ds, env', R, r, et, q⟩ => ?_
  cases ds with
  | nil => cases et
  | cons d ds =>
    cases vs with
    | nil => simp only [RpAll] at r
    | cons v vs =>
      simp only [RpAll] at r
      unfold consT at et
      cases ht : t d env with
      | none => simp only [ht] at et; cases et
      | some e1 =>
        simp only [ht] at et
        exact ⟨v, vs, rfl, O, env, d, e1, R, r.1, ht, fun O' H' R' s1 => ⟨O', e1, ds, env', R', RpAll.step s1 ds vs r.2, et, fun O2 H2 R2 s2 => q O2 H2 R2 (s1.trans s2)⟩⟩
theorem sth_tup (A : At X G W N sc blk k Mo) {es : List Expr} {kk : Nat} {u : Tgts} {n : Nat} (h : SThs X G es u) (hn : (assignEach es X.env).length = n := by rfl) (hst : (assignEach es X.env).findIdx? (·.1) = none := by rfl) : STh X G (.Tuple es kk pos) (tupT n u) := by
  refine PG.imp (pg_tup A.calm h hn hst) fun v σ H Q ⟨O, env, d, env', R, r, et, q⟩ => ?_
  unfold tupT at et
  split at et
  · rename_i ds
    split at et
    · rename_i hl
      obtain ⟨a, xs, rfl, ra, qa⟩ := Rp.tup_inv r
      exact ⟨a, xs, rfl, by rw [A.hK]; exact ra.sq, by rw [← qa.length]; exact hl, O, env, ds, env', R, qa, et, q⟩
    · cases et
  · cases et
/-- target = e, the targets places of lists of their own -/
theorem ss_tasH {tg : Expr} {fa : M D} {t : Tgt} (h : SD X G W e fa) (ht : STh X G tg t) (hs : swapsWithSole [tg] e pos.line X.env = pure false := by rfl) (hw : swappedStores [tg] e X.env = pure none := by rfl) (h1 : (assignEach [tg] X.env).map (·.2) = [assign tg X.env] := by rfl) : SS X G W (.Assign [tg] e pos) (tasS fa t) := by
  refine PS.imp (ps_asg h ht hs hw h1) fun D σ H ⟨O, env, R, tt⟩ => ?_
  obtain ⟨O1, env1, R1, r1, e1, p1⟩ := bindS (RV := RD G) R tt
  refine ⟨O1, env1, R1, r1, e1, p1.mono fun v H2 ⟨d, env2, O2, R2, s2, rx, r, er, p⟩ => ?_⟩
  dsimp only at er
  cases hst : t d env2 with
  | none => rw [hst] at er; cases er
  | some env3 =>
    rw [hst] at er
    cases er
    exact ⟨O2, env2, d, env3, R2, rx, hst, fun O' H' R' s => p _ O' H' R' s⟩
end
end PV

/-! PV44: == and != of any tuple and (). -/
namespace PV
open PySem PySem.Spec PySem.Calls PyProof.Rows L2
def eqE : D → D → Option Vl
  | .tuple ds, .tuple [] => some (.d (.bool ds.isEmpty))
  | _, _ => none
def neE : D → D → Option Vl
  | .tuple ds, .tuple [] => some (.d (.bool (!ds.isEmpty)))
  | _, _ => none
def rEqE (K : PySem.W.Frag) : R2 := fun x y H Q => ∃ a b xs, x = .ref a ∧ y = .ref b ∧ SqT K H a xs ∧ SqT K H b [] ∧ Q (.bl xs.isEmpty) H
def rNeE (K : PySem.W.Frag) : R2 := fun x y H Q => ∃ a b xs, x = .ref a ∧ y = .ref b ∧ SqT K H a xs ∧ SqT K H b [] ∧ Q (.bl (!xs.isEmpty)) H
theorem vals_nil {vs : List Value} (h : Vals [] vs) : vs = [] := by
  have := h.length
  cases vs with
  | nil => rfl
  | cons v vs => simp at this
theorem sz_nil {xs : List V} {i1 : List Value} (v1 : Vals xs i1) : ((List.range (min i1.toArray.size ([] : List Value).toArray.size)).all (fun _ => true) && (i1.toArray.size == ([] : List Value).toArray.size)) = xs.isEmpty := by
  have := v1.length
  cases xs with
  | nil => cases i1 <;> simp_all
  | cons x xs => cases i1 <;> simp_all
section
variable {X : Cx}
theorem op_eqE0 (hu : X.A.units + 64 < cLine) : OpR X (compareOp .Eq) (rEqE X.K) := by
  intro pins s σ H x y v u Q I rx ry h
  obtain ⟨a, b, xs, rfl, rfl, ra, rb, q⟩ := h
  cases rx
  cases ry
  obtain ⟨i1, v1, t1, _⟩ := I.tuple ra
  obtain ⟨i2, v2, t2, _⟩ := I.tuple rb
  have e2 := vals_nil v2
  subst e2
  have key := SeqAt.RcAt.tuples (A := X.A) (s := s) (l := a) (b := b) (e := fun _ => true) t1 t2 (by omega) (fun j h1 h2 => by simp at h2)
  rw [sz_nil v1] at key
  show wpAny _ _ (richCompare .Eq (.ref a) (.ref b)) _ _ _
  exact key _ _ _ _ ⟨.bl _, H, I, rfl, q⟩
theorem op_neE0 (hu : X.A.units + 64 < cLine) : OpR X (compareOp .NotEq) (rNeE X.K) := by
  intro pins s σ H x y v u Q I rx ry h
  obtain ⟨a, b, xs, rfl, rfl, ra, rb, q⟩ := h
  cases rx
  cases ry
  obtain ⟨i1, v1, t1, _⟩ := I.tuple ra
  obtain ⟨i2, v2, t2, _⟩ := I.tuple rb
  have e2 := vals_nil v2
  subst e2
  have key := SeqAt.RcNeAt.tuples (A := X.A) (s := s) (l := a) (b := b) (e := fun _ => true) t1 t2 (by omega) (fun j h1 h2 => by simp at h2)
  rw [sz_nil v1] at key
  show wpAny _ _ (richCompare .NotEq (.ref a) (.ref b)) _ _ _
  exact key _ _ _ _ ⟨.bl _, H, I, rfl, q⟩
theorem emp_len {K : PySem.W.Frag} {O : Own} {H : Hp} {ds : List D} {xs : List V} (q : RpAll K O H ds xs) : xs.isEmpty = ds.isEmpty := by
  have := q.length
  cases ds <;> cases xs <;> simp_all
theorem nil_of {K : PySem.W.Frag} {O : Own} {H : Hp} {xs : List V} (q : RpAll K O H [] xs) : xs = [] := by
  have := q.length
  cases xs with
  | nil => rfl
  | cons x xs => simp at this
theorem eqE_S {K : PySem.W.Frag} : OpS K (rEqE K) eqE := by
  intro O H x y dx dy vl Q ol rx ry e q
  unfold eqE at e
  split at e
  · cases e
    obtain ⟨a, xs, rfl, ra, qa⟩ := Rp.tup_inv rx
    obtain ⟨b, ys, rfl, rb, qb⟩ := Rp.tup_inv ry
    cases nil_of qb
    exact ⟨a, b, xs, rfl, rfl, ra.sq, rb.sq, by rw [emp_len qa]; exact q.bl⟩
  · cases e
theorem neE_S {K : PySem.W.Frag} : OpS K (rNeE K) neE := by
  intro O H x y dx dy vl Q ol rx ry e q
  unfold neE at e
  split at e
  · cases e
    obtain ⟨a, xs, rfl, ra, qa⟩ := Rp.tup_inv rx
    obtain ⟨b, ys, rfl, rb, qb⟩ := Rp.tup_inv ry
    cases nil_of qb
    exact ⟨a, b, xs, rfl, rfl, ra.sq, rb.sq, by rw [emp_len qa]; exact q.bl⟩
  · cases e
/-- == with () as the other side -/
def eqF : D → D → Option Vl := fun x y => (eqE x y).or (eqD x y)
def neF : D → D → Option Vl := fun x y => (neE x y).or (neD x y)
theorem op_eqF (hu : X.A.units + 64 < cLine) : OpR X (compareOp .Eq) (fun x y H Q => rEqE X.K x y H Q ∨ (rEq x y H Q ∨ rEqD X.K x y H Q)) := (op_eqE0 hu).or (op_eqA hu)
theorem op_neF (hu : X.A.units + 64 < cLine) : OpR X (compareOp .NotEq) (fun x y H Q => rNeE X.K x y H Q ∨ (rNe x y H Q ∨ rNeD X.K x y H Q)) := (op_neE0 hu).or (op_neA hu)
theorem eqF_S {K : PySem.W.Frag} : OpS K (fun x y H Q => rEqE K x y H Q ∨ (rEq x y H Q ∨ rEqD K x y H Q)) eqF := OpS.or eqE_S eq_S
theorem neF_S {K : PySem.W.Frag} : OpS K (fun x y H Q => rNeE K x y H Q ∨ (rNe x y H Q ∨ rNeD K x y H Q)) neF := OpS.or neE_S ne_S
@[simp] theorem o_eqF (ds : List D) : eqF (.tuple ds) (.tuple []) = some (.d (.bool ds.isEmpty)) := rfl
@[simp] theorem o_neF (ds : List D) : neF (.tuple ds) (.tuple []) = some (.d (.bool (!ds.isEmpty))) := rfl
end
end PV

/-! PV45: comprehensions with an if, loops that look, texts of nested things (general helps). -/
namespace PV
open PySem PySem.Spec PySem.Calls PyProof.Rows L2
theorem comp_fil {i : Nat} {c : M Bool} {f : M D} {p : D → Bool} {g : D → D} {env : SEnv} (hi : i < env.length) : ∀ {ds acc : List D}, (∀ d ∈ ds, c ((blkE [i] env).set i (some (.d d))) = some (.ok (p d), (blkE [i] env).set i (some (.d d)))) → (∀ d ∈ ds, p d = true → f ((blkE [i] env).set i (some (.d d))) = some (.ok (g d), (blkE [i] env).set i (some (.d d)))) → acc.length + ds.length ≤ 1000 →
    compL (nameT i) [i] c f ds acc env = some (acc ++ (ds.filter p).map g, env)
  | [], acc, _, _, _ => by simp [compL]
  | d :: ds, acc, hc, h, hl => by
    have hb : (blkE [i] env)[i]? = some none := by
      unfold blkE
      rw [List.getElem?_map, List.getElem?_range hi]
      simp
    have h1 : nameT i d (blkE [i] env) = some ((blkE [i] env).set i (some (.d d))) := by
      unfold nameT storeE
      rw [hb]
    rw [List.length_cons] at hl
    unfold compL
    rw [h1]
    dsimp only
    rw [hc d (List.mem_cons_self ..)]
    dsimp only
    cases hp : p d with
    | false =>
      simp only [Bool.false_eq_true, if_false]
      rw [un_blk, comp_fil hi (fun d' hd => hc d' (List.mem_cons_of_mem _ hd)) (fun d' hd => h d' (List.mem_cons_of_mem _ hd)) (by omega)]
      rw [List.filter_cons_of_neg (by rw [hp]; decide)]
    | true =>
      simp only [if_true]
      rw [h d (List.mem_cons_self ..) hp]
      dsimp only
      rw [if_pos (Nat.lt_of_lt_of_le (show acc.length < 1000 by omega) (by decide)), un_blk, comp_fil hi (fun d' hd => hc d' (List.mem_cons_of_mem _ hd)) (fun d' hd => h d' (List.mem_cons_of_mem _ hd)) (by rw [List.length_append, List.length_singleton]; omega)]
      rw [List.filter_cons_of_pos hp]
      simp
theorem bls_map (p : D → Bool) : ∀ ds : List D, bls (ds.map fun d => .bool (p d)) = some (ds.map p)
  | [] => rfl
  | d :: ds => by rw [List.map_cons, bls, bls_map p ds]; rfl
theorem all_map (p : D → Bool) (ds : List D) : allD [.list (ds.map fun d => .bool (p d))] = some (.d (.bool (ds.all p))) := by
  unfold allD
  dsimp only
  rw [bls_map]
  simp [List.all_map]
theorem any_map (p : D → Bool) (ds : List D) : anyD [.list (ds.map fun d => .bool (p d))] = some (.d (.bool (ds.any p))) := by
  unfold anyD
  dsimp only
  rw [bls_map]
  simp [List.any_map]
theorem eqB_onesN (n : Nat) : eqB (.list (List.replicate n (.int 1))) (.list []) = some (decide (n = 0)) := by
  have e : List.replicate n (PyData.int 1) = (List.replicate n (1 : Int)).map .int := by simp
  unfold eqB
  dsimp only
  rw [if_pos ⟨by rw [e]; exact PySem.W.ke_shaped_ints _, rfl⟩]
  cases n with
  | zero => rfl
  | succ n => rfl
theorem eqB_ones (p : D → Bool) (ds : List D) : eqB (.list ((ds.filter p).map fun _ => .int 1)) (.list []) = some (!(ds.any p)) := by
  rw [List.map_const', eqB_onesN]
  congr 1
  rw [Bool.eq_iff_iff, decide_eq_true_iff, List.length_eq_zero_iff, List.filter_eq_nil_iff]
  simp
theorem ones_ne (p : D → Bool) (ds : List D) : neD (.list ((ds.filter p).map fun _ => .int 1)) (.list []) = some (.d (.bool (ds.any p))) := by
  unfold neD; rw [eqB_ones]; simp
theorem ones_eq (p : D → Bool) (ds : List D) : eqD (.list ((ds.filter p).map fun _ => .int 1)) (.list []) = some (.d (.bool (!(ds.any p)))) := by
  unfold eqD; rw [eqB_ones]; rfl
/-- a loop that looks at each and says False at the first that is not so -/
theorem forL_chk {t : Tgt} {b : Stm} {v : D} (I : SEnv → Prop) (q : D → Prop) : ∀ {ds : List D} {env : SEnv},
    (∀ d ∈ ds, ∀ env, I env → ∃ e1, t d env = some e1 ∧ ((q d ∧ ∃ e2, b e1 = some (.nx, e2) ∧ I e2) ∨ (¬ q d ∧ ∃ e2, b e1 = some (.rt (.d v), e2) ∧ I e2))) → I env →
    ((∀ d ∈ ds, q d) ∧ ∃ e, forL t b ds env = some (.nx, e) ∧ I e) ∨ ((¬ ∀ d ∈ ds, q d) ∧ ∃ e, forL t b ds env = some (.rt (.d v), e) ∧ I e)
  | [], env, _, hi => .inl ⟨(fun d hd => nomatch hd), env, rfl, hi⟩
  | d :: ds, env, h, hi => by
    obtain ⟨e1, h1, h2⟩ := h d (List.mem_cons_self ..) env hi
    rcases h2 with ⟨hq, e2, h3, h4⟩ | ⟨hq, e2, h3, h4⟩
    · have k := forL_chk I q (ds := ds) (fun d' hd => h d' (List.mem_cons_of_mem _ hd)) h4
      have e : forL t b (d :: ds) env = forL t b ds e2 := by
        show (match t d env with | none => none | some e1 => _) = _
        rw [h1]; dsimp only; rw [h3]
      rcases k with ⟨k1, e3, k2, k3⟩ | ⟨k1, e3, k2, k3⟩
      · refine .inl ⟨fun d' hd => ?_, e3, by rw [e, k2], k3⟩
        rcases List.mem_cons.mp hd with rfl | hd
        · exact hq
        · exact k1 d' hd
      · exact .inr ⟨fun z => k1 fun d' hd => z d' (List.mem_cons_of_mem _ hd), e3, by rw [e, k2], k3⟩
    · refine .inr ⟨fun z => hq (z d (List.mem_cons_self ..)), e2, ?_, h4⟩
      show (match t d env with | none => none | some e1 => _) = _
      rw [h1]; dsimp only; rw [h3]
/-! ### sizes of texts -/
def Okp (d w : Nat) (x : D) : Prop := Sm x ∧ x.depth ≤ d ∧ x.weight ≤ w
theorem Okp.mono {d w d' w' : Nat} {x : D} (h : Okp d w x) (h1 : d ≤ d') (h2 : w ≤ w') : Okp d' w' x := ⟨h.1, Nat.le_trans h.2.1 h1, Nat.le_trans h.2.2 h2⟩
theorem Okp.okr {d w : Nat} {x : D} (h : Okp d w x) (h1 : d ≤ 64 := by decide) (h2 : w ≤ 30000 := by decide) : Okr x := ⟨h.1, Nat.le_trans h.2.1 h1, Nat.le_trans h.2.2 h2⟩
theorem okp_none : Okp 0 0 .none := ⟨by simp only [Sm], by simp only [PyData.depth]; omega, by simp only [PyData.weight]; omega⟩
theorem okp_bool (b : Bool) : Okp 0 0 (.bool b) := ⟨by simp only [Sm], by simp only [PyData.depth]; omega, by simp only [PyData.weight]; omega⟩
theorem okp_dict : Okp 1 0 (.dict []) := ⟨by simp only [Sm], by simp only [PyData.depth, PyData.depthKv]; omega, by simp only [PyData.weight, PyData.weightKv]; omega⟩
theorem okp_int {n : Nat} {i : Int} (h : i.natAbs < 2 ^ n) (hn : n ≤ 1600 := by decide) : Okp 0 n (.int i) := by
  refine ⟨?_, by simp only [PyData.depth]; omega, ?_⟩
  · simp only [Sm]
    exact Nat.lt_of_lt_of_le h (Nat.le_trans (Nat.pow_le_pow_right (by decide) hn) (by decide))
  · simp only [PyData.weight]
    split
    · omega
    · rename_i hz
      have hz' : i.natAbs ≠ 0 := fun z => hz (by rw [beq_iff_eq]; omega)
      exact Nat.succ_le_of_lt ((Nat.log2_lt hz').mpr h)
theorem smAll_of {xs : List D} (h : ∀ x ∈ xs, Sm x) : SmAll xs := by
  induction xs with
  | nil => simp only [SmAll]
  | cons x xs ih =>
    simp only [SmAll]
    exact ⟨h x (List.mem_cons_self ..), ih fun y hy => h y (List.mem_cons_of_mem _ hy)⟩
theorem depthAll_le {d : Nat} {xs : List D} (h : ∀ x ∈ xs, x.depth ≤ d) : PyData.depthAll xs ≤ d := by
  induction xs with
  | nil => simp only [PyData.depthAll]; omega
  | cons x xs ih =>
    have h1 := h x (List.mem_cons_self ..)
    have h2 := ih fun y hy => h y (List.mem_cons_of_mem _ hy)
    simp only [PyData.depthAll]; omega
theorem weightAll_le {w : Nat} {xs : List D} (h : ∀ x ∈ xs, x.weight ≤ w) : PyData.weightAll xs ≤ xs.length * (w + 1) := by
  induction xs with
  | nil => simp only [PyData.weightAll]; omega
  | cons x xs ih =>
    have h1 := h x (List.mem_cons_self ..)
    have h2 := ih fun y hy => h y (List.mem_cons_of_mem _ hy)
    simp only [PyData.weightAll, List.length_cons, Nat.succ_mul]; omega
theorem okp_tup {d w n : Nat} {xs : List D} (h : ∀ x ∈ xs, Okp d w x) (hn : xs.length ≤ n) : Okp (d + 1) (n * (w + 1)) (.tuple xs) := by
  refine ⟨by simp only [Sm]; exact smAll_of fun x hx => (h x hx).1, ?_, ?_⟩
  · simp only [PyData.depth]
    have := depthAll_le fun x hx => (h x hx).2.1
    omega
  · simp only [PyData.weight]
    exact Nat.le_trans (weightAll_le fun x hx => (h x hx).2.2) (Nat.mul_le_mul_right _ hn)
theorem okp_lst {d w n : Nat} {xs : List D} (h : ∀ x ∈ xs, Okp d w x) (hn : xs.length ≤ n) : Okp (d + 1) (n * (w + 1)) (.list xs) := by
  refine ⟨by simp only [Sm]; exact smAll_of fun x hx => (h x hx).1, ?_, ?_⟩
  · simp only [PyData.depth]
    have := depthAll_le fun x hx => (h x hx).2.1
    omega
  · simp only [PyData.weight]
    exact Nat.le_trans (weightAll_le fun x hx => (h x hx).2.2) (Nat.mul_le_mul_right _ hn)
theorem okp_str {s : Str} {n : Nat} (h : Sm (.str s)) (hn : s.cps.size ≤ n) : Okp 0 n (.str s) := ⟨h, by simp only [PyData.depth]; omega, by simp only [PyData.weight]; exact hn⟩
end PV

/-! PVH: the hull by two chains is strictly convex (plain; no program). -/
namespace PvH
open PV (P2 lt2 lt2_tr lt2_ir lt2_tri)
def cr (a b c : P2) : Int := (b.1 - a.1) * (c.2 - a.2) - (b.2 - a.2) * (c.1 - a.1)
def lp (x y : Int) : Prop := 0 < x ∨ (x = 0 ∧ 0 < y)
theorem kGe {ax ay dx dy bx by' : Int} (ha : lp ax ay) (hd : lp dx dy) (hb : lp bx by') (h1 : 0 ≤ ax * dy - ay * dx) (h2 : 0 ≤ dx * by' - dy * bx) : 0 ≤ ax * by' - ay * bx := by
  have a0 : 0 ≤ ax := by unfold lp at ha; omega
  have b0 : 0 ≤ bx := by unfold lp at hb; omega
  rcases hd with hd | ⟨rfl, hd⟩
  · have e : dx * (ax * by' - ay * bx) = ax * (dx * by' - dy * bx) + bx * (ax * dy - ay * dx) := by grind
    have p1 := Int.mul_nonneg a0 h2
    have p2 := Int.mul_nonneg b0 h1
    refine Int.not_lt.mp fun hn => ?_
    have p3 := Int.mul_neg_of_pos_of_neg hd hn
    omega
  · have e1 : dy * bx ≤ 0 := by omega
    have e2 : bx = 0 := by
      rcases Int.lt_or_eq_of_le b0 with h | h
      · have := Int.mul_pos hd h
        omega
      · exact h.symm
    subst e2
    have hb' : 0 < by' := by unfold lp at hb; omega
    have := Int.mul_nonneg a0 (show 0 ≤ by' by omega)
    simpa using this
theorem kGt {ax ay dx dy bx by' : Int} (ha : lp ax ay) (hd : lp dx dy) (hb : lp bx by') (h1 : 0 < ax * dy - ay * dx) (h2 : 0 < dx * by' - dy * bx) : 0 < ax * by' - ay * bx := by
  have a0 : 0 ≤ ax := by unfold lp at ha; omega
  have b0 : 0 ≤ bx := by unfold lp at hb; omega
  rcases hd with hd | ⟨rfl, hd⟩
  · have e : dx * (ax * by' - ay * bx) = ax * (dx * by' - dy * bx) + bx * (ax * dy - ay * dx) := by grind
    have p1 := Int.mul_nonneg a0 (Int.le_of_lt h2)
    have p2 := Int.mul_nonneg b0 (Int.le_of_lt h1)
    refine Int.not_le.mp fun hn => ?_
    have p3 : dx * (ax * by' - ay * bx) ≤ 0 := Int.mul_nonpos_of_nonneg_of_nonpos (Int.le_of_lt hd) hn
    rcases Int.lt_or_eq_of_le a0 with h | h
    · have := Int.mul_pos h h2
      omega
    · subst h
      have ya : 0 < ay := by unfold lp at ha; omega
      have := Int.mul_pos ya hd
      simp at h1
      omega
  · have : 0 ≤ dy * bx := Int.mul_nonneg (Int.le_of_lt hd) b0
    omega
theorem lp_of {a b : P2} (h : lt2 a b) : lp (b.1 - a.1) (b.2 - a.2) := by unfold lp lt2 at *; omega
theorem cr_cyc (a b c : P2) : cr b c a = cr a b c := by unfold cr; grind
theorem cr_same (a b : P2) : cr a b b = 0 := by unfold cr; grind
theorem cr_same2 (a b : P2) : cr a b a = 0 := by unfold cr; grind
/-- left turns go on -/
theorem turns {x y b p : P2} (h1 : lt2 x y) (h2 : lt2 y b) (h3 : lt2 b p) (c1 : 0 < cr x y b) (c2 : 0 < cr y b p) : 0 < cr x y p ∧ 0 < cr x b p := by
  have k := kGt (lp_of h1) (lp_of h2) (lp_of h3) (by
    have : cr x y b = (y.1 - x.1) * (b.2 - y.2) - (y.2 - x.2) * (b.1 - y.1) := by unfold cr; grind
    omega) (by
    have : cr y b p = (b.1 - y.1) * (p.2 - b.2) - (b.2 - y.2) * (p.1 - b.1) := by unfold cr; grind
    omega)
  have e1 : cr x y p = cr x y b + ((y.1 - x.1) * (p.2 - b.2) - (y.2 - x.2) * (p.1 - b.1)) := by unfold cr; grind
  have e2 : cr x b p = cr y b p + ((y.1 - x.1) * (p.2 - b.2) - (y.2 - x.2) * (p.1 - b.1)) := by unfold cr; grind
  omega
/-! ### one chain, the last point first -/
def popAll : List P2 → P2 → List P2
  | b :: a :: r, p => if cr a b p ≤ 0 then popAll (a :: r) p else b :: a :: r
  | l, _ => l
def Cv : List P2 → Prop
  | [] => True
  | c :: st => st.Pairwise (fun b a => 0 < cr a b c) ∧ Cv st
def Hl (Q : List P2) : List P2 → Prop
  | b :: a :: r => (∀ q ∈ Q, 0 ≤ cr a b q) ∧ Hl Q (a :: r)
  | _ => True
/-- a chain of the points Q, its last one t, its first one z -/
structure Ch (Q : List P2) (z : P2) (t : P2) (r : List P2) : Prop where
  sub : ∀ x ∈ t :: r, x ∈ Q
  srt : (t :: r).Pairwise (fun b a => lt2 a b)
  cv : Cv (t :: r)
  hl : Hl Q (t :: r)
  bot : (t :: r).getLast? = some z
  low : ∀ q ∈ Q, q = z ∨ lt2 z q
theorem hl_add {Q : List P2} {p : P2} : ∀ {st : List P2}, Hl Q st → st.Pairwise (fun b a => 0 < cr a b p) → Hl (p :: Q) st
  | [], _, _ => True.intro
  | [_], _, _ => True.intro
  | b :: a :: r, h, hp => by
    obtain ⟨h1, h2⟩ := h
    obtain ⟨p1, p2⟩ := List.pairwise_cons.mp hp
    refine ⟨fun q hq => ?_, hl_add h2 p2⟩
    rcases List.mem_cons.mp hq with rfl | hq
    · exact Int.le_of_lt (p1 a (List.mem_cons_self ..))
    · exact h1 q hq
theorem pop_spec {Q : List P2} {z p : P2} (hp : ∀ q ∈ Q, lt2 q p) : ∀ (r : List P2) (t : P2), Ch Q z t r → (∀ q ∈ Q, ¬ lt2 q t → 0 ≤ cr t p q) →
    ∃ t' r', popAll (t :: r) p = t' :: r' ∧ Ch Q z t' r' ∧ (∀ q ∈ Q, ¬ lt2 q t' → 0 ≤ cr t' p q) ∧ (∀ a r'', r' = a :: r'' → 0 < cr a t' p)
  | [], t, h, e => ⟨t, [], rfl, h, e, fun a r'' z' => by cases z'⟩
  | a :: r, t, h, e => by
    unfold popAll
    split
    · rename_i hc
      have srt := List.pairwise_cons.mp h.srt
      have lat : lt2 a t := srt.1 a (List.mem_cons_self ..)
      have h' : Ch Q z a r := ⟨fun x hx => h.sub x (List.mem_cons_of_mem _ hx), srt.2, h.cv.2, h.hl.2, by rw [← h.bot]; exact (List.getLast?_cons_cons).symm, h.low⟩
      refine pop_spec hp r a h' fun q hq hn => ?_
      by_cases hqa : q = a
      · subst hqa; rw [cr_same2]; exact Int.le_refl _
      · have laq : lt2 a q := lt2_tri hqa hn
        have lap : lt2 a p := hp a (h.sub a (by simp))
        have h1 := h.hl.1 q hq
        have k := kGe (lp_of lap) (lp_of lat) (lp_of laq) (by unfold cr at hc; grind) (by unfold cr at h1; exact h1)
        unfold cr
        exact k
    · rename_i hc
      exact ⟨t, a :: r, rfl, h, e, fun a' r'' z' => by cases z'; omega⟩
theorem push_spec {Q : List P2} {z p t : P2} {r : List P2} (hp : ∀ q ∈ Q, lt2 q p) (h : Ch Q z t r) (ht : ∀ q ∈ Q, q = t ∨ lt2 q t) : Ch (p :: Q) z p (popAll (t :: r) p) := by
  obtain ⟨t', r', e, h', E, F⟩ := pop_spec hp r t h fun q hq hn => by
    rcases ht q hq with rfl | hl
    · rw [cr_same2]; exact Int.le_refl _
    · exact absurd hl hn
  rw [e]
  have srt := List.pairwise_cons.mp h'.srt
  have tp : lt2 t' p := hp t' (h'.sub t' (List.mem_cons_self ..))
  have hx : ∀ x ∈ r', 0 < cr x t' p := fun x hx => by
    match hr : r', hx with
    | a :: r'', hx =>
      have f := F a r'' rfl
      rcases List.mem_cons.mp hx with rfl | hx
      · exact f
      · have c := (List.pairwise_cons.mp h'.cv.1).1 x hx
        exact (turns ((List.pairwise_cons.mp srt.2).1 x hx) (srt.1 a (List.mem_cons_self ..)) tp c f).2
  have pw : (t' :: r').Pairwise (fun b a => 0 < cr a b p) := by
    refine List.pairwise_cons.mpr ⟨hx, ?_⟩
    have both := List.pairwise_and_iff.mpr ⟨h'.cv.1, srt.2⟩
    refine both.imp_of_mem fun {y x} hy hx' hyx => ?_
    exact (turns hyx.2 (srt.1 y hy) tp hyx.1 (hx y hy)).1
  refine ⟨fun x hx => ?_, List.pairwise_cons.mpr ⟨fun x hx => hp x (h'.sub x hx), h'.srt⟩, ⟨pw, h'.cv⟩, ⟨fun q hq => ?_, hl_add h'.hl pw⟩, by rw [List.getLast?_cons_cons]; exact h'.bot, fun q hq => ?_⟩
  · rcases List.mem_cons.mp hx with rfl | hx
    · exact List.mem_cons_self ..
    · exact List.mem_cons_of_mem _ (h'.sub x hx)
  · rcases List.mem_cons.mp hq with rfl | hq
    · rw [cr_same]; exact Int.le_refl _
    · by_cases hn : lt2 q t'
      · match hr : r' with
        | [] =>
          have ez : t' = z := by have := h'.bot; simpa using this
          rcases h'.low q hq with e | e
          · rw [e, ez] at hn; exact absurd hn lt2_ir
          · rw [ez] at hn; exact absurd (lt2_tr hn e) lt2_ir
        | a :: r'' =>
          have f := F a r'' rfl
          have g := h'.hl.1 q hq
          have k := kGe (lp_of hn) (lp_of (srt.1 a (List.mem_cons_self ..))) (lp_of tp) (by unfold cr at g; grind) (by unfold cr at f; grind)
          unfold cr
          grind
      · exact E q hq hn
  · rcases List.mem_cons.mp hq with rfl | hq
    · have hz : z ∈ t' :: r' := List.mem_of_getLast? h'.bot
      exact .inr (hp z (h'.sub z hz))
    · exact h'.low q hq
def push (st : List P2) (p : P2) : List P2 := p :: popAll st p
def half (ps : List P2) : List P2 := ps.foldl push []
theorem half_go : ∀ (ps Q : List P2) (z t : P2) (r : List P2), Ch Q z t r → (∀ q ∈ Q, q = t ∨ lt2 q t) → (∀ q ∈ Q, ∀ p ∈ ps, lt2 q p) → ps.Pairwise lt2 →
    ∃ t' r', ps.foldl push (t :: r) = t' :: r' ∧ Ch (ps.reverse ++ Q) z t' r' ∧ (∀ q ∈ ps.reverse ++ Q, q = t' ∨ lt2 q t')
  | [], Q, z, t, r, h, ht, _, _ => ⟨t, r, rfl, h, ht⟩
  | p :: ps, Q, z, t, r, h, ht, hq, hs => by
    obtain ⟨s1, s2⟩ := List.pairwise_cons.mp hs
    have hp : ∀ q ∈ Q, lt2 q p := fun q h => hq q h p (List.mem_cons_self ..)
    have h2 := push_spec hp h ht
    obtain ⟨t', r', e, c, top⟩ := half_go ps (p :: Q) z p (popAll (t :: r) p) h2 (fun q hq' => by
      rcases List.mem_cons.mp hq' with rfl | hq'
      · exact .inl rfl
      · exact .inr (hp q hq')) (fun q hq' p' hp' => by
      rcases List.mem_cons.mp hq' with rfl | hq'
      · exact s1 p' hp'
      · exact hq q hq' p' (List.mem_cons_of_mem _ hp')) s2
    refine ⟨t', r', e, ?_, ?_⟩
    · simpa using c
    · simpa using top
/-- the chain of a sorted row of points -/
theorem half_spec {p : P2} {ps : List P2} (hs : (p :: ps).Pairwise lt2) : ∃ t r, half (p :: ps) = t :: r ∧ Ch (ps.reverse ++ [p]) p t r ∧ (∀ q ∈ ps.reverse ++ [p], q = t ∨ lt2 q t) := by
  obtain ⟨s1, s2⟩ := List.pairwise_cons.mp hs
  exact half_go ps [p] p p [] ⟨fun x hx => hx, List.pairwise_singleton .., ⟨List.Pairwise.nil, True.intro⟩, True.intro, rfl, fun q hq => .inl (by simpa using hq)⟩ (fun q hq => .inl (by simpa using hq)) (fun q hq p' hp' => by
    rw [List.mem_singleton.mp hq]; exact s1 p' hp') s2
end PvH

namespace PvH
open PV (P2 lt2 lt2_tr lt2_ir lt2_tri)
/-! ### by places -/
theorem rev_last {c : P2} {r : List P2} : (c :: r).reverse[r.length]? = some c := by
  rw [List.reverse_cons, List.getElem?_append_right (by simp)]
  simp
theorem rev_front {c : P2} {r : List P2} {i : Nat} (h : i < r.length) : (c :: r).reverse[i]? = r.reverse[i]? := by
  rw [List.reverse_cons, List.getElem?_append_left (by simpa using h)]
theorem cv_ix : ∀ {st : List P2}, Cv st → ∀ {i j m : Nat} {a b c : P2}, i < j → j < m → st.reverse[i]? = some a → st.reverse[j]? = some b → st.reverse[m]? = some c → 0 < cr a b c
  | [], _, i, j, m, a, b, c, _, _, h1, _, _ => by simp at h1
  | t :: r, h, i, j, m, a, b, c, hij, hjm, h1, h2, h3 => by
    have lm : m < r.length + 1 := by
      have := (List.getElem?_eq_some_iff.mp h3).1
      simpa using this
    rw [rev_front (by omega)] at h1 h2
    by_cases e : m = r.length
    · subst e
      rw [rev_last] at h3
      cases h3
      have pw : r.reverse.Pairwise (fun a b => 0 < cr a b t) := List.pairwise_reverse.mpr h.1
      obtain ⟨q1, e1⟩ := List.getElem?_eq_some_iff.mp h1
      obtain ⟨q2, e2⟩ := List.getElem?_eq_some_iff.mp h2
      have := List.pairwise_iff_getElem.mp pw i j q1 q2 hij
      rw [e1, e2] at this
      exact this
    · rw [rev_front (by omega)] at h3
      exact cv_ix h.2 hij hjm h1 h2 h3
theorem hl_ix {Q : List P2} : ∀ {st : List P2}, Hl Q st → ∀ {i : Nat} {a b : P2}, st.reverse[i]? = some a → st.reverse[i + 1]? = some b → ∀ q ∈ Q, 0 ≤ cr a b q
  | [], _, i, a, b, h1, _ => by simp at h1
  | [x], _, i, a, b, h1, h2 => by
    have := (List.getElem?_eq_some_iff.mp h2).1
    simp at this
  | t :: s :: r, h, i, a, b, h1, h2 => by
    have lm : i + 1 < r.length + 2 := by
      have := (List.getElem?_eq_some_iff.mp h2).1
      simpa using this
    rw [rev_front (by simp; omega)] at h1
    by_cases e : i + 1 = (s :: r).length
    · rw [e, rev_last] at h2
      cases h2
      have e2 : i = r.length := by simpa using e
      rw [e2, rev_last] at h1
      cases h1
      exact h.1
    · rw [rev_front (by simp only [List.length_cons] at *; omega)] at h2
      exact hl_ix h.2 h1 h2
theorem srt_ix {st : List P2} (h : st.Pairwise (fun b a => lt2 a b)) {i j : Nat} {a b : P2} (hij : i < j) (h1 : st.reverse[i]? = some a) (h2 : st.reverse[j]? = some b) : lt2 a b := by
  have pw : st.reverse.Pairwise lt2 := List.pairwise_reverse.mpr h
  obtain ⟨q1, e1⟩ := List.getElem?_eq_some_iff.mp h1
  obtain ⟨q2, e2⟩ := List.getElem?_eq_some_iff.mp h2
  have := List.pairwise_iff_getElem.mp pw i j q1 q2 hij
  rw [e1, e2] at this
  exact this
/-! ### turned about -/
def ng (p : P2) : P2 := (-p.1, -p.2)
theorem cr_ng (a b c : P2) : cr (ng a) (ng b) (ng c) = cr a b c := by unfold cr ng; grind
theorem lt_ng {a b : P2} : lt2 (ng a) (ng b) ↔ lt2 b a := by unfold lt2 ng; omega
theorem ng_ng (a : P2) : ng (ng a) = a := by unfold ng; simp
theorem ng_map (l : List P2) : (l.map ng).map ng = l := by
  rw [List.map_map]
  exact (List.map_congr_left fun x _ => ng_ng x).trans (List.map_id l)
theorem pop_ng : ∀ (st : List P2) (p : P2), popAll (st.map ng) (ng p) = (popAll st p).map ng
  | [], _ => rfl
  | [_], _ => rfl
  | b :: a :: r, p => by
    have ih := pop_ng (a :: r) p
    simp only [List.map_cons] at ih ⊢
    unfold popAll
    rw [cr_ng]
    split
    · exact ih
    · rfl
theorem half_ng : ∀ (ps st : List P2), (ps.map ng).foldl push (st.map ng) = (ps.foldl push st).map ng
  | [], _ => rfl
  | p :: ps, st => by
    rw [List.map_cons, List.foldl_cons, List.foldl_cons, ← half_ng ps (push st p)]
    congr 1
    unfold push
    rw [pop_ng]
    rfl
/-- two chains, from the least point to the greatest, and back -/
structure Hu (S lo up : List P2) (k l : Nat) : Prop where
  kp : 1 ≤ k
  lq : 1 ≤ l
  llen : lo.length = k + 1
  ulen : up.length = l + 1
  lsub : ∀ (i : Nat) (a : P2), lo[i]? = some a → a ∈ S
  usub : ∀ (i : Nat) (a : P2), up[i]? = some a → a ∈ S
  ls : ∀ {i j : Nat} {a b : P2}, i < j → lo[i]? = some a → lo[j]? = some b → lt2 a b
  us : ∀ {i j : Nat} {a b : P2}, i < j → up[i]? = some a → up[j]? = some b → lt2 b a
  lc : ∀ {i j m : Nat} {a b c : P2}, i < j → j < m → lo[i]? = some a → lo[j]? = some b → lo[m]? = some c → 0 < cr a b c
  uc : ∀ {i j m : Nat} {a b c : P2}, i < j → j < m → up[i]? = some a → up[j]? = some b → up[m]? = some c → 0 < cr a b c
  lh : ∀ {i : Nat} {a b : P2}, lo[i]? = some a → lo[i + 1]? = some b → ∀ q ∈ S, 0 ≤ cr a b q
  uh : ∀ {i : Nat} {a b : P2}, up[i]? = some a → up[i + 1]? = some b → ∀ q ∈ S, 0 ≤ cr a b q
  e1 : lo[0]? = up[l]?
  e2 : up[0]? = lo[k]?
theorem Hu.turn {S lo up : List P2} {k l : Nat} (h : Hu S lo up k l) : Hu (S.map ng) (up.map ng) (lo.map ng) l k := by
  have inv : ∀ {l : List P2} {i : Nat} {a : P2}, (l.map ng)[i]? = some a → l[i]? = some (ng a) := fun {l i a} e => by
    rw [List.getElem?_map] at e
    cases hl : l[i]? with
    | none => rw [hl] at e; cases e
    | some b =>
      rw [hl] at e
      have : ng b = a := Option.some.inj e
      rw [← this, ng_ng]
  have memS : ∀ {a : P2}, ng a ∈ S → a ∈ S.map ng := fun {a} m => List.mem_map.mpr ⟨ng a, m, ng_ng a⟩
  have memS' : ∀ {q : P2}, q ∈ S.map ng → ng q ∈ S := fun {q} m => by
    obtain ⟨b, hb, e⟩ := List.mem_map.mp m
    rw [← e, ng_ng]; exact hb
  exact ⟨h.lq, h.kp, by simp [h.ulen], by simp [h.llen], fun i a e => memS (h.usub i _ (inv e)), fun i a e => memS (h.lsub i _ (inv e)),
    fun hij a1 a2 => lt_ng.mp (h.us hij (inv a1) (inv a2)), fun hij a1 a2 => lt_ng.mp (h.ls hij (inv a1) (inv a2)),
    fun h1 h2 a1 a2 a3 => by rw [← cr_ng]; exact h.uc h1 h2 (inv a1) (inv a2) (inv a3), fun h1 h2 a1 a2 a3 => by rw [← cr_ng]; exact h.lc h1 h2 (inv a1) (inv a2) (inv a3),
    fun a1 a2 q hq => by rw [← cr_ng]; exact h.uh (inv a1) (inv a2) _ (memS' hq), fun a1 a2 q hq => by rw [← cr_ng]; exact h.lh (inv a1) (inv a2) _ (memS' hq),
    by rw [List.getElem?_map, List.getElem?_map, h.e2], by rw [List.getElem?_map, List.getElem?_map, h.e1]⟩
/-- a side of the one chain, a corner within the other -/
theorem beyond {a b u p n : P2} (hab : lt2 a b) (h1 : 0 ≤ cr a b u) (h2 : 0 ≤ cr a b p) (h3 : 0 ≤ cr a b n) (l1 : lt2 u p) (l2 : lt2 n u) (hc : 0 < cr p u n) : 0 < cr a b u := by
  rcases Int.lt_or_eq_of_le h1 with h | h
  · exact h
  · exfalso
    have i1 : cr a b p = cr a b u + ((b.1 - a.1) * (p.2 - u.2) - (b.2 - a.2) * (p.1 - u.1)) := by unfold cr; grind
    have i2 : cr a b u = cr a b n + ((b.1 - a.1) * (u.2 - n.2) - (b.2 - a.2) * (u.1 - n.1)) := by unfold cr; grind
    have k := kGe (lp_of l2) (lp_of hab) (lp_of l1) (by
      have : (u.1 - n.1) * (b.2 - a.2) - (u.2 - n.2) * (b.1 - a.1) = -((b.1 - a.1) * (u.2 - n.2) - (b.2 - a.2) * (u.1 - n.1)) := by grind
      omega) (by omega)
    have i3 : cr p u n = -((u.1 - n.1) * (p.2 - u.2) - (u.2 - n.2) * (p.1 - u.1)) := by unfold cr; grind
    omega
theorem Hu.across {S lo up : List P2} {k l : Nat} (h : Hu S lo up k l) {i j : Nat} {a b u : P2} (ha : lo[i]? = some a) (hb : lo[i + 1]? = some b) (hj : 0 < j) (hj2 : j < l) (hu : up[j]? = some u) : 0 < cr a b u := by
  obtain ⟨p, hp⟩ : ∃ p, up[j - 1]? = some p := ⟨_, List.getElem?_eq_getElem (by rw [h.ulen]; omega)⟩
  obtain ⟨n, hn⟩ : ∃ n, up[j + 1]? = some n := ⟨_, List.getElem?_eq_getElem (by rw [h.ulen]; omega)⟩
  exact beyond (h.ls (Nat.lt_succ_self i) ha hb) (h.lh ha hb u (h.usub _ _ hu)) (h.lh ha hb p (h.usub _ _ hp)) (h.lh ha hb n (h.usub _ _ hn)) (h.us (by omega) hp hu) (h.us (by omega) hu hn) (h.uc (by omega) (by omega) hp hu hn)
theorem Hu.along {S lo up : List P2} {k l : Nat} (h : Hu S lo up k l) {i m : Nat} {a b c : P2} (ha : lo[i]? = some a) (hb : lo[i + 1]? = some b) (hc : lo[m]? = some c) (h1 : m ≠ i) (h2 : m ≠ i + 1) : 0 < cr a b c := by
  rcases Nat.lt_or_ge m i with hm | hm
  · have := h.lc hm (Nat.lt_succ_self i) hc ha hb
    rw [← cr_cyc c a b] at this
    exact this
  · exact h.lc (Nat.lt_succ_self i) (by omega) ha hb hc
/-- strictly convex, gone round -/
def Conv (H : List P2) : Prop := ∀ (i j : Nat) (a b c : P2), j ≠ i → j ≠ (i + 1) % H.length → H[i]? = some a → H[(i + 1) % H.length]? = some b → H[j]? = some c → 0 < cr a b c
theorem Hu.conv {S lo up : List P2} {k l : Nat} (h : Hu S lo up k l) : Conv (lo.dropLast ++ up.dropLast) := by
  have n1 : lo.dropLast.length = k := by rw [List.length_dropLast, h.llen]; rfl
  have n2 : up.dropLast.length = l := by rw [List.length_dropLast, h.ulen]; rfl
  have n : (lo.dropLast ++ up.dropLast).length = k + l := by rw [List.length_append, n1, n2]
  have at1 : ∀ i, i < k → (lo.dropLast ++ up.dropLast)[i]? = lo[i]? := fun i hi => by
    rw [List.getElem?_append_left (by omega), List.getElem?_dropLast, if_pos (by rw [h.llen]; omega)]
  have at2 : ∀ i, k ≤ i → i < k + l → (lo.dropLast ++ up.dropLast)[i]? = up[i - k]? := fun i hi hi2 => by
    rw [List.getElem?_append_right (by omega), n1, List.getElem?_dropLast, if_pos (by rw [h.ulen]; omega)]
  have kp := h.kp
  have lp' := h.lq
  have g := h.turn
  have up' : ∀ {i : Nat} {a : P2}, up[i]? = some a → (up.map ng)[i]? = some (ng a) := fun e => by rw [List.getElem?_map, e]; rfl
  have lo' : ∀ {i : Nat} {a : P2}, lo[i]? = some a → (lo.map ng)[i]? = some (ng a) := fun e => by rw [List.getElem?_map, e]; rfl
  intro i j a b c h1 h2 ea eb ec
  rw [n] at h2 eb
  have li : i < k + l := by have := (List.getElem?_eq_some_iff.mp ea).1; omega
  have lj : j < k + l := by have := (List.getElem?_eq_some_iff.mp ec).1; omega
  by_cases hi : i < k
  · rw [at1 i hi] at ea
    have hm : (i + 1) % (k + l) = i + 1 := Nat.mod_eq_of_lt (by omega)
    rw [hm] at eb h2
    have eb' : lo[i + 1]? = some b := by
      by_cases hk : i + 1 < k
      · rw [at1 _ hk] at eb; exact eb
      · have : i + 1 = k := by omega
        rw [this, at2 k (Nat.le_refl _) (by omega), Nat.sub_self, h.e2] at eb
        rw [this]; exact eb
    by_cases hj : j < k
    · rw [at1 j hj] at ec
      exact h.along ea eb' ec h1 h2
    · rw [at2 j (by omega) lj] at ec
      by_cases hjk : j = k
      · subst hjk
        rw [Nat.sub_self, h.e2] at ec
        exact h.along ea eb' ec h1 h2
      · exact h.across ea eb' (by omega) (by omega) ec
  · rw [at2 i (by omega) li] at ea
    have eb' : up[i - k + 1]? = some b := by
      by_cases hk : i + 1 < k + l
      · rw [Nat.mod_eq_of_lt hk, at2 _ (by omega) hk] at eb
        rw [← eb]; congr 1; omega
      · have e : i + 1 = k + l := by omega
        rw [e, Nat.mod_self, at1 0 (by omega), h.e1] at eb
        rw [← eb]; congr 1; omega
    by_cases hj : j < k
    · rw [at1 j hj] at ec
      by_cases hj0 : j = 0
      · subst hj0
        rw [h.e1] at ec
        have q := g.along (up' ea) (up' eb') (up' ec) (by omega) (by
          intro e
          have : i + 1 = k + l := by omega
          rw [this, Nat.mod_self] at h2
          exact h2 rfl)
        rw [cr_ng] at q; exact q
      · have q := g.across (up' ea) (up' eb') (j := j) (by omega) hj (lo' ec)
        rw [cr_ng] at q; exact q
    · rw [at2 j (by omega) lj] at ec
      have q := g.along (up' ea) (up' eb') (up' ec) (by omega) (by
        intro e
        by_cases hk : i + 1 < k + l
        · rw [Nat.mod_eq_of_lt hk] at h2; omega
        · omega)
      rw [cr_ng] at q; exact q
/-! ### the hull -/
def hull (pts : List P2) : List P2 := if (PV.sortP pts).length < 3 then PV.sortP pts else (half (PV.sortP pts)).reverse.dropLast ++ (half (PV.sortP pts).reverse).reverse.dropLast
theorem ng_sorted {S : List P2} (h : S.Pairwise lt2) : (S.reverse.map ng).Pairwise lt2 := List.pairwise_map.mpr ((List.pairwise_reverse.mpr h).imp fun hab => lt_ng.mpr hab)
theorem half_up (S : List P2) : half S.reverse = (half (S.reverse.map ng)).map ng := by
  unfold half
  have := half_ng (S.reverse.map ng) []
  rw [ng_map] at this
  exact this
theorem ch_ix {Q : List P2} {z t : P2} {r : List P2} (h : Ch Q z t r) : (t :: r).reverse[0]? = some z ∧ (t :: r).reverse[r.length]? = some t := by
  refine ⟨?_, rev_last⟩
  rw [List.getElem?_reverse (by simp), Nat.sub_zero, ← List.getLast?_eq_getElem?]
  exact h.bot
/-- the two chains of a sorted row of points -/
theorem hu_of {S : List P2} (hs : S.Pairwise lt2) (h2 : 2 ≤ S.length) : ∃ k l, Hu S (half S).reverse (half S.reverse).reverse k l := by
  match S, h2, hs with
  | p :: ps, h2, hs =>
    obtain ⟨t, r, e1, c1, top1⟩ := half_spec hs
    have hs2 := ng_sorted hs
    obtain ⟨q, qs, eq⟩ : ∃ q qs, (p :: ps).reverse = q :: qs := by
      cases hr : (p :: ps).reverse with
      | nil => simp at hr
      | cons q qs => exact ⟨q, qs, rfl⟩
    rw [eq, List.map_cons] at hs2
    obtain ⟨t', r', e2, c2, top2⟩ := half_spec hs2
    have eu : half (p :: ps).reverse = (t' :: r').map ng := by
      rw [half_up, eq, List.map_cons, e2]
    have mS : ∀ x, x ∈ ps.reverse ++ [p] ↔ x ∈ p :: ps := fun x => by simp [or_comm]
    have mU : ∀ x, x ∈ (qs.map ng).reverse ++ [ng q] ↔ ng x ∈ p :: ps := fun x => by
      have : ng x ∈ p :: ps ↔ ng x ∈ q :: qs := by rw [← eq, List.mem_reverse]
      rw [this]
      simp only [List.mem_append, List.mem_reverse, List.mem_map, List.mem_cons, List.not_mem_nil, or_false]
      constructor
      · rintro (⟨y, hy, e⟩ | e)
        · right; rw [← e, ng_ng]; exact hy
        · left; rw [e, ng_ng]
      · rintro (e | hy)
        · right; rw [← e, ng_ng]
        · left; exact ⟨ng x, hy, ng_ng x⟩
    obtain ⟨z1, z2⟩ := ch_ix c1
    obtain ⟨z3, z4⟩ := ch_ix c2
    obtain ⟨s1, s2⟩ := List.pairwise_cons.mp hs
    have low : ∀ x ∈ p :: ps, x = p ∨ lt2 p x := fun x hx => by
      rcases List.mem_cons.mp hx with e | h
      · exact .inl e
      · exact .inr (s1 x h)
    -- the ends are the same
    have hp0 : p ∈ p :: ps := List.mem_cons_self ..
    have tS : t ∈ p :: ps := (mS t).mp (c1.sub t (List.mem_cons_self ..))
    have qS : q ∈ p :: ps := by rw [← List.mem_reverse, eq]; exact List.mem_cons_self ..
    have t'S : ng t' ∈ p :: ps := (mU t').mp (c2.sub t' (List.mem_cons_self ..))
    have et : q = t := by
      rcases top1 q ((mS q).mpr qS) with e | h
      · exact e
      · rcases c2.low (ng t) ((mU (ng t)).mpr (by rw [ng_ng]; exact tS)) with e | h'
        · have := congrArg ng e; rw [ng_ng, ng_ng] at this; exact this.symm
        · exact absurd (lt2_tr h (lt_ng.mp h')) lt2_ir
    have ep : ng t' = p := by
      rcases top2 (ng p) ((mU (ng p)).mpr (by rw [ng_ng]; exact hp0)) with e | h
      · rw [← e, ng_ng]
      · rcases low (ng t') t'S with e | h'
        · exact e
        · have h2 := lt_ng.mpr h'
          rw [ng_ng] at h2
          exact absurd (lt2_tr h h2) lt2_ir
    have hne : p ≠ t := fun e => by
      match ps, h2 with
      | x :: xs, _ =>
        have hx : x ∈ p :: x :: xs := by simp
        have l1 := s1 x (by simp)
        rcases top1 x ((mS x).mpr hx) with e2 | h
        · rw [e2, ← e] at l1; exact lt2_ir l1
        · rw [e] at l1; exact lt2_ir (lt2_tr l1 h)
    have k1 : 1 ≤ r.length := by
      match r, z1, z2 with
      | [], z1, z2 => exact absurd (Option.some.inj (z1.symm.trans z2)) hne
      | _ :: _, _, _ => simp
    have k2 : 1 ≤ r'.length := by
      match r', z3, z4 with
      | [], z3, z4 =>
        have := congrArg ng (Option.some.inj (z3.symm.trans z4))
        rw [ng_ng, ep, et] at this
        exact absurd this.symm hne
      | _ :: _, _, _ => simp
    have inv : ∀ {i : Nat} {a : P2}, ((t' :: r').map ng).reverse[i]? = some a → (t' :: r').reverse[i]? = some (ng a) := fun {i a} e => by
      rw [← List.map_reverse, List.getElem?_map] at e
      cases hl : (t' :: r').reverse[i]? with
      | none => rw [hl] at e; cases e
      | some b =>
        rw [hl] at e
        have : ng b = a := Option.some.inj e
        rw [← this, ng_ng]
    refine ⟨r.length, r'.length, ?_⟩
    rw [e1, eu]
    exact {
      kp := k1
      lq := k2
      llen := by simp
      ulen := by simp
      lsub := fun i a e => (mS a).mp (c1.sub a (List.mem_reverse.mp (List.mem_of_getElem? e)))
      usub := fun i a e => by
        have := (mU (ng a)).mp (c2.sub (ng a) (List.mem_reverse.mp (List.mem_of_getElem? (inv e))))
        rw [ng_ng] at this; exact this
      ls := fun hij a1 a2 => srt_ix c1.srt hij a1 a2
      us := fun hij a1 a2 => lt_ng.mp (srt_ix c2.srt hij (inv a1) (inv a2))
      lc := fun h1 h2 a1 a2 a3 => cv_ix c1.cv h1 h2 a1 a2 a3
      uc := fun h1 h2 a1 a2 a3 => by rw [← cr_ng]; exact cv_ix c2.cv h1 h2 (inv a1) (inv a2) (inv a3)
      lh := fun a1 a2 q hq => hl_ix c1.hl a1 a2 q ((mS q).mpr hq)
      uh := fun a1 a2 q hq => by
        rw [← cr_ng]; exact hl_ix c2.hl (inv a1) (inv a2) (ng q) ((mU (ng q)).mpr (by rw [ng_ng]; exact hq))
      e1 := by rw [z1, ← List.map_reverse, List.getElem?_map, z4, ← ep]; rfl
      e2 := by rw [z2, ← List.map_reverse, List.getElem?_map, z3, ← et]; simp [ng_ng] }
end PvH

namespace PvH
open PV (P2 lt2 lt2_tr lt2_ir lt2_tri sortP sortP_mem sortP_sorted insP insP_mem)
theorem insP_len {p : P2} : ∀ {l : List P2}, p ∉ l → (insP p l).length = l.length + 1
  | [], _ => rfl
  | q :: r, h => by
    unfold insP
    rw [if_neg (fun e => h (by simp [e]))]
    split
    · simp
    · simp only [List.length_cons]
      rw [insP_len fun z => h (List.mem_cons_of_mem _ z)]
theorem sortP_nodup : ∀ {l : List P2}, l.Nodup → (sortP l).length = l.length
  | [], _ => rfl
  | p :: r, h => by
    obtain ⟨h1, h2⟩ := List.nodup_cons.mp h
    unfold sortP
    rw [insP_len fun z => h1 (sortP_mem.mp z), sortP_nodup h2, List.length_cons]
theorem sub_len : ∀ {l m : List P2}, l.Pairwise lt2 → m.Pairwise lt2 → (∀ x ∈ l, x ∈ m) → l.length ≤ m.length
  | [], _, _, _, _ => Nat.zero_le _
  | x :: l, [], _, _, h => absurd (h x (List.mem_cons_self ..)) (by simp)
  | x :: l, y :: m, hl, hm, h => by
    obtain ⟨a1, a2⟩ := List.pairwise_cons.mp hl
    obtain ⟨b1, b2⟩ := List.pairwise_cons.mp hm
    rw [List.length_cons, List.length_cons]
    refine Nat.succ_le_succ (sub_len a2 b2 fun z hz => ?_)
    rcases List.mem_cons.mp (h z (List.mem_cons_of_mem _ hz)) with e | q
    · subst e
      rcases List.mem_cons.mp (h x (List.mem_cons_self ..)) with e | q
      · subst e; exact absurd (a1 _ hz) lt2_ir
      · exact absurd (lt2_tr (a1 _ hz) (b1 _ q)) lt2_ir
    · exact q
theorem Hu.nodup {S lo up : List P2} {k l : Nat} (h : Hu S lo up k l) : (lo.dropLast ++ up.dropLast).Nodup := by
  have n1 : lo.dropLast.length = k := by rw [List.length_dropLast, h.llen]; rfl
  have n2 : up.dropLast.length = l := by rw [List.length_dropLast, h.ulen]; rfl
  have at1 : ∀ (i : Nat) (a : P2), lo.dropLast[i]? = some a → i < k ∧ lo[i]? = some a := fun i a e => by
    have hi : i < k := by have := (List.getElem?_eq_some_iff.mp e).1; omega
    rw [List.getElem?_dropLast, if_pos (by rw [h.llen]; omega)] at e
    exact ⟨hi, e⟩
  have at2 : ∀ (i : Nat) (a : P2), up.dropLast[i]? = some a → i < l ∧ up[i]? = some a := fun i a e => by
    have hi : i < l := by have := (List.getElem?_eq_some_iff.mp e).1; omega
    rw [List.getElem?_dropLast, if_pos (by rw [h.ulen]; omega)] at e
    exact ⟨hi, e⟩
  have pl : lo.dropLast.Pairwise (· ≠ ·) := List.pairwise_iff_getElem.mpr fun i j hi hj hij e => by
    have := h.ls hij (at1 i _ (List.getElem?_eq_getElem hi)).2 (at1 j _ (List.getElem?_eq_getElem hj)).2
    rw [e] at this; exact lt2_ir this
  have pu : up.dropLast.Pairwise (· ≠ ·) := List.pairwise_iff_getElem.mpr fun i j hi hj hij e => by
    have := h.us hij (at2 i _ (List.getElem?_eq_getElem hi)).2 (at2 j _ (List.getElem?_eq_getElem hj)).2
    rw [e] at this; exact lt2_ir this
  refine List.pairwise_append.mpr ⟨pl, pu, fun a ha b hb e => ?_⟩
  subst e
  obtain ⟨i, hi⟩ := List.mem_iff_getElem?.mp ha
  obtain ⟨j, hj⟩ := List.mem_iff_getElem?.mp hb
  obtain ⟨i1, i2⟩ := at1 i a hi
  obtain ⟨j1, j2⟩ := at2 j a hj
  by_cases j0 : j = 0
  · subst j0
    rw [h.e2] at j2
    exact lt2_ir (h.ls i1 i2 j2)
  · obtain ⟨b, hb⟩ : ∃ b, lo[i + 1]? = some b := ⟨_, List.getElem?_eq_getElem (by rw [h.llen]; omega)⟩
    have := h.across i2 hb (by omega) j1 j2
    rw [cr_same2] at this
    omega
/-- a ring, as the program knows it -/
structure Rg (H : List P2) : Prop where
  l1 : 1 ≤ H.length
  l8 : H.length ≤ 8
  bd : ∀ p ∈ H, p.1.natAbs ≤ 1000000000 ∧ p.2.natAbs ≤ 1000000000
  two : ∀ a b, H = [a, b] → a ≠ b
  cv : 3 ≤ H.length → Conv H
theorem sorted_len {S : List P2} (pts : List P2) (hs : ∀ x ∈ S, x ∈ pts) (hp : S.Pairwise lt2) : S.length ≤ pts.length := by
  refine Nat.le_trans (sub_len hp (sortP_sorted pts) fun x hx => sortP_mem.mpr (hs x hx)) (PV.sortP_len pts)
theorem hull_rg {pts : List P2} (h0 : pts ≠ []) (h8 : (sortP pts).length ≤ 8) (hb : ∀ p ∈ pts, p.1.natAbs ≤ 1000000000 ∧ p.2.natAbs ≤ 1000000000) : Rg (hull pts) := by
  have hs := sortP_sorted pts
  have ne : 1 ≤ (sortP pts).length := by
    match pts, h0 with
    | p :: r, _ =>
      have : p ∈ sortP (p :: r) := sortP_mem.mpr (List.mem_cons_self ..)
      exact List.length_pos_of_mem this
  unfold hull
  by_cases h3 : (sortP pts).length < 3
  · rw [if_pos h3]
    refine ⟨ne, h8, fun p hp => hb p (sortP_mem.mp hp), fun a b e => ?_, fun h => by omega⟩
    rw [e] at hs
    have := (List.pairwise_cons.mp hs).1 b (by simp)
    intro z; rw [z] at this; exact lt2_ir this
  · rw [if_neg h3]
    obtain ⟨k, l, hu⟩ := hu_of hs (by omega)
    have kp := hu.kp
    have lq := hu.lq
    have mem : ∀ p ∈ (half (sortP pts)).reverse.dropLast ++ (half (sortP pts).reverse).reverse.dropLast, p ∈ sortP pts := fun p hp => by
      rcases List.mem_append.mp hp with hp | hp
      · obtain ⟨i, hi⟩ := List.mem_iff_getElem?.mp (List.dropLast_subset _ hp)
        exact hu.lsub i p hi
      · obtain ⟨i, hi⟩ := List.mem_iff_getElem?.mp (List.dropLast_subset _ hp)
        exact hu.usub i p hi
    have n1 : (half (sortP pts)).reverse.dropLast.length = k := by rw [List.length_dropLast, hu.llen]; rfl
    have n2 : (half (sortP pts).reverse).reverse.dropLast.length = l := by rw [List.length_dropLast, hu.ulen]; rfl
    have len : ((half (sortP pts)).reverse.dropLast ++ (half (sortP pts).reverse).reverse.dropLast).length ≤ (sortP pts).length := by
      rw [← sortP_nodup hu.nodup]
      exact sub_len (sortP_sorted _) hs fun x hx => mem x (sortP_mem.mp hx)
    refine ⟨by rw [List.length_append]; omega, by omega, fun p hp => hb p (sortP_mem.mp (mem p hp)), fun a b e => ?_, fun _ => hu.conv⟩
    have nd := hu.nodup
    rw [e] at nd
    intro z
    subst z
    simp at nd
/-- begun elsewhere -/
theorem rot_at {H : List P2} {k i : Nat} (hk : k ≤ H.length) (hi : i < H.length) : (H.drop k ++ H.take k)[i]? = H[(i + k) % H.length]? := by
  by_cases h : i + k < H.length
  · rw [List.getElem?_append_left (by rw [List.length_drop]; omega), List.getElem?_drop, Nat.mod_eq_of_lt h, Nat.add_comm]
  · rw [List.getElem?_append_right (by rw [List.length_drop]; omega), List.length_drop, List.getElem?_take, if_pos (by omega), Nat.mod_eq_sub_mod (by omega), Nat.mod_eq_of_lt (by omega)]
    congr 1; omega
theorem mod_sh {n k x : Nat} (hx : x < n) (hk : k ≤ n) : (x + k) % n = if x + k < n then x + k else x + k - n := by
  split
  · rename_i h; exact Nat.mod_eq_of_lt h
  · rename_i h
    rw [Nat.mod_eq_sub_mod (by omega), Nat.mod_eq_of_lt (by omega)]
theorem rot_len {H : List P2} {k : Nat} (hk : k ≤ H.length) : (H.drop k ++ H.take k).length = H.length := by
  rw [List.length_append, List.length_drop, List.length_take]; omega
theorem conv_rot {H : List P2} {k : Nat} (hk : k ≤ H.length) (h : Conv H) : Conv (H.drop k ++ H.take k) := by
  intro i j a b c h1 h2 ea eb ec
  rw [rot_len hk] at h2 eb
  have li : i < H.length := by have := (List.getElem?_eq_some_iff.mp ea).1; rw [rot_len hk] at this; exact this
  have lj : j < H.length := by have := (List.getElem?_eq_some_iff.mp ec).1; rw [rot_len hk] at this; exact this
  have lm : (i + 1) % H.length < H.length := Nat.mod_lt _ (by omega)
  rw [rot_at hk li] at ea
  rw [rot_at hk lj] at ec
  rw [rot_at hk lm] at eb
  have e1 : ((i + 1) % H.length + k) % H.length = ((i + k) % H.length + 1) % H.length := by
    rw [Nat.mod_add_mod, Nat.mod_add_mod]; congr 1; omega
  have q1 := mod_sh li hk
  have q2 := mod_sh lj hk
  have q3 := mod_sh lm hk
  refine h ((i + k) % H.length) ((j + k) % H.length) a b c ?_ ?_ ea (by rw [← e1]; exact eb) ec
  · rw [q1, q2]; split <;> split <;> omega
  · rw [← e1, q2, q3]; split <;> split <;> omega
theorem rot_rg {H : List P2} {k : Nat} (hk : k ≤ H.length) (h : Rg H) : Rg (H.drop k ++ H.take k) := by
  refine ⟨by rw [rot_len hk]; exact h.l1, by rw [rot_len hk]; exact h.l8, fun p hp => ?_, fun a b e => ?_, fun h3 => conv_rot hk (h.cv (by rw [rot_len hk] at h3; exact h3))⟩
  · rcases List.mem_append.mp hp with hp | hp
    · exact h.bd p (List.mem_of_mem_drop hp)
    · exact h.bd p (List.mem_of_mem_take hp)
  · have l := rot_len (H := H) hk
    rw [e] at l
    match H, l, e with
    | [x, y], _, e =>
      have ne := h.two x y rfl
      have hk' : k = 0 ∨ k = 1 ∨ k = 2 := by simp at hk; omega
      rcases hk' with rfl | rfl | rfl <;> simp at e <;> (obtain ⟨rfl, rfl⟩ := e; first | exact ne | exact fun z => ne z.symm)
theorem shift_rg {H : List P2} {u v : Int} (h : Rg H) (hb : ∀ p ∈ H, (p.1 + u).natAbs ≤ 1000000000 ∧ (p.2 + v).natAbs ≤ 1000000000) : Rg (H.map fun p => (p.1 + u, p.2 + v)) := by
  refine ⟨by simpa using h.l1, by simpa using h.l8, fun p hp => ?_, fun a b e => ?_, fun h3 => ?_⟩
  · obtain ⟨q, hq, rfl⟩ := List.mem_map.mp hp
    exact hb q hq
  · match H, e with
    | [x, y], e =>
      simp only [List.map_cons, List.map_nil, List.cons.injEq, and_true] at e
      obtain ⟨rfl, rfl⟩ := e
      have ne := h.two x y rfl
      intro z
      apply ne
      have z1 := congrArg Prod.fst z
      have z2 := congrArg Prod.snd z
      simp only at z1 z2
      exact Prod.ext (by omega) (by omega)
  · have cv := h.cv (by simpa using h3)
    intro i j a b c h1 h2 ea eb ec
    rw [List.length_map] at h2 eb
    rw [List.getElem?_map] at ea eb ec
    cases ha : H[i]? with
    | none => rw [ha] at ea; cases ea
    | some a' =>
      cases hb' : H[(i + 1) % H.length]? with
      | none => rw [hb'] at eb; cases eb
      | some b' =>
        cases hc : H[j]? with
        | none => rw [hc] at ec; cases ec
        | some c' =>
          rw [ha] at ea; rw [hb'] at eb; rw [hc] at ec
          cases ea; cases eb; cases ec
          have := cv i j a' b' c' h1 h2 ha hb' hc
          have e : cr (a'.1 + u, a'.2 + v) (b'.1 + u, b'.2 + v) (c'.1 + u, c'.2 + v) = cr a' b' c' := by unfold cr; grind
          rw [e]; exact this
end PvH

/-! PVR: rings in the program's own words (as in k10 and later laws). -/
noncomputable section
namespace PvR
open PySem PySem.Spec PyProof.Rows L2 PV
open PvH (cr Rg)
def sem_is_whole : Stm :=
  retS (toV (andV (isiM .int (rdM 0)) (notV (isiM .bool (rdM 0)))))
def c_is_whole : Fn := runFn 1 1 sem_is_whole
def sem_is_within : Stm :=
  retS (toV (andV (fz (callF c_is_whole (consD (rdM 0) (M.ret [])))) (chnV (rdM 1) (rdM 0) (rdM 2) leD leD)))
def c_is_within : Fn := runFn 3 3 sem_is_within
def sem_is_corner : Stm :=
  retS (toV (andV (isiM .tuple (rdM 0)) (andV (fz (bin (fz (calM (consA (rdM 0) (M.ret [])) lenD)) (M.ret (.int 2)) eqD)) (fz (calM (consA (fz (compM (seqI (rdM 0)) (nameT 1) [1] (M.ret true) (fz (callF c_is_within (consD (rdM 1) (consD (fz (un (M.ret (.int 1000000000)) negD)) (consD (M.ret (.int 1000000000)) (M.ret [])))))))) (M.ret [])) allD)))))
def c_is_corner : Fn := runFn 2 1 sem_is_corner
def sem_left_of : Stm :=
  seqS (tasS (tupM (consA (rdM 0) (consA (rdM 1) (consA (rdM 2) (M.ret []))))) (tupT 3 (consT (tupT 2 (consT (nameT 3) (consT (nameT 4) (nilT)))) (consT (tupT 2 (consT (nameT 5) (consT (nameT 6) (nilT)))) (consT (tupT 2 (consT (nameT 7) (consT (nameT 8) (nilT)))) (nilT)))))) <|
  retS (bin (fz (bin (fz (bin (rdM 5) (rdM 3) subD)) (fz (bin (rdM 8) (rdM 4) subD)) mulA)) (fz (bin (fz (bin (rdM 6) (rdM 4) subD)) (fz (bin (rdM 7) (rdM 3) subD)) mulA)) subD)
def c_left_of : Fn := runFn 9 3 sem_left_of
def sem_sides_of : Stm :=
  seqS (starS 1 2 (rdM 0)) <|
  retS (listZipM (consA (rdM 0) (consA (fz (bin (rdM 2) (fz (lstM (consA (rdM 1) (M.ret [])))) addD)) (M.ret []))))
def c_sides_of : Fn := runFn 3 1 sem_sides_of
def b_is_convex_1 : Stm :=
  seqS (asgS 5 (compM (enumI (rdM 0)) (tupT 2 (consT (nameT 6) (consT (nameT 7) (nilT)))) [6, 7] (cmpB (rdM 6) (tupM (consA (rdM 2) (consA (fz (bin (fz (bin (rdM 2) (M.ret (.int 1)) addD)) (rdM 1) modD)) (M.ret [])))) (inA true)) (rdM 7))) <|
    ifS (notB (tru (fz (calM (consA (fz (compM (seqI (rdM 5)) (nameT 7) [7] (M.ret true) (fz (bin (fz (callF c_left_of (consD (rdM 3) (consD (rdM 4) (consD (rdM 7) (M.ret [])))))) (M.ret (.int 0)) gtD)))) (M.ret [])) allD))))
      (retS (toV (M.ret (.bool false))))
      (nilS)
def sem_is_convex : Stm :=
  seqS (asgS 1 (calM (consA (rdM 0) (M.ret [])) lenD)) <|
  seqS (forS (enumI (fz (callF c_sides_of (consD (rdM 0) (M.ret []))))) (tupT 2 (consT (nameT 2) (consT (tupT 2 (consT (nameT 3) (consT (nameT 4) (nilT)))) (nilT))))
    (b_is_convex_1)) <|
  retS (toV (M.ret (.bool true)))
def c_is_convex : Fn := runFn 8 1 sem_is_convex
def sem_is_ring : Stm :=
  seqS (ifS (orB (notB (tru (isiM .tuple (rdM 0)))) (notB (chnB (M.ret (.int 1)) (fz (calM (consA (rdM 0) (M.ret [])) lenD)) (M.ret (.int 8)) leD leD)))
    (retS (toV (M.ret (.bool false))))
    (nilS)) <|
  seqS (ifS (notB (tru (fz (calM (consA (fz (compM (seqI (rdM 0)) (nameT 1) [1] (M.ret true) (fz (callF c_is_corner (consD (rdM 1) (M.ret [])))))) (M.ret [])) allD))))
    (retS (toV (M.ret (.bool false))))
    (nilS)) <|
  seqS (ifS (cmpB (fz (calM (consA (rdM 0) (M.ret [])) lenD)) (M.ret (.int 3)) ltD)
    (retS (toV (orV (fz (bin (fz (bin (rdM 0) (M.ret (.int 0)) ixD)) (fz (bin (rdM 0) (fz (un (M.ret (.int 1)) negD)) ixD)) neD)) (fz (bin (fz (calM (consA (rdM 0) (M.ret [])) lenD)) (M.ret (.int 1)) eqD)))))
    (nilS)) <|
  retS (callF c_is_convex (consD (rdM 0) (M.ret [])))
def c_is_ring : Fn := runFn 2 1 sem_is_ring
def sem_box_in : Stm :=
  seqS (parS 1 2 (consA (fz (compM (seqI (rdM 0)) (tupT 2 (consT (nameT 3) (consT (nameT 4) (nilT)))) [3, 4] (M.ret true) (rdM 3))) (consA (fz (compM (seqI (rdM 0)) (tupT 2 (consT (nameT 3) (consT (nameT 4) (nilT)))) [3, 4] (M.ret true) (rdM 4))) (M.ret [])))) <|
  retS (toV (tupM (consA (fz (calM (consA (rdM 1) (M.ret [])) minLD)) (consA (fz (calM (consA (rdM 2) (M.ret [])) minLD)) (consA (fz (calM (consA (rdM 1) (M.ret [])) maxLD)) (consA (fz (calM (consA (rdM 2) (M.ret [])) maxLD)) (M.ret [])))))))
def c_box_in : Fn := runFn 5 1 sem_box_in
def sem__law_cross : Stm :=
  retS (bin (fz (bin (fz (bin (fz (bin (rdM 1) (M.ret (.int 0)) ixD)) (fz (bin (rdM 0) (M.ret (.int 0)) ixD)) subD)) (fz (bin (fz (bin (rdM 2) (M.ret (.int 1)) ixD)) (fz (bin (rdM 0) (M.ret (.int 1)) ixD)) subD)) mulA)) (fz (bin (fz (bin (fz (bin (rdM 1) (M.ret (.int 1)) ixD)) (fz (bin (rdM 0) (M.ret (.int 1)) ixD)) subD)) (fz (bin (fz (bin (rdM 2) (M.ret (.int 0)) ixD)) (fz (bin (rdM 0) (M.ret (.int 0)) ixD)) subD)) mulA)) subD)
def c__law_cross : Fn := runFn 3 3 sem__law_cross
def b__law_half_hull_1 : Stm :=
  dropS (popM 1)
def b__law_half_hull_2 : Stm :=
  seqS (whileS (andB (cmpB (lenM 1) (M.ret (.int 1)) gtD) (cmpB (fz (callF c__law_cross (consD (atM 1 (fz (un (M.ret (.int 2)) negD))) (consD (atM 1 (fz (un (M.ret (.int 1)) negD))) (consD (rdM 2) (M.ret [])))))) (M.ret (.int 0)) leD))
      (b__law_half_hull_1)) <|
    dropS (appM 1 (rdM 2))
def sem__law_half_hull : Stm :=
  seqS (asgS 1 (lstM (M.ret []))) <|
  seqS (forS (seqI (rdM 0)) (nameT 2)
    (b__law_half_hull_2)) <|
  retS (mvM 1)
def c__law_half_hull : Fn := runFn 3 1 sem__law_half_hull
def sem__law_hull : Stm :=
  seqS (asgS 1 (sortSetM (rdM 0))) <|
  seqS (ifS (cmpB (fz (calM (consA (rdM 1) (M.ret [])) lenD)) (M.ret (.int 3)) ltD)
    (retS (mvM 1))
    (nilS)) <|
  retS (bin (fz (slice (fz (callF c__law_half_hull (consD (rdM 1) (M.ret [])))) (noPart) (part (fz (un (M.ret (.int 1)) negD))))) (fz (slice (fz (callF c__law_half_hull (consD (fz (un (rdM 1) revD)) (M.ret [])))) (noPart) (part (fz (un (M.ret (.int 1)) negD))))) addD)
def c__law_hull : Fn := runFn 2 1 sem__law_hull
def sem__law_ring : Stm :=
  seqS (ifS (cmpB (fz (callF takeC (consMu 0 (consD (M.ret (.int 24)) (M.ret []))))) (M.ret (.int 0)) eqD)
    (asgS 1 (bin (M.ret (.int 10)) (M.ret (.int 9)) powD))
    (nilS)) <|
  seqS (asgS 2 (bin (fz (lstM (consA (M.ret (.int 1)) (consA (M.ret (.int 2)) (consA (M.ret (.int 3)) (consA (M.ret (.int 4)) (consA (M.ret (.int 4)) (consA (fz (bin (M.ret (.int 1)) (fz (callF takeC (consMu 0 (consD (M.ret (.int 8)) (M.ret []))))) addD)) (M.ret []))))))))) (fz (callF takeC (consMu 0 (consD (M.ret (.int 6)) (M.ret []))))) ixD)) <|
  seqS (asgS 3 (compM (rng1 (consA (rdM 2) (M.ret []))) (nameT 6) [6] (M.ret true) (tupM (consA (fz (bin (fz (callF takeC (consMu 0 (consD (fz (bin (fz (bin (M.ret (.int 2)) (rdM 1) mulA)) (M.ret (.int 1)) addD)) (M.ret []))))) (rdM 1) subD)) (consA (fz (bin (fz (callF takeC (consMu 0 (consD (fz (bin (fz (bin (M.ret (.int 2)) (rdM 1) mulA)) (M.ret (.int 1)) addD)) (M.ret []))))) (rdM 1) subD)) (M.ret [])))))) <|
  seqS (asgS 4 (callF c__law_hull (consD (rdM 3) (M.ret [])))) <|
  seqS (asgS 5 (callF takeC (consMu 0 (consD (fz (calM (consA (rdM 4) (M.ret [])) lenD)) (M.ret []))))) <|
  retS (calM (consA (fz (bin (fz (slice (rdM 4) (part (rdM 5)) (noPart))) (fz (slice (rdM 4) (noPart) (part (rdM 5)))) addD)) (M.ret [])) tupleD)
def c__law_ring : Fn := runFn 7 2 sem__law_ring
theorem ty_i (i : Int) : isTy .int (.int i) = true := rfl
theorem ty_ib (i : Int) : isTy .bool (.int i) = false := rfl
theorem ty_t (xs : List PyData) : isTy .tuple (.tuple xs) = true := rfl
/-- at most n bits -/
def Bd (x : Int) : Prop := x.natAbs ≤ 4000000000
theorem bd_mul {x y : Int} (hx : x.natAbs ≤ 8000000000) (hy : y.natAbs ≤ 8000000000) : mulA (.int x) (.int y) = some (.d (.int (x * y))) := o_mul (by
  have h1 := log2_le (i := x) (k := 40) (by omega)
  have h2 := log2_le (i := y) (k := 40) (by omega)
  omega)
theorem whole_ok (i : Int) : c_is_whole [.d (.int i)] = some (.ok (.d (.bool true)), []) := by
  unfold c_is_whole sem_is_whole
  simp [ty_i, ty_ib]
theorem within_ok {i lo hi : Int} (h1 : lo ≤ i) (h2 : i ≤ hi) : c_is_within [.d (.int i), .d (.int lo), .d (.int hi)] = some (.ok (.d (.bool true)), []) := by
  unfold c_is_within sem_is_within
  simp [whole_ok, chnV, chnB, blO, h1, h2]
theorem all_true (n : Nat) : allD [.list (List.replicate n (.bool true))] = some (.d (.bool true)) := by
  have h : bls (List.replicate n (.bool true)) = some (List.replicate n true) := by
    induction n with
    | zero => rfl
    | succ n ih => rw [List.replicate_succ, bls, ih]; rfl
  show (bls (List.replicate n (.bool true))).map _ = _
  rw [h]
  simp
theorem map_const {α : Type} (ds : List α) (x : PyData) : ds.map (fun _ => x) = List.replicate ds.length x := by simp [List.map_const']
theorem corner_ok {p : P2} (h1 : p.1.natAbs ≤ 1000000000) (h2 : p.2.natAbs ≤ 1000000000) : c_is_corner [.d (mkP p)] = some (.ok (.d (.bool true)), []) := by
  have hc := comp_pure (i := 1) (f := PV.fz (callF c_is_within (consD (rdM 1) (consD (PV.fz (un (M.ret (.int 1000000000)) negD)) (consD (M.ret (.int 1000000000)) (M.ret [])))))) (g := fun _ => .bool true) (env := [some (.d (mkP p)), none]) (by simp)
    (ds := [.int p.1, .int p.2]) (acc := []) (fun d hd => by
      have hg : ((blkE [1] [some (Sl.d (mkP p)), none]).set 1 (some (.d d)))[1]? = some (some (.d d)) := rfl
      simp only [List.mem_cons, List.not_mem_nil, or_false] at hd
      rcases hd with rfl | rfl
      · simp [hg, within_ok (show -1000000000 ≤ p.1 by omega) (show p.1 ≤ 1000000000 by omega)]
      · simp [hg, within_ok (show -1000000000 ≤ p.2 by omega) (show p.2 ≤ 1000000000 by omega)]) (by simp)
  rw [map_const, List.nil_append] at hc
  have nm : noMu [1] [some (.d (mkP p)), none] = true := rfl
  have ha := all_true 2
  unfold c_is_corner sem_is_corner
  simp at hc ha
  simp [ty_t, e_compM, hc, nm, ha]
theorem cross_ok {a b c : P2} (ha : Bd a.1 ∧ Bd a.2) (hb : Bd b.1 ∧ Bd b.2) (hc : Bd c.1 ∧ Bd c.2) : c__law_cross [.d (mkP a), .d (mkP b), .d (mkP c)] = some (.ok (.d (.int (cr a b c))), []) := by
  obtain ⟨a1, a2⟩ := ha
  obtain ⟨b1, b2⟩ := hb
  obtain ⟨c1, c2⟩ := hc
  unfold Bd at *
  have m1 := bd_mul (x := b.1 - a.1) (y := c.2 - a.2) (by omega) (by omega)
  have m2 := bd_mul (x := b.2 - a.2) (y := c.1 - a.1) (by omega) (by omega)
  unfold c__law_cross sem__law_cross cr
  simp [at1, m1, m2]
theorem left_ok {a b c : P2} (ha : Bd a.1 ∧ Bd a.2) (hb : Bd b.1 ∧ Bd b.2) (hc : Bd c.1 ∧ Bd c.2) : c_left_of [.d (mkP a), .d (mkP b), .d (mkP c)] = some (.ok (.d (.int (cr a b c))), []) := by
  obtain ⟨a1, a2⟩ := ha
  obtain ⟨b1, b2⟩ := hb
  obtain ⟨c1, c2⟩ := hc
  unfold Bd at *
  have m1 := bd_mul (x := b.1 - a.1) (y := c.2 - a.2) (by omega) (by omega)
  have m2 := bd_mul (x := b.2 - a.2) (y := c.1 - a.1) (by omega) (by omega)
  unfold c_left_of sem_left_of cr
  simp [m1, m2]
/-! ### the hull -/
theorem e_lenM (i : Nat) (env : SEnv) : lenM i env = (match listAt env i with
  | none => none
  | some xs => some (.ok (.int xs.length), env)) := rfl
theorem e_appM (i : Nat) (fe : M PyData) (env : SEnv) : appM i fe env = (match listAt env i with
  | none => none
  | some _ => fe.bnd (fun d env1 => match listAt env1 i with
    | none => none
    | some xs => if xs.length < sizeLine then some (.ok (.d .none), setOut env1 i (xs ++ [d])) else none) env) := rfl
theorem e_popM (i : Nat) (env : SEnv) : popM i env = (match listAt env i with
  | none => none
  | some xs => match xs.getLast? with
    | none => none
    | some d => some (.ok (.d d), setOut env i xs.dropLast)) := rfl
def BdP (p : P2) : Prop := Bd p.1 ∧ Bd p.2
abbrev pc : M Bool := andB (cmpB (lenM 1) (M.ret (.int 1)) gtD) (cmpB (PV.fz (callF c__law_cross (consD (atM 1 (PV.fz (un (M.ret (.int 2)) negD))) (consD (atM 1 (PV.fz (un (M.ret (.int 1)) negD))) (consD (rdM 2) (M.ret [])))))) (M.ret (.int 0)) leD)
theorem at_neg {xs : List PyData} {k : Nat} {x : PyData} (h : xs.reverse[k]? = some x) : L2.atI xs (-((k : Int) + 1)) = some x := by
  have hk : k < xs.length := by have := (List.getElem?_eq_some_iff.mp h).1; simpa using this
  rw [List.getElem?_reverse hk] at h
  unfold L2.atI L2.ixN
  rw [if_neg (by omega), if_pos (by omega)]
  show xs[_]? = some x
  rw [← h]
  congr 1
  omega
/-- the stack, as the program holds it -/
def sk (st : List P2) : List PyData := st.reverse.map mkP
theorem sk_rev (st : List P2) : (sk st).reverse = st.map mkP := by simp [sk]
theorem sk_len (st : List P2) : (sk st).length = st.length := by simp [sk]
theorem sk_top (b a : P2) (r : List P2) : L2.atI (sk (b :: a :: r)) (-1) = some (mkP b) ∧ L2.atI (sk (b :: a :: r)) (-2) = some (mkP a) := by
  constructor
  · exact at_neg (k := 0) (by rw [sk_rev]; rfl)
  · exact at_neg (k := 1) (by rw [sk_rev]; rfl)
theorem sk_pop (b : P2) (r : List P2) : (sk (b :: r)).getLast? = some (mkP b) ∧ (sk (b :: r)).dropLast = sk r := by
  constructor
  · simp [sk]
  · simp [sk]
theorem pop_loop {p : P2} {s0 : Option Sl} (hp : BdP p) : ∀ st : List P2, (∀ q ∈ st, BdP q) → whileS pc b__law_half_hull_1 [s0, some (.own (sk st)), some (.d (mkP p))] = some (.nx, [s0, some (.own (sk (PvH.popAll st p))), some (.d (mkP p))])
  | [], _ => whileS_end (by simp [pc, e_lenM, sk, PvH.popAll])
  | [a], _ => whileS_end (by simp [pc, e_lenM, sk, PvH.popAll])
  | b :: a :: r, h => by
    obtain ⟨t1, t2⟩ := sk_top b a r
    have hc := cross_ok (h a (by simp)) (h b (by simp)) hp
    have ln : ¬ ((sk (b :: a :: r)).length : Int) ≤ 1 := by rw [sk_len]; simp; omega
    have ln' : (1 : Int) < ((sk (b :: a :: r)).length : Int) := by omega
    unfold PvH.popAll
    have hcond : pc [s0, some (.own (sk (b :: a :: r))), some (.d (mkP p))] = some (.ok (decide (cr a b p ≤ 0)), [s0, some (.own (sk (b :: a :: r))), some (.d (mkP p))]) := by
      generalize sk (b :: a :: r) = xs at *
      simp [pc, e_lenM, ln', t1, t2, hc]
    split
    · rename_i hle
      rw [decide_eq_true hle] at hcond
      obtain ⟨q1, q2⟩ := sk_pop b (a :: r)
      refine whileS_step hcond (e' := [s0, some (.own (sk (a :: r))), some (.d (mkP p))]) ?_ (pop_loop hp (a :: r) fun q hq => h q (List.mem_cons_of_mem _ hq))
      generalize sk (b :: a :: r) = xs at *
      simp [b__law_half_hull_1, e_popM, q1, q2]
    · rename_i hle
      rw [decide_eq_false hle] at hcond
      exact whileS_end hcond
theorem pop_sub (p : P2) : ∀ st : List P2, (∀ q ∈ PvH.popAll st p, q ∈ st) ∧ (PvH.popAll st p).length ≤ st.length
  | [] => ⟨fun q h => h, Nat.le_refl _⟩
  | [a] => ⟨fun q h => h, Nat.le_refl _⟩
  | b :: a :: r => by
    unfold PvH.popAll
    split
    · obtain ⟨h1, h2⟩ := pop_sub p (a :: r)
      exact ⟨fun q h => List.mem_cons_of_mem _ (h1 q h), Nat.le_succ_of_le h2⟩
    · exact ⟨fun q h => h, Nat.le_refl _⟩
theorem half_loop : ∀ (ps st : List P2) (s0 : Option Sl) (s2 : Option Sl), NM s2 → (∀ q ∈ ps, BdP q) → (∀ q ∈ st, BdP q) → ps.length + st.length < 1000 →
    ∃ t2, forL (nameT 2) b__law_half_hull_2 (ps.map mkP) [s0, some (.own (sk st)), s2] = some (.nx, [s0, some (.own (sk (ps.foldl PvH.push st))), t2]) ∧ NM t2
  | [], st, s0, s2, n2, _, _, _ => ⟨s2, rfl, n2⟩
  | p :: ps, st, s0, s2, n2, h1, h2, hl => by
    have hp := h1 p (List.mem_cons_self ..)
    have lp := pop_loop (s0 := s0) hp st h2
    obtain ⟨u1, u2⟩ := pop_sub p st
    rw [List.length_cons] at hl
    obtain ⟨t2, e, n⟩ := half_loop ps (PvH.push st p) s0 (some (.d (mkP p))) (by simp) (fun q hq => h1 q (List.mem_cons_of_mem _ hq)) (fun q hq => by
      rcases List.mem_cons.mp hq with rfl | hq
      · exact hp
      · exact h2 q (u1 q hq)) (by unfold PvH.push; rw [List.length_cons]; omega)
    refine ⟨t2, ?_, n⟩
    have sz : (sk (PvH.popAll st p)).length < sizeLine := Nat.lt_of_lt_of_le (show _ < 1000 by rw [sk_len]; omega) (by decide)
    have ap : sk (PvH.popAll st p) ++ [mkP p] = sk (PvH.push st p) := by simp [sk, PvH.push]
    rw [List.map_cons, forL]
    have b2 : b__law_half_hull_2 [s0, some (.own (sk st)), some (.d (mkP p))] = some (.nx, [s0, some (.own (sk (PvH.push st p))), some (.d (mkP p))]) := by
      unfold b__law_half_hull_2
      rw [← ap]
      generalize sk st = xs at *
      generalize sk (PvH.popAll st p) = ys at *
      simp [pc] at lp
      simp [lp, e_appM, sz]
    have ht : nameT 2 (mkP p) [s0, some (.own (sk st)), s2] = some [s0, some (.own (sk st)), some (.d (mkP p))] := by simp [-e_store, s_zero, s_succ, n2]
    rw [ht]
    dsimp only
    rw [b2]
    dsimp only
    rw [List.foldl_cons]
    exact e
theorem half_ok {S : List P2} (h : ∀ q ∈ S, BdP q) (hl : S.length < 900) : c__law_half_hull [.d (.list (S.map mkP))] = some (.ok (.own ((PvH.half S).reverse.map mkP)), []) := by
  obtain ⟨t2, e, n⟩ := half_loop S [] (some (.d (.list (S.map mkP)))) none (by simp) h (by simp) (by simp; omega)
  unfold c__law_half_hull sem__law_half_hull
  have e' : forL (nameT 2) b__law_half_hull_2 (S.map mkP) [some (.d (.list (S.map mkP))), some (.own []), none] = _ := e
  simp [-List.map_reverse, e']
  rfl
theorem cut_init (xs : List PyData) (hx : xs ≠ []) : cutL xs none (some (-1)) = xs.dropLast := by
  have hl : 1 ≤ xs.length := List.length_pos_iff.mpr hx
  unfold cutL
  rw [List.dropLast_eq_take]
  show (xs.drop 0).take ((if (-1 : Int) < 0 then ((-1 : Int) + (xs.length : Int)).toNat else min (-1 : Int).toNat xs.length) - 0) = _
  rw [if_pos (by decide), List.drop_zero]
  congr 1
  omega
theorem cut_from (xs : List PyData) (k : Nat) (hk : k ≤ xs.length) : cutL xs (some (k : Int)) none = xs.drop k := by
  unfold cutL
  rw [HT.sIx_nat, HT.sIx_none, Nat.min_eq_left hk]
  exact List.take_of_length_le (by rw [List.length_drop]; exact Nat.le_refl _)
theorem cut_to (xs : List PyData) (k : Nat) (hk : k ≤ xs.length) : cutL xs none (some (k : Int)) = xs.take k := by
  unfold cutL
  rw [HT.sIx_nat, HT.sIx_none, Nat.min_eq_left hk, List.drop_zero]
  rfl
theorem half_ne {S : List P2} (h : S ≠ []) : PvH.half S ≠ [] := by
  have go : ∀ (ps st : List P2), st ≠ [] → ps.foldl PvH.push st ≠ [] := fun ps => by
    induction ps with
    | nil => intro st h; exact h
    | cons p ps ih => intro st _; exact ih _ (by unfold PvH.push; simp)
  match S, h with
  | p :: ps, _ => exact go ps _ (by unfold PvH.push; simp)
theorem push_sub : ∀ (ps st : List P2), (∀ q ∈ ps.foldl PvH.push st, q ∈ ps ∨ q ∈ st) ∧ (ps.foldl PvH.push st).length ≤ ps.length + st.length
  | [], st => ⟨fun q h => .inr h, by simp⟩
  | p :: ps, st => by
    obtain ⟨h1, h2⟩ := push_sub ps (PvH.push st p)
    obtain ⟨u1, u2⟩ := pop_sub p st
    rw [List.foldl_cons]
    refine ⟨fun q h => ?_, ?_⟩
    · rcases h1 q h with h | h
      · exact .inl (List.mem_cons_of_mem _ h)
      · unfold PvH.push at h
        rcases List.mem_cons.mp h with rfl | h
        · exact .inl (List.mem_cons_self ..)
        · exact .inr (u1 q h)
    · unfold PvH.push at h2 ⊢
      simp only [List.length_cons] at h2 ⊢
      omega
theorem hull_ok {ps : List P2} (h : ∀ q ∈ ps, BdP q) (hl : ps.length < 64) : ∃ v : Vl, c__law_hull [.d (.list (ps.map mkP))] = some (.ok v, []) ∧ (v = .own ((PvH.hull ps).map mkP) ∨ v = .d (.list ((PvH.hull ps).map mkP))) := by
  have hs : sortSetD (.list (ps.map mkP)) = some (.own ((sortP ps).map mkP)) := by
    unfold sortSetD
    dsimp only
    rw [prsD_map]
    simp [hl]
  have hb : ∀ q ∈ sortP ps, BdP q := fun q hq => h q (sortP_mem.mp hq)
  have sl := sortP_len ps
  have c1 := half_ok hb (by omega)
  have c2 := half_ok (S := (sortP ps).reverse) (fun q hq => hb q (List.mem_reverse.mp hq)) (by rw [List.length_reverse]; omega)
  have e_ss : ∀ (fe : M PyData) (env : SEnv), sortSetM fe env = M.bnd fe (fun d => M.opt (sortSetD d)) env := fun _ _ => rfl
  unfold PvH.hull
  by_cases h3 : (sortP ps).length < 3
  · rw [if_pos h3]
    refine ⟨_, ?_, .inr rfl⟩
    unfold c__law_hull sem__law_hull
    have h3' : ((sortP ps).length : Int) < 3 := by omega
    simp [e_ss, hs, h3']
  · rw [if_neg h3]
    have h3' : ¬ ((sortP ps).length : Int) < 3 := by omega
    have n1 : sortP ps ≠ [] := fun e => by rw [e] at h3; simp at h3
    have l1 := (push_sub (sortP ps) []).2
    have l2 := (push_sub (sortP ps).reverse []).2
    have k1 : ((PvH.half (sortP ps)).reverse.map mkP) ≠ [] := by simp [half_ne n1]
    have k2 : ((PvH.half (sortP ps).reverse).reverse.map mkP) ≠ [] := by simp [half_ne (S := (sortP ps).reverse) (by simp [n1])]
    have m1 := cut_init _ k1
    have m2 := cut_init _ k2
    have ad : addD (.list ((PvH.half (sortP ps)).reverse.map mkP).dropLast) (.list ((PvH.half (sortP ps).reverse).reverse.map mkP).dropLast) = some (.own (((PvH.half (sortP ps)).reverse.map mkP).dropLast ++ ((PvH.half (sortP ps).reverse).reverse.map mkP).dropLast)) := o_addL (by
      simp only [List.length_dropLast, List.length_map, List.length_reverse]
      unfold PvH.half
      simp only [List.length_reverse, List.length_nil, Nat.add_zero] at l1 l2
      omega)
    have em : ((PvH.half (sortP ps)).reverse.dropLast ++ (PvH.half (sortP ps).reverse).reverse.dropLast).map mkP = ((PvH.half (sortP ps)).reverse.map mkP).dropLast ++ ((PvH.half (sortP ps).reverse).reverse.map mkP).dropLast := by
      rw [List.map_append, List.map_dropLast, List.map_dropLast]
    have rv : ((sortP ps).map mkP).reverse = (sortP ps).reverse.map mkP := by rw [List.map_reverse]
    rw [em]
    refine ⟨_, ?_, .inl rfl⟩
    generalize (PvH.half (sortP ps)).reverse.map mkP = A at *
    generalize (PvH.half (sortP ps).reverse).reverse.map mkP = B at *
    unfold c__law_hull sem__law_hull
    simp [-List.map_reverse, e_ss, hs, h3', rv, c1, c2, m1, m2, ad]
end PvR
end

noncomputable section
namespace PvR
open PySem PySem.Spec PyProof.Rows L2 PV
open PvH (cr Rg)
theorem pow9 : powD (.int 10) (.int 9) = some (.d (.int 1000000000)) := o_pow (by decide) (by decide)
theorem blk7 (a b c d e f g : Option Sl) : blkE [6] [a, b, c, d, e, f, g] = [toBlk a, toBlk b, toBlk c, toBlk d, toBlk e, toBlk f, none] := rfl
theorem un7 (a b c d e f g a' b' c' d' e' f' g' : Option Sl) : unE [6] [a, b, c, d, e, f, g] [a', b', c', d', e', f', g'] = [fromBlk a a', fromBlk b b', fromBlk c c', fromBlk d d', fromBlk e e', fromBlk f f', g] := rfl
abbrev fp : M PyData := tupM (consA (PV.fz (bin (PV.fz (callF takeC (consMu 0 (consD (PV.fz (bin (PV.fz (bin (M.ret (.int 2)) (rdM 1) mulA)) (M.ret (.int 1)) addD)) (M.ret []))))) (rdM 1) subD)) (consA (PV.fz (bin (PV.fz (callF takeC (consMu 0 (consD (PV.fz (bin (PV.fz (bin (M.ret (.int 2)) (rdM 1) mulA)) (M.ret (.int 1)) addD)) (M.ret []))))) (rdM 1) subD)) (M.ret [])))
theorem point_step {n : Nat} {pot : List PyData} {top : Int} (hp : Pot n pot) (hn : n + 2 < 1000000) (t0 : 0 < top) (t1 : top ≤ 1000000000) {d m : PyData} {ds acc : List PyData} (ha : acc.length < 1000) :
    ∃ (p : P2) (pot' : List PyData), (∀ ds, compL (nameT 6) [6] (M.ret true) fp (d :: ds) acc [some (.mu pot), some (.d (.int top)), some (.d m), none, none, none, none] = compL (nameT 6) [6] (M.ret true) fp ds (acc ++ [mkP p]) [some (.mu pot'), some (.d (.int top)), some (.d m), none, none, none, none]) ∧ p.1.natAbs ≤ top.natAbs ∧ p.2.natAbs ≤ top.natAbs ∧ Pot (n + 2) pot' := by
  have hm : mulA (.int 2) (.int top) = some (.d (.int (2 * top))) := bd_mul (by omega) (by omega)
  have lg : (2 * top + 1).natAbs.log2 < 9000 := by
    have := log2_le (i := 2 * top + 1) (k := 40) (by omega)
    omega
  obtain ⟨x, p1, e1, x0, x1, h1⟩ := take_spec hp (by omega) (m := 2 * top + 1) (by omega) lg
  obtain ⟨y, p2, e2, y0, y1, h2⟩ := take_spec h1 (by omega) (m := 2 * top + 1) (by omega) lg
  have hz : acc.length < sizeLine := Nat.lt_of_lt_of_le ha (by decide)
  refine ⟨(x - top, y - top), p2, fun ds => ?_, by show (x - top).natAbs ≤ _; omega, by show (y - top).natAbs ≤ _; omega, h2⟩
  rw [compL]
  simp [fp, blk7, un7, toBlk, fromBlk, hm, e1, e2, hz]
theorem points_draw {top : Int} (t0 : 0 < top) (t1 : top ≤ 1000000000) {m : PyData} : ∀ (ds acc : List PyData) (n : Nat) (pot : List PyData), Pot n pot → n + 2 * ds.length < 999000 → acc.length + ds.length < 1000 →
    ∃ (ps : List P2) (pot' : List PyData), compL (nameT 6) [6] (M.ret true) fp ds acc [some (.mu pot), some (.d (.int top)), some (.d m), none, none, none, none] = some (acc ++ ps.map mkP, [some (.mu pot'), some (.d (.int top)), some (.d m), none, none, none, none]) ∧ ps.length = ds.length ∧ (∀ p ∈ ps, p.1.natAbs ≤ top.natAbs ∧ p.2.natAbs ≤ top.natAbs) ∧ Pot (n + 2 * ds.length) pot'
  | [], acc, n, pot, hp, _, _ => ⟨[], pot, by simp [compL], rfl, by simp, hp⟩
  | d :: ds, acc, n, pot, hp, h1, h2 => by
    rw [List.length_cons] at h1 h2
    obtain ⟨p, p1, e, b1, b2, hp1⟩ := point_step hp (by omega) t0 t1 (d := d) (m := m) (ds := ds) (acc := acc) (by omega)
    obtain ⟨ps, p2, e2, l, b, hp2⟩ := points_draw t0 t1 (m := m) ds (acc ++ [mkP p]) (n + 2) p1 hp1 (by omega) (by rw [List.length_append, List.length_singleton]; omega)
    refine ⟨p :: ps, p2, ?_, by simp [l], fun q hq => ?_, hp2.mono (by rw [List.length_cons]; omega)⟩
    · rw [e, e2]; simp
    · rcases List.mem_cons.mp hq with rfl | hq
      · exact ⟨b1, b2⟩
      · exact b q hq
theorem bdP_of {p : P2} (h1 : p.1.natAbs ≤ 1000000000) (h2 : p.2.natAbs ≤ 1000000000) : BdP p := by unfold BdP Bd; omega
theorem Pot.len {n : Nat} {pot : List PyData} (h : Pot n pot) : True := True.intro
theorem rot_map (H : List P2) (k : Nat) : (H.map mkP).drop k ++ (H.map mkP).take k = (H.drop k ++ H.take k).map mkP := by
  rw [List.map_append, List.map_drop, List.map_take]
def p__law_ring_1 : Stm :=
  ifS (cmpB (fz (callF takeC (consMu 0 (consD (M.ret (.int 24)) (M.ret []))))) (M.ret (.int 0)) eqD)
    (asgS 1 (bin (M.ret (.int 10)) (M.ret (.int 9)) powD))
    (nilS)
def p__law_ring_2 : Stm :=
  asgS 2 (bin (fz (lstM (consA (M.ret (.int 1)) (consA (M.ret (.int 2)) (consA (M.ret (.int 3)) (consA (M.ret (.int 4)) (consA (M.ret (.int 4)) (consA (fz (bin (M.ret (.int 1)) (fz (callF takeC (consMu 0 (consD (M.ret (.int 8)) (M.ret []))))) addD)) (M.ret []))))))))) (fz (callF takeC (consMu 0 (consD (M.ret (.int 6)) (M.ret []))))) ixD)
def p__law_ring_3 : Stm :=
  asgS 3 (compM (rng1 (consA (rdM 2) (M.ret []))) (nameT 6) [6] (M.ret true) (tupM (consA (fz (bin (fz (callF takeC (consMu 0 (consD (fz (bin (fz (bin (M.ret (.int 2)) (rdM 1) mulA)) (M.ret (.int 1)) addD)) (M.ret []))))) (rdM 1) subD)) (consA (fz (bin (fz (callF takeC (consMu 0 (consD (fz (bin (fz (bin (M.ret (.int 2)) (rdM 1) mulA)) (M.ret (.int 1)) addD)) (M.ret []))))) (rdM 1) subD)) (M.ret [])))))
def p__law_ring_4 : Stm :=
  asgS 4 (callF c__law_hull (consD (rdM 3) (M.ret [])))
def p__law_ring_5 : Stm :=
  asgS 5 (callF takeC (consMu 0 (consD (fz (calM (consA (rdM 4) (M.ret [])) lenD)) (M.ret []))))
def p__law_ring_6 : Stm :=
  retS (calM (consA (fz (bin (fz (slice (rdM 4) (part (rdM 5)) (noPart))) (fz (slice (rdM 4) (noPart) (part (rdM 5)))) addD)) (M.ret [])) tupleD)
theorem split__law_ring : sem__law_ring = seqS p__law_ring_1 (seqS p__law_ring_2 (seqS p__law_ring_3 (seqS p__law_ring_4 (seqS p__law_ring_5 (p__law_ring_6))))) := rfl
theorem ring_ok {n : Nat} {pot : List PyData} {top : Int} (hp : Pot n pot) (hn : n + 40 < 900000) (t0 : 0 < top) (t1 : top ≤ 1000000000) :
    ∃ (H : List P2) (pot' : List PyData), c__law_ring [.m pot, .d (.int top)] = some (.ok (.d (.tuple (H.map mkP))), [pot']) ∧ Rg H ∧ Pot (n + 40) pot' := by
  obtain ⟨v, p1, f1, v0, v1, h1⟩ := take_spec hp (by omega) (m := 24) (by decide) (by decide)
  obtain ⟨u, p2, f2, u0, u1, h2⟩ := take_spec h1 (by omega) (m := 8) (by decide) (by decide)
  obtain ⟨w, p3, f3, w0, w1, h3⟩ := take_spec h2 (by omega) (m := 6) (by decide) (by decide)
  obtain ⟨mm, em, hm⟩ := pick (α := PyData) (xs := [.int 1, .int 2, .int 3, .int 4, .int 4, .int (1 + u)]) w0 (by simpa using w1)
  have hm' : ∃ t : Int, mm = .int t ∧ 1 ≤ t ∧ t ≤ 8 := by
    simp only [List.mem_cons, List.not_mem_nil, or_false] at hm
    rcases hm with rfl | rfl | rfl | rfl | rfl | rfl
    · exact ⟨1, rfl, by decide, by decide⟩
    · exact ⟨2, rfl, by decide, by decide⟩
    · exact ⟨3, rfl, by decide, by decide⟩
    · exact ⟨4, rfl, by decide, by decide⟩
    · exact ⟨4, rfl, by decide, by decide⟩
    · exact ⟨1 + u, rfl, by omega, by omega⟩
  obtain ⟨t, rfl, m0, m1⟩ := hm'
  obtain ⟨T, hT0, hT1, hT⟩ : ∃ T : Int, 0 < T ∧ T ≤ 1000000000 ∧ T = if v = 0 then 1000000000 else top := ⟨_, by split <;> omega, by split <;> omega, rfl⟩
  have rl : (rangeL 0 t.toNat).length = t.toNat := by unfold rangeL; simp
  obtain ⟨ps, p4, f4, l4, b4, h4⟩ := points_draw hT0 hT1 (m := .int t) (rangeL 0 t.toNat) [] _ p3 h3 (by omega) (by simp; omega)
  have bT : T.natAbs ≤ 1000000000 := by omega
  have bps : ∀ p ∈ ps, p.1.natAbs ≤ 1000000000 ∧ p.2.natAbs ≤ 1000000000 := fun p hp => ⟨Nat.le_trans (b4 p hp).1 bT, Nat.le_trans (b4 p hp).2 bT⟩
  obtain ⟨vv, f5, hvv⟩ := hull_ok (ps := ps) (fun q hq => bdP_of (bps q hq).1 (bps q hq).2) (by omega)
  have rg := PvH.hull_rg (pts := ps) (fun e => by rw [e] at l4; simp at l4; omega) (Nat.le_trans (sortP_len ps) (by omega)) bps
  have hl1 := rg.l1
  have hl8 := rg.l8
  obtain ⟨f, p6, f6, q0, q1, h6⟩ := take_spec h4 (by omega) (m := ((PvH.hull ps).length : Int)) (by omega) (by
    have := log2_le (i := ((PvH.hull ps).length : Int)) (k := 10) (by omega)
    omega)
  obtain ⟨k, hfk⟩ := Int.eq_ofNat_of_zero_le q0
  have hk : k ≤ (PvH.hull ps).length := by omega
  have c1 := cut_from ((PvH.hull ps).map mkP) k (by simpa using hk)
  have c2 := cut_to ((PvH.hull ps).map mkP) k (by simpa using hk)
  rw [← hfk] at c1 c2
  have ad : addD (.list (((PvH.hull ps).map mkP).drop k)) (.list (((PvH.hull ps).map mkP).take k)) = some (.own (((PvH.hull ps).map mkP).drop k ++ ((PvH.hull ps).map mkP).take k)) := o_addL (by
    simp only [List.length_drop, List.length_take, List.length_map]; omega)
  refine ⟨(PvH.hull ps).drop k ++ (PvH.hull ps).take k, p6, ?_, PvH.rot_rg hk rg, h6.mono (by omega)⟩
  rw [← rot_map]
  have ll : ((PvH.hull ps).map mkP).length = (PvH.hull ps).length := by simp
  rw [← ll] at f6
  generalize (PvH.hull ps).map mkP = L at *
  have nm : ∀ q : List PyData, noMu [6] [some (.mu q), some (.d (.int T)), some (.d (.int t)), none, none, none, none] = true := fun q => rfl
  have hr : -4611686018427387904 ≤ t ∧ t < 4611686018427387904 := by omega
  rw [List.nil_append] at f4
  have s1 : p__law_ring_1 [some (.mu pot), some (.d (.int top)), none, none, none, none, none] = some (.nx, [some (.mu p1), some (.d (.int T)), none, none, none, none, none]) := by
    unfold p__law_ring_1
    by_cases hv : v = 0
    · rw [if_pos hv] at hT
      subst hv
      simp [f1, pow9, hT]
    · rw [if_neg hv] at hT
      simp [f1, hv, hT]
  have s2 : p__law_ring_2 [some (.mu p1), some (.d (.int T)), none, none, none, none, none] = some (.nx, [some (.mu p3), some (.d (.int T)), some (.d (.int t)), none, none, none, none]) := by
    unfold p__law_ring_2
    simp [f2, f3, em]
  have s3 : p__law_ring_3 [some (.mu p3), some (.d (.int T)), some (.d (.int t)), none, none, none, none] = some (.nx, [some (.mu p4), some (.d (.int T)), some (.d (.int t)), some (.own (ps.map mkP)), none, none, none]) := by
    unfold p__law_ring_3
    simp only [fp] at f4
    simp [e_compM, hr, nm, f4]
  obtain ⟨v4, s4, hv4⟩ : ∃ v4 : Sl, p__law_ring_4 [some (.mu p4), some (.d (.int T)), some (.d (.int t)), some (.own (ps.map mkP)), none, none, none] = some (.nx, [some (.mu p4), some (.d (.int T)), some (.d (.int t)), some (.d (.list (ps.map mkP))), some v4, none, none]) ∧ (v4 = .own L ∨ v4 = .d (.list L)) := by
    unfold p__law_ring_4
    rcases hvv with rfl | rfl
    · exact ⟨.own L, by simp [f5], .inl rfl⟩
    · exact ⟨.d (.list L), by simp [f5], .inr rfl⟩
  have s5 : p__law_ring_5 [some (.mu p4), some (.d (.int T)), some (.d (.int t)), some (.d (.list (ps.map mkP))), some v4, none, none] = some (.nx, [some (.mu p6), some (.d (.int T)), some (.d (.int t)), some (.d (.list (ps.map mkP))), some (.d (.list L)), some (.d (.int f)), none]) := by
    unfold p__law_ring_5
    rcases hv4 with rfl | rfl
    · simp [f6]
    · simp [f6]
  have s6 : p__law_ring_6 [some (.mu p6), some (.d (.int T)), some (.d (.int t)), some (.d (.list (ps.map mkP))), some (.d (.list L)), some (.d (.int f)), none] = some (.rt (.d (.tuple (L.drop k ++ L.take k))), [some (.mu p6), some (.d (.int T)), some (.d (.int t)), some (.d (.list (ps.map mkP))), some (.d (.list L)), some (.d (.int f)), none]) := by
    unfold p__law_ring_6
    simp [c1, c2, ad]
  unfold c__law_ring
  rw [split__law_ring]
  simp only [e_run, e_init, List.length_cons, List.length_nil, List.map_cons, List.map_nil, e_sl1, e_sl2, List.cons_append, List.nil_append, Nat.reduceAdd, Nat.reduceSub, List.replicate_succ, List.replicate_zero, e_seq, s1, s2, s3, s4, s5, s6, e_ro2, if_true, e_mi1, e_mi2, e_mi0, e_oo1, e_oo0, List.getElem?_cons_zero]
end PvR
end

noncomputable section
namespace PvR
open PySem PySem.Spec PyProof.Rows L2 PV
open PvH (cr Rg)
theorem fb (s : Option Sl) : fromBlk s (toBlk s) = s := by
  cases s with
  | none => rfl
  | some t => cases t <;> rfl
theorem td (x : PyData) : toBlk (some (.d x)) = some (.d x) := rfl
theorem fd (x : PyData) (s : Option Sl) : fromBlk (some (.d x)) s = s := by
  cases s with
  | none => rfl
  | some t => cases t <;> rfl
/-! ### sides -/
def pr2 (x : PyData × PyData) : PyData := .tuple [x.1, x.2]
def sidesV : List P2 → List PyData
  | [] => []
  | h :: r => (((h :: r).map mkP).zip (r.map mkP ++ [mkP h])).map pr2
theorem sides_at : ∀ {H : List P2} {i : Nat} {x : PyData}, (sidesV H)[i]? = some x → ∃ a b, H[i]? = some a ∧ H[(i + 1) % H.length]? = some b ∧ x = .tuple [mkP a, mkP b]
  | [], i, x, h => by simp [sidesV] at h
  | h :: r, i, x, e => by
    unfold sidesV at e
    rw [List.getElem?_map] at e
    cases hz : (((h :: r).map mkP).zip (r.map mkP ++ [mkP h]))[i]? with
    | none => rw [hz] at e; cases e
    | some q =>
      rw [hz] at e
      cases e
      obtain ⟨q1, q2⟩ := List.getElem?_zip_eq_some.mp hz
      rw [List.getElem?_map] at q1
      cases ha : (h :: r)[i]? with
      | none => rw [ha] at q1; cases q1
      | some a =>
        rw [ha] at q1
        have e1 : mkP a = q.1 := Option.some.inj q1
        have hi : i < r.length + 1 := by have := (List.getElem?_eq_some_iff.mp ha).1; simpa using this
        by_cases hlt : i < r.length
        · rw [List.getElem?_append_left (by simpa using hlt), List.getElem?_map] at q2
          cases hb : r[i]? with
          | none => rw [hb] at q2; cases q2
          | some b =>
            rw [hb] at q2
            have e2 : mkP b = q.2 := Option.some.inj q2
            refine ⟨a, b, rfl, ?_, by unfold pr2; rw [← e1, ← e2]⟩
            rw [List.length_cons, Nat.mod_eq_of_lt (by omega), List.getElem?_cons_succ]
            exact hb
        · have ei : i = r.length := by omega
          subst ei
          rw [List.getElem?_append_right (by simp), List.length_map, Nat.sub_self] at q2
          have e2 : mkP h = q.2 := by simpa using q2
          refine ⟨a, h, rfl, ?_, by unfold pr2; rw [← e1, ← e2]⟩
          rw [List.length_cons, Nat.mod_self]; rfl
theorem sides_ok {h : P2} {r : List P2} (hl : r.length < 500) : c_sides_of [.d (.tuple ((h :: r).map mkP))] = some (.ok (.own (sidesV (h :: r))), []) := by
  have ad : addD (.list (r.map mkP)) (.list [mkP h]) = some (.own (r.map mkP ++ [mkP h])) := o_addL (by simp; omega)
  have lz : lzD [.tuple ((h :: r).map mkP), .list (r.map mkP ++ [mkP h])] = some (.own (sidesV (h :: r))) := by
    show (if ((h :: r).map mkP).length ≤ (r.map mkP ++ [mkP h]).length ∧ ((h :: r).map mkP).length ≤ 1000 then some (Vl.own ((((h :: r).map mkP).zip (r.map mkP ++ [mkP h])).map fun p => .tuple [p.1, p.2])) else none) = _
    rw [if_pos (by constructor <;> simp; omega)]
    rfl
  have e_lz : ∀ (f : M (List PyData)) (env : SEnv), listZipM f env = M.bnd f (fun ds => M.opt (lzD ds)) env := fun _ _ => rfl
  have e_star : ∀ (fa : M PyData) (env : SEnv), starS 1 2 fa env = thenS fa (fun d env => match d with
    | .tuple (x :: xs) => match storeE 1 (.d x) env with
      | none => none
      | some e => (storeE 2 (.own xs) e).map fun e => (.nx, e)
    | _ => none) env := fun _ _ => rfl
  unfold c_sides_of sem_sides_of
  rw [List.map_cons] at lz ⊢
  generalize sidesV (h :: r) = Z at *
  generalize r.map mkP = R at *
  generalize mkP h = x at *
  simp [e_star, e_lz, ad, lz]
/-! ### the corners beside a side -/
def sel (i m : Nat) : Nat → List P2 → List P2
  | _, [] => []
  | j, p :: l => if j = i ∨ j = m then sel i m (j + 1) l else p :: sel i m (j + 1) l
theorem sel_mem {i m : Nat} : ∀ {l : List P2} {j : Nat} {q : P2}, q ∈ sel i m j l → ∃ k, l[k]? = some q ∧ j + k ≠ i ∧ j + k ≠ m
  | [], j, q, h => by simp [sel] at h
  | p :: l, j, q, h => by
    unfold sel at h
    split at h
    · obtain ⟨k, h1, h2, h3⟩ := sel_mem h
      exact ⟨k + 1, h1, by omega, by omega⟩
    · rename_i hn
      rcases List.mem_cons.mp h with rfl | h
      · exact ⟨0, rfl, by omega, by omega⟩
      · obtain ⟨k, h1, h2, h3⟩ := sel_mem h
        exact ⟨k + 1, h1, by omega, by omega⟩
theorem sel_len {i m : Nat} : ∀ (l : List P2) (j : Nat), (sel i m j l).length ≤ l.length
  | [], _ => Nat.le_refl _
  | p :: l, j => by
    unfold sel
    split
    · exact Nat.le_succ_of_le (sel_len l (j + 1))
    · simp only [List.length_cons]; exact Nat.succ_le_succ (sel_len l (j + 1))
abbrev t67 : Tgt := tupT 2 (consT (nameT 6) (consT (nameT 7) (nilT)))
abbrev c67 : M Bool := cmpB (rdM 6) (tupM (consA (rdM 2) (consA (PV.fz (bin (PV.fz (bin (rdM 2) (M.ret (.int 1)) addD)) (rdM 1) modD)) (M.ret [])))) (inA true)
theorem blk8 (a b c d e f g h : Option Sl) : blkE [6, 7] [a, b, c, d, e, f, g, h] = [toBlk a, toBlk b, toBlk c, toBlk d, toBlk e, toBlk f, none, none] := rfl
theorem un8 (a b c d e f g h a' b' c' d' e' f' g' h' : Option Sl) : unE [6, 7] [a, b, c, d, e, f, g, h] [a', b', c', d', e', f', g', h'] = [fromBlk a a', fromBlk b b', fromBlk c c', fromBlk d d', fromBlk e e', fromBlk f f', g, h] := rfl
theorem mod_nat {i n : Nat} (hn : 0 < n) : ((i : Int) + 1).fmod (n : Int) = (((i + 1) % n : Nat) : Int) := by
  rw [Int.fmod_eq_emod_of_nonneg _ (by omega), Int.natCast_emod]
  rfl
theorem inA_tup (j a b : Int) : inA true (.int j) (.tuple [.int a, .int b]) = some (.d (.bool (!(decide (a = j) || decide (b = j))))) := by
  show (none : Option Vl).or ((intsD [.int a, .int b]).map fun ns => Vl.d (.bool (true ^^ ns.any fun z => z == j))) = _
  simp [intsD]
  rfl
theorem sel_go {R A B : PyData} {n i m : Int} {s5 : Option Sl} (hm : (i + 1).fmod n = m) (hn : n ≠ 0) (iN mN : Nat) (hi : i = iN) (hmN : m = mN) : ∀ (l : List P2) (j : Nat) (acc : List PyData), acc.length + l.length < 1000 →
    compL t67 [6, 7] c67 (rdM 7) (enumL j (l.map mkP)) acc [some (.d R), some (.d (.int n)), some (.d (.int i)), some (.d A), some (.d B), s5, none, none] = some (acc ++ (sel iN mN j l).map mkP, [some (.d R), some (.d (.int n)), some (.d (.int i)), some (.d A), some (.d B), s5, none, none])
  | [], j, acc, _ => by simp [compL, enumL, sel]
  | p :: l, j, acc, hl => by
    rw [List.length_cons] at hl
    have hz : acc.length < sizeLine := Nat.lt_of_lt_of_le (show acc.length < 1000 by omega) (by decide)
    have hmod : modD (.int (i + 1)) (.int n) = some (.d (.int m)) := by rw [o_mod hn, hm]
    have hin := inA_tup (j : Int) i m
    have go := fun acc' h => sel_go (R := R) (A := A) (B := B) (s5 := s5) hm hn iN mN hi hmN l (j + 1) acc' h
    rw [List.map_cons, enumL, compL]
    unfold sel
    by_cases hc : j = iN ∨ j = mN
    · have hd : (!(decide (i = (j : Int)) || decide (m = (j : Int)))) = false := by
        rcases hc with h | h
        · rw [decide_eq_true (show i = (j : Int) by omega)]; rfl
        · rw [decide_eq_true (show m = (j : Int) by omega), Bool.or_true]; rfl
      rw [hd] at hin
      rw [if_pos hc]
      have g := go acc (by omega)
      simp only [t67, c67] at g
      simp [t67, c67, blk8, un8, td, fd, hmod, hin, fb, g]
    · have hd : (!(decide (i = (j : Int)) || decide (m = (j : Int)))) = true := by
        rw [decide_eq_false (show ¬ i = (j : Int) by omega), decide_eq_false (show ¬ m = (j : Int) by omega)]; rfl
      rw [hd] at hin
      rw [if_neg hc]
      have g := go (acc ++ [mkP p]) (by rw [List.length_append, List.length_singleton]; omega)
      simp only [t67, c67] at g
      simp [t67, c67, blk8, un8, td, fd, hmod, hin, fb, hz, g]
end PvR
end

noncomputable section
namespace PvR
open PySem PySem.Spec PyProof.Rows L2 PV
open PvH (cr Rg Conv)
theorem e_enumI (f : M PyData) (env : SEnv) : enumI f env = M.bnd f (fun d => M.opt ((itemsD d).map (enumL 0))) env := rfl
theorem bdRg {H : List P2} (h : Rg H) {p : P2} (hp : p ∈ H) : BdP p := bdP_of (h.bd p hp).1 (h.bd p hp).2
theorem nm67 (a b c d e f : Option Sl) : noMu [6, 7] [a, b, c, d, e, f, none, none] = true := rfl
theorem nm7 (a b c d e f : Option Sl) : noMu [7] [a, b, c, d, e, f, none, none] = true := rfl
theorem body_ok {H : List P2} (h : Rg H) (cv : Conv H) {i : Int} {iN : Nat} (hi : i = iN) {a b : P2} (ea : H[iN]? = some a) (eb : H[(iN + 1) % H.length]? = some b) {n : Int} (hn : n = H.length) {s5 : Option Sl} (n5 : NM s5) :
    ∃ t5, b_is_convex_1 [some (.d (.tuple (H.map mkP))), some (.d (.int n)), some (.d (.int i)), some (.d (mkP a)), some (.d (mkP b)), s5, none, none] = some (.nx, [some (.d (.tuple (H.map mkP))), some (.d (.int n)), some (.d (.int i)), some (.d (mkP a)), some (.d (mkP b)), t5, none, none]) ∧ NM t5 := by
  have hl1 := h.l1
  have hl8 := h.l8
  have am : a ∈ H := List.mem_of_getElem? ea
  have bm : b ∈ H := List.mem_of_getElem? eb
  have n0 : n ≠ 0 := by omega
  have hm : (i + 1).fmod n = (((iN + 1) % H.length : Nat) : Int) := by rw [hi, hn]; exact mod_nat (by omega)
  obtain ⟨m, hm'⟩ : ∃ m : Int, m = (((iN + 1) % H.length : Nat) : Int) := ⟨_, rfl⟩
  rw [← hm'] at hm
  have g1 := sel_go (R := .tuple (H.map mkP)) (A := mkP a) (B := mkP b) (s5 := s5) hm n0 iN ((iN + 1) % H.length) hi hm' H 0 [] (by simp; omega)
  rw [List.nil_append] at g1
  generalize hO : sel iN ((iN + 1) % H.length) 0 H = O at g1
  have memO : ∀ q ∈ O, q ∈ H ∧ 0 < cr a b q := fun q hq => by
    rw [← hO] at hq
    obtain ⟨k, k1, k2, k3⟩ := sel_mem hq
    exact ⟨List.mem_of_getElem? k1, cv iN k a b q (by omega) (by omega) ea eb k1⟩
  have lO : O.length ≤ 8 := by rw [← hO]; exact Nat.le_trans (sel_len H 0) hl8
  have g2 := comp_pure (i := 7) (f := PV.fz (bin (PV.fz (callF c_left_of (consD (rdM 3) (consD (rdM 4) (consD (rdM 7) (M.ret [])))))) (M.ret (.int 0)) gtD)) (g := fun _ => .bool true)
    (env := [some (.d (.tuple (H.map mkP))), some (.d (.int n)), some (.d (.int i)), some (.d (mkP a)), some (.d (mkP b)), some (.d (.list (O.map mkP))), none, none]) (by simp) (ds := O.map mkP) (acc := []) (fun d hd => by
      obtain ⟨q, hq, rfl⟩ := List.mem_map.mp hd
      obtain ⟨q1, q2⟩ := memO q hq
      have lo := left_ok (bdRg h am) (bdRg h bm) (bdRg h q1)
      have g7 : ((blkE [7] [some (.d (.tuple (H.map mkP))), some (.d (.int n)), some (.d (.int i)), some (.d (mkP a)), some (.d (mkP b)), some (.d (.list (O.map mkP))), none, none]).set 7 (some (.d (mkP q)))) = [some (.d (.tuple (H.map mkP))), some (.d (.int n)), some (.d (.int i)), some (.d (mkP a)), some (.d (mkP b)), some (.d (.list (O.map mkP))), none, some (.d (mkP q))] := rfl
      rw [g7]
      generalize mkP a = A at *
      generalize mkP b = B at *
      generalize mkP q = C at *
      simp [lo, q2]) (by simp; omega)
  rw [map_const, List.nil_append, List.length_map] at g2
  have ga := all_true O.length
  refine ⟨some (.d (.list (O.map mkP))), ?_, by simp⟩
  unfold b_is_convex_1
  simp only [t67, c67] at g1
  generalize O.map mkP = OL at *
  generalize H.map mkP = HL at *
  simp [-e_store, s_zero, s_succ, e_compM, e_enumI, nm67, nm7, g1, n5, g2, ga]
theorem convex_ok {H : List P2} (h : Rg H) (cv : Conv H) : c_is_convex [.d (.tuple (H.map mkP))] = some (.ok (.d (.bool true)), []) := by
  have hl1 := h.l1
  have hl8 := h.l8
  obtain ⟨n, hn⟩ : ∃ n : Int, n = H.length := ⟨_, rfl⟩
  obtain ⟨p, r, rfl⟩ : ∃ p r, H = p :: r := by
    cases H with
    | nil => simp at hl1
    | cons p r => exact ⟨p, r, rfl⟩
  have so := sides_ok (h := p) (r := r) (by simp at hl8; omega)
  obtain ⟨env', f1, s2, s3, s4, s5, rfl, n2, n3, n4, n5⟩ := forL_nx (t := tupT 2 (consT (nameT 2) (consT (tupT 2 (consT (nameT 3) (consT (nameT 4) (nilT)))) (nilT)))) (b := b_is_convex_1) (ds := enumL 0 (sidesV (p :: r)))
    (fun env => ∃ s2 s3 s4 s5 : Option Sl, env = [some (.d (.tuple ((p :: r).map mkP))), some (.d (.int n)), s2, s3, s4, s5, none, none] ∧ NM s2 ∧ NM s3 ∧ NM s4 ∧ NM s5)
    (env := [some (.d (.tuple ((p :: r).map mkP))), some (.d (.int n)), none, none, none, none, none, none])
    (fun d hd env ⟨s2, s3, s4, s5, he, n2, n3, n4, n5⟩ => by
      subst he
      obtain ⟨i, hi⟩ := List.mem_iff_getElem?.mp hd
      obtain ⟨x, hx, rfl⟩ := enumL_at hi
      obtain ⟨a, b, ea, eb, rfl⟩ := sides_at hx
      obtain ⟨j, hj⟩ : ∃ j : Int, j = ((0 + i : Nat) : Int) := ⟨_, rfl⟩
      obtain ⟨t5, e, m5⟩ := body_ok h cv (i := j) (iN := i) (by omega) ea eb hn n5
      rw [← hj]
      refine ⟨_, _, ?_, e, some (.d (.int j)), some (.d (mkP a)), some (.d (mkP b)), t5, rfl, by simp, by simp, by simp, m5⟩
      generalize (p :: r).map mkP = HL at *
      generalize mkP a = A at *
      generalize mkP b = B at *
      simp [-e_store, s_zero, s_succ, n2, n3, n4])
    ⟨none, none, none, none, rfl, by simp, by simp, by simp, by simp⟩
  have ln : (((p :: r).map mkP).length : Int) = n := by rw [List.length_map, hn]
  unfold c_is_convex sem_is_convex
  generalize (p :: r).map mkP = HL at *
  generalize sidesV (p :: r) = Z at *
  simp [ln, e_enumI, so, f1]
theorem ne_pt (p q : P2) : neD (mkP p) (mkP q) = some (.d (.bool (!(decide (p.1 = q.1) && decide (p.2 = q.2))))) := by
  have := PvFr.eq_pair p.1 p.2 q.1 q.2
  unfold eqD at this
  unfold neD
  cases h : eqB (.tuple [.int p.1, .int p.2]) (.tuple [.int q.1, .int q.2]) with
  | none => rw [h] at this; cases this
  | some k =>
    rw [h] at this
    cases this
    rfl
theorem isring_ok {H : List P2} (h : Rg H) : c_is_ring [.d (.tuple (H.map mkP))] = some (.ok (.d (.bool true)), []) := by
  have hl1 := h.l1
  have hl8 := h.l8
  have g1 := comp_pure (i := 1) (f := PV.fz (callF c_is_corner (consD (rdM 1) (M.ret [])))) (g := fun _ => .bool true) (env := [some (.d (.tuple (H.map mkP))), none]) (by simp) (ds := H.map mkP) (acc := []) (fun d hd => by
    obtain ⟨q, hq, rfl⟩ := List.mem_map.mp hd
    exact comp_call1 (by simp) (corner_ok (h.bd q hq).1 (h.bd q hq).2)) (by simp; omega)
  rw [map_const, List.nil_append, List.length_map] at g1
  have ga := all_true H.length
  have nm : noMu [1] [some (.d (.tuple (H.map mkP))), none] = true := rfl
  have la : (1 : Int) ≤ ((H.map mkP).length : Int) := by rw [List.length_map]; omega
  have lb : ((H.map mkP).length : Int) ≤ 8 := by rw [List.length_map]; omega
  by_cases h3 : 3 ≤ H.length
  · have c := convex_ok h (h.cv h3)
    have l3 : ¬ ((H.map mkP).length : Int) < 3 := by rw [List.length_map]; omega
    unfold c_is_ring sem_is_ring
    generalize H.map mkP = HL at *
    obtain ⟨n, hn⟩ : ∃ n : Int, n = HL.length := ⟨_, rfl⟩
    rw [← hn] at la lb l3
    simp [ty_t, chnB, blO, ← hn, la, lb, e_compM, nm, g1, ga, l3, c]
  · match H, hl1, h3 with
    | [p], _, _ =>
      have k1 := ne_pt p p
      have ga : allD [.list [.bool true]] = some (.d (.bool true)) := all_true 1
      have gl : List.replicate [p].length (PyData.bool true) = [.bool true] := rfl
      rw [gl] at g1
      simp only [decide_true, Bool.and_self, Bool.not_true] at k1
      unfold c_is_ring sem_is_ring
      simp only [List.map_cons, List.map_nil] at *
      have a1 : L2.atI [mkP p] (-1) = some (mkP p) := at_neg (k := 0) rfl
      simp [ty_t, chnB, blO, e_compM, nm, g1, ga, a1, k1]
    | [p, q], _, _ =>
      have k1 := ne_pt p q
      have ne := h.two p q rfl
      have kd : (!(decide (p.1 = q.1) && decide (p.2 = q.2))) = true := by
        rw [← Bool.decide_and, decide_eq_false (fun z => ne (Prod.ext z.1 z.2))]; rfl
      rw [kd] at k1
      have ga : allD [.list [.bool true, .bool true]] = some (.d (.bool true)) := all_true 2
      have gl : List.replicate [p, q].length (PyData.bool true) = [.bool true, .bool true] := rfl
      rw [gl] at g1
      unfold c_is_ring sem_is_ring
      simp only [List.map_cons, List.map_nil] at *
      have a1 : L2.atI [mkP p, mkP q] (-1) = some (mkP q) := at_neg (k := 0) rfl
      simp [ty_t, chnB, blO, e_compM, nm, g1, ga, a1, k1]
    | p :: q :: r :: t, _, h3 => exact absurd (by simp) h3
end PvR
end

noncomputable section
namespace PvR
open PySem PySem.Spec PyProof.Rows L2 PV
open PvH (cr Rg Conv)
abbrev t34 : Tgt := tupT 2 (consT (nameT 3) (consT (nameT 4) (nilT)))
theorem blk5 (a b c d e : Option Sl) : blkE [3, 4] [a, b, c, d, e] = [toBlk a, toBlk b, toBlk c, none, none] := rfl
theorem un5 (a b c d e a' b' c' d' e' : Option Sl) : unE [3, 4] [a, b, c, d, e] [a', b', c', d', e'] = [fromBlk a a', fromBlk b b', fromBlk c c', d, e] := rfl
theorem nm5 (a b c : Option Sl) : noMu [3, 4] [a, b, c, none, none] = true := rfl
theorem xs_comp {s0 s1 s2 : Option Sl} : ∀ (ps : List P2) (acc : List PyData), acc.length + ps.length < 1000 →
    compL t34 [3, 4] (M.ret true) (rdM 3) (ps.map mkP) acc [s0, s1, s2, none, none] = some (acc ++ (ps.map fun p => .int p.1), [s0, s1, s2, none, none])
  | [], acc, _ => by simp [compL]
  | p :: ps, acc, hl => by
    rw [List.length_cons] at hl
    have hz : acc.length < sizeLine := Nat.lt_of_lt_of_le (show acc.length < 1000 by omega) (by decide)
    have ih := xs_comp (s0 := s0) (s1 := s1) (s2 := s2) ps (acc ++ [.int p.1]) (by rw [List.length_append, List.length_singleton]; omega)
    rw [List.map_cons, compL]
    simp only [t34] at ih
    simp [t34, blk5, un5, fb, hz, ih]
theorem ys_comp {s0 s1 s2 : Option Sl} : ∀ (ps : List P2) (acc : List PyData), acc.length + ps.length < 1000 →
    compL t34 [3, 4] (M.ret true) (rdM 4) (ps.map mkP) acc [s0, s1, s2, none, none] = some (acc ++ (ps.map fun p => .int p.2), [s0, s1, s2, none, none])
  | [], acc, _ => by simp [compL]
  | p :: ps, acc, hl => by
    rw [List.length_cons] at hl
    have hz : acc.length < sizeLine := Nat.lt_of_lt_of_le (show acc.length < 1000 by omega) (by decide)
    have ih := ys_comp (s0 := s0) (s1 := s1) (s2 := s2) ps (acc ++ [.int p.2]) (by rw [List.length_append, List.length_singleton]; omega)
    rw [List.map_cons, compL]
    simp only [t34] at ih
    simp [t34, blk5, un5, fb, hz, ih]
/-- the least, the greatest of a coordinate -/
def mn (f : P2 → Int) : List P2 → Int
  | [] => 0
  | p :: r => mnI (f p) (r.map f)
def mx (f : P2 → Int) : List P2 → Int
  | [] => 0
  | p :: r => mxI (f p) (r.map f)
theorem mn_le (f : P2 → Int) {H : List P2} {p : P2} (h : p ∈ H) : mn f H ≤ f p := by
  match H, h with
  | q :: r, h =>
    obtain ⟨h1, h2, _⟩ := mnI_le (r.map f) (f q)
    rcases List.mem_cons.mp h with rfl | h
    · exact h1
    · exact h2 _ (List.mem_map.mpr ⟨p, h, rfl⟩)
theorem mx_ge (f : P2 → Int) {H : List P2} {p : P2} (h : p ∈ H) : f p ≤ mx f H := by
  match H, h with
  | q :: r, h =>
    obtain ⟨h1, h2, _⟩ := mxI_ge (r.map f) (f q)
    rcases List.mem_cons.mp h with rfl | h
    · exact h1
    · exact h2 _ (List.mem_map.mpr ⟨p, h, rfl⟩)
theorem mn_in (f : P2 → Int) {H : List P2} (h : 1 ≤ H.length) : ∃ p ∈ H, mn f H = f p := by
  match H, h with
  | q :: r, _ =>
    obtain ⟨_, _, h3⟩ := mnI_le (r.map f) (f q)
    rcases h3 with h | h
    · exact ⟨q, List.mem_cons_self .., h⟩
    · obtain ⟨p, hp, e⟩ := List.mem_map.mp h
      exact ⟨p, List.mem_cons_of_mem _ hp, e.symm⟩
theorem mx_in (f : P2 → Int) {H : List P2} (h : 1 ≤ H.length) : ∃ p ∈ H, mx f H = f p := by
  match H, h with
  | q :: r, _ =>
    obtain ⟨_, _, h3⟩ := mxI_ge (r.map f) (f q)
    rcases h3 with h | h
    · exact ⟨q, List.mem_cons_self .., h⟩
    · obtain ⟨p, hp, e⟩ := List.mem_map.mp h
      exact ⟨p, List.mem_cons_of_mem _ hp, e.symm⟩
theorem mn_mx (f : P2 → Int) {H : List P2} (h : 1 ≤ H.length) : mn f H ≤ mx f H := by
  obtain ⟨p, hp, e⟩ := mn_in f h
  rw [e]; exact mx_ge f hp
theorem min_ok (f : P2 → Int) {H : List P2} (h : 1 ≤ H.length) : minLD [.list (H.map fun p => .int (f p))] = some (.d (.int (mn f H))) := by
  match H, h with
  | q :: r, _ =>
    have e : ((q :: r).map fun p => PyData.int (f p)) = ((q :: r).map f).map .int := by rw [List.map_map]; rfl
    rw [e]
    unfold minLD
    dsimp only
    rw [intsD_map]
    rfl
theorem max_ok (f : P2 → Int) {H : List P2} (h : 1 ≤ H.length) : maxLD [.list (H.map fun p => .int (f p))] = some (.d (.int (mx f H))) := by
  match H, h with
  | q :: r, _ =>
    have e : ((q :: r).map fun p => PyData.int (f p)) = ((q :: r).map f).map .int := by rw [List.map_map]; rfl
    rw [e]
    unfold maxLD
    dsimp only
    rw [intsD_map]
    rfl
def boxV (H : List P2) : PyData := .tuple [.int (mn (·.1) H), .int (mn (·.2) H), .int (mx (·.1) H), .int (mx (·.2) H)]
theorem boxin_ok {H : List P2} (h1 : 1 ≤ H.length) (h8 : H.length ≤ 8) : c_box_in [.d (.tuple (H.map mkP))] = some (.ok (.d (boxV H)), []) := by
  have cx := xs_comp (s0 := some (.d (.tuple (H.map mkP)))) (s1 := none) (s2 := none) H [] (by simp; omega)
  have cy := ys_comp (s0 := some (.d (.tuple (H.map mkP)))) (s1 := none) (s2 := none) H [] (by simp; omega)
  have m1 := min_ok (·.1) h1
  have m2 := min_ok (·.2) h1
  have m3 := max_ok (·.1) h1
  have m4 := max_ok (·.2) h1
  rw [List.nil_append] at cx cy
  simp only [t34] at cx cy
  unfold c_box_in sem_box_in boxV
  generalize H.map mkP = HL at *
  generalize (H.map fun p => PyData.int p.1) = XL at *
  generalize (H.map fun p => PyData.int p.2) = YL at *
  simp [e_compM, nm5, cx, cy, m1, m2, m3, m4]
end PvR
end

/-! PVT: all sides have all others at the left, just where any three in their order turn left. -/
noncomputable section
namespace PvH
open PySem PySem.Spec PyProof.Rows L2 PV
def Tri (H : List P2) : Prop := ∀ (i j k : Nat) (a b c : P2), i < j → j < k → H[i]? = some a → H[j]? = some b → H[k]? = some c → 0 < cr a b c
theorem cr_trans {o u a b c : P2} (h1 : 0 < cr o u a) (h2 : 0 < cr o u b) (h3 : 0 < cr o u c) (h4 : 0 < cr o a b) (h5 : 0 < cr o b c) : 0 < cr o a c := by
  have e : cr o u b * cr o a c = cr o u a * cr o b c + cr o u c * cr o a b := by unfold cr; grind
  have p1 : 0 < cr o u a * cr o b c := Int.mul_pos h1 h5
  have p2 : 0 < cr o u c * cr o a b := Int.mul_pos h3 h4
  rcases Int.lt_or_le 0 (cr o a c) with z | z
  · exact z
  · have := Int.mul_nonpos_of_nonneg_of_nonpos (Int.le_of_lt h2) z
    omega
theorem tri_of_conv {H : List P2} (h : Conv H) : Tri H := by
  have key : ∀ (m i j k : Nat) (a b c : P2), k = j + 1 + m → i < j → H[i]? = some a → H[j]? = some b → H[k]? = some c → 0 < cr a b c := by
    intro m
    induction m with
    | zero =>
      intro i j k a b c hk hij ha hb hc
      have hk' : k = j + 1 := by omega
      subst hk'
      have hl : j + 1 < H.length := (List.getElem?_eq_some_iff.mp hc).1
      have hm : (j + 1) % H.length = j + 1 := Nat.mod_eq_of_lt hl
      have := h j i b c a (by omega) (by rw [hm]; omega) hb (by rw [hm]; exact hc) ha
      rw [cr_cyc] at this
      exact this
    | succ m ih =>
      intro i j k a b c hk hij ha hb hc
      have hl : k < H.length := (List.getElem?_eq_some_iff.mp hc).1
      have hk1 : k - 1 < H.length := by omega
      obtain ⟨d, hd⟩ : ∃ d, H[k - 1]? = some d := ⟨_, List.getElem?_eq_getElem hk1⟩
      have hi1 : i + 1 < H.length := by omega
      obtain ⟨u, hu⟩ : ∃ u, H[i + 1]? = some u := ⟨_, List.getElem?_eq_getElem hi1⟩
      have mi : (i + 1) % H.length = i + 1 := Nat.mod_eq_of_lt hi1
      have mk : (k - 1 + 1) % H.length = k := by rw [show k - 1 + 1 = k by omega]; exact Nat.mod_eq_of_lt hl
      have h1 := ih i j (k - 1) a b d (by omega) hij ha hb hd
      have h2 : 0 < cr a d c := by
        have := h (k - 1) i d c a (by omega) (by rw [mk]; omega) hd (by rw [mk]; exact hc) ha
        rw [cr_cyc] at this
        exact this
      by_cases hj : j = i + 1
      · have := h i k a u c (by omega) (by rw [mi]; omega) ha (by rw [mi]; exact hu) hc
        subst hj
        rw [hu] at hb
        cases hb
        exact this
      · have g : ∀ (x : Nat) (q : P2), x ≠ i → x ≠ i + 1 → H[x]? = some q → 0 < cr a u q := fun x q x1 x2 hx => h i x a u q x1 (by rw [mi]; exact x2) ha (by rw [mi]; exact hu) hx
        exact cr_trans (g j b (by omega) (by omega) hb) (g (k - 1) d (by omega) (by omega) hd) (g k c (by omega) (by omega) hc) h1 h2
  intro i j k a b c hij hjk ha hb hc
  exact key (k - j - 1) i j k a b c (by omega) hij ha hb hc
theorem conv_of_tri {H : List P2} (h : Tri H) : Conv H := by
  intro i j a b c h1 h2 ha hb hc
  have li : i < H.length := (List.getElem?_eq_some_iff.mp ha).1
  have lj : j < H.length := (List.getElem?_eq_some_iff.mp hc).1
  by_cases hi : i + 1 < H.length
  · rw [Nat.mod_eq_of_lt hi] at h2 hb
    rcases Nat.lt_or_ge j i with z | z
    · have := h j i (i + 1) c a b z (by omega) hc ha hb
      rw [← cr_cyc] at this
      exact this
    · exact h i (i + 1) j a b c (by omega) (by omega) ha hb hc
  · have e : i + 1 = H.length := by omega
    rw [e, Nat.mod_self] at h2 hb
    have := h 0 j i b c a (by omega) (by omega) hb hc ha
    rw [← cr_cyc, ← cr_cyc] at this
    exact this
theorem conv_tri (H : List P2) : Conv H ↔ Tri H := ⟨tri_of_conv, conv_of_tri⟩
end PvH
end

noncomputable section
namespace PvK09
open PySem PySem.Spec PyProof.Rows L2 PV
def topS (i : Nat) : Stmt := PySem.Challenge.pw_wherewhen_k09_rings_known.main.body.getD i (.Pass ⟨0, 0, 0, 0⟩)
abbrev st_is_whole : Stmt := topS 1
abbrev nm_is_whole : List Str := ["thing"]
abbrev ps_is_whole : List Str := ["thing"]
theorem sc_is_whole : FnScope nm_is_whole ps_is_whole (defScope st_is_whole) := ⟨rfl, rfl, rfl, by decide +kernel, rfl, by decide +kernel, by decide +kernel⟩
def sem_is_whole : Stm :=
  retS (toV (andV (isiM .int (rdM 0)) (notV (isiM .bool (rdM 0)))))
def c_is_whole : Fn := runFn 1 1 sem_is_whole
abbrev st_is_within : Stmt := topS 2
abbrev nm_is_within : List Str := ["thing", "low", "high"]
abbrev ps_is_within : List Str := ["thing", "low", "high"]
theorem sc_is_within : FnScope nm_is_within ps_is_within (defScope st_is_within) := ⟨rfl, rfl, rfl, by decide +kernel, rfl, by decide +kernel, by decide +kernel⟩
def sem_is_within : Stm :=
  retS (toV (andV (fz (callF c_is_whole (consD (rdM 0) (M.ret [])))) (chnV (rdM 1) (rdM 0) (rdM 2) leD leD)))
def c_is_within : Fn := runFn 3 3 sem_is_within
abbrev st_is_corner : Stmt := topS 6
abbrev nm_is_corner : List Str := ["thing", "part"]
abbrev ps_is_corner : List Str := ["thing"]
theorem sc_is_corner : FnScope nm_is_corner ps_is_corner (defScope st_is_corner) := ⟨rfl, rfl, rfl, by decide +kernel, rfl, by decide +kernel, by decide +kernel⟩
def sem_is_corner : Stm :=
  retS (toV (andV (isiM .tuple (rdM 0)) (andV (fz (bin (fz (calM (consA (rdM 0) (M.ret [])) lenD)) (M.ret (.int 2)) eqD)) (fz (calM (consA (fz (compM (seqI (rdM 0)) (nameT 1) [1] (M.ret true) (fz (callF c_is_within (consD (rdM 1) (consD (fz (un (M.ret (.int 1000000000)) negD)) (consD (M.ret (.int 1000000000)) (M.ret [])))))))) (M.ret [])) allD)))))
def c_is_corner : Fn := runFn 2 1 sem_is_corner
abbrev st_left_of : Stmt := topS 7
abbrev nm_left_of : List Str := ["one", "other", "corner", "ax", "ay", "bx", "by", "x", "y"]
abbrev ps_left_of : List Str := ["one", "other", "corner"]
theorem sc_left_of : FnScope nm_left_of ps_left_of (defScope st_left_of) := ⟨rfl, rfl, rfl, by decide +kernel, rfl, by decide +kernel, by decide +kernel⟩
def sem_left_of : Stm :=
  seqS (tasS (tupM (consA (rdM 0) (consA (rdM 1) (consA (rdM 2) (M.ret []))))) (tupT 3 (consT (tupT 2 (consT (nameT 3) (consT (nameT 4) (nilT)))) (consT (tupT 2 (consT (nameT 5) (consT (nameT 6) (nilT)))) (consT (tupT 2 (consT (nameT 7) (consT (nameT 8) (nilT)))) (nilT)))))) <|
  retS (bin (fz (bin (fz (bin (rdM 5) (rdM 3) subD)) (fz (bin (rdM 8) (rdM 4) subD)) mulA)) (fz (bin (fz (bin (rdM 6) (rdM 4) subD)) (fz (bin (rdM 7) (rdM 3) subD)) mulA)) subD)
def c_left_of : Fn := runFn 9 3 sem_left_of
abbrev st_sides_of : Stmt := topS 8
abbrev nm_sides_of : List Str := ["ring", "first", "rest"]
abbrev ps_sides_of : List Str := ["ring"]
theorem sc_sides_of : FnScope nm_sides_of ps_sides_of (defScope st_sides_of) := ⟨rfl, rfl, rfl, by decide +kernel, rfl, by decide +kernel, by decide +kernel⟩
def sem_sides_of : Stm :=
  seqS (starS 1 2 (rdM 0)) <|
  retS (listZipM (consA (rdM 0) (consA (fz (bin (rdM 2) (fz (lstM (consA (rdM 1) (M.ret [])))) addD)) (M.ret []))))
def c_sides_of : Fn := runFn 3 1 sem_sides_of
abbrev st_is_convex : Stmt := topS 9
abbrev nm_is_convex : List Str := ["ring", "many", "at", "one", "other", "others", "place", "corner"]
abbrev ps_is_convex : List Str := ["ring"]
theorem sc_is_convex : FnScope nm_is_convex ps_is_convex (defScope st_is_convex) := ⟨rfl, rfl, rfl, by decide +kernel, rfl, by decide +kernel, by decide +kernel⟩
def b_is_convex_1 : Stm :=
  seqS (asgS 5 (compM (enumI (rdM 0)) (tupT 2 (consT (nameT 6) (consT (nameT 7) (nilT)))) [6, 7] (cmpB (rdM 6) (tupM (consA (rdM 2) (consA (fz (bin (fz (bin (rdM 2) (M.ret (.int 1)) addD)) (rdM 1) modD)) (M.ret [])))) (inA true)) (rdM 7))) <|
    ifS (notB (tru (fz (calM (consA (fz (compM (seqI (rdM 5)) (nameT 7) [7] (M.ret true) (fz (bin (fz (callF c_left_of (consD (rdM 3) (consD (rdM 4) (consD (rdM 7) (M.ret [])))))) (M.ret (.int 0)) gtD)))) (M.ret [])) allD))))
      (retS (toV (M.ret (.bool false))))
      (nilS)
def sem_is_convex : Stm :=
  seqS (asgS 1 (calM (consA (rdM 0) (M.ret [])) lenD)) <|
  seqS (forS (enumI (fz (callF c_sides_of (consD (rdM 0) (M.ret []))))) (tupT 2 (consT (nameT 2) (consT (tupT 2 (consT (nameT 3) (consT (nameT 4) (nilT)))) (nilT))))
    (b_is_convex_1)) <|
  retS (toV (M.ret (.bool true)))
def c_is_convex : Fn := runFn 8 1 sem_is_convex
abbrev st_is_ring : Stmt := topS 10
abbrev nm_is_ring : List Str := ["thing", "corner"]
abbrev ps_is_ring : List Str := ["thing"]
theorem sc_is_ring : FnScope nm_is_ring ps_is_ring (defScope st_is_ring) := ⟨rfl, rfl, rfl, by decide +kernel, rfl, by decide +kernel, by decide +kernel⟩
def sem_is_ring : Stm :=
  seqS (ifS (orB (notB (tru (isiM .tuple (rdM 0)))) (notB (chnB (M.ret (.int 1)) (fz (calM (consA (rdM 0) (M.ret [])) lenD)) (M.ret (.int 8)) leD leD)))
    (retS (toV (M.ret (.bool false))))
    (nilS)) <|
  seqS (ifS (notB (tru (fz (calM (consA (fz (compM (seqI (rdM 0)) (nameT 1) [1] (M.ret true) (fz (callF c_is_corner (consD (rdM 1) (M.ret [])))))) (M.ret [])) allD))))
    (retS (toV (M.ret (.bool false))))
    (nilS)) <|
  seqS (ifS (cmpB (fz (calM (consA (rdM 0) (M.ret [])) lenD)) (M.ret (.int 3)) ltD)
    (retS (toV (orV (fz (bin (fz (bin (rdM 0) (M.ret (.int 0)) ixD)) (fz (bin (rdM 0) (fz (un (M.ret (.int 1)) negD)) ixD)) neD)) (fz (bin (fz (calM (consA (rdM 0) (M.ret [])) lenD)) (M.ret (.int 1)) eqD)))))
    (nilS)) <|
  retS (callF c_is_convex (consD (rdM 0) (M.ret [])))
def c_is_ring : Fn := runFn 2 1 sem_is_ring
abbrev st__law_pot : Stmt := topS 12
abbrev nm__law_pot : List Str := ["script", "k", "cell"]
abbrev ps__law_pot : List Str := ["script", "k"]
theorem sc__law_pot : FnScope nm__law_pot ps__law_pot (defScope st__law_pot) := ⟨rfl, rfl, rfl, by decide +kernel, rfl, by decide +kernel, by decide +kernel⟩
def sem__law_pot : Stm :=
  seqS (asgS 2 (toV (M.ret (.int 0)))) <|
  seqS (ifS (cmpB (rdM 1) (fz (calM (consA (rdM 0) (M.ret [])) lenD)) ltD)
    (asgS 2 (bin (fz (calM (consA (fz (bin (rdM 0) (rdM 1) ixD)) (M.ret [])) absD)) (fz (bin (fz (bin (M.ret (.int 10)) (M.ret (.int 60)) powD)) (M.ret (.int 10)) powD)) modD))
    (nilS)) <|
  retS (lstM (consA (fz (bin (rdM 2) (fz (calM (consA (fz (bin (rdM 2) (fz (bin (M.ret (.int 10)) (M.ret (.int 18)) powD)) geD)) (M.ret [])) intD)) mulA)) (consA (fz (bin (fz (bin (fz (bin (fz (bin (fz (bin (rdM 2) (M.ret (.int 2147483629)) modD)) (fz (bin (M.ret (.int 7919)) (rdM 1) mulA)) addD)) (M.ret (.int 1)) addD)) (M.ret (.int 5)) powD)) (M.ret (.int 2305843009213693951)) modD)) (consA (M.ret (.int 0)) (M.ret [])))))
def c__law_pot : Fn := runFn 3 2 sem__law_pot
abbrev st__law_take : Stmt := topS 13
abbrev nm__law_take : List Str := ["pot", "many", "found", "one", "other"]
abbrev ps__law_take : List Str := ["pot", "many"]
theorem sc__law_take : FnScope nm__law_take ps__law_take (defScope st__law_take) := ⟨rfl, rfl, rfl, by decide +kernel, rfl, by decide +kernel, by decide +kernel⟩
def sem__law_take : Stm :=
  seqS (ifS (cmpB (atM 0 (M.ret (.int 0))) (M.ret (.int 0)) gtD)
    (seqS (asgS 2 (bin (atM 0 (M.ret (.int 0))) (rdM 1) modD)) <|
    seqS (setS 0 (fz (bin (atM 0 (M.ret (.int 0))) (rdM 1) fdivD)) (M.ret (.int 0))) <|
    retS (mvM 2))
    (nilS)) <|
  seqS (setS 0 (fz (bin (atM 0 (M.ret (.int 2))) (M.ret (.int 1)) addD)) (M.ret (.int 2))) <|
  seqS (asgS 3 (bin (fz (bin (fz (bin (atM 0 (M.ret (.int 1))) (fz (bin (M.ret (.int 104729)) (atM 0 (M.ret (.int 2))) mulA)) addD)) (M.ret (.int 3)) powD)) (M.ret (.int 2305843009213693921)) modD)) <|
  seqS (asgS 4 (bin (fz (bin (fz (bin (fz (bin (rdM 3) (fz (bin (atM 0 (M.ret (.int 1))) (M.ret (.int 65537)) modD)) addD)) (fz (bin (M.ret (.int 31)) (atM 0 (M.ret (.int 2))) mulA)) addD)) (M.ret (.int 5)) powD)) (M.ret (.int 2305843009213693907)) modD)) <|
  retS (bin (fz (bin (rdM 4) (M.ret (.int 1024)) fdivD)) (rdM 1) modD)
def c__law_take : Fn := runFn 5 2 sem__law_take
abbrev st__law_cross : Stmt := topS 14
abbrev nm__law_cross : List Str := ["a", "b", "c"]
abbrev ps__law_cross : List Str := ["a", "b", "c"]
theorem sc__law_cross : FnScope nm__law_cross ps__law_cross (defScope st__law_cross) := ⟨rfl, rfl, rfl, by decide +kernel, rfl, by decide +kernel, by decide +kernel⟩
def sem__law_cross : Stm :=
  retS (bin (fz (bin (fz (bin (fz (bin (rdM 1) (M.ret (.int 0)) ixD)) (fz (bin (rdM 0) (M.ret (.int 0)) ixD)) subD)) (fz (bin (fz (bin (rdM 2) (M.ret (.int 1)) ixD)) (fz (bin (rdM 0) (M.ret (.int 1)) ixD)) subD)) mulA)) (fz (bin (fz (bin (fz (bin (rdM 1) (M.ret (.int 1)) ixD)) (fz (bin (rdM 0) (M.ret (.int 1)) ixD)) subD)) (fz (bin (fz (bin (rdM 2) (M.ret (.int 0)) ixD)) (fz (bin (rdM 0) (M.ret (.int 0)) ixD)) subD)) mulA)) subD)
def c__law_cross : Fn := runFn 3 3 sem__law_cross
abbrev st__law_half_hull : Stmt := topS 15
abbrev nm__law_half_hull : List Str := ["points", "found", "point"]
abbrev ps__law_half_hull : List Str := ["points"]
theorem sc__law_half_hull : FnScope nm__law_half_hull ps__law_half_hull (defScope st__law_half_hull) := ⟨rfl, rfl, rfl, by decide +kernel, rfl, by decide +kernel, by decide +kernel⟩
def b__law_half_hull_1 : Stm :=
  dropS (popM 1)
def b__law_half_hull_2 : Stm :=
  seqS (whileS (andB (cmpB (lenM 1) (M.ret (.int 1)) gtD) (cmpB (fz (callF c__law_cross (consD (atM 1 (fz (un (M.ret (.int 2)) negD))) (consD (atM 1 (fz (un (M.ret (.int 1)) negD))) (consD (rdM 2) (M.ret [])))))) (M.ret (.int 0)) leD))
      (b__law_half_hull_1)) <|
    dropS (appM 1 (rdM 2))
def sem__law_half_hull : Stm :=
  seqS (asgS 1 (lstM (M.ret []))) <|
  seqS (forS (seqI (rdM 0)) (nameT 2)
    (b__law_half_hull_2)) <|
  retS (mvM 1)
def c__law_half_hull : Fn := runFn 3 1 sem__law_half_hull
abbrev st__law_hull : Stmt := topS 16
abbrev nm__law_hull : List Str := ["points", "some"]
abbrev ps__law_hull : List Str := ["points"]
theorem sc__law_hull : FnScope nm__law_hull ps__law_hull (defScope st__law_hull) := ⟨rfl, rfl, rfl, by decide +kernel, rfl, by decide +kernel, by decide +kernel⟩
def sem__law_hull : Stm :=
  seqS (asgS 1 (sortSetM (rdM 0))) <|
  seqS (ifS (cmpB (fz (calM (consA (rdM 1) (M.ret [])) lenD)) (M.ret (.int 3)) ltD)
    (retS (mvM 1))
    (nilS)) <|
  retS (bin (fz (slice (fz (callF c__law_half_hull (consD (rdM 1) (M.ret [])))) (noPart) (part (fz (un (M.ret (.int 1)) negD))))) (fz (slice (fz (callF c__law_half_hull (consD (fz (un (rdM 1) revD)) (M.ret [])))) (noPart) (part (fz (un (M.ret (.int 1)) negD))))) addD)
def c__law_hull : Fn := runFn 2 1 sem__law_hull
abbrev st__law_ring : Stmt := topS 17
abbrev nm__law_ring : List Str := ["pot", "top", "many", "points", "hull", "first", "k"]
abbrev ps__law_ring : List Str := ["pot", "top"]
theorem sc__law_ring : FnScope nm__law_ring ps__law_ring (defScope st__law_ring) := ⟨rfl, rfl, rfl, by decide +kernel, rfl, by decide +kernel, by decide +kernel⟩
def sem__law_ring : Stm :=
  seqS (ifS (cmpB (fz (callF c__law_take (consMu 0 (consD (M.ret (.int 24)) (M.ret []))))) (M.ret (.int 0)) eqD)
    (asgS 1 (bin (M.ret (.int 10)) (M.ret (.int 9)) powD))
    (nilS)) <|
  seqS (asgS 2 (bin (fz (lstM (consA (M.ret (.int 1)) (consA (M.ret (.int 2)) (consA (M.ret (.int 3)) (consA (M.ret (.int 4)) (consA (M.ret (.int 4)) (consA (fz (bin (M.ret (.int 1)) (fz (callF c__law_take (consMu 0 (consD (M.ret (.int 8)) (M.ret []))))) addD)) (M.ret []))))))))) (fz (callF c__law_take (consMu 0 (consD (M.ret (.int 6)) (M.ret []))))) ixD)) <|
  seqS (asgS 3 (compM (rng1 (consA (rdM 2) (M.ret []))) (nameT 6) [6] (M.ret true) (tupM (consA (fz (bin (fz (callF c__law_take (consMu 0 (consD (fz (bin (fz (bin (M.ret (.int 2)) (rdM 1) mulA)) (M.ret (.int 1)) addD)) (M.ret []))))) (rdM 1) subD)) (consA (fz (bin (fz (callF c__law_take (consMu 0 (consD (fz (bin (fz (bin (M.ret (.int 2)) (rdM 1) mulA)) (M.ret (.int 1)) addD)) (M.ret []))))) (rdM 1) subD)) (M.ret [])))))) <|
  seqS (asgS 4 (callF c__law_hull (consD (rdM 3) (M.ret [])))) <|
  seqS (asgS 5 (callF c__law_take (consMu 0 (consD (fz (calM (consA (rdM 4) (M.ret [])) lenD)) (M.ret []))))) <|
  retS (calM (consA (fz (bin (fz (slice (rdM 4) (part (rdM 5)) (noPart))) (fz (slice (rdM 4) (noPart) (part (rdM 5)))) addD)) (M.ret [])) tupleD)
def c__law_ring : Fn := runFn 7 2 sem__law_ring
abbrev st__law_is_corner : Stmt := topS 18
abbrev nm__law_is_corner : List Str := ["thing", "part"]
abbrev ps__law_is_corner : List Str := ["thing"]
theorem sc__law_is_corner : FnScope nm__law_is_corner ps__law_is_corner (defScope st__law_is_corner) := ⟨rfl, rfl, rfl, by decide +kernel, rfl, by decide +kernel, by decide +kernel⟩
def b__law_is_corner_1 : Stm :=
  ifS (orB (notB (tru (isiM .int (rdM 1)))) (orB (tru (isiM .bool (rdM 1))) (cmpB (fz (calM (consA (rdM 1) (M.ret [])) absD)) (fz (bin (M.ret (.int 10)) (M.ret (.int 9)) powD)) gtD)))
      (retS (toV (M.ret (.bool false))))
      (nilS)
def sem__law_is_corner : Stm :=
  seqS (ifS (orB (notB (tru (isiM .tuple (rdM 0)))) (cmpB (fz (calM (consA (rdM 0) (M.ret [])) lenD)) (M.ret (.int 2)) neD))
    (retS (toV (M.ret (.bool false))))
    (nilS)) <|
  seqS (forS (seqI (rdM 0)) (nameT 1)
    (b__law_is_corner_1)) <|
  retS (toV (M.ret (.bool true)))
def c__law_is_corner : Fn := runFn 2 1 sem__law_is_corner
abbrev st__law_due : Stmt := topS 19
abbrev nm__law_due : List Str := ["thing", "i", "j", "corner", "k"]
abbrev ps__law_due : List Str := ["thing"]
theorem sc__law_due : FnScope nm__law_due ps__law_due (defScope st__law_due) := ⟨rfl, rfl, rfl, by decide +kernel, rfl, by decide +kernel, by decide +kernel⟩
def b__law_due_1 : Stm :=
  ifS (cmpB (fz (compM (rng2 (consA (fz (bin (rdM 2) (M.ret (.int 1)) addD)) (consA (fz (calM (consA (rdM 0) (M.ret [])) lenD)) (M.ret [])))) (nameT 4) [4] (cmpB (fz (callF c__law_cross (consD (fz (bin (rdM 0) (rdM 1) ixD)) (consD (fz (bin (rdM 0) (rdM 2) ixD)) (consD (fz (bin (rdM 0) (rdM 4) ixD)) (M.ret [])))))) (M.ret (.int 0)) leD) (M.ret (.int 1)))) (fz (lstM (M.ret []))) neD)
        (retS (toV (M.ret (.bool false))))
        (nilS)
def b__law_due_2 : Stm :=
  forS (rng2 (consA (fz (bin (rdM 1) (M.ret (.int 1)) addD)) (consA (fz (calM (consA (rdM 0) (M.ret [])) lenD)) (M.ret [])))) (nameT 2)
      (b__law_due_1)
def sem__law_due : Stm :=
  seqS (ifS (orB (notB (tru (isiM .tuple (rdM 0)))) (orB (cmpB (rdM 0) (tupM (M.ret [])) eqF) (cmpB (fz (calM (consA (rdM 0) (M.ret [])) lenD)) (M.ret (.int 8)) gtD)))
    (retS (toV (M.ret (.bool false))))
    (nilS)) <|
  seqS (ifS (cmpB (fz (compM (seqI (rdM 0)) (nameT 3) [3] (notB (tru (fz (callF c__law_is_corner (consD (rdM 3) (M.ret [])))))) (M.ret (.int 1)))) (fz (lstM (M.ret []))) neD)
    (retS (toV (M.ret (.bool false))))
    (nilS)) <|
  seqS (ifS (cmpB (fz (calM (consA (rdM 0) (M.ret [])) lenD)) (M.ret (.int 2)) eqD)
    (retS (bin (fz (bin (rdM 0) (M.ret (.int 0)) ixD)) (fz (bin (rdM 0) (M.ret (.int 1)) ixD)) neD))
    (nilS)) <|
  seqS (forS (rng1 (consA (fz (calM (consA (rdM 0) (M.ret [])) lenD)) (M.ret []))) (nameT 1)
    (b__law_due_2)) <|
  retS (toV (M.ret (.bool true)))
def c__law_due : Fn := runFn 5 1 sem__law_due
abbrev st__law_odd_corner : Stmt := topS 20
abbrev nm__law_odd_corner : List Str := ["pot", "corner", "x", "y", "some"]
abbrev ps__law_odd_corner : List Str := ["pot", "corner"]
theorem sc__law_odd_corner : FnScope nm__law_odd_corner ps__law_odd_corner (defScope st__law_odd_corner) := ⟨rfl, rfl, rfl, by decide +kernel, rfl, by decide +kernel, by decide +kernel⟩
def sem__law_odd_corner : Stm :=
  seqS (tasS (rdM 1) (tupT 2 (consT (nameT 2) (consT (nameT 3) (nilT))))) <|
  seqS (asgS 4 (lstM (consA (tupM (consA (rdM 2) (consA (rdM 3) (consA (M.ret (.int 0)) (M.ret []))))) (consA (tupM (consA (rdM 2) (M.ret []))) (consA (fz (lstM (consA (rdM 2) (consA (rdM 3) (M.ret []))))) (consA (tupM (consA (rdM 2) (consA (M.ret .none) (M.ret [])))) (consA (tupM (consA (fz (calM (consA (rdM 2) (M.ret [])) strD)) (consA (rdM 3) (M.ret [])))) (consA (tupM (consA (fz (bin (rdM 2) (M.ret (.int 1)) eqD)) (consA (rdM 3) (M.ret [])))) (consA (tupM (consA (rdM 2) (consA (M.ret (.bool true)) (M.ret [])))) (consA (tupM (consA (fz (bin (fz (bin (M.ret (.int 10)) (M.ret (.int 9)) powD)) (M.ret (.int 1)) addD)) (consA (rdM 3) (M.ret [])))) (consA (tupM (consA (rdM 2) (consA (M.ret (.dict [])) (M.ret [])))) (M.ret [])))))))))))) <|
  seqS (asgS 4 (bin (rdM 4) (fz (lstM (consA (M.ret .none) (consA (rdM 2) (consA (tupM (M.ret [])) (consA (tupM (consA (tupM (consA (rdM 2) (consA (rdM 3) (M.ret [])))) (M.ret []))) (consA (tupM (consA (fz (bin (M.ret (.int 10)) (M.ret (.int 40)) powD)) (consA (rdM 3) (M.ret [])))) (consA (tupM (consA (rdM 2) (consA (tupM (consA (rdM 3) (consA (M.ret (.int 1)) (M.ret [])))) (M.ret [])))) (consA (M.ret (.dict [])) (consA (M.ret (.str "corner")) (consA (tupM (consA (rdM 2) (consA (fz (un (fz (bin (M.ret (.int 10)) (M.ret (.int 50)) powD)) negD)) (M.ret [])))) (M.ret [])))))))))))) addD)) <|
  seqS (dropS (appM 4 (tupM (consA (rdM 2) (consA (fz (bin (fz (un (fz (bin (M.ret (.int 10)) (M.ret (.int 9)) powD)) negD)) (M.ret (.int 1)) subD)) (M.ret [])))))) <|
  retS (toV (atM 4 (fz (callF c__law_take (consMu 0 (consD (lenM 4) (M.ret [])))))))
def c__law_odd_corner : Fn := runFn 5 2 sem__law_odd_corner
abbrev st__law_bent : Stmt := topS 21
abbrev nm__law_bent : List Str := ["pot", "ring", "at", "other", "mate", "corner", "way", "some", "between", "x", "y"]
abbrev ps__law_bent : List Str := ["pot", "ring"]
theorem sc__law_bent : FnScope nm__law_bent ps__law_bent (defScope st__law_bent) := ⟨rfl, rfl, rfl, by decide +kernel, rfl, by decide +kernel, by decide +kernel⟩
def sem__law_bent : Stm :=
  seqS (parS 2 3 (consA (fz (callF c__law_take (consMu 0 (consD (fz (calM (consA (rdM 1) (M.ret [])) lenD)) (M.ret []))))) (consA (fz (callF c__law_take (consMu 0 (consD (fz (calM (consA (rdM 1) (M.ret [])) lenD)) (M.ret []))))) (M.ret [])))) <|
  seqS (asgS 4 (bin (rdM 1) (fz (bin (fz (bin (rdM 2) (M.ret (.int 1)) addD)) (fz (calM (consA (rdM 1) (M.ret [])) lenD)) modD)) ixD)) <|
  seqS (asgS 5 (bin (rdM 1) (rdM 2) ixD)) <|
  seqS (asgS 6 (callF c__law_take (consMu 0 (consD (M.ret (.int 10)) (M.ret []))))) <|
  seqS (ifS (cmpB (rdM 6) (M.ret (.int 0)) eqD)
    (retS (un (rdM 1) revD))
    (nilS)) <|
  seqS (ifS (cmpB (rdM 6) (M.ret (.int 1)) eqD)
    (retS (bin (fz (slice (rdM 1) (noPart) (part (rdM 2)))) (fz (slice (rdM 1) (part (fz (bin (rdM 2) (M.ret (.int 1)) addD))) (noPart))) addD))
    (nilS)) <|
  seqS (ifS (cmpB (rdM 6) (M.ret (.int 2)) eqD)
    (retS (bin (fz (slice (rdM 1) (noPart) (part (fz (bin (rdM 2) (M.ret (.int 1)) addD))))) (fz (slice (rdM 1) (part (rdM 2)) (noPart))) addD))
    (nilS)) <|
  seqS (ifS (cmpB (rdM 6) (M.ret (.int 3)) eqD)
    (seqS (asgS 7 (calM (consA (rdM 1) (M.ret [])) listD)) <|
    seqS (tasS (tupM (consA (fz (bin (rdM 1) (rdM 3) ixD)) (consA (rdM 5) (M.ret [])))) (tupT 2 (consT (subT 7 (rdM 2)) (consT (subT 7 (rdM 3)) (nilT))))) <|
    retS (calM (consA (rdM 7) (M.ret [])) tupleD))
    (nilS)) <|
  seqS (ifS (cmpB (rdM 6) (M.ret (.int 4)) eqD)
    (seqS (asgS 8 (toV (tupM (consA (fz (bin (fz (bin (fz (bin (rdM 5) (M.ret (.int 0)) ixD)) (fz (bin (rdM 4) (M.ret (.int 0)) ixD)) addD)) (M.ret (.int 2)) fdivD)) (consA (fz (bin (fz (bin (fz (bin (rdM 5) (M.ret (.int 1)) ixD)) (fz (bin (rdM 4) (M.ret (.int 1)) ixD)) addD)) (M.ret (.int 2)) fdivD)) (M.ret [])))))) <|
    retS (bin (fz (bin (fz (slice (rdM 1) (noPart) (part (fz (bin (rdM 2) (M.ret (.int 1)) addD))))) (tupM (consA (rdM 8) (M.ret []))) addD)) (fz (slice (rdM 1) (part (fz (bin (rdM 2) (M.ret (.int 1)) addD))) (noPart))) addD))
    (nilS)) <|
  seqS (ifS (cmpB (rdM 6) (M.ret (.int 5)) eqD)
    (seqS (parS 9 10 (consA (fz (bin (fz (bin (fz (bin (rdM 5) (M.ret (.int 0)) ixD)) (fz (callF c__law_take (consMu 0 (consD (M.ret (.int 3)) (M.ret []))))) addD)) (M.ret (.int 1)) subD)) (consA (fz (bin (fz (bin (fz (bin (rdM 5) (M.ret (.int 1)) ixD)) (fz (callF c__law_take (consMu 0 (consD (M.ret (.int 3)) (M.ret []))))) addD)) (M.ret (.int 1)) subD)) (M.ret [])))) <|
    retS (bin (fz (bin (fz (slice (rdM 1) (noPart) (part (rdM 2)))) (tupM (consA (tupM (consA (rdM 9) (consA (rdM 10) (M.ret [])))) (M.ret []))) addD)) (fz (slice (rdM 1) (part (fz (bin (rdM 2) (M.ret (.int 1)) addD))) (noPart))) addD))
    (nilS)) <|
  seqS (ifS (cmpB (rdM 6) (M.ret (.int 6)) eqD)
    (retS (bin (fz (bin (fz (slice (rdM 1) (noPart) (part (rdM 2)))) (tupM (consA (fz (callF c__law_odd_corner (consMu 0 (consD (rdM 5) (M.ret []))))) (M.ret []))) addD)) (fz (slice (rdM 1) (part (fz (bin (rdM 2) (M.ret (.int 1)) addD))) (noPart))) addD))
    (nilS)) <|
  seqS (ifS (cmpB (rdM 6) (M.ret (.int 7)) eqD)
    (retS (bin (fz (lstM (consA (fz (calM (consA (rdM 1) (M.ret [])) listD)) (consA (fz (bin (rdM 1) (rdM 1) addD)) (consA (tupM (consA (rdM 1) (M.ret []))) (consA (fz (bin (fz (bin (rdM 1) (rdM 1) addD)) (rdM 1) addD)) (M.ret []))))))) (fz (callF c__law_take (consMu 0 (consD (M.ret (.int 4)) (M.ret []))))) ixD))
    (nilS)) <|
  seqS (ifS (cmpB (rdM 6) (M.ret (.int 8)) eqD)
    (retS (bin (fz (bin (fz (slice (rdM 1) (part (rdM 2)) (noPart))) (fz (slice (rdM 1) (noPart) (part (rdM 2)))) addD)) (tupM (consA (tupM (consA (fz (bin (fz (bin (rdM 5) (M.ret (.int 0)) ixD)) (fz (bin (rdM 4) (M.ret (.int 0)) ixD)) addD)) (consA (fz (bin (fz (bin (rdM 5) (M.ret (.int 1)) ixD)) (fz (bin (rdM 4) (M.ret (.int 1)) ixD)) subD)) (M.ret [])))) (M.ret []))) addD))
    (nilS)) <|
  retS (bin (fz (slice (rdM 1) (part (rdM 3)) (noPart))) (fz (slice (rdM 1) (noPart) (part (rdM 3)))) addD)
def c__law_bent : Fn := runFn 11 2 sem__law_bent
abbrev st__law_right : Stmt := topS 22
abbrev nm__law_right : List Str := ["thing", "kept", "found"]
abbrev ps__law_right : List Str := ["thing"]
theorem sc__law_right : FnScope nm__law_right ps__law_right (defScope st__law_right) := ⟨rfl, rfl, rfl, by decide +kernel, rfl, by decide +kernel, by decide +kernel⟩
def sem__law_right : Stm :=
  seqS (asgS 1 (calM (consA (rdM 0) (M.ret [])) reprD)) <|
  seqS (asgS 2 (callF c_is_ring (consD (rdM 0) (M.ret [])))) <|
  retS (toV (andV (isiM .bool (rdM 2)) (andV (fz (bin (rdM 2) (fz (callF c__law_due (consD (rdM 0) (M.ret [])))) eqD)) (fz (bin (fz (calM (consA (rdM 0) (M.ret [])) reprD)) (rdM 1) eqD)))))
def c__law_right : Fn := runFn 3 1 sem__law_right
abbrev st_law : Stmt := topS 23
abbrev nm_law : List Str := ["script", "k", "pot", "ring", "turn", "one", "five", "star", "far", "eight", "some", "flat", "thing"]
abbrev ps_law : List Str := ["script"]
theorem sc_law : FnScope nm_law ps_law (defScope st_law) := ⟨rfl, rfl, rfl, by decide +kernel, rfl, by decide +kernel, by decide +kernel⟩
def b_law_1 : Stm :=
  seqS (asgS 5 (callF c__law_bent (consMu 2 (consD (rdM 3) (M.ret []))))) <|
      seqS (ifS (notB (tru (fz (callF c__law_right (consD (rdM 5) (M.ret []))))))
        (retS (toV (M.ret (.bool false))))
        (nilS)) <|
      ifS (andB (tru (fz (callF c__law_due (consD (rdM 5) (M.ret []))))) (notB (tru (fz (callF c__law_right (consD (fz (callF c__law_bent (consMu 2 (consD (rdM 5) (M.ret []))))) (M.ret [])))))))
        (retS (toV (M.ret (.bool false))))
        (nilS)
def b_law_2 : Stm :=
  seqS (asgS 2 (callF c__law_pot (consD (rdM 0) (consD (rdM 1) (M.ret []))))) <|
    seqS (asgS 3 (callF c__law_ring (consMu 2 (consD (fz (bin (fz (lstM (consA (M.ret (.int 4)) (consA (M.ret (.int 4)) (consA (M.ret (.int 20)) (consA (M.ret (.int 1000)) (M.ret []))))))) (fz (callF c__law_take (consMu 2 (consD (M.ret (.int 4)) (M.ret []))))) ixD)) (M.ret []))))) <|
    seqS (ifS (orB (cmpB (fz (callF c_is_ring (consD (rdM 3) (M.ret [])))) (M.ret (.bool true)) nisT) (notB (tru (fz (callF c__law_right (consD (rdM 3) (M.ret [])))))))
      (retS (toV (M.ret (.bool false))))
      (nilS)) <|
    forS (rng1 (consA (M.ret (.int 8)) (M.ret []))) (nameT 4)
      (b_law_1)
def sem_law : Stm :=
  seqS (forS (rng1 (consA (fz (calM (consA (M.ret (.int 1)) (consA (fz (calM (consA (fz (calM (consA (rdM 0) (M.ret [])) lenD)) (consA (M.ret (.int 40)) (M.ret []))) minD)) (M.ret []))) maxD)) (M.ret []))) (nameT 1)
    (b_law_2)) <|
  seqS (asgS 6 (toV (tupM (consA (tupM (consA (M.ret (.int 0)) (consA (M.ret (.int 0)) (M.ret [])))) (consA (tupM (consA (M.ret (.int 4)) (consA (M.ret (.int 0)) (M.ret [])))) (consA (tupM (consA (M.ret (.int 5)) (consA (M.ret (.int 3)) (M.ret [])))) (consA (tupM (consA (M.ret (.int 2)) (consA (M.ret (.int 5)) (M.ret [])))) (consA (tupM (consA (fz (un (M.ret (.int 1)) negD)) (consA (M.ret (.int 3)) (M.ret [])))) (M.ret []))))))))) <|
  seqS (asgS 7 (toV (tupM (consA (fz (bin (rdM 6) (M.ret (.int 0)) ixD)) (consA (fz (bin (rdM 6) (M.ret (.int 2)) ixD)) (consA (fz (bin (rdM 6) (M.ret (.int 4)) ixD)) (consA (fz (bin (rdM 6) (M.ret (.int 1)) ixD)) (consA (fz (bin (rdM 6) (M.ret (.int 3)) ixD)) (M.ret []))))))))) <|
  seqS (asgS 8 (bin (M.ret (.int 10)) (M.ret (.int 9)) powD)) <|
  seqS (asgS 9 (toV (tupM (consA (tupM (consA (fz (bin (rdM 8) (M.ret (.int 1)) subD)) (consA (fz (un (rdM 8) negD)) (M.ret [])))) (consA (tupM (consA (rdM 8) (consA (fz (bin (M.ret (.int 1)) (rdM 8) subD)) (M.ret [])))) (consA (tupM (consA (rdM 8) (consA (fz (bin (rdM 8) (M.ret (.int 1)) subD)) (M.ret [])))) (consA (tupM (consA (fz (bin (rdM 8) (M.ret (.int 1)) subD)) (consA (rdM 8) (M.ret [])))) (consA (tupM (consA (fz (bin (M.ret (.int 1)) (rdM 8) subD)) (consA (rdM 8) (M.ret [])))) (consA (tupM (consA (fz (un (rdM 8) negD)) (consA (fz (bin (rdM 8) (M.ret (.int 1)) subD)) (M.ret [])))) (M.ret [])))))))))) <|
  seqS (asgS 9 (bin (rdM 9) (tupM (consA (tupM (consA (fz (un (rdM 8) negD)) (consA (fz (bin (M.ret (.int 1)) (rdM 8) subD)) (M.ret [])))) (consA (tupM (consA (fz (bin (M.ret (.int 1)) (rdM 8) subD)) (consA (fz (un (rdM 8) negD)) (M.ret [])))) (M.ret [])))) addD)) <|
  seqS (asgS 10 (lstM (consA (rdM 6) (consA (rdM 7) (consA (rdM 9) (consA (fz (bin (rdM 9) (tupM (consA (tupM (consA (M.ret (.int 0)) (consA (fz (bin (fz (un (rdM 8) negD)) (M.ret (.int 1)) subD)) (M.ret [])))) (M.ret []))) addD)) (consA (fz (bin (fz (slice (rdM 9) (part (M.ret (.int 1))) (noPart))) (tupM (consA (tupM (consA (M.ret (.int 0)) (consA (fz (un (rdM 8) negD)) (M.ret [])))) (M.ret []))) addD)) (M.ret [])))))))) <|
  seqS (asgS 10 (bin (rdM 10) (fz (lstM (consA (tupM (consA (tupM (consA (M.ret (.int 0)) (consA (M.ret (.int 0)) (M.ret [])))) (consA (tupM (consA (M.ret (.int 2)) (consA (M.ret (.int 0)) (M.ret [])))) (consA (tupM (consA (M.ret (.int 2)) (consA (M.ret (.int 1)) (M.ret [])))) (consA (tupM (consA (M.ret (.int 2)) (consA (M.ret (.int 2)) (M.ret [])))) (consA (tupM (consA (M.ret (.int 0)) (consA (M.ret (.int 2)) (M.ret [])))) (M.ret []))))))) (consA (tupM (consA (tupM (consA (M.ret (.int 0)) (consA (M.ret (.int 0)) (M.ret [])))) (consA (tupM (consA (M.ret (.int 0)) (consA (M.ret (.int 2)) (M.ret [])))) (consA (tupM (consA (M.ret (.int 2)) (consA (M.ret (.int 0)) (M.ret [])))) (M.ret []))))) (consA (tupM (consA (tupM (consA (M.ret (.int 3)) (consA (M.ret (.int 3)) (M.ret [])))) (M.ret []))) (M.ret [])))))) addD)) <|
  seqS (asgS 10 (bin (rdM 10) (fz (lstM (consA (tupM (consA (tupM (consA (M.ret (.int 3)) (consA (M.ret (.int 3)) (M.ret [])))) (consA (tupM (consA (M.ret (.int 3)) (consA (M.ret (.int 3)) (M.ret [])))) (M.ret [])))) (consA (tupM (consA (tupM (consA (rdM 8) (consA (rdM 8) (M.ret [])))) (consA (tupM (consA (fz (un (rdM 8) negD)) (consA (fz (un (rdM 8) negD)) (M.ret [])))) (M.ret [])))) (consA (tupM (M.ret [])) (consA (M.ret .none) (consA (M.ret (.int 5)) (consA (M.ret (.str "ring")) (M.ret []))))))))) addD)) <|
  seqS (asgS 11 (lstM (consA (tupM (consA (tupM (consA (fz (un (rdM 8) negD)) (consA (fz (un (rdM 8) negD)) (M.ret [])))) (consA (tupM (consA (rdM 8) (consA (rdM 8) (M.ret [])))) (consA (tupM (consA (M.ret (.int 0)) (consA (M.ret (.int 1)) (M.ret [])))) (M.ret []))))) (consA (tupM (consA (tupM (consA (fz (un (rdM 8) negD)) (consA (fz (un (rdM 8) negD)) (M.ret [])))) (consA (tupM (consA (rdM 8) (consA (fz (bin (rdM 8) (M.ret (.int 1)) subD)) (M.ret [])))) (consA (tupM (consA (M.ret (.int 0)) (consA (M.ret (.int 0)) (M.ret [])))) (M.ret []))))) (M.ret []))))) <|
  seqS (asgS 11 (bin (rdM 11) (fz (lstM (consA (tupM (consA (tupM (consA (fz (un (rdM 8) negD)) (consA (fz (un (rdM 8) negD)) (M.ret [])))) (consA (tupM (consA (rdM 8) (consA (rdM 8) (M.ret [])))) (consA (tupM (consA (M.ret (.int 0)) (consA (M.ret (.int 0)) (M.ret [])))) (M.ret []))))) (consA (tupM (consA (tupM (consA (fz (un (rdM 8) negD)) (consA (fz (un (rdM 8) negD)) (M.ret [])))) (consA (tupM (consA (rdM 8) (consA (fz (bin (rdM 8) (M.ret (.int 1)) subD)) (M.ret [])))) (consA (tupM (consA (M.ret (.int 0)) (consA (fz (un (M.ret (.int 1)) negD)) (M.ret [])))) (M.ret []))))) (M.ret []))))) addD)) <|
  seqS (ifS (cmpB (fz (compM (seqI (fz (bin (rdM 10) (rdM 11) addD))) (nameT 12) [12] (notB (tru (fz (callF c__law_right (consD (rdM 12) (M.ret [])))))) (rdM 12))) (fz (lstM (M.ret []))) neD)
    (retS (toV (M.ret (.bool false))))
    (nilS)) <|
  seqS (ifS (cmpB (fz (compM (seqI (rdM 11)) (nameT 12) [12] (M.ret true) (fz (callF c_is_ring (consD (rdM 12) (M.ret [])))))) (fz (lstM (consA (M.ret (.bool true)) (consA (M.ret (.bool true)) (consA (M.ret (.bool false)) (consA (M.ret (.bool false)) (M.ret []))))))) neD)
    (retS (toV (M.ret (.bool false))))
    (nilS)) <|
  retS (bin (fz (compM (seqI (fz (slice (rdM 10) (noPart) (part (M.ret (.int 8)))))) (nameT 12) [12] (M.ret true) (fz (callF c_is_ring (consD (rdM 12) (M.ret [])))))) (fz (lstM (consA (M.ret (.bool true)) (consA (M.ret (.bool false)) (consA (M.ret (.bool true)) (consA (M.ret (.bool false)) (consA (M.ret (.bool true)) (consA (M.ret (.bool false)) (consA (M.ret (.bool false)) (consA (M.ret (.bool true)) (M.ret []))))))))))) eqD)
def c_law : Fn := runFn 13 1 sem_law
/-! ### facts -/
def fa : List He.Fa := [.free "isinstance", .free "int", .free "bool", .free "tuple", .free "len", .int "FAR" 1000000000, .free "all", .free "list", .free "zip", .free "enumerate", .int "MOST_CORNERS" 8, .free "abs", .free "sorted", .free "set", .free "range", .free "str", .free "repr", .free "min", .free "max", .glo "is_whole", .glo "is_within", .glo "is_corner", .glo "left_of", .glo "sides_of", .glo "is_convex", .glo "is_ring", .glo "_law_pot", .glo "_law_take", .glo "_law_cross", .glo "_law_half_hull", .glo "_law_hull", .glo "_law_ring", .glo "_law_is_corner", .glo "_law_due", .glo "_law_odd_corner", .glo "_law_bent", .glo "_law_right", .glo "law"]
def dd_is_whole : He.DefD := ⟨("is_whole", none), "is_whole", "is_whole", defArgs st_is_whole, defBody st_is_whole, defScope st_is_whole, [], []⟩
def dd_is_within : He.DefD := ⟨("is_within", none), "is_within", "is_within", defArgs st_is_within, defBody st_is_within, defScope st_is_within, [], []⟩
def dd_is_corner : He.DefD := ⟨("is_corner", none), "is_corner", "is_corner", defArgs st_is_corner, defBody st_is_corner, defScope st_is_corner, [], []⟩
def dd_left_of : He.DefD := ⟨("left_of", none), "left_of", "left_of", defArgs st_left_of, defBody st_left_of, defScope st_left_of, [], []⟩
def dd_sides_of : He.DefD := ⟨("sides_of", none), "sides_of", "sides_of", defArgs st_sides_of, defBody st_sides_of, defScope st_sides_of, [], []⟩
def dd_is_convex : He.DefD := ⟨("is_convex", none), "is_convex", "is_convex", defArgs st_is_convex, defBody st_is_convex, defScope st_is_convex, [], []⟩
def dd_is_ring : He.DefD := ⟨("is_ring", none), "is_ring", "is_ring", defArgs st_is_ring, defBody st_is_ring, defScope st_is_ring, [], []⟩
def dd__law_pot : He.DefD := ⟨("_law_pot", none), "_law_pot", "_law_pot", defArgs st__law_pot, defBody st__law_pot, defScope st__law_pot, [], []⟩
def dd__law_take : He.DefD := ⟨("_law_take", none), "_law_take", "_law_take", defArgs st__law_take, defBody st__law_take, defScope st__law_take, [], []⟩
def dd__law_cross : He.DefD := ⟨("_law_cross", none), "_law_cross", "_law_cross", defArgs st__law_cross, defBody st__law_cross, defScope st__law_cross, [], []⟩
def dd__law_half_hull : He.DefD := ⟨("_law_half_hull", none), "_law_half_hull", "_law_half_hull", defArgs st__law_half_hull, defBody st__law_half_hull, defScope st__law_half_hull, [], []⟩
def dd__law_hull : He.DefD := ⟨("_law_hull", none), "_law_hull", "_law_hull", defArgs st__law_hull, defBody st__law_hull, defScope st__law_hull, [], []⟩
def dd__law_ring : He.DefD := ⟨("_law_ring", none), "_law_ring", "_law_ring", defArgs st__law_ring, defBody st__law_ring, defScope st__law_ring, [], []⟩
def dd__law_is_corner : He.DefD := ⟨("_law_is_corner", none), "_law_is_corner", "_law_is_corner", defArgs st__law_is_corner, defBody st__law_is_corner, defScope st__law_is_corner, [], []⟩
def dd__law_due : He.DefD := ⟨("_law_due", none), "_law_due", "_law_due", defArgs st__law_due, defBody st__law_due, defScope st__law_due, [], []⟩
def dd__law_odd_corner : He.DefD := ⟨("_law_odd_corner", none), "_law_odd_corner", "_law_odd_corner", defArgs st__law_odd_corner, defBody st__law_odd_corner, defScope st__law_odd_corner, [], []⟩
def dd__law_bent : He.DefD := ⟨("_law_bent", none), "_law_bent", "_law_bent", defArgs st__law_bent, defBody st__law_bent, defScope st__law_bent, [], []⟩
def dd__law_right : He.DefD := ⟨("_law_right", none), "_law_right", "_law_right", defArgs st__law_right, defBody st__law_right, defScope st__law_right, [], []⟩
def dd_law : He.DefD := ⟨("law", none), "law", "law", defArgs st_law, defBody st_law, defScope st_law, [], []⟩
def fn : List He.DefD := [dd_is_whole, dd_is_within, dd_is_corner, dd_left_of, dd_sides_of, dd_is_convex, dd_is_ring, dd__law_pot, dd__law_take, dd__law_cross, dd__law_half_hull, dd__law_hull, dd__law_ring, dd__law_is_corner, dd__law_due, dd__law_odd_corner, dd__law_bent, dd__law_right, dd_law]
def exl (K : PySem.W.Frag) : List Bool := []
abbrev ex : PySem.W.Frag → Bool := fun K => (exl K).all id
def clsL : List Str := []
def cls (K : PySem.W.Frag) (i : Nat) : Addr := He.ga K (clsL.getD i "")
abbrev Fc (Mo : Wo) : Prop := Fx fa fn ex cls Mo
/-! ### the walk -/
theorem d_is_whole {Mo : Wo} {k : Nat} (F : Fc Mo)  {X : Cx} {G : Gd} {W : WX} (A : At X G W nm_is_whole (defScope st_is_whole) false k Mo) : SSs X G W (defBody st_is_whole) sem_is_whole :=
  (ss_one (ss_ret (SD.toV (sd_and A.hK (sd_isi A .int rfl (by rfl) (by rfl) (F.free 0) (F.free 1) bt_int (sd_name A.toAt0 0)) (sd_one (sd_not A.hK (sd_isi A .bool rfl (by rfl) (by rfl) (F.free 0) (F.free 2) bt_bool (sd_name A.toAt0 0))))))))
theorem g_is_whole {Mo : Wo} (F : Fc Mo) : HasN Mo "is_whole" ps_is_whole c_is_whole 1 :=
  F.def0 (k := 0) 0 19 rfl rfl sc_is_whole (fun _ _ _ _ _ _ us hl => match us, hl with | [_], _ => rfl) fun X G W A => d_is_whole F  A
theorem d_is_within {Mo : Wo} {k : Nat} (F : Fc Mo) (H_is_whole : HasN Mo "is_whole" ps_is_whole c_is_whole k) {X : Cx} {G : Gd} {W : WX} (A : At X G W nm_is_within (defScope st_is_within) false k Mo) : SSs X G W (defBody st_is_within) sem_is_within :=
  (ss_one (ss_ret (SD.toV (sd_and A.hK (SV.fz (sv_cN A H_is_whole (by rfl) (sav_d (sd_name A.toAt0 0) sav_nil))) (sd_one (sd_chain A.hK op_le le_S op_le le_S (sd_name A.toAt0 1) (sd_name A.toAt0 0) (sd_name A.toAt0 2)))))))
theorem g_is_within {Mo : Wo} (F : Fc Mo) : HasN Mo "is_within" ps_is_within c_is_within 2 :=
  F.def0 (k := 1) 1 20 rfl rfl sc_is_within (fun _ _ _ _ _ _ us hl => match us, hl with | [_, _, _], _ => rfl) fun X G W A => d_is_within F ((g_is_whole F).mono (by omega)) A
theorem d_is_corner {Mo : Wo} {k : Nat} (F : Fc Mo) (H_is_within : HasN Mo "is_within" ps_is_within c_is_within k) {X : Cx} {G : Gd} {W : WX} (A : At X G W nm_is_corner (defScope st_is_corner) false k Mo) : SSs X G W (defBody st_is_corner) sem_is_corner :=
  (ss_one (ss_ret (SD.toV (sd_and A.hK (sd_isi A .tuple rfl (by rfl) (by rfl) (F.free 0) (F.free 3) bt_tuple (sd_name A.toAt0 0)) (sd_and A.hK (SV.fz (sv_cmp A.hK (op_eqA A.u64) eq_S (nomark _) (SV.fz (sv_callB A call_lenA len_S (by rfl) (F.free 4) bt_len (sa_cons (sd_name A.toAt0 0) sa_nil))) sd_int)) (sd_one (SV.fz (sv_callB A (cr_all A.calm) all_S (by rfl) (F.free 6) bt_all (sa_cons (SV.fz (sv_comp0 A (si_seq A.hK (sd_name A.toAt0 0)) (blkOk_by (own := [("part", 1)]) (by decide +kernel)) (fun X' G' A' => (st_name A'.toAt0 1)) (fun X' G' A' => (SV.fz (sv_cN A' H_is_within (by rfl) (sav_d (sd_name A'.toAt0 1) (sav_d (SV.fz (sv_un A'.hK un_neg neg_S (sd_gint A'.toAt0 (by rfl) (F.int 5)))) (sav_d (sd_gint A'.toAt0 (by rfl) (F.int 5)) sav_nil)))))))) sa_nil)))))))))
theorem g_is_corner {Mo : Wo} (F : Fc Mo) : HasN Mo "is_corner" ps_is_corner c_is_corner 3 :=
  F.def0 (k := 2) 2 21 rfl rfl sc_is_corner (fun _ _ _ _ _ _ us hl => match us, hl with | [_], _ => rfl) fun X G W A => d_is_corner F ((g_is_within F).mono (by omega)) A
theorem d_left_of {Mo : Wo} {k : Nat} (F : Fc Mo)  {X : Cx} {G : Gd} {W : WX} (A : At X G W nm_left_of (defScope st_left_of) false k Mo) : SSs X G W (defBody st_left_of) sem_left_of :=
  (ss_cons (ss_tas (sd_tup (sa_cons (sd_name A.toAt0 0) (sa_cons (sd_name A.toAt0 1) (sa_cons (sd_name A.toAt0 2) sa_nil)))) (st_tup A (sts_cons (st_tup A (sts_cons (st_name A.toAt0 3) (sts_cons (st_name A.toAt0 4) sts_nil))) (sts_cons (st_tup A (sts_cons (st_name A.toAt0 5) (sts_cons (st_name A.toAt0 6) sts_nil))) (sts_cons (st_tup A (sts_cons (st_name A.toAt0 7) (sts_cons (st_name A.toAt0 8) sts_nil))) sts_nil)))) (hw := swNone (by intro env h; obtain ⟨⟩ := env; cases h; rfl) A.hsc)) 
  (ss_one (ss_ret (sv_bin A.hK op_sub sub_S (SV.fz (sv_bin A.hK op_mulA mulA_S (SV.fz (sv_bin A.hK op_sub sub_S (sd_name A.toAt0 5) (sd_name A.toAt0 3))) (SV.fz (sv_bin A.hK op_sub sub_S (sd_name A.toAt0 8) (sd_name A.toAt0 4))))) (SV.fz (sv_bin A.hK op_mulA mulA_S (SV.fz (sv_bin A.hK op_sub sub_S (sd_name A.toAt0 6) (sd_name A.toAt0 4))) (SV.fz (sv_bin A.hK op_sub sub_S (sd_name A.toAt0 7) (sd_name A.toAt0 3)))))))))
theorem g_left_of {Mo : Wo} (F : Fc Mo) : HasN Mo "left_of" ps_left_of c_left_of 1 :=
  F.def0 (k := 0) 3 22 rfl rfl sc_left_of (fun _ _ _ _ _ _ us hl => match us, hl with | [_, _, _], _ => rfl) fun X G W A => d_left_of F  A
theorem d_sides_of {Mo : Wo} {k : Nat} (F : Fc Mo)  {X : Cx} {G : Gd} {W : WX} (A : At X G W nm_sides_of (defScope st_sides_of) false k Mo) : SSs X G W (defBody st_sides_of) sem_sides_of :=
  (ss_cons (ss_star A 1 2 (sd_name A.toAt0 0)) 
  (ss_one (ss_ret (sv_listZip A (sa_cons (sd_name A.toAt0 0) (sa_cons (SV.fz (sv_bin A.hK op_addA add_S (sd_name A.toAt0 2) (SV.fz (sv_lst (sa_cons (sd_name A.toAt0 1) sa_nil))))) sa_nil)) (by rfl) (F.free 7) (by rfl) (F.free 8)))))
theorem g_sides_of {Mo : Wo} (F : Fc Mo) : HasN Mo "sides_of" ps_sides_of c_sides_of 1 :=
  F.def0 (k := 0) 4 23 rfl rfl sc_sides_of (fun _ _ _ _ _ _ us hl => match us, hl with | [_], _ => rfl) fun X G W A => d_sides_of F  A
theorem d_is_convex {Mo : Wo} {k : Nat} (F : Fc Mo) (H_left_of : HasN Mo "left_of" ps_left_of c_left_of k) (H_sides_of : HasN Mo "sides_of" ps_sides_of c_sides_of k) {X : Cx} {G : Gd} {W : WX} (A : At X G W nm_is_convex (defScope st_is_convex) false k Mo) : SSs X G W (defBody st_is_convex) sem_is_convex :=
  (ss_cons (ss_asg A.toAt0 1 (sv_callB A call_lenA len_S (by rfl) (F.free 4) bt_len (sa_cons (sd_name A.toAt0 0) sa_nil))) 
  (ss_cons (ss_for A (si_enum A (by rfl) (F.free 9) (SV.fz (sv_cN A H_sides_of (by rfl) (sav_d (sd_name A.toAt0 0) sav_nil)))) (st_tup A (sts_cons (st_name A.toAt0 2) (sts_cons (st_tup A (sts_cons (st_name A.toAt0 3) (sts_cons (st_name A.toAt0 4) sts_nil))) sts_nil)))
    (ss_cons (ss_comp1 A 5 (si_enum A (by rfl) (F.free 9) (sd_name A.toAt0 0)) (blkOk_by (own := [("place", 6), ("corner", 7)]) (by decide +kernel)) (fun X' G' A' => (st_tup A' (sts_cons (st_name A'.toAt0 6) (sts_cons (st_name A'.toAt0 7) sts_nil)))) (fun X' G' A' => (sb_cmp A'.hK (op_notInA A'.u65) notInA_S (by with_unfolding_all rfl) (sd_name A'.toAt0 6) (sd_tup (sa_cons (sd_name A'.toAt0 2) (sa_cons (SV.fz (sv_bin A'.hK op_modN mod_S (SV.fz (sv_bin A'.hK op_addA add_S (sd_name A'.toAt0 2) sd_int)) (sd_name A'.toAt0 1))) sa_nil))))) (fun X' G' A' => (sd_name A'.toAt0 7))) 
    (ss_one (ss_if (sb_not (sb_tru A.hK (SV.fz (sv_callB A (cr_all A.calm) all_S (by rfl) (F.free 6) bt_all (sa_cons (SV.fz (sv_comp0 A (si_seq A.hK (sd_name A.toAt0 5)) (blkOk_by (own := [("corner", 7)]) (by decide +kernel)) (fun X' G' A' => (st_name A'.toAt0 7)) (fun X' G' A' => (SV.fz (sv_cmp A'.hK op_gt gt_S (nomark _) (SV.fz (sv_cN A' H_left_of (by rfl) (sav_d (sd_name A'.toAt0 3) (sav_d (sd_name A'.toAt0 4) (sav_d (sd_name A'.toAt0 7) sav_nil))))) sd_int))))) sa_nil)))))
      (ss_one (ss_ret (SD.toV sd_bl)))
      ss_nil)))) 
  (ss_one (ss_ret (SD.toV sd_bl)))))
theorem g_is_convex {Mo : Wo} (F : Fc Mo) : HasN Mo "is_convex" ps_is_convex c_is_convex 2 :=
  F.def0 (k := 1) 5 24 rfl rfl sc_is_convex (fun _ _ _ _ _ _ us hl => match us, hl with | [_], _ => rfl) fun X G W A => d_is_convex F ((g_left_of F).mono (by omega)) ((g_sides_of F).mono (by omega)) A
theorem d_is_ring {Mo : Wo} {k : Nat} (F : Fc Mo) (H_is_corner : HasN Mo "is_corner" ps_is_corner c_is_corner k) (H_is_convex : HasN Mo "is_convex" ps_is_convex c_is_convex k) {X : Cx} {G : Gd} {W : WX} (A : At X G W nm_is_ring (defScope st_is_ring) false k Mo) : SSs X G W (defBody st_is_ring) sem_is_ring :=
  (ss_cons (ss_if (sw_b (sw_or (sb_not (sb_tru A.hK (sd_isi A .tuple rfl (by rfl) (by rfl) (F.free 0) (F.free 3) bt_tuple (sd_name A.toAt0 0)))) (sw_or1 (sb_not (sb_chain A.hK op_le le_S op_le le_S sd_int (SV.fz (sv_callB A call_lenA len_S (by rfl) (F.free 4) bt_len (sa_cons (sd_name A.toAt0 0) sa_nil))) (sd_gint A.toAt0 (by rfl) (F.int 10)))))))
    (ss_one (ss_ret (SD.toV sd_bl)))
    ss_nil) 
  (ss_cons (ss_if (sb_not (sb_tru A.hK (SV.fz (sv_callB A (cr_all A.calm) all_S (by rfl) (F.free 6) bt_all (sa_cons (SV.fz (sv_comp0 A (si_seq A.hK (sd_name A.toAt0 0)) (blkOk_by (own := [("corner", 1)]) (by decide +kernel)) (fun X' G' A' => (st_name A'.toAt0 1)) (fun X' G' A' => (SV.fz (sv_cN A' H_is_corner (by rfl) (sav_d (sd_name A'.toAt0 1) sav_nil)))))) sa_nil)))))
    (ss_one (ss_ret (SD.toV sd_bl)))
    ss_nil) 
  (ss_cons (ss_if (sb_cmp A.hK op_lt lt_S (nomark _) (SV.fz (sv_callB A call_lenA len_S (by rfl) (F.free 4) bt_len (sa_cons (sd_name A.toAt0 0) sa_nil))) sd_int)
    (ss_one (ss_ret (SD.toV (sd_or A.hK (SV.fz (sv_cmp A.hK (op_neA A.u64) ne_S (nomark _) (SV.fz (sv_ix A.hK ix_seq ix_S (fun _ _ => rfl) (sd_name A.toAt0 0) sd_int)) (SV.fz (sv_ix A.hK ix_seq ix_S (fun _ _ => rfl) (sd_name A.toAt0 0) (SV.fz (sv_un A.hK un_neg neg_S sd_int)))))) (sd_one (SV.fz (sv_cmp A.hK (op_eqA A.u64) eq_S (nomark _) (SV.fz (sv_callB A call_lenA len_S (by rfl) (F.free 4) bt_len (sa_cons (sd_name A.toAt0 0) sa_nil))) sd_int)))))))
    ss_nil) 
  (ss_one (ss_ret (sv_cN A H_is_convex (by rfl) (sav_d (sd_name A.toAt0 0) sav_nil)))))))
theorem g_is_ring {Mo : Wo} (F : Fc Mo) : HasN Mo "is_ring" ps_is_ring c_is_ring 4 :=
  F.def0 (k := 3) 6 25 rfl rfl sc_is_ring (fun _ _ _ _ _ _ us hl => match us, hl with | [_], _ => rfl) fun X G W A => d_is_ring F ((g_is_corner F).mono (by omega)) ((g_is_convex F).mono (by omega)) A
theorem d__law_pot {Mo : Wo} {k : Nat} (F : Fc Mo)  {X : Cx} {G : Gd} {W : WX} (A : At X G W nm__law_pot (defScope st__law_pot) false k Mo) : SSs X G W (defBody st__law_pot) sem__law_pot :=
  (ss_cons (ss_asg A.toAt0 2 (SD.toV sd_int)) 
  (ss_cons (ss_if (sb_cmp A.hK op_lt lt_S (nomark _) (sd_name A.toAt0 1) (SV.fz (sv_callB A call_lenA len_S (by rfl) (F.free 4) bt_len (sa_cons (sd_name A.toAt0 0) sa_nil))))
    (ss_one (ss_asg A.toAt0 2 (sv_bin A.hK op_modN mod_S (SV.fz (sv_callB A call_abs abs_S (by rfl) (F.free 11) bt_abs (sa_cons (SV.fz (sv_ix A.hK ix_seq ix_S (fun _ _ => rfl) (sd_name A.toAt0 0) (sd_name A.toAt0 1))) sa_nil))) (SV.fz (sv_bin A.hK op_powG pow_S (SV.fz (sv_bin A.hK op_powG pow_S sd_int sd_int)) sd_int)))))
    ss_nil) 
  (ss_one (ss_ret (sv_lst (sa_cons (SV.fz (sv_bin A.hK op_mulA mulA_S (sd_name A.toAt0 2) (SV.fz (sv_callTy A call_int1 int_S (by rfl) (F.free 1) bt_int (sa_cons (SV.fz (sv_cmp A.hK op_ge ge_S (nomark _) (sd_name A.toAt0 2) (SV.fz (sv_bin A.hK op_powG pow_S sd_int sd_int)))) sa_nil))))) (sa_cons (SV.fz (sv_bin A.hK op_modN mod_S (SV.fz (sv_bin A.hK op_powG pow_S (SV.fz (sv_bin A.hK op_addA add_S (SV.fz (sv_bin A.hK op_addA add_S (SV.fz (sv_bin A.hK op_modN mod_S (sd_name A.toAt0 2) sd_int)) (SV.fz (sv_bin A.hK op_mulA mulA_S sd_int (sd_name A.toAt0 1))))) sd_int)) sd_int)) sd_int)) (sa_cons sd_int sa_nil))))))))
theorem g__law_pot {Mo : Wo} (F : Fc Mo) : HasN Mo "_law_pot" ps__law_pot c__law_pot 1 :=
  F.def0 (k := 0) 7 26 rfl rfl sc__law_pot (fun _ _ _ _ _ _ us hl => match us, hl with | [_, _], _ => rfl) fun X G W A => d__law_pot F  A
theorem d__law_take {Mo : Wo} {k : Nat} (F : Fc Mo)  {X : Cx} {G : Gd} {W : WX} (A : At X G W nm__law_take (defScope st__law_take) false k Mo) : SSs X G W (defBody st__law_take) sem__law_take :=
  (ss_cons (ss_if (sb_cmp A.hK op_gt gt_S (nomark _) (sd_at A 0 sd_int (fun _ _ => rfl)) sd_int)
    (ss_cons (ss_asg A.toAt0 2 (sv_bin A.hK op_modN mod_S (sd_at A 0 sd_int (fun _ _ => rfl)) (sd_name A.toAt0 1))) 
    (ss_cons (ss_set A 0 (SV.fz (sv_bin A.hK op_fdivG fdiv_S (sd_at A 0 sd_int (fun _ _ => rfl)) (sd_name A.toAt0 1))) sd_int) 
    (ss_one (ss_ret (sv_move A.toAt0 2)))))
    ss_nil) 
  (ss_cons (ss_set A 0 (SV.fz (sv_bin A.hK op_addA add_S (sd_at A 0 sd_int (fun _ _ => rfl)) sd_int)) sd_int) 
  (ss_cons (ss_asg A.toAt0 3 (sv_bin A.hK op_modN mod_S (SV.fz (sv_bin A.hK op_powG pow_S (SV.fz (sv_bin A.hK op_addA add_S (sd_at A 0 sd_int (fun _ _ => rfl)) (SV.fz (sv_bin A.hK op_mulA mulA_S sd_int (sd_at A 0 sd_int (fun _ _ => rfl)))))) sd_int)) sd_int)) 
  (ss_cons (ss_asg A.toAt0 4 (sv_bin A.hK op_modN mod_S (SV.fz (sv_bin A.hK op_powG pow_S (SV.fz (sv_bin A.hK op_addA add_S (SV.fz (sv_bin A.hK op_addA add_S (sd_name A.toAt0 3) (SV.fz (sv_bin A.hK op_modN mod_S (sd_at A 0 sd_int (fun _ _ => rfl)) sd_int)))) (SV.fz (sv_bin A.hK op_mulA mulA_S sd_int (sd_at A 0 sd_int (fun _ _ => rfl)))))) sd_int)) sd_int)) 
  (ss_one (ss_ret (sv_bin A.hK op_modN mod_S (SV.fz (sv_bin A.hK op_fdivG fdiv_S (sd_name A.toAt0 4) sd_int)) (sd_name A.toAt0 1))))))))
theorem g__law_take {Mo : Wo} (F : Fc Mo) : HasN Mo "_law_take" ps__law_take c__law_take 1 :=
  F.def0 (k := 0) 8 27 rfl rfl sc__law_take (fun _ _ _ _ _ _ us hl => match us, hl with | [_, _], _ => rfl) fun X G W A => d__law_take F  A
theorem d__law_cross {Mo : Wo} {k : Nat} (F : Fc Mo)  {X : Cx} {G : Gd} {W : WX} (A : At X G W nm__law_cross (defScope st__law_cross) false k Mo) : SSs X G W (defBody st__law_cross) sem__law_cross :=
  (ss_one (ss_ret (sv_bin A.hK op_sub sub_S (SV.fz (sv_bin A.hK op_mulA mulA_S (SV.fz (sv_bin A.hK op_sub sub_S (SV.fz (sv_ix A.hK ix_seq ix_S (fun _ _ => rfl) (sd_name A.toAt0 1) sd_int)) (SV.fz (sv_ix A.hK ix_seq ix_S (fun _ _ => rfl) (sd_name A.toAt0 0) sd_int)))) (SV.fz (sv_bin A.hK op_sub sub_S (SV.fz (sv_ix A.hK ix_seq ix_S (fun _ _ => rfl) (sd_name A.toAt0 2) sd_int)) (SV.fz (sv_ix A.hK ix_seq ix_S (fun _ _ => rfl) (sd_name A.toAt0 0) sd_int)))))) (SV.fz (sv_bin A.hK op_mulA mulA_S (SV.fz (sv_bin A.hK op_sub sub_S (SV.fz (sv_ix A.hK ix_seq ix_S (fun _ _ => rfl) (sd_name A.toAt0 1) sd_int)) (SV.fz (sv_ix A.hK ix_seq ix_S (fun _ _ => rfl) (sd_name A.toAt0 0) sd_int)))) (SV.fz (sv_bin A.hK op_sub sub_S (SV.fz (sv_ix A.hK ix_seq ix_S (fun _ _ => rfl) (sd_name A.toAt0 2) sd_int)) (SV.fz (sv_ix A.hK ix_seq ix_S (fun _ _ => rfl) (sd_name A.toAt0 0) sd_int)))))))))
theorem g__law_cross {Mo : Wo} (F : Fc Mo) : HasN Mo "_law_cross" ps__law_cross c__law_cross 1 :=
  F.def0 (k := 0) 9 28 rfl rfl sc__law_cross (fun _ _ _ _ _ _ us hl => match us, hl with | [_, _, _], _ => rfl) fun X G W A => d__law_cross F  A
theorem d__law_half_hull {Mo : Wo} {k : Nat} (F : Fc Mo) (H__law_cross : HasN Mo "_law_cross" ps__law_cross c__law_cross k) {X : Cx} {G : Gd} {W : WX} (A : At X G W nm__law_half_hull (defScope st__law_half_hull) false k Mo) : SSs X G W (defBody st__law_half_hull) sem__law_half_hull :=
  (ss_cons (ss_asg A.toAt0 1 (sv_lst sa_nil)) 
  (ss_cons (ss_for A (si_seq A.hK (sd_name A.toAt0 0)) (st_name A.toAt0 2)
    (ss_cons (ss_while A (sw_b (sw_and (sb_cmp A.hK op_gt gt_S (nomark _) (sd_len A 1 (by rfl) (F.free 4)) sd_int) (sw_and1 (sb_cmp A.hK op_le le_S (nomark _) (SV.fz (sv_cN A H__law_cross (by rfl) (sav_d (sd_at A 1 (SV.fz (sv_un A.hK un_neg neg_S sd_int)) (fun _ _ => rfl)) (sav_d (sd_at A 1 (SV.fz (sv_un A.hK un_neg neg_S sd_int)) (fun _ _ => rfl)) (sav_d (sd_name A.toAt0 2) sav_nil))))) sd_int))))
      (ss_one (ss_drop (sv_pop A 1)))) 
    (ss_one (ss_drop (sv_append A 1 (sd_name A.toAt0 2)))))) 
  (ss_one (ss_ret (sv_move A.toAt0 1)))))
theorem g__law_half_hull {Mo : Wo} (F : Fc Mo) : HasN Mo "_law_half_hull" ps__law_half_hull c__law_half_hull 2 :=
  F.def0 (k := 1) 10 29 rfl rfl sc__law_half_hull (fun _ _ _ _ _ _ us hl => match us, hl with | [_], _ => rfl) fun X G W A => d__law_half_hull F ((g__law_cross F).mono (by omega)) A
theorem d__law_hull {Mo : Wo} {k : Nat} (F : Fc Mo) (H__law_half_hull : HasN Mo "_law_half_hull" ps__law_half_hull c__law_half_hull k) {X : Cx} {G : Gd} {W : WX} (A : At X G W nm__law_hull (defScope st__law_hull) false k Mo) : SSs X G W (defBody st__law_hull) sem__law_hull :=
  (ss_cons (ss_asg A.toAt0 1 (sv_sortSet A (sd_name A.toAt0 0) (by rfl) (F.free 12) (by rfl) (F.free 13))) 
  (ss_cons (ss_if (sb_cmp A.hK op_lt lt_S (nomark _) (SV.fz (sv_callB A call_lenA len_S (by rfl) (F.free 4) bt_len (sa_cons (sd_name A.toAt0 1) sa_nil))) sd_int)
    (ss_one (ss_ret (sv_move A.toAt0 1)))
    ss_nil) 
  (ss_one (ss_ret (sv_bin A.hK op_addA add_S (SV.fz (sv_slice A.hK (SV.fz (sv_cN A H__law_half_hull (by rfl) (sav_d (sd_name A.toAt0 1) sav_nil))) so_none (so_some (SV.fz (sv_un A.hK un_neg neg_S sd_int))))) (SV.fz (sv_slice A.hK (SV.fz (sv_cN A H__law_half_hull (by rfl) (sav_d (SV.fz (sv_rev A.hK (sd_name A.toAt0 1))) sav_nil))) so_none (so_some (SV.fz (sv_un A.hK un_neg neg_S sd_int))))))))))
theorem g__law_hull {Mo : Wo} (F : Fc Mo) : HasN Mo "_law_hull" ps__law_hull c__law_hull 3 :=
  F.def0 (k := 2) 11 30 rfl rfl sc__law_hull (fun _ _ _ _ _ _ us hl => match us, hl with | [_], _ => rfl) fun X G W A => d__law_hull F ((g__law_half_hull F).mono (by omega)) A
theorem d__law_ring {Mo : Wo} {k : Nat} (F : Fc Mo) (H__law_take : HasN Mo "_law_take" ps__law_take c__law_take k) (H__law_hull : HasN Mo "_law_hull" ps__law_hull c__law_hull k) {X : Cx} {G : Gd} {W : WX} (A : At X G W nm__law_ring (defScope st__law_ring) false k Mo) : SSs X G W (defBody st__law_ring) sem__law_ring :=
  (ss_cons (ss_if (sb_cmp A.hK (op_eqA A.u64) eq_S (nomark _) (SV.fz (sv_cN A H__law_take (by rfl) (sav_m A 0 (sav_d sd_int sav_nil)))) sd_int)
    (ss_one (ss_asg A.toAt0 1 (sv_bin A.hK op_powG pow_S sd_int sd_int)))
    ss_nil) 
  (ss_cons (ss_asg A.toAt0 2 (sv_ix A.hK ix_seq ix_S (fun _ _ => rfl) (SV.fz (sv_lst (sa_cons sd_int (sa_cons sd_int (sa_cons sd_int (sa_cons sd_int (sa_cons sd_int (sa_cons (SV.fz (sv_bin A.hK op_addA add_S sd_int (SV.fz (sv_cN A H__law_take (by rfl) (sav_m A 0 (sav_d sd_int sav_nil)))))) sa_nil)))))))) (SV.fz (sv_cN A H__law_take (by rfl) (sav_m A 0 (sav_d sd_int sav_nil)))))) 
  (ss_cons (ss_comp0 A 3 (si_range1 A (by rfl) (F.free 14) (sa_cons (sd_name A.toAt0 2) sa_nil)) (blkOk_by (own := [("k", 6)]) (by decide +kernel)) (fun X' G' A' => (st_name A'.toAt0 6)) (fun X' G' A' => (sd_tup (sa_cons (SV.fz (sv_bin A'.hK op_sub sub_S (SV.fz (sv_cN A' H__law_take (by rfl) (sav_m A' 0 (sav_d (SV.fz (sv_bin A'.hK op_addA add_S (SV.fz (sv_bin A'.hK op_mulA mulA_S sd_int (sd_name A'.toAt0 1))) sd_int)) sav_nil)))) (sd_name A'.toAt0 1))) (sa_cons (SV.fz (sv_bin A'.hK op_sub sub_S (SV.fz (sv_cN A' H__law_take (by rfl) (sav_m A' 0 (sav_d (SV.fz (sv_bin A'.hK op_addA add_S (SV.fz (sv_bin A'.hK op_mulA mulA_S sd_int (sd_name A'.toAt0 1))) sd_int)) sav_nil)))) (sd_name A'.toAt0 1))) sa_nil))))) 
  (ss_cons (ss_asg A.toAt0 4 (sv_cN A H__law_hull (by rfl) (sav_d (sd_name A.toAt0 3) sav_nil))) 
  (ss_cons (ss_asg A.toAt0 5 (sv_cN A H__law_take (by rfl) (sav_m A 0 (sav_d (SV.fz (sv_callB A call_lenA len_S (by rfl) (F.free 4) bt_len (sa_cons (sd_name A.toAt0 4) sa_nil))) sav_nil)))) 
  (ss_one (ss_ret (sv_callTy A call_tuple_of tuple_S (by rfl) (F.free 3) bt_tuple (sa_cons (SV.fz (sv_bin A.hK op_addA add_S (SV.fz (sv_slice A.hK (sd_name A.toAt0 4) (so_some (sd_name A.toAt0 5)) so_none)) (SV.fz (sv_slice A.hK (sd_name A.toAt0 4) so_none (so_some (sd_name A.toAt0 5)))))) sa_nil)))))))))
theorem g__law_ring {Mo : Wo} (F : Fc Mo) : HasN Mo "_law_ring" ps__law_ring c__law_ring 4 :=
  F.def0 (k := 3) 12 31 rfl rfl sc__law_ring (fun _ _ _ _ _ _ us hl => match us, hl with | [_, _], _ => rfl) fun X G W A => d__law_ring F ((g__law_take F).mono (by omega)) ((g__law_hull F).mono (by omega)) A
theorem d__law_is_corner {Mo : Wo} {k : Nat} (F : Fc Mo)  {X : Cx} {G : Gd} {W : WX} (A : At X G W nm__law_is_corner (defScope st__law_is_corner) false k Mo) : SSs X G W (defBody st__law_is_corner) sem__law_is_corner :=
  (ss_cons (ss_if (sw_b (sw_or (sb_not (sb_tru A.hK (sd_isi A .tuple rfl (by rfl) (by rfl) (F.free 0) (F.free 3) bt_tuple (sd_name A.toAt0 0)))) (sw_or1 (sb_cmp A.hK (op_neA A.u64) ne_S (nomark _) (SV.fz (sv_callB A call_lenA len_S (by rfl) (F.free 4) bt_len (sa_cons (sd_name A.toAt0 0) sa_nil))) sd_int))))
    (ss_one (ss_ret (SD.toV sd_bl)))
    ss_nil) 
  (ss_cons (ss_for A (si_seq A.hK (sd_name A.toAt0 0)) (st_name A.toAt0 1)
    (ss_one (ss_if (sw_b (sw_or (sb_not (sb_tru A.hK (sd_isi A .int rfl (by rfl) (by rfl) (F.free 0) (F.free 1) bt_int (sd_name A.toAt0 1)))) (sw_or (sb_tru A.hK (sd_isi A .bool rfl (by rfl) (by rfl) (F.free 0) (F.free 2) bt_bool (sd_name A.toAt0 1))) (sw_or1 (sb_cmp A.hK op_gt gt_S (nomark _) (SV.fz (sv_callB A call_abs abs_S (by rfl) (F.free 11) bt_abs (sa_cons (sd_name A.toAt0 1) sa_nil))) (SV.fz (sv_bin A.hK op_powG pow_S sd_int sd_int)))))))
      (ss_one (ss_ret (SD.toV sd_bl)))
      ss_nil))) 
  (ss_one (ss_ret (SD.toV sd_bl)))))
theorem g__law_is_corner {Mo : Wo} (F : Fc Mo) : HasN Mo "_law_is_corner" ps__law_is_corner c__law_is_corner 1 :=
  F.def0 (k := 0) 13 32 rfl rfl sc__law_is_corner (fun _ _ _ _ _ _ us hl => match us, hl with | [_], _ => rfl) fun X G W A => d__law_is_corner F  A
theorem d__law_due {Mo : Wo} {k : Nat} (F : Fc Mo) (H__law_cross : HasN Mo "_law_cross" ps__law_cross c__law_cross k) (H__law_is_corner : HasN Mo "_law_is_corner" ps__law_is_corner c__law_is_corner k) {X : Cx} {G : Gd} {W : WX} (A : At X G W nm__law_due (defScope st__law_due) false k Mo) : SSs X G W (defBody st__law_due) sem__law_due :=
  (ss_cons (ss_if (sw_b (sw_or (sb_not (sb_tru A.hK (sd_isi A .tuple rfl (by rfl) (by rfl) (F.free 0) (F.free 3) bt_tuple (sd_name A.toAt0 0)))) (sw_or (sb_cmp A.hK (op_eqF A.u64) eqF_S (nomark _) (sd_name A.toAt0 0) (sd_tup sa_nil)) (sw_or1 (sb_cmp A.hK op_gt gt_S (nomark _) (SV.fz (sv_callB A call_lenA len_S (by rfl) (F.free 4) bt_len (sa_cons (sd_name A.toAt0 0) sa_nil))) sd_int)))))
    (ss_one (ss_ret (SD.toV sd_bl)))
    ss_nil) 
  (ss_cons (ss_if (sb_cmp A.hK (op_neA A.u64) ne_S (nomark _) (SV.fz (sv_comp1 A (si_seq A.hK (sd_name A.toAt0 0)) (blkOk_by (own := [("corner", 3)]) (by decide +kernel)) (fun X' G' A' => (st_name A'.toAt0 3)) (fun X' G' A' => (sb_not (sb_tru A'.hK (SV.fz (sv_cN A' H__law_is_corner (by rfl) (sav_d (sd_name A'.toAt0 3) sav_nil)))))) (fun X' G' A' => sd_int))) (SV.fz (sv_lst sa_nil)))
    (ss_one (ss_ret (SD.toV sd_bl)))
    ss_nil) 
  (ss_cons (ss_if (sb_cmp A.hK (op_eqA A.u64) eq_S (nomark _) (SV.fz (sv_callB A call_lenA len_S (by rfl) (F.free 4) bt_len (sa_cons (sd_name A.toAt0 0) sa_nil))) sd_int)
    (ss_one (ss_ret (sv_cmp A.hK (op_neA A.u64) ne_S (nomark _) (SV.fz (sv_ix A.hK ix_seq ix_S (fun _ _ => rfl) (sd_name A.toAt0 0) sd_int)) (SV.fz (sv_ix A.hK ix_seq ix_S (fun _ _ => rfl) (sd_name A.toAt0 0) sd_int)))))
    ss_nil) 
  (ss_cons (ss_for A (si_range1 A (by rfl) (F.free 14) (sa_cons (SV.fz (sv_callB A call_lenA len_S (by rfl) (F.free 4) bt_len (sa_cons (sd_name A.toAt0 0) sa_nil))) sa_nil)) (st_name A.toAt0 1)
    (ss_one (ss_for A (si_range2 A (by rfl) (F.free 14) (sa_cons (SV.fz (sv_bin A.hK op_addA add_S (sd_name A.toAt0 1) sd_int)) (sa_cons (SV.fz (sv_callB A call_lenA len_S (by rfl) (F.free 4) bt_len (sa_cons (sd_name A.toAt0 0) sa_nil))) sa_nil))) (st_name A.toAt0 2)
      (ss_one (ss_if (sb_cmp A.hK (op_neA A.u64) ne_S (nomark _) (SV.fz (sv_comp1 A (si_range2 A (by rfl) (F.free 14) (sa_cons (SV.fz (sv_bin A.hK op_addA add_S (sd_name A.toAt0 2) sd_int)) (sa_cons (SV.fz (sv_callB A call_lenA len_S (by rfl) (F.free 4) bt_len (sa_cons (sd_name A.toAt0 0) sa_nil))) sa_nil))) (blkOk_by (own := [("k", 4)]) (by decide +kernel)) (fun X' G' A' => (st_name A'.toAt0 4)) (fun X' G' A' => (sb_cmp A'.hK op_le le_S (nomark _) (SV.fz (sv_cN A' H__law_cross (by rfl) (sav_d (SV.fz (sv_ix A'.hK ix_seq ix_S (fun _ _ => rfl) (sd_name A'.toAt0 0) (sd_name A'.toAt0 1))) (sav_d (SV.fz (sv_ix A'.hK ix_seq ix_S (fun _ _ => rfl) (sd_name A'.toAt0 0) (sd_name A'.toAt0 2))) (sav_d (SV.fz (sv_ix A'.hK ix_seq ix_S (fun _ _ => rfl) (sd_name A'.toAt0 0) (sd_name A'.toAt0 4))) sav_nil))))) sd_int)) (fun X' G' A' => sd_int))) (SV.fz (sv_lst sa_nil)))
        (ss_one (ss_ret (SD.toV sd_bl)))
        ss_nil))))) 
  (ss_one (ss_ret (SD.toV sd_bl)))))))
theorem g__law_due {Mo : Wo} (F : Fc Mo) : HasN Mo "_law_due" ps__law_due c__law_due 2 :=
  F.def0 (k := 1) 14 33 rfl rfl sc__law_due (fun _ _ _ _ _ _ us hl => match us, hl with | [_], _ => rfl) fun X G W A => d__law_due F ((g__law_cross F).mono (by omega)) ((g__law_is_corner F).mono (by omega)) A
theorem d__law_odd_corner {Mo : Wo} {k : Nat} (F : Fc Mo) (H__law_take : HasN Mo "_law_take" ps__law_take c__law_take k) {X : Cx} {G : Gd} {W : WX} (A : At X G W nm__law_odd_corner (defScope st__law_odd_corner) false k Mo) : SSs X G W (defBody st__law_odd_corner) sem__law_odd_corner :=
  (ss_cons (ss_tas (sd_name A.toAt0 1) (st_tup A (sts_cons (st_name A.toAt0 2) (sts_cons (st_name A.toAt0 3) sts_nil)))) 
  (ss_cons (ss_asg A.toAt0 4 (sv_lst (sa_cons (sd_tup (sa_cons (sd_name A.toAt0 2) (sa_cons (sd_name A.toAt0 3) (sa_cons sd_int sa_nil)))) (sa_cons (sd_tup (sa_cons (sd_name A.toAt0 2) sa_nil)) (sa_cons (SV.fz (sv_lst (sa_cons (sd_name A.toAt0 2) (sa_cons (sd_name A.toAt0 3) sa_nil)))) (sa_cons (sd_tup (sa_cons (sd_name A.toAt0 2) (sa_cons sd_non sa_nil))) (sa_cons (sd_tup (sa_cons (SV.fz (sv_callTy A call_strA str_S (by rfl) (F.free 15) bt_str (sa_cons (sd_name A.toAt0 2) sa_nil))) (sa_cons (sd_name A.toAt0 3) sa_nil))) (sa_cons (sd_tup (sa_cons (SV.fz (sv_cmp A.hK (op_eqA A.u64) eq_S (nomark _) (sd_name A.toAt0 2) sd_int)) (sa_cons (sd_name A.toAt0 3) sa_nil))) (sa_cons (sd_tup (sa_cons (sd_name A.toAt0 2) (sa_cons sd_bl sa_nil))) (sa_cons (sd_tup (sa_cons (SV.fz (sv_bin A.hK op_addA add_S (SV.fz (sv_bin A.hK op_powG pow_S sd_int sd_int)) sd_int)) (sa_cons (sd_name A.toAt0 3) sa_nil))) (sa_cons (sd_tup (sa_cons (sd_name A.toAt0 2) (sa_cons sd_dict0 sa_nil))) sa_nil))))))))))) 
  (ss_cons (ss_asg A.toAt0 4 (sv_bin A.hK op_addA add_S (sd_name A.toAt0 4) (SV.fz (sv_lst (sa_cons sd_non (sa_cons (sd_name A.toAt0 2) (sa_cons (sd_tup sa_nil) (sa_cons (sd_tup (sa_cons (sd_tup (sa_cons (sd_name A.toAt0 2) (sa_cons (sd_name A.toAt0 3) sa_nil))) sa_nil)) (sa_cons (sd_tup (sa_cons (SV.fz (sv_bin A.hK op_powG pow_S sd_int sd_int)) (sa_cons (sd_name A.toAt0 3) sa_nil))) (sa_cons (sd_tup (sa_cons (sd_name A.toAt0 2) (sa_cons (sd_tup (sa_cons (sd_name A.toAt0 3) (sa_cons sd_int sa_nil))) sa_nil))) (sa_cons sd_dict0 (sa_cons sd_str (sa_cons (sd_tup (sa_cons (sd_name A.toAt0 2) (sa_cons (SV.fz (sv_un A.hK un_neg neg_S (SV.fz (sv_bin A.hK op_powG pow_S sd_int sd_int)))) sa_nil))) sa_nil))))))))))))) 
  (ss_cons (ss_drop (sv_append A 4 (sd_tup (sa_cons (sd_name A.toAt0 2) (sa_cons (SV.fz (sv_bin A.hK op_sub sub_S (SV.fz (sv_un A.hK un_neg neg_S (SV.fz (sv_bin A.hK op_powG pow_S sd_int sd_int)))) sd_int)) sa_nil))))) 
  (ss_one (ss_ret (SD.toV (sd_at A 4 (SV.fz (sv_cN A H__law_take (by rfl) (sav_m A 0 (sav_d (sd_len A 4 (by rfl) (F.free 4)) sav_nil)))) (fun _ _ => rfl)))))))))
theorem g__law_odd_corner {Mo : Wo} (F : Fc Mo) : HasN Mo "_law_odd_corner" ps__law_odd_corner c__law_odd_corner 2 :=
  F.def0 (k := 1) 15 34 rfl rfl sc__law_odd_corner (fun _ _ _ _ _ _ us hl => match us, hl with | [_, _], _ => rfl) fun X G W A => d__law_odd_corner F ((g__law_take F).mono (by omega)) A
theorem d__law_bent {Mo : Wo} {k : Nat} (F : Fc Mo) (H__law_take : HasN Mo "_law_take" ps__law_take c__law_take k) (H__law_odd_corner : HasN Mo "_law_odd_corner" ps__law_odd_corner c__law_odd_corner k) {X : Cx} {G : Gd} {W : WX} (A : At X G W nm__law_bent (defScope st__law_bent) false k Mo) : SSs X G W (defBody st__law_bent) sem__law_bent :=
  (ss_cons (ss_par A 2 3 (sa_cons (SV.fz (sv_cN A H__law_take (by rfl) (sav_m A 0 (sav_d (SV.fz (sv_callB A call_lenA len_S (by rfl) (F.free 4) bt_len (sa_cons (sd_name A.toAt0 1) sa_nil))) sav_nil)))) (sa_cons (SV.fz (sv_cN A H__law_take (by rfl) (sav_m A 0 (sav_d (SV.fz (sv_callB A call_lenA len_S (by rfl) (F.free 4) bt_len (sa_cons (sd_name A.toAt0 1) sa_nil))) sav_nil)))) sa_nil))) 
  (ss_cons (ss_asg A.toAt0 4 (sv_ix A.hK ix_seq ix_S (fun _ _ => rfl) (sd_name A.toAt0 1) (SV.fz (sv_bin A.hK op_modN mod_S (SV.fz (sv_bin A.hK op_addA add_S (sd_name A.toAt0 2) sd_int)) (SV.fz (sv_callB A call_lenA len_S (by rfl) (F.free 4) bt_len (sa_cons (sd_name A.toAt0 1) sa_nil))))))) 
  (ss_cons (ss_asg A.toAt0 5 (sv_ix A.hK ix_seq ix_S (fun _ _ => rfl) (sd_name A.toAt0 1) (sd_name A.toAt0 2))) 
  (ss_cons (ss_asg A.toAt0 6 (sv_cN A H__law_take (by rfl) (sav_m A 0 (sav_d sd_int sav_nil)))) 
  (ss_cons (ss_if (sb_cmp A.hK (op_eqA A.u64) eq_S (nomark _) (sd_name A.toAt0 6) sd_int)
    (ss_one (ss_ret (sv_rev A.hK (sd_name A.toAt0 1))))
    ss_nil) 
  (ss_cons (ss_if (sb_cmp A.hK (op_eqA A.u64) eq_S (nomark _) (sd_name A.toAt0 6) sd_int)
    (ss_one (ss_ret (sv_bin A.hK op_addA add_S (SV.fz (sv_slice A.hK (sd_name A.toAt0 1) so_none (so_some (sd_name A.toAt0 2)))) (SV.fz (sv_slice A.hK (sd_name A.toAt0 1) (so_some (SV.fz (sv_bin A.hK op_addA add_S (sd_name A.toAt0 2) sd_int))) so_none)))))
    ss_nil) 
  (ss_cons (ss_if (sb_cmp A.hK (op_eqA A.u64) eq_S (nomark _) (sd_name A.toAt0 6) sd_int)
    (ss_one (ss_ret (sv_bin A.hK op_addA add_S (SV.fz (sv_slice A.hK (sd_name A.toAt0 1) so_none (so_some (SV.fz (sv_bin A.hK op_addA add_S (sd_name A.toAt0 2) sd_int))))) (SV.fz (sv_slice A.hK (sd_name A.toAt0 1) (so_some (sd_name A.toAt0 2)) so_none)))))
    ss_nil) 
  (ss_cons (ss_if (sb_cmp A.hK (op_eqA A.u64) eq_S (nomark _) (sd_name A.toAt0 6) sd_int)
    (ss_cons (ss_asg A.toAt0 7 (sv_callTy A call_list_of list_S (by rfl) (F.free 7) bt_list (sa_cons (sd_name A.toAt0 1) sa_nil))) 
    (ss_cons (ss_tasH (sd_tup (sa_cons (SV.fz (sv_ix A.hK ix_seq ix_S (fun _ _ => rfl) (sd_name A.toAt0 1) (sd_name A.toAt0 3))) (sa_cons (sd_name A.toAt0 5) sa_nil))) (sth_tup A (sths_cons (sth_sub A 7 (sd_name A.toAt0 2)) (sths_cons (sth_sub A 7 (sd_name A.toAt0 3)) sths_nil))) (hw := swNone (by intro env h; obtain ⟨⟩ := env; cases h; rfl) A.hsc)) 
    (ss_one (ss_ret (sv_callTy A call_tuple_of tuple_S (by rfl) (F.free 3) bt_tuple (sa_cons (sd_name A.toAt0 7) sa_nil))))))
    ss_nil) 
  (ss_cons (ss_if (sb_cmp A.hK (op_eqA A.u64) eq_S (nomark _) (sd_name A.toAt0 6) sd_int)
    (ss_cons (ss_asg A.toAt0 8 (SD.toV (sd_tup (sa_cons (SV.fz (sv_bin A.hK op_fdivG fdiv_S (SV.fz (sv_bin A.hK op_addA add_S (SV.fz (sv_ix A.hK ix_seq ix_S (fun _ _ => rfl) (sd_name A.toAt0 5) sd_int)) (SV.fz (sv_ix A.hK ix_seq ix_S (fun _ _ => rfl) (sd_name A.toAt0 4) sd_int)))) sd_int)) (sa_cons (SV.fz (sv_bin A.hK op_fdivG fdiv_S (SV.fz (sv_bin A.hK op_addA add_S (SV.fz (sv_ix A.hK ix_seq ix_S (fun _ _ => rfl) (sd_name A.toAt0 5) sd_int)) (SV.fz (sv_ix A.hK ix_seq ix_S (fun _ _ => rfl) (sd_name A.toAt0 4) sd_int)))) sd_int)) sa_nil))))) 
    (ss_one (ss_ret (sv_bin A.hK op_addA add_S (SV.fz (sv_bin A.hK op_addA add_S (SV.fz (sv_slice A.hK (sd_name A.toAt0 1) so_none (so_some (SV.fz (sv_bin A.hK op_addA add_S (sd_name A.toAt0 2) sd_int))))) (sd_tup (sa_cons (sd_name A.toAt0 8) sa_nil)))) (SV.fz (sv_slice A.hK (sd_name A.toAt0 1) (so_some (SV.fz (sv_bin A.hK op_addA add_S (sd_name A.toAt0 2) sd_int))) so_none))))))
    ss_nil) 
  (ss_cons (ss_if (sb_cmp A.hK (op_eqA A.u64) eq_S (nomark _) (sd_name A.toAt0 6) sd_int)
    (ss_cons (ss_par A 9 10 (sa_cons (SV.fz (sv_bin A.hK op_sub sub_S (SV.fz (sv_bin A.hK op_addA add_S (SV.fz (sv_ix A.hK ix_seq ix_S (fun _ _ => rfl) (sd_name A.toAt0 5) sd_int)) (SV.fz (sv_cN A H__law_take (by rfl) (sav_m A 0 (sav_d sd_int sav_nil)))))) sd_int)) (sa_cons (SV.fz (sv_bin A.hK op_sub sub_S (SV.fz (sv_bin A.hK op_addA add_S (SV.fz (sv_ix A.hK ix_seq ix_S (fun _ _ => rfl) (sd_name A.toAt0 5) sd_int)) (SV.fz (sv_cN A H__law_take (by rfl) (sav_m A 0 (sav_d sd_int sav_nil)))))) sd_int)) sa_nil))) 
    (ss_one (ss_ret (sv_bin A.hK op_addA add_S (SV.fz (sv_bin A.hK op_addA add_S (SV.fz (sv_slice A.hK (sd_name A.toAt0 1) so_none (so_some (sd_name A.toAt0 2)))) (sd_tup (sa_cons (sd_tup (sa_cons (sd_name A.toAt0 9) (sa_cons (sd_name A.toAt0 10) sa_nil))) sa_nil)))) (SV.fz (sv_slice A.hK (sd_name A.toAt0 1) (so_some (SV.fz (sv_bin A.hK op_addA add_S (sd_name A.toAt0 2) sd_int))) so_none))))))
    ss_nil) 
  (ss_cons (ss_if (sb_cmp A.hK (op_eqA A.u64) eq_S (nomark _) (sd_name A.toAt0 6) sd_int)
    (ss_one (ss_ret (sv_bin A.hK op_addA add_S (SV.fz (sv_bin A.hK op_addA add_S (SV.fz (sv_slice A.hK (sd_name A.toAt0 1) so_none (so_some (sd_name A.toAt0 2)))) (sd_tup (sa_cons (SV.fz (sv_cN A H__law_odd_corner (by rfl) (sav_m A 0 (sav_d (sd_name A.toAt0 5) sav_nil)))) sa_nil)))) (SV.fz (sv_slice A.hK (sd_name A.toAt0 1) (so_some (SV.fz (sv_bin A.hK op_addA add_S (sd_name A.toAt0 2) sd_int))) so_none)))))
    ss_nil) 
  (ss_cons (ss_if (sb_cmp A.hK (op_eqA A.u64) eq_S (nomark _) (sd_name A.toAt0 6) sd_int)
    (ss_one (ss_ret (sv_ix A.hK ix_seq ix_S (fun _ _ => rfl) (SV.fz (sv_lst (sa_cons (SV.fz (sv_callTy A call_list_of list_S (by rfl) (F.free 7) bt_list (sa_cons (sd_name A.toAt0 1) sa_nil))) (sa_cons (SV.fz (sv_bin A.hK op_addA add_S (sd_name A.toAt0 1) (sd_name A.toAt0 1))) (sa_cons (sd_tup (sa_cons (sd_name A.toAt0 1) sa_nil)) (sa_cons (SV.fz (sv_bin A.hK op_addA add_S (SV.fz (sv_bin A.hK op_addA add_S (sd_name A.toAt0 1) (sd_name A.toAt0 1))) (sd_name A.toAt0 1))) sa_nil)))))) (SV.fz (sv_cN A H__law_take (by rfl) (sav_m A 0 (sav_d sd_int sav_nil)))))))
    ss_nil) 
  (ss_cons (ss_if (sb_cmp A.hK (op_eqA A.u64) eq_S (nomark _) (sd_name A.toAt0 6) sd_int)
    (ss_one (ss_ret (sv_bin A.hK op_addA add_S (SV.fz (sv_bin A.hK op_addA add_S (SV.fz (sv_slice A.hK (sd_name A.toAt0 1) (so_some (sd_name A.toAt0 2)) so_none)) (SV.fz (sv_slice A.hK (sd_name A.toAt0 1) so_none (so_some (sd_name A.toAt0 2)))))) (sd_tup (sa_cons (sd_tup (sa_cons (SV.fz (sv_bin A.hK op_addA add_S (SV.fz (sv_ix A.hK ix_seq ix_S (fun _ _ => rfl) (sd_name A.toAt0 5) sd_int)) (SV.fz (sv_ix A.hK ix_seq ix_S (fun _ _ => rfl) (sd_name A.toAt0 4) sd_int)))) (sa_cons (SV.fz (sv_bin A.hK op_sub sub_S (SV.fz (sv_ix A.hK ix_seq ix_S (fun _ _ => rfl) (sd_name A.toAt0 5) sd_int)) (SV.fz (sv_ix A.hK ix_seq ix_S (fun _ _ => rfl) (sd_name A.toAt0 4) sd_int)))) sa_nil))) sa_nil)))))
    ss_nil) 
  (ss_one (ss_ret (sv_bin A.hK op_addA add_S (SV.fz (sv_slice A.hK (sd_name A.toAt0 1) (so_some (sd_name A.toAt0 3)) so_none)) (SV.fz (sv_slice A.hK (sd_name A.toAt0 1) so_none (so_some (sd_name A.toAt0 3))))))))))))))))))))
theorem g__law_bent {Mo : Wo} (F : Fc Mo) : HasN Mo "_law_bent" ps__law_bent c__law_bent 3 :=
  F.def0 (k := 2) 16 35 rfl rfl sc__law_bent (fun _ _ _ _ _ _ us hl => match us, hl with | [_, _], _ => rfl) fun X G W A => d__law_bent F ((g__law_take F).mono (by omega)) ((g__law_odd_corner F).mono (by omega)) A
theorem d__law_right {Mo : Wo} {k : Nat} (F : Fc Mo) (H_is_ring : HasN Mo "is_ring" ps_is_ring c_is_ring k) (H__law_due : HasN Mo "_law_due" ps__law_due c__law_due k) {X : Cx} {G : Gd} {W : WX} (A : At X G W nm__law_right (defScope st__law_right) false k Mo) : SSs X G W (defBody st__law_right) sem__law_right :=
  (ss_cons (ss_asg A.toAt0 1 (sv_callB A (call_repr A.gd A.u66 A.sysX) repr_S (by rfl) (F.free 16) bt_repr (sa_cons (sd_name A.toAt0 0) sa_nil))) 
  (ss_cons (ss_asg A.toAt0 2 (sv_cN A H_is_ring (by rfl) (sav_d (sd_name A.toAt0 0) sav_nil))) 
  (ss_one (ss_ret (SD.toV (sd_and A.hK (sd_isi A .bool rfl (by rfl) (by rfl) (F.free 0) (F.free 2) bt_bool (sd_name A.toAt0 2)) (sd_and A.hK (SV.fz (sv_cmp A.hK (op_eqA A.u64) eq_S (nomark _) (sd_name A.toAt0 2) (SV.fz (sv_cN A H__law_due (by rfl) (sav_d (sd_name A.toAt0 0) sav_nil))))) (sd_one (SV.fz (sv_cmp A.hK (op_eqA A.u64) eq_S (nomark _) (SV.fz (sv_callB A (call_repr A.gd A.u66 A.sysX) repr_S (by rfl) (F.free 16) bt_repr (sa_cons (sd_name A.toAt0 0) sa_nil))) (sd_name A.toAt0 1)))))))))))
theorem g__law_right {Mo : Wo} (F : Fc Mo) : HasN Mo "_law_right" ps__law_right c__law_right 5 :=
  F.def0 (k := 4) 17 36 rfl rfl sc__law_right (fun _ _ _ _ _ _ us hl => match us, hl with | [_], _ => rfl) fun X G W A => d__law_right F ((g_is_ring F).mono (by omega)) ((g__law_due F).mono (by omega)) A
theorem d_law {Mo : Wo} {k : Nat} (F : Fc Mo) (H_is_ring : HasN Mo "is_ring" ps_is_ring c_is_ring k) (H__law_pot : HasN Mo "_law_pot" ps__law_pot c__law_pot k) (H__law_take : HasN Mo "_law_take" ps__law_take c__law_take k) (H__law_ring : HasN Mo "_law_ring" ps__law_ring c__law_ring k) (H__law_due : HasN Mo "_law_due" ps__law_due c__law_due k) (H__law_bent : HasN Mo "_law_bent" ps__law_bent c__law_bent k) (H__law_right : HasN Mo "_law_right" ps__law_right c__law_right k) {X : Cx} {G : Gd} {W : WX} (A : At X G W nm_law (defScope st_law) false k Mo) : SSs X G W (defBody st_law) sem_law :=
  (ss_cons (ss_for A (si_range1 A (by rfl) (F.free 14) (sa_cons (SV.fz (sv_callB A (call_max2 A.calm) max_S (by rfl) (F.free 18) bt_max (sa_cons sd_int (sa_cons (SV.fz (sv_callB A (call_min2 A.calm) min_S (by rfl) (F.free 17) bt_min (sa_cons (SV.fz (sv_callB A call_lenA len_S (by rfl) (F.free 4) bt_len (sa_cons (sd_name A.toAt0 0) sa_nil))) (sa_cons sd_int sa_nil)))) sa_nil)))) sa_nil)) (st_name A.toAt0 1)
    (ss_cons (ss_asg A.toAt0 2 (sv_cN A H__law_pot (by rfl) (sav_d (sd_name A.toAt0 0) (sav_d (sd_name A.toAt0 1) sav_nil)))) 
    (ss_cons (ss_asg A.toAt0 3 (sv_cN A H__law_ring (by rfl) (sav_m A 2 (sav_d (SV.fz (sv_ix A.hK ix_seq ix_S (fun _ _ => rfl) (SV.fz (sv_lst (sa_cons sd_int (sa_cons sd_int (sa_cons sd_int (sa_cons sd_int sa_nil)))))) (SV.fz (sv_cN A H__law_take (by rfl) (sav_m A 2 (sav_d sd_int sav_nil)))))) sav_nil)))) 
    (ss_cons (ss_if (sw_b (sw_or (sb_cmp A.hK op_nisT nisT_S (nomark _) (SV.fz (sv_cN A H_is_ring (by rfl) (sav_d (sd_name A.toAt0 3) sav_nil))) sd_bl) (sw_or1 (sb_not (sb_tru A.hK (SV.fz (sv_cN A H__law_right (by rfl) (sav_d (sd_name A.toAt0 3) sav_nil))))))))
      (ss_one (ss_ret (SD.toV sd_bl)))
      ss_nil) 
    (ss_one (ss_for A (si_range1 A (by rfl) (F.free 14) (sa_cons sd_int sa_nil)) (st_name A.toAt0 4)
      (ss_cons (ss_asg A.toAt0 5 (sv_cN A H__law_bent (by rfl) (sav_m A 2 (sav_d (sd_name A.toAt0 3) sav_nil)))) 
      (ss_cons (ss_if (sb_not (sb_tru A.hK (SV.fz (sv_cN A H__law_right (by rfl) (sav_d (sd_name A.toAt0 5) sav_nil)))))
        (ss_one (ss_ret (SD.toV sd_bl)))
        ss_nil) 
      (ss_one (ss_if (sw_b (sw_and (sb_tru A.hK (SV.fz (sv_cN A H__law_due (by rfl) (sav_d (sd_name A.toAt0 5) sav_nil)))) (sw_and1 (sb_not (sb_tru A.hK (SV.fz (sv_cN A H__law_right (by rfl) (sav_d (SV.fz (sv_cN A H__law_bent (by rfl) (sav_m A 2 (sav_d (sd_name A.toAt0 5) sav_nil)))) sav_nil))))))))
        (ss_one (ss_ret (SD.toV sd_bl)))
        ss_nil)))))))))) 
  (ss_cons (ss_asg A.toAt0 6 (SD.toV (sd_tup (sa_cons (sd_tup (sa_cons sd_int (sa_cons sd_int sa_nil))) (sa_cons (sd_tup (sa_cons sd_int (sa_cons sd_int sa_nil))) (sa_cons (sd_tup (sa_cons sd_int (sa_cons sd_int sa_nil))) (sa_cons (sd_tup (sa_cons sd_int (sa_cons sd_int sa_nil))) (sa_cons (sd_tup (sa_cons (SV.fz (sv_un A.hK un_neg neg_S sd_int)) (sa_cons sd_int sa_nil))) sa_nil)))))))) 
  (ss_cons (ss_asg A.toAt0 7 (SD.toV (sd_tup (sa_cons (SV.fz (sv_ix A.hK ix_seq ix_S (fun _ _ => rfl) (sd_name A.toAt0 6) sd_int)) (sa_cons (SV.fz (sv_ix A.hK ix_seq ix_S (fun _ _ => rfl) (sd_name A.toAt0 6) sd_int)) (sa_cons (SV.fz (sv_ix A.hK ix_seq ix_S (fun _ _ => rfl) (sd_name A.toAt0 6) sd_int)) (sa_cons (SV.fz (sv_ix A.hK ix_seq ix_S (fun _ _ => rfl) (sd_name A.toAt0 6) sd_int)) (sa_cons (SV.fz (sv_ix A.hK ix_seq ix_S (fun _ _ => rfl) (sd_name A.toAt0 6) sd_int)) sa_nil)))))))) 
  (ss_cons (ss_asg A.toAt0 8 (sv_bin A.hK op_powG pow_S sd_int sd_int)) 
  (ss_cons (ss_asg A.toAt0 9 (SD.toV (sd_tup (sa_cons (sd_tup (sa_cons (SV.fz (sv_bin A.hK op_sub sub_S (sd_name A.toAt0 8) sd_int)) (sa_cons (SV.fz (sv_un A.hK un_neg neg_S (sd_name A.toAt0 8))) sa_nil))) (sa_cons (sd_tup (sa_cons (sd_name A.toAt0 8) (sa_cons (SV.fz (sv_bin A.hK op_sub sub_S sd_int (sd_name A.toAt0 8))) sa_nil))) (sa_cons (sd_tup (sa_cons (sd_name A.toAt0 8) (sa_cons (SV.fz (sv_bin A.hK op_sub sub_S (sd_name A.toAt0 8) sd_int)) sa_nil))) (sa_cons (sd_tup (sa_cons (SV.fz (sv_bin A.hK op_sub sub_S (sd_name A.toAt0 8) sd_int)) (sa_cons (sd_name A.toAt0 8) sa_nil))) (sa_cons (sd_tup (sa_cons (SV.fz (sv_bin A.hK op_sub sub_S sd_int (sd_name A.toAt0 8))) (sa_cons (sd_name A.toAt0 8) sa_nil))) (sa_cons (sd_tup (sa_cons (SV.fz (sv_un A.hK un_neg neg_S (sd_name A.toAt0 8))) (sa_cons (SV.fz (sv_bin A.hK op_sub sub_S (sd_name A.toAt0 8) sd_int)) sa_nil))) sa_nil))))))))) 
  (ss_cons (ss_asg A.toAt0 9 (sv_bin A.hK op_addA add_S (sd_name A.toAt0 9) (sd_tup (sa_cons (sd_tup (sa_cons (SV.fz (sv_un A.hK un_neg neg_S (sd_name A.toAt0 8))) (sa_cons (SV.fz (sv_bin A.hK op_sub sub_S sd_int (sd_name A.toAt0 8))) sa_nil))) (sa_cons (sd_tup (sa_cons (SV.fz (sv_bin A.hK op_sub sub_S sd_int (sd_name A.toAt0 8))) (sa_cons (SV.fz (sv_un A.hK un_neg neg_S (sd_name A.toAt0 8))) sa_nil))) sa_nil))))) 
  (ss_cons (ss_asg A.toAt0 10 (sv_lst (sa_cons (sd_name A.toAt0 6) (sa_cons (sd_name A.toAt0 7) (sa_cons (sd_name A.toAt0 9) (sa_cons (SV.fz (sv_bin A.hK op_addA add_S (sd_name A.toAt0 9) (sd_tup (sa_cons (sd_tup (sa_cons sd_int (sa_cons (SV.fz (sv_bin A.hK op_sub sub_S (SV.fz (sv_un A.hK un_neg neg_S (sd_name A.toAt0 8))) sd_int)) sa_nil))) sa_nil)))) (sa_cons (SV.fz (sv_bin A.hK op_addA add_S (SV.fz (sv_slice A.hK (sd_name A.toAt0 9) (so_some sd_int) so_none)) (sd_tup (sa_cons (sd_tup (sa_cons sd_int (sa_cons (SV.fz (sv_un A.hK un_neg neg_S (sd_name A.toAt0 8))) sa_nil))) sa_nil)))) sa_nil))))))) 
  (ss_cons (ss_asg A.toAt0 10 (sv_bin A.hK op_addA add_S (sd_name A.toAt0 10) (SV.fz (sv_lst (sa_cons (sd_tup (sa_cons (sd_tup (sa_cons sd_int (sa_cons sd_int sa_nil))) (sa_cons (sd_tup (sa_cons sd_int (sa_cons sd_int sa_nil))) (sa_cons (sd_tup (sa_cons sd_int (sa_cons sd_int sa_nil))) (sa_cons (sd_tup (sa_cons sd_int (sa_cons sd_int sa_nil))) (sa_cons (sd_tup (sa_cons sd_int (sa_cons sd_int sa_nil))) sa_nil)))))) (sa_cons (sd_tup (sa_cons (sd_tup (sa_cons sd_int (sa_cons sd_int sa_nil))) (sa_cons (sd_tup (sa_cons sd_int (sa_cons sd_int sa_nil))) (sa_cons (sd_tup (sa_cons sd_int (sa_cons sd_int sa_nil))) sa_nil)))) (sa_cons (sd_tup (sa_cons (sd_tup (sa_cons sd_int (sa_cons sd_int sa_nil))) sa_nil)) sa_nil))))))) 
  (ss_cons (ss_asg A.toAt0 10 (sv_bin A.hK op_addA add_S (sd_name A.toAt0 10) (SV.fz (sv_lst (sa_cons (sd_tup (sa_cons (sd_tup (sa_cons sd_int (sa_cons sd_int sa_nil))) (sa_cons (sd_tup (sa_cons sd_int (sa_cons sd_int sa_nil))) sa_nil))) (sa_cons (sd_tup (sa_cons (sd_tup (sa_cons (sd_name A.toAt0 8) (sa_cons (sd_name A.toAt0 8) sa_nil))) (sa_cons (sd_tup (sa_cons (SV.fz (sv_un A.hK un_neg neg_S (sd_name A.toAt0 8))) (sa_cons (SV.fz (sv_un A.hK un_neg neg_S (sd_name A.toAt0 8))) sa_nil))) sa_nil))) (sa_cons (sd_tup sa_nil) (sa_cons sd_non (sa_cons sd_int (sa_cons sd_str sa_nil)))))))))) 
  (ss_cons (ss_asg A.toAt0 11 (sv_lst (sa_cons (sd_tup (sa_cons (sd_tup (sa_cons (SV.fz (sv_un A.hK un_neg neg_S (sd_name A.toAt0 8))) (sa_cons (SV.fz (sv_un A.hK un_neg neg_S (sd_name A.toAt0 8))) sa_nil))) (sa_cons (sd_tup (sa_cons (sd_name A.toAt0 8) (sa_cons (sd_name A.toAt0 8) sa_nil))) (sa_cons (sd_tup (sa_cons sd_int (sa_cons sd_int sa_nil))) sa_nil)))) (sa_cons (sd_tup (sa_cons (sd_tup (sa_cons (SV.fz (sv_un A.hK un_neg neg_S (sd_name A.toAt0 8))) (sa_cons (SV.fz (sv_un A.hK un_neg neg_S (sd_name A.toAt0 8))) sa_nil))) (sa_cons (sd_tup (sa_cons (sd_name A.toAt0 8) (sa_cons (SV.fz (sv_bin A.hK op_sub sub_S (sd_name A.toAt0 8) sd_int)) sa_nil))) (sa_cons (sd_tup (sa_cons sd_int (sa_cons sd_int sa_nil))) sa_nil)))) sa_nil)))) 
  (ss_cons (ss_asg A.toAt0 11 (sv_bin A.hK op_addA add_S (sd_name A.toAt0 11) (SV.fz (sv_lst (sa_cons (sd_tup (sa_cons (sd_tup (sa_cons (SV.fz (sv_un A.hK un_neg neg_S (sd_name A.toAt0 8))) (sa_cons (SV.fz (sv_un A.hK un_neg neg_S (sd_name A.toAt0 8))) sa_nil))) (sa_cons (sd_tup (sa_cons (sd_name A.toAt0 8) (sa_cons (sd_name A.toAt0 8) sa_nil))) (sa_cons (sd_tup (sa_cons sd_int (sa_cons sd_int sa_nil))) sa_nil)))) (sa_cons (sd_tup (sa_cons (sd_tup (sa_cons (SV.fz (sv_un A.hK un_neg neg_S (sd_name A.toAt0 8))) (sa_cons (SV.fz (sv_un A.hK un_neg neg_S (sd_name A.toAt0 8))) sa_nil))) (sa_cons (sd_tup (sa_cons (sd_name A.toAt0 8) (sa_cons (SV.fz (sv_bin A.hK op_sub sub_S (sd_name A.toAt0 8) sd_int)) sa_nil))) (sa_cons (sd_tup (sa_cons sd_int (sa_cons (SV.fz (sv_un A.hK un_neg neg_S sd_int)) sa_nil))) sa_nil)))) sa_nil)))))) 
  (ss_cons (ss_if (sb_cmp A.hK (op_neA A.u64) ne_S (nomark _) (SV.fz (sv_comp1 A (si_seq A.hK (SV.fz (sv_bin A.hK op_addA add_S (sd_name A.toAt0 10) (sd_name A.toAt0 11)))) (blkOk_by (own := [("thing", 12)]) (by decide +kernel)) (fun X' G' A' => (st_name A'.toAt0 12)) (fun X' G' A' => (sb_not (sb_tru A'.hK (SV.fz (sv_cN A' H__law_right (by rfl) (sav_d (sd_name A'.toAt0 12) sav_nil)))))) (fun X' G' A' => (sd_name A'.toAt0 12)))) (SV.fz (sv_lst sa_nil)))
    (ss_one (ss_ret (SD.toV sd_bl)))
    ss_nil) 
  (ss_cons (ss_if (sb_cmp A.hK (op_neA A.u64) ne_S (nomark _) (SV.fz (sv_comp0 A (si_seq A.hK (sd_name A.toAt0 11)) (blkOk_by (own := [("thing", 12)]) (by decide +kernel)) (fun X' G' A' => (st_name A'.toAt0 12)) (fun X' G' A' => (SV.fz (sv_cN A' H_is_ring (by rfl) (sav_d (sd_name A'.toAt0 12) sav_nil)))))) (SV.fz (sv_lst (sa_cons sd_bl (sa_cons sd_bl (sa_cons sd_bl (sa_cons sd_bl sa_nil)))))))
    (ss_one (ss_ret (SD.toV sd_bl)))
    ss_nil) 
  (ss_one (ss_ret (sv_cmp A.hK (op_eqA A.u64) eq_S (nomark _) (SV.fz (sv_comp0 A (si_seq A.hK (SV.fz (sv_slice A.hK (sd_name A.toAt0 10) so_none (so_some sd_int)))) (blkOk_by (own := [("thing", 12)]) (by decide +kernel)) (fun X' G' A' => (st_name A'.toAt0 12)) (fun X' G' A' => (SV.fz (sv_cN A' H_is_ring (by rfl) (sav_d (sd_name A'.toAt0 12) sav_nil)))))) (SV.fz (sv_lst (sa_cons sd_bl (sa_cons sd_bl (sa_cons sd_bl (sa_cons sd_bl (sa_cons sd_bl (sa_cons sd_bl (sa_cons sd_bl (sa_cons sd_bl sa_nil))))))))))))))))))))))))))
theorem g_law {Mo : Wo} (F : Fc Mo) : HasN Mo "law" ps_law c_law 6 :=
  F.def0 (k := 5) 18 37 rfl rfl sc_law (fun _ _ _ _ _ _ us hl => match us, hl with | [_], _ => rfl) fun X G W A => d_law F ((g_is_ring F).mono (by omega)) ((g__law_pot F).mono (by omega)) ((g__law_take F).mono (by omega)) ((g__law_ring F).mono (by omega)) ((g__law_due F).mono (by omega)) ((g__law_bent F).mono (by omega)) ((g__law_right F).mono (by omega)) A
theorem law_fn {Mo : Wo} {fd : FuncData} (F : Fc Mo) (F0 : FunD Mo.K "law" "law" (defArgs st_law) (defBody st_law) (defScope st_law) [] [] (He.ga Mo.K "law") fd) : FnG Mo 6 (He.ga Mo.K "law") fd ps_law (spF Mo.K Mo.cls c_law) :=
  fn_of_D (k := 5) F0 F.sys sc_law fun X G W A => d_law F ((g_is_ring F).mono (by omega)) ((g__law_pot F).mono (by omega)) ((g__law_take F).mono (by omega)) ((g__law_ring F).mono (by omega)) ((g__law_due F).mono (by omega)) ((g__law_bent F).mono (by omega)) ((g__law_right F).mono (by omega)) A
def loose0 : List PySem.Str := ["is_whole", "is_within", "FAR", "MOST_CORNERS", "is_corner", "left_of", "sides_of", "is_convex", "is_ring", "_law_pot", "_law_take", "_law_cross", "_law_half_hull", "_law_hull", "_law_ring", "_law_is_corner", "_law_due", "_law_odd_corner", "_law_bent", "_law_right"]
def loose : List PySem.Str := loose0
end PvK09

noncomputable section
namespace PvK09
open PySem PySem.Spec PyProof.Rows L2 PV
open PvH (Rg cr Conv Tri conv_tri)
open PvR (BdP Bd bdP_of)
theorem x_take : c__law_take = takeC := rfl
theorem x_pot : c__law_pot = potC := rfl
theorem x_cross : c__law_cross = PvR.c__law_cross := rfl
theorem x_ring : c__law_ring = PvR.c__law_ring := rfl
theorem x_left : c_left_of = PvR.c_left_of := rfl
theorem x_sides : c_sides_of = PvR.c_sides_of := rfl
def isWh : PyData → Bool
  | .int _ => true
  | _ => false
def isW (lo hi : Int) : PyData → Bool
  | .int i => decide (lo ≤ i) && decide (i ≤ hi)
  | _ => false
theorem whole_any (x : PyData) : c_is_whole [.d x] = some (.ok (.d (.bool (isWh x))), []) := by
  unfold c_is_whole sem_is_whole
  cases x <;> simp [isTy, isWh]
theorem within_any (lo hi : Int) (x : PyData) : c_is_within [.d x, .d (.int lo), .d (.int hi)] = some (.ok (.d (.bool (isW lo hi x))), []) := by
  have w := whole_any x
  unfold c_is_within sem_is_within
  cases x with
  | int i =>
    by_cases h1 : lo ≤ i <;> by_cases h2 : i ≤ hi <;> simp [w, isWh, isW, chnV, chnB, blO, h1, h2]
  | _ => simp [w, isWh, isW]
def isC : PyData → Bool
  | .tuple [a, b] => isW (-1000000000) 1000000000 a && isW (-1000000000) 1000000000 b
  | _ => false
theorem corner_any (x : PyData) : c_is_corner [.d x] = some (.ok (.d (.bool (isC x))), []) := by
  have g := fun ds : List PyData => comp_pure (i := 1) (f := PV.fz (callF c_is_within (consD (rdM 1) (consD (PV.fz (un (M.ret (.int 1000000000)) negD)) (consD (M.ret (.int 1000000000)) (M.ret [])))))) (g := fun d => .bool (isW (-1000000000) 1000000000 d)) (env := [some (.d (.tuple ds)), none]) (by simp) (ds := ds) (acc := []) (fun d hd => by
    have := within_any (-1000000000) 1000000000 d
    have e : (blkE [1] [some (.d (.tuple ds)), none]).set 1 (some (.d d)) = [some (.d (.tuple ds)), some (.d d)] := rfl
    rw [e]
    simp [this])
  unfold c_is_corner sem_is_corner
  cases x with
  | tuple ds =>
    match ds with
    | [] => simp [isTy, isC]
    | [a] => simp [isTy, isC]
    | [a, b] =>
      have g2 := g [a, b] (by simp)
      have al := all_map (isW (-1000000000) 1000000000) [a, b]
      have nm : noMu [1] [some (.d (.tuple [a, b])), none] = true := rfl
      rw [List.nil_append] at g2
      simp only [List.map_cons, List.map_nil] at g2 al
      simp [isTy, isC, e_compM, nm, g2, al]
    | a :: b :: c :: r =>
      have hl : ¬ ((r.length : Int) + 1 + 1 + 1 = 2) := by omega
      simp [isTy, isC, hl]
  | _ => simp [isTy, isC]
theorem lcorner_any (x : PyData) : c__law_is_corner [.d x] = some (.ok (.d (.bool (isC x))), []) := by
  have p9 : powD (.int 10) (.int 9) = some (.d (.int 1000000000)) := PvR.pow9
  have body : ∀ (R : PyData) (s : Option Sl) (d : PyData), NM s → b__law_is_corner_1 [some (.d R), some (.d d)] = some (if isW (-1000000000) 1000000000 d = true then .nx else .rt (.d (.bool false)), [some (.d R), some (.d d)]) := by
    intro R s d _
    unfold b__law_is_corner_1
    cases d with
    | int i =>
      by_cases h1 : i < 0
      · by_cases h2 : -1000000000 ≤ i
        · simp [isTy, isW, p9, h1, h2, show ¬ (1000000000 < -i) by omega, show i ≤ 1000000000 by omega]
        · simp [isTy, isW, p9, h1, h2, show (1000000000 < -i) by omega]
      · by_cases h2 : i ≤ 1000000000
        · simp [isTy, isW, p9, h1, h2, show ¬ (1000000000 < i) by omega, show -1000000000 ≤ i by omega]
        · simp [isTy, isW, p9, h1, h2, show (1000000000 < i) by omega]
    | _ => simp [isTy, isW]
  unfold c__law_is_corner sem__law_is_corner
  cases x with
  | tuple ds =>
    match ds with
    | [] => simp [isTy, isC]
    | [a] => simp [isTy, isC]
    | [a, b] =>
      have b1 := body (.tuple [a, b]) none a (by simp)
      have b2 := body (.tuple [a, b]) none b (by simp)
      cases h1 : isW (-1000000000) 1000000000 a <;> cases h2 : isW (-1000000000) 1000000000 b <;> rw [h1] at b1 <;> rw [h2] at b2 <;> simp [isTy, isC, forL, b1, b2, h1, h2]
    | a :: b :: c :: r =>
      have hl : ¬ ((r.length : Int) + 1 + 1 + 1 = 2) := by omega
      simp [isTy, isC, hl]
  | _ => simp [isTy, isC]
theorem isW_inv {lo hi : Int} {x : PyData} (h : isW lo hi x = true) : ∃ i : Int, x = .int i ∧ lo ≤ i ∧ i ≤ hi := by
  cases x with
  | int i =>
    simp only [isW, Bool.and_eq_true, decide_eq_true_eq] at h
    exact ⟨i, rfl, h.1, h.2⟩
  | _ => simp [isW] at h
def Bq (p : P2) : Prop := p.1.natAbs ≤ 1000000000 ∧ p.2.natAbs ≤ 1000000000
theorem isC_inv {x : PyData} (h : isC x = true) : ∃ p : P2, x = mkP p ∧ Bq p := by
  unfold isC at h
  split at h
  · rename_i a b
    rw [Bool.and_eq_true] at h
    obtain ⟨i, rfl, h1, h2⟩ := isW_inv h.1
    obtain ⟨j, rfl, h3, h4⟩ := isW_inv h.2
    exact ⟨(i, j), rfl, by show i.natAbs ≤ _; omega, by show j.natAbs ≤ _; omega⟩
  · cases h
theorem isC_all : ∀ {ds : List PyData}, ds.all isC = true → ∃ H : List P2, ds = H.map mkP ∧ ∀ p ∈ H, Bq p
  | [], _ => ⟨[], rfl, fun p hp => nomatch hp⟩
  | d :: ds, h => by
    rw [List.all_cons, Bool.and_eq_true] at h
    obtain ⟨p, rfl, hp⟩ := isC_inv h.1
    obtain ⟨H, rfl, hH⟩ := isC_all h.2
    exact ⟨p :: H, rfl, fun q hq => by
      rcases List.mem_cons.mp hq with rfl | hq
      · exact hp
      · exact hH q hq⟩
theorem isC_of {p : P2} (h : Bq p) : isC (mkP p) = true := by
  obtain ⟨h1, h2⟩ := h
  simp only [isC, mkP, isW, Bool.and_eq_true, decide_eq_true_eq]
  omega
theorem isC_allOf {H : List P2} (h : ∀ p ∈ H, Bq p) : (H.map mkP).all isC = true := by
  rw [List.all_map, List.all_eq_true]
  exact fun p hp => isC_of (h p hp)
end PvK09
end

noncomputable section
namespace PvK09
open PySem PySem.Spec PyProof.Rows L2 PV
open PvH (Rg cr Conv Tri conv_tri)
open PvR (BdP Bd bdP_of sel sel_mem sel_len sel_go mod_nat left_ok sides_ok sides_at sidesV nm67 nm7 e_enumI t67 c67)
theorem x_convex : c_is_convex = PvR.c_is_convex := rfl
theorem sel_in {i m : Nat} : ∀ {l : List P2} {j k : Nat} {q : P2}, l[k]? = some q → j + k ≠ i → j + k ≠ m → q ∈ sel i m j l
  | [], _, _, _, h, _, _ => by simp at h
  | p :: l, j, 0, q, h, h1, h2 => by
    simp at h
    subst h
    unfold sel
    rw [if_neg (by omega)]
    exact List.mem_cons_self ..
  | p :: l, j, k + 1, q, h, h1, h2 => by
    have := sel_in (i := i) (m := m) (l := l) (j := j + 1) (k := k) (q := q) (by simpa using h) (by omega) (by omega)
    unfold sel
    split
    · exact this
    · exact List.mem_cons_of_mem _ this
theorem body_gen {H : List P2} (hb : ∀ p ∈ H, Bq p) (h1 : 1 ≤ H.length) (h8 : H.length ≤ 8) {i : Int} {iN : Nat} (hi : i = iN) {a b : P2} (ea : H[iN]? = some a) (eb : H[(iN + 1) % H.length]? = some b) {n : Int} (hn : n = H.length) {s5 : Option Sl} (n5 : NM s5) :
    ∃ t5, PvR.b_is_convex_1 [some (.d (.tuple (H.map mkP))), some (.d (.int n)), some (.d (.int i)), some (.d (mkP a)), some (.d (mkP b)), s5, none, none] = some (if ((sel iN ((iN + 1) % H.length) 0 H).all fun q => decide (0 < cr a b q)) = true then .nx else .rt (.d (.bool false)), [some (.d (.tuple (H.map mkP))), some (.d (.int n)), some (.d (.int i)), some (.d (mkP a)), some (.d (mkP b)), t5, none, none]) ∧ NM t5 := by
  have bd : ∀ p ∈ H, BdP p := fun p hp => bdP_of (hb p hp).1 (hb p hp).2
  have am : a ∈ H := List.mem_of_getElem? ea
  have bm : b ∈ H := List.mem_of_getElem? eb
  have n0 : n ≠ 0 := by omega
  have hm : (i + 1).fmod n = (((iN + 1) % H.length : Nat) : Int) := by rw [hi, hn]; exact mod_nat (by omega)
  obtain ⟨m, hm'⟩ : ∃ m : Int, m = (((iN + 1) % H.length : Nat) : Int) := ⟨_, rfl⟩
  rw [← hm'] at hm
  have g1 := sel_go (R := .tuple (H.map mkP)) (A := mkP a) (B := mkP b) (s5 := s5) hm n0 iN ((iN + 1) % H.length) hi hm' H 0 [] (by simp; omega)
  rw [List.nil_append] at g1
  generalize hO : sel iN ((iN + 1) % H.length) 0 H = O at g1
  have memO : ∀ q ∈ O, q ∈ H := fun q hq => by
    rw [← hO] at hq
    obtain ⟨k, k1, k2, k3⟩ := sel_mem hq
    exact List.mem_of_getElem? k1
  have lO : O.length ≤ 8 := by rw [← hO]; exact Nat.le_trans (sel_len H 0) h8
  have toP : ∀ q : P2, (fun d : PyData => match d with | .tuple [.int x, .int y] => decide (0 < cr a b (x, y)) | _ => false) (mkP q) = decide (0 < cr a b q) := fun q => rfl
  generalize (fun d : PyData => match d with | .tuple [.int x, .int y] => decide (0 < cr a b (x, y)) | _ => false) = pq at toP
  have g2 := comp_pure (i := 7) (f := PV.fz (bin (PV.fz (callF PvR.c_left_of (consD (rdM 3) (consD (rdM 4) (consD (rdM 7) (M.ret [])))))) (M.ret (.int 0)) gtD)) (g := fun d => .bool (pq d))
    (env := [some (.d (.tuple (H.map mkP))), some (.d (.int n)), some (.d (.int i)), some (.d (mkP a)), some (.d (mkP b)), some (.d (.list (O.map mkP))), none, none]) (by simp) (ds := O.map mkP) (acc := []) (fun d hd => by
      obtain ⟨q, hq, rfl⟩ := List.mem_map.mp hd
      have q1 := memO q hq
      have lo := left_ok (bd a am) (bd b bm) (bd q q1)
      have tq := toP q
      have g7 : ((blkE [7] [some (.d (.tuple (H.map mkP))), some (.d (.int n)), some (.d (.int i)), some (.d (mkP a)), some (.d (mkP b)), some (.d (.list (O.map mkP))), none, none]).set 7 (some (.d (mkP q)))) = [some (.d (.tuple (H.map mkP))), some (.d (.int n)), some (.d (.int i)), some (.d (mkP a)), some (.d (mkP b)), some (.d (.list (O.map mkP))), none, some (.d (mkP q))] := rfl
      rw [g7]
      generalize mkP a = A at *
      generalize mkP b = B at *
      generalize mkP q = C at *
      simp [lo, tq]) (by simp; omega)
  have ga := all_map pq (O.map mkP)
  have ha : (O.map mkP).all pq = O.all fun q => decide (0 < cr a b q) := by
    rw [List.all_map]
    congr 1
    exact funext fun q => toP q
  rw [ha] at ga
  rw [List.nil_append] at g2
  generalize (O.map mkP).map (fun d => PyData.bool (pq d)) = BL at g2 ga
  refine ⟨some (.d (.list (O.map mkP))), ?_, by simp⟩
  unfold PvR.b_is_convex_1
  simp only [t67, c67] at g1
  generalize O.map mkP = OL at *
  generalize H.map mkP = HL at *
  cases hq : (O.all fun q => decide (0 < cr a b q)) with
  | true =>
    rw [hq] at ga
    simp [-e_store, s_zero, s_succ, e_compM, e_enumI, nm67, nm7, g1, n5, g2, ga]
  | false =>
    rw [hq] at ga
    simp [-e_store, s_zero, s_succ, e_compM, e_enumI, nm67, nm7, g1, n5, g2, ga]
theorem sides_in : ∀ {h : P2} {r : List P2} {i : Nat} {x : PyData}, (sidesV (h :: r))[i]? = some x → i < (h :: r).length := fun {h r i x} e => by
  obtain ⟨a, b, ha, _, _⟩ := sides_at e
  exact (List.getElem?_eq_some_iff.mp ha).1
theorem sides_len (h : P2) (r : List P2) (hl : r.length < 500) : (sidesV (h :: r)).length = (h :: r).length := by
  unfold sidesV
  simp
theorem convex_any {H : List P2} (hb : ∀ p ∈ H, Bq p) (hl1 : 1 ≤ H.length) (hl8 : H.length ≤ 8) : (Conv H ∧ c_is_convex [.d (.tuple (H.map mkP))] = some (.ok (.d (.bool true)), [])) ∨ (¬ Conv H ∧ c_is_convex [.d (.tuple (H.map mkP))] = some (.ok (.d (.bool false)), [])) := by
  obtain ⟨n, hn⟩ : ∃ n : Int, n = H.length := ⟨_, rfl⟩
  obtain ⟨p, r, rfl⟩ : ∃ p r, H = p :: r := by
    cases H with
    | nil => simp at hl1
    | cons p r => exact ⟨p, r, rfl⟩
  have hr : r.length < 500 := by simp at hl8; omega
  have so := sides_ok (h := p) (r := r) hr
  have sl := sides_len p r hr
  generalize hHH : p :: r = H at *
  have fc := forL_chk (t := tupT 2 (consT (nameT 2) (consT (tupT 2 (consT (nameT 3) (consT (nameT 4) (nilT)))) (nilT)))) (b := PvR.b_is_convex_1) (v := .bool false) (ds := enumL 0 (sidesV H))
    (fun env => ∃ s2 s3 s4 s5 : Option Sl, env = [some (.d (.tuple (H.map mkP))), some (.d (.int n)), s2, s3, s4, s5, none, none] ∧ NM s2 ∧ NM s3 ∧ NM s4 ∧ NM s5)
    (fun d => ∃ (i : Nat) (a b : P2), H[i]? = some a ∧ H[(i + 1) % H.length]? = some b ∧ d = .tuple [.int ((0 + i : Nat) : Int), .tuple [mkP a, mkP b]] ∧ ((sel i ((i + 1) % H.length) 0 H).all fun q => decide (0 < cr a b q)) = true)
    (env := [some (.d (.tuple (H.map mkP))), some (.d (.int n)), none, none, none, none, none, none])
    (fun d hd env ⟨s2, s3, s4, s5, he, n2, n3, n4, n5⟩ => by
      subst he
      obtain ⟨i, hi⟩ := List.mem_iff_getElem?.mp hd
      obtain ⟨x, hx, rfl⟩ := enumL_at hi
      obtain ⟨a, b, ea, eb, rfl⟩ := sides_at hx
      obtain ⟨j, hj⟩ : ∃ j : Int, j = ((0 + i : Nat) : Int) := ⟨_, rfl⟩
      obtain ⟨t5, e, m5⟩ := body_gen hb hl1 hl8 (i := j) (iN := i) (by omega) ea eb hn n5
      have tt : tupT 2 (consT (nameT 2) (consT (tupT 2 (consT (nameT 3) (consT (nameT 4) (nilT)))) (nilT))) (.tuple [.int j, .tuple [mkP a, mkP b]]) [some (.d (.tuple (H.map mkP))), some (.d (.int n)), s2, s3, s4, s5, none, none] = some [some (.d (.tuple (H.map mkP))), some (.d (.int n)), some (.d (.int j)), some (.d (mkP a)), some (.d (mkP b)), s5, none, none] := by
        generalize H.map mkP = HL at *
        generalize mkP a = A at *
        generalize mkP b = B at *
        simp [-e_store, s_zero, s_succ, n2, n3, n4]
      refine ⟨_, by rw [← hj]; exact tt, ?_⟩
      by_cases hq : ((sel i ((i + 1) % H.length) 0 H).all fun q => decide (0 < cr a b q)) = true
      · rw [if_pos hq] at e
        exact .inl ⟨⟨i, a, b, ea, eb, rfl, hq⟩, _, e, _, _, _, t5, rfl, by simp, by simp, by simp, m5⟩
      · rw [if_neg hq] at e
        refine .inr ⟨fun ⟨i', a', b', ea', eb', hd', hq'⟩ => hq ?_, _, e, _, _, _, t5, rfl, by simp, by simp, by simp, m5⟩
        have hii : i = i' := by
          injection hd' with hd'
          injection hd' with hd1 hd2
          injection hd1 with hd1
          omega
        subst hii
        rw [ea] at ea'; cases ea'
        rw [eb] at eb'; cases eb'
        exact hq')
    ⟨none, none, none, none, rfl, by simp, by simp, by simp, by simp⟩
  have ln : ((H.map mkP).length : Int) = n := by rw [List.length_map, hn]
  have iff : (∀ d ∈ enumL 0 (sidesV H), ∃ (i : Nat) (a b : P2), H[i]? = some a ∧ H[(i + 1) % H.length]? = some b ∧ d = .tuple [.int ((0 + i : Nat) : Int), .tuple [mkP a, mkP b]] ∧ ((sel i ((i + 1) % H.length) 0 H).all fun q => decide (0 < cr a b q)) = true) ↔ Conv H := by
    constructor
    · intro h i j a b c h1 h2 ha hb' hc
      have li : i < H.length := (List.getElem?_eq_some_iff.mp ha).1
      have ls : i < (sidesV H).length := by rw [sl]; exact li
      obtain ⟨a', b', ea, eb, ex⟩ := sides_at (List.getElem?_eq_getElem ls)
      have hmem : PyData.tuple [.int ((0 + i : Nat) : Int), (sidesV H)[i]] ∈ enumL 0 (sidesV H) := by
        have : ∀ (xs : List PyData) (k i : Nat) (h : i < xs.length), PyData.tuple [.int ((k + i : Nat) : Int), xs[i]] ∈ enumL k xs := by
          intro xs
          induction xs with
          | nil => intro k i h; simp at h
          | cons x xs ih =>
            intro k i h
            cases i with
            | zero => exact List.mem_cons_self ..
            | succ i =>
              have := ih (k + 1) i (by simpa using h)
              rw [show k + 1 + i = k + (i + 1) by omega] at this
              exact List.mem_cons_of_mem _ this
        exact this _ 0 i ls
      obtain ⟨i', a2, b2, e1, e2, e3, e4⟩ := h _ hmem
      have hii : i = i' := by
        injection e3 with e3
        injection e3 with e3 _
        injection e3 with e3
        omega
      subst hii
      rw [ha] at e1; cases e1
      rw [hb'] at e2; cases e2
      rw [List.all_eq_true] at e4
      exact of_decide_eq_true (e4 c (sel_in hc (by omega) (by omega)))
    · intro h d hd
      obtain ⟨i, hi⟩ := List.mem_iff_getElem?.mp hd
      obtain ⟨x, hx, rfl⟩ := enumL_at hi
      obtain ⟨a, b, ea, eb, rfl⟩ := sides_at hx
      refine ⟨i, a, b, ea, eb, rfl, ?_⟩
      rw [List.all_eq_true]
      intro q hq
      obtain ⟨k, k1, k2, k3⟩ := sel_mem hq
      exact decide_eq_true (h i k a b q (by omega) (by omega) ea eb k1)
  rw [x_convex]
  rw [iff] at fc
  rcases fc with ⟨k1, e, f1, s2, s3, s4, s5, rfl, _⟩ | ⟨k1, e, f1, s2, s3, s4, s5, rfl, _⟩
  · refine .inl ⟨k1, ?_⟩
    unfold PvR.c_is_convex PvR.sem_is_convex
    subst hHH
    generalize (p :: r).map mkP = HL at *
    generalize sidesV (p :: r) = Z at *
    simp [ln, e_enumI, so, f1]
  · refine .inr ⟨k1, ?_⟩
    unfold PvR.c_is_convex PvR.sem_is_convex
    subst hHH
    generalize (p :: r).map mkP = HL at *
    generalize sidesV (p :: r) = Z at *
    simp [ln, e_enumI, so, f1]
end PvK09
end

noncomputable section
namespace PvK09
open PySem PySem.Spec PyProof.Rows L2 PV
open PvH (Rg cr Conv Tri conv_tri)
open PvR (BdP Bd bdP_of cross_ok ne_pt at_neg)
abbrev rv (H : List P2) : PyData := .tuple (H.map mkP)
theorem at_map {H : List P2} {i : Nat} {a : P2} (h : H[i]? = some a) {I : Int} (hi : I = i) : L2.atI (H.map mkP) I = some (mkP a) := by
  rw [hi]
  exact atI_nat (by rw [List.getElem?_map, h]; rfl)
theorem due1 {H : List P2} (hb : ∀ p ∈ H, Bq p) (h8 : H.length ≤ 8) {n I J : Int} (hn : n = H.length) {i j : Nat} (hi : I = i) (hj : J = j) {a b : P2} (ea : H[i]? = some a) (eb : H[j]? = some b) :
    (∀ k c, j < k → H[k]? = some c → 0 < cr a b c) ∧ b__law_due_1 [some (.d (rv H)), some (.d (.int I)), some (.d (.int J)), none, none] = some (.nx, [some (.d (rv H)), some (.d (.int I)), some (.d (.int J)), none, none]) ∨
    (¬ ∀ k c, j < k → H[k]? = some c → 0 < cr a b c) ∧ b__law_due_1 [some (.d (rv H)), some (.d (.int I)), some (.d (.int J)), none, none] = some (.rt (.d (.bool false)), [some (.d (rv H)), some (.d (.int I)), some (.d (.int J)), none, none]) := by
  have bd : ∀ p ∈ H, BdP p := fun p hp => bdP_of (hb p hp).1 (hb p hp).2
  have am : a ∈ H := List.mem_of_getElem? ea
  have bm : b ∈ H := List.mem_of_getElem? eb
  have jl : j < H.length := (List.getElem?_eq_some_iff.mp eb).1
  obtain ⟨pq, hpq⟩ : ∃ pq : PyData → Bool, ∀ (k : Nat) (c : P2), H[k]? = some c → pq (.int (k : Int)) = decide (cr a b c ≤ 0) :=
    ⟨fun d => match d with
      | .int k => match H[k.toNat]? with
        | some c => decide (cr a b c ≤ 0)
        | none => false
      | _ => false, fun k c h => by simp [h]⟩
  have rmem : ∀ d ∈ rangeL (J + 1) (n - (J + 1)).toNat, ∃ (k : Nat) (c : P2), j < k ∧ H[k]? = some c ∧ d = .int (k : Int) := fun d hd => by
    obtain ⟨m, hm, rfl⟩ := mem_range hd
    have hk : j + 1 + m < H.length := by omega
    exact ⟨j + 1 + m, _, by omega, List.getElem?_eq_getElem hk, by congr 1; omega⟩
  have g := comp_fil (i := 4) (c := cmpB (PV.fz (callF c__law_cross (consD (PV.fz (bin (rdM 0) (rdM 1) ixD)) (consD (PV.fz (bin (rdM 0) (rdM 2) ixD)) (consD (PV.fz (bin (rdM 0) (rdM 4) ixD)) (M.ret [])))))) (M.ret (.int 0)) leD) (f := M.ret (.int 1)) (p := pq) (g := fun _ => .int 1)
    (env := [some (.d (rv H)), some (.d (.int I)), some (.d (.int J)), none, none]) (by simp) (ds := rangeL (J + 1) (n - (J + 1)).toNat) (acc := []) (fun d hd => by
      obtain ⟨k, c, k1, k2, rfl⟩ := rmem d hd
      obtain ⟨Kk, hK⟩ : ∃ Kk : Int, Kk = (k : Int) := ⟨_, rfl⟩
      have hq := hpq k c k2
      rw [← hK] at hq ⊢
      have e0 : (blkE [4] [some (.d (rv H)), some (.d (.int I)), some (.d (.int J)), none, none]).set 4 (some (.d (.int Kk))) = [some (.d (rv H)), some (.d (.int I)), some (.d (.int J)), none, some (.d (.int Kk))] := rfl
      rw [e0]
      have a1 := at_map ea hi
      have a2 := at_map eb hj
      have a3 := at_map k2 hK
      have cx := cross_ok (bd a am) (bd b bm) (bd c (List.mem_of_getElem? k2))
      rw [x_cross]
      unfold rv
      generalize H.map mkP = HL at *
      generalize mkP a = A at *
      generalize mkP b = B at *
      generalize mkP c = C at *
      simp [a1, a2, a3, cx, hq]) (fun d hd _ => by simp) (by unfold rangeL; simp; omega)
  rw [List.nil_append] at g
  have gn := ones_ne pq (rangeL (J + 1) (n - (J + 1)).toNat)
  have iff : ((rangeL (J + 1) (n - (J + 1)).toNat).any pq = false) ↔ ∀ k c, j < k → H[k]? = some c → 0 < cr a b c := by
    rw [List.any_eq_false]
    constructor
    · intro h k c h1 h2
      have hl : k < H.length := (List.getElem?_eq_some_iff.mp h2).1
      have := h (.int (k : Int)) (by
        unfold rangeL
        exact List.mem_map.mpr ⟨k - (j + 1), List.mem_range.mpr (by omega), by congr 1; omega⟩)
      rw [hpq k c h2, decide_eq_true_eq] at this
      omega
    · intro h d hd
      obtain ⟨k, c, k1, k2, rfl⟩ := rmem d hd
      rw [hpq k c k2, decide_eq_true_eq]
      have := h k c k1 k2
      omega
  have nm : noMu [4] [some (.d (rv H)), some (.d (.int I)), some (.d (.int J)), none, none] = true := rfl
  have ln : ((H.map mkP).length : Int) = n := by rw [List.length_map, hn]
  have r1 : -(2 ^ 62) ≤ J + 1 := by omega
  have r2 : J + 1 < 2 ^ 62 := by omega
  have r3 : -(2 ^ 62) ≤ n := by omega
  have r4 : n < 2 ^ 62 := by omega
  have r5 : (-(2 ^ 62) ≤ J + 1 ∧ J + 1 < 2 ^ 62) ∧ -(2 ^ 62) ≤ n ∧ n < 2 ^ 62 := ⟨⟨r1, r2⟩, r3, r4⟩
  have rg : (if (-(2 ^ 62) ≤ J + 1 ∧ J + 1 < 2 ^ 62) ∧ -(2 ^ 62) ≤ n ∧ n < 2 ^ 62 then some (rangeL (J + 1) (n - (J + 1)).toNat) else none) = some (rangeL (J + 1) (n - (J + 1)).toNat) := if_pos r5
  obtain ⟨RL, hRL⟩ : ∃ RL, RL = rangeL (J + 1) (n - (J + 1)).toNat := ⟨_, rfl⟩
  rw [← hRL] at g gn iff
  replace rg := rg.trans (congrArg some hRL.symm)
  clear hRL rmem
  unfold rv at *
  unfold b__law_due_1
  generalize H.map mkP = HL at *
  cases hq : RL.any pq with
  | false =>
    refine .inl ⟨iff.mp hq, ?_⟩
    rw [hq] at gn
    generalize (RL.filter pq).map (fun _ => PyData.int 1) = ZL at g gn
    simp [-Int.reducePow, e_compM, ln, rg, nm, g, gn]
  | true =>
    refine .inr ⟨fun z => Bool.noConfusion ((iff.mpr z).symm.trans hq), ?_⟩
    rw [hq] at gn
    generalize (RL.filter pq).map (fun _ => PyData.int 1) = ZL at g gn
    simp [-Int.reducePow, e_compM, ln, rg, nm, g, gn]
end PvK09
end

noncomputable section
namespace PvK09
open PySem PySem.Spec PyProof.Rows L2 PV
open PvH (Rg cr Conv Tri conv_tri)
open PvR (BdP Bd bdP_of cross_ok ne_pt at_neg)
theorem rngI {lo n : Int} (h1 : 0 ≤ lo) (h2 : lo ≤ 1000) (h3 : 0 ≤ n) (h4 : n ≤ 1000) : (if (-(2 ^ 62) ≤ lo ∧ lo < 2 ^ 62) ∧ -(2 ^ 62) ≤ n ∧ n < 2 ^ 62 then some (rangeL lo (n - lo).toNat) else none) = some (rangeL lo (n - lo).toNat) := by
  rw [if_pos]
  have e : (2 : Int) ^ 62 = 4611686018427387904 := by decide
  rw [e]
  omega
theorem due2 {H : List P2} (hb : ∀ p ∈ H, Bq p) (h8 : H.length ≤ 8) {n I : Int} (hn : n = H.length) {i : Nat} (hi : I = i) {a : P2} (ea : H[i]? = some a) {s2 : Option Sl} (n2 : NM s2) :
    (∀ (j k : Nat) (b c : P2), i < j → j < k → H[j]? = some b → H[k]? = some c → 0 < cr a b c) ∧ (∃ t2, b__law_due_2 [some (.d (rv H)), some (.d (.int I)), s2, none, none] = some (.nx, [some (.d (rv H)), some (.d (.int I)), t2, none, none]) ∧ NM t2) ∨
    (¬ ∀ (j k : Nat) (b c : P2), i < j → j < k → H[j]? = some b → H[k]? = some c → 0 < cr a b c) ∧ (∃ t2, b__law_due_2 [some (.d (rv H)), some (.d (.int I)), s2, none, none] = some (.rt (.d (.bool false)), [some (.d (rv H)), some (.d (.int I)), t2, none, none]) ∧ NM t2) := by
  have il : i < H.length := (List.getElem?_eq_some_iff.mp ea).1
  have rg := rngI (lo := I + 1) (n := n) (by omega) (by omega) (by omega) (by omega)
  have ln : ((H.map mkP).length : Int) = n := by rw [List.length_map, hn]
  have rmem : ∀ d ∈ rangeL (I + 1) (n - (I + 1)).toNat, ∃ (j : Nat) (b : P2), i < j ∧ H[j]? = some b ∧ d = .int (j : Int) := fun d hd => by
    obtain ⟨m, hm, rfl⟩ := mem_range hd
    have hk : i + 1 + m < H.length := by omega
    exact ⟨i + 1 + m, _, by omega, List.getElem?_eq_getElem hk, by congr 1; omega⟩
  have fc := forL_chk (t := nameT 2) (b := b__law_due_1) (v := .bool false) (ds := rangeL (I + 1) (n - (I + 1)).toNat)
    (fun env => ∃ t2 : Option Sl, env = [some (.d (rv H)), some (.d (.int I)), t2, none, none] ∧ NM t2)
    (fun d => ∃ (j : Nat) (b : P2), H[j]? = some b ∧ d = .int (j : Int) ∧ ∀ k c, j < k → H[k]? = some c → 0 < cr a b c)
    (env := [some (.d (rv H)), some (.d (.int I)), s2, none, none])
    (fun d hd env ⟨t2, he, m2⟩ => by
      subst he
      obtain ⟨j, b, j1, j2, rfl⟩ := rmem d hd
      obtain ⟨J, hJ⟩ : ∃ J : Int, J = (j : Int) := ⟨_, rfl⟩
      rw [← hJ]
      have tt : nameT 2 (.int J) [some (.d (rv H)), some (.d (.int I)), t2, none, none] = some [some (.d (rv H)), some (.d (.int I)), some (.d (.int J)), none, none] := by
        simp [-e_store, s_zero, s_succ, m2]
      refine ⟨_, tt, ?_⟩
      rcases due1 hb h8 hn hi hJ ea j2 with ⟨k1, k2⟩ | ⟨k1, k2⟩
      · exact .inl ⟨⟨j, b, j2, by rw [hJ], k1⟩, _, k2, _, rfl, by simp⟩
      · refine .inr ⟨fun ⟨j', b', e1, e2, e3⟩ => k1 ?_, _, k2, _, rfl, by simp⟩
        have : j = j' := by injection e2 with e2; omega
        subst this
        rw [j2] at e1; cases e1
        exact e3)
    ⟨s2, rfl, n2⟩
  have iff : (∀ d ∈ rangeL (I + 1) (n - (I + 1)).toNat, ∃ (j : Nat) (b : P2), H[j]? = some b ∧ d = .int (j : Int) ∧ ∀ k c, j < k → H[k]? = some c → 0 < cr a b c) ↔ (∀ (j k : Nat) (b c : P2), i < j → j < k → H[j]? = some b → H[k]? = some c → 0 < cr a b c) := by
    constructor
    · intro h j k b c h1 h2 hb' hc
      have hl : j < H.length := (List.getElem?_eq_some_iff.mp hb').1
      obtain ⟨j', b', e1, e2, e3⟩ := h (.int (j : Int)) (by
        unfold rangeL
        exact List.mem_map.mpr ⟨j - (i + 1), List.mem_range.mpr (by omega), by congr 1; omega⟩)
      have : j = j' := by injection e2 with e2; omega
      subst this
      rw [hb'] at e1; cases e1
      exact e3 k c h2 hc
    · intro h d hd
      obtain ⟨j, b, j1, j2, rfl⟩ := rmem d hd
      exact ⟨j, b, j2, rfl, fun k c h1 h2 => h j k b c j1 h1 j2 h2⟩
  rw [iff] at fc
  obtain ⟨RL, hRL⟩ : ∃ RL, RL = rangeL (I + 1) (n - (I + 1)).toNat := ⟨_, rfl⟩
  rw [← hRL] at fc
  replace rg := rg.trans (congrArg some hRL.symm)
  clear iff rmem hRL
  unfold b__law_due_2
  unfold rv at *
  generalize H.map mkP = HL at *
  rcases fc with ⟨k1, e, f1, t2, rfl, m2⟩ | ⟨k1, e, f1, t2, rfl, m2⟩
  · exact .inl ⟨k1, t2, by simp [-Int.reducePow, ln, rg, f1], m2⟩
  · exact .inr ⟨k1, t2, by simp [-Int.reducePow, ln, rg, f1], m2⟩
theorem due3 {H : List P2} (hb : ∀ p ∈ H, Bq p) (h8 : H.length ≤ 8) :
    Tri H ∧ (∃ e, forL (nameT 1) b__law_due_2 (rangeL 0 H.length) [some (.d (rv H)), none, none, none, none] = some (.nx, e)) ∨
    ¬ Tri H ∧ (∃ e, forL (nameT 1) b__law_due_2 (rangeL 0 H.length) [some (.d (rv H)), none, none, none, none] = some (.rt (.d (.bool false)), e)) := by
  obtain ⟨n, hn⟩ : ∃ n : Int, n = H.length := ⟨_, rfl⟩
  have rmem : ∀ d ∈ rangeL 0 H.length, ∃ (i : Nat) (a : P2), H[i]? = some a ∧ d = .int (i : Int) := fun d hd => by
    obtain ⟨m, hm, rfl⟩ := mem_range hd
    exact ⟨m, _, List.getElem?_eq_getElem hm, by congr 1; omega⟩
  have fc := forL_chk (t := nameT 1) (b := b__law_due_2) (v := .bool false) (ds := rangeL 0 H.length)
    (fun env => ∃ t1 t2 : Option Sl, env = [some (.d (rv H)), t1, t2, none, none] ∧ NM t1 ∧ NM t2)
    (fun d => ∃ (i : Nat) (a : P2), H[i]? = some a ∧ d = .int (i : Int) ∧ ∀ (j k : Nat) (b c : P2), i < j → j < k → H[j]? = some b → H[k]? = some c → 0 < cr a b c)
    (env := [some (.d (rv H)), none, none, none, none])
    (fun d hd env ⟨t1, t2, he, m1, m2⟩ => by
      subst he
      obtain ⟨i, a, i1, rfl⟩ := rmem d hd
      obtain ⟨I, hI⟩ : ∃ I : Int, I = (i : Int) := ⟨_, rfl⟩
      rw [← hI]
      have tt : nameT 1 (.int I) [some (.d (rv H)), t1, t2, none, none] = some [some (.d (rv H)), some (.d (.int I)), t2, none, none] := by
        simp [-e_store, s_zero, s_succ, m1]
      refine ⟨_, tt, ?_⟩
      rcases due2 hb h8 hn hI i1 m2 with ⟨k1, t, k2, k3⟩ | ⟨k1, t, k2, k3⟩
      · exact .inl ⟨⟨i, a, i1, by rw [hI], k1⟩, _, k2, _, t, rfl, by simp, k3⟩
      · refine .inr ⟨fun ⟨i', a', e1, e2, e3⟩ => k1 ?_, _, k2, _, t, rfl, by simp, k3⟩
        have : i = i' := by injection e2 with e2; omega
        subst this
        rw [i1] at e1; cases e1
        exact e3)
    ⟨none, none, rfl, by simp, by simp⟩
  have iff : (∀ d ∈ rangeL 0 H.length, ∃ (i : Nat) (a : P2), H[i]? = some a ∧ d = .int (i : Int) ∧ ∀ (j k : Nat) (b c : P2), i < j → j < k → H[j]? = some b → H[k]? = some c → 0 < cr a b c) ↔ Tri H := by
    constructor
    · intro h i j k a b c h1 h2 ha hb' hc
      have hl : i < H.length := (List.getElem?_eq_some_iff.mp ha).1
      obtain ⟨i', a', e1, e2, e3⟩ := h (.int (i : Int)) (by
        unfold rangeL
        exact List.mem_map.mpr ⟨i, List.mem_range.mpr hl, by congr 1; omega⟩)
      have : i = i' := by injection e2 with e2; omega
      subst this
      rw [ha] at e1; cases e1
      exact e3 j k b c h1 h2 hb' hc
    · intro h d hd
      obtain ⟨i, a, i1, rfl⟩ := rmem d hd
      exact ⟨i, a, i1, rfl, fun j k b c h1 h2 hb' hc => h i j k a b c h1 h2 i1 hb' hc⟩
  rw [iff] at fc
  rcases fc with ⟨k1, e, f1, _⟩ | ⟨k1, e, f1, _⟩
  · exact .inl ⟨k1, e, f1⟩
  · exact .inr ⟨k1, e, f1⟩
end PvK09
end

noncomputable section
namespace PvK09
open PySem PySem.Spec PyProof.Rows L2 PV
open PvH (Rg cr Conv Tri conv_tri)
open PvR (BdP Bd bdP_of cross_ok ne_pt at_neg)
def Gr (x : PyData) : Prop := ∃ H : List P2, x = rv H ∧ (∀ p ∈ H, Bq p) ∧ 1 ≤ H.length ∧ H.length ≤ 8
theorem isr_comp (ds : List PyData) (hl : ds.length ≤ 8) : compL (nameT 1) [1] (M.ret true) (PV.fz (callF c_is_corner (consD (rdM 1) (M.ret [])))) ds [] [some (.d (.tuple ds)), none] = some (ds.map (fun d => .bool (isC d)), [some (.d (.tuple ds)), none]) := by
  have g := comp_pure (i := 1) (f := PV.fz (callF c_is_corner (consD (rdM 1) (M.ret [])))) (g := fun d => .bool (isC d)) (env := [some (.d (.tuple ds)), none]) (by simp) (ds := ds) (acc := []) (fun d hd => comp_call1 (by simp) (corner_any d)) (by simp; omega)
  rw [List.nil_append] at g
  exact g
theorem due_comp (ds : List PyData) (hl : ds.length ≤ 8) : compL (nameT 3) [3] (notB (tru (PV.fz (callF c__law_is_corner (consD (rdM 3) (M.ret [])))))) (M.ret (.int 1)) ds [] [some (.d (.tuple ds)), none, none, none, none] = some ((ds.filter fun d => !isC d).map (fun _ => .int 1), [some (.d (.tuple ds)), none, none, none, none]) := by
  have g := comp_fil (i := 3) (c := notB (tru (PV.fz (callF c__law_is_corner (consD (rdM 3) (M.ret [])))))) (f := M.ret (.int 1)) (p := fun d => !isC d) (g := fun _ => .int 1) (env := [some (.d (.tuple ds)), none, none, none, none]) (by simp) (ds := ds) (acc := []) (fun d hd => by
    have e0 : (blkE [3] [some (.d (.tuple ds)), none, none, none, none]).set 3 (some (.d d)) = [some (.d (.tuple ds)), none, none, some (.d d), none] := rfl
    rw [e0]
    simp [lcorner_any d]) (fun d hd _ => by simp) (by simp; omega)
  rw [List.nil_append] at g
  exact g
theorem rng0I {n : Int} (h3 : 0 ≤ n) (h4 : n ≤ 1000) : (if -(2 ^ 62) ≤ n ∧ n < 2 ^ 62 then some (rangeL 0 n.toNat) else none) = some (rangeL 0 n.toNat) := by
  rw [if_pos]
  have e : (2 : Int) ^ 62 = 4611686018427387904 := by decide
  rw [e]
  omega
theorem rng1_of {fl : M (List PyData)} {n : Int} {env env' : SEnv} (h : fl env = some (.ok [.int n], env')) (h0 : 0 ≤ n) (h1 : n ≤ 1000) : rng1 fl env = some (.ok (rangeL 0 n.toNat), env') := by
  have r := rng0I h0 h1
  show M.bnd fl _ env = _
  unfold M.bnd
  rw [h]
  dsimp only
  rw [r]
  rfl
theorem for_of {fl : M (List PyData)} {t : Tgt} {b : Stm} {ds : List PyData} {env env' : SEnv} {r : Option (Fl × SEnv)} (h : fl env = some (.ok ds, env')) (hf : forL t b ds env' = r) : forS fl t b env = r := by
  rw [e_for, e_then, h]
  exact hf
def p__law_due_1 : Stm :=
  ifS (orB (notB (tru (isiM .tuple (rdM 0)))) (orB (cmpB (rdM 0) (tupM (M.ret [])) eqF) (cmpB (PV.fz (calM (consA (rdM 0) (M.ret [])) lenD)) (M.ret (.int 8)) gtD)))
    (retS (toV (M.ret (.bool false))))
    (nilS)
def p__law_due_2 : Stm :=
  ifS (cmpB (PV.fz (compM (seqI (rdM 0)) (nameT 3) [3] (notB (tru (PV.fz (callF c__law_is_corner (consD (rdM 3) (M.ret [])))))) (M.ret (.int 1)))) (PV.fz (lstM (M.ret []))) neD)
    (retS (toV (M.ret (.bool false))))
    (nilS)
def p__law_due_3 : Stm :=
  ifS (cmpB (PV.fz (calM (consA (rdM 0) (M.ret [])) lenD)) (M.ret (.int 2)) eqD)
    (retS (PV.bin (PV.fz (PV.bin (rdM 0) (M.ret (.int 0)) ixD)) (PV.fz (PV.bin (rdM 0) (M.ret (.int 1)) ixD)) neD))
    (nilS)
def p__law_due_4 : Stm :=
  forS (rng1 (consA (PV.fz (calM (consA (rdM 0) (M.ret [])) lenD)) (M.ret []))) (nameT 1)
    (b__law_due_2)
def p__law_due_5 : Stm :=
  retS (toV (M.ret (.bool true)))
theorem split__law_due : sem__law_due = seqS p__law_due_1 (seqS p__law_due_2 (seqS p__law_due_3 (seqS p__law_due_4 (p__law_due_5)))) := rfl
theorem run_d {n : Nat} {f : Stm} {d x : PyData} {e : SEnv} (h : f (some (.d d) :: List.replicate n none) = some (.rt (.d x), e)) : runFn (n + 1) 1 f [.d d] = some (.ok (.d x), []) := by
  simp [h]
theorem seq_nx {f g : Stm} {env e : SEnv} (h : f env = some (.nx, e)) : seqS f g env = g e := by
  simp [h]
theorem seq_rt {f g : Stm} {env e : SEnv} {v : Vl} (h : f env = some (.rt v, e)) : seqS f g env = some (.rt v, e) := by
  simp [h]
theorem due_of {H : List P2} (hb : ∀ p ∈ H, Bq p) (h1 : 1 ≤ H.length) (h8 : H.length ≤ 8) (b : Bool) (h2 : H.length ≠ 2) (hf : ∃ e, forL (nameT 1) b__law_due_2 (rangeL 0 H.length) [some (.d (rv H)), none, none, none, none] = some (if b = true then .nx else .rt (.d (.bool false)), e)) : c__law_due [.d (rv H)] = some (.ok (.d (.bool b)), []) := by
  have ac : (H.map mkP).all isC = true := isC_allOf hb
  have g2 := due_comp (H.map mkP) (by simpa using h8)
  have on := ones_ne (fun d => !isC d) (H.map mkP)
  have an : ((H.map mkP).any fun d => !isC d) = false := by
    rw [List.any_eq_false]
    intro d hd
    have := List.all_eq_true.mp ac d hd
    rw [this]; decide
  rw [an] at on
  have nm3 : noMu [3] [some (.d (.tuple (H.map mkP))), none, none, none, none] = true := rfl
  have ne : (H.map mkP).isEmpty = false := by
    cases H with
    | nil => simp at h1
    | cons p r => rfl
  obtain ⟨e, hf⟩ := hf
  obtain ⟨n, hn⟩ : ∃ n : Int, n = (H.length : Int) := ⟨_, rfl⟩
  have ln : lenD [.tuple (H.map mkP)] = some (.d (.int n)) := by rw [o_lenT, List.length_map, hn]
  have l2 : ¬ n = 2 := by omega
  have l8 : ¬ 8 < n := by omega
  have rg0 : rng1 (consA (PV.fz (calM (consA (rdM 0) (M.ret [])) lenD)) (M.ret [])) [some (.d (.tuple (H.map mkP))), none, none, none, none] = some (.ok (rangeL 0 n.toNat), [some (.d (.tuple (H.map mkP))), none, none, none, none]) := rng1_of (by
    generalize PyData.tuple (H.map mkP) = T at *
    simp [ln]) (by omega) (by omega)
  rw [show H.length = n.toNat by omega] at hf
  generalize rangeL 0 n.toNat = RL at *
  have e2 : eqD (.int n) (.int 2) = some (.d (.bool false)) := by rw [o_eqI, decide_eq_false l2]
  have t1 : isTy .tuple (.tuple (H.map mkP)) = true := rfl
  have t2 : itemsD (.tuple (H.map mkP)) = some (H.map mkP) := rfl
  have t3 : eqF (.tuple (H.map mkP)) (.tuple []) = some (.d (.bool false)) := by rw [o_eqF, ne]
  generalize (List.filter (fun d => !isC d) (H.map mkP)).map (fun _ => PyData.int 1) = ZL at *
  unfold rv at *
  generalize PyData.tuple (H.map mkP) = T at *
  generalize H.map mkP = HL at *
  have s1 : p__law_due_1 [some (.d T), none, none, none, none] = some (.nx, [some (.d T), none, none, none, none]) := by
    unfold p__law_due_1
    simp [t1, t3, ln, l8]
  have s2 : p__law_due_2 [some (.d T), none, none, none, none] = some (.nx, [some (.d T), none, none, none, none]) := by
    unfold p__law_due_2
    simp [t2, e_compM, nm3, g2, on]
  have s3 : p__law_due_3 [some (.d T), none, none, none, none] = some (.nx, [some (.d T), none, none, none, none]) := by
    unfold p__law_due_3
    simp [ln, e2]
  have s4 : p__law_due_4 _ = _ := for_of rg0 hf
  have s5 : ∀ e, p__law_due_5 e = some (.rt (.d (.bool true)), e) := fun e => by
    unfold p__law_due_5
    simp
  unfold c__law_due
  rw [split__law_due]
  refine run_d (n := 4) (e := e) ?_
  show seqS p__law_due_1 _ [some (.d T), none, none, none, none] = _
  rw [seq_nx s1, seq_nx s2, seq_nx s3]
  cases b with
  | true =>
    rw [if_pos rfl] at s4
    rw [seq_nx s4, s5]
  | false =>
    rw [if_neg (by decide)] at s4
    rw [seq_rt s4]
theorem corners (H : List P2) (hb : ∀ p ∈ H, Bq p) (h1 : 1 ≤ H.length) (h8 : H.length ≤ 8) : ∃ b : Bool, c_is_ring [.d (rv H)] = some (.ok (.d (.bool b)), []) ∧ c__law_due [.d (rv H)] = some (.ok (.d (.bool b)), []) := by
  have ac : (H.map mkP).all isC = true := isC_allOf hb
  have g1 := isr_comp (H.map mkP) (by simpa using h8)
  have g2 := due_comp (H.map mkP) (by simpa using h8)
  have al := all_map isC (H.map mkP)
  have on := ones_ne (fun d => !isC d) (H.map mkP)
  rw [ac] at al
  have an : ((H.map mkP).any fun d => !isC d) = false := by
    rw [List.any_eq_false]
    intro d hd
    have := List.all_eq_true.mp ac d hd
    rw [this]; decide
  rw [an] at on
  have nm : noMu [1] [some (.d (.tuple (H.map mkP))), none] = true := rfl
  have nm3 : noMu [3] [some (.d (.tuple (H.map mkP))), none, none, none, none] = true := rfl
  have la : (1 : Int) ≤ ((H.map mkP).length : Int) := by rw [List.length_map]; omega
  have lb : ((H.map mkP).length : Int) ≤ 8 := by rw [List.length_map]; omega
  have ne : (H.map mkP).isEmpty = false := by
    cases H with
    | nil => simp at h1
    | cons p r => rfl
  have d3 := due3 hb h8
  have due := fun (b : Bool) (h2 : H.length ≠ 2) h => due_of hb h1 h8 b h2 h
  by_cases h3 : 3 ≤ H.length
  · have c := convex_any hb h1 h8
    have isr : ∀ b : Bool, c_is_convex [.d (rv H)] = some (.ok (.d (.bool b)), []) → c_is_ring [.d (rv H)] = some (.ok (.d (.bool b)), []) := by
      intro b hc
      have l3 : ¬ ((H.map mkP).length : Int) < 3 := by rw [List.length_map]; omega
      unfold c_is_ring sem_is_ring
      unfold rv at *
      generalize (H.map mkP).map (fun d => PyData.bool (isC d)) = BL at *
      generalize H.map mkP = HL at *
      obtain ⟨n, hn⟩ : ∃ n : Int, n = HL.length := ⟨_, rfl⟩
      rw [← hn] at la lb l3
      simp [isTy, chnB, blO, ← hn, la, lb, e_compM, nm, g1, al, l3, hc]
    rw [conv_tri] at c
    rcases c with ⟨k1, k2⟩ | ⟨k1, k2⟩
    · rcases d3 with ⟨_, e, hf⟩ | ⟨k3, _⟩
      · exact ⟨true, isr true k2, due true (by omega) ⟨e, by rw [if_pos rfl]; exact hf⟩⟩
      · exact absurd k1 k3
    · rcases d3 with ⟨k3, _⟩ | ⟨_, e, hf⟩
      · exact absurd k3 k1
      · exact ⟨false, isr false k2, due false (by omega) ⟨e, by rw [if_neg (by decide)]; exact hf⟩⟩
  · match H, h1, h3 with
    | [p], _, _ =>
      have k1 := ne_pt p p
      simp only [decide_true, Bool.and_self, Bool.not_true] at k1
      have tr : Tri [p] := by
        intro i j k a b c hij hjk ha hb' hc
        have := (List.getElem?_eq_some_iff.mp hc).1
        simp at this; omega
      refine ⟨true, ?_, ?_⟩
      · show c_is_ring [.d (.tuple [mkP p])] = _
        unfold c_is_ring sem_is_ring
        simp only [List.map_cons, List.map_nil] at *
        have a1 : L2.atI [mkP p] (-1) = some (mkP p) := at_neg (k := 0) rfl
        simp [isTy, chnB, blO, e_compM, nm, g1, al, a1, k1]
      · rcases d3 with ⟨_, e, hf⟩ | ⟨k3, _⟩
        · exact due true (by simp) ⟨e, by rw [if_pos rfl]; exact hf⟩
        · exact absurd tr k3
    | [p, q], _, _ =>
      have k1 := ne_pt p q
      refine ⟨!(decide (p.1 = q.1) && decide (p.2 = q.2)), ?_, ?_⟩
      · show c_is_ring [.d (.tuple [mkP p, mkP q])] = _
        unfold c_is_ring sem_is_ring
        simp only [List.map_cons, List.map_nil] at *
        have a1 : L2.atI [mkP p, mkP q] (-1) = some (mkP q) := at_neg (k := 0) rfl
        generalize (!(decide (p.1 = q.1) && decide (p.2 = q.2))) = B at *
        generalize mkP p = P at *
        generalize mkP q = Q at *
        cases B <;> simp [isTy, chnB, blO, e_compM, nm, g1, al, a1, k1]
      · show c__law_due [.d (.tuple [mkP p, mkP q])] = _
        unfold c__law_due sem__law_due
        clear due d3
        unfold rv at *
        generalize (List.filter (fun d => !isC d) ([p, q].map mkP)).map (fun _ => PyData.int 1) = ZL at *
        simp only [List.map_cons, List.map_nil] at *
        generalize (!(decide (p.1 = q.1) && decide (p.2 = q.2))) = B at *
        generalize mkP p = P at *
        generalize mkP q = Q at *
        have q1 : L2.atI [P, Q] 1 = some Q := rfl
        simp [isTy, e_compM, nm3, g2, on, k1, q1]
    | p :: q :: r :: t, _, h3 => exact absurd (by simp) h3
theorem not_tup {x : PyData} (h : ∀ ds, x ≠ .tuple ds) : c_is_ring [.d x] = some (.ok (.d (.bool false)), []) ∧ c__law_due [.d x] = some (.ok (.d (.bool false)), []) := by
  unfold c_is_ring sem_is_ring c__law_due sem__law_due
  cases x with
  | tuple ds => exact absurd rfl (h ds)
  | _ => simp [isTy]
theorem ring_any (x : PyData) : ∃ b : Bool, c_is_ring [.d x] = some (.ok (.d (.bool b)), []) ∧ c__law_due [.d x] = some (.ok (.d (.bool b)), []) ∧ (b = true → Gr x) := by
  by_cases hx : ∃ ds, x = .tuple ds
  · obtain ⟨ds, rfl⟩ := hx
    by_cases h0 : ds.length = 0
    · have : ds = [] := List.length_eq_zero_iff.mp h0
      subst this
      refine ⟨false, ?_, ?_, fun h => nomatch h⟩
      · unfold c_is_ring sem_is_ring
        simp [isTy, chnB, blO]
      · unfold c__law_due sem__law_due
        simp [isTy]
    · have ne : ds.isEmpty = false := by
        cases ds with
        | nil => simp at h0
        | cons => rfl
      by_cases h8 : ds.length ≤ 8
      · by_cases hc : ds.all isC = true
        · obtain ⟨H, rfl, hb⟩ := isC_all hc
          rw [List.length_map] at h0 h8
          obtain ⟨b, b1, b2⟩ := corners H hb (by omega) h8
          exact ⟨b, b1, b2, fun _ => ⟨H, rfl, hb, by omega, h8⟩⟩
        · refine ⟨false, ?_, ?_, fun h => nomatch h⟩
          · have g1 := isr_comp ds h8
            have al := all_map isC ds
            rw [Bool.eq_false_iff.mpr hc] at al
            have nm : noMu [1] [some (.d (.tuple ds)), none] = true := rfl
            obtain ⟨n, hn⟩ : ∃ n : Int, n = ds.length := ⟨_, rfl⟩
            have la : (1 : Int) ≤ n := by omega
            have lb : n ≤ 8 := by omega
            unfold c_is_ring sem_is_ring
            generalize ds.map (fun d => PyData.bool (isC d)) = BL at *
            simp [isTy, chnB, blO, ← hn, la, lb, e_compM, nm, g1, al]
          · have g2 := due_comp ds h8
            have on := ones_ne (fun d => !isC d) ds
            have an : (ds.any fun d => !isC d) = true := by
              rw [List.any_eq_true]
              rw [List.all_eq_true] at hc
              obtain ⟨d, hd⟩ := Classical.not_forall.mp hc
              obtain ⟨h1, h2⟩ := Classical.not_imp.mp hd
              exact ⟨d, h1, by rw [Bool.eq_false_iff.mpr h2]; rfl⟩
            rw [an] at on
            have nm3 : noMu [3] [some (.d (.tuple ds)), none, none, none, none] = true := rfl
            obtain ⟨n, hn⟩ : ∃ n : Int, n = ds.length := ⟨_, rfl⟩
            have l8 : ¬ 8 < n := by omega
            unfold c__law_due sem__law_due
            generalize (List.filter (fun d => !isC d) ds).map (fun _ => PyData.int 1) = ZL at *
            simp [isTy, e_compM, ne, ← hn, l8, nm3, g2, on]
      · obtain ⟨n, hn⟩ : ∃ n : Int, n = ds.length := ⟨_, rfl⟩
        have l1 : (1 : Int) ≤ n := by omega
        have l8 : 8 < n := by omega
        have l8' : ¬ n ≤ 8 := by omega
        refine ⟨false, ?_, ?_, fun h => nomatch h⟩
        · unfold c_is_ring sem_is_ring
          simp [isTy, chnB, blO, ← hn, l1, l8']
        · unfold c__law_due sem__law_due
          simp [isTy, ne, ← hn, l8]
  · obtain ⟨h1, h2⟩ := not_tup (fun ds z => hx ⟨ds, z⟩)
    exact ⟨false, h1, h2, fun h => nomatch h⟩
theorem eq_bool (b : Bool) : eqD (.bool b) (.bool b) = some (.d (.bool true)) := by cases b <;> rfl
theorem right_ok {x : PyData} (h : Okr x) : c__law_right [.d x] = some (.ok (.d (.bool true)), []) := by
  obtain ⟨b, b1, b2, _⟩ := ring_any x
  have r := o_repr h
  unfold c__law_right sem__law_right
  simp [isTy, r, b1, b2, eq_bool]
end PvK09
end

noncomputable section
namespace PvK09
open PySem PySem.Spec PyProof.Rows L2 PV
open PvR (pow9)
/-- a part of a ring, odd or not -/
def It (x : PyData) : Prop := Okp 3 900 x
theorem it_int {i : Int} (h : i.natAbs < 2 ^ 200) : It (.int i) := (okp_int (n := 200) h).mono (by decide) (by decide)
theorem it_t {xs : List PyData} (h : ∀ x ∈ xs, Okp 2 249 x) (hn : xs.length ≤ 3) : It (.tuple xs) := (okp_tup h hn).mono (by decide) (by decide)
theorem it_l {xs : List PyData} (h : ∀ x ∈ xs, Okp 2 249 x) (hn : xs.length ≤ 3) : It (.list xs) := (okp_lst h hn).mono (by decide) (by decide)
theorem i2 {i : Int} (h : i.natAbs < 2 ^ 200) : Okp 2 249 (.int i) := (okp_int (n := 200) h).mono (by decide) (by decide)
theorem i1 {i : Int} (h : i.natAbs < 2 ^ 40) : Okp 0 40 (.int i) := okp_int (n := 40) h
theorem str_int {i : Int} (h : i.natAbs ≤ 1000000000) : strD [.int i] = some (.d (.str (toString i))) ∧ Okp 2 249 (.str (toString i)) := by
  refine ⟨?_, ?_⟩
  · unfold strD
    dsimp only
    rw [if_pos (show i.natAbs.log2 < 1920 from Nat.lt_of_le_of_lt (log2_le (k := 40) (Nat.lt_of_le_of_lt h (by decide))) (by decide))]
  · refine (okp_str (n := 240) (sm_text _) ?_).mono (by decide) (by decide)
    have e := int_text_length_le10 (a := i) (k := 10) (by decide) (Nat.lt_of_le_of_lt h (by decide))
    show (Str.ofString (toString i)).length ≤ 240
    rw [PySem.ofString_length]
    omega
theorem two {P : PyData → Prop} {a b : PyData} (h1 : P a) (h2 : P b) : ∀ x ∈ [a, b], P x := fun x hx => by
  simp only [List.mem_cons, List.not_mem_nil, or_false] at hx
  rcases hx with rfl | rfl
  · exact h1
  · exact h2
theorem three {P : PyData → Prop} {a b c : PyData} (h1 : P a) (h2 : P b) (h3 : P c) : ∀ x ∈ [a, b, c], P x := fun x hx => by
  simp only [List.mem_cons, List.not_mem_nil, or_false] at hx
  rcases hx with rfl | rfl | rfl
  · exact h1
  · exact h2
  · exact h3
theorem one {P : PyData → Prop} {a : PyData} (h1 : P a) : ∀ x ∈ [a], P x := fun x hx => by
  simp only [List.mem_cons, List.not_mem_nil, or_false] at hx
  subst hx
  exact h1
def oddL (x y : Int) : List PyData :=
  [.tuple [.int x, .int y, .int 0], .tuple [.int x], .list [.int x, .int y], .tuple [.int x, .none], .tuple [.str (toString x), .int y], .tuple [.bool (decide (x = 1)), .int y], .tuple [.int x, .bool true], .tuple [.int (1000000000 + 1), .int y], .tuple [.int x, .dict []]] ++
  [.none, .int x, .tuple [], .tuple [.tuple [.int x, .int y]], .tuple [.int (10 ^ 40), .int y], .tuple [.int x, .tuple [.int y, .int 1]], .dict [], .str "corner", .tuple [.int x, .int (-(10 ^ 50))]] ++
  [.tuple [.int x, .int (-1000000001)]]
theorem odd_it {x y : Int} (hx : x.natAbs ≤ 1000000000) (hy : y.natAbs ≤ 1000000000) : ∀ v ∈ oddL x y, It v := by
  have X2 : Okp 2 249 (.int x) := i2 (Nat.lt_of_le_of_lt hx (by decide))
  have Y2 : Okp 2 249 (.int y) := i2 (Nat.lt_of_le_of_lt hy (by decide))
  have X0 : Okp 0 40 (.int x) := i1 (Nat.lt_of_le_of_lt hx (by decide))
  have Y0 : Okp 0 40 (.int y) := i1 (Nat.lt_of_le_of_lt hy (by decide))
  intro v hv
  unfold oddL at hv
  simp only [List.cons_append, List.nil_append, List.mem_cons, List.not_mem_nil, or_false] at hv
  rcases hv with rfl | rfl | rfl | rfl | rfl | rfl | rfl | rfl | rfl | rfl | rfl | rfl | rfl | rfl | rfl | rfl | rfl | rfl | rfl
  · exact it_t (three X2 Y2 (i2 (by decide))) (by simp)
  · exact it_t (one X2) (by simp)
  · exact it_l (two X2 Y2) (by simp)
  · exact it_t (two X2 (okp_none.mono (by decide) (by decide))) (by simp)
  · exact it_t (two (str_int hx).2 Y2) (by simp)
  · exact it_t (two ((okp_bool _).mono (by decide) (by decide)) Y2) (by simp)
  · exact it_t (two X2 ((okp_bool _).mono (by decide) (by decide))) (by simp)
  · exact it_t (two (i2 (by decide)) Y2) (by simp)
  · exact it_t (two X2 (okp_dict.mono (by decide) (by decide))) (by simp)
  · exact okp_none.mono (by decide) (by decide)
  · exact X2.mono (by decide) (by decide)
  · exact it_t (fun x hx => nomatch hx) (by simp)
  · exact it_t (one ((okp_tup (n := 2) (two X0 Y0) (by simp)).mono (by decide) (by decide))) (by simp)
  · exact it_t (two (i2 (by decide)) Y2) (by simp)
  · exact it_t (two X2 ((okp_tup (n := 2) (two Y0 (i1 (by decide))) (by simp)).mono (by decide) (by decide))) (by simp)
  · exact okp_dict.mono (by decide) (by decide)
  · exact (okp_str (n := 6) (sm_text _) (by decide)).mono (by decide) (by decide)
  · exact it_t (two X2 (i2 (by decide))) (by simp)
  · exact it_t (two X2 (i2 (by decide))) (by simp)
theorem pow40 : powD (.int 10) (.int 40) = some (.d (.int (10 ^ 40))) := o_pow (by decide) (by decide)
theorem pow50 : powD (.int 10) (.int 50) = some (.d (.int (10 ^ 50))) := o_pow (by decide) (by decide)
theorem oddc_ok {n : Nat} {pot : List PyData} {c : P2} (hc : Bq c) (hp : Pot n pot) (hn : n + 1 < 1000000) : ∃ v pot', c__law_odd_corner [.m pot, .d (mkP c)] = some (.ok (.d v), [pot']) ∧ It v ∧ Pot (n + 1) pot' := by
  obtain ⟨x, y⟩ := c
  have hx : x.natAbs ≤ 1000000000 := hc.1
  have hy : y.natAbs ≤ 1000000000 := hc.2
  obtain ⟨w, p1, f1, w0, w1, h1⟩ := take_spec hp (by omega) (m := 19) (by decide) (by decide)
  obtain ⟨v, ev, hv⟩ := pick (xs := oddL x y) w0 (by simpa [oddL] using w1)
  refine ⟨v, p1, ?_, odd_it hx hy v hv, h1⟩
  have st := (str_int hx).1
  unfold oddL at ev
  generalize toString x = sx at st ev
  generalize hA : ([.tuple [.int x, .int y, .int 0], .tuple [.int x], .list [.int x, .int y], .tuple [.int x, .none], .tuple [.str sx, .int y], .tuple [.bool (decide (x = 1)), .int y], .tuple [.int x, .bool true], .tuple [.int (1000000000 + 1), .int y], .tuple [.int x, .dict []]] : List PyData) = LA at ev
  generalize hB : ([.none, .int x, .tuple [], .tuple [.tuple [.int x, .int y]], .tuple [.int (10 ^ 40), .int y], .tuple [.int x, .tuple [.int y, .int 1]], .dict [], .str "corner", .tuple [.int x, .int (-(10 ^ 50))]] : List PyData) = LB at ev
  have lA : LA.length = 9 := by rw [← hA]; rfl
  have lB : LB.length = 9 := by rw [← hB]; rfl
  have ad : addD (.list LA) (.list LB) = some (.own (LA ++ LB)) := o_addL (by omega)
  have z : (LA ++ LB).length < sizeLine := Nat.lt_of_lt_of_le (show (LA ++ LB).length < 1000 by rw [List.length_append]; omega) (by decide)
  have ln : (((LA ++ LB) ++ [PyData.tuple [.int x, .int (-1000000001)]]).length : Int) = 19 := by simp [lA, lB]
  have s1 : (lstM (consA (tupM (consA (rdM 2) (consA (rdM 3) (consA (M.ret (.int 0)) (M.ret []))))) (consA (tupM (consA (rdM 2) (M.ret []))) (consA (PV.fz (lstM (consA (rdM 2) (consA (rdM 3) (M.ret []))))) (consA (tupM (consA (rdM 2) (consA (M.ret .none) (M.ret [])))) (consA (tupM (consA (PV.fz (calM (consA (rdM 2) (M.ret [])) strD)) (consA (rdM 3) (M.ret [])))) (consA (tupM (consA (PV.fz (bin (rdM 2) (M.ret (.int 1)) eqD)) (consA (rdM 3) (M.ret [])))) (consA (tupM (consA (rdM 2) (consA (M.ret (.bool true)) (M.ret [])))) (consA (tupM (consA (PV.fz (bin (PV.fz (bin (M.ret (.int 10)) (M.ret (.int 9)) powD)) (M.ret (.int 1)) addD)) (consA (rdM 3) (M.ret [])))) (consA (tupM (consA (rdM 2) (consA (M.ret (.dict [])) (M.ret [])))) (M.ret []))))))))))) [some (.mu pot), some (.d (.tuple [.int x, .int y])), some (.d (.int x)), some (.d (.int y)), none] = some (.ok (.own LA), [some (.mu pot), some (.d (.tuple [.int x, .int y])), some (.d (.int x)), some (.d (.int y)), none]) := by
    rw [← hA]
    simp [-Int.reduceAdd, st, pow9]
  have s2 : (lstM (consA (M.ret .none) (consA (rdM 2) (consA (tupM (M.ret [])) (consA (tupM (consA (tupM (consA (rdM 2) (consA (rdM 3) (M.ret [])))) (M.ret []))) (consA (tupM (consA (PV.fz (bin (M.ret (.int 10)) (M.ret (.int 40)) powD)) (consA (rdM 3) (M.ret [])))) (consA (tupM (consA (rdM 2) (consA (tupM (consA (rdM 3) (consA (M.ret (.int 1)) (M.ret [])))) (M.ret [])))) (consA (M.ret (.dict [])) (consA (M.ret (.str "corner")) (consA (tupM (consA (rdM 2) (consA (PV.fz (un (PV.fz (bin (M.ret (.int 10)) (M.ret (.int 50)) powD)) negD)) (M.ret [])))) (M.ret []))))))))))) [some (.mu pot), some (.d (.tuple [.int x, .int y])), some (.d (.int x)), some (.d (.int y)), some (.d (.list LA))] = some (.ok (.own LB), [some (.mu pot), some (.d (.tuple [.int x, .int y])), some (.d (.int x)), some (.d (.int y)), some (.d (.list LA))]) := by
    rw [← hB]
    simp [-Int.reducePow, pow40, pow50]
  unfold c__law_odd_corner sem__law_odd_corner
  rw [List.append_assoc] at ev ln
  have z18 : 18 < sizeLine := by decide
  simp [-e_lstM, -o_addL, mkP, s1, s2, ad, PvR.e_appM, PvR.e_lenM, z18, pow9, x_take, lA, lB, f1, ev]
end PvK09
end

noncomputable section
namespace PvK09
open PySem PySem.Spec PyProof.Rows L2 PV
open PvR (pow9)
def p__law_bent_1 : Stm :=
  parS 2 3 (consA (PV.fz (callF takeC (consMu 0 (consD (PV.fz (calM (consA (rdM 1) (M.ret [])) lenD)) (M.ret []))))) (consA (PV.fz (callF takeC (consMu 0 (consD (PV.fz (calM (consA (rdM 1) (M.ret [])) lenD)) (M.ret []))))) (M.ret [])))
def p__law_bent_2 : Stm :=
  asgS 4 (PV.bin (rdM 1) (PV.fz (PV.bin (PV.fz (PV.bin (rdM 2) (M.ret (.int 1)) addD)) (PV.fz (calM (consA (rdM 1) (M.ret [])) lenD)) modD)) ixD)
def p__law_bent_3 : Stm :=
  asgS 5 (PV.bin (rdM 1) (rdM 2) ixD)
def p__law_bent_4 : Stm :=
  asgS 6 (callF takeC (consMu 0 (consD (M.ret (.int 10)) (M.ret []))))
def p__law_bent_5 : Stm :=
  ifS (cmpB (rdM 6) (M.ret (.int 0)) eqD)
    (retS (PV.un (rdM 1) revD))
    (nilS)
def p__law_bent_6 : Stm :=
  ifS (cmpB (rdM 6) (M.ret (.int 1)) eqD)
    (retS (PV.bin (PV.fz (slice (rdM 1) (noPart) (part (rdM 2)))) (PV.fz (slice (rdM 1) (part (PV.fz (PV.bin (rdM 2) (M.ret (.int 1)) addD))) (noPart))) addD))
    (nilS)
def p__law_bent_7 : Stm :=
  ifS (cmpB (rdM 6) (M.ret (.int 2)) eqD)
    (retS (PV.bin (PV.fz (slice (rdM 1) (noPart) (part (PV.fz (PV.bin (rdM 2) (M.ret (.int 1)) addD))))) (PV.fz (slice (rdM 1) (part (rdM 2)) (noPart))) addD))
    (nilS)
def p__law_bent_8 : Stm :=
  ifS (cmpB (rdM 6) (M.ret (.int 3)) eqD)
    (seqS (asgS 7 (calM (consA (rdM 1) (M.ret [])) listD)) <|
    seqS (tasS (tupM (consA (PV.fz (PV.bin (rdM 1) (rdM 3) ixD)) (consA (rdM 5) (M.ret [])))) (tupT 2 (consT (subT 7 (rdM 2)) (consT (subT 7 (rdM 3)) (nilT))))) <|
    retS (calM (consA (rdM 7) (M.ret [])) tupleD))
    (nilS)
def p__law_bent_9 : Stm :=
  ifS (cmpB (rdM 6) (M.ret (.int 4)) eqD)
    (seqS (asgS 8 (toV (tupM (consA (PV.fz (PV.bin (PV.fz (PV.bin (PV.fz (PV.bin (rdM 5) (M.ret (.int 0)) ixD)) (PV.fz (PV.bin (rdM 4) (M.ret (.int 0)) ixD)) addD)) (M.ret (.int 2)) fdivD)) (consA (PV.fz (PV.bin (PV.fz (PV.bin (PV.fz (PV.bin (rdM 5) (M.ret (.int 1)) ixD)) (PV.fz (PV.bin (rdM 4) (M.ret (.int 1)) ixD)) addD)) (M.ret (.int 2)) fdivD)) (M.ret [])))))) <|
    retS (PV.bin (PV.fz (PV.bin (PV.fz (slice (rdM 1) (noPart) (part (PV.fz (PV.bin (rdM 2) (M.ret (.int 1)) addD))))) (tupM (consA (rdM 8) (M.ret []))) addD)) (PV.fz (slice (rdM 1) (part (PV.fz (PV.bin (rdM 2) (M.ret (.int 1)) addD))) (noPart))) addD))
    (nilS)
def p__law_bent_10 : Stm :=
  ifS (cmpB (rdM 6) (M.ret (.int 5)) eqD)
    (seqS (parS 9 10 (consA (PV.fz (PV.bin (PV.fz (PV.bin (PV.fz (PV.bin (rdM 5) (M.ret (.int 0)) ixD)) (PV.fz (callF takeC (consMu 0 (consD (M.ret (.int 3)) (M.ret []))))) addD)) (M.ret (.int 1)) subD)) (consA (PV.fz (PV.bin (PV.fz (PV.bin (PV.fz (PV.bin (rdM 5) (M.ret (.int 1)) ixD)) (PV.fz (callF takeC (consMu 0 (consD (M.ret (.int 3)) (M.ret []))))) addD)) (M.ret (.int 1)) subD)) (M.ret [])))) <|
    retS (PV.bin (PV.fz (PV.bin (PV.fz (slice (rdM 1) (noPart) (part (rdM 2)))) (tupM (consA (tupM (consA (rdM 9) (consA (rdM 10) (M.ret [])))) (M.ret []))) addD)) (PV.fz (slice (rdM 1) (part (PV.fz (PV.bin (rdM 2) (M.ret (.int 1)) addD))) (noPart))) addD))
    (nilS)
def p__law_bent_11 : Stm :=
  ifS (cmpB (rdM 6) (M.ret (.int 6)) eqD)
    (retS (PV.bin (PV.fz (PV.bin (PV.fz (slice (rdM 1) (noPart) (part (rdM 2)))) (tupM (consA (PV.fz (callF c__law_odd_corner (consMu 0 (consD (rdM 5) (M.ret []))))) (M.ret []))) addD)) (PV.fz (slice (rdM 1) (part (PV.fz (PV.bin (rdM 2) (M.ret (.int 1)) addD))) (noPart))) addD))
    (nilS)
def p__law_bent_12 : Stm :=
  ifS (cmpB (rdM 6) (M.ret (.int 7)) eqD)
    (retS (PV.bin (PV.fz (lstM (consA (PV.fz (calM (consA (rdM 1) (M.ret [])) listD)) (consA (PV.fz (PV.bin (rdM 1) (rdM 1) addD)) (consA (tupM (consA (rdM 1) (M.ret []))) (consA (PV.fz (PV.bin (PV.fz (PV.bin (rdM 1) (rdM 1) addD)) (rdM 1) addD)) (M.ret []))))))) (PV.fz (callF takeC (consMu 0 (consD (M.ret (.int 4)) (M.ret []))))) ixD))
    (nilS)
def p__law_bent_13 : Stm :=
  ifS (cmpB (rdM 6) (M.ret (.int 8)) eqD)
    (retS (PV.bin (PV.fz (PV.bin (PV.fz (slice (rdM 1) (part (rdM 2)) (noPart))) (PV.fz (slice (rdM 1) (noPart) (part (rdM 2)))) addD)) (tupM (consA (tupM (consA (PV.fz (PV.bin (PV.fz (PV.bin (rdM 5) (M.ret (.int 0)) ixD)) (PV.fz (PV.bin (rdM 4) (M.ret (.int 0)) ixD)) addD)) (consA (PV.fz (PV.bin (PV.fz (PV.bin (rdM 5) (M.ret (.int 1)) ixD)) (PV.fz (PV.bin (rdM 4) (M.ret (.int 1)) ixD)) subD)) (M.ret [])))) (M.ret []))) addD))
    (nilS)
def p__law_bent_14 : Stm :=
  retS (PV.bin (PV.fz (slice (rdM 1) (part (rdM 3)) (noPart))) (PV.fz (slice (rdM 1) (noPart) (part (rdM 3)))) addD)
theorem split__law_bent : sem__law_bent = seqS p__law_bent_1 (seqS p__law_bent_2 (seqS p__law_bent_3 (seqS p__law_bent_4 (seqS p__law_bent_5 (seqS p__law_bent_6 (seqS p__law_bent_7 (seqS p__law_bent_8 (seqS p__law_bent_9 (seqS p__law_bent_10 (seqS p__law_bent_11 (seqS p__law_bent_12 (seqS p__law_bent_13 (p__law_bent_14))))))))))))) := rfl

theorem cut_in {L : List PyData} {lo hi : Option Int} {x : PyData} (h : x ∈ cutL L lo hi) : x ∈ L := by
  unfold cutL at h
  exact List.mem_of_mem_drop (List.mem_of_mem_take h)
theorem cut_len (L : List PyData) (lo hi : Option Int) : (cutL L lo hi).length ≤ L.length := by
  unfold cutL
  rw [List.length_take, List.length_drop]
  omega
theorem okr_tup {xs : List PyData} (h : ∀ x ∈ xs, It x) (hn : xs.length ≤ 29) : Okr (.tuple xs) := (okp_tup h hn).okr
theorem okr_lst {xs : List PyData} (h : ∀ x ∈ xs, It x) (hn : xs.length ≤ 29) : Okr (.list xs) := (okp_lst h hn).okr
theorem it_pt {x y : Int} (hx : x.natAbs < 2 ^ 40) (hy : y.natAbs < 2 ^ 40) : Okp 1 82 (.tuple [.int x, .int y]) := okp_tup (n := 2) (two (i1 hx) (i1 hy)) (by simp)
theorem it_P {p : P2} (h : Bq p) : Okp 1 82 (mkP p) := it_pt (Nat.lt_of_le_of_lt h.1 (by decide)) (Nat.lt_of_le_of_lt h.2 (by decide))
theorem if_eq {f : Stm} {env : SEnv} {W j : Int} (h : env[6]? = some (some (.d (.int W)))) : ifS (cmpB (rdM 6) (M.ret (.int j)) eqD) f nilS env = if W = j then f env else some (.nx, env) := by
  by_cases hw : W = j
  · simp [h, hw]
  · simp [h, hw]
def Res (n : Nat) (o : Option (Fl × SEnv)) : Prop := ∃ (v : PyData) (e : SEnv) (pot' : List PyData), o = some (.rt (.d v), e) ∧ e[0]? = some (some (.mu pot')) ∧ Pot n pot' ∧ Okr v
abbrev Ev (pot L : List PyData) (A O : Int) (m c : P2) (W : Int) : SEnv := [some (.mu pot), some (.d (.tuple L)), some (.d (.int A)), some (.d (.int O)), some (.d (mkP m)), some (.d (mkP c)), some (.d (.int W)), none, none, none, none]
section
variable {n : Nat} {pot L : List PyData} {A O W : Int} {m c o : P2}
theorem br0 (hp : Pot n pot) (hL : ∀ x ∈ L, It x) (hl : L.length ≤ 8) : Res n (retS (PV.un (rdM 1) revD) (Ev pot L A O m c W)) := by
  refine ⟨.tuple L.reverse, Ev pot L A O m c W, pot, by simp [Ev], by simp [Ev], hp, okr_tup (fun x hx => hL x (List.mem_reverse.mp hx)) (by rw [List.length_reverse]; omega)⟩
theorem addc {a b : List PyData} (ha : a.length ≤ 30) (hb : b.length ≤ 30) : addD (.tuple a) (.tuple b) = some (.d (.tuple (a ++ b))) := o_addT (by omega)
theorem ncut {lo hi lo' hi' : Option Int} (hL : ∀ x ∈ L, It x) (hl : L.length ≤ 8) (M' : List PyData) (hM : ∀ x ∈ M', It x) (hm : M'.length ≤ 2) : Okr (.tuple (cutL L lo hi ++ M' ++ cutL L lo' hi')) := by
  refine okr_tup (fun x hx => ?_) ?_
  · rcases List.mem_append.mp hx with hx | hx
    · rcases List.mem_append.mp hx with hx | hx
      · exact hL x (cut_in hx)
      · exact hM x hx
    · exact hL x (cut_in hx)
  · have h1 := cut_len L lo hi
    have h2 := cut_len L lo' hi'
    rw [List.length_append, List.length_append]
    omega
theorem ncut0 {lo hi lo' hi' : Option Int} (hL : ∀ x ∈ L, It x) (hl : L.length ≤ 8) : Okr (.tuple (cutL L lo hi ++ cutL L lo' hi')) := by
  have := ncut (lo := lo) (hi := hi) (lo' := lo') (hi' := hi') hL hl [] (fun x hx => nomatch hx) (by decide)
  rw [List.append_nil] at this
  exact this
theorem br1 (hp : Pot n pot) (hL : ∀ x ∈ L, It x) (hl : L.length ≤ 8) : Res n (retS (PV.bin (PV.fz (slice (rdM 1) (noPart) (part (rdM 2)))) (PV.fz (slice (rdM 1) (part (PV.fz (PV.bin (rdM 2) (M.ret (.int 1)) addD))) (noPart))) addD) (Ev pot L A O m c W)) := by
  have k := ncut0 (lo := none) (hi := some A) (lo' := some (A + 1)) (hi' := none) hL hl
  have a := addc (Nat.le_trans (cut_len L none (some A)) (by omega)) (Nat.le_trans (cut_len L (some (A + 1)) none) (by omega))
  exact ⟨_, Ev pot L A O m c W, pot, by simp [Ev, a], by simp [Ev], hp, k⟩
theorem br2 (hp : Pot n pot) (hL : ∀ x ∈ L, It x) (hl : L.length ≤ 8) : Res n (retS (PV.bin (PV.fz (slice (rdM 1) (noPart) (part (PV.fz (PV.bin (rdM 2) (M.ret (.int 1)) addD))))) (PV.fz (slice (rdM 1) (part (rdM 2)) (noPart))) addD) (Ev pot L A O m c W)) := by
  have k := ncut0 (lo := none) (hi := some (A + 1)) (lo' := some A) (hi' := none) hL hl
  have a := addc (Nat.le_trans (cut_len L none (some (A + 1))) (by omega)) (Nat.le_trans (cut_len L (some A) none) (by omega))
  exact ⟨_, Ev pot L A O m c W, pot, by simp [Ev, a], by simp [Ev], hp, k⟩
theorem br9 (hp : Pot n pot) (hL : ∀ x ∈ L, It x) (hl : L.length ≤ 8) : Res n (p__law_bent_14 (Ev pot L A O m c W)) := by
  have k := ncut0 (lo := some O) (hi := none) (lo' := none) (hi' := some O) hL hl
  have a := addc (Nat.le_trans (cut_len L (some O) none) (by omega)) (Nat.le_trans (cut_len L none (some O)) (by omega))
  unfold p__law_bent_14
  exact ⟨_, Ev pot L A O m c W, pot, by simp [Ev, a], by simp [Ev], hp, k⟩
theorem ix_of {A : Int} {x : PyData} (h : L2.atI L A = some x) : ∃ k, ixN L.length A = some k := by
  unfold L2.atI at h
  cases hk : ixN L.length A with
  | none => rw [hk] at h; cases h
  | some k => exact ⟨k, rfl⟩
theorem br3 (hp : Pot n pot) (hL : ∀ x ∈ L, It x) (hl : L.length ≤ 8) (hA : L2.atI L A = some (mkP c)) (hO : L2.atI L O = some (mkP o)) (bc : Bq c) (bo : Bq o) : Res n ((seqS (asgS 7 (calM (consA (rdM 1) (M.ret [])) listD)) <|
    seqS (tasS (tupM (consA (PV.fz (PV.bin (rdM 1) (rdM 3) ixD)) (consA (rdM 5) (M.ret [])))) (tupT 2 (consT (subT 7 (rdM 2)) (consT (subT 7 (rdM 3)) (nilT))))) <|
    retS (calM (consA (rdM 7) (M.ret [])) tupleD)) (Ev pot L A O m c W)) := by
  obtain ⟨kA, hkA⟩ := ix_of hA
  obtain ⟨kO, hkO⟩ := ix_of hO
  have ok : Okr (.tuple ((L.set kA (mkP o)).set kO (mkP c))) := okr_tup (fun x hx => by
    rcases List.mem_or_eq_of_mem_set hx with hx | rfl
    · rcases List.mem_or_eq_of_mem_set hx with hx | rfl
      · exact hL x hx
      · exact (it_P bo).mono (by decide) (by decide)
    · exact (it_P bc).mono (by decide) (by decide)) (by rw [List.length_set, List.length_set]; omega)
  have hs : ixN (L.set kA (mkP o)).length O = some kO := by rw [List.length_set]; exact hkO
  refine ⟨_, [some (.mu pot), some (.d (.tuple L)), some (.d (.int A)), some (.d (.int O)), some (.d (mkP m)), some (.d (mkP c)), some (.d (.int W)), some (.d (.list ((L.set kA (mkP o)).set kO (mkP c)))), none, none, none], pot, ?_, by simp, hp, ok⟩
  unfold Ev
  generalize mkP c = C at *
  generalize mkP m = M' at *
  generalize mkP o = O' at *
  simp [hO, subT, hkA, hkO]
theorem br4 (hp : Pot n pot) (hL : ∀ x ∈ L, It x) (hl : L.length ≤ 8) (bc : Bq c) (bm : Bq m) : Res n ((seqS (asgS 8 (toV (tupM (consA (PV.fz (PV.bin (PV.fz (PV.bin (PV.fz (PV.bin (rdM 5) (M.ret (.int 0)) ixD)) (PV.fz (PV.bin (rdM 4) (M.ret (.int 0)) ixD)) addD)) (M.ret (.int 2)) fdivD)) (consA (PV.fz (PV.bin (PV.fz (PV.bin (PV.fz (PV.bin (rdM 5) (M.ret (.int 1)) ixD)) (PV.fz (PV.bin (rdM 4) (M.ret (.int 1)) ixD)) addD)) (M.ret (.int 2)) fdivD)) (M.ret [])))))) <|
    retS (PV.bin (PV.fz (PV.bin (PV.fz (slice (rdM 1) (noPart) (part (PV.fz (PV.bin (rdM 2) (M.ret (.int 1)) addD))))) (tupM (consA (rdM 8) (M.ret []))) addD)) (PV.fz (slice (rdM 1) (part (PV.fz (PV.bin (rdM 2) (M.ret (.int 1)) addD))) (noPart))) addD)) (Ev pot L A O m c W)) := by
  obtain ⟨cx, cy⟩ := c
  obtain ⟨mx, my⟩ := m
  have b1 : cx.natAbs ≤ 1000000000 := bc.1
  have b2 : cy.natAbs ≤ 1000000000 := bc.2
  have b3 : mx.natAbs ≤ 1000000000 := bm.1
  have b4 : my.natAbs ≤ 1000000000 := bm.2
  have d1 : fdivD (.int (cx + mx)) (.int 2) = some (.d (.int ((cx + mx).fdiv 2))) := o_fdiv (by decide) (by decide)
  have d2 : fdivD (.int (cy + my)) (.int 2) = some (.d (.int ((cy + my).fdiv 2))) := o_fdiv (by decide) (by decide)
  have e1 : ((cx + mx).fdiv 2).natAbs < 2 ^ 40 := by
    have h := Int.fdiv_eq_ediv_of_nonneg (cx + mx) (show (0 : Int) ≤ 2 by decide)
    rw [h]
    have : (2 : Nat) ^ 40 = 1099511627776 := by decide
    omega
  have e2 : ((cy + my).fdiv 2).natAbs < 2 ^ 40 := by
    have h := Int.fdiv_eq_ediv_of_nonneg (cy + my) (show (0 : Int) ≤ 2 by decide)
    rw [h]
    have : (2 : Nat) ^ 40 = 1099511627776 := by decide
    omega
  generalize (cx + mx).fdiv 2 = q1 at *
  generalize (cy + my).fdiv 2 = q2 at *
  have k := ncut (lo := none) (hi := some (A + 1)) (lo' := some (A + 1)) (hi' := none) hL hl [.tuple [.int q1, .int q2]] (one ((it_pt e1 e2).mono (by decide) (by decide))) (by simp)
  have l1 := cut_len L none (some (A + 1))
  have l2 := cut_len L (some (A + 1)) none
  have a1 := addc (a := cutL L none (some (A + 1))) (b := [.tuple [.int q1, .int q2]]) (by omega) (by simp)
  have a2 := addc (a := cutL L none (some (A + 1)) ++ [.tuple [.int q1, .int q2]]) (b := cutL L (some (A + 1)) none) (by rw [List.length_append, List.length_singleton]; omega) (by omega)
  generalize hc1' : cutL L none (some (A + 1)) = c1 at *
  generalize hc2' : cutL L (some (A + 1)) none = c2 at *
  refine ⟨.tuple (c1 ++ [.tuple [.int q1, .int q2]] ++ c2), [some (.mu pot), some (.d (.tuple L)), some (.d (.int A)), some (.d (.int O)), some (.d (mkP (mx, my))), some (.d (mkP (cx, cy))), some (.d (.int W)), none, some (.d (.tuple [.int q1, .int q2])), none, none], pot, ?_, by simp, hp, k⟩
  have ic0 : ixD (mkP (cx, cy)) (.int 0) = some (.d (.int cx)) := rfl
  have ic1 : ixD (mkP (cx, cy)) (.int 1) = some (.d (.int cy)) := rfl
  have im0 : ixD (mkP (mx, my)) (.int 0) = some (.d (.int mx)) := rfl
  have im1 : ixD (mkP (mx, my)) (.int 1) = some (.d (.int my)) := rfl
  have hc1 : slD (.tuple L) none (some (A + 1)) = some (.d (.tuple c1)) := by rw [o_slT, hc1']
  have hc2 : slD (.tuple L) (some (A + 1)) none = some (.d (.tuple c2)) := by rw [o_slT, hc2']
  unfold Ev
  generalize mkP (cx, cy) = C at *
  generalize mkP (mx, my) = M' at *
  simp [-o_slT, ic0, ic1, im0, im1, d1, d2, hc1, hc2, a1, a2]
theorem br5 (hp : Pot n pot) (hn : n + 2 < 1000000) (hL : ∀ x ∈ L, It x) (hl : L.length ≤ 8) (bc : Bq c) : Res (n + 2) ((seqS (parS 9 10 (consA (PV.fz (PV.bin (PV.fz (PV.bin (PV.fz (PV.bin (rdM 5) (M.ret (.int 0)) ixD)) (PV.fz (callF c__law_take (consMu 0 (consD (M.ret (.int 3)) (M.ret []))))) addD)) (M.ret (.int 1)) subD)) (consA (PV.fz (PV.bin (PV.fz (PV.bin (PV.fz (PV.bin (rdM 5) (M.ret (.int 1)) ixD)) (PV.fz (callF c__law_take (consMu 0 (consD (M.ret (.int 3)) (M.ret []))))) addD)) (M.ret (.int 1)) subD)) (M.ret [])))) <|
    retS (PV.bin (PV.fz (PV.bin (PV.fz (slice (rdM 1) (noPart) (part (rdM 2)))) (tupM (consA (tupM (consA (rdM 9) (consA (rdM 10) (M.ret [])))) (M.ret []))) addD)) (PV.fz (slice (rdM 1) (part (PV.fz (PV.bin (rdM 2) (M.ret (.int 1)) addD))) (noPart))) addD)) (Ev pot L A O m c W)) := by
  obtain ⟨cx, cy⟩ := c
  have b1 : cx.natAbs ≤ 1000000000 := bc.1
  have b2 : cy.natAbs ≤ 1000000000 := bc.2
  obtain ⟨u, p1, f1, u0, u1, h1⟩ := take_spec hp (by omega) (m := 3) (by decide) (by decide)
  obtain ⟨v, p2, f2, v0, v1, h2⟩ := take_spec h1 (by omega) (m := 3) (by decide) (by decide)
  have t40 : (2 : Nat) ^ 40 = 1099511627776 := by decide
  have e1 : (cx + u - 1).natAbs < 2 ^ 40 := by omega
  have e2 : (cy + v - 1).natAbs < 2 ^ 40 := by omega
  have k := ncut (lo := none) (hi := some A) (lo' := some (A + 1)) (hi' := none) hL hl [.tuple [.int (cx + u - 1), .int (cy + v - 1)]] (one ((it_pt e1 e2).mono (by decide) (by decide))) (by simp)
  have l1 := cut_len L none (some A)
  have l2 := cut_len L (some (A + 1)) none
  have a1 := addc (a := cutL L none (some A)) (b := [.tuple [.int (cx + u - 1), .int (cy + v - 1)]]) (by omega) (by simp)
  have a2 := addc (a := cutL L none (some A) ++ [.tuple [.int (cx + u - 1), .int (cy + v - 1)]]) (b := cutL L (some (A + 1)) none) (by rw [List.length_append, List.length_singleton]; omega) (by omega)
  generalize hc1' : cutL L none (some A) = c1 at *
  generalize hc2' : cutL L (some (A + 1)) none = c2 at *
  have ic0 : ixD (mkP (cx, cy)) (.int 0) = some (.d (.int cx)) := rfl
  have ic1 : ixD (mkP (cx, cy)) (.int 1) = some (.d (.int cy)) := rfl
  have hc1 : slD (.tuple L) none (some A) = some (.d (.tuple c1)) := by rw [o_slT, hc1']
  have hc2 : slD (.tuple L) (some (A + 1)) none = some (.d (.tuple c2)) := by rw [o_slT, hc2']
  refine ⟨.tuple (c1 ++ [.tuple [.int (cx + u - 1), .int (cy + v - 1)]] ++ c2), [some (.mu p2), some (.d (.tuple L)), some (.d (.int A)), some (.d (.int O)), some (.d (mkP m)), some (.d (mkP (cx, cy))), some (.d (.int W)), none, none, some (.d (.int (cx + u - 1))), some (.d (.int (cy + v - 1)))], p2, ?_, by simp, h2, k⟩
  rw [x_take]
  unfold Ev
  generalize mkP (cx, cy) = C at *
  generalize mkP m = M' at *
  simp [-o_slT, ic0, ic1, f1, f2, hc1, hc2, a1, a2]
theorem br6 (hp : Pot n pot) (hn : n + 2 < 1000000) (hL : ∀ x ∈ L, It x) (hl : L.length ≤ 8) (bc : Bq c) : Res (n + 1) (retS (PV.bin (PV.fz (PV.bin (PV.fz (slice (rdM 1) (noPart) (part (rdM 2)))) (tupM (consA (PV.fz (callF c__law_odd_corner (consMu 0 (consD (rdM 5) (M.ret []))))) (M.ret []))) addD)) (PV.fz (slice (rdM 1) (part (PV.fz (PV.bin (rdM 2) (M.ret (.int 1)) addD))) (noPart))) addD) (Ev pot L A O m c W)) := by
  obtain ⟨v, p1, f1, iv, h1⟩ := oddc_ok bc hp (by omega)
  have k := ncut (lo := none) (hi := some A) (lo' := some (A + 1)) (hi' := none) hL hl [v] (one iv) (by simp)
  have l1 := cut_len L none (some A)
  have l2 := cut_len L (some (A + 1)) none
  have a1 := addc (a := cutL L none (some A)) (b := [v]) (by omega) (by simp)
  have a2 := addc (a := cutL L none (some A) ++ [v]) (b := cutL L (some (A + 1)) none) (by rw [List.length_append, List.length_singleton]; omega) (by omega)
  generalize hc1' : cutL L none (some A) = c1 at *
  generalize hc2' : cutL L (some (A + 1)) none = c2 at *
  have hc1 : slD (.tuple L) none (some A) = some (.d (.tuple c1)) := by rw [o_slT, hc1']
  have hc2 : slD (.tuple L) (some (A + 1)) none = some (.d (.tuple c2)) := by rw [o_slT, hc2']
  refine ⟨.tuple (c1 ++ [v] ++ c2), Ev p1 L A O m c W, p1, ?_, by simp [Ev], h1, k⟩
  unfold Ev
  generalize mkP c = C at *
  generalize mkP m = M' at *
  simp [-o_slT, f1, hc1, hc2, a1, a2]
theorem br7 (hp : Pot n pot) (hn : n + 2 < 1000000) (hL : ∀ x ∈ L, Okp 1 82 x) (hl : L.length ≤ 8) : Res (n + 1) (retS (PV.bin (PV.fz (lstM (consA (PV.fz (calM (consA (rdM 1) (M.ret [])) listD)) (consA (PV.fz (PV.bin (rdM 1) (rdM 1) addD)) (consA (tupM (consA (rdM 1) (M.ret []))) (consA (PV.fz (PV.bin (PV.fz (PV.bin (rdM 1) (rdM 1) addD)) (rdM 1) addD)) (M.ret []))))))) (PV.fz (callF c__law_take (consMu 0 (consD (M.ret (.int 4)) (M.ret []))))) ixD) (Ev pot L A O m c W)) := by
  obtain ⟨w, p1, f1, w0, w1, h1⟩ := take_spec hp (by omega) (m := 4) (by decide) (by decide)
  obtain ⟨v, ev, hv⟩ := pick (α := PyData) (xs := [.list L, .tuple (L ++ L), .tuple [.tuple L], .tuple (L ++ L ++ L)]) w0 (by simpa using w1)
  have hI : ∀ x ∈ L, It x := fun x hx => (hL x hx).mono (by decide) (by decide)
  have hLL : ∀ x ∈ L ++ L, It x := fun x hx => by
    rcases List.mem_append.mp hx with hx | hx <;> exact hI x hx
  have ok : Okr v := by
    simp only [List.mem_cons, List.not_mem_nil, or_false] at hv
    rcases hv with rfl | rfl | rfl | rfl
    · exact okr_lst hI (by omega)
    · exact okr_tup hLL (by rw [List.length_append]; omega)
    · exact okr_tup (one ((okp_tup (n := 8) hL hl).mono (by decide) (by decide))) (by simp)
    · exact okr_tup (fun x hx => by
        rcases List.mem_append.mp hx with hx | hx
        · exact hLL x hx
        · exact hI x hx) (by rw [List.length_append, List.length_append]; omega)
  have a1 := addc (a := L) (b := L) (by omega) (by omega)
  have a2 := addc (a := L ++ L) (b := L) (by rw [List.length_append]; omega) (by omega)
  refine ⟨v, Ev p1 L A O m c W, p1, ?_, by simp [Ev], h1, ok⟩
  rw [x_take]
  unfold Ev
  generalize mkP c = C at *
  generalize mkP m = M' at *
  generalize L ++ L ++ L = L3 at *
  generalize L ++ L = L2' at *
  simp [f1, a1, a2, ev]
theorem br8 (hp : Pot n pot) (hL : ∀ x ∈ L, It x) (hl : L.length ≤ 8) (bc : Bq c) (bm : Bq m) : Res n (retS (PV.bin (PV.fz (PV.bin (PV.fz (slice (rdM 1) (part (rdM 2)) (noPart))) (PV.fz (slice (rdM 1) (noPart) (part (rdM 2)))) addD)) (tupM (consA (tupM (consA (PV.fz (PV.bin (PV.fz (PV.bin (rdM 5) (M.ret (.int 0)) ixD)) (PV.fz (PV.bin (rdM 4) (M.ret (.int 0)) ixD)) addD)) (consA (PV.fz (PV.bin (PV.fz (PV.bin (rdM 5) (M.ret (.int 1)) ixD)) (PV.fz (PV.bin (rdM 4) (M.ret (.int 1)) ixD)) subD)) (M.ret [])))) (M.ret []))) addD) (Ev pot L A O m c W)) := by
  obtain ⟨cx, cy⟩ := c
  obtain ⟨mx, my⟩ := m
  have b1 : cx.natAbs ≤ 1000000000 := bc.1
  have b2 : cy.natAbs ≤ 1000000000 := bc.2
  have b3 : mx.natAbs ≤ 1000000000 := bm.1
  have b4 : my.natAbs ≤ 1000000000 := bm.2
  have t40 : (2 : Nat) ^ 40 = 1099511627776 := by decide
  have e1 : (cx + mx).natAbs < 2 ^ 40 := by omega
  have e2 : (cy - my).natAbs < 2 ^ 40 := by omega
  have l1 := cut_len L (some A) none
  have l2 := cut_len L none (some A)
  have k : Okr (.tuple (cutL L (some A) none ++ cutL L none (some A) ++ [.tuple [.int (cx + mx), .int (cy - my)]])) := by
    refine okr_tup (fun x hx => ?_) (by rw [List.length_append, List.length_append, List.length_singleton]; omega)
    rcases List.mem_append.mp hx with hx | hx
    · rcases List.mem_append.mp hx with hx | hx
      · exact hL x (cut_in hx)
      · exact hL x (cut_in hx)
    · exact one (P := It) ((it_pt e1 e2).mono (by decide) (by decide)) x hx
  have a1 := addc (a := cutL L (some A) none) (b := cutL L none (some A)) (by omega) (by omega)
  have a2 := addc (a := cutL L (some A) none ++ cutL L none (some A)) (b := [.tuple [.int (cx + mx), .int (cy - my)]]) (by rw [List.length_append]; omega) (by simp)
  generalize hc1' : cutL L (some A) none = c1 at *
  generalize hc2' : cutL L none (some A) = c2 at *
  have ic0 : ixD (mkP (cx, cy)) (.int 0) = some (.d (.int cx)) := rfl
  have ic1 : ixD (mkP (cx, cy)) (.int 1) = some (.d (.int cy)) := rfl
  have im0 : ixD (mkP (mx, my)) (.int 0) = some (.d (.int mx)) := rfl
  have im1 : ixD (mkP (mx, my)) (.int 1) = some (.d (.int my)) := rfl
  have hc1 : slD (.tuple L) (some A) none = some (.d (.tuple c1)) := by rw [o_slT, hc1']
  have hc2 : slD (.tuple L) none (some A) = some (.d (.tuple c2)) := by rw [o_slT, hc2']
  refine ⟨.tuple (c1 ++ c2 ++ [.tuple [.int (cx + mx), .int (cy - my)]]), Ev pot L A O (mx, my) (cx, cy) W, pot, ?_, by simp [Ev], hp, k⟩
  unfold Ev
  generalize mkP (cx, cy) = C at *
  generalize mkP (mx, my) = M' at *
  simp [-o_slT, ic0, ic1, im0, im1, hc1, hc2, a1, a2]
end
end PvK09
end

noncomputable section
namespace PvK09
open PySem PySem.Spec PyProof.Rows L2 PV
open PvR (pow9)
theorem run_md {n : Nat} {f : Stm} {pot pot' : List PyData} {d x : PyData} {e : SEnv} (h : f (some (.mu pot) :: some (.d d) :: List.replicate n none) = some (.rt (.d x), e)) (he : e[0]? = some (some (.mu pot'))) : runFn (n + 2) 2 f [.m pot, .d d] = some (.ok (.d x), [pot']) := by
  simp [h, he]
theorem Res.mono {n m : Nat} {o : Option (Fl × SEnv)} (h : Res n o) (hm : n ≤ m) : Res m o := by
  obtain ⟨v, e, p, h1, h2, h3, h4⟩ := h
  exact ⟨v, e, p, h1, h2, h3.mono hm, h4⟩
theorem Res.seq {n : Nat} {f g : Stm} {env : SEnv} (h : Res n (f env)) : Res n (seqS f g env) := by
  obtain ⟨v, e, p, h1, h2, h3, h4⟩ := h
  exact ⟨v, e, p, seq_rt h1, h2, h3, h4⟩
theorem bent_ok {n : Nat} {pot : List PyData} {H : List P2} (hb : ∀ p ∈ H, Bq p) (l1 : 1 ≤ H.length) (l8 : H.length ≤ 8) (hp : Pot n pot) (hn : n + 10 < 1000000) : ∃ v pot', c__law_bent [.m pot, .d (rv H)] = some (.ok (.d v), [pot']) ∧ Okr v ∧ Pot (n + 5) pot' := by
  obtain ⟨N, hN⟩ : ∃ N : Int, N = ((H.map mkP).length : Int) := ⟨_, rfl⟩
  have hN' : N = (H.length : Int) := by rw [hN, List.length_map]
  have lg := log2_le (i := N) (k := 10) (by omega)
  obtain ⟨A, p1, f1, a0, a1, h1⟩ := take_spec hp (by omega) (m := N) (by omega) (by omega)
  obtain ⟨O, p2, f2, o0, o1, h2⟩ := take_spec h1 (by omega) (m := N) (by omega) (by omega)
  obtain ⟨W, p3, f3, w0, w1, h3⟩ := take_spec h2 (by omega) (m := 10) (by decide) (by decide)
  obtain ⟨cv, ec, hc⟩ := pick (xs := H.map mkP) a0 (by rw [← hN]; exact a1)
  obtain ⟨ov, eo, ho⟩ := pick (xs := H.map mkP) o0 (by rw [← hN]; exact o1)
  have md : modD (.int (A + 1)) (.int N) = some (.d (.int ((A + 1).fmod N))) := o_mod (by omega)
  have m0 : 0 ≤ (A + 1).fmod N := Int.fmod_nonneg_of_pos _ (by omega)
  have m1 : (A + 1).fmod N < N := Int.fmod_lt_of_pos _ (by omega)
  obtain ⟨mv, em, hm⟩ := pick (xs := H.map mkP) m0 (by rw [← hN]; exact m1)
  obtain ⟨c, hcH, rfl⟩ := List.mem_map.mp hc
  obtain ⟨o, hoH, rfl⟩ := List.mem_map.mp ho
  obtain ⟨m, hmH, rfl⟩ := List.mem_map.mp hm
  have bc := hb c hcH
  have bo := hb o hoH
  have bm := hb m hmH
  have hL : ∀ x ∈ H.map mkP, Okp 1 82 x := fun x hx => by
    obtain ⟨p, hp, rfl⟩ := List.mem_map.mp hx
    exact it_P (hb p hp)
  have hI : ∀ x ∈ H.map mkP, It x := fun x hx => (hL x hx).mono (by decide) (by decide)
  have lL : (H.map mkP).length ≤ 8 := by rw [List.length_map]; exact l8
  have lnL : lenD [.tuple (H.map mkP)] = some (.d (.int N)) := by rw [o_lenT, hN]
  have key : ∀ L : List PyData, L = H.map mkP → ∃ v pot', c__law_bent [.m pot, .d (.tuple L)] = some (.ok (.d v), [pot']) ∧ Okr v ∧ Pot (n + 5) pot' := by
    intro L hLL
    rw [← hLL] at ec eo em hL hI lL lnL
    clear hLL hN hc ho hm
    have s1 : p__law_bent_1 [some (.mu pot), some (.d (.tuple L)), none, none, none, none, none, none, none, none, none] = some (.nx, [some (.mu p2), some (.d (.tuple L)), some (.d (.int A)), some (.d (.int O)), none, none, none, none, none, none, none]) := by
      unfold p__law_bent_1
      simp [-o_lenT, lnL, f1, f2]
    have s2 : p__law_bent_2 [some (.mu p2), some (.d (.tuple L)), some (.d (.int A)), some (.d (.int O)), none, none, none, none, none, none, none] = some (.nx, [some (.mu p2), some (.d (.tuple L)), some (.d (.int A)), some (.d (.int O)), some (.d (mkP m)), none, none, none, none, none, none]) := by
      unfold p__law_bent_2
      generalize mkP m = M' at *
      simp [-o_lenT, lnL, md, em]
    have s3 : p__law_bent_3 [some (.mu p2), some (.d (.tuple L)), some (.d (.int A)), some (.d (.int O)), some (.d (mkP m)), none, none, none, none, none, none] = some (.nx, [some (.mu p2), some (.d (.tuple L)), some (.d (.int A)), some (.d (.int O)), some (.d (mkP m)), some (.d (mkP c)), none, none, none, none, none]) := by
      unfold p__law_bent_3
      generalize mkP m = M' at *
      generalize mkP c = C at *
      simp [ec]
    have s4 : p__law_bent_4 [some (.mu p2), some (.d (.tuple L)), some (.d (.int A)), some (.d (.int O)), some (.d (mkP m)), some (.d (mkP c)), none, none, none, none, none] = some (.nx, Ev p3 L A O m c W) := by
      unfold p__law_bent_4 Ev
      generalize mkP m = M' at *
      generalize mkP c = C at *
      simp [f3]
    have hW : (Ev p3 L A O m c W)[6]? = some (some (.d (.int W))) := rfl
    have res : Res (n + 5) (sem__law_bent [some (.mu pot), some (.d (.tuple L)), none, none, none, none, none, none, none, none, none]) := by
      rw [split__law_bent, seq_nx s1, seq_nx s2, seq_nx s3, seq_nx s4]
      unfold p__law_bent_5 p__law_bent_6 p__law_bent_7 p__law_bent_8 p__law_bent_9 p__law_bent_10 p__law_bent_11 p__law_bent_12 p__law_bent_13
      have nx : ∀ {f : Stm} {j : Int}, W ≠ j → ifS (cmpB (rdM 6) (M.ret (.int j)) eqD) f nilS (Ev p3 L A O m c W) = some (.nx, Ev p3 L A O m c W) := fun hj => by rw [if_eq hW, if_neg hj]
      have yes : ∀ {f : Stm} {j : Int} {k : Nat}, W = j → Res k (f (Ev p3 L A O m c W)) → Res k (ifS (cmpB (rdM 6) (M.ret (.int j)) eqD) f nilS (Ev p3 L A O m c W)) := fun hj h => by rw [if_eq hW, if_pos hj]; exact h
      by_cases z0 : W = 0
      · exact ((yes z0 (br0 h3 hI lL)).seq).mono (by omega)
      rw [seq_nx (nx z0)]
      by_cases z1 : W = 1
      · exact ((yes z1 (br1 h3 hI lL)).seq).mono (by omega)
      rw [seq_nx (nx z1)]
      by_cases z2 : W = 2
      · exact ((yes z2 (br2 h3 hI lL)).seq).mono (by omega)
      rw [seq_nx (nx z2)]
      by_cases z3 : W = 3
      · exact ((yes z3 (br3 h3 hI lL ec eo bc bo)).seq).mono (by omega)
      rw [seq_nx (nx z3)]
      by_cases z4 : W = 4
      · exact ((yes z4 (br4 h3 hI lL bc bm)).seq).mono (by omega)
      rw [seq_nx (nx z4)]
      by_cases z5 : W = 5
      · exact ((yes z5 (br5 h3 (by omega) hI lL bc)).seq).mono (by omega)
      rw [seq_nx (nx z5)]
      by_cases z6 : W = 6
      · exact ((yes z6 (br6 h3 (by omega) hI lL bc)).seq).mono (by omega)
      rw [seq_nx (nx z6)]
      by_cases z7 : W = 7
      · exact ((yes z7 (br7 h3 (by omega) hL lL)).seq).mono (by omega)
      rw [seq_nx (nx z7)]
      by_cases z8 : W = 8
      · exact ((yes z8 (br8 h3 hI lL bc bm)).seq).mono (by omega)
      rw [seq_nx (nx z8)]
      exact (br9 h3 hI lL).mono (by omega)
    obtain ⟨v, e, p', r1, r2, r3, r4⟩ := res
    exact ⟨v, p', run_md (n := 9) r1 r2, r4, r3⟩
  exact key _ rfl
end PvK09
end

noncomputable section
namespace PvK09
open PySem PySem.Spec PyProof.Rows L2 PV
open PvR (pow9 ring_ok)
open PvH (Rg)
def p_law_1 : Stm :=
  forS (rng1 (consA (PV.fz (calM (consA (M.ret (.int 1)) (consA (PV.fz (calM (consA (PV.fz (calM (consA (rdM 0) (M.ret [])) lenD)) (consA (M.ret (.int 40)) (M.ret []))) minD)) (M.ret []))) maxD)) (M.ret []))) (nameT 1)
    (b_law_2)
def p_law_2 : Stm :=
  asgS 6 (toV (tupM (consA (tupM (consA (M.ret (.int 0)) (consA (M.ret (.int 0)) (M.ret [])))) (consA (tupM (consA (M.ret (.int 4)) (consA (M.ret (.int 0)) (M.ret [])))) (consA (tupM (consA (M.ret (.int 5)) (consA (M.ret (.int 3)) (M.ret [])))) (consA (tupM (consA (M.ret (.int 2)) (consA (M.ret (.int 5)) (M.ret [])))) (consA (tupM (consA (PV.fz (PV.un (M.ret (.int 1)) negD)) (consA (M.ret (.int 3)) (M.ret [])))) (M.ret []))))))))
def p_law_3 : Stm :=
  asgS 7 (toV (tupM (consA (PV.fz (PV.bin (rdM 6) (M.ret (.int 0)) ixD)) (consA (PV.fz (PV.bin (rdM 6) (M.ret (.int 2)) ixD)) (consA (PV.fz (PV.bin (rdM 6) (M.ret (.int 4)) ixD)) (consA (PV.fz (PV.bin (rdM 6) (M.ret (.int 1)) ixD)) (consA (PV.fz (PV.bin (rdM 6) (M.ret (.int 3)) ixD)) (M.ret []))))))))
def p_law_4 : Stm :=
  asgS 8 (PV.bin (M.ret (.int 10)) (M.ret (.int 9)) powD)
def p_law_5 : Stm :=
  asgS 9 (toV (tupM (consA (tupM (consA (PV.fz (PV.bin (rdM 8) (M.ret (.int 1)) subD)) (consA (PV.fz (PV.un (rdM 8) negD)) (M.ret [])))) (consA (tupM (consA (rdM 8) (consA (PV.fz (PV.bin (M.ret (.int 1)) (rdM 8) subD)) (M.ret [])))) (consA (tupM (consA (rdM 8) (consA (PV.fz (PV.bin (rdM 8) (M.ret (.int 1)) subD)) (M.ret [])))) (consA (tupM (consA (PV.fz (PV.bin (rdM 8) (M.ret (.int 1)) subD)) (consA (rdM 8) (M.ret [])))) (consA (tupM (consA (PV.fz (PV.bin (M.ret (.int 1)) (rdM 8) subD)) (consA (rdM 8) (M.ret [])))) (consA (tupM (consA (PV.fz (PV.un (rdM 8) negD)) (consA (PV.fz (PV.bin (rdM 8) (M.ret (.int 1)) subD)) (M.ret [])))) (M.ret [])))))))))
def p_law_6 : Stm :=
  asgS 9 (PV.bin (rdM 9) (tupM (consA (tupM (consA (PV.fz (PV.un (rdM 8) negD)) (consA (PV.fz (PV.bin (M.ret (.int 1)) (rdM 8) subD)) (M.ret [])))) (consA (tupM (consA (PV.fz (PV.bin (M.ret (.int 1)) (rdM 8) subD)) (consA (PV.fz (PV.un (rdM 8) negD)) (M.ret [])))) (M.ret [])))) addD)
def p_law_7 : Stm :=
  asgS 10 (lstM (consA (rdM 6) (consA (rdM 7) (consA (rdM 9) (consA (PV.fz (PV.bin (rdM 9) (tupM (consA (tupM (consA (M.ret (.int 0)) (consA (PV.fz (PV.bin (PV.fz (PV.un (rdM 8) negD)) (M.ret (.int 1)) subD)) (M.ret [])))) (M.ret []))) addD)) (consA (PV.fz (PV.bin (PV.fz (slice (rdM 9) (part (M.ret (.int 1))) (noPart))) (tupM (consA (tupM (consA (M.ret (.int 0)) (consA (PV.fz (PV.un (rdM 8) negD)) (M.ret [])))) (M.ret []))) addD)) (M.ret [])))))))
def p_law_8 : Stm :=
  asgS 10 (PV.bin (rdM 10) (PV.fz (lstM (consA (tupM (consA (tupM (consA (M.ret (.int 0)) (consA (M.ret (.int 0)) (M.ret [])))) (consA (tupM (consA (M.ret (.int 2)) (consA (M.ret (.int 0)) (M.ret [])))) (consA (tupM (consA (M.ret (.int 2)) (consA (M.ret (.int 1)) (M.ret [])))) (consA (tupM (consA (M.ret (.int 2)) (consA (M.ret (.int 2)) (M.ret [])))) (consA (tupM (consA (M.ret (.int 0)) (consA (M.ret (.int 2)) (M.ret [])))) (M.ret []))))))) (consA (tupM (consA (tupM (consA (M.ret (.int 0)) (consA (M.ret (.int 0)) (M.ret [])))) (consA (tupM (consA (M.ret (.int 0)) (consA (M.ret (.int 2)) (M.ret [])))) (consA (tupM (consA (M.ret (.int 2)) (consA (M.ret (.int 0)) (M.ret [])))) (M.ret []))))) (consA (tupM (consA (tupM (consA (M.ret (.int 3)) (consA (M.ret (.int 3)) (M.ret [])))) (M.ret []))) (M.ret [])))))) addD)
def p_law_9 : Stm :=
  asgS 10 (PV.bin (rdM 10) (PV.fz (lstM (consA (tupM (consA (tupM (consA (M.ret (.int 3)) (consA (M.ret (.int 3)) (M.ret [])))) (consA (tupM (consA (M.ret (.int 3)) (consA (M.ret (.int 3)) (M.ret [])))) (M.ret [])))) (consA (tupM (consA (tupM (consA (rdM 8) (consA (rdM 8) (M.ret [])))) (consA (tupM (consA (PV.fz (PV.un (rdM 8) negD)) (consA (PV.fz (PV.un (rdM 8) negD)) (M.ret [])))) (M.ret [])))) (consA (tupM (M.ret [])) (consA (M.ret .none) (consA (M.ret (.int 5)) (consA (M.ret (.str "ring")) (M.ret []))))))))) addD)
def p_law_10 : Stm :=
  asgS 11 (lstM (consA (tupM (consA (tupM (consA (PV.fz (PV.un (rdM 8) negD)) (consA (PV.fz (PV.un (rdM 8) negD)) (M.ret [])))) (consA (tupM (consA (rdM 8) (consA (rdM 8) (M.ret [])))) (consA (tupM (consA (M.ret (.int 0)) (consA (M.ret (.int 1)) (M.ret [])))) (M.ret []))))) (consA (tupM (consA (tupM (consA (PV.fz (PV.un (rdM 8) negD)) (consA (PV.fz (PV.un (rdM 8) negD)) (M.ret [])))) (consA (tupM (consA (rdM 8) (consA (PV.fz (PV.bin (rdM 8) (M.ret (.int 1)) subD)) (M.ret [])))) (consA (tupM (consA (M.ret (.int 0)) (consA (M.ret (.int 0)) (M.ret [])))) (M.ret []))))) (M.ret []))))
def p_law_11 : Stm :=
  asgS 11 (PV.bin (rdM 11) (PV.fz (lstM (consA (tupM (consA (tupM (consA (PV.fz (PV.un (rdM 8) negD)) (consA (PV.fz (PV.un (rdM 8) negD)) (M.ret [])))) (consA (tupM (consA (rdM 8) (consA (rdM 8) (M.ret [])))) (consA (tupM (consA (M.ret (.int 0)) (consA (M.ret (.int 0)) (M.ret [])))) (M.ret []))))) (consA (tupM (consA (tupM (consA (PV.fz (PV.un (rdM 8) negD)) (consA (PV.fz (PV.un (rdM 8) negD)) (M.ret [])))) (consA (tupM (consA (rdM 8) (consA (PV.fz (PV.bin (rdM 8) (M.ret (.int 1)) subD)) (M.ret [])))) (consA (tupM (consA (M.ret (.int 0)) (consA (PV.fz (PV.un (M.ret (.int 1)) negD)) (M.ret [])))) (M.ret []))))) (M.ret []))))) addD)
def p_law_12 : Stm :=
  ifS (cmpB (PV.fz (compM (seqI (PV.fz (PV.bin (rdM 10) (rdM 11) addD))) (nameT 12) [12] (notB (tru (PV.fz (callF c__law_right (consD (rdM 12) (M.ret [])))))) (rdM 12))) (PV.fz (lstM (M.ret []))) neD)
    (retS (toV (M.ret (.bool false))))
    (nilS)
def p_law_13 : Stm :=
  ifS (cmpB (PV.fz (compM (seqI (rdM 11)) (nameT 12) [12] (M.ret true) (PV.fz (callF c_is_ring (consD (rdM 12) (M.ret [])))))) (PV.fz (lstM (consA (M.ret (.bool true)) (consA (M.ret (.bool true)) (consA (M.ret (.bool false)) (consA (M.ret (.bool false)) (M.ret []))))))) neD)
    (retS (toV (M.ret (.bool false))))
    (nilS)
def p_law_14 : Stm :=
  retS (PV.bin (PV.fz (compM (seqI (PV.fz (slice (rdM 10) (noPart) (part (M.ret (.int 8)))))) (nameT 12) [12] (M.ret true) (PV.fz (callF c_is_ring (consD (rdM 12) (M.ret [])))))) (PV.fz (lstM (consA (M.ret (.bool true)) (consA (M.ret (.bool false)) (consA (M.ret (.bool true)) (consA (M.ret (.bool false)) (consA (M.ret (.bool true)) (consA (M.ret (.bool false)) (consA (M.ret (.bool false)) (consA (M.ret (.bool true)) (M.ret []))))))))))) eqD)
theorem split_law : sem_law = seqS p_law_1 (seqS p_law_2 (seqS p_law_3 (seqS p_law_4 (seqS p_law_5 (seqS p_law_6 (seqS p_law_7 (seqS p_law_8 (seqS p_law_9 (seqS p_law_10 (seqS p_law_11 (seqS p_law_12 (seqS p_law_13 (p_law_14))))))))))))) := rfl

/-! closed things -/
mutual
def smB : PyData → Bool
  | .none => true
  | .bool _ => true
  | .int i => decide (i.natAbs < 10 ^ 500)
  | .str x => x.cps.toList.all fun c => decide (c < 16 ^ 8)
  | .list ds => smBs ds
  | .tuple ds => smBs ds
  | .dict kvs => kvs.isEmpty
def smBs : List PyData → Bool
  | [] => true
  | d :: ds => smB d && smBs ds
end
mutual
theorem smB_ok : ∀ d : PyData, smB d = true → Sm d
  | .none, _ => by simp only [Sm]
  | .bool _, _ => by simp only [Sm]
  | .int i, h => by
    simp only [smB, decide_eq_true_eq] at h
    simpa only [Sm] using h
  | .str x, h => by
    simp only [smB, List.all_eq_true, decide_eq_true_eq] at h
    simpa only [Sm] using h
  | .list ds, h => by
    simp only [Sm]
    exact smBs_ok ds (by simpa only [smB] using h)
  | .tuple ds, h => by
    simp only [Sm]
    exact smBs_ok ds (by simpa only [smB] using h)
  | .dict kvs, h => by
    simp only [smB, List.isEmpty_iff] at h
    simpa only [Sm] using h
theorem smBs_ok : ∀ ds : List PyData, smBs ds = true → SmAll ds
  | [], _ => by simp only [SmAll]
  | d :: ds, h => by
    simp only [smBs, Bool.and_eq_true] at h
    simp only [SmAll]
    exact ⟨smB_ok d h.1, smBs_ok ds h.2⟩
end
def okrB (d : PyData) : Bool := smB d && decide (d.depth ≤ 64) && decide (d.weight ≤ 30000)
theorem okrB_ok {d : PyData} (h : okrB d = true) : Okr d := by
  simp only [okrB, Bool.and_eq_true, decide_eq_true_eq] at h
  exact ⟨smB_ok d h.1.1, h.1.2, h.2⟩
def five : List P2 := [(0, 0), (4, 0), (5, 3), (2, 5), (-1, 3)]
def starL : List P2 := [(0, 0), (5, 3), (-1, 3), (4, 0), (2, 5)]
def eight : List P2 := [(999999999, -1000000000), (1000000000, -999999999), (1000000000, 999999999), (999999999, 1000000000), (-999999999, 1000000000), (-1000000000, 999999999), (-1000000000, -999999999), (-999999999, -1000000000)]
def someL : List PyData := [rv five, rv starL, rv eight, rv (eight ++ [(0, -1000000001)]), rv (eight.tail ++ [(0, -1000000000)]), rv [(0, 0), (2, 0), (2, 1), (2, 2), (0, 2)], rv [(0, 0), (0, 2), (2, 0)], rv [(3, 3)], rv [(3, 3), (3, 3)], rv [(1000000000, 1000000000), (-1000000000, -1000000000)], .tuple [], .none, .int 5, .str "ring"]
def flatL : List PyData := [rv [(-1000000000, -1000000000), (1000000000, 1000000000), (0, 1)], rv [(-1000000000, -1000000000), (1000000000, 999999999), (0, 0)], rv [(-1000000000, -1000000000), (1000000000, 1000000000), (0, 0)], rv [(-1000000000, -1000000000), (1000000000, 999999999), (0, -1)]]
theorem mid {a s1 s2 s3 s4 s5 : Option Sl} {k : Stm} : seqS p_law_2 (seqS p_law_3 (seqS p_law_4 (seqS p_law_5 (seqS p_law_6 (seqS p_law_7 (seqS p_law_8 (seqS p_law_9 (seqS p_law_10 (seqS p_law_11 k))))))))) [a, s1, s2, s3, s4, s5, none, none, none, none, none, none, none] =
    k [a, s1, s2, s3, s4, s5, some (.d (rv five)), some (.d (rv starL)), some (.d (.int 1000000000)), some (.d (rv eight)), some (.own someL), some (.own flatL), none] := by
  kernel_rfl
def isrB (d : PyData) : Bool := match c_is_ring [.d d] with
  | some (.ok (.d (.bool b)), _) => b
  | _ => false
theorem isrB_ok (d : PyData) : c_is_ring [.d d] = some (.ok (.d (.bool (isrB d))), []) := by
  obtain ⟨b, hb, _⟩ := ring_any d
  unfold isrB
  rw [hb]
theorem okr_some : (someL ++ flatL).all okrB = true := by kernel_rfl
theorem isr_flat : flatL.map (fun d => PyData.bool (isrB d)) = [.bool true, .bool true, .bool false, .bool false] := by kernel_rfl
theorem isr_some : (cutL someL none (some 8)).map (fun d => PyData.bool (isrB d)) = [.bool true, .bool false, .bool true, .bool false, .bool true, .bool false, .bool false, .bool true] := by kernel_rfl
end PvK09
end

noncomputable section
namespace PvK09
open PySem PySem.Spec PyProof.Rows L2 PV
open PvR (pow9 ring_ok)
open PvH (Rg)
theorem turn_ok {n : Nat} {pot : List PyData} {H : List P2} (hb : ∀ p ∈ H, Bq p) (l1 : 1 ≤ H.length) (l8 : H.length ≤ 8) (hp : Pot n pot) (hn : n + 20 < 1000000) {a s1 s4 s5 : Option Sl} (n5 : NM s5) :
    ∃ (y : PyData) (pot' : List PyData), b_law_1 [a, s1, some (.own pot), some (.d (rv H)), s4, s5, none, none, none, none, none, none, none] = some (.nx, [a, s1, some (.own pot'), some (.d (rv H)), s4, some (.d y), none, none, none, none, none, none, none]) ∧ Pot (n + 10) pot' := by
  obtain ⟨y, p1, f1, ok1, h1⟩ := bent_ok hb l1 l8 hp (by omega)
  obtain ⟨b, b1, b2, b3⟩ := ring_any y
  have r1 := right_ok ok1
  cases b with
  | false =>
    refine ⟨y, p1, ?_, h1.mono (by omega)⟩
    unfold b_law_1
    generalize rv H = R at *
    simp [-e_store, s_zero, s_succ, n5, f1, r1, b2]
  | true =>
    obtain ⟨H', rfl, hb', l1', l8'⟩ := b3 rfl
    obtain ⟨z, p2, f2, ok2, h2⟩ := bent_ok hb' l1' l8' h1 (by omega)
    have r2 := right_ok ok2
    refine ⟨rv H', p2, ?_, h2.mono (by omega)⟩
    unfold b_law_1
    generalize rv H' = R' at *
    generalize rv H = R at *
    simp [-e_store, s_zero, s_succ, n5, f1, r1, b2, f2, r2]
theorem b2_ok {ns : List Int} {kk : Int} (h0 : 0 ≤ kk) (h1 : kk < 1000) {s2 s3 s4 s5 : Option Sl} (n2 : NM s2) (n3 : NM s3) (n4 : NM s4) (n5 : NM s5) :
    ∃ t2 t3 t4 t5, b_law_2 [some (.d (.list (ns.map PyData.int))), some (.d (.int kk)), s2, s3, s4, s5, none, none, none, none, none, none, none] = some (.nx, [some (.d (.list (ns.map PyData.int))), some (.d (.int kk)), t2, t3, t4, t5, none, none, none, none, none, none, none]) ∧ NM t2 ∧ NM t3 ∧ NM t4 ∧ NM t5 := by
  obtain ⟨pot, f0, hp0⟩ := pot_spec (ns := ns) h0 h1
  obtain ⟨w, p1, f1, w0, w1, hp1⟩ := take_spec hp0 (by omega) (m := 4) (by decide) (by decide)
  obtain ⟨mm, em, hm⟩ := pick (α := PyData) (xs := [.int 4, .int 4, .int 20, .int 1000]) w0 (by simpa using w1)
  have hm' : ∃ t : Int, mm = .int t ∧ 0 < t ∧ t ≤ 1000000000 := by
    simp only [List.mem_cons, List.not_mem_nil, or_false] at hm
    rcases hm with rfl | rfl | rfl | rfl
    · exact ⟨4, rfl, by decide, by decide⟩
    · exact ⟨4, rfl, by decide, by decide⟩
    · exact ⟨20, rfl, by decide, by decide⟩
    · exact ⟨1000, rfl, by decide, by decide⟩
  obtain ⟨t, rfl, t0, t1⟩ := hm'
  obtain ⟨H, p2, f2, rg, hp2⟩ := ring_ok hp1 (by omega) t0 t1
  have hb : ∀ p ∈ H, Bq p := rg.bd
  have ir := PvR.isring_ok rg
  have x_isr : c_is_ring = PvR.c_is_ring := rfl
  rw [← x_isr] at ir
  have okH : Okr (rv H) := okr_tup (fun x hx => by
    obtain ⟨p, hp, rfl⟩ := List.mem_map.mp hx
    exact (it_P (hb p hp)).mono (by decide) (by decide)) (by rw [List.length_map]; have := rg.l8; omega)
  have rr := right_ok okH
  obtain ⟨e, fe, q4, q5, pot', rfl, m4, m5, _⟩ := forL_cnt (t := nameT 4) (b := b_law_1)
    (fun n env => ∃ (q4 q5 : Option Sl) (pot' : List PyData), env = [some (.d (.list (ns.map PyData.int))), some (.d (.int kk)), some (.own pot'), some (.d (rv H)), q4, q5, none, none, none, none, none, none, none] ∧ NM q4 ∧ NM q5 ∧ Pot (100 + 10 * n) pot')
    8 (ds := rangeL 0 8) (n := 0) (env := [some (.d (.list (ns.map PyData.int))), some (.d (.int kk)), some (.own p2), some (.d (rv H)), s4, s5, none, none, none, none, none, none, none])
    (fun n hn d hd env ⟨q4, q5, pot', he, m4, m5, hp⟩ => by
      subst he
      obtain ⟨y, p', e, hp'⟩ := turn_ok (a := some (.d (.list (ns.map PyData.int)))) (s1 := some (.d (.int kk))) (s4 := some (.d d)) hb rg.l1 rg.l8 hp (by omega) m5
      refine ⟨_, _, ?_, e, _, _, p', rfl, by simp, by simp, hp'.mono (by omega)⟩
      generalize rv H = R at *
      simp [-e_store, s_zero, s_succ, m4])
    (by decide) ⟨s4, s5, p2, rfl, n4, n5, hp2.mono (by omega)⟩
  refine ⟨some (.own pot'), some (.d (rv H)), q4, q5, ?_, by simp, by simp, m4, m5⟩
  rw [← x_pot] at f0
  rw [← x_take] at f1
  rw [← x_ring] at f2
  unfold b_law_2
  unfold rv at *
  generalize PyData.tuple (H.map mkP) = R at *
  have r8 : rangeL 0 8 = rangeL 0 8 := rfl
  have tt : isT (.bool true) (.bool true) = some (.d (.bool true)) := rfl
  have nt : nisT (.bool true) (.bool true) = some (.d (.bool false)) := rfl
  simp [-e_store, s_zero, s_succ, n2, n3, f0, f1, em, f2, ir, rr, nt, fe]
theorem if_ne {fa fb : M PyData} {f : Stm} {env e1 e2 : SEnv} {x y : PyData} (h1 : fa env = some (.ok x, e1)) (h2 : fb e1 = some (.ok y, e2)) (h3 : neD x y = some (.d (.bool false))) : ifS (cmpB fa fb neD) f nilS env = some (.nx, e2) := by
  simp [h1, h2, h3]
theorem fz_own {fa : M Vl} {env e1 : SEnv} {xs : List PyData} (h : fa env = some (.ok (.own xs), e1)) : PV.fz fa env = some (.ok (.list xs), e1) := by
  simp [h]
theorem lst_nil (env : SEnv) : lstM (M.ret []) env = some (.ok (.own []), env) := by
  simp
section
variable {a s1 s2 s3 s4 s5 : Option Sl}
abbrev En (a s1 s2 s3 s4 s5 : Option Sl) : SEnv := [a, s1, s2, s3, s4, s5, some (.d (rv five)), some (.d (rv starL)), some (.d (.int 1000000000)), some (.d (rv eight)), some (.d (.list someL)), some (.d (.list flatL)), none]
theorem k12 {E : SEnv} (hE : E = En a s1 s2 s3 s4 s5) : compL (nameT 12) [12] (notB (tru (PV.fz (callF c__law_right (consD (rdM 12) (M.ret [])))))) (rdM 12) (someL ++ flatL) [] E = some ([], E) := by
  have g := comp_fil (i := 12) (c := notB (tru (PV.fz (callF c__law_right (consD (rdM 12) (M.ret [])))))) (f := rdM 12) (p := fun _ => false) (g := fun d => d) (env := E) (by rw [hE]; simp) (ds := someL ++ flatL) (acc := []) (fun d hd => by
    have ok := right_ok (okrB_ok (List.all_eq_true.mp okr_some d hd))
    have hl : ((blkE [12] E).set 12 (some (.d d)))[12]? = some (some (.d d)) := by rw [hE]; rfl
    simp [hl, ok]) (fun d hd z => by cases z) (by decide)
  have fe : (someL ++ flatL).filter (fun _ => false) = [] := List.filter_eq_nil_iff.mpr fun _ _ => by decide
  rw [fe] at g
  exact g
theorem kcp {E : SEnv} (hE : E = En a s1 s2 s3 s4 s5) : ∀ ds : List PyData, ds.length ≤ 100 → compL (nameT 12) [12] (M.ret true) (PV.fz (callF c_is_ring (consD (rdM 12) (M.ret [])))) ds [] E = some (ds.map (fun d => .bool (isrB d)), E) := by
  intro ds hl
  have g := comp_pure (i := 12) (f := PV.fz (callF c_is_ring (consD (rdM 12) (M.ret [])))) (g := fun d => .bool (isrB d)) (env := E) (by rw [hE]; simp) (ds := ds) (acc := []) (fun d hd => comp_call1 (by rw [hE]; simp) (isrB_ok d)) (by simp; omega)
  rw [List.nil_append] at g
  exact g
theorem k12g {E : SEnv} (hE : E = En a s1 s2 s3 s4 s5) (nm : noMu [12] E = true) : p_law_12 [a, s1, s2, s3, s4, s5, some (.d (rv five)), some (.d (rv starL)), some (.d (.int 1000000000)), some (.d (rv eight)), some (.own someL), some (.own flatL), none] = some (.nx, E) := by
  have c12 := k12 hE
  have ad : addD (.list someL) (.list flatL) = some (.own (someL ++ flatL)) := o_addL (by decide)
  have q0 : neD (.list []) (.list []) = some (.d (.bool false)) := rfl
  have hi : seqI (PV.fz (PV.bin (rdM 10) (rdM 11) addD)) [a, s1, s2, s3, s4, s5, some (.d (rv five)), some (.d (rv starL)), some (.d (.int 1000000000)), some (.d (rv eight)), some (.own someL), some (.own flatL), none] = some (.ok (someL ++ flatL), E) := by
    rw [hE]
    unfold En
    clear c12 nm hE
    generalize someL ++ flatL = SF at *
    generalize rv five = R5 at *
    generalize rv starL = R6 at *
    generalize rv eight = R8 at *
    generalize someL = S at *
    generalize flatL = Fl' at *
    simp [-o_addL, ad]
  clear hE ad
  generalize ([a, s1, s2, s3, s4, s5, some (.d (rv five)), some (.d (rv starL)), some (.d (.int 1000000000)), some (.d (rv eight)), some (.own someL), some (.own flatL), none] : SEnv) = E' at *
  generalize someL ++ flatL = SF at *
  unfold p_law_12
  have hm : compM (seqI (PV.fz (PV.bin (rdM 10) (rdM 11) addD))) (nameT 12) [12] (notB (tru (PV.fz (callF c__law_right (consD (rdM 12) (M.ret [])))))) (rdM 12) E' = some (.ok (.own []), E) := by
    rw [e_compM, hi]
    dsimp only
    rw [if_pos nm, c12]
  clear hi c12
  generalize compM (seqI (PV.fz (PV.bin (rdM 10) (rdM 11) addD))) (nameT 12) [12] (notB (tru (PV.fz (callF c__law_right (consD (rdM 12) (M.ret [])))))) (rdM 12) = CM at *
  exact if_ne (fz_own hm) (fz_own (lst_nil E)) q0
theorem k13g {E : SEnv} (hE : E = En a s1 s2 s3 s4 s5) (nm : noMu [12] E = true) : p_law_13 E = some (.nx, E) := by
  have cp := kcp hE
  have c13 := cp flatL (by decide)
  rw [isr_flat] at c13
  have q1 : neD (.list [.bool true, .bool true, .bool false, .bool false]) (.list [.bool true, .bool true, .bool false, .bool false]) = some (.d (.bool false)) := rfl
  have E11 : E[11]? = some (some (.d (.list flatL))) := by rw [hE]; rfl
  unfold p_law_13
  generalize someL = S at *
  generalize flatL = Fl' at *
  simp [e_compM, E11, nm, c13, q1]
theorem k14g {E : SEnv} (hE : E = En a s1 s2 s3 s4 s5) (nm : noMu [12] E = true) : p_law_14 E = some (.rt (.d (.bool true)), E) := by
  have cp := kcp hE
  have c14 := cp (cutL someL none (some 8)) (by decide)
  rw [isr_some] at c14
  have q2 : eqD (.list [.bool true, .bool false, .bool true, .bool false, .bool true, .bool false, .bool false, .bool true]) (.list [.bool true, .bool false, .bool true, .bool false, .bool true, .bool false, .bool false, .bool true]) = some (.d (.bool true)) := rfl
  have E10 : E[10]? = some (some (.d (.list someL))) := by rw [hE]; rfl
  unfold p_law_14
  have sl : slD (.list someL) none (some 8) = some (.own (cutL someL none (some 8))) := rfl
  generalize cutL someL none (some 8) = C8 at *
  generalize someL = S at *
  generalize flatL = Fl' at *
  simp [-o_slL, e_compM, E10, sl, nm, c14, q2]
end
theorem law_true (ns : List Int) (h : ns.length ≤ 63) : c_law [.d (.list (ns.map PyData.int))] = some (.ok (.d (.bool true)), []) := by
  obtain ⟨N, hN0, hN1, hN⟩ : ∃ N : Int, 0 ≤ N ∧ N ≤ 1000 ∧ N = (if (if (40 : Int) < (ns.length : Int) then 40 else (ns.length : Int)) > 1 then (if (40 : Int) < (ns.length : Int) then 40 else (ns.length : Int)) else 1) := by
    refine ⟨_, ?_, ?_, rfl⟩
    · split <;> split <;> omega
    · split <;> split <;> omega
  obtain ⟨e1, f1, s1, s2, s3, s4, s5, rfl, n1, n2, n3, n4, n5⟩ := forL_nx (t := nameT 1) (b := b_law_2) (ds := rangeL 0 N.toNat)
    (fun env => ∃ s1 s2 s3 s4 s5 : Option Sl, env = [some (.d (.list (ns.map PyData.int))), s1, s2, s3, s4, s5, none, none, none, none, none, none, none] ∧ NM s1 ∧ NM s2 ∧ NM s3 ∧ NM s4 ∧ NM s5)
    (env := [some (.d (.list (ns.map PyData.int))), none, none, none, none, none, none, none, none, none, none, none, none])
    (fun d hd env ⟨s1, s2, s3, s4, s5, he, n1, n2, n3, n4, n5⟩ => by
      subst he
      obtain ⟨i, hi, rfl⟩ := mem_range hd
      obtain ⟨kk, hkk⟩ : ∃ kk : Int, kk = 0 + (i : Int) := ⟨_, rfl⟩
      rw [← hkk]
      obtain ⟨t2, t3, t4, t5, e, m2, m3, m4, m5⟩ := b2_ok (ns := ns) (kk := kk) (by omega) (by omega) n2 n3 n4 n5
      refine ⟨_, _, ?_, e, _, t2, t3, t4, t5, rfl, by simp, m2, m3, m4, m5⟩
      simp [-e_store, s_zero, s_succ, n1])
    ⟨none, none, none, none, none, rfl, by simp, by simp, by simp, by simp, by simp⟩
  have hr : -4611686018427387904 ≤ N ∧ N < 4611686018427387904 := by omega
  have f0 : p_law_1 [some (.d (.list (ns.map PyData.int))), none, none, none, none, none, none, none, none, none, none, none, none] = some (.nx, [some (.d (.list (ns.map PyData.int))), s1, s2, s3, s4, s5, none, none, none, none, none, none, none]) := by
    unfold p_law_1
    simp [-e_store, s_zero, s_succ, ← hN, f1, hr]
  have md := fun k : Stm => mid (k := k) (a := some (.d (.list (ns.map PyData.int)))) (s1 := s1) (s2 := s2) (s3 := s3) (s4 := s4) (s5 := s5)
  obtain ⟨E, hE⟩ : ∃ E : SEnv, E = En (some (.d (.list (ns.map PyData.int)))) s1 s2 s3 s4 s5 := ⟨_, rfl⟩
  have nm : noMu [12] E = true := by rw [hE]; rfl
  have g12 := k12g hE nm
  have g13 := k13g hE nm
  have g14 := k14g hE nm
  unfold c_law
  rw [split_law]
  refine run_d (n := 12) (e := E) ?_
  show seqS p_law_1 _ [some (.d (.list (ns.map PyData.int))), none, none, none, none, none, none, none, none, none, none, none, none] = _
  rw [seq_nx f0, md, seq_nx g12, seq_nx g13, g14]
end PvK09
end


noncomputable section
namespace PvK09
open PySem PySem.Spec PyProof.Rows L2 PV
abbrev Rw : PySem.W.OpenRow := PySem.W.OpenLaw.row PySem.Challenge.rw_wherewhen_k09_rings_known
abbrev hk : PySem.W.Hook := hookP 5 fa fn ex
theorem run (w : World) : HandSHeadRun.RunEq Rw (PySem.W.view Rw.prog [23]) hk (obsP 5 fa fn ex) 8000 loose w := by
  intro os
  kernel_rfl
end PvK09
end
open PySem PySem.W PySem.Calls PyProof.Rows
theorem PySem.Challenge.cw_wherewhen_k09_rings_known_holds : PySem.Challenge.rw_wherewhen_k09_rings_known.Holds := by
  w_on; o_law
  refine HandSHeadRun.head_any (r := PvK09.Rw) (q := view PvK09.Rw.prog [23]) (H := PvK09.hk) (ob := PV.obsP 5 PvK09.fa PvK09.fn PvK09.ex) (M := 8000) (loose := PvK09.loose) (d := HandSHeadRun.topDef PvK09.Rw.prog 23) (kwd := []) PV.obsP_eq
    (by kernel_rfl) (fun s => by kernel_rfl) PvK09.run (by kernel_rfl) (by kernel_rfl) (by kernel_rfl) (by rfl) (by first | assumption | decide +kernel) (by decide +kernel) ⟨rfl, rfl, rfl, rfl, rfl, by decide +kernel⟩ ?hw ?hc
  case hw => w_witness2
  case hc =>
    refine PV.walk_GE (l := PySem.Challenge.rw_wherewhen_k09_rings_known) (n := 63) (k := 6) (x := "script") (cls := PvK09.cls) (c := PvK09.c_law) rfl (by decide) (by kernel_rfl) ⟨rfl, by decide, by decide⟩ ?F PvK09.law_true
    intro w mg fa h Y G hmg0
    obtain ⟨K, KX, c, ce⟩ := Y
    have hmg : mg ("law" : PySem.Str) = some (.ref fa) := by
      have e : (HandSHeadRun.topDef PvK09.Rw.prog 23).name = ("law" : PySem.Str) := by kernel_rfl
      rw [← e]
      exact hmg0
    obtain ⟨fd, F0⟩ := c.def_ 18 (d := PvK09.dd_law) rfl
    have e := hmg.symm.trans (He.glo_ok KX G (c.fact 37 (f := .glo "law") rfl))
    cases e
    have F1 : L2.FunD K "law" "law" (L2.defArgs PvK09.st_law) (L2.defBody PvK09.st_law) (L2.defScope PvK09.st_law) [] [] (He.ga K "law") fd := F0
    refine ⟨K, fd, KX, fun s v => F1.bindsA (ps := ["script"]) (fun _ _ _ _ _ _ us hl => match us, hl with | [_], _ => rfl) s [v] rfl, fun base hi hn => ?_⟩
    obtain ⟨ce1, ce2⟩ := PV.and2 ce
    exact PvK09.law_fn (Mo := ⟨(PySem.Challenge.rw_wherewhen_k09_rings_known).prog, w, base, mg, K, PvK09.cls K⟩) ⟨hi, hn, c, ce2, rfl, PV.sysB_ok ce1⟩ F1

