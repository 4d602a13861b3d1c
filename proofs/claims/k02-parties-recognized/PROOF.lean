import PyProof.Rows.All
import Wide.All
import OpenK.AllK
import Wide.FinOn
import HandS.ForMost
import HandS.ForExc
import HandS.Wide
import PyProof.P3In
import PyProof.Rows.InDataRows
import PyProof.EqLayable
import PyProof.ReprRoads
import KE.LtData
import HandS.IsInst
import HandS.TupAny
import HandS.TupMul
import HandS.Dict
import HandS.RaiseMore
import HandS.Zip
import HandS.Iter
import HandS.Style
import HandS.HeadEnd
import HandS.Head0
import HandS.Head1
import HandS.Head2
import HandS.HeadHook1
import HandS.HeadHook2
import PySem.Challenge.RW_metnumbers_k02_parties_recognized
set_option Elab.async false
set_option autoImplicit false
set_option linter.all false
set_option maxRecDepth 100000
set_option maxHeartbeats 0
namespace DL
open PySem PySem.Spec PyProof.Rows L2

/-! ## data, outcomes -/
abbrev D := PyData
/-- what a slot holds, what an expression gives: data; a list of one's own, new, that nobody else knows; an object by its address; the pot of draws -/
inductive Wv where
  | dat (d : D)
  | own (xs : List D)
  | raw (v : V)
  | pot
structure Ex where
  name : Str
  fs : List (Str × D)
inductive M (α : Type) where
  | ok (a : α)
  | exc (e : Ex)
  | bad
  | pick (n : Nat) (k : Nat → M α)
namespace M
def bnd {α β : Type} : M α → (α → M β) → M β
  | .ok a, f => f a
  | .exc e, _ => .exc e
  | .bad, _ => .bad
  | .pick n k, f => .pick n fun i => bnd (k i) f
instance : Monad M where
  pure := .ok
  bind := bnd
def post {α : Type} : M α → (α → Prop) → (Ex → Prop) → Prop
  | .ok a, Q, _ => Q a
  | .exc e, _, E => E e
  | .bad, _, _ => False
  | .pick n k, Q, E => ∀ i, i < n → post (k i) Q E
section
variable {α β γ : Type}
theorem pure_eq (a : α) : (pure a : M α) = .ok a := rfl
@[simp] theorem ok_bind (a : α) (f : α → M β) : ((M.ok a : M α) >>= f) = f a := rfl
@[simp] theorem exc_bind (e : Ex) (f : α → M β) : ((M.exc e : M α) >>= f) = .exc e := rfl
@[simp] theorem bad_bind (f : α → M β) : ((M.bad : M α) >>= f) = .bad := rfl
@[simp] theorem pick_bind (n : Nat) (k : Nat → M α) (f : α → M β) : ((M.pick n k : M α) >>= f) = .pick n fun i => k i >>= f := rfl
theorem bind_assoc' (m : M α) (f : α → M β) (g : β → M γ) : (m >>= f) >>= g = m >>= fun a => f a >>= g := by
  induction m with
  | ok a => rfl
  | exc e => rfl
  | bad => rfl
  | pick n k ih => simp only [pick_bind]; congr 1; funext i; exact ih i
theorem post_bind {m : M α} {f : α → M β} {Q : β → Prop} {E : Ex → Prop} : (m >>= f).post Q E ↔ m.post (fun a => (f a).post Q E) E := by
  induction m with
  | ok a => exact Iff.rfl
  | exc e => exact Iff.rfl
  | bad => exact Iff.rfl
  | pick n k ih => exact forall_congr' fun i => forall_congr' fun _ => ih i
theorem post_mono {m : M α} {Q Q' : α → Prop} {E E' : Ex → Prop} (h : m.post Q E) (hQ : ∀ a, Q a → Q' a) (hE : ∀ e, E e → E' e) : m.post Q' E' := by
  induction m with
  | ok a => exact hQ a h
  | exc e => exact hE e h
  | bad => exact h
  | pick n k ih => exact fun i hi => ih i (h i hi)
@[simp] theorem post_ok (a : α) (Q : α → Prop) (E : Ex → Prop) : (M.ok a).post Q E = Q a := rfl
@[simp] theorem post_exc (e : Ex) (Q : α → Prop) (E : Ex → Prop) : (M.exc e : M α).post Q E = E e := rfl
@[simp] theorem post_bad (Q : α → Prop) (E : Ex → Prop) : (M.bad : M α).post Q E = False := rfl
@[simp] theorem post_pick (n : Nat) (k : Nat → M α) (Q : α → Prop) (E : Ex → Prop) : (M.pick n k).post Q E = ∀ i, i < n → (k i).post Q E := rfl
end
end M

/-! ## data over an abstract heap (frozen part F) -/
/-- a dict's key as data -/
def keyD : Key → D
  | .inl i => .int i
  | .inr x => .str x
mutual
inductive DR (K : PySem.W.Frag) (F : Hp) : V → D → Prop
  | non : DR K F .non .none
  | bl (b : Bool) : DR K F (.bl b) (.bool b)
  | int (i : Int) : DR K F (.int i) (.int i)
  | str (x : Str) : DR K F (.str x) (.str x)
  | lst {a : Addr} {xs : List V} {ds : List D} : F a = some (.lst xs) → DRs K F xs ds → DR K F (.ref a) (.list ds)
  | tup {a : Addr} {xs : List V} {ds : List D} : SqT K F a xs → DRs K F xs ds → DR K F (.ref a) (.tuple ds)
  | dct {a : Addr} {kvs : List (Key × V)} {es : List (D × D)} : F a = some (.dK kvs) → es.map (·.1) = kvs.map (fun p => keyD p.1) → DRs K F (kvs.map (·.2)) (es.map (·.2)) → DR K F (.ref a) (.dict es)
inductive DRs (K : PySem.W.Frag) (F : Hp) : List V → List D → Prop
  | nil : DRs K F [] []
  | cons {v : V} {vs : List V} {d : D} {ds : List D} : DR K F v d → DRs K F vs ds → DRs K F (v :: vs) (d :: ds)
end
section
variable {K : PySem.W.Frag} {F F' H H' : Hp} {a : Addr}
theorem sq_mono_l (e : Same F F') {xs : List V} (h : SqL K F a xs) : SqL K F' a xs := e.seq h
theorem rd_mono (e : Same F F') {u : HO} (h : Rd F a u) : Rd F' a u := by
  rcases h with h | ⟨o, h⟩
  · exact .inl (e _ _ h)
  · exact .inr ⟨o, e _ _ h⟩
theorem sq_mono_t (e : Same F F') {xs : List V} (h : SqT K F a xs) : SqT K F' a xs := by
  rcases h with h | h
  · exact .inl (rd_mono e h)
  · exact .inr h
mutual
theorem DR.mono (e : Same F F') : ∀ {v : V} {d : D}, DR K F v d → DR K F' v d
  | _, _, .non => .non
  | _, _, .bl b => .bl b
  | _, _, .int i => .int i
  | _, _, .str x => .str x
  | _, _, .lst h hs => .lst (e _ _ h) (DRs.mono e hs)
  | _, _, .tup h hs => .tup (sq_mono_t e h) (DRs.mono e hs)
  | _, _, .dct h hk hs => .dct (e _ _ h) hk (DRs.mono e hs)
theorem DRs.mono (e : Same F F') : ∀ {vs : List V} {ds : List D}, DRs K F vs ds → DRs K F' vs ds
  | _, _, .nil => .nil
  | _, _, .cons h hs => .cons (DR.mono e h) (DRs.mono e hs)
end
theorem DRs.length {vs : List V} {ds : List D} : DRs K F vs ds → vs.length = ds.length
  | .nil => rfl
  | .cons _ t => congrArg (· + 1) (DRs.length t)
theorem DRs.get : ∀ {vs : List V} {ds : List D} {i : Nat} {d : D}, DRs K F vs ds → ds[i]? = some d → ∃ v, vs[i]? = some v ∧ DR K F v d
  | _, _, _, _, .nil, e => by simp at e
  | _, _, 0, _, .cons h _, e => by
    simp only [List.getElem?_cons_zero, Option.some.injEq] at e
    subst e
    exact ⟨_, rfl, h⟩
  | _, _, i + 1, d, .cons _ t, e => by
    simp only [List.getElem?_cons_succ] at e ⊢
    exact DRs.get t e
theorem DRs.getV : ∀ {vs : List V} {ds : List D} {i : Nat} {v : V}, DRs K F vs ds → vs[i]? = some v → ∃ d, ds[i]? = some d ∧ DR K F v d
  | _, _, _, _, .nil, e => by simp at e
  | _, _, 0, _, .cons h _, e => by
    simp only [List.getElem?_cons_zero, Option.some.injEq] at e
    subst e
    exact ⟨_, rfl, h⟩
  | _, _, i + 1, d, .cons _ t, e => by
    simp only [List.getElem?_cons_succ] at e ⊢
    exact DRs.getV t e
theorem DRs.append : ∀ {vs ws : List V} {ds es : List D}, DRs K F vs ds → DRs K F ws es → DRs K F (vs ++ ws) (ds ++ es)
  | _, _, _, _, .nil, t => t
  | _, _, _, _, .cons h s, t => .cons h (DRs.append s t)
theorem DRs.take : ∀ {vs : List V} {ds : List D} (n : Nat), DRs K F vs ds → DRs K F (vs.take n) (ds.take n)
  | _, _, 0, _ => .nil
  | _, _, _ + 1, .nil => .nil
  | _, _, n + 1, .cons h t => .cons h (DRs.take n t)
theorem DRs.drop : ∀ {vs : List V} {ds : List D} (n : Nat), DRs K F vs ds → DRs K F (vs.drop n) (ds.drop n)
  | _, _, 0, t => t
  | _, _, _ + 1, .nil => .nil
  | _, _, n + 1, .cons _ t => DRs.drop n t
theorem DRs.set {v : V} {d : D} (h : DR K F v d) : ∀ {vs : List V} {ds : List D} (i : Nat), DRs K F vs ds → DRs K F (vs.set i v) (ds.set i d)
  | _, _, _, .nil => .nil
  | _, _, 0, .cons _ t => .cons h t
  | _, _, i + 1, .cons g t => .cons g (DRs.set h i t)
theorem DRs.reverse : ∀ {vs : List V} {ds : List D}, DRs K F vs ds → DRs K F vs.reverse ds.reverse
  | _, _, .nil => .nil
  | _, _, .cons h t => by
    simp only [List.reverse_cons]
    exact DRs.append (DRs.reverse t) (.cons h .nil)
end

/-! ## what a piece of a run does: heap H with its frozen part F, then H' with F' -/
/-- the pot's address and that of its cells -/
abbrev Pot := Option (Addr × Addr)
def notPot (pi : Pot) (a : Addr) : Prop := ∀ p c, pi = some (p, c) → a ≠ p
def PotIn (pi : Pot) (H F : Hp) : Prop := ∀ p c, pi = some (p, c) → (∃ n x y : Int, H p = some (.lst [.ref c, .int n, .int x, .int y])) ∧ F p = none ∧ ∃ ns : List Int, H c = some (.lst (ns.map V.int)) ∧ c ≠ p
structure Step (pi : Pot) (H F H' F' : Hp) : Prop where
  mono : Same F F'
  le : Same F' H'
  new : ∀ a o, F' a = some o → F a = some o ∨ H a = none
  same : ∀ a o, notPot pi a → H a = some o → H' a = some o
  pot : PotIn pi H' F'
section
variable {pi : Pot} {H F H' F' H'' F'' : Hp}
theorem Step.refl (l : Same F H) (p : PotIn pi H F) : Step pi H F H F := ⟨Same.refl F, l, fun _ _ h => .inl h, fun _ _ _ h => h, p⟩
theorem Step.there (s : Step pi H F H' F') (hp : PotIn pi H F) {a : Addr} {o : HO} (h : H a = some o) : ∃ o', H' a = some o' := by
  by_cases n : notPot pi a
  · exact ⟨o, s.same a o n h⟩
  · have q : ∃ p c, pi = some (p, c) ∧ a = p := by
      refine Classical.byContradiction fun z => n fun p c e w => z ⟨p, c, e, w⟩
    obtain ⟨p, c, e, rfl⟩ := q
    obtain ⟨⟨i, x, y, r⟩, _⟩ := s.pot a c e
    exact ⟨_, r⟩
theorem Step.none_of (s : Step pi H F H' F') (hp : PotIn pi H F) {a : Addr} (h : H' a = none) : H a = none := by
  cases q : H a with
  | none => rfl
  | some o =>
    obtain ⟨o', r⟩ := s.there hp q
    rw [h] at r
    cases r
theorem Step.trans (s : Step pi H F H' F') (hp : PotIn pi H F) (t : Step pi H' F' H'' F'') : Step pi H F H'' F'' where
  mono := s.mono.trans t.mono
  le := t.le
  new := fun a o h => by
    rcases t.new a o h with q | q
    · exact s.new a o q
    · exact .inr (s.none_of hp q)
  same := fun a o n h => t.same a o n (s.same a o n h)
  pot := t.pot
/-- the new object at p laid into both -/
theorem Step.lay (l : Same F H) (hp : PotIn pi H F) {p : Addr} {o : HO} (h : H p = none) : Step pi H F (upd H p o) (upd F p o) := by
  have hF : F p = none := by
    cases q : F p with
    | none => rfl
    | some o =>
      rw [l p o q] at h
      cases h
  refine ⟨fun a u e => ?_, fun a u e => ?_, fun a u e => ?_, fun a u _ e => ?_, fun q c e => ?_⟩
  · rw [upd_ne (ne_of_none e hF)]; exact e
  · by_cases z : a = p
    · subst z; rw [upd_same] at e ⊢; exact e
    · rw [upd_ne z] at e ⊢; exact l a u e
  · by_cases z : a = p
    · subst z; exact .inr h
    · rw [upd_ne z] at e; exact .inl e
  · rw [upd_ne (ne_of_none e h)]; exact e
  · obtain ⟨⟨i, x, y, r⟩, f, ns, r2, ne⟩ := hp q c e
    refine ⟨⟨i, x, y, ?_⟩, ?_, ns, ?_, ne⟩
    · rw [upd_ne (ne_of_none r h)]; exact r
    · rw [upd_ne (ne_of_none r h)]; exact f
    · rw [upd_ne (ne_of_none r2 h)]; exact r2
/-- .. into H alone -/
theorem Step.layH (l : Same F H) (hp : PotIn pi H F) {p : Addr} {o : HO} (h : H p = none) : Step pi H F (upd H p o) F := by
  refine ⟨Same.refl F, fun a u e => ?_, fun a u e => .inl e, fun a u _ e => ?_, fun q c e => ?_⟩
  · rw [upd_ne (ne_of_none (l a u e) h)]; exact l a u e
  · rw [upd_ne (ne_of_none e h)]; exact e
  · obtain ⟨⟨i, x, y, r⟩, f, ns, r2, ne⟩ := hp q c e
    refine ⟨⟨i, x, y, ?_⟩, f, ns, ?_, ne⟩
    · rw [upd_ne (ne_of_none r h)]; exact r
    · rw [upd_ne (ne_of_none r2 h)]; exact r2
/-- an object of H, unknown to F, frozen -/
theorem Step.freeze (l : Same F H) (hp : PotIn pi H F) {p : Addr} {o : HO} (h : H p = some o) (hF : F p = none) (np : notPot pi p) : Same F (upd F p o) ∧ Same (upd F p o) H ∧ PotIn pi H (upd F p o) := by
  refine ⟨fun a u e => ?_, fun a u e => ?_, fun q c e => ?_⟩
  · rw [upd_ne (ne_of_none e hF)]; exact e
  · by_cases z : a = p
    · subst z; rw [upd_same] at e; rw [h]; exact e
    · rw [upd_ne z] at e; exact l a u e
  · obtain ⟨r, f, r2⟩ := hp q c e
    refine ⟨r, ?_, r2⟩
    rw [upd_ne (fun z => np q c e z.symm)]; exact f
end

/-! ## results -/
/-- an expression's end: v holds w; H0: the heap ahead (a list of one's own is younger) -/
def Res (K : PySem.W.Frag) (pi : Pot) (H0 H F : Hp) (v : V) : Wv → Prop
  | .dat d => DR K F v d
  | .own xs => ∃ a vs, v = .ref a ∧ H a = some (.lst vs) ∧ F a = none ∧ H0 a = none ∧ DRs K F vs xs
  | .raw u => v = u
  | .pot => ∃ p c, pi = some (p, c) ∧ v = .ref p
def Wv.d? : Wv → Option D
  | .dat d => some d
  | .own xs => some (.list xs)
  | _ => none
def Wv.d : Wv → M D
  | .dat d => .ok d
  | .own xs => .ok (.list xs)
  | _ => .bad
@[simp] theorem d_dat (d : D) : Wv.d (.dat d) = .ok d := rfl
@[simp] theorem d_own (xs : List D) : Wv.d (.own xs) = .ok (.list xs) := rfl
@[simp] theorem d_raw (v : V) : Wv.d (.raw v) = .bad := rfl
@[simp] theorem d_pot : Wv.d .pot = .bad := rfl
theorem new_notPot {pi : Pot} {H F : Hp} (hp : PotIn pi H F) {a : Addr} (h : H a = none) : notPot pi a := fun p c e z => by
  obtain ⟨⟨i, x, y, r⟩, _⟩ := hp p c e
  rw [← z, h] at r
  cases r
/-- a result as data: what is one's own is given up -/
theorem Res.give {K : PySem.W.Frag} {pi : Pot} {H0 F0 H F : Hp} {v : V} {w : Wv} {d : D} (r : Res K pi H0 H F v w) (e : w.d? = some d) (p0 : PotIn pi H0 F0) (s : Step pi H0 F0 H F) : ∃ F', Step pi H0 F0 H F' ∧ Same F F' ∧ DR K F' v d := by
  cases w with
  | dat d' =>
    cases e
    exact ⟨F, s, Same.refl F, r⟩
  | own xs =>
    cases e
    obtain ⟨a, vs, rfl, ha, hF, h0, hs⟩ := r
    obtain ⟨m, l, p⟩ := Step.freeze s.le s.pot ha hF (new_notPot p0 h0)
    refine ⟨upd F a (.lst vs), ⟨s.mono.trans m, l, fun b o q => ?_, s.same, p⟩, m, .lst upd_same (hs.mono m)⟩
    by_cases z : b = a
    · subst z; exact .inr h0
    · rw [upd_ne z] at q; exact s.new b o q
  | raw _ => cases e
  | pot => cases e
/-- an exception's end -/
def XRes (K : PySem.W.Frag) (mg : Str → Option Value) (H F : Hp) (cls : Value) (d : Option Addr) (e : Ex) : Prop :=
  ∃ C, mg e.name = some (.ref C) ∧ cls = .ref C ∧ match e.fs with
    | [] => d = none
    | _ => ∃ dd vs, d = some dd ∧ H dd = some (.xd vs) ∧ vs.map (·.1) = e.fs.map (·.1) ∧ DRs K F (vs.map (·.2)) (e.fs.map (·.2))
end DL

namespace DL
open PySem PySem.Spec PyProof.Rows L2

/-! ## data without a list -/
mutual
def noL : D → Bool
  | .list _ => false
  | .tuple xs => noLs xs
  | .dict kvs => noLk kvs
  | _ => true
def noLs : List D → Bool
  | [] => true
  | d :: ds => noL d && noLs ds
def noLk : List (D × D) → Bool
  | [] => true
  | (_, d) :: ds => noL d && noLk ds
end
@[simp] theorem noL_none : noL .none = true := by simp [noL]
@[simp] theorem noL_bool (b : Bool) : noL (.bool b) = true := by simp [noL]
@[simp] theorem noL_int (i : Int) : noL (.int i) = true := by simp [noL]
@[simp] theorem noL_str (x : Str) : noL (.str x) = true := by simp [noL]
@[simp] theorem noL_list (xs : List D) : noL (.list xs) = false := by simp [noL]
@[simp] theorem noL_tuple (xs : List D) : noL (.tuple xs) = noLs xs := by simp [noL]
@[simp] theorem noLs_nil : noLs [] = true := by simp [noLs]
@[simp] theorem noLs_cons (d : D) (ds : List D) : noLs (d :: ds) = (noL d && noLs ds) := by simp [noLs]
theorem noLs_all : ∀ ds : List D, noLs ds = ds.all noL
  | [] => by simp
  | d :: ds => by simp [noLs_all ds]
theorem noLk_map : ∀ es : List (D × D), noLk es = noLs (es.map (·.2))
  | [] => by simp [noLk]
  | (_, d) :: es => by simp [noLk, noLk_map es]
def Wv.still : Wv → Bool
  | .dat d => noL d
  | .own xs => noLs xs
  | _ => true
@[simp] theorem still_dat (d : D) : Wv.still (.dat d) = noL d := rfl
@[simp] theorem still_own (xs : List D) : Wv.still (.own xs) = noLs xs := rfl
@[simp] theorem still_raw (v : V) : Wv.still (.raw v) = true := rfl
@[simp] theorem still_pot : Wv.still .pot = true := rfl
/-- given up: data -/
def Wv.give : Wv → Wv
  | .own xs => .dat (.list xs)
  | w => w
@[simp] theorem give_dat (d : D) : Wv.give (.dat d) = .dat d := rfl
@[simp] theorem give_own (xs : List D) : Wv.give (.own xs) = .dat (.list xs) := rfl
@[simp] theorem give_raw (v : V) : Wv.give (.raw v) = .raw v := rfl
@[simp] theorem give_pot : Wv.give .pot = .pot := rfl
@[simp] theorem give_give (w : Wv) : w.give.give = w.give := by cases w <;> rfl
@[simp] theorem d_give (w : Wv) : w.give.d = w.d := by cases w <;> rfl

section
variable {K : PySem.W.Frag} {F F' : Hp}
mutual
theorem DR.noL_to (h : ∀ a u, (∀ xs, u ≠ .lst xs) → F a = some u → F' a = some u) : ∀ {v : V} {d : D}, DR K F v d → noL d = true → DR K F' v d
  | _, _, .non, _ => .non
  | _, _, .bl b, _ => .bl b
  | _, _, .int i, _ => .int i
  | _, _, .str x, _ => .str x
  | _, _, .lst _ _, e => by simp at e
  | _, _, .tup hs ha, e => .tup (by
      rcases hs with (q | ⟨o, q⟩) | q
      · exact .inl (.inl (h _ _ (fun _ z => by cases z) q))
      · exact .inl (.inr ⟨o, h _ _ (fun _ z => by cases z) q⟩)
      · exact .inr q) (DRs.noL_to h ha (by simpa using e))
  | _, _, .dct (es := es) hs hk ha, e => .dct (by
      exact h _ _ (fun _ z => by cases z) hs) hk (DRs.noL_to h ha (by simpa [noL, noLk_map] using e))
theorem DRs.noL_to (h : ∀ a u, (∀ xs, u ≠ .lst xs) → F a = some u → F' a = some u) : ∀ {vs : List V} {ds : List D}, DRs K F vs ds → noLs ds = true → DRs K F' vs ds
  | _, _, .nil, _ => .nil
  | _, _, .cons h1 h2, e => by
    simp only [noLs_cons, Bool.and_eq_true] at e
    exact .cons (DR.noL_to h h1 e.1) (DRs.noL_to h h2 e.2)
end
end

/-! ## the slots -/
abbrev En := List (Option Wv)
structure Act where
  pi : Pot
  H0 : Hp
  F0 : Hp
structure SR (K : PySem.W.Frag) (c : Act) (σ : L2.St) (H F : Hp) (ρ : En) : Prop where
  len : ρ.length = σ.length
  st : Step c.pi c.H0 c.F0 H F
  p0 : PotIn c.pi c.H0 c.F0
  slot : ∀ (i : Nat) (w : Wv), ρ[i]? = some (some w) → ∃ v, σ[i]? = some (some v) ∧ Res K c.pi c.H0 H F v w
  sep : ∀ (i j : Nat) (xs ys : List D) (v : V), i ≠ j → ρ[i]? = some (some (.own xs)) → ρ[j]? = some (some (.own ys)) → σ[i]? = some (some v) → σ[j]? = some (some v) → False
section
variable {K : PySem.W.Frag} {c : Act} {σ : L2.St} {H F H' F' : Hp} {ρ : En}
theorem Res.step {pi : Pot} {H0 F0 : Hp} {v : V} {w : Wv} (r : Res K pi H0 H F v w) (p0 : PotIn pi H0 F0) (s : Step pi H F H' F') : Res K pi H0 H' F' v w := by
  cases w with
  | dat d => exact DR.mono s.mono r
  | own xs =>
    obtain ⟨a, vs, rfl, ha, hF, h0, hs⟩ := r
    refine ⟨a, vs, rfl, s.same a _ (new_notPot p0 h0) ha, ?_, h0, hs.mono s.mono⟩
    cases q : F' a with
    | none => rfl
    | some o =>
      rcases s.new a o q with z | z
      · rw [hF] at z; cases z
      · rw [ha] at z; cases z
  | raw u => exact r
  | pot => exact r
theorem SR.step (I : SR K c σ H F ρ) (s : Step c.pi H F H' F') : SR K c σ H' F' ρ where
  len := I.len
  st := I.st.trans I.p0 s
  p0 := I.p0
  slot := fun i w e => by
    obtain ⟨v, h1, h2⟩ := I.slot i w e
    exact ⟨v, h1, h2.step I.p0 s⟩
  sep := I.sep
theorem SR.pot (I : SR K c σ H F ρ) : PotIn c.pi H F := I.st.pot
theorem SR.le (I : SR K c σ H F ρ) : Same F H := I.st.le

/-! ### giving up what is one's own -/
def frz1 (i : Nat) (ρ : En) : En := match ρ[i]? with
  | some (some (.own xs)) => ρ.set i (some (.dat (.list xs)))
  | _ => ρ
def frz : List Nat → En → En
  | [], ρ => ρ
  | i :: m, ρ => frz m (frz1 i ρ)
/-- Fp is F with some lists more -/
def More (F Fp : Hp) : Prop := Same F Fp ∧ ∀ a o, Fp a = some o → F a = some o ∨ ∃ xs, o = .lst xs
theorem More.refl (F : Hp) : More F F := ⟨Same.refl F, fun _ _ h => .inl h⟩
theorem More.trans {F G J : Hp} (a : More F G) (b : More G J) : More F J := ⟨a.1.trans b.1, fun x o h => by
  rcases b.2 x o h with q | q
  · exact a.2 x o q
  · exact .inr q⟩
theorem SR.frz1 (I : SR K c σ H F ρ) (i : Nat) : ∃ Fp, SR K c σ H Fp (frz1 i ρ) ∧ More F Fp := by
  unfold DL.frz1
  split
  · rename_i xs e
    obtain ⟨v, hv, a, vs, rfl, ha, hF, h0, hs⟩ := I.slot i _ e
    obtain ⟨m, l, p⟩ := Step.freeze I.le I.pot ha hF (new_notPot I.p0 h0)
    have hi : i < ρ.length := (List.getElem?_eq_some_iff.mp e).1
    refine ⟨upd F a (.lst vs), ⟨by rw [List.length_set]; exact I.len, ⟨I.st.mono.trans m, l, fun b o q => ?_, I.st.same, p⟩, I.p0, fun j w q => ?_, fun j k ys zs u n q1 q2 => ?_⟩, m, fun b o q => ?_⟩
    · by_cases z : b = a
      · subst z; exact .inr h0
      · rw [upd_ne z] at q; exact I.st.new b o q
    · by_cases z : j = i
      · subst z
        rw [List.getElem?_set_self hi] at q
        cases q
        exact ⟨_, hv, .lst upd_same (hs.mono m)⟩
      · rw [List.getElem?_set_ne (Ne.symm z)] at q
        obtain ⟨u, h1, h2⟩ := I.slot j w q
        refine ⟨u, h1, ?_⟩
        cases w with
        | dat d => exact DR.mono m h2
        | own ys =>
          obtain ⟨b, us, rfl, hb, hFb, h0b, hsb⟩ := h2
          have nab : b ≠ a := fun z2 => by
            subst z2
            exact I.sep j i ys xs _ z q e h1 hv
          exact ⟨b, us, rfl, hb, by rw [upd_ne nab]; exact hFb, h0b, hsb.mono m⟩
        | raw _ => exact h2
        | pot => exact h2
    · by_cases z : j = i
      · subst z
        rw [List.getElem?_set_self hi] at q1
        cases q1
      · by_cases z2 : k = i
        · subst z2
          rw [List.getElem?_set_self hi] at q2
          cases q2
        · rw [List.getElem?_set_ne (Ne.symm z)] at q1
          rw [List.getElem?_set_ne (Ne.symm z2)] at q2
          exact I.sep j k ys zs u n q1 q2
    · by_cases z : b = a
      · subst z; rw [upd_same] at q; cases q; exact .inr ⟨_, rfl⟩
      · rw [upd_ne z] at q; exact .inl q
  · exact ⟨F, I, More.refl F⟩
theorem SR.frz : ∀ (m : List Nat) {F : Hp} {ρ : En}, SR K c σ H F ρ → ∃ Fp, SR K c σ H Fp (frz m ρ) ∧ More F Fp
  | [], F, _, I => ⟨F, I, More.refl F⟩
  | i :: m, _, _, I => by
    obtain ⟨Fp, J, a⟩ := I.frz1 i
    obtain ⟨Fq, L, b⟩ := SR.frz m J
    exact ⟨Fq, L, a.trans b⟩
theorem frz1_length (i : Nat) (ρ : En) : (DL.frz1 i ρ).length = ρ.length := by
  unfold DL.frz1
  split
  · rw [List.length_set]
  · rfl
theorem frz_length : ∀ (m : List Nat) (ρ : En), (DL.frz m ρ).length = ρ.length
  | [], _ => rfl
  | i :: m, ρ => (frz_length m _).trans (frz1_length i ρ)

/-- back: what was given up for a while is one's own again -/
def backF (F Fp F' : Hp) : Hp := open Classical in fun a => if Fp a ≠ none ∧ F a = none then none else F' a
theorem SR.back {Fp : Hp} (I : SR K c σ H F ρ) (m : More F Fp) (s : Step c.pi H Fp H' F') : SR K c σ H' (backF F Fp F') ρ ∧ Same F (backF F Fp F') ∧ Same (backF F Fp F') F' ∧
    (∀ a u, (∀ xs, u ≠ .lst xs) → F' a = some u → backF F Fp F' a = some u) := by
  have b1 : Same F (backF F Fp F') := fun a o e => by
    unfold backF
    rw [if_neg (fun z => by rw [e] at z; cases z.2)]
    exact s.mono a o (m.1 a o e)
  have b2 : Same (backF F Fp F') F' := fun a o e => by
    unfold backF at e
    split at e
    · cases e
    · exact e
  refine ⟨⟨I.len, ⟨I.st.mono.trans b1, b2.trans s.le, fun a o e => ?_, fun a o n e => s.same a o n (I.st.same a o n e), fun p q e => ?_⟩, I.p0, fun i w e => ?_, I.sep⟩, b1, b2, fun a u n e => ?_⟩
  · have e' := b2 a o e
    rcases s.new a o e' with z | z
    · have hF : F a = some o := by
        cases q : F a with
        | some o' =>
          have := m.1 a o' q
          rw [z] at this
          exact this.symm
        | none =>
          unfold backF at e
          rw [if_pos ⟨by rw [z]; exact (fun y => nomatch y), q⟩] at e
          cases e
      exact I.st.new a o hF
    · exact .inr (I.st.none_of I.p0 z)
  · obtain ⟨r, f, r2⟩ := s.pot p q e
    refine ⟨r, ?_, r2⟩
    cases z : backF F Fp F' p with
    | none => rfl
    | some o =>
      have := b2 p o z
      rw [f] at this
      cases this
  · obtain ⟨v, h1, h2⟩ := I.slot i w e
    refine ⟨v, h1, ?_⟩
    cases w with
    | dat d => exact DR.mono b1 h2
    | own xs =>
      obtain ⟨a, vs, rfl, ha, hF, h0, hs⟩ := h2
      refine ⟨a, vs, rfl, s.same a _ (new_notPot I.p0 h0) ha, ?_, h0, hs.mono b1⟩
      cases z : backF F Fp F' a with
      | none => rfl
      | some o =>
        have z2 := b2 a o z
        rcases s.new a o z2 with y | y
        · unfold backF at z
          rw [if_pos ⟨by rw [y]; exact (fun x => nomatch x), hF⟩] at z
          cases z
        · rw [ha] at y; cases y
    | raw _ => exact h2
    | pot => exact h2
  · unfold backF
    rw [if_neg]
    · exact e
    · rintro ⟨z1, z2⟩
      cases q : Fp a with
      | none => exact z1 q
      | some o =>
        have e2 := s.mono a o q
        rw [e] at e2
        cases e2
        rcases m.2 a _ q with y | ⟨xs, y⟩
        · rw [z2] at y; cases y
        · exact n xs y
/-- a result that holds no list stands behind it -/
theorem SR.backRes {Fp H0 : Hp} {v : V} {w : Wv} (I : SR K c σ H F ρ) (m : More F Fp) (s : Step c.pi H Fp H' F') (r : Res K c.pi H0 H' F' v w) (h : w.still = true) : Res K c.pi H0 H' (backF F Fp F') v w := by
  obtain ⟨_, _, b2, b3⟩ := I.back m s
  cases w with
  | dat d => exact DR.noL_to b3 r h
  | own xs =>
    obtain ⟨a, vs, rfl, ha, hF, h0, hs⟩ := r
    refine ⟨a, vs, rfl, ha, ?_, h0, DRs.noL_to b3 hs h⟩
    cases z : backF F Fp F' a with
    | none => rfl
    | some o =>
      have := b2 a o z
      rw [hF] at this
      cases this
  | raw _ => exact r
  | pot => exact r
/-- a slot set -/
theorem SR.set {i : Nat} {v : V} {w : Wv} {Hb : Hp} (I : SR K c σ H F ρ) (r : Res K c.pi Hb H F v w) (hb : ∀ a, Hb a = none → c.H0 a = none)
    (hn : ∀ (j : Nat) (ys : List D) (a : Addr), ρ[j]? = some (some (.own ys)) → σ[j]? = some (some (.ref a)) → Hb a ≠ none) : SR K c (σ.set i (some v)) H F (ρ.set i (some w)) where
  len := by rw [List.length_set, List.length_set]; exact I.len
  st := I.st
  p0 := I.p0
  slot := fun j u e => by
    by_cases z : j = i
    · subst z
      have hj : j < ρ.length := by
        by_cases q : j < ρ.length
        · exact q
        · rw [List.getElem?_eq_none (by rw [List.length_set]; omega)] at e; cases e
      rw [List.getElem?_set_self hj] at e
      cases e
      refine ⟨v, List.getElem?_set_self (by rw [← I.len]; exact hj), ?_⟩
      cases w with
      | dat d => exact r
      | own xs =>
        obtain ⟨a, vs, e1, ha, hF, h0, hs⟩ := r
        exact ⟨a, vs, e1, ha, hF, hb a h0, hs⟩
      | raw _ => exact r
      | pot => exact r
    · rw [List.getElem?_set_ne (Ne.symm z)] at e
      obtain ⟨x, h1, h2⟩ := I.slot j u e
      exact ⟨x, by rw [List.getElem?_set_ne (Ne.symm z)]; exact h1, h2⟩
  sep := fun j k xs ys x n e1 e2 g1 g2 => by
    have lenOf : ∀ {l : Nat} {u : Wv}, (ρ.set i (some w))[l]? = some (some u) → l < ρ.length := fun {l u} e => by
      by_cases q : l < ρ.length
      · exact q
      · rw [List.getElem?_eq_none (by rw [List.length_set]; omega)] at e; cases e
    have main : ∀ {l : Nat} {zs us : List D}, l ≠ i → (ρ.set i (some w))[i]? = some (some (.own zs)) → (ρ.set i (some w))[l]? = some (some (.own us)) → (σ.set i (some v))[i]? = some (some x) → (σ.set i (some v))[l]? = some (some x) → False := fun {l zs us} nl f1 f2 k1 k2 => by
      have hi := lenOf f1
      rw [List.getElem?_set_self hi] at f1
      rw [List.getElem?_set_ne (Ne.symm nl)] at f2 k2
      rw [List.getElem?_set_self (by rw [← I.len]; exact hi)] at k1
      cases f1
      cases k1
      obtain ⟨a, vs, e1, ha, hF, h0, hs⟩ := r
      subst e1
      exact hn l us a f2 k2 h0
    by_cases z : j = i
    · subst z
      exact main (l := k) (Ne.symm n) e1 e2 g1 g2
    · by_cases z2 : k = i
      · subst z2
        exact main (l := j) n e2 e1 g2 g1
      · rw [List.getElem?_set_ne (Ne.symm z)] at e1 g1
        rw [List.getElem?_set_ne (Ne.symm z2)] at e2 g2
        exact I.sep j k xs ys x n e1 e2 g1 g2
/-- what one's own slots hold is known to H -/
theorem SR.ownAt (I : SR K c σ H F ρ) {j : Nat} {ys : List D} {a : Addr} (e : ρ[j]? = some (some (.own ys))) (g : σ[j]? = some (some (.ref a))) : H a ≠ none := by
  obtain ⟨v, h1, b, vs, rfl, hb, _⟩ := I.slot j _ e
  rw [h1] at g
  cases g
  rw [hb]
  exact fun z => nomatch z
/-- a slot forgotten -/
theorem SR.drop (I : SR K c σ H F ρ) (i : Nat) (o : Option V) : SR K c (σ.set i o) H F (ρ.set i none) where
  len := by rw [List.length_set, List.length_set]; exact I.len
  st := I.st
  p0 := I.p0
  slot := fun j u e => by
    by_cases z : j = i
    · subst z
      rw [List.getElem?_set] at e
      split at e
      · split at e
        · cases e
        · cases e
      · rename_i q; exact absurd rfl q
    · rw [List.getElem?_set_ne (Ne.symm z)] at e
      obtain ⟨x, h1, h2⟩ := I.slot j u e
      exact ⟨x, by rw [List.getElem?_set_ne (Ne.symm z)]; exact h1, h2⟩
  sep := fun j k xs ys x n e1 e2 g1 g2 => by
    have ne : ∀ {l : Nat} {zs : List D}, (ρ.set i none)[l]? = some (some (.own zs)) → l ≠ i := fun {l zs} e z => by
      subst z
      rw [List.getElem?_set] at e
      split at e
      · split at e
        · cases e
        · cases e
      · rename_i q; exact absurd rfl q
    have n1 := ne e1
    have n2 := ne e2
    rw [List.getElem?_set_ne (Ne.symm n1)] at e1 g1
    rw [List.getElem?_set_ne (Ne.symm n2)] at e2 g2
    exact I.sep j k xs ys x n e1 e2 g1 g2
end
end DL

namespace DL
open PySem PySem.Spec PyProof.Rows L2

/-! ## what is still to come: m from H, F on -/
def Pend {α : Type} (K : PySem.W.Frag) (mg : Str → Option Value) (c : Act) (Wx : WX) (σ : L2.St) (H F : Hp) (m : M α) (S : α → Hp → Hp → Prop) : Prop :=
  m.post (fun a => ∀ H' F', Step c.pi H F H' F' → S a H' F') fun e => ∀ cls d H' F', Step c.pi H F H' F' → XRes K mg H' F' cls d e → Wx cls d σ H'
def Gv (K : PySem.W.Frag) (pi : Pot) (F : Hp) (v : V) : Wv → Prop
  | .dat d => DR K F v d
  | .own _ => False
  | .raw u => v = u
  | .pot => ∃ p c, pi = some (p, c) ∧ v = .ref p
inductive Gvs (K : PySem.W.Frag) (pi : Pot) (F : Hp) : List V → List Wv → Prop
  | nil : Gvs K pi F [] []
  | cons {v : V} {vs : List V} {w : Wv} {ws : List Wv} : Gv K pi F v w → Gvs K pi F vs ws → Gvs K pi F (v :: vs) (w :: ws)
section
variable {α β : Type} {K : PySem.W.Frag} {mg : Str → Option Value} {c : Act} {Wx : WX} {σ : L2.St} {H F H' F' H1 F1 : Hp} {pi : Pot} {ρ : En}
theorem Gv.mono {v : V} {w : Wv} (e : Same F F') (h : Gv K pi F v w) : Gv K pi F' v w := by
  cases w with
  | dat d => exact DR.mono e h
  | own _ => exact h
  | raw _ => exact h
  | pot => exact h
theorem Gvs.mono {vs : List V} {ws : List Wv} (e : Same F F') (h : Gvs K pi F vs ws) : Gvs K pi F' vs ws := by
  induction h with
  | nil => exact .nil
  | cons h _ ih => exact .cons (h.mono e) ih
theorem Gvs.length {vs : List V} {ws : List Wv} (h : Gvs K pi F vs ws) : vs.length = ws.length := by
  induction h with
  | nil => rfl
  | cons _ _ ih => exact congrArg (· + 1) ih
theorem Gv.res {v : V} {w : Wv} {Hs : Hp} (h : Gv K pi F v w) : Res K pi Hs H F v w := by
  cases w with
  | dat d => exact h
  | own _ => exact h.elim
  | raw _ => exact h
  | pot => exact h
theorem Pend.move {m : M α} {S : α → Hp → Hp → Prop} (h : Pend K mg c Wx σ H F m S) (p0 : PotIn c.pi H F) (s : Step c.pi H F H1 F1) : Pend K mg c Wx σ H1 F1 m S :=
  M.post_mono h (fun _ q H' F' t => q H' F' (s.trans p0 t)) fun _ q cls d H' F' t x => q cls d H' F' (s.trans p0 t) x
theorem Pend.imp {m : M α} {S S' : α → Hp → Hp → Prop} (h : Pend K mg c Wx σ H F m S) (hS : ∀ a H' F', Step c.pi H F H' F' → S a H' F' → S' a H' F') : Pend K mg c Wx σ H F m S' :=
  M.post_mono h (fun a q H' F' t => hS a H' F' t (q H' F' t)) fun _ q => q
theorem Pend.bind {m : M α} {k : α → M β} {S : β → Hp → Hp → Prop} (h : Pend K mg c Wx σ H F (m >>= k) S) :
    m.post (fun a => Pend K mg c Wx σ H F (k a) S) fun e => ∀ cls d H' F', Step c.pi H F H' F' → XRes K mg H' F' cls d e → Wx cls d σ H' := M.post_bind.mp h
/-- given up, the result is data -/
theorem Res.gv {H0 F0 : Hp} {v : V} {w : Wv} (r : Res K pi H0 H F v w) (p0 : PotIn pi H0 F0) (s : Step pi H0 F0 H F) : ∃ F', Step pi H0 F0 H F' ∧ Gv K pi F' v w.give := by
  cases w with
  | dat d => exact ⟨F, s, r⟩
  | own xs =>
    obtain ⟨F', s', _, h⟩ := Res.give (d := .list xs) r rfl p0 s
    exact ⟨F', s', h⟩
  | raw _ => exact ⟨F, s, r⟩
  | pot => exact ⟨F, s, r⟩
theorem Res.older {Ha Hb Fa Fb : Hp} {v : V} {w : Wv} (r : Res K pi Hb H F v w) (p0 : PotIn pi Ha Fa) (s : Step pi Ha Fa Hb Fb) : Res K pi Ha H F v w := by
  cases w with
  | dat d => exact r
  | own xs =>
    obtain ⟨a, vs, e, ha, hF, h0, hs⟩ := r
    exact ⟨a, vs, e, ha, hF, s.none_of p0 h0, hs⟩
  | raw _ => exact r
  | pot => exact r
end

/-! ## readings by denotations -/
def SE (K : PySem.W.Frag) (pi : Pot) (Hs : Hp) (Q : VK) : Wv → Hp → Hp → Prop := fun w H' F' => ∀ v, Res K pi Hs H' F' v w → Q v H'
def Ev (K : PySem.W.Frag) (mg : Str → Option Value) (c : Act) (Wx : WX) (f : En → M Wv) : TE := fun σ H Q => ∃ F ρ, SR K c σ H F ρ ∧ Pend K mg c Wx σ H F (f ρ) (SE K c.pi H Q)
def EvT (K : PySem.W.Frag) (mg : Str → Option Value) (c : Act) (Wx : WX) (f : En → M Bool) : TT := fun σ H Q => ∃ F ρ, SR K c σ H F ρ ∧ Pend K mg c Wx σ H F (f ρ) fun b H' _ => Q b H'
def EvA (K : PySem.W.Frag) (mg : Str → Option Value) (c : Act) (Wx : WX) (f : En → M (List Wv)) : TA := fun σ H Q => ∃ F ρ, SR K c σ H F ρ ∧ Pend K mg c Wx σ H F (f ρ) fun ws H' F' => ∀ vs, Gvs K c.pi F' vs ws → Q vs H'
section
variable {α β : Type} {K : PySem.W.Frag} {mg : Str → Option Value} {c : Act} {Wx : WX} {σ : L2.St} {H F H' F' H1 F1 : Hp} {ρ : En}
/-- a part first, then the rest -/
theorem ev_split {f : En → M Wv} {k : Wv → M α} {S : α → Hp → Hp → Prop} {R : VK} (I : SR K c σ H F ρ) (p : Pend K mg c Wx σ H F (f ρ >>= k) S)
    (h : ∀ u x H1 F1, SR K c σ H1 F1 ρ → Step c.pi H F H1 F1 → Gv K c.pi F1 x u.give → Pend K mg c Wx σ H1 F1 (k u) S → R x H1) : Ev K mg c Wx f σ H R := by
  refine ⟨F, ρ, I, M.post_mono p.bind (fun u q H1 F1 s v r => ?_) fun e q => q⟩
  obtain ⟨F2, s2, g⟩ := r.gv I.pot s
  exact h u v H1 F2 (I.step s2) s2 g (Pend.move q I.pot s2)
theorem et_split {f : En → M Bool} {k : Bool → M α} {S : α → Hp → Hp → Prop} {R : Bool → Hp → Prop} (I : SR K c σ H F ρ) (p : Pend K mg c Wx σ H F (f ρ >>= k) S)
    (h : ∀ b H1 F1, SR K c σ H1 F1 ρ → Step c.pi H F H1 F1 → Pend K mg c Wx σ H1 F1 (k b) S → R b H1) : EvT K mg c Wx f σ H R :=
  ⟨F, ρ, I, M.post_mono p.bind (fun b q H1 F1 s => h b H1 F1 (I.step s) s (Pend.move q I.pot s)) fun e q => q⟩
theorem ea_split {f : En → M (List Wv)} {k : List Wv → M α} {S : α → Hp → Hp → Prop} {R : List V → Hp → Prop} (I : SR K c σ H F ρ) (p : Pend K mg c Wx σ H F (f ρ >>= k) S)
    (h : ∀ us xs H1 F1, SR K c σ H1 F1 ρ → Step c.pi H F H1 F1 → Gvs K c.pi F1 xs us → Pend K mg c Wx σ H1 F1 (k us) S → R xs H1) : EvA K mg c Wx f σ H R :=
  ⟨F, ρ, I, M.post_mono p.bind (fun us q H1 F1 s xs g => h us xs H1 F1 (I.step s) s g (Pend.move q I.pot s)) fun e q => q⟩
end

/-! ## the judgements -/
section
variable {X : Cx}
theorem PE.imp {e : Expr} {t t' : TE} (h : PE X e t) (hi : ∀ σ H Q, t' σ H Q → t σ H Q) : PE X e t' := ⟨fun pins s σ H Q I q => h.run pins s σ H Q I (hi _ _ _ q)⟩
theorem PT.imp {e : Expr} {t t' : TT} (h : PT X e t) (hi : ∀ σ H Q, t' σ H Q → t σ H Q) : PT X e t' := ⟨fun pins s σ H Q I q => h.run pins s σ H Q I (hi _ _ _ q)⟩
theorem PW.imp {e : Expr} {t t' : TT} (h : PW X e t) (hi : ∀ σ H Q, t' σ H Q → t σ H Q) : PW X e t' := ⟨fun wh pins s σ H Q I q => h.run wh pins s σ H Q I (hi _ _ _ q)⟩
theorem PA.imp {es : List Expr} {t t' : TA} (h : PA X es t) (hi : ∀ σ H Q, t' σ H Q → t σ H Q) : PA X es t' := ⟨fun pos pins s σ H Q I q => h.run pos pins s σ H Q I (hi _ _ _ q)⟩
theorem PS.imp {st : Stmt} {t t' : TS} (h : PS X st t) (hi : ∀ D σ H, t' D σ H → t D σ H) : PS X st t' := ⟨fun pins s σ H D I q => h.run pins s σ H D I (hi _ _ _ q)⟩
theorem PSs.imp {st : List Stmt} {t t' : TS} (h : PSs X st t) (hi : ∀ D σ H, t' D σ H → t D σ H) : PSs X st t' := ⟨fun pins s σ H D I q => h.run pins s σ H D I (hi _ _ _ q)⟩
end
abbrev DE (X : Cx) (c : Act) (Wx : WX) (e : Expr) (f : En → M Wv) : Prop := PE X e (Ev X.K X.mg c Wx f)
abbrev DT (X : Cx) (c : Act) (Wx : WX) (e : Expr) (f : En → M Bool) : Prop := PT X e (EvT X.K X.mg c Wx f)
abbrev DW (X : Cx) (c : Act) (Wx : WX) (e : Expr) (f : En → M Bool) : Prop := PW X e (EvT X.K X.mg c Wx f)
abbrev DA (X : Cx) (c : Act) (Wx : WX) (es : List Expr) (f : En → M (List Wv)) : Prop := PA X es (EvA X.K X.mg c Wx f)

/-! ## names, constants -/
def rdv (i : Nat) (ρ : En) : M Wv := match ρ[i]? with
  | some (some (.dat d)) => .ok (.dat d)
  | some (some (.raw v)) => .ok (.raw v)
  | some (some .pot) => .ok .pot
  | _ => .bad
section
variable {X : Cx} {c : Act} {Wx : WX}
theorem step_refl {K : PySem.W.Frag} {σ : L2.St} {H F : Hp} {ρ : En} (I : SR K c σ H F ρ) : Step c.pi H F H F := Step.refl I.le I.pot
theorem de_var (i : Nat) {x : Str} {pos : Pos} (hN : X.N[i]? = some x := by rfl) (hv : Vis X.env.scope x := by first | exact Or.inl rfl | exact Or.inr (Or.inl rfl) | exact Or.inr (Or.inr rfl)) (hd : (x == ("__debug__" : Str)) = false := by decide)
    (hcd : (x == ("__classdict__" : Str)) = false := by decide) : DE X c Wx (.Name x pos) (rdv i) := by
  refine PE.imp (pe_var hN hv hd hcd) fun σ H Q ⟨F, ρ, I, p⟩ => ?_
  unfold rdv at p
  split at p
  · rename_i d e
    obtain ⟨v, h1, h2⟩ := I.slot i _ e
    exact ⟨v, h1, p H F (step_refl I) v h2⟩
  · rename_i u e
    obtain ⟨v, h1, h2⟩ := I.slot i _ e
    exact ⟨v, h1, p H F (step_refl I) v h2⟩
  · rename_i e
    obtain ⟨v, h1, h2⟩ := I.slot i _ e
    exact ⟨v, h1, p H F (step_refl I) v h2⟩
  · exact False.elim p
theorem de_c {e : Expr} {v : V} {w : Wv} (h : PE X e (tC v)) (hw : ∀ F, Gv X.K c.pi F v w) : DE X c Wx e (fun _ => .ok w) :=
  PE.imp h fun _ H _ ⟨F, _, I, p⟩ => p H F (step_refl I) v (hw F).res
theorem de_int {i j pos} : DE X c Wx (.Constant (.int i) j pos) (fun _ => .ok (.dat (.int i))) := de_c pe_int fun _ => .int i
theorem de_bl {b j pos} : DE X c Wx (.Constant (.bool b) j pos) (fun _ => .ok (.dat (.bool b))) := de_c pe_bl fun _ => .bl b
theorem de_non {j pos} : DE X c Wx (.Constant .none j pos) (fun _ => .ok (.dat .none)) := de_c pe_non fun _ => .non
theorem de_str {x j pos} : DE X c Wx (.Constant (.str x) j pos) (fun _ => .ok (.dat (.str x))) := de_c pe_str fun _ => .str x
/-- a module's name that holds a scalar -/
theorem de_glob {x : Str} {v : V} {w : Wv} {u : Value} {pos : Pos} (hg : Gl X x) (hm : X.mg x = some u) (r : RelV v u) (hw : ∀ F, Gv X.K c.pi F v w) (hd : (x == ("__debug__" : Str)) = false := by decide) : DE X c Wx (.Name x pos) (fun _ => .ok w) := de_c (pe_glob hg hm r hd) hw
theorem de_globS {x z : Str} {pos : Pos} (hg : Gl X x) (hm : ∃ t, X.mg x = some (.str z t)) (hd : (x == ("__debug__" : Str)) = false := by decide) : DE X c Wx (.Name x pos) (fun _ => .ok (.dat (.str z))) := by
  obtain ⟨t, h⟩ := hm
  exact de_glob (v := .str z) hg h ⟨t, rfl⟩ (fun _ => .str z) hd
theorem de_globI {x : Str} {i : Int} {pos : Pos} (hg : Gl X x) (hm : ∃ t, X.mg x = some (.int i t)) (hd : (x == ("__debug__" : Str)) = false := by decide) : DE X c Wx (.Name x pos) (fun _ => .ok (.dat (.int i))) := by
  obtain ⟨t, h⟩ := hm
  exact de_glob (v := .int i) hg h ⟨t, rfl⟩ (fun _ => .int i) hd

/-! ## operators by values -/
def OpOk (K : PySem.W.Frag) (r : R2) (g : Wv → Wv → M Wv) : Prop := ∀ (pi : Pot) (H F : Hp) (x y : V) (u w : Wv) (Q : VK) (E : Ex → Prop), Same F H → PotIn pi H F → Gv K pi F x u → Gv K pi F y w →
  (g u w).post (fun z => ∀ H' F', Step pi H F H' F' → ∀ v, Res K pi H H' F' v z → Q v H') E → r x y H Q
def UnOk (K : PySem.W.Frag) (r : V → Hp → VK → Prop) (g : Wv → M Wv) : Prop := ∀ (pi : Pot) (H F : Hp) (x : V) (u : Wv) (Q : VK) (E : Ex → Prop), Same F H → PotIn pi H F → Gv K pi F x u →
  (g u).post (fun z => ∀ H' F', Step pi H F H' F' → ∀ v, Res K pi H H' F' v z → Q v H') E → r x H Q
def CbOk (K : PySem.W.Frag) (r : List V → Hp → VK → Prop) (g : List Wv → M Wv) : Prop := ∀ (pi : Pot) (H F : Hp) (xs : List V) (us : List Wv) (Q : VK) (E : Ex → Prop), Same F H → PotIn pi H F → Gvs K pi F xs us →
  (g us).post (fun z => ∀ H' F', Step pi H F H' F' → ∀ v, Res K pi H H' F' v z → Q v H') E → r xs H Q
section
variable {a b : Expr} {fa fb : En → M Wv} {pos : Pos} {g : Wv → Wv → M Wv} {r : R2}
def bin2 (g : Wv → Wv → M Wv) (fa fb : En → M Wv) (ρ : En) : M Wv := fa ρ >>= fun u => fb ρ >>= fun w => g u.give w.give
theorem ev_bin {K : PySem.W.Frag} {mg : Str → Option Value} (hr : OpOk K r g) : ∀ σ H Q, Ev K mg c Wx (bin2 g fa fb) σ H Q → tOp r (Ev K mg c Wx fa) (Ev K mg c Wx fb) σ H Q := fun σ H Q ⟨F, ρ, I, p⟩ => by
  refine ev_split I p fun u x H1 F1 I1 s1 g1 p1 => ?_
  refine ev_split I1 p1 fun w y H2 F2 I2 s2 g2 p2 => ?_
  refine hr c.pi H2 F2 x y u.give w.give Q _ I2.le I2.pot (g1.mono s2.mono) g2 (M.post_mono p2 (fun z q H' F' t v rs => q H' F' t v ?_) fun _ q => q)
  exact (rs.older I1.pot s2).older I.pot s1
theorem de_op {op : Operator} (ho : OpR X (binaryOp op) r) (hr : OpOk X.K r g) (ha : DE X c Wx a fa) (hb : DE X c Wx b fb) : DE X c Wx (.BinOp a op b pos) (bin2 g fa fb) := PE.imp (pe_op ho ha hb) (ev_bin hr)
theorem de_cmp {op : CmpOp} (ho : OpR X (compareOp op) r) (hr : OpOk X.K r g) (ha : DE X c Wx a fa) (hb : DE X c Wx b fb) (hm : behindInMarks op b = false) : DE X c Wx (.Compare a [op] [b] pos) (bin2 g fa fb) := PE.imp (pe_cmpR ho ha hb hm) (ev_bin hr)
def asB : Wv → M Bool
  | .dat (.bool b) => .ok b
  | _ => .bad
@[simp] theorem asB_bool (b : Bool) : asB (.dat (.bool b)) = .ok b := rfl
def tst (f : En → M Wv) (ρ : En) : M Bool := f ρ >>= asB
theorem ev_tst {K : PySem.W.Frag} {mg : Str → Option Value} {f : En → M Wv} : ∀ σ H Q, EvT K mg c Wx (tst f) σ H Q → Ev K mg c Wx f σ H fun x H' => ∃ k, x = .bl k ∧ Q k H' := fun σ H Q ⟨F, ρ, I, p⟩ => by
  refine ⟨F, ρ, I, M.post_mono p.bind (fun w q H' F' s v rs => ?_) fun _ q => q⟩
  unfold asB at q
  split at q
  · rename_i b
    have rs' : DR K F' v (.bool b) := rs
    cases rs'
    exact ⟨b, rfl, q H' F' s⟩
  · exact False.elim q
theorem dt_cmp {op : CmpOp} (ho : OpR X (compareOp op) r) (hr : OpOk X.K r g) (ha : DE X c Wx a fa) (hb : DE X c Wx b fb) (hm : behindInMarks op b = false) : DT X c Wx (.Compare a [op] [b] pos) (tst (bin2 g fa fb)) :=
  PT.imp (pt_cmpR ho ha hb hm) fun σ H Q h => ev_bin hr σ H _ (ev_tst σ H Q h)
theorem dt_val (ha : DE X c Wx a fa) (he : ∀ whole, isTrue a X.env whole = (do let v ← whole; standAt a.pos; holding [v] (truthy v)) := by intro _; rfl) : DT X c Wx a (tst fa) :=
  PT.imp (pt_val ha he) fun σ H Q h => ev_tst σ H Q h

/-! ## and, or, not -/
variable {ta tb : En → M Bool} {rest : List Expr}
def tand (ta tb : En → M Bool) (ρ : En) : M Bool := ta ρ >>= fun x => if x = true then tb ρ else .ok false
def tor (ta tb : En → M Bool) (ρ : En) : M Bool := ta ρ >>= fun x => if x = true then .ok true else tb ρ
def tnot (ta : En → M Bool) (ρ : En) : M Bool := ta ρ >>= fun x => .ok (!x)
theorem dw_and1 (ha : DT X c Wx a ta) : DW X c Wx (.BoolOp .And [a] pos) ta := pw_and1 ha
theorem dw_or1 (ha : DT X c Wx a ta) : DW X c Wx (.BoolOp .Or [a] pos) ta := pw_or1 ha
theorem dw_and (ha : DT X c Wx a ta) (hb : DW X c Wx (.BoolOp .And (b :: rest) pos) tb) : DW X c Wx (.BoolOp .And (a :: b :: rest) pos) (tand ta tb) :=
  PW.imp (pw_and ha hb) fun σ H Q ⟨F, ρ, I, p⟩ => et_split I p fun x H1 F1 I1 s1 p1 => by
    cases x with
    | true => rw [if_pos rfl] at p1 ⊢; exact ⟨F1, ρ, I1, p1⟩
    | false => rw [if_neg Bool.false_ne_true] at p1 ⊢; exact p1 H1 F1 (step_refl I1)
theorem dw_or (ha : DT X c Wx a ta) (hb : DW X c Wx (.BoolOp .Or (b :: rest) pos) tb) : DW X c Wx (.BoolOp .Or (a :: b :: rest) pos) (tor ta tb) :=
  PW.imp (pw_or ha hb) fun σ H Q ⟨F, ρ, I, p⟩ => et_split I p fun x H1 F1 I1 s1 p1 => by
    cases x with
    | true => rw [if_pos rfl] at p1 ⊢; exact p1 H1 F1 (step_refl I1)
    | false => rw [if_neg Bool.false_ne_true] at p1 ⊢; exact ⟨F1, ρ, I1, p1⟩
theorem dt_w {e : Expr} (h : DW X c Wx e ta) : DT X c Wx e ta := PW.pt h
theorem dt_not (ha : DT X c Wx a ta) : DT X c Wx (.UnaryOp .Not a pos) (tnot ta) :=
  PT.imp (pt_not ha) fun σ H Q ⟨F, ρ, I, p⟩ => et_split I p fun x H1 F1 I1 s1 p1 => p1 H1 F1 (step_refl I1)
/-- .. as values: all but the last True or False -/
def vand (fa fb : En → M Wv) (ρ : En) : M Wv := fa ρ >>= fun x => asB x >>= fun k => if k = true then fb ρ else .ok (.dat (.bool false))
def vor (fa fb : En → M Wv) (ρ : En) : M Wv := fa ρ >>= fun x => asB x >>= fun k => if k = true then .ok (.dat (.bool true)) else fb ρ
def vnot (fa : En → M Wv) (ρ : En) : M Wv := fa ρ >>= fun x => asB x >>= fun k => .ok (.dat (.bool !k))
theorem asB_ok {α : Type} {K : PySem.W.Frag} {mg : Str → Option Value} {σ : L2.St} {H F : Hp} {u : Wv} {k : Bool → M α} {S : α → Hp → Hp → Prop} {x : V} (g : Gv K c.pi F x u.give) (p : Pend K mg c Wx σ H F (asB u >>= k) S) : ∃ z, x = .bl z ∧ Pend K mg c Wx σ H F (k z) S := by
  unfold asB at p
  split at p
  · rename_i z
    have g' : DR K F x (.bool z) := g
    cases g'
    exact ⟨z, rfl, p⟩
  · exact False.elim p
theorem de_and1 (ha : DE X c Wx a fa) : DE X c Wx (.BoolOp .And [a] pos) fa := pe_one ha
theorem de_or1 (ha : DE X c Wx a fa) : DE X c Wx (.BoolOp .Or [a] pos) fa := pe_one ha
theorem de_and (ha : DE X c Wx a fa) (hb : DE X c Wx (.BoolOp .And (b :: rest) pos) fb) : DE X c Wx (.BoolOp .And (a :: b :: rest) pos) (vand fa fb) :=
  PE.imp (pe_and ha hb) fun σ H Q ⟨F, ρ, I, p⟩ => ev_split I p fun u x H1 F1 I1 s1 g1 p1 => by
    obtain ⟨z, rfl, p2⟩ := asB_ok g1 p1
    refine ⟨z, rfl, ?_⟩
    cases z with
    | true =>
      rw [if_pos rfl] at p2 ⊢
      exact ⟨F1, ρ, I1, p2.imp fun w H' F' _ q v r => q v (r.older I.pot s1)⟩
    | false =>
      rw [if_neg Bool.false_ne_true] at p2 ⊢
      exact p2 H1 F1 (step_refl I1) (.bl false) (.bl false)
theorem de_or (ha : DE X c Wx a fa) (hb : DE X c Wx (.BoolOp .Or (b :: rest) pos) fb) : DE X c Wx (.BoolOp .Or (a :: b :: rest) pos) (vor fa fb) :=
  PE.imp (pe_or ha hb) fun σ H Q ⟨F, ρ, I, p⟩ => ev_split I p fun u x H1 F1 I1 s1 g1 p1 => by
    obtain ⟨z, rfl, p2⟩ := asB_ok g1 p1
    refine ⟨z, rfl, ?_⟩
    cases z with
    | true =>
      rw [if_pos rfl] at p2 ⊢
      exact p2 H1 F1 (step_refl I1) (.bl true) (.bl true)
    | false =>
      rw [if_neg Bool.false_ne_true] at p2 ⊢
      exact ⟨F1, ρ, I1, p2.imp fun w H' F' _ q v r => q v (r.older I.pot s1)⟩
theorem de_not (ha : DE X c Wx a fa) : DE X c Wx (.UnaryOp .Not a pos) (vnot fa) :=
  PE.imp (pe_not ha) fun σ H Q ⟨F, ρ, I, p⟩ => ev_split I p fun u x H1 F1 I1 s1 g1 p1 => by
    obtain ⟨z, rfl, p2⟩ := asB_ok g1 p1
    exact ⟨z, rfl, p2 H1 F1 (step_refl I1) (.bl !z) (.bl !z)⟩
/-- a if t else b -/
def vif (t : En → M Bool) (fa fb : En → M Wv) (ρ : En) : M Wv := t ρ >>= fun k => if k = true then fa ρ else fb ρ
theorem de_if {t : Expr} (ht : DT X c Wx t ta) (ha : DE X c Wx a fa) (hb : DE X c Wx b fb) : DE X c Wx (.IfExp t a b pos) (vif ta fa fb) :=
  PE.imp (pe_ifExp ht ha hb) fun σ H Q ⟨F, ρ, I, p⟩ => et_split I p fun x H1 F1 I1 s1 p1 => by
    cases x with
    | true =>
      rw [if_pos rfl] at p1 ⊢
      exact ⟨F1, ρ, I1, p1.imp fun w H' F' _ q v r => q v (r.older I.pot s1)⟩
    | false =>
      rw [if_neg Bool.false_ne_true] at p1 ⊢
      exact ⟨F1, ρ, I1, p1.imp fun w H' F' _ q v r => q v (r.older I.pot s1)⟩
theorem de_un {op : UnaryOp} {r : V → Hp → VK → Prop} {g : Wv → M Wv} (ho : UnR X (unaryOp op) r) (hr : UnOk X.K r g) (ha : DE X c Wx a fa) : DE X c Wx (.UnaryOp op a pos) (fun ρ => fa ρ >>= fun u => g u.give) :=
  PE.imp (pe_un ho ha) fun σ H Q ⟨F, ρ, I, p⟩ => ev_split I p fun u x H1 F1 I1 s1 g1 p1 =>
    hr c.pi H1 F1 x u.give Q _ I1.le I1.pot g1 (M.post_mono p1 (fun z q H' F' t v rs => q H' F' t v (rs.older I.pot s1)) fun _ q => q)

/-! ## arguments, displays, calls of builtins -/
variable {es : List Expr} {fs : En → M (List Wv)}
def anil (_ : En) : M (List Wv) := .ok []
def acons (fa : En → M Wv) (fs : En → M (List Wv)) (ρ : En) : M (List Wv) := fa ρ >>= fun u => fs ρ >>= fun us => .ok (u.give :: us)
theorem da_nil : DA X c Wx [] anil := PA.imp pa_nil fun σ H Q ⟨F, ρ, I, p⟩ => p H F (step_refl I) [] .nil
theorem da_cons (ha : DE X c Wx a fa) (hr : DA X c Wx es fs) (hs : starEach (a :: es) X.env = (false, eval a X.env) :: starEach es X.env := by rfl) : DA X c Wx (a :: es) (acons fa fs) :=
  PA.imp (pa_cons ha hr hs) fun σ H Q ⟨F, ρ, I, p⟩ => ev_split I p fun u x H1 F1 I1 s1 g1 p1 => ea_split I1 p1 fun us xs H2 F2 I2 s2 g2 p2 =>
    p2 H2 F2 (step_refl I2) (x :: xs) (.cons (g1.mono s2.mono) g2)
/-- the data of some results -/
def datas : List Wv → M (List D)
  | [] => .ok []
  | .dat d :: ws => datas ws >>= fun ds => .ok (d :: ds)
  | _ :: _ => .bad
@[simp] theorem datas_nil : datas [] = .ok [] := rfl
@[simp] theorem datas_cons (d : D) (ws : List Wv) : datas (.dat d :: ws) = datas ws >>= fun ds => .ok (d :: ds) := rfl
theorem datas_ok {α : Type} {K : PySem.W.Frag} {pi : Pot} {F : Hp} {Q : α → Prop} {E : Ex → Prop} : ∀ {ws : List Wv} {vs : List V} {k : List D → M α}, Gvs K pi F vs ws → (datas ws >>= k).post Q E → ∃ ds, DRs K F vs ds ∧ (k ds).post Q E
  | [], _, k, h, p => by
    cases h
    exact ⟨[], .nil, p⟩
  | w :: ws, _, k, h, p => by
    cases h with
    | cons h1 h2 =>
      cases w with
      | dat d =>
        rw [datas_cons, M.bind_assoc'] at p
        obtain ⟨ds, q1, q2⟩ := datas_ok h2 p
        exact ⟨d :: ds, .cons h1 q1, q2⟩
      | own _ => exact False.elim p
      | raw _ => exact False.elim p
      | pot => exact False.elim p
/-- a size that the machine takes -/
def small {α : Type} (n : Nat) (m : M α) : M α := if n ≤ 1000000 then m else .bad
theorem small_ok {α : Type} {n : Nat} {m : M α} {Q : α → Prop} {E : Ex → Prop} (h : (small n m).post Q E) : n < sizeLine ∧ m.post Q E := by
  unfold small at h
  split at h
  · rename_i q
    exact ⟨Nat.lt_of_le_of_lt q (by rw [sizeLine_eq]; decide), h⟩
  · exact False.elim h
theorem small_of {α : Type} {n : Nat} {m : M α} (h : n ≤ 1000000) : small n m = m := if_pos h
def mkTup (ws : List Wv) : M Wv := datas ws >>= fun ds => small ds.length (.ok (.dat (.tuple ds)))
def mkLst (ws : List Wv) : M Wv := datas ws >>= fun ds => small ds.length (.ok (.own ds))
theorem de_tup {x1} (h : DA X c Wx es fs) : DE X c Wx (.Tuple es x1 pos) (fun ρ => fs ρ >>= mkTup) :=
  PE.imp (pe_tup h) fun σ H Q ⟨F, ρ, I, p⟩ => ea_split I p fun us xs H1 F1 I1 s1 g1 p1 => by
    obtain ⟨ds, hd, p2⟩ := datas_ok g1 p1
    obtain ⟨hz, p3⟩ := small_ok p2
    rw [hd.length]
    refine ⟨Nat.le_of_lt hz, fun q hq => ?_⟩
    have sl := Step.lay (o := .tup xs) I1.le I1.pot hq
    exact p3 _ _ sl (.ref q) (.tup (SqT.of upd_same) (hd.mono sl.mono))
theorem de_lst (h : DA X c Wx es fs) : DE X c Wx (.List es pos) (fun ρ => fs ρ >>= mkLst) :=
  PE.imp (pe_lst h) fun σ H Q ⟨F, ρ, I, p⟩ => ea_split I p fun us xs H1 F1 I1 s1 g1 p1 => by
    obtain ⟨ds, hd, p2⟩ := datas_ok g1 p1
    obtain ⟨hz, p3⟩ := small_ok p2
    rw [hd.length]
    refine ⟨Nat.le_of_lt hz, fun q hq => ?_⟩
    have sl := Step.layH (o := .lst xs) I1.le I1.pot hq
    refine p3 _ _ sl (.ref q) ⟨q, xs, rfl, upd_same, ?_, s1.none_of I.pot hq, hd⟩
    cases z : F1 q with
    | none => rfl
    | some o =>
      have := I1.le q o z
      rw [hq] at this
      cases this
theorem de_callB {r : List V → Hp → VK → Prop} {x : Str} {p : Pos} {id : String} {g : List Wv → M Wv} (hc : CallR X (.builtin id) r) (hr : CbOk X.K r g) (hg : Gl X x) (hm : X.mg x = none) (hv : bootBuiltins x = some (.builtin id)) (ha : DA X c Wx (a :: es) fs)
    (hn : x ≠ "__name__" := by decide) (hdb : (x == ("__debug__" : Str)) = false := by decide) (he : starEach (a :: es) X.env = (false, eval a X.env) :: starEach es X.env := by rfl) (hpl : (backTo pos (starEach es X.env)).any (·.1) = false := by rfl) :
    DE X c Wx (.Call (.Name x p) (a :: es) [] pos) (fun ρ => fs ρ >>= g) :=
  PE.imp (pe_callB hc hg hm hv ha hn hdb he hpl) fun σ H Q ⟨F, ρ, I, p⟩ => ea_split I p fun us xs H1 F1 I1 s1 g1 p1 =>
    hr c.pi H1 F1 xs us Q _ I1.le I1.pot g1 (M.post_mono p1 (fun z q H' F' t v rs => q H' F' t v (rs.older I.pot s1)) fun _ q => q)
theorem de_callTy {r : List V → Hp → VK → Prop} {x : Str} {p : Pos} {T : String} {g : List Wv → M Wv} (hc : CallR X (.type T) r) (hr : CbOk X.K r g) (hg : Gl X x) (hm : X.mg x = none) (hv : bootBuiltins x = some (.type T)) (ha : DA X c Wx (a :: es) fs)
    (hn : x ≠ "__name__" := by decide) (hdb : (x == ("__debug__" : Str)) = false := by decide) (he : starEach (a :: es) X.env = (false, eval a X.env) :: starEach es X.env := by rfl) (hpl : (backTo pos (starEach es X.env)).any (·.1) = false := by rfl) :
    DE X c Wx (.Call (.Name x p) (a :: es) [] pos) (fun ρ => fs ρ >>= g) :=
  PE.imp (pe_callTy hc hg hm hv ha hn hdb he hpl) fun σ H Q ⟨F, ρ, I, p⟩ => ea_split I p fun us xs H1 F1 I1 s1 g1 p1 =>
    hr c.pi H1 F1 xs us Q _ I1.le I1.pot g1 (M.post_mono p1 (fun z q H' F' t v rs => q H' F' t v (rs.older I.pot s1)) fun _ q => q)
end
end
end DL

namespace DL
open PySem PySem.Spec PyProof.Rows L2

/-! ## statements -/
inductive Fl where
  | nx (ρ : En)
  | ret (w : Wv)
  | brk (ρ : En)
  | cont (ρ : En)
def SF (K : PySem.W.Frag) (c : Act) (F : Hp) (D : Ends) : Fl → Prop
  | .nx ρ => ∀ σ' H' F', SR K c σ' H' F' ρ → Same F F' → D.nx σ' H'
  | .brk ρ => ∀ σ' H' F', SR K c σ' H' F' ρ → Same F F' → D.bk σ' H'
  | .cont ρ => ∀ σ' H' F', SR K c σ' H' F' ρ → Same F F' → D.ct σ' H'
  | .ret w => ∀ v H' F', Step c.pi c.H0 c.F0 H' F' → Res K c.pi c.H0 H' F' v w → D.rt v H'
def SX (K : PySem.W.Frag) (mg : Str → Option Value) (c : Act) (Wx : WX) (e : Ex) : Prop := ∀ cls d σ' H' F', Step c.pi c.H0 c.F0 H' F' → XRes K mg H' F' cls d e → Wx cls d σ' H'
def EvS (K : PySem.W.Frag) (mg : Str → Option Value) (c : Act) (Wx : WX) (g : En → M Fl) : TS := fun D σ H => ∃ F ρ, SR K c σ H F ρ ∧ (g ρ).post (SF K c F D) (SX K mg c Wx)
abbrev DS (X : Cx) (c : Act) (Wx : WX) (st : Stmt) (g : En → M Fl) : Prop := PS X st (EvS X.K X.mg c Wx g)
abbrev DSs (X : Cx) (c : Act) (Wx : WX) (st : List Stmt) (g : En → M Fl) : Prop := PSs X st (EvS X.K X.mg c Wx g)
section
variable {K : PySem.W.Frag} {mg : Str → Option Value} {c : Act} {Wx : WX} {σ : L2.St} {H F H' F' : Hp} {ρ : En}
theorem SF.older {D : Ends} {fl : Fl} (h : SF K c F D fl) (e : Same F F') : SF K c F' D fl := by
  cases fl with
  | nx _ => exact fun σ' H' G I m => h σ' H' G I (e.trans m)
  | brk _ => exact fun σ' H' G I m => h σ' H' G I (e.trans m)
  | cont _ => exact fun σ' H' G I m => h σ' H' G I (e.trans m)
  | ret _ => exact h
/-- an expression at the head of a statement: the names m are given up while it is reckoned -/
theorem ev_st {α : Type} {m : List Nat} {f : En → M Wv} {k : Wv → M α} {S : α → Prop} {R : VK} (I : SR K c σ H F ρ) (p : (f (frz m ρ) >>= k).post S (SX K mg c Wx))
    (h : ∀ w v Fp H1 F1, More F Fp → SR K c σ H Fp (frz m ρ) → Step c.pi H Fp H1 F1 → Res K c.pi H H1 F1 v w → (k w).post S (SX K mg c Wx) → R v H1) : Ev K mg c Wx f σ H R := by
  obtain ⟨Fp, J, mo⟩ := I.frz m
  exact ⟨Fp, frz m ρ, J, M.post_mono (M.post_bind.mp p) (fun w q H1 F1 s v r => h w v Fp H1 F1 mo J s r q) fun e q cls d H1 F1 s x => q cls d σ H1 F1 (J.st.trans J.p0 s) x⟩
theorem et_st {α : Type} {m : List Nat} {f : En → M Bool} {k : Bool → M α} {S : α → Prop} {R : Bool → Hp → Prop} (I : SR K c σ H F ρ) (p : (f (frz m ρ) >>= k).post S (SX K mg c Wx))
    (h : ∀ b H1 F1, SR K c σ H1 F1 ρ → Same F F1 → (k b).post S (SX K mg c Wx) → R b H1) : EvT K mg c Wx f σ H R := by
  obtain ⟨Fp, J, mo⟩ := I.frz m
  exact ⟨Fp, frz m ρ, J, M.post_mono (M.post_bind.mp p) (fun b q H1 F1 s => h b H1 _ (I.back mo s).1 (I.back mo s).2.1 q) fun e q cls d H1 F1 s x => q cls d σ H1 F1 (J.st.trans J.p0 s) x⟩
end
section
variable {X : Cx} {c : Act} {Wx : WX} {st : Stmt} {sts : List Stmt} {g g' : En → M Fl} {e : Expr} {f : En → M Wv} {pos : Pos}
def skip (ρ : En) : M Fl := .ok (.nx ρ)
def seq (g g' : En → M Fl) (ρ : En) : M Fl := g ρ >>= fun
  | .nx ρ' => g' ρ'
  | fl => .ok fl
theorem dss_nil : DSs X c Wx [] skip := PSs.imp pss_nil fun D σ H ⟨F, ρ, I, p⟩ => p σ H F I (Same.refl F)
theorem dss_cons (h1 : DS X c Wx st g) (h2 : DSs X c Wx sts g') : DSs X c Wx (st :: sts) (seq g g') :=
  PSs.imp (pss_cons h1 h2) fun D σ H ⟨F, ρ, I, p⟩ => ⟨F, ρ, I, M.post_mono (M.post_bind.mp p) (fun fl q => by
    cases fl with
    | nx ρ' => exact fun σ' H' F' J m => ⟨F', ρ', J, M.post_mono q (fun fl2 z => z.older m) fun _ z => z⟩
    | ret w => exact q
    | brk _ => exact q
    | cont _ => exact q) fun _ z => z⟩
theorem dss_one (h1 : DS X c Wx st g) : DSs X c Wx [st] g := pss_one h1
def asg (m : List Nat) (i : Nat) (f : En → M Wv) (ρ : En) : M Fl := f (frz m ρ) >>= fun w => .ok (.nx ((if w.still = true then ρ else frz m ρ).set i (some w)))
theorem asg_post {K : PySem.W.Frag} {mg : Str → Option Value} {m : List Nat} {i : Nat} {D : Ends} : ∀ σ H, EvS K mg c Wx (asg m i f) D σ H → Ev K mg c Wx f σ H fun x H1 => D.nx (σ.set i (some x)) H1 := fun σ H ⟨F, ρ, I, p⟩ => by
  refine ev_st (m := m) I p fun w v Fp H1 F1 mo J s r q => ?_
  by_cases hs : w.still = true
  · rw [if_pos hs] at q
    obtain ⟨I1, b1, _, _⟩ := I.back mo s
    exact q _ H1 _ (I1.set (I.backRes mo s r hs) (fun a z => I.st.none_of I.p0 z) fun j ys a e1 e2 => I.ownAt e1 e2) b1
  · rw [if_neg hs] at q
    exact q _ H1 _ ((J.step s).set r (fun a z => I.st.none_of I.p0 z) fun j ys a e1 e2 => J.ownAt e1 e2) (mo.1.trans s.mono)
theorem ds_asg (m : List Nat) (i : Nat) {x : Str} {pos' : Pos} (hN : X.N.Nodup) (hi : X.N[i]? = some x) (hx : Loc X.env.scope x) (he : DE X c Wx e f) (hs : swapsWith e (some (.Name x pos')) pos.line X.env = pure false := by rfl)
    (hf : X.fn x = true ∨ X.env.scope.names.lookup x = some .local := by first | exact .inl rfl | exact .inr rfl) : DS X c Wx (.Assign [.Name x pos'] e pos) (asg m i f) :=
  PS.imp (ps_set (hf := hf) hN hi hx he hs) fun D σ H h => asg_post σ H h
def rtn (m : List Nat) (f : En → M Wv) (ρ : En) : M Fl := f (frz m ρ) >>= fun w => .ok (.ret w)
theorem ds_ret (m : List Nat) (he : DE X c Wx e f) : DS X c Wx (.Return (some e) pos) (rtn m f) :=
  PS.imp (ps_ret he) fun D σ H ⟨F, ρ, I, p⟩ => ev_st (m := m) I p fun w v Fp H1 F1 mo J s r q => q v H1 F1 (J.st.trans J.p0 s) (r.older I.p0 I.st)
def rtnN (_ : En) : M Fl := .ok (.ret (.dat .none))
theorem ds_retN : DS X c Wx (.Return none pos) rtnN := PS.imp ps_retN fun D σ H ⟨F, ρ, I, p⟩ => p .non H F I.st .non
/-- return x: what is one's own is handed on -/
def rtnV (i : Nat) (ρ : En) : M Fl := match ρ[i]? with
  | some (some w) => .ok (.ret w)
  | _ => .bad
theorem ds_retV (i : Nat) {x : Str} {pos' : Pos} (hN : X.N[i]? = some x := by rfl) (hv : Vis X.env.scope x := by first | exact Or.inl rfl | exact Or.inr (Or.inl rfl) | exact Or.inr (Or.inr rfl)) (hd : (x == ("__debug__" : Str)) = false := by decide)
    (hcd : (x == ("__classdict__" : Str)) = false := by decide) : DS X c Wx (.Return (some (.Name x pos')) pos) (rtnV i) :=
  PS.imp (ps_ret (pe_var hN hv hd hcd)) fun D σ H ⟨F, ρ, I, p⟩ => by
    unfold rtnV at p
    split at p
    · rename_i w e
      obtain ⟨v, h1, h2⟩ := I.slot i _ e
      exact ⟨v, h1, p v H F I.st h2⟩
    · exact False.elim p
def exs (m : List Nat) (f : En → M Wv) (ρ : En) : M Fl := f (frz m ρ) >>= fun _ => .ok (.nx ρ)
theorem ds_exp (m : List Nat) (he : DE X c Wx e f) (hs : swapsWith e none pos.line X.env = pure false := by rfl) : DS X c Wx (.Expr e pos) (exs m f) :=
  PS.imp (ps_expr he hs) fun D σ H ⟨F, ρ, I, p⟩ => ev_st (m := m) I p fun w v Fp H1 F1 mo J s r q => q σ H1 _ (I.back mo s).1 (I.back mo s).2.1
def ifs (m : List Nat) (t : En → M Bool) (g g' : En → M Fl) (ρ : En) : M Fl := t (frz m ρ) >>= fun b => if b = true then g ρ else g' ρ
theorem ds_if (m : List Nat) {t : En → M Bool} {a b : List Stmt} (ht : DT X c Wx e t) (ha : DSs X c Wx a g) (hb : DSs X c Wx b g') : DS X c Wx (.If e a b pos) (ifs m t g g') :=
  PS.imp (ps_if ht ha hb) fun D σ H ⟨F, ρ, I, p⟩ => et_st (m := m) I p fun k H1 F1 I1 m1 q => by
    cases k with
    | true => rw [if_pos rfl] at q ⊢; exact ⟨F1, ρ, I1, M.post_mono q (fun fl z => z.older m1) fun _ z => z⟩
    | false => rw [if_neg Bool.false_ne_true] at q ⊢; exact ⟨F1, ρ, I1, M.post_mono q (fun fl z => z.older m1) fun _ z => z⟩
theorem ds_pass : DS X c Wx (.Pass pos) skip := PS.imp ps_pass fun D σ H ⟨F, ρ, I, p⟩ => p σ H F I (Same.refl F)
def brkS (ρ : En) : M Fl := .ok (.brk ρ)
def contS (ρ : En) : M Fl := .ok (.cont ρ)
theorem ds_brk : DS X c Wx (.Break pos) brkS := PS.imp ps_break fun D σ H ⟨F, ρ, I, p⟩ => p σ H F I (Same.refl F)
theorem ds_cont : DS X c Wx (.Continue pos) contS := PS.imp ps_continue fun D σ H ⟨F, ρ, I, p⟩ => p σ H F I (Same.refl F)
def badS (_ : En) : M Fl := .bad
theorem ds_never : DS X c Wx st badS := PS.imp ps_never fun D σ H ⟨F, ρ, I, p⟩ => p
theorem dss_never : DSs X c Wx sts badS := PSs.imp pss_never fun D σ H ⟨F, ρ, I, p⟩ => p
end

/-! ## a list of one's own is changed -/
section
variable {K : PySem.W.Frag} {c : Act} {σ : L2.St} {H F : Hp} {ρ : En}
theorem SR.write {i : Nat} {xs ys : List D} {a : Addr} {us : List V} (I : SR K c σ H F ρ) (e : ρ[i]? = some (some (.own xs))) (g : σ[i]? = some (some (.ref a))) (hs : DRs K F us ys) : SR K c σ (upd H a (.lst us)) F (ρ.set i (some (.own ys))) := by
  obtain ⟨v, hv, b, vs, rfl, ha, hF, h0, _⟩ := I.slot i _ e
  rw [g] at hv
  cases hv
  have hi : i < ρ.length := (List.getElem?_eq_some_iff.mp e).1
  refine ⟨by rw [List.length_set]; exact I.len, ⟨I.st.mono, fun x o q => ?_, I.st.new, fun x o n q => ?_, fun p q z => ?_⟩, I.p0, fun j w q => ?_, fun j k zs ws v n e1 e2 g1 g2 => ?_⟩
  · rw [upd_ne (ne_of_none q hF)]; exact I.le x o q
  · rw [upd_ne (ne_of_none q h0)]; exact I.st.same x o n q
  · obtain ⟨⟨l, y, x, r⟩, f, ns, r2, ne⟩ := I.st.pot p q z
    obtain ⟨⟨l0, y0, x0, r0⟩, f0, ns0, r20, ne0⟩ := I.p0 p q z
    refine ⟨⟨l, y, x, ?_⟩, f, ns, ?_, ne⟩
    · rw [upd_ne (ne_of_none r0 h0)]; exact r
    · rw [upd_ne (ne_of_none r20 h0)]; exact r2
  · by_cases z : j = i
    · subst z
      rw [List.getElem?_set_self hi] at q
      cases q
      exact ⟨_, g, a, us, rfl, upd_same, hF, h0, hs⟩
    · rw [List.getElem?_set_ne (Ne.symm z)] at q
      obtain ⟨u, h1, h2⟩ := I.slot j w q
      refine ⟨u, h1, ?_⟩
      cases w with
      | dat d => exact h2
      | own zs =>
        obtain ⟨b, ws, rfl, hb, r⟩ := h2
        have nb : b ≠ a := fun z2 => by
          subst z2
          exact I.sep j i zs xs _ z q e h1 g
        exact ⟨b, ws, rfl, by rw [upd_ne nb]; exact hb, r⟩
      | raw _ => exact h2
      | pot => exact h2
  · have back : ∀ {l : Nat} {us : List D}, (ρ.set i (some (.own ys)))[l]? = some (some (.own us)) → ∃ us', ρ[l]? = some (some (.own us')) := fun {l us} q => by
      by_cases z : l = i
      · subst z; exact ⟨xs, e⟩
      · rw [List.getElem?_set_ne (Ne.symm z)] at q; exact ⟨us, q⟩
    obtain ⟨z1, f1⟩ := back e1
    obtain ⟨z2, f2⟩ := back e2
    exact I.sep j k z1 z2 v n f1 f2 g1 g2
end
/-- xs.append(e) -/
def ownAt (ρ : En) (i : Nat) : M (List D) := match ρ[i]? with
  | some (some (.own xs)) => .ok xs
  | _ => .bad
def app1 (ρ : En) (i : Nat) (d : D) : M Fl := ownAt ρ i >>= fun xs => small xs.length (.ok (.nx (ρ.set i (some (.own (xs ++ [d]))))))
def app (m : List Nat) (i : Nat) (f : En → M Wv) (ρ : En) : M Fl := ownAt ρ i >>= fun _ => f (frz m ρ) >>= fun w => w.d >>= fun d =>
  app1 (if noL d = true then ρ else frz m ρ) i d
section
variable {X : Cx} {c : Act} {Wx : WX} {st : Stmt} {e : Expr} {f : En → M Wv} {pos : Pos}
theorem ownAt_ok {α : Type} {ρ : En} {i : Nat} {k : List D → M α} {Q : α → Prop} {E : Ex → Prop} (h : (ownAt ρ i >>= k).post Q E) : ∃ xs, ρ[i]? = some (some (.own xs)) ∧ (k xs).post Q E := by
  unfold ownAt at h
  split at h
  · rename_i xs e
    exact ⟨xs, e, h⟩
  · exact False.elim h
theorem d_ok {α : Type} {w : Wv} {k : D → M α} {Q : α → Prop} {E : Ex → Prop} (h : (w.d >>= k).post Q E) : ∃ d, w.d? = some d ∧ (k d).post Q E := by
  cases w with
  | dat d => exact ⟨d, rfl, h⟩
  | own xs => exact ⟨.list xs, rfl, h⟩
  | raw _ => exact False.elim h
  | pot => exact False.elim h
theorem still_of {w : Wv} {d : D} (e : w.d? = some d) (h : noL d = true) : w = .dat d := by
  cases w with
  | dat d' => cases e; rfl
  | own xs => cases e; rw [noL_list] at h; cases h
  | raw _ => cases e
  | pot => cases e
theorem ds_app (m : List Nat) (i : Nat) {x : Str} {p1 apos cpos : Pos} (he : DE X c Wx e f) (hN : X.N[i]? = some x := by rfl) (hv : Vis X.env.scope x := by first | exact Or.inl rfl | exact Or.inr (Or.inl rfl) | exact Or.inr (Or.inr rfl)) (hd : (x == ("__debug__" : Str)) = false := by decide)
    (hcd : (x == ("__classdict__" : Str)) = false := by decide) (hb : attributeBase (.Name x p1) "append" X.env (eval (.Name x p1) X.env) = eval (.Name x p1) X.env := by rfl)
    (hfew : ((backTo cpos (starEach [e] X.env)).all (fun x => !x.1) && (backToKw cpos (keywordEach [] X.env)).all (fun x => x.1.isSome) && decide ([e].length + ([] : List Keyword).length + (if ([] : List Keyword).isEmpty then 0 else 1) < 30)) = true := by rfl)
    (hline : (apos.endLine == cpos.line) = true := by rfl) (hs : starEach [e] X.env = (false, eval e X.env) :: starEach [] X.env := by rfl) (hsw : swapsWith (.Call (.Attribute (.Name x p1) "append" apos) [e] [] cpos) none pos.line X.env = pure false := by rfl) :
    DS X c Wx (.Expr (.Call (.Attribute (.Name x p1) "append" apos) [e] [] cpos) pos) (app m i f) := by
  refine PS.imp (ps_expr (pe_bm PySem.F.plainAttrs_list PySem.F.slot_list_append PySem.F.type_list_append mt_append (pe_var hN hv hd hcd) (pa_cons he pa_nil hs) hb hfew hline hs (by rfl)) hsw) fun D σ H ⟨F, ρ, I, p⟩ => ?_
  obtain ⟨xs0, e0, p⟩ := ownAt_ok p
  obtain ⟨v, hv, a, vs0, rfl, ha0, hF0, h00, hs0⟩ := I.slot i _ e0
  refine ⟨_, hv, .inl ⟨rfl, vs0, SqL.of ha0⟩, ?_⟩
  refine ev_st (m := m) I p fun w u Fp H1 F1 mo J s r q => ?_
  obtain ⟨d, hd, q2⟩ := d_ok q
  have fin : ∀ {ρ' : En} {G : Hp}, SR X.K c σ H1 G ρ' → DR X.K G u d → Same F G → (app1 ρ' i d).post (SF X.K c F D) (SX X.K X.mg c Wx) →
      rAppend (.ref a) [u] H1 fun _ H3 => D.nx σ H3 := fun {ρ' G} L rd sm z => by
    obtain ⟨xs, ex, z⟩ := ownAt_ok z
    obtain ⟨hz, z⟩ := small_ok z
    obtain ⟨v2, hv2, b, vs, e2, ha, hF, h0, hs⟩ := L.slot i _ ex
    rw [hv] at hv2
    cases hv2
    cases e2
    refine ⟨a, vs, u, rfl, rfl, ha, by rw [hs.length]; exact hz, ?_⟩
    exact z σ _ G (L.write ex hv (hs.append (.cons rd .nil))) sm
  by_cases hn : noL d = true
  · rw [if_pos hn] at q2
    obtain ⟨I1, b1, _, _⟩ := I.back mo s
    have ew := still_of hd hn
    subst ew
    exact fin I1 (I.backRes mo s r hn) b1 q2
  · rw [if_neg hn] at q2
    obtain ⟨F2, s2, _, rd⟩ := Res.give (F0 := Fp) r hd J.pot s
    exact fin (J.step s2) rd (mo.1.trans s2.mono) q2
end
end DL

namespace DL
open PySem PySem.Spec PyProof.Rows L2

/-! ## what a loop walks -/
def SrcOk (K : PySem.W.Frag) (pi : Pot) (J : It) (F : Hp) (ds : List D) : Prop := ∀ (i : Nat) (H' F' : Hp), Same F F' → Same F' H' → PotIn pi H' F' →
  (∀ d, ds[i]? = some d → J.go i H' ∧ ∀ x H'', J.yld i H' x H'' → ∃ F'', Step pi H' F' H'' F'' ∧ DR K F'' x d) ∧ (i = ds.length → J.stop i H')
def EvI (K : PySem.W.Frag) (mg : Str → Option Value) (c : Act) (Wx : WX) (src : En → M (List D)) : TI := fun σ H R => ∃ F ρ, SR K c σ H F ρ ∧ Pend K mg c Wx σ H F (src ρ) fun ds H' F' => ∀ J, SrcOk K c.pi J F' ds → R J H'
abbrev DI (X : Cx) (c : Act) (Wx : WX) (tg iter : Expr) (src : En → M (List D)) : Prop := PI X tg iter (EvI X.K X.mg c Wx src)
theorem PI.imp {X : Cx} {tg iter : Expr} {t t' : TI} (h : PI X tg iter t) (hi : ∀ σ H R, t' σ H R → t σ H R) : PI X tg iter t' := ⟨fun pins s σ H R I q => h.run pins s σ H R I (hi _ _ _ q)⟩
theorem PG.imp {X : Cx} {tg : Expr} {t t' : TG} (h : PG X tg t) (hi : ∀ v σ H Q, t' v σ H Q → t v σ H Q) : PG X tg t' := ⟨fun pins s σ H x u Q I r q => h.run pins s σ H x u Q I r (hi _ _ _ _ q)⟩
theorem PTs.imp {X : Cx} {es : List Expr} {t t' : TT} (h : PTs X es t) (hi : ∀ σ H Q, t' σ H Q → t σ H Q) : PTs X es t' := ⟨fun pins s σ H Q I q => h.run pins s σ H Q I (hi _ _ _ q)⟩

/-! ## targets -/
theorem wipe_at {σ : L2.St} {j : Nat} : ∀ {vs : List Nat}, (wipe σ vs)[j]? = if j ∈ vs then (σ[j]?.map fun _ => none) else σ[j]?
  | [] => by simp [wipe]
  | v :: vs => by
    unfold wipe
    rw [List.getElem?_set]
    by_cases h : v = j
    · subst h
      simp only [if_true, wipe_length, List.mem_cons, true_or]
      by_cases q : v < σ.length
      · rw [if_pos q]; simp [List.getElem?_eq_getElem q]
      · rw [if_neg q]; simp [List.getElem?_eq_none (Nat.le_of_not_lt q)]
    · rw [if_neg h, wipe_at (vs := vs)]
      have h' : ¬ j = v := fun e => h e.symm
      simp only [List.mem_cons, h', false_or]
theorem wipe_set {σ : L2.St} {i : Nat} {o : Option V} {vs : List Nat} (h : i ∈ vs) : wipe (σ.set i o) vs = wipe σ vs := by
  apply List.ext_getElem?
  intro j
  rw [wipe_at, wipe_at]
  by_cases q : j ∈ vs
  · rw [if_pos q, if_pos q, List.getElem?_set]
    by_cases e : i = j
    · subst e
      by_cases z : i < σ.length
      · simp [z]
      · simp [z, List.getElem?_eq_none (Nat.le_of_not_lt z)]
    · rw [if_neg e]
  · rw [if_neg q, if_neg q, List.getElem?_set_ne (fun e => q (by rw [← e]; exact h))]
def EvG (K : PySem.W.Frag) (c : Act) (is : List Nat) (b : D → En → Option En) : TG := fun v σ H Q => ∃ F ρ d, SR K c σ H F ρ ∧ DR K F v d ∧
  ∃ ρ', b d ρ = some ρ' ∧ ∀ σ', SR K c σ' H F ρ' → (∀ vs, (∀ i ∈ is, i ∈ vs) → wipe σ' vs = wipe σ vs) → Q σ' H
abbrev DG (X : Cx) (c : Act) (tg : Expr) (is : List Nat) (b : D → En → Option En) : Prop := PG X tg (EvG X.K c is b)
def bN (i : Nat) (d : D) (ρ : En) : Option En := some (ρ.set i (some (.dat d)))
def setL : List Nat → List D → En → En
  | i :: is, d :: ds, ρ => setL is ds (ρ.set i (some (.dat d)))
  | _, _, ρ => ρ
def bT (is : List Nat) (d : D) (ρ : En) : Option En := match d with
  | .tuple ds => if ds.length = is.length then some (setL is ds ρ) else none
  | _ => none
section
variable {X : Cx} {c : Act} {Wx : WX}
theorem SR.setD {K : PySem.W.Frag} {σ : L2.St} {H F : Hp} {ρ : En} {i : Nat} {v : V} {d : D} (I : SR K c σ H F ρ) (h : DR K F v d) : SR K c (σ.set i (some v)) H F (ρ.set i (some (.dat d))) :=
  I.set (w := .dat d) (Hb := H) h (fun a z => I.st.none_of I.p0 z) fun j ys a e1 e2 => I.ownAt e1 e2
theorem dg_name (i : Nat) {x : Str} {pos : Pos} (hN : X.N.Nodup) (hi : X.N[i]? = some x) (hx : Loc X.env.scope x) (hf : X.fn x = true ∨ X.env.scope.names.lookup x = some .local := by first | exact .inl rfl | exact .inr rfl) : DG X c (.Name x pos) [i] (bN i) :=
  PG.imp (pg_name hN hi hx hf) fun v σ H Q ⟨F, ρ, d, I, h, ρ', e, p⟩ => by
    cases e
    exact p _ (I.setD h) fun vs hv => wipe_set (hv i (List.mem_singleton.mpr rfl))
/-- the names of a tuple target -/
inductive DGN (X : Cx) : List Expr → List Nat → TGs → Prop
  | nil : DGN X [] [] gNil
  | cons {x : Str} {pos : Pos} {es : List Expr} {i : Nat} {is : List Nat} {t : TGs} : PG X (.Name x pos) (gName i) → DGN X es is t → DGN X (.Name x pos :: es) (i :: is) (gCons (gName i) t)
theorem DGN.len {es : List Expr} {is : List Nat} {t : TGs} (h : DGN X es is t) : es.length = is.length := by
  induction h with
  | nil => rfl
  | cons _ _ ih => exact congrArg (· + 1) ih
theorem DGN.set {es : List Expr} {is : List Nat} {t : TGs} (h : DGN X es is t) : ∀ {K : PySem.W.Frag} {vs : List V} {ds : List D} {σ : L2.St} {H F : Hp} {ρ : En} {Q : L2.St → Hp → Prop}, SR K c σ H F ρ → DRs K F vs ds → ds.length = is.length →
    (∀ σ', SR K c σ' H F (setL is ds ρ) → (∀ ws, (∀ i ∈ is, i ∈ ws) → wipe σ' ws = wipe σ ws) → Q σ' H) → t vs σ H Q := by
  induction h with
  | nil =>
    intro K vs ds σ H F ρ Q I hd hl hq
    cases ds with
    | nil => cases hd; exact ⟨rfl, hq σ I fun _ _ => rfl⟩
    | cons _ _ => simp at hl
  | cons g t ih =>
    intro K vs ds σ H F ρ Q I hd hl hq
    cases hd with
    | nil => simp at hl
    | cons h1 h2 =>
      refine ⟨_, _, rfl, ?_⟩
      refine ih (I.setD h1) h2 (by simpa using hl) fun σ' J hw => hq σ' J fun ws hws => ?_
      rw [hw ws fun i hi => hws i (List.mem_cons_of_mem _ hi)]
      exact wipe_set (hws _ (List.mem_cons_self ..))
theorem dg_tup {es : List Expr} {is : List Nat} {t : TGs} {k : Nat} {pos : Pos} (hc : X.calm = true) (h : DGN X es is t) (h2 : PGs X es t) (hn : (assignEach es X.env).length = es.length := by rfl) (hst : (assignEach es X.env).findIdx? (·.1) = none := by rfl) : DG X c (.Tuple es k pos) is (bT is) :=
  PG.imp (pg_tup (n := es.length) hc h2 hn hst) fun v σ H Q ⟨F, ρ, d, I, hd, ρ', e, p⟩ => by
    unfold bT at e
    split at e
    · rename_i ds
      split at e
      · rename_i hl
        cases e
        cases hd with
        | tup hs ha => exact ⟨_, _, rfl, sq_mono_t I.le hs, by rw [ha.length, hl, h.len], h.set I ha hl p⟩
      · cases e
    · cases e

/-! ## for -/
def loop (b : D → En → Option En) (g : En → M Fl) : List D → En → M Fl
  | [], ρ => .ok (.nx ρ)
  | d :: ds, ρ => match b d ρ with
    | none => .bad
    | some ρ1 => g ρ1 >>= fun
      | .nx ρ2 => loop b g ds ρ2
      | .cont ρ2 => loop b g ds ρ2
      | .brk ρ2 => .ok (.nx ρ2)
      | .ret w => .ok (.ret w)
def forS (m : List Nat) (src : En → M (List D)) (b : D → En → Option En) (g : En → M Fl) (ρ : En) : M Fl := src (frz m ρ) >>= fun ds => loop b g ds (frz m ρ)
theorem drop_at {α : Type} {xs : List α} {i : Nat} (h : i < xs.length) : ∃ x, xs[i]? = some x ∧ xs.drop i = x :: xs.drop (i + 1) := ⟨xs[i], List.getElem?_eq_getElem h, (List.drop_eq_getElem_cons h)⟩
theorem ds_for (m : List Nat) {tg iter : Expr} {body : List Stmt} {src : En → M (List D)} {is : List Nat} {b : D → En → Option En} {g : En → M Fl} {pos : Pos} (hp : PassesOwn (model X.prog X.w) X.A X.env X.xe) (hc : X.calm = true) (hi : DI X c Wx tg iter src) (hg : DG X c tg is b) (hb : DSs X c Wx body g)
    (hs : ∀ x, foldedSetIterable iter X.env x = pure x := by intro _; rfl) : DS X c Wx (.For tg iter body [] pos) (forS m src b g) :=
  PS.imp (ps_for hp hc hi hg hb hs) fun D σ H ⟨F, ρ, I, p⟩ => by
    obtain ⟨Fp, J, mo⟩ := I.frz m
    refine ⟨Fp, frz m ρ, J, M.post_mono (M.post_bind.mp p) (fun ds q H1 F1 s It hI => ?_) fun e q cls d H1 F1 s x => q cls d σ H1 F1 (J.st.trans J.p0 s) x⟩
    have sF : Same F F1 := mo.1.trans s.mono
    refine ⟨fun i n σ' H' => n = ds.length - i ∧ i ≤ ds.length ∧ ∃ F' ρ', SR X.K c σ' H' F' ρ' ∧ Same F1 F' ∧ (loop b g (ds.drop i) ρ').post (SF X.K c F D) (SX X.K X.mg c Wx), ⟨ds.length, by simp, Nat.zero_le _, F1, frz m ρ, J.step s, Same.refl F1, q⟩, ?_⟩
    rintro i n σ' H' ⟨rfl, hle, F', ρ', I', m', q'⟩
    obtain ⟨hgo, hstop⟩ := hI i H' F' m' I'.le I'.pot
    by_cases hlt : i < ds.length
    · obtain ⟨d, e1, e2⟩ := drop_at hlt
      obtain ⟨go, yl⟩ := hgo d e1
      rw [e2] at q'
      refine .inr ⟨go, fun σ2 H2 => ∃ F2 ρ2, SR X.K c σ2 H2 F2 ρ2 ∧ Same F1 F2 ∧ (loop b g (ds.drop (i + 1)) ρ2).post (SF X.K c F D) (SX X.K X.mg c Wx), fun σ2 H2 ⟨F2, ρ2, I2, m2, q2⟩ => ⟨ds.length - (i + 1), by omega, rfl, hlt, F2, ρ2, I2, m2, q2⟩, fun x H2 y => ?_⟩
      obtain ⟨F2, s2, hd⟩ := yl x H2 y
      have m2 := m'.trans s2.mono
      rw [loop] at q'
      split at q'
      · exact False.elim q'
      · rename_i ρ1 eb
        refine ⟨F2, ρ', d, I'.step s2, hd, ρ1, eb, fun σ3 I3 _ => ⟨F2, ρ1, I3, M.post_mono (M.post_bind.mp q') (fun fl z => ?_) fun _ z => z⟩⟩
        cases fl with
        | nx ρ2 => exact fun σ4 H4 F4 I4 m4 => ⟨F4, ρ2, I4, m2.trans m4, z⟩
        | cont ρ2 => exact fun σ4 H4 F4 I4 m4 => ⟨F4, ρ2, I4, m2.trans m4, z⟩
        | brk ρ2 => exact fun σ4 H4 F4 I4 m4 => z σ4 H4 F4 I4 ((sF.trans m2).trans m4)
        | ret w => exact z
    · have e : i = ds.length := by omega
      rw [e, List.drop_length] at q'
      exact .inl ⟨hstop e, q' σ' H' F' I' (sF.trans m')⟩
end
end DL

namespace DL
open PySem PySem.Spec PyProof.Rows L2

/-! ## comprehensions -/
namespace M
def nox {α : Type} : M α → M α
  | .ok a => .ok a
  | .exc _ => .bad
  | .bad => .bad
  | .pick n k => .pick n fun i => nox (k i)
@[simp] theorem nox_ok {α : Type} (a : α) : nox (M.ok a) = .ok a := rfl
@[simp] theorem nox_exc {α : Type} (e : Ex) : nox (M.exc e : M α) = .bad := rfl
@[simp] theorem nox_bad {α : Type} : nox (M.bad : M α) = .bad := rfl
@[simp] theorem nox_pick {α : Type} (n : Nat) (k : Nat → M α) : nox (M.pick n k) = .pick n fun i => nox (k i) := rfl
theorem post_nox {α : Type} {m : M α} {Q : α → Prop} {E : Ex → Prop} : (nox m).post Q E ↔ m.post Q fun _ => False := by
  induction m with
  | ok a => exact Iff.rfl
  | exc e => exact Iff.rfl
  | bad => exact Iff.rfl
  | pick n k ih => exact forall_congr' fun i => forall_congr' fun _ => ih i
end M
def wipeE (ρ : En) : List Nat → En
  | [] => ρ
  | v :: vs => (wipeE ρ vs).set v none
def lcGo (vs : List Nat) (b : D → En → Option En) (t : En → M Bool) (el : En → M Wv) : List D → En → List D → M (List D)
  | [], _, acc => .ok acc
  | d :: ds, ρ, acc => match b d (wipeE ρ vs) with
    | none => .bad
    | some ρ1 => t ρ1 >>= fun k => if k = true then el ρ1 >>= fun w => w.d >>= fun y => lcGo vs b t el ds ρ (acc ++ [y]) else lcGo vs b t el ds ρ acc
def lc (vs : List Nat) (src : En → M (List D)) (b : D → En → Option En) (t : En → M Bool) (el : En → M Wv) (ρ : En) : M Wv := src ρ >>= fun ds => small ds.length (M.nox (lcGo vs b t el ds ρ []) >>= fun ys => .ok (.own ys))
abbrev Wx0 : WX := fun _ _ _ _ => False
section
variable {K : PySem.W.Frag} {mg : Str → Option Value} {c : Act} {Wx : WX} {σ : L2.St} {H F H' F' : Hp} {ρ : En}
theorem SR.wipe (I : SR K c σ H F ρ) : ∀ vs : List Nat, SR K c (L2.wipe σ vs) H F (wipeE ρ vs)
  | [] => I
  | v :: vs => (SR.wipe I vs).drop v none
theorem lc_post {vs is : List Nat} {src : En → M (List D)} {b : D → En → Option En} {t : En → M Bool} {el : En → M Wv} (hv : ∀ i ∈ is, i ∈ vs) : ∀ σ H Q, Ev K mg c Wx (lc vs src b t el) σ H Q →
    tLc (EvI K mg c Wx src) (EvG K c is b) (EvT K mg c Wx0 t) (Ev K mg c Wx0 el) vs σ H Q := fun σ H Q ⟨F, ρ, I, p⟩ => by
  refine ⟨F, ρ, I, M.post_mono p.bind (fun ds q H1 F1 s J hJ Dn hDn => ?_) fun e q => q⟩
  obtain ⟨hz, q⟩ := small_ok q
  have I1 := I.step s
  have sD := Step.layH (o := .lst []) I1.le I1.pot hDn
  have F1D : F1 Dn = none := by
    cases z : F1 Dn with
    | none => rfl
    | some o =>
      have := I1.le Dn o z
      rw [hDn] at this
      cases this
  have q0 := M.post_nox.mp (M.post_bind.mp q)
  refine ⟨fun i n H' => n = ds.length - i ∧ i ≤ ds.length ∧ ∃ F' acc ys, Step c.pi H1 F1 H' F' ∧ H' Dn = some (.lst acc) ∧ F' Dn = none ∧ DRs K F' acc ys ∧ ys.length ≤ i ∧
    (lcGo vs b t el (ds.drop i) ρ ys).post (fun zs => ∀ v H2 F2, Step c.pi H1 F1 H2 F2 → Res K c.pi H H2 F2 v (.own zs) → Q v H2) (fun _ => False),
    ⟨ds.length, by simp, Nat.zero_le _, F1, [], [], sD, upd_same, F1D, .nil, Nat.le_refl _, M.post_mono q0 (fun zs h v H2 F2 s2 r => h H2 F2 (s.trans I.pot s2) v r) fun _ z => z.elim⟩, ?_⟩
  rintro i n H' ⟨rfl, hle, F', acc, ys, s', hD', FD', hr, hl, g⟩
  have I' := I1.step s'
  have npD : notPot c.pi Dn := new_notPot I1.pot hDn
  obtain ⟨hgo, hstop⟩ := hJ i H' F' s'.mono I'.le I'.pot
  by_cases hlt : i < ds.length
  · obtain ⟨d, e1, e2⟩ := drop_at hlt
    obtain ⟨go, yl⟩ := hgo d e1
    rw [e2, lcGo] at g
    -- what a turn is to reach
    refine .inr ⟨go, fun H2 => ∃ F2 acc2 ys2, Step c.pi H1 F1 H2 F2 ∧ H2 Dn = some (.lst acc2) ∧ F2 Dn = none ∧ DRs K F2 acc2 ys2 ∧ ys2.length ≤ i + 1 ∧
      (lcGo vs b t el (ds.drop (i + 1)) ρ ys2).post (fun zs => ∀ v H3 F3, Step c.pi H1 F1 H3 F3 → Res K c.pi H H3 F3 v (.own zs) → Q v H3) (fun _ => False),
      fun H2 ⟨F2, acc2, ys2, r⟩ => ⟨ds.length - (i + 1), by omega, rfl, hlt, F2, acc2, ys2, r⟩, fun x H2 y => ?_⟩
    obtain ⟨F2, s2, hd⟩ := yl x H2 y
    have keepD : ∀ {Ha Fa Hb Fb : Hp}, Step c.pi Ha Fa Hb Fb → Ha Dn = some (.lst acc) → Fa Dn = none → Hb Dn = some (.lst acc) ∧ Fb Dn = none := fun {Ha Fa Hb Fb} st h1 h2 => by
      refine ⟨st.same Dn _ npD h1, ?_⟩
      cases z : Fb Dn with
      | none => rfl
      | some o =>
        rcases st.new Dn o z with w | w
        · rw [h2] at w; cases w
        · rw [h1] at w; cases w
    obtain ⟨hD2, FD2⟩ := keepD s2 hD' FD'
    split at g
    · exact g.elim
    · rename_i ρ1 eb
      have Iw : SR K c (L2.wipe σ vs) H2 F2 (wipeE ρ vs) := (I'.step s2).wipe vs
      refine ⟨F2, wipeE ρ vs, d, Iw, hd, ρ1, eb, fun σ3 I3 hw => ⟨?_, F2, ρ1, I3, M.post_mono (M.post_bind.mp g) (fun k q H3 F3 s3 => ?_) fun _ z => z.elim⟩⟩
      · have e3 : L2.wipe (L2.wipe σ vs) vs = L2.wipe σ vs := by
          apply List.ext_getElem?
          intro j
          rw [wipe_at, wipe_at]
          by_cases q : j ∈ vs
          · rw [if_pos q, if_pos q]; cases σ[j]? <;> rfl
          · rw [if_neg q, if_neg q]
        rw [hw vs hv, e3]
      · have s23 := (s'.trans I1.pot s2).trans I1.pot s3
        obtain ⟨hD3, FD3⟩ := keepD s3 hD2 FD2
        have m3 : Same F' F3 := s2.mono.trans s3.mono
        cases k with
        | false =>
          rw [if_neg Bool.false_ne_true] at q
          exact iteF ⟨F3, acc, ys, s23, hD3, FD3, hr.mono m3, by omega, q⟩
        | true =>
          rw [if_pos rfl] at q
          refine iteT ⟨F3, ρ1, I3.step s3, M.post_mono (M.post_bind.mp q) (fun w q H4 F4 s4 v rv => ?_) fun _ z => z.elim⟩
          obtain ⟨yd, ey, q⟩ := d_ok q
          obtain ⟨F5, s5, m5, rd⟩ := Res.give (F0 := F3) rv ey (I3.step s3).pot s4
          obtain ⟨hD4, FD4⟩ := keepD s5 hD3 FD3
          have s25 := s23.trans I1.pot s5
          refine ⟨acc, hD4, by rw [hr.length]; omega, F5, acc ++ [v], ys ++ [yd], ?_, upd_same, FD4, (hr.mono (m3.trans s5.mono)).append (.cons rd .nil), by simp; omega, q⟩
          · refine ⟨s25.mono, fun a o e => ?_, s25.new, fun a o na e => ?_, fun p q e => ?_⟩
            · rw [upd_ne (ne_of_none e FD4)]; exact s25.le a o e
            · rw [upd_ne (ne_of_none e hDn)]; exact s25.same a o na e
            · obtain ⟨⟨i1, i2, i3, r1⟩, f, ns, r2, ne⟩ := s25.pot p q e
              obtain ⟨⟨j1, j2, j3, r10⟩, f0, ns0, r20, ne0⟩ := I1.pot p q e
              exact ⟨⟨i1, i2, i3, by rw [upd_ne (ne_of_none r10 hDn)]; exact r1⟩, f, ns, by rw [upd_ne (ne_of_none r20 hDn)]; exact r2, ne⟩
  · have e : i = ds.length := by omega
    rw [e, List.drop_length] at g
    have h0 : H Dn = none := s.none_of I.pot hDn
    exact .inl ⟨hstop e, g (.ref Dn) H' F' s' ⟨Dn, acc, rfl, hD', FD', h0, hr⟩⟩
end
end DL

namespace DL
open PySem PySem.Spec PyProof.Rows L2
section
variable {X : Cx} {c : Act} {Wx : WX}
abbrev Bk (X : Cx) (scope : Scope) (s : Shared) (H : Hp) (C : Addr) (cl : List (Str × Addr)) (fp : List Addr) : Cx := X.blk s H scope (compEnvC scope cl C X.env) fp
def tYes (_ : En) : M Bool := .ok true
abbrev DTs (X : Cx) (c : Act) (Wx : WX) (es : List Expr) (f : En → M Bool) : Prop := PTs X es (EvT X.K X.mg c Wx f)
theorem dts_nil : DTs X c Wx [] tYes := PTs.imp pts_nil fun σ H Q ⟨F, ρ, I, p⟩ => p H F (step_refl I)
theorem dts_one {e : Expr} {t : En → M Bool} (h : DT X c Wx e t) : DTs X c Wx [e] t := pts_one h
theorem de_lc {elt tg iter : Expr} {ifs : List Expr} {scope : Scope} {own : List (Str × Nat)} {pos : Pos} {src : En → M (List D)} {is : List Nat} {b : D → En → Option En} {t : En → M Bool} {el : En → M Wv} (hc : X.calm = true) (hN : X.N.Nodup) (ok : BlkOk X.N X.env.scope scope own) (hi : DI X c Wx tg iter src)
    (hg : ∀ s H C cl fp, DG (Bk X scope s H C cl fp) c tg is b) (ht : ∀ s H C cl fp, DTs (Bk X scope s H C cl fp) c Wx0 ifs t) (he : ∀ s H C cl fp, DE (Bk X scope s H C cl fp) c Wx0 elt el) (hv : ∀ i ∈ is, i ∈ own.map (·.2) := by decide)
    (hs : ∀ x, foldedSetIterable iter X.env x = pure x := by intro _; rfl) : DE X c Wx (.ListComp elt [⟨tg, iter, ifs, 0⟩] scope pos) (lc (own.map (·.2)) src b t el) :=
  PE.imp (pe_lc hc hN hi ok hg ht he hs) (lc_post hv)
theorem ds_asgLc (m : List Nat) (i : Nat) {y : Str} {py : Pos} {elt tg iter : Expr} {ifs : List Expr} {scope : Scope} {own : List (Str × Nat)} {pos spos : Pos} {src : En → M (List D)} {is : List Nat} {b : D → En → Option En} {t : En → M Bool} {el : En → M Wv} (hc : X.calm = true) (hN : X.N.Nodup) (hy : X.N[i]? = some y) (hyl : X.env.scope.names.lookup y = some .local)
    (hsw : swapsWith (.ListComp elt [⟨tg, iter, ifs, 0⟩] scope pos) (some (.Name y py)) spos.line X.env = pure true) (ok : BlkOk X.N X.env.scope scope own) (hi : DI X c Wx tg iter src)
    (hg : ∀ s H C cl fp, DG (Bk X scope s H C cl fp) c tg is b) (ht : ∀ s H C cl fp, DTs (Bk X scope s H C cl fp) c Wx0 ifs t) (he : ∀ s H C cl fp, DE (Bk X scope s H C cl fp) c Wx0 elt el) (hv : ∀ i ∈ is, i ∈ own.map (·.2) := by decide)
    (hs : ∀ x, foldedSetIterable iter X.env x = pure x := by intro _; rfl) : DS X c Wx (.Assign [.Name y py] (.ListComp elt [⟨tg, iter, ifs, 0⟩] scope pos) spos) (asg m i (lc (own.map (·.2)) src b t el)) :=
  PS.imp (ps_setLc hc hN hy hyl hsw hi ok hg ht he hs) fun D σ H h => lc_post hv σ H _ (asg_post σ H h)
end

/-! ## two fors -/
def isOwn : Option Wv → Bool
  | some (.own _) => true
  | _ => false
def dropO (ρ : En) : En := ρ.map fun o => if isOwn o = true then none else o
def noOwn (ρ : En) : Prop := ∀ o ∈ ρ, isOwn o = false
theorem noOwn_dropO (ρ : En) : noOwn (dropO ρ) := fun o h => by
  obtain ⟨x, _, rfl⟩ := List.mem_map.mp h
  by_cases q : isOwn x = true
  · rw [if_pos q]; rfl
  · rw [if_neg q]; simpa using q
theorem noOwn.set {ρ : En} (h : noOwn ρ) (i : Nat) {o : Option Wv} (ho : isOwn o = false) : noOwn (ρ.set i o) := fun x hx => by
  rcases List.mem_or_eq_of_mem_set hx with q | q
  · exact h x q
  · rw [q]; exact ho
theorem noOwn.wipe {ρ : En} (h : noOwn ρ) : ∀ vs : List Nat, noOwn (wipeE ρ vs)
  | [] => h
  | v :: vs => (noOwn.wipe h vs).set v rfl
theorem noOwn.setL : ∀ {is : List Nat} {ds : List D} {ρ : En}, noOwn ρ → noOwn (setL is ds ρ)
  | [], _, _, h => h
  | _ :: _, [], _, h => h
  | i :: is, d :: ds, ρ, h => noOwn.setL (is := is) (ds := ds) (ρ := ρ.set i (some (.dat d))) (noOwn.set h i (o := some (.dat d)) rfl)
def Binder (b : D → En → Option En) : Prop := ∀ d ρ ρ', noOwn ρ → b d ρ = some ρ' → noOwn ρ'
theorem binder_N (i : Nat) : Binder (bN i) := fun d ρ ρ' h e => by
  cases e
  exact h.set i rfl
theorem binder_T (is : List Nat) : Binder (bT is) := fun d ρ ρ' h e => by
  unfold bT at e
  split at e
  · split at e
    · cases e; exact h.setL
    · cases e
  · cases e
theorem SR.dropO {K : PySem.W.Frag} {c : Act} {σ : L2.St} {H F : Hp} {ρ : En} (I : SR K c σ H F ρ) : SR K c σ H F (dropO ρ) where
  len := by unfold DL.dropO; rw [List.length_map]; exact I.len
  st := I.st
  p0 := I.p0
  slot := fun i w e => by
    unfold DL.dropO at e
    rw [List.getElem?_map] at e
    cases q : ρ[i]? with
    | none => rw [q] at e; cases e
    | some o =>
      rw [q] at e
      simp only [Option.map_some, Option.some.injEq] at e
      split at e
      · cases e
      · subst e; exact I.slot i w q
  sep := fun i j xs ys v n e => by
    have h := noOwn_dropO ρ _ (List.mem_of_getElem? e)
    cases h
theorem SR.stay {K : PySem.W.Frag} {c : Act} {σ : L2.St} {H F H' F' : Hp} {ρ : En} (I : SR K c σ H F ρ) (n : noOwn ρ) (m : Same F F') (s : Step c.pi c.H0 c.F0 H' F') : SR K c σ H' F' ρ where
  len := I.len
  st := s
  p0 := I.p0
  slot := fun i w e => by
    obtain ⟨v, h1, h2⟩ := I.slot i w e
    refine ⟨v, h1, ?_⟩
    cases w with
    | dat d => exact DR.mono m h2
    | own xs => cases n _ (List.mem_of_getElem? e)
    | raw _ => exact h2
    | pot => exact h2
  sep := fun i j xs ys v _ e => by cases n _ (List.mem_of_getElem? e)
def lcIn (vs1 : List Nat) (b1 : D → En → Option En) (t1 : En → M Bool) (el : En → M Wv) : List D → En → List D → M (List D)
  | [], _, acc => .ok acc
  | d :: ds, ρ, acc => match b1 d (wipeE ρ vs1) with
    | none => .bad
    | some ρ1 => t1 ρ1 >>= fun k => if k = true then el ρ1 >>= fun w => w.d >>= fun y => small acc.length (lcIn vs1 b1 t1 el ds ρ (acc ++ [y])) else lcIn vs1 b1 t1 el ds ρ acc
def lcOut (vs : List Nat) (b : D → En → Option En) (t : En → M Bool) (src1 : En → M (List D)) (vs1 : List Nat) (b1 : D → En → Option En) (t1 : En → M Bool) (el : En → M Wv) : List D → En → List D → M (List D)
  | [], _, acc => .ok acc
  | d :: ds, ρ, acc => match b d (wipeE ρ vs) with
    | none => .bad
    | some ρ1 => t ρ1 >>= fun k => if k = true then src1 ρ1 >>= fun es => lcIn vs1 b1 t1 el es ρ1 acc >>= fun acc' => lcOut vs b t src1 vs1 b1 t1 el ds ρ acc' else lcOut vs b t src1 vs1 b1 t1 el ds ρ acc
def lc2 (vs : List Nat) (src : En → M (List D)) (b : D → En → Option En) (t : En → M Bool) (src1 : En → M (List D)) (vs1 : List Nat) (b1 : D → En → Option En) (t1 : En → M Bool) (el : En → M Wv) (ρ : En) : M Wv := src ρ >>= fun ds => M.nox (lcOut vs b t src1 vs1 b1 t1 el ds (dropO ρ) []) >>= fun ys => .ok (.own ys)
structure Acc (K : PySem.W.Frag) (pi : Pot) (H1 F1 : Hp) (Dn : Addr) (H F : Hp) (acc : List V) (ys : List D) : Prop where
  st : Step pi H1 F1 H F
  at_ : H Dn = some (.lst acc)
  fr : F Dn = none
  it : DRs K F acc ys
section
variable {K : PySem.W.Frag} {mg : Str → Option Value} {pi : Pot} {c : Act} {Wx : WX} {σ : L2.St} {H F H' F' H1 F1 : Hp} {ρ : En} {Dn : Addr} {acc : List V} {ys : List D}
theorem Acc.step (a : Acc K pi H1 F1 Dn H F acc ys) (p1 : PotIn pi H1 F1) (hD : H1 Dn = none) (s : Step pi H F H' F') : Acc K pi H1 F1 Dn H' F' acc ys := by
  refine ⟨a.st.trans p1 s, s.same Dn _ (new_notPot p1 hD) a.at_, ?_, a.it.mono s.mono⟩
  cases z : F' Dn with
  | none => rfl
  | some o =>
    rcases s.new Dn o z with w | w
    · rw [a.fr] at w; cases w
    · rw [a.at_] at w; cases w
theorem Acc.push {v : V} {y : D} (a : Acc K pi H1 F1 Dn H F acc ys) (p1 : PotIn pi H1 F1) (hD : H1 Dn = none) (r : DR K F v y) : Acc K pi H1 F1 Dn (upd H Dn (.lst (acc ++ [v]))) F (acc ++ [v]) (ys ++ [y]) := by
  refine ⟨⟨a.st.mono, fun x o e => ?_, a.st.new, fun x o n e => ?_, fun p q e => ?_⟩, upd_same, a.fr, a.it.append (.cons r .nil)⟩
  · rw [upd_ne (ne_of_none e a.fr)]; exact a.st.le x o e
  · rw [upd_ne (ne_of_none e hD)]; exact a.st.same x o n e
  · obtain ⟨⟨i1, i2, i3, r1⟩, f, ns, r2, ne⟩ := a.st.pot p q e
    obtain ⟨⟨j1, j2, j3, r10⟩, f0, ns0, r20, ne0⟩ := p1 p q e
    exact ⟨⟨i1, i2, i3, by rw [upd_ne (ne_of_none r10 hD)]; exact r1⟩, f, ns, by rw [upd_ne (ne_of_none r20 hD)]; exact r2, ne⟩
theorem wipe_wipe {σ : L2.St} {vs : List Nat} : L2.wipe (L2.wipe σ vs) vs = L2.wipe σ vs := by
  apply List.ext_getElem?
  intro j
  rw [wipe_at, wipe_at]
  by_cases q : j ∈ vs
  · rw [if_pos q, if_pos q]; cases σ[j]? <;> rfl
  · rw [if_neg q, if_neg q]
theorem lc2_post {vs is vs1 is1 : List Nat} {src src1 : En → M (List D)} {b b1 : D → En → Option En} {t t1 : En → M Bool} {el : En → M Wv} (hv : ∀ i ∈ is, i ∈ vs) (hv1 : ∀ i ∈ is1, i ∈ vs1) (hb : Binder b) (hb1 : Binder b1) : ∀ σ H Q, Ev K mg c Wx (lc2 vs src b t src1 vs1 b1 t1 el) σ H Q →
    tLc2 (EvI K mg c Wx src) (EvG K c is b) (EvT K mg c Wx0 t) (EvI K mg c Wx0 src1) (EvG K c is1 b1) (EvT K mg c Wx0 t1) (Ev K mg c Wx0 el) vs vs1 σ H Q := fun σ H Q ⟨F, ρ, I, p⟩ => by
  refine ⟨F, ρ, I, M.post_mono p.bind (fun ds q H1 F1 s J hJ Dn hDn => ?_) fun e q => q⟩
  have I1 := (I.step s).dropO
  have n1 := noOwn_dropO ρ
  have sD := Step.layH (o := .lst []) I1.le I1.pot hDn
  have F1D : F1 Dn = none := by
    cases z : F1 Dn with
    | none => rfl
    | some o =>
      have := I1.le Dn o z
      rw [hDn] at this
      cases this
  have q0 := M.post_nox.mp (M.post_bind.mp q)
  have toTop : ∀ {Hx Fx : Hp} {ac : List V} {zs : List D}, Acc K c.pi H1 F1 Dn Hx Fx ac zs → Step c.pi c.H0 c.F0 Hx Fx := fun A => I1.st.trans I1.p0 A.st
  let G : List D → Prop := fun zs => ∀ v H2 F2, Step c.pi H1 F1 H2 F2 → Res K c.pi H H2 F2 v (.own zs) → Q v H2
  refine ⟨fun i n H' => n = ds.length - i ∧ i ≤ ds.length ∧ ∃ F' acc ys, Acc K c.pi H1 F1 Dn H' F' acc ys ∧ (lcOut vs b t src1 vs1 b1 t1 el (ds.drop i) (DL.dropO ρ) ys).post G fun _ => False,
    ⟨ds.length, by simp, Nat.zero_le _, F1, [], [], ⟨sD, upd_same, F1D, .nil⟩, M.post_mono q0 (fun zs h v H2 F2 s2 r => h H2 F2 (s.trans I.pot s2) v r) fun _ z => z.elim⟩, ?_⟩
  rintro i n H' ⟨rfl, hle, F', acc, ys, A, g⟩
  have I' := I1.step A.st
  obtain ⟨hgo, hstop⟩ := hJ i H' F' A.st.mono I'.le I'.pot
  by_cases hlt : i < ds.length
  · obtain ⟨d, e1, e2⟩ := drop_at hlt
    obtain ⟨go, yl⟩ := hgo d e1
    rw [e2, lcOut] at g
    refine .inr ⟨go, fun H2 => ∃ F2 acc2 ys2, Acc K c.pi H1 F1 Dn H2 F2 acc2 ys2 ∧ (lcOut vs b t src1 vs1 b1 t1 el (ds.drop (i + 1)) (DL.dropO ρ) ys2).post G fun _ => False,
      fun H2 ⟨F2, acc2, ys2, r⟩ => ⟨ds.length - (i + 1), by omega, rfl, hlt, F2, acc2, ys2, r⟩, fun x H2 y => ?_⟩
    obtain ⟨F2, s2, hd⟩ := yl x H2 y
    have A2 := A.step I1.pot hDn s2
    split at g
    · exact g.elim
    · rename_i ρ1 eb
      have nr1 := hb _ _ _ (n1.wipe vs) eb
      refine ⟨F2, wipeE (DL.dropO ρ) vs, d, (I'.step s2).wipe vs, hd, ρ1, eb, fun σ3 I3 hw => ⟨by rw [hw vs hv, wipe_wipe], F2, ρ1, I3, M.post_mono (M.post_bind.mp g) (fun k q H3 F3 s3 => ?_) fun _ z => z.elim⟩⟩
      have A3 := A2.step I1.pot hDn s3
      have I4 := I3.step s3
      cases k with
      | false =>
        rw [if_neg Bool.false_ne_true] at q
        exact iteF ⟨F3, acc, ys, A3, q⟩
      | true =>
        rw [if_pos rfl] at q
        refine iteT ⟨F3, ρ1, I4, M.post_mono (M.post_bind.mp q) (fun es q H4 F4 s4 J1 hJ1 => ?_) fun _ z => z.elim⟩
        have A4 := A3.step I1.pot hDn s4
        have I5 := I4.step s4
        let G1 : List D → Prop := fun acc' => (lcOut vs b t src1 vs1 b1 t1 el (ds.drop (i + 1)) (DL.dropO ρ) acc').post G fun _ => False
        refine ⟨fun j n H' => n = es.length - j ∧ j ≤ es.length ∧ ∃ F' acc ys, Acc K c.pi H1 F1 Dn H' F' acc ys ∧ Same F4 F' ∧ (lcIn vs1 b1 t1 el (es.drop j) ρ1 ys).post G1 fun _ => False,
          ⟨es.length, by simp, Nat.zero_le _, F4, acc, ys, A4, Same.refl F4, M.post_bind.mp q⟩, ?_⟩
        rintro j n Hj ⟨rfl, hlj, Fj, acj, ysj, Aj, mj, gj⟩
        have Ij := I5.stay nr1 mj (toTop Aj)
        obtain ⟨hgo1, hstop1⟩ := hJ1 j Hj Fj mj Ij.le Ij.pot
        by_cases hltj : j < es.length
        · obtain ⟨dj, f1, f2⟩ := drop_at hltj
          obtain ⟨go1, yl1⟩ := hgo1 dj f1
          rw [f2, lcIn] at gj
          refine .inr ⟨go1, fun H2 => ∃ F2 acc2 ys2, Acc K c.pi H1 F1 Dn H2 F2 acc2 ys2 ∧ Same F4 F2 ∧ (lcIn vs1 b1 t1 el (es.drop (j + 1)) ρ1 ys2).post G1 fun _ => False,
            fun H2 ⟨F2, acc2, ys2, r⟩ => ⟨es.length - (j + 1), by omega, rfl, hltj, F2, acc2, ys2, r⟩, fun x5 H5 y5 => ?_⟩
          obtain ⟨F5, s5, hd5⟩ := yl1 x5 H5 y5
          have A5 := Aj.step I1.pot hDn s5
          split at gj
          · exact gj.elim
          · rename_i ρ2 eb2
            refine ⟨F5, wipeE ρ1 vs1, dj, (Ij.step s5).wipe vs1, hd5, ρ2, eb2, fun σ6 I6 hw6 => ⟨by rw [hw6 vs1 hv1, wipe_wipe], F5, ρ2, I6, M.post_mono (M.post_bind.mp gj) (fun k6 q6 H6 F6 s6 => ?_) fun _ z => z.elim⟩⟩
            have A6 := A5.step I1.pot hDn s6
            have m6 : Same F4 F6 := (mj.trans s5.mono).trans s6.mono
            cases k6 with
            | false =>
              rw [if_neg Bool.false_ne_true] at q6
              exact iteF ⟨F6, acj, ysj, A6, m6, q6⟩
            | true =>
              rw [if_pos rfl] at q6
              refine iteT ⟨F6, ρ2, I6.step s6, M.post_mono (M.post_bind.mp q6) (fun w q7 H7 F7 s7 v rv => ?_) fun _ z => z.elim⟩
              obtain ⟨yd, ey, q7⟩ := d_ok q7
              obtain ⟨hz, q7⟩ := small_ok q7
              obtain ⟨F8, s8, m8, rd⟩ := Res.give (F0 := F6) rv ey (I6.step s6).pot s7
              have A8 := A6.step I1.pot hDn s8
              exact ⟨acj, A8.at_, by rw [A8.it.length]; exact hz, F8, acj ++ [v], ysj ++ [yd], A8.push I1.pot hDn rd, m6.trans s8.mono, q7⟩
        · have e : j = es.length := by omega
          rw [e, List.drop_length] at gj
          exact .inl ⟨hstop1 e, Fj, acj, ysj, Aj, gj⟩
  · have e : i = ds.length := by omega
    rw [e, List.drop_length] at g
    exact .inl ⟨hstop e, g (.ref Dn) H' F' A.st ⟨Dn, acc, rfl, A.at_, A.fr, s.none_of I.pot hDn, A.it⟩⟩
end
section
variable {X : Cx} {c : Act} {Wx : WX}
theorem de_lc2 {elt tg iter tg1 iter1 : Expr} {ifs ifs1 : List Expr} {scope : Scope} {own : List (Str × Nat)} {pos : Pos} {src src1 : En → M (List D)} {is is1 : List Nat} {b b1 : D → En → Option En} {t t1 : En → M Bool} {el : En → M Wv} (hc : X.calm = true) (hN : X.N.Nodup) (ok : BlkOk X.N X.env.scope scope own)
    (vs1 : List Nat) (hv1' : ∀ i ∈ vs1, i ∈ own.map (·.2)) (hi : DI X c Wx tg iter src) (hg : ∀ s H C cl fp, DG (Bk X scope s H C cl fp) c tg is b) (ht : ∀ s H C cl fp, DTs (Bk X scope s H C cl fp) c Wx0 ifs t)
    (hi1 : ∀ s H C cl fp, DI (Bk X scope s H C cl fp) c Wx0 tg1 iter1 src1) (hg1 : ∀ s H C cl fp, DG (Bk X scope s H C cl fp) c tg1 is1 b1) (ht1 : ∀ s H C cl fp, DTs (Bk X scope s H C cl fp) c Wx0 ifs1 t1) (he : ∀ s H C cl fp, DE (Bk X scope s H C cl fp) c Wx0 elt el)
    (hb : Binder b) (hb1 : Binder b1) (hv : ∀ i ∈ is, i ∈ own.map (·.2) := by decide) (hv1 : ∀ i ∈ is1, i ∈ vs1 := by decide)
    (hs : ∀ x, foldedSetIterable iter X.env x = pure x := by intro _; rfl) (hs1 : ∀ env x, foldedSetIterable iter1 env x = pure x := by intro _ _; rfl) :
    DE X c Wx (.ListComp elt [⟨tg, iter, ifs, 0⟩, ⟨tg1, iter1, ifs1, 0⟩] scope pos) (lc2 (own.map (·.2)) src b t src1 vs1 b1 t1 el) :=
  PE.imp (pe_lc2 hc hN hi ok hv1' hg ht hi1 hg1 ht1 he hs hs1) (lc2_post hv hv1 hb hb1)
end
end DL

namespace DL
open PySem PySem.Spec PyProof.Rows L2

/-! ## a def's promise, where nothing is being shown -/
structure FnG (P : Program) (w : World) (K : PySem.W.Frag) (mg : Str → Option Value) (base : Heap) (k : Nat) (f : Addr) (fd : FuncData) (ps : List Str) (sp : Sp) : Prop where
  len : ∀ vs H Q E, sp vs H Q E → vs.length = ps.length
  run : ∀ (A : Around) (out : List Env) (s : Shared) (H : Hp) (args : Args) (us : List Value) (vs : List V) (Q : VK) (E : XK), Room k A → A.guards = some [] → Env0 P w K mg base A out s H → BindsTo s fd args (ps.zip us) → Vals vs us → sp vs H Q E →
    codeAny (model P w) A (.call (.ref f) args) (CR (L2.CX P w) out P w H s Q E) s
section
variable {P : Program} {w : World} {K : PySem.W.Frag} {mg : Str → Option Value} {base : Heap} {k : Nat} {f : Addr} {fd : FuncData} {ps : List Str} {sp : Sp}
theorem FnG.of (F : FnOk P w K mg base (L2.CX P w) k f fd ps sp) : FnG P w K mg base k f fd ps sp := ⟨F.len, fun A out s H args us vs Q E hr _ => F.run A out s H args us vs Q E hr⟩
theorem FnG.up {j : Nat} (F : FnG P w K mg base j f fd ps sp) (h : j ≤ k) : FnG P w K mg base k f fd ps sp := ⟨F.len, fun A out s H args us vs Q E hr => F.run A out s H args us vs Q E (hr.mono h)⟩
end
/-- a def by its body, with what stands around told -/
theorem fnG_of {P : Program} {w : World} {K : PySem.W.Frag} {mg : Str → Option Value} {base : Heap} {k : Nat} {x qual : Str} {st : Stmt} {f : Addr} {fd : FuncData} {N ps : List Str} {sp : Sp} (Fx : Fun K x qual st f fd) (S : FnScope N ps (defScope st))
    (len : ∀ vs H Q E, sp vs H Q E → vs.length = ps.length)
    (body : ∀ (cd : Value) (A : Around) (out : List Env) (s : Shared) (H : Hp) (vs : List V) (Q : VK) (E : XK), Room k (A.deeper (envOfC qual (defScope st) s.heap.objs.size f cd)) → A.guards = some [] → sp vs H Q E →
      ∃ t, PSs (cxOf (L2.CX P w) P w K mg base N qual (defScope st) f cd A out s H E) (defBody st) t ∧ t { nx := fun _ H' => Q .non H', rt := Q } (L2.start N vs) H) : FnG P w K mg base (k + 1) f fd ps sp := by
  obtain ⟨oc, od, kV, doc, pm, an, cd, ct, osl, rfl, lk, hcd⟩ := Fx.ex
  refine ⟨len, fun A out s H args us vs Q E room guard e0 bound rel want => ?_⟩
  have nvs := len _ _ _ _ want
  have inK : K.In s.heap := e0.mod.kin.keeps fun b o e => (e0.bs b o e).1
  have nolim : s.heap.NoLimit := e0.mod.nolimit.keeps fun b o e => (e0.bs b o e).1
  have kinds : ∀ y ∈ ps.zip us, (defScope st).names.lookup y.1 = some .local ∨ ((defScope st).names.lookup y.1 = some .cell ∧ ((cellsFrom (s.heap.objs.size + 1) (defScope st).names []).lookup y.1).isSome = true) := by
    rintro ⟨n, v⟩ hy
    exact (S.par n (List.of_mem_zip hy).1).imp id fun q => ⟨q, PySem.W.cellsFrom_some _ _ _ (.inl q)⟩
  refine codeAny_call_function room.depth (inK _ _ lk) rfl S.co S.gen rfl (PySem.W.codeRec_of inK hcd) (bound _ _ _ _ ?_)
  refine wpAny_newFunctionEnv_cells S.kind kinds fun env he s1 x1 => ?_
  subst he
  refine ⟨nolim.keeps x1.toInCall.keep, codeAny_func ?_⟩
  obtain ⟨t, ht, hq⟩ := body cd A out s H vs Q E (room.deeper _) guard want
  have I := inv_start (CX := L2.CX P w) (E := E) S room.hd e0 nvs rel x1
  refine wpAny_mono (ht.run [] s1 (L2.start N vs) H _ I hq) (fun fl s' hs => ?_) fun e s' hs => hs
  cases fl with
  | ret u =>
    obtain ⟨v, σ', H', J, rv, q⟩ := hs
    exact ⟨v, H', J.os, J.bare, J.base, J.hok, rv, q⟩
  | next =>
    obtain ⟨σ', H', J, q⟩ := hs
    exact ⟨.non, H', J.os, J.bare, J.base, J.hok, rfl, q⟩
  | brk =>
    obtain ⟨_, _, _, q⟩ := hs
    exact q.elim
  | cont =>
    obtain ⟨_, _, _, q⟩ := hs
    exact q.elim
/-! a call of such a def -/
section
variable {X : Cx} {k : Nat} {f : Addr} {fd : FuncData} {ps : List Str} {sp : Sp} {Wx : WX} {x : Str} {p pos : Pos} {e : Expr} {es : List Expr} {t : TA}
theorem run_fnG {pins : List (Addr × Obj)} {σ : L2.St} {H : Hp} {s : Shared} {Q : VK} {us : List Value} {vs : List V} (F : FnG X.prog X.w X.K X.mg X.base k f fd ps sp) (room : Room k X.A) (guard : X.A.guards = some []) (hb : Binds X.K fd ps []) (tk : Takes X Wx)
    (I : Inv X pins σ H s) (r : Vals vs us) (h : sp vs H Q (WE Wx σ)) : wpAny (model X.prog X.w) X.A (call (.ref f) us) (EP X pins σ Q) X.xe s := by
  have b := hb s us I.kIn (by rw [List.append_nil, ← r.length]; exact F.len _ _ _ _ h)
  rw [List.append_nil] at b
  refine wpAny_call (codeAny_mono (F.run X.A X.stack s H ⟨us, []⟩ us vs Q _ room guard I.env0 b r h) fun rs s' hq => ?_)
  match rs, hq with
  | .error e, hq => exact passAt tk σ pins H s e s' I hq
  | .ok (.ret u), hq => exact I.after hq
  | .ok .next, hq => exact False.elim hq
  | .ok .brk, hq => exact False.elim hq
  | .ok .cont, hq => exact False.elim hq
theorem pe_callG (F : FnG X.prog X.w X.K X.mg X.base k f fd ps sp) (room : Room k X.A) (guard : X.A.guards = some []) (hg : Gl X x) (hm : X.mg x = some (.ref f)) (hk : PySem.W.keepIn X.K (.ref f) = true) (hb : Binds X.K fd ps []) (tk : Takes X Wx)
    (ha : PA X (e :: es) t) (hdb : (x == ("__debug__" : Str)) = false := by decide) (he : starEach (e :: es) X.env = (false, eval e X.env) :: starEach es X.env := by rfl) (hpl : (backTo pos (starEach es X.env)).any (·.1) = false := by rfl) :
    PE X (.Call (.Name x p) (e :: es) [] pos) (tCallS sp (WE Wx) t) := by
  refine ⟨fun pins s σ H Q I h => wpAny_Call_Name_kw (ld_glob I hg hm ?_ hdb)⟩
  exact PySem.W.callWith_K (h₀ := X.base) I.ok.mod.kin hk (thn (ha.run pos pins s σ H _ I h) fun us s1 ⟨vs, H1, I1, r, q⟩ => ⟨I1.kIn, run_fnG F room guard hb tk I1 r q⟩) he hpl
end

/-! ## a def's promise by its denotation -/
def spD (K : PySem.W.Frag) (mg : Str → Option Value) (n : Nat) (g : List Wv → M Wv) : Sp := fun vs H Q E => vs.length = n ∧ ∃ (pi : Pot) (F : Hp) (ws : List Wv), Same F H ∧ PotIn pi H F ∧ Gvs K pi F vs ws ∧
  (g ws).post (fun w => ∀ H' F', Step pi H F H' F' → ∀ v, Res K pi H H' F' v w → Q v H') fun e => ∀ cls d H' F', Step pi H F H' F' → XRes K mg H' F' cls d e → E cls d H'
structure Den (P : Program) (w : World) (K : PySem.W.Frag) (mg : Str → Option Value) (base : Heap) (k : Nat) (x : Str) (n : Nat) (g : List Wv → M Wv) : Prop where
  ex : ∃ f fd ps, mg x = some (.ref f) ∧ PySem.W.keepIn K (.ref f) = true ∧ Binds K fd ps [] ∧ ps.length = n ∧ FnG P w K mg base k f fd ps (spD K mg n g)
theorem Den.up {P : Program} {w : World} {K : PySem.W.Frag} {mg : Str → Option Value} {base : Heap} {j k : Nat} {x : Str} {n : Nat} {g : List Wv → M Wv} (h : Den P w K mg base j x n g) (l : j ≤ k) : Den P w K mg base k x n g := by
  obtain ⟨f, fd, ps, a, b, c, d, e⟩ := h.ex
  exact ⟨f, fd, ps, a, b, c, d, e.up l⟩
/-- another denotation, as good -/
theorem Den.as {P : Program} {w : World} {K : PySem.W.Frag} {mg : Str → Option Value} {base : Heap} {k : Nat} {x : Str} {n : Nat} {g g' : List Wv → M Wv} (h : Den P w K mg base k x n g) (e : ∀ ws, ws.length = n → g' ws = .bad ∨ g ws = g' ws) : Den P w K mg base k x n g' := by
  obtain ⟨f, fd, ps, a, b, c, d, F⟩ := h.ex
  refine ⟨f, fd, ps, a, b, c, d, ⟨fun vs H Q E z => z.1.trans d.symm, fun A out s H args us vs Q E r1 r2 r3 r4 r5 z => ?_⟩⟩
  obtain ⟨z1, pi, G, ws, z2, z3, z4, z5⟩ := z
  rcases e ws (by rw [← z4.length]; exact z1) with q | q
  · rw [q] at z5; exact z5.elim
  · exact F.run A out s H args us vs Q E r1 r2 r3 r4 r5 ⟨z1, pi, G, ws, z2, z3, z4, by rw [q]; exact z5⟩
section
variable {X : Cx} {c : Act} {Wx : WX} {k : Nat} {x : Str} {p pos : Pos} {e : Expr} {es : List Expr} {fs : En → M (List Wv)} {n : Nat} {g : List Wv → M Wv}
theorem de_call (G : Den X.prog X.w X.K X.mg X.base k x n g) (room : Room k X.A) (guard : X.A.guards = some []) (hg : Gl X x) (tk : Takes X Wx) (ha : DA X c Wx (e :: es) fs) (hn : (e :: es).length = n := by rfl)
    (hdb : (x == ("__debug__" : Str)) = false := by decide) (he : starEach (e :: es) X.env = (false, eval e X.env) :: starEach es X.env := by rfl) (hpl : (backTo pos (starEach es X.env)).any (·.1) = false := by rfl) :
    DE X c Wx (.Call (.Name x p) (e :: es) [] pos) (fun ρ => fs ρ >>= fun ws => if ws.length = n then g ws else .bad) := by
  obtain ⟨f, fd, ps, hm, hk, hb, hl, F⟩ := G.ex
  refine PE.imp (pe_callG (Wx := Wx) F room guard hg hm hk hb tk ha hdb he hpl) fun σ H Q ⟨F0, ρ, I, q⟩ => ea_split I q fun us xs H1 F1 I1 s1 g1 p1 => ?_
  split at p1
  · rename_i h
    exact ⟨g1.length.trans h, c.pi, F1, us, I1.le, I1.pot, g1, M.post_mono p1 (fun w z H' F' s2 v r => z H' F' s2 v (r.older I.pot s1)) fun e z => z⟩
  · exact p1.elim
end
/-- the slots at a def's entry -/
def startE (N : Nat) (ws : List Wv) : En := ws.map some ++ List.replicate (N - ws.length) none
def fin : Fl → M Wv
  | .ret w => .ok w
  | .nx _ => .ok (.dat .none)
  | _ => .bad
def body (N : Nat) (g : En → M Fl) (ws : List Wv) : M Wv := g (startE N ws) >>= fin
def isGiven : Wv → Bool
  | .own _ => false
  | _ => true
section
variable {P : Program} {w : World} {K : PySem.W.Frag} {mg : Str → Option Value} {base : Heap}
theorem Gvs.get {pi : Pot} {F : Hp} : ∀ {vs : List V} {ws : List Wv} {i : Nat} {u : Wv}, Gvs K pi F vs ws → ws[i]? = some u → ∃ v, vs[i]? = some v ∧ Gv K pi F v u
  | _, _, _, _, .nil, e => by simp at e
  | _, _, 0, _, .cons h _, e => by
    simp only [List.getElem?_cons_zero, Option.some.injEq] at e
    subst e
    exact ⟨_, rfl, h⟩
  | _, _, i + 1, _, .cons _ t, e => by
    simp only [List.getElem?_cons_succ] at e ⊢
    exact Gvs.get t e
theorem sr_start {pi : Pot} {H F : Hp} {vs : List V} {ws : List Wv} {N : List Str} (l : Same F H) (p : PotIn pi H F) (g : Gvs K pi F vs ws) : SR K ⟨pi, H, F⟩ (L2.start N vs) H F (startE N.length ws) where
  len := by unfold L2.start startE; simp [g.length]
  st := Step.refl l p
  p0 := p
  slot := fun i u e => by
    unfold startE at e
    by_cases hi : i < ws.length
    · rw [List.getElem?_append_left (by simpa using hi), List.getElem?_map] at e
      cases q : ws[i]? with
      | none => rw [q] at e; cases e
      | some z =>
        rw [q] at e
        cases e
        obtain ⟨v, h1, h2⟩ := g.get q
        refine ⟨v, ?_, h2.res⟩
        unfold L2.start
        rw [List.getElem?_append_left (by rw [List.length_map, g.length]; exact hi), List.getElem?_map, h1]
        rfl
    · rw [List.getElem?_append_right (by simpa using Nat.le_of_not_lt hi), List.getElem?_replicate] at e
      split at e <;> cases e
  sep := fun i j xs ys v _ e => by
    unfold startE at e
    by_cases hi : i < ws.length
    · rw [List.getElem?_append_left (by simpa using hi), List.getElem?_map] at e
      cases q : ws[i]? with
      | none => rw [q] at e; cases e
      | some z =>
        rw [q] at e
        cases e
        obtain ⟨v, h1, h2⟩ := g.get q
        exact h2.elim
    · rw [List.getElem?_append_right (by simpa using Nat.le_of_not_lt hi), List.getElem?_replicate] at e
      split at e <;> cases e
/-- what a def's body may lean on -/
structure At (X : Cx) (Wx : WX) (k : Nat) : Prop where
  room : Room k X.A
  guard : X.A.guards = some []
  tk : Takes X Wx
  own : PassesOwn (model X.prog X.w) X.A X.env X.xe
theorem den_of {k : Nat} {x qual : Str} {st : Stmt} {N ps : List Str} {g : En → M Fl} {f : Addr} {fd : FuncData} (hm : mg x = some (.ref f)) (Fx : Fun K x qual st f fd) (hb : Binds K fd ps []) (S : FnScope N ps (defScope st))
    (h : ∀ (cd : Value) (A : Around) (out : List Env) (s : Shared) (H : Hp) (E : XK) (c : Act), At (cxOf (L2.CX P w) P w K mg base N qual (defScope st) f cd A out s H E) (fun cls d _ H => E cls d H) k →
      DSs (cxOf (L2.CX P w) P w K mg base N qual (defScope st) f cd A out s H E) c (fun cls d _ H => E cls d H) (defBody st) g) : Den P w K mg base (k + 1) x ps.length (body N.length g) := by
  refine ⟨f, fd, ps, hm, Fx.kp, hb, rfl, fnG_of Fx S (fun vs H Q E z => z.1) fun cd A out s H vs Q E room guard z => ?_⟩
  obtain ⟨z1, pi, F, ws, l, p, gv, q⟩ := z
  refine ⟨_, h cd A out s H E ⟨pi, H, F⟩ ⟨room, guard, takes_of rfl rfl rfl rfl, passes_of rfl⟩, ?_⟩
  refine ⟨F, startE N.length ws, sr_start l p gv, M.post_mono (M.post_bind.mp q) (fun fl z => ?_) fun e z cls d σ' H' F' s1 x1 => z cls d H' F' s1 x1⟩
  cases fl with
  | ret w => exact fun v H' F' s1 r => z H' F' s1 v r
  | nx ρ => exact fun σ' H' F' I _ => z H' F' I.st .non .non
  | brk _ => exact z.elim
  | cont _ => exact z.elim
end
end DL

namespace DL
open PySem PySem.Spec PyProof.Rows L2

/-! ## data as the library reads it -/
section
variable {X : Cx} {pins : List (Addr × Obj)} {σ : L2.St} {H F : Hp} {s : Shared}

theorem pairs_read {P : Program} {w : World} : ∀ {en : List DictEntry} {vs : List (Key × Value)} {kvs : List (Key × V)}, Pairs (mixKind P w) en vs → KV kvs vs →
    (∀ h : Heap, ReadsAll h (en.map (·.key)) (kvs.map fun p => keyD p.1) []) ∧ Vals (kvs.map (·.2)) (en.map (·.val))
  | _, _, _, .nil, .nil => ⟨fun _ => .nil, .nil⟩
  | _, _, _, .cons h1 h2 p, .cons q t => by
    obtain ⟨i1, i2⟩ := pairs_read p t
    refine ⟨fun h => ?_, ?_⟩
    · simp only [List.map_cons]
      refine .cons (as := []) (bs := []) ?_ (i1 h)
      rw [q.1]
      rcases keyIs_shape h1 with ⟨i, tk, e1, e2⟩ | ⟨x, tk, e1, e2⟩
      · rw [e1, e2]; exact Reads.int i tk
      · rw [e1, e2]; exact Reads.str x tk
    · simp only [List.map_cons]
      exact .cons (by rw [h2]; exact q.2) i2
mutual
theorem DR.reads (I : Inv X pins σ H s) (l : Same F H) : ∀ {v : V} {d : D}, DR X.K F v d → ∀ (u : Value), RelV v u → ∃ as, Reads s.heap u d as ∧ ∀ a ∈ as, H a ≠ none
  | _, _, .non, _, r => by
    cases r
    exact ⟨_, Reads.none, fun _ h => by cases h⟩
  | _, _, .bl b, _, r => by
    cases r
    exact ⟨_, Reads.bool b, fun _ h => by cases h⟩
  | _, _, .int i, _, r => by
    obtain ⟨t, rfl⟩ := r
    exact ⟨_, Reads.int i t, fun _ h => by cases h⟩
  | _, _, .str x, _, r => by
    obtain ⟨t, rfl⟩ := r
    exact ⟨_, Reads.str x t, fun _ h => by cases h⟩
  | _, _, .lst hs ha, _, r => by
    cases r
    have hH := l _ _ hs
    obtain ⟨its, rv, ⟨o, n, ho, hc, _, hd⟩, _⟩ := I.list (SqL.of hH)
    obtain ⟨as, hr, hn⟩ := DRs.reads I l ha its rv
    refine ⟨_, Reads.list ho hc hd hr, fun a h => ?_⟩
    rcases List.mem_cons.mp h with rfl | h
    · rw [hH]; exact fun z => nomatch z
    · exact hn a h
  | _, _, .tup hs ha, _, r => by
    cases r
    obtain ⟨its, rv, ⟨o, ho, hc, n, hd⟩, _⟩ := I.tuple (sq_mono_t l hs)
    obtain ⟨as, hr, hn⟩ := DRs.reads I l ha its rv
    exact ⟨_, Reads.tuple ho hc hd hr, hn⟩
  | _, _, .dct hs hk ha, _, r => by
    cases r
    have hH := l _ _ hs
    obtain ⟨hz, hsy, vs, kv, o, en, ep, ho, ex, hd, _, pr, _⟩ := I.hok _ _ hH
    obtain ⟨k1, k2⟩ := pairs_read pr kv
    obtain ⟨as, hr, hn⟩ := DRs.reads I l ha _ k2
    refine ⟨_, Reads.dict ho ex.1 hd (by rw [hk]; exact k1 _) hr, fun a h => ?_⟩
    rcases List.mem_cons.mp h with rfl | h
    · rw [hH]; exact fun z => nomatch z
    · exact hn a (by simpa using h)
theorem DRs.reads (I : Inv X pins σ H s) (l : Same F H) : ∀ {vs : List V} {ds : List D}, DRs X.K F vs ds → ∀ (us : List Value), Vals vs us → ∃ as, ReadsAll s.heap us ds as ∧ ∀ a ∈ as, H a ≠ none
  | _, _, .nil, _, r => by
    cases r
    exact ⟨_, ReadsAll.nil, fun _ h => by cases h⟩
  | _, _, .cons h1 h2, _, r => by
    cases r with
    | cons r1 r2 =>
      obtain ⟨as, q1, n1⟩ := DR.reads I l h1 _ r1
      obtain ⟨bs, q2, n2⟩ := DRs.reads I l h2 _ r2
      exact ⟨_, ReadsAll.cons q1 q2, fun a h => (List.mem_append.mp h).elim (n1 a) (n2 a)⟩
end
end
end DL

namespace DL
open PySem PySem.Spec PyProof.Rows L2 SeqAt

/-! ## ==, !=, in, not in, < over data -/
def rEqF (K : PySem.W.Frag) (neg : Bool) : R2 := fun x y H Q => ∃ F d e, Same F H ∧ DR K F x d ∧ DR K F y e ∧ shaped d = true ∧ shaped e = true ∧ Q (.bl (if neg then !PyData.eqv d e else PyData.eqv d e)) H
section
variable {X : Cx}
theorem op_eqF (hu : X.A.units + 64 < cLine) : OpR X (compareOp .Eq) (rEqF X.K false) := by
  intro pins s σ H x y v u Q I rx ry h
  obtain ⟨F, d, e, l, hd, he, sd, se, q⟩ := h
  obtain ⟨as, r1, _⟩ := DR.reads I l hd v rx
  obtain ⟨bs, r2, _⟩ := DR.reads I l he u ry
  exact compareEq_shaped r1 r2 sd se hu ⟨.bl _, H, I, rfl, q⟩
theorem op_neF (hu : X.A.units + 64 < cLine) : OpR X (compareOp .NotEq) (rEqF X.K true) := by
  intro pins s σ H x y v u Q I rx ry h
  obtain ⟨F, d, e, l, hd, he, sd, se, q⟩ := h
  obtain ⟨as, r1, _⟩ := DR.reads I l hd v rx
  obtain ⟨bs, r2, _⟩ := DR.reads I l he u ry
  exact compareNe_shaped r1 r2 sd se hu ⟨.bl _, H, I, rfl, q⟩
def isIn (d : D) (xs : List D) : Bool := xs.any fun y => PyData.eqv y d
def rInF (K : PySem.W.Frag) (neg : Bool) : R2 := fun x y H Q => ∃ F d xs, Same F H ∧ DR K F x d ∧ (DR K F y (.list xs) ∨ DR K F y (.tuple xs)) ∧ shaped d = true ∧ PyData.canLayAll0 xs = true ∧ Q (.bl (if neg then !isIn d xs else isIn d xs)) H
theorem room_in {A : Around} {xs : List D} {d : D} (hd : shaped d = true) (hu : A.units + 65 < cLine) : A.units + 1 + min (PyData.depthAll xs) d.depth < cLine := room_in_shaped hd hu
theorem op_inF (hu : X.A.units + 65 < cLine) : OpR X (compareOp .In) (rInF X.K false) := by
  intro pins s σ H x y v u Q I rx ry h
  obtain ⟨F, d, xs, l, hd, he, sd, se, q⟩ := h
  obtain ⟨as, r1, _⟩ := DR.reads I l hd v rx
  rcases he with he | he
  · obtain ⟨bs, r2, _⟩ := DR.reads I l he u ry
    exact in_list_reads r2 r1 se (canLay_of_shaped sd) (room_in sd hu) ⟨.bl _, H, I, rfl, q⟩
  · obtain ⟨bs, r2, _⟩ := DR.reads I l he u ry
    exact in_tuple_reads r2 r1 se (canLay_of_shaped sd) (room_in sd hu) ⟨.bl _, H, I, rfl, q⟩
theorem op_notInF (hu : X.A.units + 65 < cLine) : OpR X (compareOp .NotIn) (rInF X.K true) := by
  intro pins s σ H x y v u Q I rx ry h
  obtain ⟨F, d, xs, l, hd, he, sd, se, q⟩ := h
  obtain ⟨as, r1, _⟩ := DR.reads I l hd v rx
  rcases he with he | he
  · obtain ⟨bs, r2, _⟩ := DR.reads I l he u ry
    exact notIn_list_reads r2 r1 se (canLay_of_shaped sd) (room_in sd hu) ⟨.bl _, H, I, rfl, q⟩
  · obtain ⟨bs, r2, _⟩ := DR.reads I l he u ry
    exact notIn_tuple_reads r2 r1 se (canLay_of_shaped sd) (room_in sd hu) ⟨.bl _, H, I, rfl, q⟩
def rLtF (K : PySem.W.Frag) : R2 := fun x y H Q => ∃ F d e, Same F H ∧ DR K F x d ∧ DR K F y e ∧ PySem.W.alike d e = true ∧ d ≠ .none ∧ d.depth ≤ 64 ∧ Q (.bl (PySem.W.dataLt d e)) H
theorem op_ltF (hu : X.A.units + 64 < cLine) : OpR X (compareOp .Lt) (rLtF X.K) := by
  intro pins s σ H x y v u Q I rx ry h
  obtain ⟨F, d, e, l, hd, he, al, dn, hz, q⟩ := h
  obtain ⟨as, r1, _⟩ := DR.reads I l hd v rx
  obtain ⟨bs, r2, _⟩ := DR.reads I l he u ry
  have z := PySem.W.rcLt_alike d e X.A s v u as bs r1 r2 al dn (by omega) X.prog X.w X.xe (EP X pins σ Q) ⟨.bl _, H, I, rfl, q⟩
  exact z
end
end DL

namespace DL
open PySem PySem.Spec PyProof.Rows L2 SeqAt
theorem tup_same (l : Addr) (items : Array Value) (n : Nat) (dd : Option Addr) (sl : Array (Option Value)) (x : Int) (u : Tok) (h0 : (decide (x < -(2 ^ 63)) || decide (x ≥ 2 ^ 63)) = false) (h1 : (items.isEmpty || x == 1) = true) :
    Meets (Builtin.«tuple.__mul__» ⟨[.ref l, .int x u], []⟩) (fun _ R s => s.heap.get? l = some { cls := .type "tuple", dict := dd, data := .seq items n, slots := sl } ∧ R (.ok (.ret (Value.ref l))) s) :=
  .of_wp fun prog w A R s h => by
    obtain ⟨hp, g, d, tk, os⟩ := s
    obtain ⟨at_, h⟩ := h
    have ix := AutoSeq1.idx_int
    wp_walk using wpAny_loadPart' at_
    refine wpAny_ite_false (decide_eq_false (by rw [h0]; exact Bool.false_ne_true)) ?_
    wp_walk using wpAny_loadPart' at_
    exact ⟨_, rfl, h⟩
def rRepS (K : PySem.W.Frag) : R2 := fun x y H Q => ∃ l k xs, x = .ref l ∧ y = .int k ∧ SqT K H l xs ∧ (xs = [] ∨ k = 1) ∧ -1000 ≤ k ∧ k ≤ 1000 ∧ Q (.ref l) H
theorem op_repS {X : Cx} : OpR X (binaryOp .Mult) (rRepS X.K) := by
  intro pins s σ H x y v u Q I rx ry h
  obtain ⟨l, k, xs, rfl, rfl, hT, hne, h1, h2, q⟩ := h
  cases rx
  obtain ⟨t, rfl⟩ := ry
  obtain ⟨its, r, ⟨⟨cls, dd, data, sl⟩, ho, hc, n, hd⟩, hs⟩ := I.tuple hT
  simp only at hc hd
  subst hc hd
  have c0 : (decide (k < -(2 ^ 63)) || decide (k ≥ 2 ^ 63)) = false := by
    rw [decide_eq_false (by omega), decide_eq_false (by omega)] <;> rfl
  have c1 : (its.toArray.isEmpty || k == 1) = true := by
    rcases hne with e | e
    · subst e
      have e2 : its = [] := List.eq_nil_of_length_eq_zero (by rw [← r.length]; rfl)
      subst e2
      rfl
    · subst e
      simp
  exact wpAny_binaryOp_repeat_ref (T := "tuple") (U := "int") (by decide) ⟨_, ho, rfl⟩ (fun s' => typeIs_int s' k t) noFill_tuple_mul F.fills_int_mul F.slot_int_rmul repeat_tuple F.slot_int_index.lookup
    (call_meets F.slot_int_rmul (typeIs_int s k t) F.entry_int_rmul (F.args_int_rmul_2 _ _) (int_rmul_tuple k t l its.toArray n dd sl)
      ⟨ho, rfl, ⟨_, ho, rfl⟩, call_meets F.slot_tuple_mul ⟨_, ho, rfl⟩ F.entry_tuple_mul (F.args_tuple_mul_2 _ _) (tup_same l its.toArray n dd sl k t c0 c1) ⟨ho, .ref l, H, I, rfl, q⟩⟩)

/-! ## operators over results -/
section
variable {K : PySem.W.Frag} {pi : Pot} {H F : Hp} {Q : VK} {E : Ex → Prop} {x y : V}
/-- the end's form -/
abbrev Fin (K : PySem.W.Frag) (pi : Pot) (H F : Hp) (Q : VK) (m : M Wv) (E : Ex → Prop) : Prop := m.post (fun z => ∀ H' F', Step pi H F H' F' → ∀ v, Res K pi H H' F' v z → Q v H') E
theorem Fin.val {w : Wv} {v : V} (h : Fin K pi H F Q (.ok w) E) (l : Same F H) (p : PotIn pi H F) (g : Gv K pi F v w) : Q v H := h H F (Step.refl l p) v g.res
theorem Fin.tup {ds : List D} {vs : List V} (h : Fin K pi H F Q (.ok (.dat (.tuple ds))) E) (l : Same F H) (p : PotIn pi H F) (hd : DRs K F vs ds) : ∀ a, H a = none → Q (.ref a) (upd H a (.tup vs)) := fun a ha =>
  h _ _ (Step.lay l p ha) (.ref a) (.tup (SqT.of upd_same) (hd.mono (Step.lay (o := .tup vs) l p ha).mono))
theorem none_F (l : Same F H) {a : Addr} (h : H a = none) : F a = none := by
  cases z : F a with
  | none => rfl
  | some o =>
    have := l a o z
    rw [h] at this
    cases this
theorem Fin.lst {ds : List D} {vs : List V} (h : Fin K pi H F Q (.ok (.own ds)) E) (l : Same F H) (p : PotIn pi H F) (hd : DRs K F vs ds) : ∀ a, H a = none → Q (.ref a) (upd H a (.lst vs)) := fun a ha =>
  h _ _ (Step.layH l p ha) (.ref a) ⟨a, vs, rfl, upd_same, none_F l ha, ha, hd⟩
theorem Gv.dat {d : D} (h : Gv K pi F x (.dat d)) : DR K F x d := h
end
def kB (m : M Bool) : M Wv := m >>= fun k => .ok (.dat (.bool k))
@[simp] theorem kB_ok (b : Bool) : kB (.ok b) = .ok (.dat (.bool b)) := rfl
def isStr : D → Bool
  | .str _ => true
  | _ => false
/-- a == b -/
def vEq (a b : D) : M Bool := if ((isStr a && isStr b) || (shaped a && shaped b)) = true then .ok (PyData.eqv a b) else .bad
theorem vEq_of {a b : D} (ha : shaped a = true) (hb : shaped b = true) : vEq a b = .ok (PyData.eqv a b) := by
  unfold vEq
  rw [if_pos (by simp [ha, hb])]
theorem vEq_str (x y : Str) : vEq (.str x) (.str y) = .ok (x == y) := by
  unfold vEq
  rw [if_pos (by simp [isStr])]
  simp [PyData.eqv]
def opEq (u w : Wv) : M Wv := u.d >>= fun a => w.d >>= fun b => kB (vEq a b)
def opNe (u w : Wv) : M Wv := u.d >>= fun a => w.d >>= fun b => kB (vEq a b >>= fun k => .ok (!k))
section
variable {K : PySem.W.Frag}
theorem gd {pi : Pot} {F : Hp} {x : V} {u : Wv} {α : Type} {k : D → M α} {Q : α → Prop} {E : Ex → Prop} (g : Gv K pi F x u) (h : (u.d >>= k).post Q E) : ∃ d, u = .dat d ∧ DR K F x d ∧ (k d).post Q E := by
  cases u with
  | dat d => exact ⟨d, rfl, g, h⟩
  | own _ => exact g.elim
  | raw _ => exact h.elim
  | pot => exact h.elim
theorem vEq_ok {a b : D} {α : Type} {k : Bool → M α} {Q : α → Prop} {E : Ex → Prop} (h : (vEq a b >>= k).post Q E) : ((∃ x y, a = .str x ∧ b = .str y) ∨ (shaped a = true ∧ shaped b = true)) ∧ (k (PyData.eqv a b)).post Q E := by
  unfold vEq at h
  split at h
  · rename_i c
    refine ⟨?_, h⟩
    rcases Bool.or_eq_true_iff.mp c with c | c
    · obtain ⟨c1, c2⟩ := Bool.and_eq_true_iff.mp c
      cases a <;> first | cases c1 | skip
      cases b <;> first | cases c2 | skip
      exact .inl ⟨_, _, rfl, rfl⟩
    · exact .inr (Bool.and_eq_true_iff.mp c)
  · exact h.elim
theorem ok_opEq : OpOk K (fun x y H Q => rEq x y H Q ∨ rEqF K false x y H Q) opEq := fun pi H F x y u w Q E l p g1 g2 h => by
  obtain ⟨a, rfl, h1, h⟩ := gd g1 h
  obtain ⟨b, rfl, h2, h⟩ := gd g2 h
  unfold kB at h
  obtain ⟨c, h⟩ := vEq_ok h
  have q := Fin.val (v := .bl (PyData.eqv a b)) h l p (.bl _)
  rcases c with ⟨z, z', rfl, rfl⟩ | ⟨c1, c2⟩
  · cases h1
    cases h2
    refine .inl ⟨rfl, ?_⟩
    have e : decide (V.str z = V.str z') = PyData.eqv (.str z) (.str z') := by
      rw [PyData.eqv]
      exact dec_str
    rw [e]
    exact q
  · exact .inr ⟨F, a, b, l, h1, h2, c1, c2, q⟩
theorem ok_opNe : OpOk K (fun x y H Q => rNe x y H Q ∨ rEqF K true x y H Q) opNe := fun pi H F x y u w Q E l p g1 g2 h => by
  obtain ⟨a, rfl, h1, h⟩ := gd g1 h
  obtain ⟨b, rfl, h2, h⟩ := gd g2 h
  unfold kB at h
  rw [M.bind_assoc'] at h
  obtain ⟨c, h⟩ := vEq_ok h
  have q := Fin.val (v := .bl (!PyData.eqv a b)) h l p (.bl _)
  rcases c with ⟨z, z', rfl, rfl⟩ | ⟨c1, c2⟩
  · cases h1
    cases h2
    refine .inl ⟨rfl, ?_⟩
    have e : (!decide (V.str z = V.str z')) = !PyData.eqv (.str z) (.str z') := by
      rw [PyData.eqv, dec_str]
    rw [e]
    exact q
  · exact .inr ⟨F, a, b, l, h1, h2, c1, c2, q⟩
/-- x in c -/
def itemsOf : D → Option (List D)
  | .list xs => some xs
  | .tuple xs => some xs
  | _ => none
def strIn (i j : Str) : Bool := !(Builtin.Str.occurrences j i 0 j.length 1).isEmpty
def vIn (a b : D) : M Bool := match a, b with
  | .str i, .str j => .ok (strIn i j)
  | a, .list xs => if (shaped a && PyData.canLayAll0 xs) = true then .ok (isIn a xs) else .bad
  | a, .tuple xs => if (shaped a && PyData.canLayAll0 xs) = true then .ok (isIn a xs) else .bad
  | _, _ => .bad
def opIn (u w : Wv) : M Wv := u.d >>= fun a => w.d >>= fun b => kB (vIn a b)
def opNotIn (u w : Wv) : M Wv := u.d >>= fun a => w.d >>= fun b => kB (vIn a b >>= fun k => .ok (!k))
theorem vIn_list {a : D} {xs : List D} (ha : shaped a = true) (hx : PyData.canLayAll0 xs = true) : vIn a (.list xs) = .ok (isIn a xs) := by
  unfold vIn
  split <;> simp_all
theorem vIn_tuple {a : D} {xs : List D} (ha : shaped a = true) (hx : PyData.canLayAll0 xs = true) : vIn a (.tuple xs) = .ok (isIn a xs) := by
  unfold vIn
  split <;> simp_all
theorem vIn_str (i j : Str) : vIn (.str i) (.str j) = .ok (strIn i j) := rfl
theorem vIn_ok {a b : D} {α : Type} {k : Bool → M α} {Q : α → Prop} {E : Ex → Prop} (h : (vIn a b >>= k).post Q E) : (∃ i j, a = .str i ∧ b = .str j ∧ (k (strIn i j)).post Q E) ∨
    ∃ xs, (b = .list xs ∨ b = .tuple xs) ∧ shaped a = true ∧ PyData.canLayAll0 xs = true ∧ (k (isIn a xs)).post Q E := by
  unfold vIn at h
  split at h
  · exact .inl ⟨_, _, rfl, rfl, h⟩
  · split at h
    · rename_i c
      obtain ⟨c1, c2⟩ := Bool.and_eq_true_iff.mp c
      exact .inr ⟨_, .inl rfl, c1, c2, h⟩
    · exact h.elim
  · split at h
    · rename_i c
      obtain ⟨c1, c2⟩ := Bool.and_eq_true_iff.mp c
      exact .inr ⟨_, .inr rfl, c1, c2, h⟩
    · exact h.elim
  · exact h.elim
abbrev rInS (neg : Bool) : R2 := fun x y H Q => ∃ i j, x = .str i ∧ y = .str j ∧ Q (.bl (if neg then !strIn i j else strIn i j)) H
theorem ok_opIn : OpOk K (fun x y H Q => rInS false x y H Q ∨ rInF K false x y H Q) opIn := fun pi H F x y u w Q E l p g1 g2 h => by
  obtain ⟨a, rfl, h1, h⟩ := gd g1 h
  obtain ⟨b, rfl, h2, h⟩ := gd g2 h
  unfold kB at h
  rcases vIn_ok h with ⟨i, j, rfl, rfl, h⟩ | ⟨xs, e, c1, c2, h⟩
  · cases h1
    cases h2
    exact .inl ⟨i, j, rfl, rfl, Fin.val h l p (.bl _)⟩
  · exact .inr ⟨F, a, xs, l, h1, e.imp (fun e => by rw [← e]; exact h2) (fun e => by rw [← e]; exact h2), c1, c2, Fin.val h l p (.bl _)⟩
theorem ok_opNotIn : OpOk K (fun x y H Q => rInS true x y H Q ∨ rInF K true x y H Q) opNotIn := fun pi H F x y u w Q E l p g1 g2 h => by
  obtain ⟨a, rfl, h1, h⟩ := gd g1 h
  obtain ⟨b, rfl, h2, h⟩ := gd g2 h
  unfold kB at h
  rw [M.bind_assoc'] at h
  rcases vIn_ok h with ⟨i, j, rfl, rfl, h⟩ | ⟨xs, e, c1, c2, h⟩
  · cases h1
    cases h2
    exact .inl ⟨i, j, rfl, rfl, Fin.val h l p (.bl _)⟩
  · exact .inr ⟨F, a, xs, l, h1, e.imp (fun e => by rw [← e]; exact h2) (fun e => by rw [← e]; exact h2), c1, c2, Fin.val h l p (.bl _)⟩
/-- a < b and its kin -/
def vLt (a b : D) : M Bool := match a, b with
  | .int i, .int j => .ok (decide (i < j))
  | .str i, .str j => .ok (decide (i.cps.toList < j.cps.toList))
  | .tuple xs, .tuple ys => if (PySem.W.alikeAll xs ys && decide ((PyData.tuple xs).depth ≤ 64)) = true then .ok (PySem.W.dataLt (.tuple xs) (.tuple ys)) else .bad
  | .list xs, .list ys => if (PySem.W.alikeAll xs ys && decide ((PyData.list xs).depth ≤ 64)) = true then .ok (PySem.W.dataLt (.list xs) (.list ys)) else .bad
  | _, _ => .bad
def opLt (u w : Wv) : M Wv := u.d >>= fun a => w.d >>= fun b => kB (vLt a b)
theorem ok_opLt : OpOk K (fun x y H Q => rI0 (fun i j => .bl (decide (i < j))) x y H Q ∨ (∃ i j, x = .str i ∧ y = .str j ∧ Q (.bl (decide (i.cps.toList < j.cps.toList))) H) ∨ rLtF K x y H Q) opLt := fun pi H F x y u w Q E l p g1 g2 h => by
  obtain ⟨a, rfl, h1, h⟩ := gd g1 h
  obtain ⟨b, rfl, h2, h⟩ := gd g2 h
  unfold kB vLt at h
  split at h
  · cases h1
    cases h2
    exact .inl ⟨_, _, rfl, rfl, Fin.val h l p (.bl _)⟩
  · cases h1
    cases h2
    exact .inr (.inl ⟨_, _, rfl, rfl, Fin.val h l p (.bl _)⟩)
  · split at h
    · rename_i c
      obtain ⟨c1, c2⟩ := Bool.and_eq_true_iff.mp c
      exact .inr (.inr ⟨F, _, _, l, h1, h2, by rw [PySem.W.alike]; exact c1, (fun z => by cases z), of_decide_eq_true c2, Fin.val h l p (.bl _)⟩)
    · exact h.elim
  · split at h
    · rename_i c
      obtain ⟨c1, c2⟩ := Bool.and_eq_true_iff.mp c
      exact .inr (.inr ⟨F, _, _, l, h1, h2, by rw [PySem.W.alike]; exact c1, (fun z => by cases z), of_decide_eq_true c2, Fin.val h l p (.bl _)⟩)
    · exact h.elim
  · exact h.elim
/-- two ints -/
def i2 (g : Int → Int → M D) (u w : Wv) : M Wv := match u, w with
  | .dat (.int i), .dat (.int j) => g i j >>= fun d => .ok (.dat d)
  | _, _ => .bad
theorem i2_ok {pi : Pot} {F : Hp} {x y : V} {u w : Wv} {g : Int → Int → M D} {Q : Wv → Prop} {E : Ex → Prop} (g1 : Gv K pi F x u) (g2 : Gv K pi F y w) (h : (i2 g u w).post Q E) : ∃ i j, x = .int i ∧ y = .int j ∧ (g i j >>= fun d => .ok (.dat d)).post Q E := by
  unfold i2 at h
  split at h
  · rename_i i j
    have h1 : DR K F x (.int i) := g1
    have h2 : DR K F y (.int j) := g2
    cases h1
    cases h2
    exact ⟨i, j, rfl, rfl, h⟩
  · exact h.elim
abbrev iB (p : Int → Int → Bool) : Wv → Wv → M Wv := i2 fun i j => .ok (.bool (p i j))
abbrev iI (p : Int → Int → Int) : Wv → Wv → M Wv := i2 fun i j => .ok (.int (p i j))
theorem ok_iB {p : Int → Int → Bool} : OpOk K (rI0 fun i j => .bl (p i j)) (iB p) := fun pi H F x y u w Q E l pp g1 g2 h => by
  obtain ⟨i, j, rfl, rfl, h⟩ := i2_ok g1 g2 h
  exact ⟨i, j, rfl, rfl, Fin.val h l pp (.bl _)⟩
theorem ok_iI {p : Int → Int → Int} : OpOk K (rI0 fun i j => .int (p i j)) (iI p) := fun pi H F x y u w Q E l pp g1 g2 h => by
  obtain ⟨i, j, rfl, rfl, h⟩ := i2_ok g1 g2 h
  exact ⟨i, j, rfl, rfl, Fin.val h l pp (.int _)⟩
abbrev opLe : Wv → Wv → M Wv := iB fun i j => decide (i ≤ j)
abbrev opGt : Wv → Wv → M Wv := iB fun i j => decide (j < i)
abbrev opGe : Wv → Wv → M Wv := iB fun i j => decide (j ≤ i)
abbrev opSub : Wv → Wv → M Wv := iI fun i j => i - j
/-- under a condition -/
theorem ok_iC {C : Int → Int → Prop} {g : Int → Int → Int} {f : Int → Int → M D} (hf : ∀ i j (Q : D → Prop) (E : Ex → Prop), (f i j).post Q E → C i j ∧ Q (.int (g i j))) : OpOk K (rI C fun i j => .int (g i j)) (i2 f) := fun pi H F x y u w Q E l pp g1 g2 h => by
  obtain ⟨i, j, rfl, rfl, h⟩ := i2_ok g1 g2 h
  obtain ⟨c, q⟩ := hf i j _ _ (M.post_bind.mp h)
  exact ⟨i, j, rfl, rfl, c, Fin.val (w := .dat (.int (g i j))) q l pp (.int _)⟩
def ckd (c : Bool) (d : D) : M D := if c = true then .ok d else .bad
@[simp] theorem ckd_true (d : D) : ckd true d = .ok d := rfl
theorem ckd_ok {c : Bool} {d : D} {Q : D → Prop} {E : Ex → Prop} (h : (ckd c d).post Q E) : c = true ∧ Q d := by
  unfold ckd at h
  split at h
  · rename_i e; exact ⟨e, h⟩
  · exact h.elim
def opMod : Wv → Wv → M Wv := i2 fun i j => ckd (decide (0 < j)) (.int (i % j))
theorem ok_opMod : OpOk K (rI (fun _ j => 0 < j) fun i j => .int (i % j)) opMod := ok_iC fun i j Q E h => by
  obtain ⟨c, q⟩ := ckd_ok h
  exact ⟨of_decide_eq_true c, q⟩
def opFdiv : Wv → Wv → M Wv := i2 fun i j => ckd (decide (0 < j) && decide (j < 1073741824)) (.int (i / j))
theorem ok_opFdiv : OpOk K (rI CDiv fun i j => .int (i / j)) opFdiv := ok_iC fun i j Q E h => by
  obtain ⟨c, q⟩ := ckd_ok h
  obtain ⟨c1, c2⟩ := Bool.and_eq_true_iff.mp c
  exact ⟨⟨of_decide_eq_true c1, of_decide_eq_true c2⟩, q⟩
def opPow : Wv → Wv → M Wv := i2 fun i j => ckd (decide (0 ≤ j ∧ j ≤ 1000 ∧ i.natAbs < 1000)) (.int (i ^ j.toNat))
theorem ok_opPow : OpOk K (rI CPow fun i j => .int (i ^ j.toNat)) opPow := ok_iC fun i j Q E h => by
  obtain ⟨c, q⟩ := ckd_ok h
  have c := of_decide_eq_true c
  exact ⟨⟨c.1, by omega, by omega⟩, q⟩
def opShl : Wv → Wv → M Wv := i2 fun i j => ckd (decide (0 ≤ j ∧ j ≤ 1000 ∧ i.natAbs < 1000)) (.int (i * 2 ^ j.toNat))
theorem ok_opShl : OpOk K (rI CPow fun i j => .int (i * 2 ^ j.toNat)) opShl := ok_iC fun i j Q E h => by
  obtain ⟨c, q⟩ := ckd_ok h
  have c := of_decide_eq_true c
  exact ⟨⟨c.1, by omega, by omega⟩, q⟩
/-- a + b -/
def vAdd (a b : D) : M Wv := match a, b with
  | .int i, .int j => .ok (.dat (.int (i + j)))
  | .str i, .str j => small (i.length + j.length) (.ok (.dat (.str (i ++ j))))
  | .list xs, .list ys => small (xs.length + ys.length) (.ok (.own (xs ++ ys)))
  | .tuple xs, .tuple ys => small (xs.length + ys.length) (.ok (.dat (.tuple (xs ++ ys))))
  | _, _ => .bad
def opAdd (u w : Wv) : M Wv := u.d >>= fun a => w.d >>= fun b => vAdd a b
abbrev rAddS : R2 := fun x y H Q => ∃ i j, x = .str i ∧ y = .str j ∧ i.length + j.length ≤ sizeLine ∧ Q (.str (i ++ j)) H
theorem DRs.nil_iff {F : Hp} {vs : List V} {ds : List D} (h : DRs K F vs ds) : vs = [] ↔ ds = [] := by cases h <;> simp
theorem ok_opAdd : OpOk K (fun x y H Q => rI0 (fun i j => .int (i + j)) x y H Q ∨ rAddS x y H Q ∨ rCat x y H Q ∨ rCatA K x y H Q) opAdd := fun pi H F x y u w Q E l p g1 g2 h => by
  obtain ⟨a, rfl, h1, h⟩ := gd g1 h
  obtain ⟨b, rfl, h2, h⟩ := gd g2 h
  unfold vAdd at h
  split at h
  · cases h1
    cases h2
    exact .inl ⟨_, _, rfl, rfl, Fin.val h l p (.int _)⟩
  · cases h1
    cases h2
    obtain ⟨hz, h⟩ := small_ok h
    exact .inr (.inl ⟨_, _, rfl, rfl, Nat.le_of_lt hz, Fin.val h l p (.str _)⟩)
  · obtain ⟨hz, h⟩ := small_ok h
    cases h1 with
    | lst s1 r1 =>
      cases h2 with
      | lst s2 r2 => exact .inr (.inr (.inl ⟨_, _, _, _, rfl, rfl, l _ _ s1, l _ _ s2, by rw [r1.length, r2.length]; exact Nat.le_of_lt hz, Fin.lst h l p (r1.append r2)⟩))
  · obtain ⟨hz, h⟩ := small_ok h
    cases h1 with
    | tup s1 r1 =>
      cases h2 with
      | tup s2 r2 =>
        refine .inr (.inr (.inr ⟨_, _, _, _, rfl, rfl, sq_mono_t l s1, sq_mono_t l s2, by rw [r1.length, r2.length]; exact Nat.le_of_lt hz, fun e => ?_, fun _ e => ?_, fun _ _ => Fin.tup h l p (r1.append r2)⟩))
        · have e1 := r1.nil_iff.mp e
          subst e1
          exact Fin.val h l p (.tup s2 r2)
        · have e1 := r2.nil_iff.mp e
          subst e1
          rw [List.append_nil] at h
          exact Fin.val h l p (.tup s1 r1)
  · exact h.elim
/-- a * b -/
def vMul (a b : D) : M Wv := match a, b with
  | .int i, .int j => if (-(2 ^ 64) < i ∧ i < 2 ^ 64) ∨ (-(2 ^ 64) < j ∧ j < 2 ^ 64) then .ok (.dat (.int (i * j))) else .bad
  | .list xs, .int k => if 0 ≤ k ∧ k ≤ 1000 then small (xs.length * k.toNat) (.ok (.own (List.replicate k.toNat xs).flatten)) else .bad
  | .tuple xs, .int k => if 1 ≤ k ∧ k ≤ 1000 ∧ xs.length ≤ 1000 then .ok (.dat (.tuple (List.replicate k.toNat xs).flatten)) else .bad
  | _, _ => .bad
def opMul (u w : Wv) : M Wv := u.d >>= fun a => w.d >>= fun b => vMul a b
theorem DRs.rep {F : Hp} {vs : List V} {ds : List D} (h : DRs K F vs ds) : ∀ n : Nat, DRs K F (List.replicate n vs).flatten (List.replicate n ds).flatten
  | 0 => .nil
  | n + 1 => by
    simp only [List.replicate_succ, List.flatten_cons]
    exact h.append (DRs.rep h n)
theorem ok_opMul : OpOk K (fun x y H Q => (rI CMul (fun i j => .int (i * j)) x y H Q ∨ rRep x y H Q) ∨ rRepT K x y H Q ∨ rRepS K x y H Q) opMul := fun pi H F x y u w Q E l p g1 g2 h => by
  obtain ⟨a, rfl, h1, h⟩ := gd g1 h
  obtain ⟨b, rfl, h2, h⟩ := gd g2 h
  unfold vMul at h
  split at h
  · cases h1
    cases h2
    split at h
    · rename_i c
      exact .inl (.inl ⟨_, _, rfl, rfl, c, Fin.val h l p (.int _)⟩)
    · exact h.elim
  · cases h2
    split at h
    · rename_i c
      obtain ⟨hz, h⟩ := small_ok h
      cases h1 with
      | lst s1 r1 => exact .inl (.inr ⟨_, _, _, rfl, rfl, l _ _ s1, by omega, by omega, by rw [r1.length]; exact Nat.le_of_lt hz, Fin.lst h l p (r1.rep _)⟩)
    · exact h.elim
  · rename_i xs k _ _
    cases h2
    split at h
    · rename_i c
      cases h1 with
      | tup s1 r1 =>
        have s2 := sq_mono_t l s1
        by_cases hk : k = 1
        · subst hk
          refine .inr (.inr ⟨_, _, _, rfl, rfl, s2, .inr rfl, by omega, by omega, ?_⟩)
          refine Fin.val h l p (.tup s1 ?_)
          simpa using r1
        · by_cases hx : xs = []
          · subst hx
            cases r1
            refine .inr (.inr ⟨_, _, _, rfl, rfl, s2, .inl rfl, by omega, by omega, ?_⟩)
            refine Fin.val h l p (.tup s1 ?_)
            rw [show (List.replicate k.toNat ([] : List D)).flatten = [] by simp]
            exact .nil
          · refine .inr (.inl ⟨_, _, _, rfl, rfl, s2, fun e => hx ?_, by omega, by omega, by rw [r1.length]; omega, ?_⟩)
            · subst e
              cases r1
              rfl
            · exact Fin.tup h l p (r1.rep _)
    · exact h.elim
  · exact h.elim
/-- is None -/
def isNon : D → Bool
  | .none => true
  | _ => false
def opIsN (u w : Wv) : M Wv := match w with
  | .dat .none => u.d >>= fun a => .ok (.dat (.bool (isNon a)))
  | _ => .bad
def opNotN (u w : Wv) : M Wv := match w with
  | .dat .none => u.d >>= fun a => .ok (.dat (.bool (!isNon a)))
  | _ => .bad
theorem dr_none {F : Hp} {x : V} {d : D} (h : DR K F x d) : decide (x = .non) = isNon d := by cases h <;> rfl
theorem ok_opIsN : OpOk K (fun x y H Q => y = .non ∧ Q (.bl (decide (x = .non))) H) opIsN := fun pi H F x y u w Q E l p g1 g2 h => by
  unfold opIsN at h
  split at h
  · obtain ⟨a, rfl, h1, h⟩ := gd g1 h
    have g2' : DR K F y .none := g2
    cases g2'
    refine ⟨rfl, ?_⟩
    rw [dr_none h1]
    exact Fin.val h l p (.bl _)
  · exact h.elim
theorem ok_opNotN : OpOk K (fun x y H Q => y = .non ∧ Q (.bl (!decide (x = .non))) H) opNotN := fun pi H F x y u w Q E l p g1 g2 h => by
  unfold opNotN at h
  split at h
  · obtain ⟨a, rfl, h1, h⟩ := gd g1 h
    have g2' : DR K F y .none := g2
    cases g2'
    refine ⟨rfl, ?_⟩
    rw [dr_none h1]
    exact Fin.val h l p (.bl _)
  · exact h.elim
/-- xs[i] -/
def vIx (a b : D) : M Wv := match a, b with
  | .list xs, .int i => (match atI xs i with | some d => .ok (.dat d) | none => .bad)
  | .tuple xs, .int i => (match atI xs i with | some d => .ok (.dat d) | none => .bad)
  | .str z, .int i => small z.length (match atI z.cps.toList i with | some c => .ok (.dat (.str ⟨#[c]⟩)) | none => .bad)
  | _, _ => .bad
def opIx (u w : Wv) : M Wv := u.d >>= fun a => w.d >>= fun b => vIx a b
theorem DRs.atI {F : Hp} {vs : List V} {ds : List D} {i : Int} {d : D} (h : DRs K F vs ds) (e : L2.atI ds i = some d) : ∃ v, L2.atI vs i = some v ∧ DR K F v d := by
  unfold L2.atI at e ⊢
  rw [h.length]
  cases q : ixN ds.length i with
  | none => rw [q] at e; cases e
  | some j =>
    rw [q] at e
    exact h.get e
theorem ok_opIx : OpOk K (rIx K) opIx := fun pi H F x y u w Q E l p g1 g2 h => by
  obtain ⟨a, rfl, h1, h⟩ := gd g1 h
  obtain ⟨b, rfl, h2, h⟩ := gd g2 h
  unfold vIx at h
  split at h
  · cases h2
    split at h
    · rename_i d e
      cases h1 with
      | lst s1 r1 =>
        obtain ⟨v, e2, r⟩ := r1.atI e
        exact .inl ⟨_, _, _, v, rfl, rfl, SqL.of (l _ _ s1), e2, Fin.val (w := .dat d) h l p r⟩
    · exact h.elim
  · cases h2
    split at h
    · rename_i d e
      cases h1 with
      | tup s1 r1 =>
        obtain ⟨v, e2, r⟩ := r1.atI e
        exact .inr (.inl ⟨_, _, _, v, rfl, rfl, sq_mono_t l s1, e2, Fin.val (w := .dat d) h l p r⟩)
    · exact h.elim
  · cases h2
    cases h1
    obtain ⟨hz, h⟩ := small_ok h
    split at h
    · rename_i ch e
      exact .inr (.inr ⟨_, _, ch, rfl, rfl, Nat.le_of_lt hz, e, Fin.val (w := .dat (.str ⟨#[ch]⟩)) h l p (.str _)⟩)
    · exact h.elim
  · exact h.elim
end
end DL

namespace DL
open PySem PySem.Spec PyProof.Rows L2 SeqAt

/-! ## builtins over results -/
def f1 (g : D → M Wv) (ws : List Wv) : M Wv := match ws with
  | [u] => u.d >>= g
  | _ => .bad
def f2 (g : D → D → M Wv) (ws : List Wv) : M Wv := match ws with
  | [u, w] => u.d >>= fun a => w.d >>= fun b => g a b
  | _ => .bad
section
variable {K : PySem.W.Frag} {pi : Pot} {H F : Hp} {Q : VK} {E : Ex → Prop}
theorem f1_ok {g : D → M Wv} {xs : List V} {us : List Wv} {Q : Wv → Prop} (gs : Gvs K pi F xs us) (h : (f1 g us).post Q E) : ∃ x d, xs = [x] ∧ DR K F x d ∧ (g d).post Q E := by
  unfold f1 at h
  split at h
  · cases gs with
    | cons g1 t =>
      cases t
      obtain ⟨d, rfl, hd, h⟩ := gd g1 h
      exact ⟨_, d, rfl, hd, h⟩
  · exact h.elim
theorem f2_ok {g : D → D → M Wv} {xs : List V} {us : List Wv} {Q : Wv → Prop} (gs : Gvs K pi F xs us) (h : (f2 g us).post Q E) : ∃ x y d e, xs = [x, y] ∧ DR K F x d ∧ DR K F y e ∧ (g d e).post Q E := by
  unfold f2 at h
  split at h
  · cases gs with
    | cons g1 t =>
      cases t with
      | cons g2 t =>
        cases t
        obtain ⟨d, rfl, hd, h⟩ := gd g1 h
        obtain ⟨e, rfl, he, h⟩ := gd g2 h
        exact ⟨_, _, d, e, rfl, hd, he, h⟩
  · exact h.elim
/-- len -/
def vLen : D → M Wv
  | .list xs => .ok (.dat (.int xs.length))
  | .tuple xs => .ok (.dat (.int xs.length))
  | .str z => small z.length (.ok (.dat (.int z.length)))
  | _ => .bad
theorem ok_len : CbOk K (fun xs H Q => ∃ x n, xs = [x] ∧ LenV K x H n ∧ Q (.int n) H) (f1 vLen) := fun pi H F xs us Q E l p gs h => by
  obtain ⟨x, d, rfl, hd, h⟩ := f1_ok gs h
  refine ⟨x, ?_⟩
  unfold vLen at h
  split at h
  · cases hd with
    | lst s r => exact ⟨_, rfl, .inl ⟨_, SqL.of (l _ _ s), rfl⟩, by rw [r.length]; exact Fin.val h l p (.int _)⟩
  · cases hd with
    | tup s r => exact ⟨_, rfl, .inr ⟨_, sq_mono_t l s, rfl⟩, by rw [r.length]; exact Fin.val h l p (.int _)⟩
  · cases hd
    obtain ⟨hz, h⟩ := small_ok h
    exact ⟨_, rfl, ⟨Nat.le_of_lt hz, rfl⟩, Fin.val h l p (.int _)⟩
  · exact h.elim
/-- isinstance -/
def tyN : D → String
  | .none => "NoneType"
  | .bool _ => "bool"
  | .int _ => "int"
  | .str _ => "str"
  | .list _ => "list"
  | .tuple _ => "tuple"
  | .dict _ => "dict"
def opIsi (n : String) (ws : List Wv) : M Wv := match ws with
  | [u, .raw (.ty m)] => if m = n then u.d >>= fun d => (match kitB (tyN d) n with | some b => .ok (.dat (.bool b)) | none => .bad) else .bad
  | _ => .bad
theorem dr_ty {x : V} {d : D} (l : Same F H) (h : DR K F x d) : TyX K H x (.type (tyN d)) := by
  cases h with
  | non => exact .base .non
  | bl b => exact .base (.bl b)
  | int i => exact .base (.int i)
  | str x => exact .base (.str x)
  | lst s r => exact .base (.lst (l _ _ s))
  | tup s r =>
    rcases sq_mono_t l s with (q | ⟨o, q⟩) | ⟨o, its, n, q, c, _⟩
    · exact .base (.tup q)
    · exact .fTuple q
    · exact .kTuple q c
  | dct s r => exact .base (.dK (l _ _ s))
theorem ok_isi (n : String) : CbOk K (rIsi K) (opIsi n) := fun pi H F xs us Q E l p gs h => by
  unfold opIsi at h
  split at h
  · split at h
    · rename_i e
      subst e
      cases gs with
      | cons g1 t =>
        cases t with
        | cons g2 t =>
          cases t
          obtain ⟨d, rfl, hd, h⟩ := gd g1 h
          have g2' : _ = V.ty _ := g2
          subst g2'
          split at h
          · rename_i b eb
            exact ⟨_, _, _, _, b, rfl, .ty _, dr_ty l hd, kit_ty eb, Fin.val h l p (.bl _)⟩
          · exact h.elim
    · exact h.elim
  · exact h.elim
/-- all, any of True and False -/
def bools : List D → Option (List Bool)
  | [] => some []
  | .bool b :: ds => (bools ds).map (b :: ·)
  | _ :: _ => none
theorem bools_ok : ∀ {ds : List D} {vs : List V} {bs : List Bool}, DRs K F vs ds → bools ds = some bs → vs = bs.map V.bl
  | [], _, _, h, e => by
    cases h; cases e; rfl
  | d :: ds, _, bs, h, e => by
    cases h with
    | cons h1 h2 =>
      cases d <;> first | (simp only [bools] at e; cases e; done) | skip
      rename_i b
      simp only [bools] at e
      cases q : bools ds with
      | none => rw [q] at e; cases e
      | some cs =>
        rw [q] at e
        cases e
        cases h1
        rw [bools_ok h2 q]
        rfl
def vAll : D → M Wv
  | .list ds => (match bools ds with | some bs => .ok (.dat (.bool (bs.all id))) | none => .bad)
  | _ => .bad
def vAny : D → M Wv
  | .list ds => (match bools ds with | some bs => .ok (.dat (.bool (bs.any id))) | none => .bad)
  | _ => .bad
theorem ok_all : CbOk K (rAll K) (f1 vAll) := fun pi H F xs us Q E l p gs h => by
  obtain ⟨x, d, rfl, hd, h⟩ := f1_ok gs h
  unfold vAll at h
  split at h
  · split at h
    · rename_i bs e
      cases hd with
      | lst s r => exact ⟨_, bs, rfl, SqL.of (by rw [← bools_ok r e]; exact l _ _ s), Fin.val h l p (.bl _)⟩
    · exact h.elim
  · exact h.elim
theorem ok_any : CbOk K (rAny K) (f1 vAny) := fun pi H F xs us Q E l p gs h => by
  obtain ⟨x, d, rfl, hd, h⟩ := f1_ok gs h
  unfold vAny at h
  split at h
  · split at h
    · rename_i bs e
      cases hd with
      | lst s r => exact ⟨_, bs, rfl, SqL.of (by rw [← bools_ok r e]; exact l _ _ s), Fin.val h l p (.bl _)⟩
    · exact h.elim
  · exact h.elim
def intsO : List D → Option (List Int)
  | [] => some []
  | .int b :: ds => (intsO ds).map (b :: ·)
  | _ :: _ => none
theorem intsO_ok : ∀ {ds : List D} {vs : List V} {bs : List Int}, DRs K F vs ds → intsO ds = some bs → vs = bs.map V.int
  | [], _, _, h, e => by
    cases h; cases e; rfl
  | d :: ds, _, bs, h, e => by
    cases h with
    | cons h1 h2 =>
      cases d <;> first | (simp only [intsO] at e; cases e; done) | skip
      rename_i b
      simp only [intsO] at e
      cases q : intsO ds with
      | none => rw [q] at e; cases e
      | some cs =>
        rw [q] at e
        cases e
        cases h1
        rw [intsO_ok h2 q]
        rfl
def vSum : D → M Wv
  | .list ds => (match intsO ds with | some bs => .ok (.dat (.int bs.sum)) | none => .bad)
  | _ => .bad
theorem ok_sum : CbOk K (rSum K) (f1 vSum) := fun pi H F xs us Q E l p gs h => by
  obtain ⟨x, d, rfl, hd, h⟩ := f1_ok gs h
  unfold vSum at h
  split at h
  · split at h
    · rename_i bs e
      cases hd with
      | lst s r => exact ⟨_, bs, rfl, SqL.of (by rw [← intsO_ok r e]; exact l _ _ s), Fin.val h l p (.int _)⟩
    · exact h.elim
  · exact h.elim
def vI2 (g : Int → Int → Int) (a b : D) : M Wv := match a, b with
  | .int i, .int j => .ok (.dat (.int (g i j)))
  | _, _ => .bad
theorem ok_i2 {g : Int → Int → Int} : CbOk K (fun xs H Q => ∃ i j, xs = [.int i, .int j] ∧ Q (.int (g i j)) H) (f2 (vI2 g)) := fun pi H F xs us Q E l p gs h => by
  obtain ⟨x, y, d, e, rfl, hd, he, h⟩ := f2_ok gs h
  unfold vI2 at h
  split at h
  · cases hd
    cases he
    exact ⟨_, _, rfl, Fin.val h l p (.int _)⟩
  · exact h.elim
def vAbs : D → M Wv
  | .int i => .ok (.dat (.int (if i < 0 then -i else i)))
  | _ => .bad
theorem ok_abs : CbOk K (fun xs H Q => ∃ i, xs = [.int i] ∧ Q (.int (if i < 0 then -i else i)) H) (f1 vAbs) := fun pi H F xs us Q E l p gs h => by
  obtain ⟨x, d, rfl, hd, h⟩ := f1_ok gs h
  unfold vAbs at h
  split at h
  · cases hd
    exact ⟨_, rfl, Fin.val h l p (.int _)⟩
  · exact h.elim
/-- int of an int, of a truth value -/
def vInt : D → M Wv
  | .int i => .ok (.dat (.int i))
  | .bool k => .ok (.dat (.int (if k then 1 else 0)))
  | _ => .bad
theorem ok_int1 : CbOk K (fun xs H Q => (∃ i, xs = [.int i] ∧ Q (.int i) H) ∨ ∃ k, xs = [.bl k] ∧ Q (.int (if k then 1 else 0)) H) (f1 vInt) := fun pi H F xs us Q E l p gs h => by
  obtain ⟨x, d, rfl, hd, h⟩ := f1_ok gs h
  unfold vInt at h
  split at h
  · cases hd
    exact .inl ⟨_, rfl, Fin.val h l p (.int _)⟩
  · cases hd
    exact .inr ⟨_, rfl, Fin.val h l p (.int _)⟩
  · exact h.elim
/-- tuple(x), list(x) of a list, a tuple -/
def vTuple : D → M Wv
  | .list xs => .ok (.dat (.tuple xs))
  | .tuple xs => .ok (.dat (.tuple xs))
  | _ => .bad
def vList : D → M Wv
  | .list xs => .ok (.own xs)
  | .tuple xs => .ok (.own xs)
  | _ => .bad
theorem ok_tuple : CbOk K (fun xs H Q => ∃ p ys, xs = [.ref p] ∧ ((SqL K H p ys ∧ ∀ l, H l = none → Q (.ref l) (upd H l (.tup ys))) ∨ (SqT K H p ys ∧ Q (.ref p) H))) (f1 vTuple) := fun pi H F xs us Q E l p gs h => by
  obtain ⟨x, d, rfl, hd, h⟩ := f1_ok gs h
  unfold vTuple at h
  split at h
  · cases hd with
    | lst s r => exact ⟨_, _, rfl, .inl ⟨SqL.of (l _ _ s), Fin.tup h l p r⟩⟩
  · cases hd with
    | tup s r => exact ⟨_, _, rfl, .inr ⟨sq_mono_t l s, Fin.val h l p (.tup s r)⟩⟩
  · exact h.elim
theorem ok_list : CbOk K (fun xs H Q => ∃ p ys, xs = [.ref p] ∧ (SqL K H p ys ∨ SqT K H p ys) ∧ ∀ l, H l = none → Q (.ref l) (upd H l (.lst ys))) (f1 vList) := fun pi H F xs us Q E l p gs h => by
  obtain ⟨x, d, rfl, hd, h⟩ := f1_ok gs h
  unfold vList at h
  split at h
  · cases hd with
    | lst s r => exact ⟨_, _, rfl, .inl (SqL.of (l _ _ s)), Fin.lst h l p r⟩
  · cases hd with
    | tup s r => exact ⟨_, _, rfl, .inr (sq_mono_t l s), Fin.lst h l p r⟩
  · exact h.elim
end

/-! ## repr -/
/-- the machine's own dict of modules is no part of what is made -/
def SysIn (base : Heap) : Prop := ∃ o, base.get? sysModules = some o
def rRepr (K : PySem.W.Frag) : List V → Hp → VK → Prop := fun xs H Q => ∃ F x d, xs = [x] ∧ Same F H ∧ DR K F x d ∧ d.showable = true ∧ d.depth ≤ 64 ∧ d.shown.length ≤ sizeLine ∧ Q (.str d.shown) H
theorem cr_repr {X : Cx} (guard : X.A.guards = some []) (hu : X.A.units + 100 < cLine) (hb : SysIn X.base) : CallR X (.builtin "repr") (rRepr X.K) := by
  intro pins s σ H xs us Q I r h
  obtain ⟨F, x, d, rfl, l, hd, hs, hz, hl, q⟩ := h
  obtain ⟨u, rfl, ru⟩ := vals1 r
  obtain ⟨as, rd, na⟩ := DR.reads I l hd u ru
  have hsm : d.hasDict = true → sysModules ∉ as := fun _ hm => by
    obtain ⟨o, ho⟩ := hb
    exact na _ hm (I.bs _ _ ho).2
  cases rd with
  | none =>
    have e : PyData.shown .none = ("None" : Str) := by rw [PyData.shown]
    rw [e] at q
    exact PySem.P.repr_of_none ⟨.str _, H, I.tok _, ⟨_, rfl⟩, q⟩
  | bool b =>
    have e : PyData.shown (.bool b) = (if b then ("True" : Str) else ("False" : Str)) := by rw [PyData.shown]
    rw [e] at q
    exact PySem.P.repr_of_bool ⟨.str _, H, I.tok _, ⟨_, rfl⟩, q⟩
  | int i t =>
    have e : PyData.shown (.int i) = toString i := by rw [PyData.shown]
    rw [e] at q
    have e2 : i.natAbs.log2 < 1920 := by simpa [PyData.showable] using hs
    exact PySem.P.repr_of_int e2 ⟨.str _, H, I.tok _, ⟨_, rfl⟩, q⟩
  | str z t =>
    have e : PyData.shown (.str z) = reprText z := by rw [PyData.shown]
    rw [e] at q hl
    exact PySem.P.repr_of_str ⟨.str _, H, I.tok _, ⟨_, rfl⟩, q⟩ hl
  | list h1 h2 h3 h4 =>
    exact repr_of_reads' (.list h1 h2 h3 h4) hs hsm guard (by omega) (fun _ _ e => e) (fun h' u tk hk => ⟨.str _, H, (I.kept (t' := tk) hk), ⟨_, rfl⟩, q⟩) hl
  | tuple h1 h2 h3 h4 =>
    exact repr_of_reads' (.tuple h1 h2 h3 h4) hs hsm guard (by omega) (fun _ _ e => e) (fun h' u tk hk => ⟨.str _, H, (I.kept (t' := tk) hk), ⟨_, rfl⟩, q⟩) hl
  | dict h1 h2 h3 h4 h5 =>
    exact repr_of_reads' (.dict h1 h2 h3 h4 h5) hs hsm guard (by omega) (fun _ _ e => e) (fun h' u tk hk => ⟨.str _, H, (I.kept (t' := tk) hk), ⟨_, rfl⟩, q⟩) hl
def vRepr (d : D) : M Wv := if (d.showable && decide (d.depth ≤ 64)) = true then small d.shown.length (.ok (.dat (.str d.shown))) else .bad
theorem ok_repr {K : PySem.W.Frag} : CbOk K (rRepr K) (f1 vRepr) := fun pi H F xs us Q E l p gs h => by
  obtain ⟨x, d, rfl, hd, h⟩ := f1_ok gs h
  unfold vRepr at h
  split at h
  · rename_i c
    obtain ⟨c1, c2⟩ := Bool.and_eq_true_iff.mp c
    obtain ⟨hz, h⟩ := small_ok h
    exact ⟨F, x, d, rfl, l, hd, c1, of_decide_eq_true c2, Nat.le_of_lt hz, Fin.val h l p (.str _)⟩
  · exact h.elim
end DL

namespace DL
open PySem PySem.Spec PyProof.Rows L2 SeqAt HT

/-! ## t[::-1] of a tuple -/
section
variable {prog : Program} {w : World} {A : Around} {E : Value → Shared → Prop} {s : Shared}
theorem adjust_rev (n : Nat) : Builtin.Slice.sliceAdjust none none (-1) (n : Int) = ((n : Int) - 1, -1) := by
  unfold Builtin.Slice.sliceAdjust
  simp
theorem places_rev (n : Nat) : Builtin.Slice.slicePlaces ((n : Int) - 1) (-1) (-1) = n := by
  unfold Builtin.Slice.slicePlaces
  simp
  try split
  all_goals omega
theorem applied_rev {sl : Addr} {vl vu : Value} {t : Tok} {n : Nat} {Q : Int × Int × Nat → Shared → Prop} (hs : s.heap.IsSliceOf sl vl vu (.int (-1) t)) (pl : IsPart vl none) (pu : IsPart vu none)
    (h : Q ((n : Int) - 1, -1, n) s) : wpAny (model prog w) A (Builtin.Slice.sliceApplied (.ref sl) (pure (n : Int))) Q E s := by
  obtain ⟨os, hos, hcs, hds⟩ := id hs
  unfold Builtin.Slice.sliceApplied Builtin.Slice.sliceFields
  refine wpAny_bind (wpAny_bind (wpAny_field hos hds (x := vl) rfl (wpAny_bind (wpAny_field hos hds (x := vu) rfl (wpAny_bind (wpAny_field hos hds (x := .int (-1) t) rfl (wpAny_pure ?_)))))))
  refine wpAny_bind (slicePart_int ?_)
  show wpAny _ _ (if ((-1 : Int) == 0) = true then _ else _) _ _ s
  rw [if_neg (by decide)]
  refine wpAny_bind (slicePart_ pl (wpAny_bind (slicePart_ pu (wpAny_bind (wpAny_pure ?_)))))
  show wpAny _ _ (match Builtin.Slice.sliceAdjust none none (-1) (n : Int) with | (a, b) => pure (a, (-1 : Int), Builtin.Slice.slicePlaces a b (-1))) _ _ s
  rw [adjust_rev]
  show wpAny _ _ (pure ((n : Int) - 1, (-1 : Int), Builtin.Slice.slicePlaces ((n : Int) - 1) (-1) (-1))) _ _ s
  rw [places_rev]
  exact wpAny_pure h
theorem fm_map {α β : Type} {f : α → Option β} {g : α → β} : ∀ l : List α, (∀ m ∈ l, f m = some (g m)) → l.filterMap f = l.map g
  | [], _ => rfl
  | a :: l, h => by
    rw [List.filterMap_cons, h a (List.mem_cons_self ..), List.map_cons]
    exact congrArg _ (fm_map l fun m hm => h m (List.mem_cons_of_mem _ hm))
theorem pick_rev (xs : Array Value) : ((List.range xs.size).filterMap fun (m : Nat) => xs[(((xs.size : Int) - 1) + (m : Int) * (-1)).toNat]?) = xs.toList.reverse := by
  have e : ∀ m ∈ List.range xs.size, xs[(((xs.size : Int) - 1) + (m : Int) * (-1)).toNat]? = some (xs.toList.reverse.getD m .none) := fun m hm => by
    have hl : m < xs.size := List.mem_range.mp hm
    have e1 : (((xs.size : Int) - 1) + (m : Int) * (-1)).toNat = xs.size - 1 - m := by omega
    rw [e1, List.getD_eq_getElem?_getD, List.getElem?_reverse (by simpa using hl)]
    simp only [Array.length_toList]
    rw [List.getElem?_eq_getElem (by simp; omega), Array.getElem?_eq_getElem (by omega)]
    simp
  rw [fm_map _ e]
  apply List.ext_getElem
  · simp
  · intro i h1 h2
    simp at h1 h2 ⊢
    rw [List.getElem?_eq_getElem (by simp; omega)]
    simp
theorem getItem_tuple_rev {t sl : Addr} {items : Array Value} {vl vu : Value} {tk : Tok} {Q : Value → Shared → Prop} (ht : IsTup s.heap t items) (hs : s.heap.IsSliceOf sl vl vu (.int (-1) tk)) (pl : IsPart vl none) (pu : IsPart vu none)
    (h : Q (.ref s.heap.objs.size) { s with heap := s.heap.push { cls := .type "tuple", data := .seq items.toList.reverse.toArray } })
    (hsz : items.size ≤ sizeLine) : wpAny (model prog w) A (getItem (.ref t) (.ref sl)) Q E s := by
  have htake : sizeOk (.seq items.toList.reverse.toArray) := by
    show items.toList.reverse.toArray.size ≤ sizeLine
    simpa using hsz
  obtain ⟨os, hos, hcs, hds⟩ := id hs
  have hTs : s.TypeIs (.ref sl) "slice" := ⟨os, hos, hcs⟩
  unfold getItem
  try with_reducible refine wpAny_holding ?_
  first | refine wpAny_bind (wpAny_pure ?_) | skip
  refine wpAny_bind (wpAny_sequenceKey ht.typeIs (by decide) ?_)
  refine wpAny_bind (wpAny_callSpecial?_slot (name := Str.ofString "__getitem__") ht.typeIs PyProof.Rows.slot_tuple_getitem
    (wpAny_call_entry PyProof.Rows.slot_tuple_getitem ht.typeIs entry_tuple_getitem ?_ (args_tuple_getitem _ _)))
  show wpAny _ _ (Builtin.Tuple.tupleItemsOf (.ref t) >>= _) _ _ s
  refine wpAny_bind (tupleItemsOf_ ht ?_)
  refine wpAny_bind (wpAny_typeOf hTs ?_)
  rw [if_pos (by decide)]
  refine wpAny_bind (applied_rev hs pl pu ?_)
  have hno : ¬ ((((items.size : Int) - 1) == 0 && (-1 : Int) == 1 && items.size == items.size) = true) := by simp
  show wpAny _ _ (if ((((items.size : Int) - 1) == 0 && (-1 : Int) == 1 && items.size == items.size)) = true then _ else _) _ _ s
  rw [if_neg hno, pick_rev]
  first
    | exact wpAny_bind (m := Builtin.Tuple.tupleExact _) (wpAny_newObj_type (wpAny_pure ⟨_, rfl, wpAny_pure h⟩) htake)
    | exact wpAny_bind (m := Builtin.Tuple.tupleExact _) (wpAny_newObj_type (wpAny_bind (wpAny_pure (wpAny_pure ⟨_, rfl, wpAny_pure h⟩))) htake)
    | exact wpAny_bind (wpAny_bind (m := Builtin.Tuple.tupleExact _) (wpAny_newObj_type (wpAny_pure (wpAny_pure ⟨_, rfl, wpAny_pure h⟩)) htake))
    | exact wpAny_bind (wpAny_bind (m := Builtin.Tuple.tupleExact _) (wpAny_newObj_type (wpAny_pure ⟨_, rfl, wpAny_pure h⟩) htake))
end

/-! ## slices -/
def tRev1 (K : PySem.W.Frag) (te : TE) : TE := fun σ H Q => te σ H fun x H1 => ∃ a xs, x = .ref a ∧ ((SqL K H1 a xs ∧ ∀ p, H1 p = none → Q (.ref p) (upd H1 p (.lst xs.reverse))) ∨ (SqT K H1 a xs ∧ ∀ p, H1 p = none → Q (.ref p) (upd H1 p (.tup xs.reverse))))
theorem pe_rev1 {X : Cx} {e : Expr} {te : TE} {k : Nat} {p1 p2 p3 pos : Pos} (he : PE X e te) : PE X (.Subscript e (.Slice none none (some (.UnaryOp .USub (.Constant (.int 1) k p1) p2)) p3) pos) (tRev1 X.K te) := by
  refine ⟨fun pins s σ H Q I h => ?_⟩
  refine Subscript_ (thn (he.run pins s σ H _ I h) fun v s1 ⟨x, H1, I1, r1, q1⟩ => ?_)
  obtain ⟨a, xs, ex, q⟩ := q1
  subst ex
  cases r1
  have hst : PO X (some (.UnaryOp .USub (.Constant (.int 1) k p1) p2)) (tPart (tUn (rU fun i => .int (-i)) (tC (.int 1)))) := po_some (pe_un un_neg pe_int)
  refine wpAny_Slice (thn (po_none.run pins s1 σ H1 (fun o H2 => o = none ∧ H2 = H1) I1 ⟨rfl, rfl⟩) fun vl s2 ⟨l, H2, I2, pl, el, e2⟩ => ?_)
  subst el e2
  refine thn (po_none.run pins s2 σ H2 (fun o H3 => o = none ∧ H3 = H2) I2 ⟨rfl, rfl⟩) fun vu s3 ⟨u, H3, I3, pu, eu, e3⟩ => ?_
  subst eu e3
  refine thn (hst.run pins s3 σ H3 (fun o H4 => o = some (-1) ∧ H4 = H3) I3 ⟨1, rfl, -1, rfl, rfl, rfl⟩) fun vs s4 ⟨o, H4, I4, ps, eo, e4⟩ => ?_
  subst eo e4
  have I5 : Inv X pins σ H4 { s4 with heap := s4.heap.push { cls := .type "slice", data := .fields #[vl, vu, vs] } } := I4.kept (t' := s4.toks) fun b ob q => Heap.get?_push_of_some _ q
  show wpAny (model X.prog X.w) X.A (subscriptTail e (.Slice none none (some (.UnaryOp .USub (.Constant (.int 1) k p1) p2)) p3) (.ref a) (.ref s4.heap.objs.size)) (EP X pins σ Q) X.xe { s4 with heap := s4.heap.push { cls := .type "slice", data := .fields #[vl, vu, vs] } }
  rcases q with ⟨hx, q⟩ | ⟨hx, q⟩
  · obtain ⟨its, r, ht, hz⟩ := I5.list hx
    have hlen := r.length
    refine tail_any (ops := [.ref a, .ref s4.heap.objs.size]) ht.isList.typeIs (PySem.slot_list_getitem.lookup) ?_ (by with_unfolding_all rfl)
    refine wpAny_getItem_list_slice ht.isList (Heap.IsSliceOf.new _ vl vu vs) pl pu ps (by decide) ?_ (by rw [List.size_toArray]; omega)
    rw [PySem.W.krv_pick]
    refine ⟨.ref _, _, I5.laid (t' := s4.toks) (o := .lst xs.reverse) (fun b ob q => Heap.get?_push_of_some _ q) (Nat.le_refl _) ?_, rfl, q _ (I5.hok.fresh (Nat.le_refl _))⟩
    exact ⟨by rw [List.length_reverse]; exact hz, _, 0, r.reverse, Heap.get?_push_size _ rfl⟩
  · obtain ⟨its, r, ht, hz⟩ := I5.tuple hx
    have hlen := r.length
    refine tail_any (ops := [.ref a, .ref s4.heap.objs.size]) ht.typeIs (PyProof.Rows.slot_tuple_getitem.lookup) ?_ (by with_unfolding_all rfl)
    cases ps
    refine getItem_tuple_rev ht (Heap.IsSliceOf.new _ vl vu _) pl pu ?_ (by rw [List.size_toArray]; omega)
    refine ⟨.ref _, _, I5.laid (t' := s4.toks) (o := .tup xs.reverse) (fun b ob q => Heap.get?_push_of_some _ q) (Nat.le_refl _) ?_, rfl, q _ (I5.hok.fresh (Nat.le_refl _))⟩
    refine ⟨by rw [List.length_reverse]; exact hz, _, r.reverse, ?_⟩
    have e : its.toArray.toList.reverse.toArray = its.reverse.toArray := by simp
    rw [e]
    exact IsTup.new _ _
def vRev : D → M Wv
  | .list xs => .ok (.own xs.reverse)
  | .tuple xs => .ok (.dat (.tuple xs.reverse))
  | _ => .bad
section
variable {X : Cx} {c : Act} {Wx : WX} {e : Expr} {f : En → M Wv}
theorem de_rev {k : Nat} {p1 p2 p3 pos : Pos} (he : DE X c Wx e f) : DE X c Wx (.Subscript e (.Slice none none (some (.UnaryOp .USub (.Constant (.int 1) k p1) p2)) p3) pos) (fun ρ => f ρ >>= fun u => u.give.d >>= vRev) :=
  PE.imp (pe_rev1 he) fun σ H Q ⟨F, ρ, I, p⟩ => ev_split I p fun u x H1 F1 I1 s1 g1 p1 => by
    obtain ⟨d, e, hd, p1⟩ := gd g1 p1
    have p2 := M.post_mono (Q' := fun z => ∀ H' F', Step c.pi H1 F1 H' F' → ∀ v, Res X.K c.pi H1 H' F' v z → Q v H') p1 (fun z q H' F' t v r => q H' F' t v (r.older I.pot s1)) fun _ z => z
    unfold vRev at p2
    split at p2
    · cases hd with
      | lst s r => exact ⟨_, _, rfl, .inl ⟨SqL.of (I1.le _ _ s), Fin.lst p2 I1.le I1.pot r.reverse⟩⟩
    · cases hd with
      | tup s r => exact ⟨_, _, rfl, .inr ⟨sq_mono_t I1.le s, Fin.tup p2 I1.le I1.pot r.reverse⟩⟩
    · exact p2.elim
/-- a part of a slice -/
def EvO (K : PySem.W.Frag) (mg : Str → Option Value) (c : Act) (Wx : WX) (f : En → M (Option Int)) : TO := fun σ H Q => ∃ F ρ, SR K c σ H F ρ ∧ Pend K mg c Wx σ H F (f ρ) fun o H' _ => Q o H'
abbrev DO (X : Cx) (c : Act) (Wx : WX) (e : Option Expr) (f : En → M (Option Int)) : Prop := PO X e (EvO X.K X.mg c Wx f)
theorem PO.imp {X : Cx} {e : Option Expr} {t t' : TO} (h : PO X e t) (hi : ∀ σ H Q, t' σ H Q → t σ H Q) : PO X e t' := ⟨fun pins s σ H Q I q => h.run pins s σ H Q I (hi _ _ _ q)⟩
def oN (_ : En) : M (Option Int) := .ok none
def asI : Wv → M Int
  | .dat (.int i) => .ok i
  | _ => .bad
@[simp] theorem asI_int (i : Int) : asI (.dat (.int i)) = .ok i := rfl
def oS (f : En → M Wv) (ρ : En) : M (Option Int) := f ρ >>= fun u => asI u >>= fun i => .ok (some i)
theorem asI_ok {α : Type} {K : PySem.W.Frag} {pi : Pot} {F : Hp} {u : Wv} {k : Int → M α} {x : V} {Q : α → Prop} {E : Ex → Prop} (g : Gv K pi F x u.give) (p : (asI u >>= k).post Q E) : ∃ i, x = .int i ∧ (k i).post Q E := by
  unfold asI at p
  split at p
  · rename_i i
    have g' : DR K F x (.int i) := g
    cases g'
    exact ⟨i, rfl, p⟩
  · exact False.elim p
theorem do_none : DO X c Wx none oN := PO.imp po_none fun σ H Q ⟨F, ρ, I, p⟩ => p H F (step_refl I)
theorem do_some (h : DE X c Wx e f) : DO X c Wx (some e) (oS f) := PO.imp (po_some h) fun σ H Q ⟨F, ρ, I, p⟩ => ev_split I p fun u x H1 F1 I1 s1 g1 p1 => by
  obtain ⟨i, rfl, p1⟩ := asI_ok g1 p1
  exact ⟨i, rfl, p1 H1 F1 (step_refl I1)⟩
theorem eo_split {α : Type} {K : PySem.W.Frag} {mg : Str → Option Value} {σ : L2.St} {H F : Hp} {ρ : En} {f : En → M (Option Int)} {k : Option Int → M α} {S : α → Hp → Hp → Prop} {R : Option Int → Hp → Prop} (I : SR K c σ H F ρ) (p : Pend K mg c Wx σ H F (f ρ >>= k) S)
    (h : ∀ b H1 F1, SR K c σ H1 F1 ρ → Step c.pi H F H1 F1 → Pend K mg c Wx σ H1 F1 (k b) S → R b H1) : EvO K mg c Wx f σ H R :=
  ⟨F, ρ, I, M.post_mono p.bind (fun b q H1 F1 s => h b H1 F1 (I.step s) s (Pend.move q I.pot s)) fun e q => q⟩
def cutD (xs : List D) (lo hi : Option Int) : List D := (xs.drop (HT.sIx xs.length 0 lo)).take (HT.sIx xs.length xs.length hi - HT.sIx xs.length 0 lo)
theorem DRs.cut {K : PySem.W.Frag} {F : Hp} {vs : List V} {ds : List D} (h : DRs K F vs ds) (lo hi : Option Int) : DRs K F (cutV vs lo hi) (cutD ds lo hi) := by
  unfold cutV cutD
  rw [h.length]
  exact (h.drop _).take _
def vCut (d : D) (lo hi : Option Int) : M Wv := match d with
  | .list xs => .ok (.own (cutD xs lo hi))
  | .tuple xs => .ok (.dat (.tuple (cutD xs lo hi)))
  | .str z => small z.length (.ok (.dat (.str (cutS z lo hi))))
  | _ => .bad
theorem cutD_all {xs : List D} {lo hi : Option Int} (h : HT.sIx xs.length 0 lo = 0 ∧ HT.sIx xs.length xs.length hi = xs.length) : cutD xs lo hi = xs := by
  unfold cutD
  rw [h.1, h.2]
  simp
theorem de_cut {lo hi : Option Expr} {fl fh : En → M (Option Int)} {pos p2 : Pos} (he : DE X c Wx e f) (hl : DO X c Wx lo fl) (hh : DO X c Wx hi fh) : DE X c Wx (.Subscript e (.Slice lo hi none p2) pos) (fun ρ => f ρ >>= fun u => fl ρ >>= fun l => fh ρ >>= fun h => u.give.d >>= fun d => vCut d l h) :=
  PE.imp (pe_slice (sl_list.or (sl_tupA.or sl_str)) he hl hh) fun σ H Q ⟨F, ρ, I, p⟩ => ev_split I p fun u x H1 F1 I1 s1 g1 p1 => eo_split I1 p1 fun l H2 F2 I2 s2 p2 => eo_split I2 p2 fun h H3 F3 I3 s3 p3 => by
    have g3 := g1.mono (s2.mono.trans s3.mono)
    obtain ⟨d, e, hd, p3⟩ := gd g3 p3
    have p4 := M.post_mono (Q' := fun z => ∀ H' F', Step c.pi H3 F3 H' F' → ∀ v, Res X.K c.pi H3 H' F' v z → Q v H') p3 (fun z q H' F' t v r => q H' F' t v (((r.older I2.pot s3).older I1.pot s2).older I.pot s1)) fun _ z => z
    unfold vCut at p4
    split at p4
    · cases hd with
      | lst s r => exact .inl ⟨_, _, rfl, SqL.of (I3.le _ _ s), Fin.lst p4 I3.le I3.pot (r.cut l h)⟩
    · cases hd with
      | tup s r =>
        refine .inr (.inl ⟨_, _, rfl, sq_mono_t I3.le s, fun q => ?_, fun _ => Fin.tup p4 I3.le I3.pot (r.cut l h)⟩)
        rw [r.length] at q
        rw [cutD_all q] at p4
        exact Fin.val p4 I3.le I3.pot (.tup s r)
    · cases hd
      obtain ⟨hz, p4⟩ := small_ok p4
      exact .inr (.inr ⟨_, rfl, Nat.le_of_lt hz, Fin.val p4 I3.le I3.pot (.str _)⟩)
    · exact p4.elim

/-! ## a < b < c -/
def chain (g g' : Wv → Wv → M Wv) (fa fb fc : En → M Wv) (ρ : En) : M Wv := fa ρ >>= fun u => fb ρ >>= fun w => g u.give w.give >>= fun z => asB z >>= fun k => if k = true then fc ρ >>= fun y => g' w.give y.give else .ok (.dat (.bool false))
end
end DL

namespace DL
open PySem PySem.Spec PyProof.Rows L2 SeqAt HT

/-! ## a < b < c of ints -/
def chainI (p p' : Int → Int → Bool) (fa fb fc : En → M Wv) (ρ : En) : M Wv := fa ρ >>= fun u => fb ρ >>= fun w => asI u >>= fun i => asI w >>= fun j =>
  if p i j = true then fc ρ >>= fun y => asI y >>= fun k => .ok (.dat (.bool (p' j k))) else .ok (.dat (.bool false))
section
variable {X : Cx} {c : Act} {Wx : WX} {e a b d : Expr} {f fa fb fc : En → M Wv} {pos : Pos}
theorem chain_post {p p' : Int → Int → Bool} {K : PySem.W.Frag} {mg : Str → Option Value} : ∀ σ H Q, Ev K mg c Wx (chainI p p' fa fb fc) σ H Q → tChain (rI0 fun i j => .bl (p i j)) (rI0 fun i j => .bl (p' i j)) (Ev K mg c Wx fa) (Ev K mg c Wx fb) (Ev K mg c Wx fc) σ H Q := fun σ H Q ⟨F, ρ, I, h⟩ =>
  ev_split I h fun u x H1 F1 I1 s1 g1 h1 => ev_split I1 h1 fun w y H2 F2 I2 s2 g2 h2 => by
    obtain ⟨i, rfl, h2⟩ := asI_ok (g1.mono s2.mono) h2
    obtain ⟨j, rfl, h2⟩ := asI_ok g2 h2
    refine ⟨i, j, rfl, rfl, p i j, rfl, ?_⟩
    cases q : p i j with
    | false =>
      rw [q, if_neg Bool.false_ne_true] at h2
      exact iteF (h2 H2 F2 (step_refl I2) (.bl false) (.bl false))
    | true =>
      rw [q, if_pos rfl] at h2
      refine iteT (ev_split I2 h2 fun z v H3 F3 I3 s3 g3 h3 => ?_)
      obtain ⟨k, rfl, h3⟩ := asI_ok g3 h3
      exact ⟨j, k, rfl, rfl, h3 H3 F3 (step_refl I3) (.bl _) (.bl _)⟩
theorem de_chain {op op' : CmpOp} {p p' : Int → Int → Bool} (ho : OpR X (compareOp op) (rI0 fun i j => .bl (p i j))) (ho' : OpR X (compareOp op') (rI0 fun i j => .bl (p' i j))) (ha : DE X c Wx a fa) (hb : DE X c Wx b fb) (hc : DE X c Wx d fc)
    (hm : lastMarks [op, op'] [b, d] = false := by with_unfolding_all rfl) : DE X c Wx (.Compare a [op, op'] [b, d] pos) (chainI p p' fa fb fc) := PE.imp (pe_chain ho ho' ha hb hc hm) chain_post
theorem dt_chain {op op' : CmpOp} {p p' : Int → Int → Bool} (ho : OpR X (compareOp op) (rI0 fun i j => .bl (p i j))) (ho' : OpR X (compareOp op') (rI0 fun i j => .bl (p' i j))) (ha : DE X c Wx a fa) (hb : DE X c Wx b fb) (hc : DE X c Wx d fc)
    (hm : lastMarks [op, op'] [b, d] = false := by with_unfolding_all rfl) : DT X c Wx (.Compare a [op, op'] [b, d] pos) (tst (chainI p p' fa fb fc)) :=
  PT.imp (pt_chain ho ho' ha hb hc hm) fun σ H Q h => chain_post σ H _ (ev_tst σ H Q h)
end

/-! ## sources -/
def asItems : D → M (List D)
  | .list xs => .ok xs
  | .tuple xs => .ok xs
  | .str z => .ok (z.cps.toList.map fun ch => .str ⟨#[ch]⟩)
  | _ => .bad
def sSeq (f : En → M Wv) (ρ : En) : M (List D) := f ρ >>= fun u => u.give.d >>= asItems
def iSeq (K : PySem.W.Frag) (te : TE) : TI := fun σ H R => te σ H fun x H1 => (∃ a, x = .ref a ∧ ((∃ xs, SqL K H1 a xs ∧ R (Itl K a) H1) ∨ (∃ xs, SqT K H1 a xs ∧ R (Itt K a) H1))) ∨ ∃ z, x = .str z ∧ R (Its z) H1
theorem pi_seq {X : Cx} {tg l : Expr} {tl : TE} (hl : PE X l tl) : PI X tg l (iSeq X.K tl) := by
  refine ⟨fun pins s σ H R I h => ?_⟩
  refine thn (hl.run pins s σ H _ I h) fun v s1 ⟨x, H1, I1, r1, q1⟩ => ?_
  rcases q1 with ⟨a, e, q1⟩ | ⟨z, e, q⟩
  · subst e
    cases r1
    rcases q1 with ⟨xs, hq, q⟩ | ⟨xs, hq, q⟩
    · obtain ⟨its, rv, p, hz⟩ := I1.list hq
      refine wpAny_pyIter_list p.isList ?_
      refine ⟨s1.heap.objs.size, [s1.heap.objs.size], _, _, H1, rfl, I1.kept (t' := s1.toks) fun b o e => Heap.get?_push_of_some _ e, turn_list a _, ⟨_, Heap.get?_push_size _ rfl, rfl, rfl⟩, fun b hb => ?_, q⟩
      have e : b = s1.heap.objs.size := by simpa using hb
      subst e
      exact I1.fpOk (Nat.le_refl _) (I1.hok.fresh (Nat.le_refl _))
    · obtain ⟨its, rv, p, hz⟩ := I1.tuple hq
      refine wpAny_pyIter_tuple (show s1.heap.IsTuple a its.toArray from p) ?_
      refine ⟨s1.heap.objs.size, [s1.heap.objs.size], _, _, H1, rfl, I1.kept (t' := s1.toks) fun b o e => Heap.get?_push_of_some _ e, turn_tuple a _, ⟨_, Heap.get?_push_size _ rfl, rfl, rfl⟩, fun b hb => ?_, q⟩
      have e : b = s1.heap.objs.size := by simpa using hb
      subst e
      exact I1.fpOk (Nat.le_refl _) (I1.hok.fresh (Nat.le_refl _))
  · subst e
    obtain ⟨t, rfl⟩ := r1
    cases ha : z.cps.all (· < 128)
    · exact wpAny_pyIter_wide ha (pi_one (tk := s1.toks) I1 _ (turn_str _ z t "str_iterator" (.inr rfl)) ⟨_, Heap.get?_push_size _ rfl, rfl, rfl⟩ q)
    · exact wpAny_pyIter_ascii ha (pi_one (tk := s1.toks) I1 _ (turn_str _ z t "str_ascii_iterator" (.inl rfl)) ⟨_, Heap.get?_push_size _ rfl, rfl, rfl⟩ q)
section
variable {K : PySem.W.Frag} {pi : Pot} {F : Hp}
theorem src_list {a : Addr} {vs : List V} {ds : List D} (h : F a = some (.lst vs)) (r : DRs K F vs ds) : SrcOk K pi (Itl K a) F ds := fun i H' F' m l p => by
  have hs : SqL K H' a vs := SqL.of (l _ _ (m _ _ h))
  refine ⟨fun d e => ?_, fun e => ⟨vs, hs, by rw [r.length, e]; exact Nat.le_refl _⟩⟩
  obtain ⟨v, hv, hd⟩ := r.get e
  refine ⟨⟨vs, v, hs, hv⟩, fun x H'' ⟨e1, y⟩ => ?_⟩
  subst e1
  have e2 := y vs hs
  rw [hv] at e2
  cases e2
  exact ⟨F', Step.refl l p, hd.mono m⟩
theorem src_tup {a : Addr} {vs : List V} {ds : List D} (h : SqT K F a vs) (r : DRs K F vs ds) : SrcOk K pi (Itt K a) F ds := fun i H' F' m l p => by
  have hs : SqT K H' a vs := sq_mono_t (m.trans l) h
  refine ⟨fun d e => ?_, fun e => ⟨vs, hs, by rw [r.length, e]; exact Nat.le_refl _⟩⟩
  obtain ⟨v, hv, hd⟩ := r.get e
  refine ⟨⟨vs, v, hs, hv⟩, fun x H'' ⟨e1, y⟩ => ?_⟩
  subst e1
  have e2 := y vs hs
  rw [hv] at e2
  cases e2
  exact ⟨F', Step.refl l p, hd.mono m⟩
theorem src_str {z : Str} : SrcOk K pi (Its z) F (z.cps.toList.map fun ch => .str ⟨#[ch]⟩) := fun i H' F' m l p => by
  refine ⟨fun d e => ?_, fun e => by show z.cps.size ≤ i; rw [e]; simp⟩
  rw [List.getElem?_map] at e
  cases q : z.cps.toList[i]? with
  | none => rw [q] at e; cases e
  | some ch =>
    rw [q] at e
    cases e
    refine ⟨by
      have := (List.getElem?_eq_some_iff.mp q).1
      show i < z.cps.size
      simpa using this, fun x H'' ⟨e1, ch', e2, e3⟩ => ?_⟩
    subst e1 e3
    rw [← Array.getElem?_toList, q] at e2
    cases e2
    exact ⟨F', Step.refl l p, .str _⟩
/-- lo, lo + 1, .. -/
def rng (lo : Int) (n : Nat) : List D := (List.range n).map fun (i : Nat) => .int (lo + (i : Int))
theorem src_rng {lo : Int} {n : Nat} : SrcOk K pi (Itr lo n) F (rng lo n) := fun i H' F' m l p => by
  unfold rng
  refine ⟨fun d e => ?_, fun e => by show n ≤ i; rw [e]; simp⟩
  rw [List.getElem?_map] at e
  cases q : (List.range n)[i]? with
  | none => rw [q] at e; cases e
  | some k =>
    rw [q] at e
    cases e
    obtain ⟨h1, h2⟩ := List.getElem?_eq_some_iff.mp q
    rw [List.getElem_range] at h2
    subst h2
    refine ⟨by show i < n; simpa using h1, fun x H'' ⟨e1, e2⟩ => ?_⟩
    subst e1 e2
    exact ⟨F', Step.refl l p, .int _⟩
def pairD (a b : D) : D := .tuple [a, b]
theorem lay2 {H' F' : Hp} {T : Addr} {x y : V} {a b : D} (l : Same F' H') (p : PotIn pi H' F') (hT : H' T = none) (ha : DR K F' x a) (hb : DR K F' y b) :
    ∃ F'', Step pi H' F' (upd H' T (.tup [x, y])) F'' ∧ DR K F'' (.ref T) (pairD a b) := by
  have sl := Step.lay (o := .tup [x, y]) l p hT
  exact ⟨_, sl, .tup (SqT.of upd_same) (.cons (ha.mono sl.mono) (.cons (hb.mono sl.mono) .nil))⟩
theorem src_zipL {a b : Addr} {vs ws : List V} {ds es : List D} (h1 : F a = some (.lst vs)) (r1 : DRs K F vs ds) (h2 : F b = some (.lst ws)) (r2 : DRs K F ws es) : SrcOk K pi (Itz K a b) F (List.zipWith pairD ds es) := fun i H' F' m l p => by
  have s1 : SqL K H' a vs := SqL.of (l _ _ (m _ _ h1))
  have s2 : SqL K H' b ws := SqL.of (l _ _ (m _ _ h2))
  refine ⟨fun d e => ?_, fun e => ⟨vs, ws, s1, s2, by rw [r1.length, r2.length]; rw [List.length_zipWith] at e; omega⟩⟩
  rw [List.getElem?_zipWith] at e
  cases q1 : ds[i]? with
  | none => rw [q1] at e; cases e
  | some d1 =>
    cases q2 : es[i]? with
    | none => rw [q1, q2] at e; cases e
    | some d2 =>
      rw [q1, q2] at e
      cases e
      obtain ⟨v1, hv1, hd1⟩ := r1.get q1
      obtain ⟨v2, hv2, hd2⟩ := r2.get q2
      refine ⟨⟨vs, ws, v1, v2, s1, s2, hv1, hv2⟩, ?_⟩
      rintro x H'' ⟨T, x1, x2, rfl, hT, rfl, y1, y2⟩
      have e1 := y1 vs s1
      rw [hv1] at e1
      cases e1
      have e2 := y2 ws s2
      rw [hv2] at e2
      cases e2
      exact lay2 l p hT (hd1.mono m) (hd2.mono m)
theorem src_zipT {a b : Addr} {vs ws : List V} {ds es : List D} (h1 : SqT K F a vs) (r1 : DRs K F vs ds) (h2 : SqT K F b ws) (r2 : DRs K F ws es) : SrcOk K pi (RZ.ItzT K a b) F (List.zipWith pairD ds es) := fun i H' F' m l p => by
  have s1 : SqT K H' a vs := sq_mono_t (m.trans l) h1
  have s2 : SqT K H' b ws := sq_mono_t (m.trans l) h2
  refine ⟨fun d e => ?_, fun e => ⟨vs, ws, s1, s2, by rw [r1.length, r2.length]; rw [List.length_zipWith] at e; omega⟩⟩
  rw [List.getElem?_zipWith] at e
  cases q1 : ds[i]? with
  | none => rw [q1] at e; cases e
  | some d1 =>
    cases q2 : es[i]? with
    | none => rw [q1, q2] at e; cases e
    | some d2 =>
      rw [q1, q2] at e
      cases e
      obtain ⟨v1, hv1, hd1⟩ := r1.get q1
      obtain ⟨v2, hv2, hd2⟩ := r2.get q2
      refine ⟨⟨vs, ws, v1, v2, s1, s2, hv1, hv2⟩, ?_⟩
      rintro x H'' ⟨T, x1, x2, rfl, hT, rfl, y1, y2⟩
      have e1 := y1 vs s1
      rw [hv1] at e1
      cases e1
      have e2 := y2 ws s2
      rw [hv2] at e2
      cases e2
      exact lay2 l p hT (hd1.mono m) (hd2.mono m)
def enumD (k : Nat) : List D → List D
  | [] => []
  | d :: ds => pairD (.int k) d :: enumD (k + 1) ds
theorem enumD_at : ∀ (ds : List D) (k i : Nat), (enumD k ds)[i]? = ds[i]?.map fun d => pairD (.int ((k + i : Nat) : Int)) d
  | [], k, i => by simp [enumD]
  | d :: ds, k, 0 => by simp [enumD]
  | d :: ds, k, i + 1 => by
    simp only [enumD, List.getElem?_cons_succ, enumD_at ds (k + 1) i]
    have e : k + 1 + i = k + (i + 1) := by omega
    rw [e]
theorem enumD_length : ∀ (ds : List D) (k : Nat), (enumD k ds).length = ds.length
  | [], _ => rfl
  | d :: ds, k => by simp [enumD, enumD_length ds (k + 1)]
theorem src_enum {a : Addr} {vs : List V} {ds : List D} (h : F a = some (.lst vs)) (r : DRs K F vs ds) : SrcOk K pi (Ite K a) F (enumD 0 ds) := fun i H' F' m l p => by
  have hs : SqL K H' a vs := SqL.of (l _ _ (m _ _ h))
  refine ⟨fun d e => ?_, fun e => ⟨vs, hs, by rw [r.length, e, enumD_length]; exact Nat.le_refl _⟩⟩
  rw [enumD_at] at e
  cases q : ds[i]? with
  | none => rw [q] at e; cases e
  | some d1 =>
    rw [q] at e
    cases e
    obtain ⟨v, hv, hd⟩ := r.get q
    refine ⟨⟨vs, v, hs, hv⟩, ?_⟩
    rintro x H'' ⟨T, x1, rfl, hT, rfl, y⟩
    have e2 := y vs hs
    rw [hv] at e2
    cases e2
    have e3 : ((0 + i : Nat) : Int) = (i : Int) := by omega
    rw [e3]
    exact lay2 l p hT (.int _) (hd.mono m)
end
section
variable {X : Cx} {c : Act} {Wx : WX} {tg e a b : Expr} {f fa fb : En → M Wv} {pos p : Pos}
theorem di_seq (he : DE X c Wx e f) : DI X c Wx tg e (sSeq f) := PI.imp (pi_seq he) fun σ H R ⟨F, ρ, I, q⟩ => ev_split I q fun u x H1 F1 I1 s1 g1 p1 => by
  obtain ⟨d, e, hd, p1⟩ := gd g1 p1
  unfold asItems at p1
  split at p1
  · cases hd with
    | lst s r => exact .inl ⟨_, rfl, .inl ⟨_, SqL.of (I1.le _ _ s), p1 H1 F1 (step_refl I1) _ (src_list s r)⟩⟩
  · cases hd with
    | tup s r => exact .inl ⟨_, rfl, .inr ⟨_, sq_mono_t I1.le s, p1 H1 F1 (step_refl I1) _ (src_tup s r)⟩⟩
  · cases hd
    exact .inr ⟨_, rfl, p1 H1 F1 (step_refl I1) _ src_str⟩
  · exact p1.elim
def inR (i : Int) : Bool := decide (-(2 ^ 62) ≤ i) && decide (i < 2 ^ 62)
def sRng1 (f : En → M Wv) (ρ : En) : M (List D) := f ρ >>= fun u => asI u >>= fun j => if inR j = true then .ok (rng 0 j.toNat) else .bad
def sRng2 (fa fb : En → M Wv) (ρ : En) : M (List D) := fa ρ >>= fun u => fb ρ >>= fun w => asI u >>= fun i => asI w >>= fun j => if (inR i && inR j) = true then .ok (rng i (j - i).toNat) else .bad
theorem inR_ok {i : Int} (h : inR i = true) : -(2 ^ 62) ≤ i ∧ i < 2 ^ 62 := by
  obtain ⟨a, b⟩ := Bool.and_eq_true_iff.mp h
  exact ⟨of_decide_eq_true a, of_decide_eq_true b⟩
theorem di_rng1 {p' : Pos} (hg : Gl X "range") (hm : X.mg "range" = none) (he : DE X c Wx e f) (hs : starEach [e] X.env = [(false, eval e X.env)] := by rfl) : DI X c Wx tg (.Call (.Name "range" p') [e] [] pos) (sRng1 f) :=
  PI.imp (pi_range1 hg hm (pa_cons he pa_nil (by rw [hs]; rfl)) hs) fun σ H R ⟨F, ρ, I, q⟩ => ev_split I q fun u x H1 F1 I1 s1 g1 p1 => by
    obtain ⟨j, rfl, p1⟩ := asI_ok g1 p1
    split at p1
    · rename_i hj
      exact ⟨j, rfl, (inR_ok hj).1, (inR_ok hj).2, p1 H1 F1 (step_refl I1) _ src_rng⟩
    · exact p1.elim
theorem di_rng2 {p' : Pos} (hg : Gl X "range") (hm : X.mg "range" = none) (ha : DE X c Wx a fa) (hb : DE X c Wx b fb) (hs : starEach [a, b] X.env = [(false, eval a X.env), (false, eval b X.env)] := by rfl) (hs2 : starEach [b] X.env = [(false, eval b X.env)] := by rfl) : DI X c Wx tg (.Call (.Name "range" p') [a, b] [] pos) (sRng2 fa fb) :=
  PI.imp (pi_range2 hg hm (pa_cons ha (pa_cons hb pa_nil (by rw [hs2]; rfl)) (by rw [hs, hs2])) hs hs2) fun σ H R ⟨F, ρ, I, q⟩ => ev_split I q fun u x H1 F1 I1 s1 g1 p1 => ev_split I1 p1 fun w y H2 F2 I2 s2 g2 p2 => by
    obtain ⟨i, rfl, p2⟩ := asI_ok (g1.mono s2.mono) p2
    obtain ⟨j, rfl, p2⟩ := asI_ok g2 p2
    split at p2
    · rename_i hj
      obtain ⟨h1, h2⟩ := Bool.and_eq_true_iff.mp hj
      exact ⟨i, j, rfl, ⟨(inR_ok h1).1, (inR_ok h1).2, (inR_ok h2).1, (inR_ok h2).2⟩, p2 H2 F2 (step_refl I2) _ src_rng⟩
    · exact p2.elim
def vZip (a b : D) : M (List D) := match a, b with
  | .list xs, .list ys => .ok (List.zipWith pairD xs ys)
  | .tuple xs, .tuple ys => .ok (List.zipWith pairD xs ys)
  | _, _ => .bad
def sZip (fa fb : En → M Wv) (ρ : En) : M (List D) := fa ρ >>= fun u => fb ρ >>= fun w => u.give.d >>= fun a => w.give.d >>= fun b => vZip a b
theorem di_zip {p' tpos : Pos} {elts : List Expr} {kk : Nat} (hg : Gl X "zip") (hm : X.mg "zip" = none) (ha : DE X c Wx a fa) (hb : DE X c Wx b fb) (hs : starEach [a, b] X.env = (false, eval a X.env) :: starEach [b] X.env := by rfl) (hs2 : starEach [b] X.env = (false, eval b X.env) :: starEach [] X.env := by rfl)
    (hpl : (backTo pos (starEach [b] X.env)).any (·.1) = false := by rfl) : DI X c Wx (.Tuple elts kk tpos) (.Call (.Name "zip" p') [a, b] [] pos) (sZip fa fb) :=
  PI.imp (RZ.pi_zipA hg hm (pa_cons ha (pa_cons hb pa_nil hs2) hs) hs hpl) fun σ H R ⟨F, ρ, I, q⟩ => ev_split I q fun u x H1 F1 I1 s1 g1 p1 => ev_split I1 p1 fun w y H2 F2 I2 s2 g2 p2 => by
    obtain ⟨d1, _, h1, p2⟩ := gd (g1.mono s2.mono) p2
    obtain ⟨d2, _, h2, p2⟩ := gd g2 p2
    unfold vZip at p2
    split at p2
    · cases h1 with
      | lst t1 r1 =>
        cases h2 with
        | lst t2 r2 => exact ⟨_, _, _, _, rfl, .inl ⟨SqL.of (I2.le _ _ t1), SqL.of (I2.le _ _ t2), p2 H2 F2 (step_refl I2) _ (src_zipL t1 r1 t2 r2)⟩⟩
    · cases h1 with
      | tup t1 r1 =>
        cases h2 with
        | tup t2 r2 => exact ⟨_, _, _, _, rfl, .inr ⟨sq_mono_t I2.le t1, sq_mono_t I2.le t2, p2 H2 F2 (step_refl I2) _ (src_zipT t1 r1 t2 r2)⟩⟩
    · exact p2.elim
def asList : D → M (List D)
  | .list xs => .ok xs
  | _ => .bad
def sEnum (f : En → M Wv) (ρ : En) : M (List D) := f ρ >>= fun u => u.give.d >>= fun d => asList d >>= fun xs => .ok (enumD 0 xs)
theorem di_enum {p' tpos : Pos} {elts : List Expr} {kk : Nat} (hg : Gl X "enumerate") (hm : X.mg "enumerate" = none) (he : DE X c Wx e f) (hs : starEach [e] X.env = [(false, eval e X.env)] := by rfl) : DI X c Wx (.Tuple elts kk tpos) (.Call (.Name "enumerate" p') [e] [] pos) (sEnum f) :=
  PI.imp (pi_enum hg hm (pa_cons he pa_nil (by rw [hs]; rfl)) hs) fun σ H R ⟨F, ρ, I, q⟩ => ev_split I q fun u x H1 F1 I1 s1 g1 p1 => by
    obtain ⟨d, _, hd, p1⟩ := gd g1 p1
    unfold asList at p1
    split at p1
    · cases hd with
      | lst s r => exact ⟨_, _, rfl, SqL.of (I1.le _ _ s), p1 H1 F1 (step_refl I1) _ (src_enum s r)⟩
    · exact p1.elim
end
end DL

namespace DL
open PySem PySem.Spec PyProof.Rows L2 SeqAt HT
section
variable {X : Cx} {c : Act} {Wx : WX} {e a b d : Expr} {f fa fb fd : En → M Wv} {pos : Pos}
/-! ## a, b = e1, e2 -/
def asg2 (m : List Nat) (i j : Nat) (fa fb : En → M Wv) (ρ : En) : M Fl := fa (frz m ρ) >>= fun u => fb (frz m ρ) >>= fun w =>
  .ok (.nx (((if (u.still && w.still) = true then ρ else frz m ρ).set i (some u)).set j (some w)))
theorem Res.later {K : PySem.W.Frag} {pi : Pot} {H0 F0 H F H' F' : Hp} {v : V} {w : Wv} (r : Res K pi H0 H F v w) (p0 : PotIn pi H0 F0) (s : Step pi H F H' F') : Res K pi H0 H' F' v w := r.step p0 s
theorem ds_par (m : List Nat) (i j : Nat) {x y : Str} {px py pt : Pos} {kt k2 : Nat} {pt2 : Pos} (hc : X.calm = true) (hN : X.N.Nodup) (hi : X.N[i]? = some x) (hj : X.N[j]? = some y) (hij : i ≠ j)
    (hx : X.env.scope.names.lookup x = some .local) (hy : X.env.scope.names.lookup y = some .local) (ha : DE X c Wx a fa) (hb : DE X c Wx b fb)
    (hw : swappedStores [.Tuple [.Name x px, .Name y py] kt pt] (.Tuple [a, b] k2 pt2) X.env = pure (some [x, y]))
    (hs : swapsWithSole [.Tuple [.Name x px, .Name y py] kt pt] (.Tuple [a, b] k2 pt2) pos.line X.env = pure false := by rfl)
    (h1 : starEach [a, b] X.env = (false, eval a X.env) :: starEach [b] X.env := by rfl) (h2 : starEach [b] X.env = (false, eval b X.env) :: starEach [] X.env := by rfl) :
    DS X c Wx (.Assign [.Tuple [.Name x px, .Name y py] kt pt] (.Tuple [a, b] k2 pt2) pos) (asg2 m i j fa fb) :=
  PS.imp (ps_par hc hN hi hj hij hx hy (pa_cons ha (pa_cons hb pa_nil h2) h1) hw hs) fun D σ H ⟨F, ρ, I, p⟩ => by
    refine ev_st (m := m) I p fun u v1 Fp H1 F1 mo J s1 r1 q => ?_
    refine ⟨F1, frz m ρ, J.step s1, M.post_mono (M.post_bind.mp q) (fun w q H2 F2 s2 v2 r2 => ?_) fun e q cls d H2 F2 s2 x => q cls d σ H2 F2 ((J.step s1).st.trans J.p0 s2) x⟩
    refine ⟨v1, v2, rfl, ?_⟩
    have s12 := s1.trans J.pot s2
    have r1' : Res X.K c.pi H H2 F2 v1 u := Res.later r1 J.pot s2
    have n1 : ∀ {x : Addr}, H1 x = none → c.H0 x = none := fun z => (J.step s1).st.none_of J.p0 z
    have up : ∀ {ρ' : En} {G : Hp}, SR X.K c σ H2 G ρ' → (∀ (j : Nat) (ys : List DL.D) (a : Addr), ρ'[j]? = some (some (.own ys)) → σ[j]? = some (some (.ref a)) → H a ≠ none) → Res X.K c.pi H H2 G v1 u → Res X.K c.pi H1 H2 G v2 w → SR X.K c ((σ.set i (some v1)).set j (some v2)) H2 G ((ρ'.set i (some u)).set j (some w)) := fun {ρ' G} L hn t1 t2 => by
      have L1 := L.set (i := i) t1 (fun a z => I.st.none_of I.p0 z) hn
      refine L1.set (i := j) t2 (fun a z => n1 z) fun k ys a e1 e2 => ?_
      by_cases z : k = i
      · subst z
        have hk : k < ρ'.length := by
          by_cases q : k < ρ'.length
          · exact q
          · rw [List.getElem?_eq_none (by rw [List.length_set]; omega)] at e1; cases e1
        rw [List.getElem?_set_self hk] at e1
        rw [List.getElem?_set_self (by rw [← L.len]; exact hk)] at e2
        cases e1
        cases e2
        obtain ⟨a', vs, e3, ha, _⟩ := r1
        cases e3
        rw [ha]
        exact fun z => nomatch z
      · rw [List.getElem?_set_ne (Ne.symm z)] at e1 e2
        have h3 := hn k ys a e1 e2
        intro h4
        exact h3 (s1.none_of J.pot h4)
    by_cases hs : (u.still && w.still) = true
    · rw [if_pos hs] at q
      obtain ⟨hu, hw⟩ := Bool.and_eq_true_iff.mp hs
      obtain ⟨I1, b1, _, _⟩ := I.back mo s12
      exact q _ H2 _ (up I1 (fun j ys a e1 e2 => I.ownAt e1 e2) (I.backRes mo s12 r1' hu) (I.backRes mo s12 r2 hw)) b1
    · rw [if_neg hs] at q
      exact q _ H2 _ (up (J.step s12) (fun j ys a e1 e2 => J.ownAt e1 e2) r1' r2) (mo.1.trans s12.mono)
/-! ## a, b, .. = e -/
def unp (m : List Nat) (is : List Nat) (f : En → M Wv) (ρ : En) : M Fl := f (frz m ρ) >>= fun w => w.d >>= fun d => match bT is d (if noL d = true then ρ else frz m ρ) with
  | some ρ' => .ok (.nx ρ')
  | none => .bad
theorem ds_unp (m : List Nat) {tg : Expr} {is : List Nat} (he : DE X c Wx e f) (hg : DG X c tg is (bT is)) (hs : swapsWithSole [tg] e pos.line X.env = pure false := by rfl) (hw : swappedStores [tg] e X.env = pure none := by rfl) (h1 : (assignEach [tg] X.env).map (·.2) = [assign tg X.env] := by rfl) : DS X c Wx (.Assign [tg] e pos) (unp m is f) :=
  PS.imp (ps_asg he hg hs hw h1) fun D σ H ⟨F, ρ, I, p⟩ => by
    refine ev_st (m := m) I p fun w v Fp H1 F1 mo J s r q => ?_
    obtain ⟨d, hd, q2⟩ := d_ok q
    have fin : ∀ {ρ' : En} {G : Hp}, SR X.K c σ H1 G ρ' → DR X.K G v d → Same F G → (match bT is d ρ' with | some ρ' => (.ok (.nx ρ') : M Fl) | none => .bad).post (SF X.K c F D) (SX X.K X.mg c Wx) →
        EvG X.K c is (bT is) v σ H1 D.nx := fun {ρ' G} L rd sm z => by
      split at z
      · rename_i ρ2 eb
        exact ⟨G, ρ', d, L, rd, ρ2, eb, fun σ' L' _ => z σ' H1 G L' sm⟩
      · exact z.elim
    by_cases hn : noL d = true
    · rw [if_pos hn] at q2
      obtain ⟨I1, b1, _, _⟩ := I.back mo s
      have ew := still_of hd hn
      subst ew
      exact fin I1 (I.backRes mo s r hn) b1 q2
    · rw [if_neg hn] at q2
      obtain ⟨F2, s2, _, rd⟩ := Res.give (F0 := Fp) r hd J.pot s
      exact fin (J.step s2) rd (mo.1.trans s2.mono) q2
/-! ## xs[i] = e -/
def sto1 (i : Nat) (d : D) (j : Int) (ρ : En) : M Fl := ownAt ρ i >>= fun xs => match ixN xs.length j with
  | some k => .ok (.nx (ρ.set i (some (.own (xs.set k d)))))
  | none => .bad
def sto2 (n : List Nat) (i : Nat) (d : D) (fi : En → M Wv) (ρ : En) : M Fl := ownAt ρ i >>= fun _ => fi (frz n ρ) >>= fun u => asI u >>= fun j => sto1 i d j ρ
def sto (m n : List Nat) (i : Nat) (f fi : En → M Wv) (ρ : En) : M Fl := f (frz m ρ) >>= fun w => w.d >>= fun d => sto2 n i d fi (if noL d = true then ρ else frz m ρ)
theorem ds_sto (m n : List Nat) (i : Nat) {x : Str} {p1 tpos : Pos} {ie : Expr} {fi : En → M Wv} (he : DE X c Wx e f) (hi : DE X c Wx ie fi)
    (ha : ∀ v, assign (.Subscript (.Name x p1) ie tpos) X.env v = (do
      let ov ← holding [v] (eval (.Name x p1) X.env)
      let iv ← holding [v, ov] (eval ie X.env)
      standAt tpos
      holding [v, ov, iv] (setItem ov iv v)
      release [v, ov, iv] []) := by intro _; rfl)
    (hN : X.N[i]? = some x := by rfl) (hv : Vis X.env.scope x := by first | exact Or.inl rfl | exact Or.inr (Or.inl rfl) | exact Or.inr (Or.inr rfl)) (hd : (x == ("__debug__" : Str)) = false := by decide)
    (hcd : (x == ("__classdict__" : Str)) = false := by decide) (hs : swapsWithSole [.Subscript (.Name x p1) ie tpos] e pos.line X.env = pure false := by rfl) (hw : swappedStores [.Subscript (.Name x p1) ie tpos] e X.env = pure none := by rfl)
    (h1 : (assignEach [.Subscript (.Name x p1) ie tpos] X.env).map (·.2) = [assign (.Subscript (.Name x p1) ie tpos) X.env] := by rfl) : DS X c Wx (.Assign [.Subscript (.Name x p1) ie tpos] e pos) (sto m n i f fi) :=
  PS.imp (ps_asg he (pg_sub (pe_var hN hv hd hcd) hi set_list ha) hs hw h1) fun D σ H ⟨F, ρ, I, p⟩ => by
    refine ev_st (m := m) I p fun w v Fp H1 F1 mo J s r q => ?_
    obtain ⟨d, hd, q2⟩ := d_ok q
    have fin : ∀ {ρ' : En} {G : Hp}, SR X.K c σ H1 G ρ' → DR X.K G v d → Same F G → (sto2 n i d fi ρ').post (SF X.K c F D) (SX X.K X.mg c Wx) →
        gSub (tVar i) (Ev X.K X.mg c Wx fi) rSetL v σ H1 D.nx := fun {ρ' G} L rd sm z => by
      obtain ⟨xs, ex, z⟩ := ownAt_ok z
      obtain ⟨v2, hv2, a, vs, e2, ha, hF, h0, hs⟩ := L.slot i _ ex
      subst e2
      refine ⟨_, hv2, ev_st (m := n) L z fun u y Gp H2 G2 mo2 J2 s2 r2 q3 => ?_⟩
      obtain ⟨L2, b2, _, _⟩ := L.back mo2 s2
      have g2 : Gv X.K c.pi G2 y u.give ∨ True := .inr trivial
      unfold asI at q3
      split at q3
      · rename_i j
        have r2' : DR X.K G2 y (.int j) := r2
        cases r2'
        obtain ⟨xs', ex', z2⟩ := ownAt_ok q3
        obtain ⟨v3, hv3, a', vs', e3, ha', hF', h0', hs'⟩ := L2.slot i _ ex'
        rw [hv2] at hv3
        cases hv3
        cases e3
        split at z2
        · rename_i k ek
          refine ⟨a, vs', j, k, rfl, rfl, ha', by rw [hs'.length]; exact ek, ?_⟩
          exact z2 σ _ _ (L2.write ex' hv2 (DRs.set (rd.mono b2) k hs')) (sm.trans b2)
        · exact z2.elim
      · exact q3.elim
    by_cases hn : noL d = true
    · rw [if_pos hn] at q2
      obtain ⟨I1, b1, _, _⟩ := I.back mo s
      have ew := still_of hd hn
      subst ew
      exact fin I1 (I.backRes mo s r hn) b1 q2
    · rw [if_neg hn] at q2
      obtain ⟨F2, s2, _, rd⟩ := Res.give (F0 := Fp) r hd J.pot s
      exact fin (J.step s2) rd (mo.1.trans s2.mono) q2
/-! ## {} -/
theorem de_dict0 : DE X c Wx (.Dict [] [] pos) (fun _ => .ok (.dat (.dict []))) := PE.imp pe_dnewK fun σ H Q ⟨F, ρ, I, p⟩ q hq => by
  have sl := Step.lay (o := .dK []) I.le I.pot hq
  exact p _ _ sl (.ref q) (.dct (kvs := []) upd_same rfl .nil)
/-! ## x = a if t else b; x.append(e): one of two lists of one's own grows -/
def ali (m n : List Nat) (i ia ib : Nat) (t : En → M Bool) (f : En → M Wv) (ρ : En) : M Fl := t (frz m ρ) >>= fun k => ali1 n i (if k = true then ia else ib) f ρ
where ali1 (n : List Nat) (i j : Nat) (f : En → M Wv) (ρ : En) : M Fl := if i < ρ.length then ownAt (ρ.set i none) j >>= fun _ => f (frz n (ρ.set i none)) >>= fun w => w.d >>= fun d => if noL d = true then app1 (ρ.set i none) j d else .bad else .bad
theorem dss_ali (m n : List Nat) (i ia ib : Nat) {t : Expr} {ft : En → M Bool} {x xa xb : Str} {px pa pb p1 pos2 ipos apos cpos : Pos} {sts : List Stmt} {g : En → M Fl} (hNd : X.N.Nodup) (hl : Loc X.env.scope x) (ht : DT X c Wx t ft) (he : DE X c Wx e f) (hr : DSs X c Wx sts g) (nia : ia ≠ i) (nib : ib ≠ i)
    (hN : X.N[i]? = some x := by rfl) (hNa : X.N[ia]? = some xa := by rfl) (hNb : X.N[ib]? = some xb := by rfl)
    (hv : Vis X.env.scope x := by first | exact Or.inl rfl | exact Or.inr (Or.inl rfl) | exact Or.inr (Or.inr rfl)) (hva : Vis X.env.scope xa := by first | exact Or.inl rfl | exact Or.inr (Or.inl rfl) | exact Or.inr (Or.inr rfl)) (hvb : Vis X.env.scope xb := by first | exact Or.inl rfl | exact Or.inr (Or.inl rfl) | exact Or.inr (Or.inr rfl))
    (hd : (x == ("__debug__" : Str)) = false := by decide) (hda : (xa == ("__debug__" : Str)) = false := by decide) (hdb : (xb == ("__debug__" : Str)) = false := by decide)
    (hcd : (x == ("__classdict__" : Str)) = false := by decide) (hca : (xa == ("__classdict__" : Str)) = false := by decide) (hcb : (xb == ("__classdict__" : Str)) = false := by decide)
    (hs0 : swapsWith (.IfExp t (.Name xa pa) (.Name xb pb) ipos) (some (.Name x px)) pos.line X.env = pure false := by rfl) (hf : X.fn x = true ∨ X.env.scope.names.lookup x = some .local := by first | exact .inl rfl | exact .inr rfl)
    (hb : attributeBase (.Name x p1) "append" X.env (eval (.Name x p1) X.env) = eval (.Name x p1) X.env := by rfl)
    (hfew : ((backTo cpos (starEach [e] X.env)).all (fun x => !x.1) && (backToKw cpos (keywordEach [] X.env)).all (fun x => x.1.isSome) && decide ([e].length + ([] : List Keyword).length + (if ([] : List Keyword).isEmpty then 0 else 1) < 30)) = true := by rfl)
    (hline : (apos.endLine == cpos.line) = true := by rfl) (hs : starEach [e] X.env = (false, eval e X.env) :: starEach [] X.env := by rfl) (hsw : swapsWith (.Call (.Attribute (.Name x p1) "append" apos) [e] [] cpos) none pos2.line X.env = pure false := by rfl) :
    DSs X c Wx (.Assign [.Name x px] (.IfExp t (.Name xa pa) (.Name xb pb) ipos) pos :: .Expr (.Call (.Attribute (.Name x p1) "append" apos) [e] [] cpos) pos2 :: sts) (seq (ali m n i ia ib ft f) g) := by
  refine PSs.imp (pss_cons (ps_set (hf := hf) hNd hN hl (pe_ifExp ht (pe_var hNa hva hda hca) (pe_var hNb hvb hdb hcb)) hs0)
    (pss_cons (ps_expr (pe_bm PySem.F.plainAttrs_list PySem.F.slot_list_append PySem.F.type_list_append mt_append (pe_var hN hv hd hcd) (pa_cons he pa_nil hs) hb hfew hline hs (by rfl)) hsw) hr)) fun D σ H ⟨F, ρ, I, p⟩ => ?_
  unfold seq ali at p
  rw [M.bind_assoc'] at p
  have main : ∀ (j : Nat) (H1 F1 : Hp), j ≠ i → SR X.K c σ H1 F1 ρ → Same F F1 → (ali.ali1 n i j f ρ >>= fun | .nx ρ' => g ρ' | fl => .ok fl).post (SF X.K c F D) (SX X.K X.mg c Wx) →
      ∃ v, σ[j]? = some (some v) ∧ tDrop (tBM X.K "list" rAppend (tVar i) (tCons (Ev X.K X.mg c Wx f) tNil)) { D with nx := EvS X.K X.mg c Wx g D } (σ.set i (some v)) H1 := fun j H1 F1 hj I1 sm q => by
    unfold ali.ali1 at q
    split at q
    · rename_i hi
      rw [M.bind_assoc'] at q
      obtain ⟨xs, ex, q⟩ := ownAt_ok q
      have ex0 : ρ[j]? = some (some (.own xs)) := by rw [List.getElem?_set_ne (Ne.symm hj)] at ex; exact ex
      obtain ⟨v, hv, a, vs, rfl, ha, hF, h0, hs⟩ := I1.slot j _ ex0
      have Id : SR X.K c (σ.set i (some (.ref a))) H1 F1 (ρ.set i none) := I1.drop i _
      have hx : (σ.set i (some (V.ref a)))[i]? = some (some (.ref a)) := List.getElem?_set_self (by rw [← I1.len]; exact hi)
      refine ⟨_, hv, _, hx, .inl ⟨rfl, vs, SqL.of ha⟩, ?_⟩
      rw [M.bind_assoc'] at q
      refine ev_st (m := n) Id q fun w y Gp H2 G2 mo J s r q2 => ?_
      rw [M.bind_assoc'] at q2
      obtain ⟨d, hd, q3⟩ := d_ok q2
      split at q3
      · rename_i hn
        obtain ⟨L, b1, _, _⟩ := Id.back mo s
        have ew := still_of hd hn
        subst ew
        have rd := Id.backRes mo s r hn
        unfold app1 at q3
        rw [M.bind_assoc'] at q3
        obtain ⟨xs2, ex2, q4⟩ := ownAt_ok q3
        obtain ⟨v2, hv2, a2, vs2, e2, ha2, hF2, h02, hs2⟩ := L.slot j _ ex2
        rw [List.getElem?_set_ne (Ne.symm hj), hv] at hv2
        cases hv2
        cases e2
        have hz : xs2.length ≤ 1000000 := by
          by_cases z : xs2.length ≤ 1000000
          · exact z
          · unfold small at q4
            rw [if_neg z] at q4
            exact q4.elim
        rw [small_of hz] at q4
        refine ⟨a, vs2, y, rfl, rfl, ha2, ?_, ?_⟩
        · rw [hs2.length]
          exact Nat.lt_of_le_of_lt hz (by rw [sizeLine_eq]; decide)
        · have W := L.write ex2 (by rw [List.getElem?_set_ne (Ne.symm hj)]; exact hv) (hs2.append (.cons rd .nil))
          exact ⟨_, _, W, M.post_mono q4 (fun fl z => z.older (sm.trans b1)) fun _ z => z⟩
      · exact q3.elim
    · exact q.elim
  refine et_st (m := m) I p fun k H1 F1 I1 sm q => ?_
  cases k with
  | true => exact iteT (main ia H1 F1 nia I1 sm q)
  | false => exact iteF (main ib H1 F1 nib I1 sm q)
end
end DL

namespace DL
open PySem PySem.Spec PyProof.Rows L2 SeqAt HT
/-! ## the rules in short -/
section
variable {X : Cx} {c : Act} {Wx : WX} {a b d : Expr} {es : List Expr} {f fa fb fd : En → M Wv} {fs : En → M (List Wv)} {pos p : Pos} {k : Nat}
theorem Room.u65 {A : Around} (r : Room k A) : A.units + 65 < cLine := by have := r.un; omega
theorem Room.u100 {A : Around} (r : Room k A) : A.units + 100 < cLine := by have := r.un; omega
theorem de_add (ha : DE X c Wx a fa) (hb : DE X c Wx b fb) : DE X c Wx (.BinOp a .Add b pos) (bin2 opAdd fa fb) := de_op (op_add.or (op_add_str.or (op_cat.or op_catA))) ok_opAdd ha hb
theorem de_sub (ha : DE X c Wx a fa) (hb : DE X c Wx b fb) : DE X c Wx (.BinOp a .Sub b pos) (bin2 opSub fa fb) := de_op op_sub ok_iI ha hb
theorem de_mul (ha : DE X c Wx a fa) (hb : DE X c Wx b fb) : DE X c Wx (.BinOp a .Mult b pos) (bin2 opMul fa fb) := de_op ((op_mul.or op_rep).or (op_repT.or op_repS)) ok_opMul ha hb
theorem de_mod (ha : DE X c Wx a fa) (hb : DE X c Wx b fb) : DE X c Wx (.BinOp a .Mod b pos) (bin2 opMod fa fb) := de_op op_mod ok_opMod ha hb
theorem de_fdiv (ha : DE X c Wx a fa) (hb : DE X c Wx b fb) : DE X c Wx (.BinOp a .FloorDiv b pos) (bin2 opFdiv fa fb) := de_op op_fdiv ok_opFdiv ha hb
theorem de_pow (ha : DE X c Wx a fa) (hb : DE X c Wx b fb) : DE X c Wx (.BinOp a .Pow b pos) (bin2 opPow fa fb) := de_op op_pow ok_opPow ha hb
theorem de_shl (ha : DE X c Wx a fa) (hb : DE X c Wx b fb) : DE X c Wx (.BinOp a .LShift b pos) (bin2 opShl fa fb) := de_op op_shl ok_opShl ha hb
theorem de_eq (r : Room k X.A) (ha : DE X c Wx a fa) (hb : DE X c Wx b fb) : DE X c Wx (.Compare a [.Eq] [b] pos) (bin2 opEq fa fb) := de_cmp (op_eq.or (op_eqF r.units)) ok_opEq ha hb (nomark _)
theorem de_ne (r : Room k X.A) (ha : DE X c Wx a fa) (hb : DE X c Wx b fb) : DE X c Wx (.Compare a [.NotEq] [b] pos) (bin2 opNe fa fb) := de_cmp (op_ne.or (op_neF r.units)) ok_opNe ha hb (nomark _)
theorem dt_eq (r : Room k X.A) (ha : DE X c Wx a fa) (hb : DE X c Wx b fb) : DT X c Wx (.Compare a [.Eq] [b] pos) (tst (bin2 opEq fa fb)) := dt_cmp (op_eq.or (op_eqF r.units)) ok_opEq ha hb (nomark _)
theorem dt_ne (r : Room k X.A) (ha : DE X c Wx a fa) (hb : DE X c Wx b fb) : DT X c Wx (.Compare a [.NotEq] [b] pos) (tst (bin2 opNe fa fb)) := dt_cmp (op_ne.or (op_neF r.units)) ok_opNe ha hb (nomark _)
theorem de_in (r : Room k X.A) (ha : DE X c Wx a fa) (hb : DE X c Wx b fb) (hm : behindInMarks .In b = false := by rfl) : DE X c Wx (.Compare a [.In] [b] pos) (bin2 opIn fa fb) := de_cmp (op_in_str.or (op_inF (Room.u65 r))) ok_opIn ha hb hm
theorem dt_in (r : Room k X.A) (ha : DE X c Wx a fa) (hb : DE X c Wx b fb) (hm : behindInMarks .In b = false := by rfl) : DT X c Wx (.Compare a [.In] [b] pos) (tst (bin2 opIn fa fb)) := dt_cmp (op_in_str.or (op_inF (Room.u65 r))) ok_opIn ha hb hm
theorem de_notin (r : Room k X.A) (ha : DE X c Wx a fa) (hb : DE X c Wx b fb) (hm : behindInMarks .NotIn b = false := by rfl) : DE X c Wx (.Compare a [.NotIn] [b] pos) (bin2 opNotIn fa fb) := de_cmp (op_notin_str.or (op_notInF (Room.u65 r))) ok_opNotIn ha hb hm
theorem dt_notin (r : Room k X.A) (ha : DE X c Wx a fa) (hb : DE X c Wx b fb) (hm : behindInMarks .NotIn b = false := by rfl) : DT X c Wx (.Compare a [.NotIn] [b] pos) (tst (bin2 opNotIn fa fb)) := dt_cmp (op_notin_str.or (op_notInF (Room.u65 r))) ok_opNotIn ha hb hm
theorem de_lt (r : Room k X.A) (ha : DE X c Wx a fa) (hb : DE X c Wx b fb) : DE X c Wx (.Compare a [.Lt] [b] pos) (bin2 opLt fa fb) := de_cmp (op_lt.or (op_lt_str.or (op_ltF r.units))) ok_opLt ha hb (nomark _)
theorem dt_lt (r : Room k X.A) (ha : DE X c Wx a fa) (hb : DE X c Wx b fb) : DT X c Wx (.Compare a [.Lt] [b] pos) (tst (bin2 opLt fa fb)) := dt_cmp (op_lt.or (op_lt_str.or (op_ltF r.units))) ok_opLt ha hb (nomark _)
theorem de_le (ha : DE X c Wx a fa) (hb : DE X c Wx b fb) : DE X c Wx (.Compare a [.LtE] [b] pos) (bin2 opLe fa fb) := de_cmp op_le ok_iB ha hb (nomark _)
theorem dt_le (ha : DE X c Wx a fa) (hb : DE X c Wx b fb) : DT X c Wx (.Compare a [.LtE] [b] pos) (tst (bin2 opLe fa fb)) := dt_cmp op_le ok_iB ha hb (nomark _)
theorem de_gt (ha : DE X c Wx a fa) (hb : DE X c Wx b fb) : DE X c Wx (.Compare a [.Gt] [b] pos) (bin2 opGt fa fb) := de_cmp op_gt ok_iB ha hb (nomark _)
theorem dt_gt (ha : DE X c Wx a fa) (hb : DE X c Wx b fb) : DT X c Wx (.Compare a [.Gt] [b] pos) (tst (bin2 opGt fa fb)) := dt_cmp op_gt ok_iB ha hb (nomark _)
theorem de_ge (ha : DE X c Wx a fa) (hb : DE X c Wx b fb) : DE X c Wx (.Compare a [.GtE] [b] pos) (bin2 opGe fa fb) := de_cmp op_ge ok_iB ha hb (nomark _)
theorem dt_ge (ha : DE X c Wx a fa) (hb : DE X c Wx b fb) : DT X c Wx (.Compare a [.GtE] [b] pos) (tst (bin2 opGe fa fb)) := dt_cmp op_ge ok_iB ha hb (nomark _)
theorem de_is (ha : DE X c Wx a fa) (hb : DE X c Wx b fb) : DE X c Wx (.Compare a [.Is] [b] pos) (bin2 opIsN fa fb) := de_cmp op_isN ok_opIsN ha hb (nomark _)
theorem dt_is (ha : DE X c Wx a fa) (hb : DE X c Wx b fb) : DT X c Wx (.Compare a [.Is] [b] pos) (tst (bin2 opIsN fa fb)) := dt_cmp op_isN ok_opIsN ha hb (nomark _)
theorem de_isnot (ha : DE X c Wx a fa) (hb : DE X c Wx b fb) : DE X c Wx (.Compare a [.IsNot] [b] pos) (bin2 opNotN fa fb) := de_cmp op_notN ok_opNotN ha hb (nomark _)
theorem dt_isnot (ha : DE X c Wx a fa) (hb : DE X c Wx b fb) : DT X c Wx (.Compare a [.IsNot] [b] pos) (tst (bin2 opNotN fa fb)) := dt_cmp op_notN ok_opNotN ha hb (nomark _)
def vNeg : D → M Wv
  | .int i => .ok (.dat (.int (-i)))
  | _ => .bad
def opNeg (u : Wv) : M Wv := u.d >>= vNeg
def un1 (g : Wv → M Wv) (fa : En → M Wv) (ρ : En) : M Wv := fa ρ >>= fun u => g u.give
theorem ok_neg {K : PySem.W.Frag} : UnOk K (rU fun i => .int (-i)) opNeg := fun pi H F x u Q E l p g h => by
  obtain ⟨d, rfl, hd, h⟩ := gd g h
  unfold vNeg at h
  split at h
  · cases hd
    exact ⟨_, rfl, Fin.val h l p (.int _)⟩
  · exact h.elim
theorem de_neg (ha : DE X c Wx a fa) : DE X c Wx (.UnaryOp .USub a pos) (un1 opNeg fa) := de_un un_neg ok_neg ha
theorem de_ix (ha : DE X c Wx a fa) (hb : DE X c Wx b fb) (hs : PlainIx b := by exact fun _ _ => rfl) : DE X c Wx (.Subscript a b pos) (bin2 opIx fa fb) := PE.imp (pe_ix ix_seq ha hb hs) (ev_bin ok_opIx)
def call (g : List Wv → M Wv) (fs : En → M (List Wv)) (ρ : En) : M Wv := fs ρ >>= g
def sub (lo hi : En → M (Option Int)) (f : En → M Wv) (ρ : En) : M Wv := f ρ >>= fun u => lo ρ >>= fun l => hi ρ >>= fun h => u.give.d >>= fun d => vCut d l h
theorem de_sl {lo hi : Option Expr} {fl fh : En → M (Option Int)} {p2 : Pos} (he : DE X c Wx a f) (hl : DO X c Wx lo fl) (hh : DO X c Wx hi fh) : DE X c Wx (.Subscript a (.Slice lo hi none p2) pos) (sub fl fh f) := de_cut he hl hh
def rev (f : En → M Wv) (ρ : En) : M Wv := f ρ >>= fun u => u.give.d >>= vRev
theorem de_rv {k : Nat} {p1 p2 p3 : Pos} (he : DE X c Wx a f) : DE X c Wx (.Subscript a (.Slice none none (some (.UnaryOp .USub (.Constant (.int 1) k p1) p2)) p3) pos) (rev f) := de_rev he
def tup (fs : En → M (List Wv)) (ρ : En) : M Wv := fs ρ >>= mkTup
def lst (fs : En → M (List Wv)) (ρ : En) : M Wv := fs ρ >>= mkLst
theorem de_tp {x1} (h : DA X c Wx es fs) : DE X c Wx (.Tuple es x1 pos) (tup fs) := de_tup h
theorem de_ls (h : DA X c Wx es fs) : DE X c Wx (.List es pos) (lst fs) := de_lst h
def kN : En → M Wv := fun _ => .ok (.dat .none)
def kB' (b : Bool) : En → M Wv := fun _ => .ok (.dat (.bool b))
def kI (i : Int) : En → M Wv := fun _ => .ok (.dat (.int i))
def kS (x : Str) : En → M Wv := fun _ => .ok (.dat (.str x))
def kT (n : String) : En → M Wv := fun _ => .ok (.raw (.ty n))
def kD0 : En → M Wv := fun _ => .ok (.dat (.dict []))
theorem dk_N {j pos} : DE X c Wx (.Constant .none j pos) kN := de_non
theorem dk_B {b j pos} : DE X c Wx (.Constant (.bool b) j pos) (kB' b) := de_bl
theorem dk_I {i j pos} : DE X c Wx (.Constant (.int i) j pos) (kI i) := de_int
theorem dk_S {x j pos} : DE X c Wx (.Constant (.str x) j pos) (kS x) := de_str
theorem dk_gS {x z : Str} (hg : Gl X x) (hm : ∃ t, X.mg x = some (.str z t)) (hd : (x == ("__debug__" : Str)) = false := by decide) : DE X c Wx (.Name x pos) (kS z) := de_globS hg hm hd
theorem dk_gI {x : Str} {i : Int} (hg : Gl X x) (hm : ∃ t, X.mg x = some (.int i t)) (hd : (x == ("__debug__" : Str)) = false := by decide) : DE X c Wx (.Name x pos) (kI i) := de_globI hg hm hd
theorem dk_T {x : Str} {n : String} (hg : Gl X x) (hm : X.mg x = none) (hv : bootBuiltins x = some (.type n)) (hn : x ≠ "__name__" := by decide) (hd : (x == ("__debug__" : Str)) = false := by decide) : DE X c Wx (.Name x pos) (kT n) :=
  de_c (v := .ty n) (pe_bltn hg hm hv rfl hn hd) fun _ => rfl
theorem dk_D0 : DE X c Wx (.Dict [] [] pos) kD0 := de_dict0
/-! calls of builtins: hm says that the module has no such name -/
variable {st1 : starEach (a :: es) X.env = (false, eval a X.env) :: starEach es X.env} {st2 : (backTo pos (starEach es X.env)).any (·.1) = false}
theorem dc_len (hm : X.mg "len" = none) (hg : Gl X "len") (ha : DA X c Wx (a :: es) fs) (he : starEach (a :: es) X.env = (false, eval a X.env) :: starEach es X.env := by rfl) (hpl : (backTo pos (starEach es X.env)).any (·.1) = false := by rfl) : DE X c Wx (.Call (.Name "len" p) (a :: es) [] pos) (call (f1 vLen) fs) :=
  de_callB call_len ok_len hg hm boot_len ha (by decide) (by decide) he hpl
theorem dc_isi (n : String) (hm : X.mg "isinstance" = none) (hg : Gl X "isinstance") (ha : DA X c Wx (a :: es) fs) (he : starEach (a :: es) X.env = (false, eval a X.env) :: starEach es X.env := by rfl) (hpl : (backTo pos (starEach es X.env)).any (·.1) = false := by rfl) : DE X c Wx (.Call (.Name "isinstance" p) (a :: es) [] pos) (call (opIsi n) fs) :=
  de_callB call_isi (ok_isi n) hg hm boot_isinstance ha (by decide) (by decide) he hpl
theorem dc_all (hc : X.calm = true) (hm : X.mg "all" = none) (hg : Gl X "all") (ha : DA X c Wx (a :: es) fs) (he : starEach (a :: es) X.env = (false, eval a X.env) :: starEach es X.env := by rfl) (hpl : (backTo pos (starEach es X.env)).any (·.1) = false := by rfl) : DE X c Wx (.Call (.Name "all" p) (a :: es) [] pos) (call (f1 vAll) fs) :=
  de_callB (cr_all hc) ok_all hg hm boot_all ha (by decide) (by decide) he hpl
theorem dc_any (hc : X.calm = true) (hm : X.mg "any" = none) (hg : Gl X "any") (ha : DA X c Wx (a :: es) fs) (he : starEach (a :: es) X.env = (false, eval a X.env) :: starEach es X.env := by rfl) (hpl : (backTo pos (starEach es X.env)).any (·.1) = false := by rfl) : DE X c Wx (.Call (.Name "any" p) (a :: es) [] pos) (call (f1 vAny) fs) :=
  de_callB (cr_any hc) ok_any hg hm boot_any ha (by decide) (by decide) he hpl
theorem dc_sum (hc : X.calm = true) (hm : X.mg "sum" = none) (hg : Gl X "sum") (ha : DA X c Wx (a :: es) fs) (he : starEach (a :: es) X.env = (false, eval a X.env) :: starEach es X.env := by rfl) (hpl : (backTo pos (starEach es X.env)).any (·.1) = false := by rfl) : DE X c Wx (.Call (.Name "sum" p) (a :: es) [] pos) (call (f1 vSum) fs) :=
  de_callB (cr_sum hc) ok_sum hg hm boot_sum ha (by decide) (by decide) he hpl
theorem dc_max2 (hc : X.calm = true) (hm : X.mg "max" = none) (hg : Gl X "max") (ha : DA X c Wx (a :: es) fs) (he : starEach (a :: es) X.env = (false, eval a X.env) :: starEach es X.env := by rfl) (hpl : (backTo pos (starEach es X.env)).any (·.1) = false := by rfl) : DE X c Wx (.Call (.Name "max" p) (a :: es) [] pos) (call (f2 (vI2 fun i j => if j > i then j else i)) fs) :=
  de_callB (call_max2 hc) ok_i2 hg hm boot_max ha (by decide) (by decide) he hpl
theorem dc_min2 (hc : X.calm = true) (hm : X.mg "min" = none) (hg : Gl X "min") (ha : DA X c Wx (a :: es) fs) (he : starEach (a :: es) X.env = (false, eval a X.env) :: starEach es X.env := by rfl) (hpl : (backTo pos (starEach es X.env)).any (·.1) = false := by rfl) : DE X c Wx (.Call (.Name "min" p) (a :: es) [] pos) (call (f2 (vI2 fun i j => if j < i then j else i)) fs) :=
  de_callB (call_min2 hc) ok_i2 hg hm boot_min ha (by decide) (by decide) he hpl
theorem dc_abs (hm : X.mg "abs" = none) (hg : Gl X "abs") (ha : DA X c Wx (a :: es) fs) (he : starEach (a :: es) X.env = (false, eval a X.env) :: starEach es X.env := by rfl) (hpl : (backTo pos (starEach es X.env)).any (·.1) = false := by rfl) : DE X c Wx (.Call (.Name "abs" p) (a :: es) [] pos) (call (f1 vAbs) fs) :=
  de_callB call_abs ok_abs hg hm boot_abs ha (by decide) (by decide) he hpl
theorem dc_int (hm : X.mg "int" = none) (hg : Gl X "int") (ha : DA X c Wx (a :: es) fs) (he : starEach (a :: es) X.env = (false, eval a X.env) :: starEach es X.env := by rfl) (hpl : (backTo pos (starEach es X.env)).any (·.1) = false := by rfl) : DE X c Wx (.Call (.Name "int" p) (a :: es) [] pos) (call (f1 vInt) fs) :=
  de_callTy call_int1 ok_int1 hg hm boot_int ha (by decide) (by decide) he hpl
theorem dc_tuple (hm : X.mg "tuple" = none) (hg : Gl X "tuple") (ha : DA X c Wx (a :: es) fs) (he : starEach (a :: es) X.env = (false, eval a X.env) :: starEach es X.env := by rfl) (hpl : (backTo pos (starEach es X.env)).any (·.1) = false := by rfl) : DE X c Wx (.Call (.Name "tuple" p) (a :: es) [] pos) (call (f1 vTuple) fs) :=
  de_callTy call_tuple_of ok_tuple hg hm boot_tuple ha (by decide) (by decide) he hpl
theorem dc_list (hm : X.mg "list" = none) (hg : Gl X "list") (ha : DA X c Wx (a :: es) fs) (he : starEach (a :: es) X.env = (false, eval a X.env) :: starEach es X.env := by rfl) (hpl : (backTo pos (starEach es X.env)).any (·.1) = false := by rfl) : DE X c Wx (.Call (.Name "list" p) (a :: es) [] pos) (call (f1 vList) fs) :=
  de_callTy call_list_of ok_list hg hm boot_list ha (by decide) (by decide) he hpl
theorem dc_repr (r : Room k X.A) (gd : X.A.guards = some []) (sy : SysIn X.base) (hm : X.mg "repr" = none) (hg : Gl X "repr") (ha : DA X c Wx (a :: es) fs) (he : starEach (a :: es) X.env = (false, eval a X.env) :: starEach es X.env := by rfl) (hpl : (backTo pos (starEach es X.env)).any (·.1) = false := by rfl) : DE X c Wx (.Call (.Name "repr" p) (a :: es) [] pos) (call (f1 vRepr) fs) :=
  de_callB (cr_repr gd (Room.u100 r) sy) ok_repr hg hm boot_repr ha (by decide) (by decide) he hpl
def ccall (n : Nat) (g : List Wv → M Wv) (fs : En → M (List Wv)) (ρ : En) : M Wv := fs ρ >>= fun ws => if ws.length = n then g ws else .bad
theorem dc_own {x : Str} {n : Nat} {g : List Wv → M Wv} (G : Den X.prog X.w X.K X.mg X.base k x n g) (room : Room k X.A) (guard : X.A.guards = some []) (tk : Takes X Wx) (hg : Gl X x) (ha : DA X c Wx (a :: es) fs) (hn : (a :: es).length = n := by rfl)
    (hdb : (x == ("__debug__" : Str)) = false := by decide) (he : starEach (a :: es) X.env = (false, eval a X.env) :: starEach es X.env := by rfl) (hpl : (backTo pos (starEach es X.env)).any (·.1) = false := by rfl) :
    DE X c Wx (.Call (.Name x p) (a :: es) [] pos) (ccall n g fs) := de_call G room guard hg tk ha hn hdb he hpl
end
/-! ## a def of the text -/
def Has (K : PySem.W.Frag) (mg : Str → Option Value) (x : Str) (st : Stmt) (ps : List Str) : Prop := ∃ f fd, mg x = some (.ref f) ∧ Fun K x x st f fd ∧ Binds K fd ps []
structure Sys (K : PySem.W.Frag) (mg : Str → Option Value) (base : Heap) : Prop where
  sys : SysIn base
structure Ar (X : Cx) (Wx : WX) (k : Nat) : Prop where
  at_ : At X Wx k
  sys : SysIn X.base
theorem Ar.room {X : Cx} {Wx : WX} {k : Nat} (a : Ar X Wx k) : Room k X.A := a.at_.room
theorem Ar.guard {X : Cx} {Wx : WX} {k : Nat} (a : Ar X Wx k) : X.A.guards = some [] := a.at_.guard
theorem Ar.tk {X : Cx} {Wx : WX} {k : Nat} (a : Ar X Wx k) : Takes X Wx := a.at_.tk
theorem Ar.own {X : Cx} {Wx : WX} {k : Nat} (a : Ar X Wx k) : PassesOwn (model X.prog X.w) X.A X.env X.xe := a.at_.own
theorem has_den {P : Program} {w : World} {K : PySem.W.Frag} {mg : Str → Option Value} {base : Heap} {k : Nat} {x : Str} {st : Stmt} {N ps : List Str} {g : En → M Fl} (sy : SysIn base) (T : Has K mg x st ps) (S : FnScope N ps (defScope st))
    (h : ∀ (f : Addr) (cd : Value) (A : Around) (out : List Env) (s : Shared) (H : Hp) (E : XK) (c : Act), Ar (cxOf (L2.CX P w) P w K mg base N x (defScope st) f cd A out s H E) (fun cls d _ H => E cls d H) k →
      DSs (cxOf (L2.CX P w) P w K mg base N x (defScope st) f cd A out s H E) c (fun cls d _ H => E cls d H) (defBody st) g) : Den P w K mg base (k + 1) x ps.length (body N.length g) := by
  obtain ⟨f, fd, hm, F, hb⟩ := T
  exact den_of hm F hb S fun cd A out s H E c a => h f cd A out s H E c ⟨a, sy⟩
end DL

namespace DL
open PySem PySem.Spec PyProof.Rows L2 SeqAt HT
/-! ## the drawing of numbers -/
theorem shaped_ints (ns : List Int) : shaped (.list (ns.map PyData.int)) = true := by
  have h1 : PyData.canLayAll0 (ns.map PyData.int) = true := by
    induction ns with
    | nil => rfl
    | cons n ns ih =>
      simp only [List.map_cons]
      unfold PyData.canLayAll0 PyData.canLay0
      simpa using ih
  have h2 : PyData.depthAll (ns.map PyData.int) ≤ 1 := by
    induction ns with
    | nil => decide
    | cons n ns ih =>
      simp only [List.map_cons]
      unfold PyData.depthAll PyData.depth
      have := ih (by simpa [PyData.canLayAll0, PyData.canLay0] using h1)
      omega
  unfold shaped PyData.canLay0 PyData.depth
  simp only [h1, Bool.true_and, decide_eq_true_eq]
  omega
theorem drs_ints {K : PySem.W.Frag} {F : Hp} : ∀ ns : List Int, DRs K F (ns.map V.int) (ns.map PyData.int)
  | [] => .nil
  | n :: ns => .cons (.int n) (drs_ints ns)
theorem Step.potset {H F : Hp} {p c : Addr} (l : Same F H) (hp : PotIn (some (p, c)) H F) (n x y : Int) : Step (some (p, c)) H F (upd H p (.lst [.ref c, .int n, .int x, .int y])) F := by
  obtain ⟨⟨i, x', y', r⟩, f, ns, r2, ne⟩ := hp p c rfl
  refine ⟨Same.refl F, fun a u e => ?_, fun a u e => .inl e, fun a u q e => ?_, fun q c' e => ?_⟩
  · have z : a ≠ p := fun z => by subst z; rw [f] at e; cases e
    rw [upd_ne z]; exact l a u e
  · rw [upd_ne (q p c rfl)]; exact e
  · cases e
    exact ⟨⟨n, x, y, upd_same⟩, f, ns, by rw [upd_ne ne]; exact r2, ne⟩
section
variable {K : PySem.W.Frag} {H F : Hp} {σ : L2.St} {Q : VK} {p c : Addr}
theorem ix_pot {i : Nat} {k : Int} {xs : List V} {v : V} (hσ : σ[i]? = some (some (.ref p))) (hp : H p = some (.lst xs)) (hi : atI xs k = some v) (q : Q v H) : tOp (rIx K) (tVar i) (tC (.int k)) σ H Q :=
  ⟨.ref p, hσ, .inl ⟨p, xs, k, v, rfl, rfl, .inl (.inl hp), hi, q⟩⟩
theorem set_pot {i : Nat} {k : Int} {xs : List V} {v : V} {R : L2.St → Hp → Prop} {j : Nat} (hσ : σ[i]? = some (some (.ref p))) (hp : H p = some (.lst xs)) (hi : ixN xs.length k = some j) (q : R σ (upd H p (.lst (xs.set j v)))) : gSub (tVar i) (tC (.int k)) rSetL v σ H R :=
  ⟨.ref p, hσ, p, xs, k, j, rfl, rfl, hp, hi, q⟩
end
theorem ifT {P Q : Prop} {b : Bool} (h : b = true) (p : P) : if b = true then P else Q := by rw [if_pos h]; exact p
theorem ifF {P Q : Prop} {b : Bool} (h : b = false) (q : Q) : if b = true then P else Q := by rw [if_neg (by rw [h]; exact Bool.false_ne_true)]; exact q
abbrev rInt : List V → Hp → VK → Prop := fun xs H Q => (∃ i, xs = [V.int i] ∧ Q (V.int i) H) ∨ ∃ k, xs = [V.bl k] ∧ Q (V.int (if k = true then 1 else 0)) H
abbrev rLen (K : PySem.W.Frag) : List V → Hp → VK → Prop := fun xs H Q => ∃ x n, xs = [x] ∧ LenV K x H n ∧ Q (V.int ↑n) H
abbrev cPlace : TE := tVar 4
abbrev iPlace : TE := tCB rInt (tCons (tVar 4) tNil)
/-- what _law_below does, with the place as tp tells it -/
def tDraw (K : PySem.W.Frag) (tp : TE) (kn : TA → TE) (big : Int) : TS :=
  tSeq (tIfS (tTest (tOp (rI0 fun i j => V.bl (decide (i < j))) (tOp (rIx K) (tVar 0) (tC (V.int 3))) (tVar 1)))
    (tSeq (tPar 3 4 (tCons (tOp (rIx K) (tVar 0) (tC (V.int 0))) (tCons (tOp (rIx K) (tVar 0) (tC (V.int 1))) tNil)))
    (tSeq (tAsg (tIf (tTest (tOp (rEqF K true) (tVar 3) (tLst tNil))) (tOp (rIx K) (tVar 3) (tOp (rI (fun x j => 0 < j) fun i j => V.int (i % j)) tp (tCB (rLen K) (tCons (tVar 3) tNil)))) (tC (V.int 0))) (gName 2))
    (tSeq (tIfS (tOr (tTest (tOp (rI0 fun i j => V.bl (decide (j ≤ i))) (tVar 4) (tCB (rLen K) (tCons (tVar 3) tNil)))) (tTest (tOp (rI0 fun i j => V.bl (decide (i < j))) (tVar 2) (tOp (rI CPow fun i j => V.int (i ^ j.toNat)) (tC (V.int 10)) (tC (V.int 16))))))
        (tSeq (tAsg (kn (tCons (tOp (rI (fun x j => 0 < j) fun i j => V.int (i % j)) (tCB rInt (tCons (tVar 2) tNil)) (tC (V.int big))) (tCons (tVar 4) tNil))) (gName 2)) tNext) tNext)
    (tSeq (tAsg (tOp (rI0 fun i j => V.int (i + j)) (tVar 4) (tC (V.int 1))) (gSub (tVar 0) (tC (V.int 1)) rSetL))
    (tSeq (tAsg (tVar 2) (gSub (tVar 0) (tC (V.int 2)) rSetL))
    (tSeq (tAsg (tVar 2) (gSub (tVar 0) (tC (V.int 3)) rSetL)) tNext)))))) tNext)
  (tSeq (tAsg (tOp (rI (fun x j => 0 < j) fun i j => V.int (i % j)) (tCB rInt (tCons (tOp (rIx K) (tVar 0) (tC (V.int 2))) tNil)) (tVar 1)) (gName 5))
  (tSeq (tAsg (tOp (rI CDivW fun i j => V.int (i / j)) (tOp (rIx K) (tVar 0) (tC (V.int 2))) (tVar 1)) (gSub (tVar 0) (tC (V.int 2)) rSetL))
  (tSeq (tAsg (tOp (rI CDivW fun i j => V.int (i / j)) (tOp (rIx K) (tVar 0) (tC (V.int 3))) (tVar 1)) (gSub (tVar 0) (tC (V.int 3)) rSetL))
  (tSeq (tRet (tVar 5)) tNext))))
def dPot : List Wv → M Wv
  | [.pot, .dat (.int b)] => if 0 < b ∧ b.natAbs.log2 < 9000 then .pick b.toNat fun r => .ok (.dat (.int r)) else .bad
  | _ => .bad
/-- what a call of the mixing function does -/
def Kneads (kn : TA → TE) : Prop := ∀ (pi : Pot) (t : TA) (σ : L2.St) (H F : Hp) (Q : VK) (a b : Int), Same F H → PotIn pi H F → (∀ R : List V → Hp → Prop, R [.int a, .int b] H → t σ H R) → (∀ H' F', Step pi H F H' F' → ∀ i : Int, Q (.int i) H') → kn t σ H Q
theorem atI_nat {α : Type} {xs : List α} {i : Int} (h0 : 0 ≤ i) (h1 : i < xs.length) : ∃ v, atI xs i = some v := by
  unfold atI ixN
  rw [if_pos h0, if_pos h1]
  exact ⟨xs[i.toNat]'(by omega), by simp⟩
theorem draw_ok {K : PySem.W.Frag} {tp : TE} {kn : TA → TE} {big : Int} (hbig : 0 < big) (hkn : Kneads kn)
    (htp : ∀ (σ : L2.St) (H : Hp) (Q : VK) (i : Int), σ[4]? = some (some (.int i)) → Q (.int i) H → tp σ H Q)
    {H F : Hp} {p c : Addr} {b : Int} {Q : VK} {D : Ends} (l : Same F H) (hp : PotIn (some (p, c)) H F) (hb : 0 < b ∧ b.natAbs.log2 < 9000)
    (q : ∀ H' F', Step (some (p, c)) H F H' F' → ∀ r : Nat, r < b.toNat → D.rt (.int r) H') (s2 s3 s4 s5 : Option V) : tDraw K tp kn big D [some (.ref p), some (.int b), s2, s3, s4, s5] H := by
  have tail : ∀ (H' F' : Hp) (s2 s3 s4 s5 : Option V), Step (some (p, c)) H F H' F' → tSeq (tAsg (tOp (rI (fun x j => 0 < j) fun i j => V.int (i % j)) (tCB rInt (tCons (tOp (rIx K) (tVar 0) (tC (V.int 2))) tNil)) (tVar 1)) (gName 5))
      (tSeq (tAsg (tOp (rI CDivW fun i j => V.int (i / j)) (tOp (rIx K) (tVar 0) (tC (V.int 2))) (tVar 1)) (gSub (tVar 0) (tC (V.int 2)) rSetL))
      (tSeq (tAsg (tOp (rI CDivW fun i j => V.int (i / j)) (tOp (rIx K) (tVar 0) (tC (V.int 3))) (tVar 1)) (gSub (tVar 0) (tC (V.int 3)) rSetL))
      (tSeq (tRet (tVar 5)) tNext))) D [some (.ref p), some (.int b), s2, s3, s4, s5] H' := by
    intro H' F' s2 s3 s4 s5 st
    obtain ⟨⟨n, x, y, r⟩, f, ns, r2, ne⟩ := st.pot p c rfl
    refine ix_pot rfl r rfl (.inl ⟨x, rfl, .int b, rfl, x, b, rfl, rfl, hb.1, ?_⟩)
    refine ix_pot (p := p) rfl r rfl ⟨.int b, rfl, x, b, rfl, rfl, hb, set_pot (p := p) (j := 2) rfl r rfl ?_⟩
    refine ix_pot (p := p) rfl upd_same rfl ⟨.int b, rfl, y, b, rfl, rfl, hb, set_pot (p := p) (j := 3) rfl upd_same rfl ?_⟩
    refine ⟨_, rfl, ?_⟩
    have st2 := st.trans hp (Step.potset st.le st.pot n (x / b) y)
    have st3 := st2.trans hp (Step.potset st2.le st2.pot n (x / b) (y / b))
    have h0 : 0 ≤ x % b := Int.emod_nonneg x (by omega)
    have h1 : x % b < b := Int.emod_lt_of_pos x hb.1
    have h2 : x % b = ((x % b).toNat : Int) := by omega
    have q' := q _ _ st3 (x % b).toNat (by omega)
    rw [← h2] at q'
    exact q'
  obtain ⟨⟨n, x, y, r⟩, f, ns, r2, ne⟩ := hp p c rfl
  refine ix_pot rfl r rfl ⟨.int b, rfl, y, b, rfl, rfl, _, rfl, ?_⟩
  by_cases hlt : y < b
  · refine ifT (by simpa using hlt) ?_
    refine ix_pot (p := p) rfl r rfl (ix_pot (p := p) rfl r rfl ⟨_, _, rfl, ?_⟩)
    have rest : ∀ (H' F' : Hp) (amount : Int), Step (some (p, c)) H F H' F' → tSeq (tAsg (tOp (rI0 fun i j => V.int (i + j)) (tVar 4) (tC (V.int 1))) (gSub (tVar 0) (tC (V.int 1)) rSetL))
        (tSeq (tAsg (tVar 2) (gSub (tVar 0) (tC (V.int 2)) rSetL)) (tSeq (tAsg (tVar 2) (gSub (tVar 0) (tC (V.int 3)) rSetL)) tNext))
        { nx := (tSeq (tAsg (tOp (rI (fun x j => 0 < j) fun i j => V.int (i % j)) (tCB rInt (tCons (tOp (rIx K) (tVar 0) (tC (V.int 2))) tNil)) (tVar 1)) (gName 5))
      (tSeq (tAsg (tOp (rI CDivW fun i j => V.int (i / j)) (tOp (rIx K) (tVar 0) (tC (V.int 2))) (tVar 1)) (gSub (tVar 0) (tC (V.int 2)) rSetL))
      (tSeq (tAsg (tOp (rI CDivW fun i j => V.int (i / j)) (tOp (rIx K) (tVar 0) (tC (V.int 3))) (tVar 1)) (gSub (tVar 0) (tC (V.int 3)) rSetL))
      (tSeq (tRet (tVar 5)) tNext)))) D, rt := D.rt, bk := D.bk, ct := D.ct } [some (.ref p), some (.int b), some (.int amount), some (.ref c), some (.int n), s5] H' := by
      intro H' F' amount st
      obtain ⟨⟨n', x', y', r'⟩, f', ns', r2', ne'⟩ := st.pot p c rfl
      refine ⟨.int n, rfl, n, 1, rfl, rfl, set_pot (p := p) (j := 1) rfl r' rfl ?_⟩
      refine ⟨.int amount, rfl, set_pot (p := p) (j := 2) rfl upd_same rfl ?_⟩
      refine ⟨.int amount, rfl, set_pot (p := p) (j := 3) rfl upd_same rfl ?_⟩
      have st1 := st.trans hp (Step.potset st.le st.pot (n + 1) x' y')
      have st2 := st1.trans hp (Step.potset st1.le st1.pot (n + 1) amount y')
      have st3 := st2.trans hp (Step.potset st2.le st2.pot (n + 1) amount amount)
      exact tail _ _ _ _ _ _ st3
    have mid : ∀ (H' F' : Hp) (amount : Int) (R : Ends), Step (some (p, c)) H F H' F' → (∀ (H'' F'' : Hp) (am : Int), Step (some (p, c)) H F H'' F'' → R.nx [some (.ref p), some (.int b), some (.int am), some (.ref c), some (.int n), s5] H'') →
        tIfS (tOr (tTest (tOp (rI0 fun i j => V.bl (decide (j ≤ i))) (tVar 4) (tCB (rLen K) (tCons (tVar 3) tNil)))) (tTest (tOp (rI0 fun i j => V.bl (decide (i < j))) (tVar 2) (tOp (rI CPow fun i j => V.int (i ^ j.toNat)) (tC (V.int 10)) (tC (V.int 16))))))
        (tSeq (tAsg (kn (tCons (tOp (rI (fun x j => 0 < j) fun i j => V.int (i % j)) (tCB rInt (tCons (tVar 2) tNil)) (tC (V.int big))) (tCons (tVar 4) tNil))) (gName 2)) tNext) tNext R [some (.ref p), some (.int b), some (.int amount), some (.ref c), some (.int n), s5] H' := by
      intro H' F' amount R st go
      obtain ⟨⟨n', x', y', r'⟩, f', ns', r2', ne'⟩ := st.pot p c rfl
      have doit : tSeq (tAsg (kn (tCons (tOp (rI (fun x j => 0 < j) fun i j => V.int (i % j)) (tCB rInt (tCons (tVar 2) tNil)) (tC (V.int big))) (tCons (tVar 4) tNil))) (gName 2)) tNext R [some (.ref p), some (.int b), some (.int amount), some (.ref c), some (.int n), s5] H' := by
        refine hkn (some (p, c)) _ _ _ F' _ (amount % big) n st.le st.pot (fun R' hR => ?_) fun H'' F'' st2 i => go H'' F'' i (st.trans hp st2)
        exact ⟨.int amount, rfl, .inl ⟨amount, rfl, amount, big, rfl, rfl, hbig, .int n, rfl, hR⟩⟩
      refine ⟨.int n, rfl, .ref c, rfl, .ref c, ns'.length, rfl, .inl ⟨_, .inl (.inl r2'), by rw [List.length_map]⟩, n, _, rfl, rfl, _, rfl, ?_⟩
      by_cases h1 : (ns'.length : Int) ≤ n
      · exact ifT (by simpa using h1) (ifT rfl doit)
      · refine ifF (by simpa using h1) ⟨.int amount, rfl, 10, 16, rfl, rfl, ⟨by decide, by decide, by decide⟩, amount, _, rfl, rfl, _, rfl, ?_⟩
        by_cases h2 : decide (amount < (10 : Int) ^ (16 : Int).toNat) = true
        · exact ifT h2 doit
        · exact ifF (by simpa using h2) (go H' F' amount st)
    have dr : ∀ {G : Hp}, Same H G → DR K G (.ref c) (.list (ns.map PyData.int)) := fun m => .lst (m _ _ r2) (drs_ints ns)
    refine ⟨.ref c, rfl, by show (0:Nat) ≤ _; omega, fun a ha => ⟨upd H a (.lst []), .list (ns.map .int), .list [], Same.refl _, dr (fun x o e => by rw [upd_ne (ne_of_none e ha)]; exact e), .lst upd_same .nil, shaped_ints ns, rfl, _, rfl, ?_⟩⟩
    have stA : Step (some (p, c)) H F (upd H a (.lst [])) F := Step.layH l hp ha
    obtain ⟨⟨nA, xA, yA, rA⟩, fA, nsA, r2A, neA⟩ := stA.pot p c rfl
    have r2A' : upd H a (.lst []) c = some (.lst (ns.map V.int)) := by rw [upd_ne (ne_of_none r2 ha)]; exact r2
    cases ns with
    | nil =>
      refine ifF (by decide) ?_
      exact mid _ _ 0 _ stA fun H'' F'' am st => rest H'' F'' am st
    | cons n0 ns0 =>
      refine ifT (by rfl) ⟨.ref c, rfl, htp _ _ _ n rfl ⟨.ref c, rfl, .ref c, (n0 :: ns0).length, rfl, .inl ⟨_, .inl (.inl r2A'), by rw [List.length_map]⟩, n, _, rfl, rfl, by simp only [List.length_cons]; omega, ?_⟩⟩
      have h0 : 0 ≤ n % ((n0 :: ns0).length : Int) := Int.emod_nonneg n (by simp only [List.length_cons]; omega)
      have h1 : n % ((n0 :: ns0).length : Int) < ((n0 :: ns0).length : Int) := Int.emod_lt_of_pos n (by simp only [List.length_cons]; omega)
      obtain ⟨v, hv⟩ := atI_nat (xs := (n0 :: ns0).map V.int) h0 (by rw [List.length_map]; exact h1)
      have hv2 : ∃ am : Int, v = .int am := by
        unfold atI at hv
        rw [Option.bind_eq_some_iff] at hv
        obtain ⟨j, _, hj⟩ := hv
        rw [List.getElem?_map, Option.map_eq_some_iff] at hj
        obtain ⟨am, _, e⟩ := hj
        exact ⟨am, e.symm⟩
      obtain ⟨am, rfl⟩ := hv2
      refine .inl ⟨c, _, _, _, rfl, rfl, .inl (.inl r2A'), hv, ?_⟩
      exact mid _ _ am _ stA fun H'' F'' am st => rest H'' F'' am st
  · exact ifF (by simpa using hlt) (tail H F s2 s3 s4 s5 (Step.refl l hp))
theorem kneads_of {K : PySem.W.Frag} {mg : Str → Option Value} {g : List Wv → M Wv} {E : L2.St → XK} (h : ∀ a b : Int, ∃ i : Int, g [.dat (.int a), .dat (.int b)] = .ok (.dat (.int i))) : Kneads (tCallS (spD K mg 2 g) E) := fun pi t σ H F Q a b l hp ht q => by
  refine ht _ ⟨rfl, pi, F, [.dat (.int a), .dat (.int b)], l, hp, .cons (.int a) (.cons (.int b) .nil), ?_⟩
  obtain ⟨i, e⟩ := h a b
  rw [e]
  intro H' F' st v r
  cases r
  exact q H' F' st i
/-- a draw's promise from what its def does -/
theorem draw_den {K : PySem.W.Frag} {mg : Str → Option Value} {tp : TE} {kn : TA → TE} {big : Int} {N0 N1 N2 N3 N4 N5 : Str} (hbig : 0 < big) (hkn : Kneads kn)
    (htp : ∀ (σ : L2.St) (H : Hp) (Q : VK) (i : Int), σ[4]? = some (some (.int i)) → Q (.int i) H → tp σ H Q) {vs : List V} {H : Hp} {Q : VK} {E : XK} (z : spD K mg 2 dPot vs H Q E) :
    tDraw K tp kn big { nx := fun _ H' => Q .non H', rt := Q } (L2.start [N0, N1, N2, N3, N4, N5] vs) H := by
  obtain ⟨z1, pi, F, ws, l, hp, gv, q⟩ := z
  cases gv with
  | nil => cases z1
  | cons g1 gr =>
    cases gr with
    | nil => cases z1
    | cons g2 gr2 =>
      cases gr2 with
      | cons _ _ => cases z1
      | nil =>
        unfold dPot at q
        split at q
        · rename_i b e
          cases e
          obtain ⟨p, c, rfl, rfl⟩ := g1
          cases g2
          split at q
          · rename_i hb
            exact draw_ok hbig hkn htp (Q := Q) l hp hb (fun H' F' st r hr => q r hr H' F' st (.int r) (.int r)) _ _ _ _
          · exact q.elim
        · exact q.elim
end DL

namespace DL
open PySem (PyData)
/-! ## reckoning: each rule steps once, what follows waits under a name -/
section
variable {α β : Type} {m n vs : List Nat} {i j : Nat} {f fa fb fc : En → M Wv} {g g' : En → M Fl} {t ta tb : En → M Bool} {fs : En → M (List Wv)} {ρ : En} {w u : Wv} {o : Option Wv} {d : D} {ds xs ys : List D} {k : Bool}
def sel {α : Type} (b : Bool) (x y : α) : α := match b with
  | true => x
  | false => y
theorem sel_true {x y : α} : sel true x y = x := id rfl
theorem sel_false {x y : α} : sel false x y = y := id rfl
theorem sel_self {b : Bool} {x : α} : sel b x x = x := by cases b <;> rfl
theorem okb {f : α → M β} {a : α} : ((M.ok a : M α) >>= f) = f a := id rfl
theorem excb {e : Ex} {f : α → M β} : ((M.exc e : M α) >>= f) = .exc e := id rfl
theorem badb {f : α → M β} : ((M.bad : M α) >>= f) = .bad := id rfl
theorem pickb {f : α → M β} {n : Nat} {h : Nat → M α} : ((M.pick n h : M α) >>= f) = .pick n fun i => h i >>= f := id rfl
theorem okp {a : α} {Q : α → Prop} {E : Ex → Prop} : (M.ok a).post Q E = Q a := id rfl
theorem pickp {n : Nat} {h : Nat → M α} {Q : α → Prop} {E : Ex → Prop} : (M.pick n h).post Q E = ∀ i, i < n → (h i).post Q E := id rfl
theorem ddat : Wv.d (.dat d) = .ok d := id rfl
theorem down : Wv.d (.own xs) = .ok (.list xs) := id rfl
theorem sdat : Wv.still (.dat d) = noL d := id rfl
theorem sown : Wv.still (.own xs) = noLs xs := id rfl
theorem sraw {v : L2.V} : Wv.still (.raw v) = true := id rfl
theorem spot : Wv.still .pot = true := id rfl
theorem gdat : Wv.give (.dat d) = .dat d := id rfl
theorem gown : Wv.give (.own xs) = .dat (.list xs) := id rfl
theorem graw {v : L2.V} : Wv.give (.raw v) = .raw v := id rfl
theorem gpot : Wv.give .pot = .pot := id rfl
theorem asBb {b : Bool} : asB (.dat (.bool b)) = .ok b := id rfl
theorem asIi {z : Int} : asI (.dat (.int z)) = .ok z := id rfl
theorem kBok {b : Bool} : kB (.ok b) = .ok (.dat (.bool b)) := id rfl
theorem noxok {a : α} : M.nox (M.ok a) = .ok a := id rfl
theorem datas0 : datas [] = .ok [] := id rfl
/-! slots -/
theorem frz1_own : frz1 0 (some (.own xs) :: ρ) = some (.dat (.list xs)) :: ρ := id rfl
theorem frz1_dat : frz1 0 (some (.dat d) :: ρ) = some (.dat d) :: ρ := id rfl
theorem frz1_raw {v : L2.V} : frz1 0 (some (.raw v) :: ρ) = some (.raw v) :: ρ := id rfl
theorem frz1_pot : frz1 0 (some .pot :: ρ) = some .pot :: ρ := id rfl
theorem frz1_none : frz1 0 (none :: ρ) = none :: ρ := id rfl
theorem frz1_nil : frz1 i [] = [] := by cases i <;> rfl
theorem frz1_succ : frz1 (i + 1) (o :: ρ) = o :: frz1 i ρ := by
  unfold frz1
  rw [List.getElem?_cons_succ]
  cases ρ[i]? with
  | none => rfl
  | some z => cases z with
    | none => rfl
    | some z => cases z <;> rfl
theorem frz_nil : frz [] ρ = ρ := id rfl
theorem frz_cons : frz (i :: m) ρ = frz m (frz1 i ρ) := id rfl
theorem rdv_dat : rdv 0 (some (.dat d) :: ρ) = .ok (.dat d) := id rfl
theorem rdv_raw {v : L2.V} : rdv 0 (some (.raw v) :: ρ) = .ok (.raw v) := id rfl
theorem rdv_pot : rdv 0 (some .pot :: ρ) = .ok .pot := id rfl
theorem rdv_succ : rdv (i + 1) (o :: ρ) = rdv i ρ := id rfl
theorem rtnV_zero : rtnV 0 (some w :: ρ) = .ok (.ret w) := id rfl
theorem rtnV_succ : rtnV (i + 1) (o :: ρ) = rtnV i ρ := id rfl
theorem ownAt_zero : ownAt (some (.own xs) :: ρ) 0 = .ok xs := id rfl
theorem ownAt_succ : ownAt (o :: ρ) (i + 1) = ownAt ρ i := id rfl
theorem startE_eq {N : Nat} {ws : List Wv} : startE N ws = ws.map some ++ List.replicate (N - ws.length) none := id rfl
/-! statements -/
def seqK (g' : En → M Fl) : Fl → M Fl
  | .nx ρ' => g' ρ'
  | fl => .ok fl
theorem seq_e : seq g g' ρ = g ρ >>= seqK g' := by unfold seq; congr 1
theorem seqK_nx : seqK g' (.nx ρ) = g' ρ := id rfl
theorem seqK_ret : seqK g' (.ret w) = .ok (.ret w) := id rfl
theorem seqK_brk : seqK g' (.brk ρ) = .ok (.brk ρ) := id rfl
theorem seqK_cont : seqK g' (.cont ρ) = .ok (.cont ρ) := id rfl
def asgK (m : List Nat) (i : Nat) (ρ : En) (w : Wv) : M Fl := .ok (.nx ((if w.still = true then ρ else frz m ρ).set i (some w)))
theorem asg_e : asg m i f ρ = f (frz m ρ) >>= asgK m i ρ := id rfl
theorem asgK_e : asgK m i ρ w = .ok (.nx (sel w.still (ρ.set i (some w)) ((frz m ρ).set i (some w)))) := by
  unfold asgK
  cases w.still <;> rfl
def rtnK (w : Wv) : M Fl := .ok (.ret w)
theorem rtn_e : rtn m f ρ = f (frz m ρ) >>= rtnK := id rfl
theorem rtnK_e : rtnK w = .ok (.ret w) := id rfl
theorem rtnN_e : rtnN ρ = .ok (.ret (.dat .none)) := id rfl
def exsK (ρ : En) (_ : Wv) : M Fl := .ok (.nx ρ)
theorem exs_e : exs m f ρ = f (frz m ρ) >>= exsK ρ := id rfl
theorem exsK_e : exsK ρ w = .ok (.nx ρ) := id rfl
def ifsK (g g' : En → M Fl) (ρ : En) (b : Bool) : M Fl := if b = true then g ρ else g' ρ
theorem ifs_e : ifs m t g g' ρ = t (frz m ρ) >>= ifsK g g' ρ := id rfl
theorem ifsK_true : ifsK g g' ρ true = g ρ := id rfl
theorem ifsK_false : ifsK g g' ρ false = g' ρ := id rfl
theorem skip_e : skip ρ = .ok (.nx ρ) := id rfl
theorem brkS_e : brkS ρ = .ok (.brk ρ) := id rfl
theorem contS_e : contS ρ = .ok (.cont ρ) := id rfl
theorem badS_e : badS ρ = .bad := id rfl
theorem body_e {N : Nat} {ws : List Wv} : body N g ws = g (startE N ws) >>= fin := id rfl
theorem fin_ret : fin (.ret w) = .ok w := id rfl
theorem fin_nx : fin (.nx ρ) = .ok (.dat .none) := id rfl
def app1K (ρ : En) (i : Nat) (d : D) (xs : List D) : M Fl := small xs.length (.ok (.nx (ρ.set i (some (.own (xs ++ [d]))))))
theorem app1_e : app1 ρ i d = ownAt ρ i >>= app1K ρ i d := id rfl
theorem app1K_e : app1K ρ i d xs = small xs.length (.ok (.nx (ρ.set i (some (.own (xs ++ [d])))))) := id rfl
def appD (m : List Nat) (i : Nat) (ρ : En) (d : D) : M Fl := app1 (if noL d = true then ρ else frz m ρ) i d
def appW (m : List Nat) (i : Nat) (ρ : En) (w : Wv) : M Fl := w.d >>= appD m i ρ
def appO (m : List Nat) (i : Nat) (f : En → M Wv) (ρ : En) (_ : List D) : M Fl := f (frz m ρ) >>= appW m i ρ
theorem app_e : app m i f ρ = ownAt ρ i >>= appO m i f ρ := id rfl
theorem appO_e : appO m i f ρ xs = f (frz m ρ) >>= appW m i ρ := id rfl
theorem appW_e : appW m i ρ w = w.d >>= appD m i ρ := id rfl
theorem appD_e : appD m i ρ d = app1 (sel (noL d) ρ (frz m ρ)) i d := by
  unfold appD
  cases noL d <;> rfl
def asg2L (m : List Nat) (i j : Nat) (ρ : En) (u w : Wv) : M Fl := .ok (.nx (((if (u.still && w.still) = true then ρ else frz m ρ).set i (some u)).set j (some w)))
def asg2K (m : List Nat) (i j : Nat) (fb : En → M Wv) (ρ : En) (u : Wv) : M Fl := fb (frz m ρ) >>= asg2L m i j ρ u
theorem asg2_e : asg2 m i j fa fb ρ = fa (frz m ρ) >>= asg2K m i j fb ρ := id rfl
theorem asg2K_e : asg2K m i j fb ρ u = fb (frz m ρ) >>= asg2L m i j ρ u := id rfl
theorem asg2L_e : asg2L m i j ρ u w = .ok (.nx (sel (u.still && w.still) ((ρ.set i (some u)).set j (some w)) (((frz m ρ).set i (some u)).set j (some w)))) := by
  unfold asg2L
  cases (u.still && w.still) <;> rfl
def goOn : Option En → M Fl
  | some ρ => .ok (.nx ρ)
  | none => .bad
def unpD (m is : List Nat) (ρ : En) (d : D) : M Fl := goOn (bT is d (if noL d = true then ρ else frz m ρ))
def unpW (m is : List Nat) (ρ : En) (w : Wv) : M Fl := w.d >>= unpD m is ρ
theorem unp_e {is : List Nat} : unp m is f ρ = f (frz m ρ) >>= unpW m is ρ := by
  unfold unp
  congr 1
theorem unpW_e {is : List Nat} : unpW m is ρ w = w.d >>= unpD m is ρ := id rfl
theorem unpD_e {is : List Nat} : unpD m is ρ d = goOn (bT is d (sel (noL d) ρ (frz m ρ))) := by
  unfold unpD
  cases noL d <;> rfl
theorem goOn_some : goOn (some ρ) = .ok (.nx ρ) := id rfl
theorem goOn_none : goOn none = .bad := id rfl
theorem bT_e {is : List Nat} (h : ds.length = is.length) : bT is (.tuple ds) ρ = some (setL is ds ρ) := if_pos h
theorem setL_cons {is : List Nat} : setL (i :: is) (d :: ds) ρ = setL is ds (ρ.set i (some (.dat d))) := id rfl
theorem setL_nil : setL [] ds ρ = ρ := id rfl
theorem bN_e : bN i d ρ = some (ρ.set i (some (.dat d))) := id rfl
def atK (i : Nat) (d : D) (ρ : En) (xs : List D) (j : Int) : M Fl := goOn ((L2.ixN xs.length j).map fun k => ρ.set i (some (.own (xs.set k d))))
def sto1K (i : Nat) (d : D) (j : Int) (ρ : En) (xs : List D) : M Fl := atK i d ρ xs j
theorem sto1_e {z : Int} : sto1 i d z ρ = ownAt ρ i >>= sto1K i d z ρ := by
  unfold sto1
  congr 1
  funext xs
  unfold sto1K atK goOn
  cases L2.ixN xs.length z <;> rfl
def sto2I (i : Nat) (d : D) (ρ : En) (j : Int) : M Fl := sto1 i d j ρ
def sto2W (i : Nat) (d : D) (ρ : En) (u : Wv) : M Fl := asI u >>= sto2I i d ρ
def sto2K (n : List Nat) (i : Nat) (d : D) (fi : En → M Wv) (ρ : En) (_ : List D) : M Fl := fi (frz n ρ) >>= sto2W i d ρ
def stoD (m n : List Nat) (i : Nat) (fi : En → M Wv) (ρ : En) (d : D) : M Fl := sto2 n i d fi (if noL d = true then ρ else frz m ρ)
def stoW (m n : List Nat) (i : Nat) (fi : En → M Wv) (ρ : En) (w : Wv) : M Fl := w.d >>= stoD m n i fi ρ
theorem sto_e : sto m n i f fa ρ = f (frz m ρ) >>= stoW m n i fa ρ := id rfl
theorem stoW_e : stoW m n i fa ρ w = w.d >>= stoD m n i fa ρ := id rfl
theorem stoD_e : stoD m n i fa ρ d = sto2 n i d fa (sel (noL d) ρ (frz m ρ)) := by
  unfold stoD
  cases noL d <;> rfl
theorem sto2_e : sto2 n i d fa ρ = ownAt ρ i >>= sto2K n i d fa ρ := id rfl
theorem sto2K_e : sto2K n i d fa ρ xs = fa (frz n ρ) >>= sto2W i d ρ := id rfl
theorem sto2W_e : sto2W i d ρ u = asI u >>= sto2I i d ρ := id rfl
theorem sto2I_e {z : Int} : sto2I i d ρ z = sto1 i d z ρ := id rfl
theorem sto1K_e {z : Int} : sto1K i d z ρ xs = atK i d ρ xs z := id rfl
theorem atK_e {z : Int} : atK i d ρ xs z = goOn ((L2.ixN xs.length z).map fun k => ρ.set i (some (.own (xs.set k d)))) := id rfl
def ali1D (i j : Nat) (ρ : En) (d : D) : M Fl := if noL d = true then app1 (ρ.set i none) j d else .bad
def ali1W (i j : Nat) (ρ : En) (w : Wv) : M Fl := w.d >>= ali1D i j ρ
def ali1O (n : List Nat) (i j : Nat) (f : En → M Wv) (ρ : En) (_ : List D) : M Fl := f (frz n (ρ.set i none)) >>= ali1W i j ρ
def ali1B (n : List Nat) (i j : Nat) (f : En → M Wv) (ρ : En) : M Fl := ownAt (ρ.set i none) j >>= ali1O n i j f ρ
def aliK (n : List Nat) (i ia ib : Nat) (f : En → M Wv) (ρ : En) (k : Bool) : M Fl := ali.ali1 n i (if k = true then ia else ib) f ρ
section
variable {ia ib : Nat}
theorem ali_e : ali m n i ia ib t f ρ = t (frz m ρ) >>= aliK n i ia ib f ρ := id rfl
theorem aliK_true : aliK n i ia ib f ρ true = ali.ali1 n i ia f ρ := id rfl
theorem aliK_false : aliK n i ia ib f ρ false = ali.ali1 n i ib f ρ := id rfl
theorem ali1_e (h : i < ρ.length) : ali.ali1 n i j f ρ = ali1B n i j f ρ := if_pos h
theorem ali1B_e : ali1B n i j f ρ = ownAt (ρ.set i none) j >>= ali1O n i j f ρ := id rfl
theorem ali1O_e : ali1O n i j f ρ xs = f (frz n (ρ.set i none)) >>= ali1W i j ρ := id rfl
theorem ali1W_e : ali1W i j ρ w = w.d >>= ali1D i j ρ := id rfl
theorem ali1D_e : ali1D i j ρ d = sel (noL d) (app1 (ρ.set i none) j d) .bad := by
  unfold ali1D
  cases noL d <;> rfl
end
/-! loops -/
def forK (b : D → En → Option En) (g : En → M Fl) (ρ : En) (ds : List D) : M Fl := loop b g ds ρ
theorem forS_e {src : En → M (List D)} {b : D → En → Option En} : forS m src b g ρ = src (frz m ρ) >>= forK b g (frz m ρ) := id rfl
theorem forK_e {b : D → En → Option En} : forK b g ρ ds = loop b g ds ρ := id rfl
def loopK (b : D → En → Option En) (g : En → M Fl) (ds : List D) : Fl → M Fl
  | .nx ρ2 => loop b g ds ρ2
  | .cont ρ2 => loop b g ds ρ2
  | .brk ρ2 => .ok (.nx ρ2)
  | .ret w => .ok (.ret w)
def loopB (b : D → En → Option En) (g : En → M Fl) (ds : List D) : Option En → M Fl
  | none => .bad
  | some ρ1 => g ρ1 >>= loopK b g ds
theorem loop_nil {b : D → En → Option En} : loop b g [] ρ = .ok (.nx ρ) := id rfl
theorem loop_cons {b : D → En → Option En} : loop b g (d :: ds) ρ = loopB b g ds (b d ρ) := by
  unfold loop loopB
  cases b d ρ with
  | none => rfl
  | some ρ1 =>
    show (g ρ1 >>= _) = (g ρ1 >>= _)
    congr 1
theorem loopB_some {b : D → En → Option En} {ρ1 : En} : loopB b g ds (some ρ1) = g ρ1 >>= loopK b g ds := id rfl
theorem loopK_nx {b : D → En → Option En} : loopK b g ds (.nx ρ) = loop b g ds ρ := id rfl
theorem loopK_cont {b : D → En → Option En} : loopK b g ds (.cont ρ) = loop b g ds ρ := id rfl
theorem loopK_brk {b : D → En → Option En} : loopK b g ds (.brk ρ) = .ok (.nx ρ) := id rfl
theorem loopK_ret {b : D → En → Option En} : loopK b g ds (.ret w) = .ok (.ret w) := id rfl
/-! expressions -/
def binL (g : Wv → Wv → M Wv) (u w : Wv) : M Wv := g u.give w.give
def binK (g : Wv → Wv → M Wv) (fb : En → M Wv) (ρ : En) (u : Wv) : M Wv := fb ρ >>= binL g u
theorem bin2_e {g : Wv → Wv → M Wv} : bin2 g fa fb ρ = fa ρ >>= binK g fb ρ := id rfl
theorem binK_e {g : Wv → Wv → M Wv} : binK g fb ρ u = fb ρ >>= binL g u := id rfl
theorem binL_e {g : Wv → Wv → M Wv} : binL g u w = g u.give w.give := id rfl
def unK (g : Wv → M Wv) (u : Wv) : M Wv := g u.give
theorem un1_e {g : Wv → M Wv} : un1 g fa ρ = fa ρ >>= unK g := id rfl
theorem unK_e {g : Wv → M Wv} : unK g u = g u.give := id rfl
theorem tst_e : tst f ρ = f ρ >>= asB := id rfl
def tandK (tb : En → M Bool) (ρ : En) (x : Bool) : M Bool := if x = true then tb ρ else .ok false
def torK (tb : En → M Bool) (ρ : En) (x : Bool) : M Bool := if x = true then .ok true else tb ρ
def notK (x : Bool) : M Bool := .ok (!x)
theorem tand_e : tand ta tb ρ = ta ρ >>= tandK tb ρ := id rfl
theorem tandK_true : tandK tb ρ true = tb ρ := id rfl
theorem tandK_false : tandK tb ρ false = .ok false := id rfl
theorem tor_e : tor ta tb ρ = ta ρ >>= torK tb ρ := id rfl
theorem torK_true : torK tb ρ true = .ok true := id rfl
theorem torK_false : torK tb ρ false = tb ρ := id rfl
theorem tnot_e : tnot ta ρ = ta ρ >>= notK := id rfl
theorem notK_e : notK k = .ok (!k) := id rfl
def vandL (fb : En → M Wv) (ρ : En) (k : Bool) : M Wv := if k = true then fb ρ else .ok (.dat (.bool false))
def vandK (fb : En → M Wv) (ρ : En) (x : Wv) : M Wv := asB x >>= vandL fb ρ
def vorL (fb : En → M Wv) (ρ : En) (k : Bool) : M Wv := if k = true then .ok (.dat (.bool true)) else fb ρ
def vorK (fb : En → M Wv) (ρ : En) (x : Wv) : M Wv := asB x >>= vorL fb ρ
def vnotL (k : Bool) : M Wv := .ok (.dat (.bool !k))
def vnotK (x : Wv) : M Wv := asB x >>= vnotL
theorem vand_e : vand fa fb ρ = fa ρ >>= vandK fb ρ := id rfl
theorem vandK_e : vandK fb ρ w = asB w >>= vandL fb ρ := id rfl
theorem vandL_true : vandL fb ρ true = fb ρ := id rfl
theorem vandL_false : vandL fb ρ false = .ok (.dat (.bool false)) := id rfl
theorem vor_e : vor fa fb ρ = fa ρ >>= vorK fb ρ := id rfl
theorem vorK_e : vorK fb ρ w = asB w >>= vorL fb ρ := id rfl
theorem vorL_true : vorL fb ρ true = .ok (.dat (.bool true)) := id rfl
theorem vorL_false : vorL fb ρ false = fb ρ := id rfl
theorem vnot_e : vnot fa ρ = fa ρ >>= vnotK := id rfl
theorem vnotK_e : vnotK w = asB w >>= vnotL := id rfl
theorem vnotL_e : vnotL k = .ok (.dat (.bool !k)) := id rfl
def vifK (fa fb : En → M Wv) (ρ : En) (k : Bool) : M Wv := if k = true then fa ρ else fb ρ
theorem vif_e : vif t fa fb ρ = t ρ >>= vifK fa fb ρ := id rfl
theorem vifK_true : vifK fa fb ρ true = fa ρ := id rfl
theorem vifK_false : vifK fa fb ρ false = fb ρ := id rfl
theorem anil_e : anil ρ = .ok [] := id rfl
def aconsL (u : Wv) (us : List Wv) : M (List Wv) := .ok (u.give :: us)
def aconsK (fs : En → M (List Wv)) (ρ : En) (u : Wv) : M (List Wv) := fs ρ >>= aconsL u
theorem acons_e : acons fa fs ρ = fa ρ >>= aconsK fs ρ := id rfl
theorem aconsK_e : aconsK fs ρ u = fs ρ >>= aconsL u := id rfl
theorem aconsL_e {us : List Wv} : aconsL u us = .ok (u.give :: us) := id rfl
theorem call_e {g : List Wv → M Wv} : call g fs ρ = fs ρ >>= g := id rfl
def ccallK (n : Nat) (g : List Wv → M Wv) (ws : List Wv) : M Wv := if ws.length = n then g ws else .bad
theorem ccall_e {g : List Wv → M Wv} {z : Nat} : ccall z g fs ρ = fs ρ >>= ccallK z g := id rfl
theorem ccallK1 {g : List Wv → M Wv} {a : Wv} : ccallK 1 g [a] = g [a] := id rfl
theorem ccallK2 {g : List Wv → M Wv} {a b : Wv} : ccallK 2 g [a, b] = g [a, b] := id rfl
theorem ccallK3 {g : List Wv → M Wv} {a b c : Wv} : ccallK 3 g [a, b, c] = g [a, b, c] := id rfl
theorem ccallK4 {g : List Wv → M Wv} {a b c d : Wv} : ccallK 4 g [a, b, c, d] = g [a, b, c, d] := id rfl
def cutL (l h : Option Int) (d : D) : M Wv := vCut d l h
def cutK (u : Wv) (l h : Option Int) : M Wv := u.give.d >>= cutL l h
def subH (hi : En → M (Option Int)) (ρ : En) (u : Wv) (l : Option Int) : M Wv := hi ρ >>= cutK u l
def subK (lo hi : En → M (Option Int)) (ρ : En) (u : Wv) : M Wv := lo ρ >>= subH hi ρ u
theorem sub_e {lo hi : En → M (Option Int)} : sub lo hi f ρ = f ρ >>= subK lo hi ρ := id rfl
theorem subK_e {lo hi : En → M (Option Int)} : subK lo hi ρ u = lo ρ >>= subH hi ρ u := id rfl
theorem subH_e {hi : En → M (Option Int)} {l : Option Int} : subH hi ρ u l = hi ρ >>= cutK u l := id rfl
theorem cutK_e {l h : Option Int} : cutK u l h = u.give.d >>= cutL l h := id rfl
theorem cutL_e {l h : Option Int} : cutL l h d = vCut d l h := id rfl
theorem oN_e : oN ρ = .ok none := id rfl
def oI (i : Int) : M (Option Int) := .ok (some i)
def oSK (u : Wv) : M (Option Int) := asI u >>= oI
theorem oS_e : oS f ρ = f ρ >>= oSK := id rfl
theorem oSK_e : oSK u = asI u >>= oI := id rfl
theorem oI_e {z : Int} : oI z = .ok (some z) := id rfl
def revK (u : Wv) : M Wv := u.give.d >>= vRev
theorem rev_e : rev f ρ = f ρ >>= revK := id rfl
theorem revK_e : revK u = u.give.d >>= vRev := id rfl
def tupD (ds : List D) : M Wv := small ds.length (.ok (.dat (.tuple ds)))
def lstD (ds : List D) : M Wv := small ds.length (.ok (.own ds))
theorem tup_e : tup fs ρ = fs ρ >>= mkTup := id rfl
theorem lst_e : lst fs ρ = fs ρ >>= mkLst := id rfl
theorem mkTup_e {ws : List Wv} : mkTup ws = datas ws >>= tupD := id rfl
theorem mkLst_e {ws : List Wv} : mkLst ws = datas ws >>= lstD := id rfl
theorem tupD_e : tupD ds = small ds.length (.ok (.dat (.tuple ds))) := id rfl
theorem lstD_e : lstD ds = small ds.length (.ok (.own ds)) := id rfl
def datasK (d : D) (ds : List D) : M (List D) := .ok (d :: ds)
theorem datas_e {ws : List Wv} : datas (.dat d :: ws) = datas ws >>= datasK d := id rfl
theorem datasK_e : datasK d ds = .ok (d :: ds) := id rfl
theorem kN_e : kN ρ = .ok (.dat .none) := id rfl
theorem kB_e {b : Bool} : kB' b ρ = .ok (.dat (.bool b)) := id rfl
theorem kI_e {z : Int} : kI z ρ = .ok (.dat (.int z)) := id rfl
theorem kS_e {z : PySem.Str} : kS z ρ = .ok (.dat (.str z)) := id rfl
theorem kT_e {z : String} : kT z ρ = .ok (.raw (.ty z)) := id rfl
theorem kD0_e : kD0 ρ = .ok (.dat (.dict [])) := id rfl
def chC (p' : Int → Int → Bool) (j k : Int) : M Wv := .ok (.dat (.bool (p' j k)))
def chY (p' : Int → Int → Bool) (j : Int) (y : Wv) : M Wv := asI y >>= chC p' j
def chG (p' : Int → Int → Bool) (fc : En → M Wv) (ρ : En) (j : Int) (b : Bool) : M Wv := if b = true then fc ρ >>= chY p' j else .ok (.dat (.bool false))
def chJ (p p' : Int → Int → Bool) (fc : En → M Wv) (ρ : En) (i j : Int) : M Wv := chG p' fc ρ j (p i j)
def chI (p p' : Int → Int → Bool) (fc : En → M Wv) (ρ : En) (w : Wv) (i : Int) : M Wv := asI w >>= chJ p p' fc ρ i
def chB (p p' : Int → Int → Bool) (fc : En → M Wv) (ρ : En) (u w : Wv) : M Wv := asI u >>= chI p p' fc ρ w
def chA (p p' : Int → Int → Bool) (fb fc : En → M Wv) (ρ : En) (u : Wv) : M Wv := fb ρ >>= chB p p' fc ρ u
section
variable {p p' : Int → Int → Bool} {y z : Int}
theorem chainI_e : chainI p p' fa fb fc ρ = fa ρ >>= chA p p' fb fc ρ := id rfl
theorem chA_e : chA p p' fb fc ρ u = fb ρ >>= chB p p' fc ρ u := id rfl
theorem chB_e : chB p p' fc ρ u w = asI u >>= chI p p' fc ρ w := id rfl
theorem chI_e : chI p p' fc ρ w y = asI w >>= chJ p p' fc ρ y := id rfl
theorem chJ_e : chJ p p' fc ρ y z = chG p' fc ρ z (p y z) := id rfl
theorem chG_true : chG p' fc ρ z true = fc ρ >>= chY p' z := id rfl
theorem chG_false : chG p' fc ρ z false = .ok (.dat (.bool false)) := id rfl
theorem chY_e : chY p' z w = asI w >>= chC p' z := id rfl
theorem chC_e : chC p' y z = .ok (.dat (.bool (p' y z))) := id rfl
end
/-! sources -/
def seqSrc (u : Wv) : M (List D) := u.give.d >>= asItems
theorem sSeq_e : sSeq f ρ = f ρ >>= seqSrc := id rfl
theorem seqSrc_e : seqSrc u = u.give.d >>= asItems := id rfl
theorem asItems_list : asItems (.list xs) = .ok xs := id rfl
theorem asItems_tuple : asItems (.tuple xs) = .ok xs := id rfl
def rngI (j : Int) : M (List D) := if inR j = true then .ok (rng 0 j.toNat) else .bad
def rngW (u : Wv) : M (List D) := asI u >>= rngI
theorem sRng1_e : sRng1 f ρ = f ρ >>= rngW := id rfl
theorem rngW_e : rngW u = asI u >>= rngI := id rfl
theorem rngI_e {z : Int} (h : inR z = true) : rngI z = .ok (rng 0 z.toNat) := if_pos h
def rngJ (i j : Int) : M (List D) := if (inR i && inR j) = true then .ok (rng i (j - i).toNat) else .bad
def rngWI (w : Wv) (i : Int) : M (List D) := asI w >>= rngJ i
def rngWW (u w : Wv) : M (List D) := asI u >>= rngWI w
def rngK (fb : En → M Wv) (ρ : En) (u : Wv) : M (List D) := fb ρ >>= rngWW u
theorem sRng2_e : sRng2 fa fb ρ = fa ρ >>= rngK fb ρ := id rfl
theorem rngK_e : rngK fb ρ u = fb ρ >>= rngWW u := id rfl
theorem rngWW_e : rngWW u w = asI u >>= rngWI w := id rfl
theorem rngWI_e {z : Int} : rngWI w z = asI w >>= rngJ z := id rfl
theorem rngJ_e {y z : Int} (h : inR y = true) (h' : inR z = true) : rngJ y z = .ok (rng y (z - y).toNat) := by unfold rngJ; rw [h, h']; rfl
def zipD (a b : D) : M (List D) := vZip a b
def zipA (w : Wv) (a : D) : M (List D) := w.give.d >>= zipD a
def zipW (u w : Wv) : M (List D) := u.give.d >>= zipA w
def zipK (fb : En → M Wv) (ρ : En) (u : Wv) : M (List D) := fb ρ >>= zipW u
theorem sZip_e : sZip fa fb ρ = fa ρ >>= zipK fb ρ := id rfl
theorem zipK_e : zipK fb ρ u = fb ρ >>= zipW u := id rfl
theorem zipW_e : zipW u w = u.give.d >>= zipA w := id rfl
theorem zipA_e : zipA w d = w.give.d >>= zipD d := id rfl
theorem zipD_list : zipD (.list xs) (.list ys) = .ok (List.zipWith pairD xs ys) := id rfl
theorem zipD_tuple : zipD (.tuple xs) (.tuple ys) = .ok (List.zipWith pairD xs ys) := id rfl
def enumL (xs : List D) : M (List D) := .ok (enumD 0 xs)
def enumV (d : D) : M (List D) := asList d >>= enumL
def enumW (u : Wv) : M (List D) := u.give.d >>= enumV
theorem sEnum_e : sEnum f ρ = f ρ >>= enumW := id rfl
theorem enumW_e : enumW u = u.give.d >>= enumV := id rfl
theorem enumV_e : enumV d = asList d >>= enumL := id rfl
theorem asList_e : asList (.list xs) = .ok xs := id rfl
theorem enumL_e : enumL xs = .ok (enumD 0 xs) := id rfl
/-! comprehensions -/
def ownR (ys : List D) : M Wv := .ok (.own ys)
theorem ownR_e : ownR ys = .ok (.own ys) := id rfl
def lcK (vs : List Nat) (b : D → En → Option En) (t : En → M Bool) (el : En → M Wv) (ρ : En) (ds : List D) : M Wv := small ds.length (M.nox (lcGo vs b t el ds ρ []) >>= ownR)
theorem lc_e {src : En → M (List D)} {b : D → En → Option En} {el : En → M Wv} : lc vs src b t el ρ = src ρ >>= lcK vs b t el ρ := id rfl
theorem lcK_e {b : D → En → Option En} {el : En → M Wv} : lcK vs b t el ρ ds = small ds.length (M.nox (lcGo vs b t el ds ρ []) >>= ownR) := id rfl
theorem tYes_e : tYes ρ = .ok true := id rfl
/-- each turn one datum or none -/
theorem lcGo_ok {b : D → En → Option En} {el : En → M Wv} {p : D → Bool} {q : D → D} : ∀ (ds : List D) (ρ : En) (acc : List D),
    (∀ d ∈ ds, ∃ ρ1, b d (wipeE ρ vs) = some ρ1 ∧ t ρ1 = .ok (p d) ∧ (p d = true → ∃ w, el ρ1 = .ok w ∧ w.d = .ok (q d))) → lcGo vs b t el ds ρ acc = .ok (acc ++ (ds.filter p).map q)
  | [], ρ, acc, _ => by simp [lcGo]
  | d :: ds, ρ, acc, h => by
    obtain ⟨ρ1, h1, h2, h3⟩ := h d (List.mem_cons_self ..)
    have ih := fun acc => lcGo_ok (p := p) (q := q) ds ρ acc fun d hd => h d (List.mem_cons_of_mem _ hd)
    unfold lcGo
    rw [h1]
    simp only [h2, M.ok_bind]
    cases hp : p d with
    | true =>
      obtain ⟨w, h4, h5⟩ := h3 hp
      simp only [if_pos, h4, M.ok_bind, h5]
      rw [ih]
      simp [hp]
    | false =>
      simp only [Bool.false_eq_true, if_false]
      rw [ih]
      simp [hp]
theorem lcK_ok {b : D → En → Option En} {el : En → M Wv} (p : D → Bool) (q : D → D) (hz : ds.length ≤ 1000000)
    (h : ∀ d ∈ ds, ∃ ρ1, b d (wipeE ρ vs) = some ρ1 ∧ t ρ1 = .ok (p d) ∧ (p d = true → ∃ w, el ρ1 = .ok w ∧ w.d = .ok (q d))) : lcK vs b t el ρ ds = .ok (.own ((ds.filter p).map q)) := by
  unfold lcK
  rw [small_of hz, lcGo_ok (p := p) (q := q) ds ρ [] h]
  rfl
/-- .. with draws in it -/
theorem lcGo_post {b : D → En → Option En} {el : En → M Wv} {P : List D → Prop} {E : Ex → Prop} (I : List D → List D → Prop) : ∀ (ds : List D) (ρ : En) (acc : List D), I ds acc → (∀ acc, I [] acc → P acc) →
    (∀ d ds acc, I (d :: ds) acc → ∃ ρ1, b d (wipeE ρ vs) = some ρ1 ∧ (t ρ1).post (fun k => if k = true then (el ρ1).post (fun w => ∃ y, w.d = .ok y ∧ I ds (acc ++ [y])) E else I ds acc) E) → (lcGo vs b t el ds ρ acc).post P E
  | [], ρ, acc, h, h0, _ => h0 _ h
  | d :: ds, ρ, acc, h, h0, hs => by
    obtain ⟨ρ1, h1, h2⟩ := hs d ds acc h
    unfold lcGo
    rw [h1]
    refine M.post_bind.mpr (M.post_mono h2 (fun k z => ?_) fun _ z => z)
    cases k with
    | true =>
      rw [if_pos rfl] at z ⊢
      refine M.post_bind.mpr (M.post_mono z (fun w ⟨y, z1, z2⟩ => ?_) fun _ z => z)
      rw [z1]
      exact lcGo_post I ds ρ _ z2 h0 hs
    | false =>
      rw [if_neg Bool.false_ne_true] at z ⊢
      exact lcGo_post I ds ρ _ z h0 hs
theorem lcK_post {b : D → En → Option En} {el : En → M Wv} {P : Wv → Prop} {E : Ex → Prop} (I : List D → List D → Prop) (hz : ds.length ≤ 1000000) (h0 : I ds []) (h1 : ∀ acc, I [] acc → P (.own acc))
    (h : ∀ d ds acc, I (d :: ds) acc → ∃ ρ1, b d (wipeE ρ vs) = some ρ1 ∧ (t ρ1).post (fun k => if k = true then (el ρ1).post (fun w => ∃ y, w.d = .ok y ∧ I ds (acc ++ [y])) (fun _ => False) else I ds acc) (fun _ => False)) : (lcK vs b t el ρ ds).post P E := by
  unfold lcK
  rw [small_of hz]
  refine M.post_bind.mpr (M.post_mono (M.post_nox.mpr (lcGo_post I ds ρ [] h0 (P := fun acc => P (.own acc)) h1 h)) (fun _ z => z) fun _ z => False.elim z)
/-- a loop by its invariant -/
theorem loop_post {b : D → En → Option En} {P : Fl → Prop} {E : Ex → Prop} (I : List D → En → Prop) : ∀ (ds : List D) (ρ : En), I ds ρ → (∀ ρ, I [] ρ → P (.nx ρ)) →
    (∀ d ds ρ, I (d :: ds) ρ → ∃ ρ1, b d ρ = some ρ1 ∧ (g ρ1).post (fun fl => match fl with | .nx ρ2 => I ds ρ2 | .cont ρ2 => I ds ρ2 | .brk ρ2 => P (.nx ρ2) | .ret w => P (.ret w)) E) → (loop b g ds ρ).post P E
  | [], ρ, h, h0, _ => h0 _ h
  | d :: ds, ρ, h, h0, hs => by
    obtain ⟨ρ1, h1, h2⟩ := hs d ds ρ h
    rw [loop_cons, h1, loopB_some]
    refine M.post_bind.mpr (M.post_mono h2 (fun fl z => ?_) fun _ z => z)
    cases fl with
    | nx ρ2 => exact loop_post I ds ρ2 z h0 hs
    | cont ρ2 => exact loop_post I ds ρ2 z h0 hs
    | brk ρ2 => exact z
    | ret w => exact z
/-- a loop of turns that all go on, or one that ends it -/
theorem loop_find {b : D → En → Option En} (p : D → Bool) (r : D → Wv) (e : D → En → En) : ∀ (ds : List D) (ρ : En),
    (∀ ρ d, d ∈ ds → ∃ ρ1, b d ρ = some ρ1 ∧ g ρ1 = .ok (if p d = true then .ret (r d) else .nx (e d ρ))) →
    loop b g ds ρ = .ok (match ds.find? p with | some d => .ret (r d) | none => .nx (ds.foldl (fun ρ d => e d ρ) ρ))
  | [], ρ, _ => rfl
  | d :: ds, ρ, h => by
    obtain ⟨ρ1, h1, h2⟩ := h ρ d (List.mem_cons_self ..)
    rw [loop_cons, h1, loopB_some, h2, M.ok_bind]
    cases hp : p d with
    | true => rw [if_pos rfl, loopK_ret]; simp [List.find?_cons, hp]
    | false =>
      rw [if_neg Bool.false_ne_true, loopK_nx, loop_find p r e ds _ fun ρ x hx => h ρ x (List.mem_cons_of_mem _ hx)]
      simp [List.find?_cons, hp]
end
end DL

namespace DL
open PySem (PyData)
section
variable {a b d : D} {i j : Int} {x y : PySem.Str} {xs ys : List D} {u w : Wv} {k : Bool} {n : Nat}
theorem opEq_e : opEq (.dat a) (.dat b) = kB (vEq a b) := id rfl
def flip (k : Bool) : M Bool := .ok (!k)
theorem flip_e : flip k = .ok (!k) := id rfl
theorem opNe_e : opNe (.dat a) (.dat b) = kB (vEq a b >>= flip) := id rfl
theorem opIn_e : opIn (.dat a) (.dat b) = kB (vIn a b) := id rfl
theorem opNotIn_e : opNotIn (.dat a) (.dat b) = kB (vIn a b >>= flip) := id rfl
theorem opLt_e : opLt (.dat a) (.dat b) = kB (vLt a b) := id rfl
theorem opAdd_e : opAdd (.dat a) (.dat b) = vAdd a b := id rfl
theorem opMul_e : opMul (.dat a) (.dat b) = vMul a b := id rfl
theorem opIx_e : opIx (.dat a) (.dat b) = vIx a b := id rfl
theorem opIsN_e : opIsN (.dat a) (.dat .none) = .ok (.dat (.bool (isNon a))) := id rfl
theorem opNotN_e : opNotN (.dat a) (.dat .none) = .ok (.dat (.bool (!isNon a))) := id rfl
theorem opNeg_e : opNeg (.dat (.int i)) = .ok (.dat (.int (-i))) := id rfl
theorem opLe_e : opLe (.dat (.int i)) (.dat (.int j)) = .ok (.dat (.bool (decide (i ≤ j)))) := id rfl
theorem opGt_e : opGt (.dat (.int i)) (.dat (.int j)) = .ok (.dat (.bool (decide (j < i)))) := id rfl
theorem opGe_e : opGe (.dat (.int i)) (.dat (.int j)) = .ok (.dat (.bool (decide (j ≤ i)))) := id rfl
theorem opSub_e : opSub (.dat (.int i)) (.dat (.int j)) = .ok (.dat (.int (i - j))) := id rfl
theorem opMod_e (h : 0 < j) : opMod (.dat (.int i)) (.dat (.int j)) = .ok (.dat (.int (i % j))) := by
  unfold opMod i2 ckd
  simp [h]
theorem opFdiv_e (h : 0 < j) (h' : j < 1073741824) : opFdiv (.dat (.int i)) (.dat (.int j)) = .ok (.dat (.int (i / j))) := by
  unfold opFdiv i2 ckd
  simp [h, h']
theorem opPow_e {m : Nat} (h : m ≤ 1000) (h' : i.natAbs < 1000) : opPow (.dat (.int i)) (.dat (.int m)) = .ok (.dat (.int (i ^ m))) := by
  unfold opPow i2 ckd
  have : (m : Int) ≤ 1000 ∧ i.natAbs < 1000 := by omega
  simp [this]
theorem vLt_int : vLt (.int i) (.int j) = .ok (decide (i < j)) := by simp [vLt]
theorem vEq_int : vEq (.int i) (.int j) = .ok (decide (i = j)) := by
  rw [vEq_of (by rfl) (by rfl)]
  simp only [PyData.eqv]
  by_cases e : i = j <;> simp [e]
theorem vAdd_int : vAdd (.int i) (.int j) = .ok (.dat (.int (i + j))) := id rfl
theorem vAdd_list : vAdd (.list xs) (.list ys) = small (xs.length + ys.length) (.ok (.own (xs ++ ys))) := id rfl
theorem vAdd_tuple : vAdd (.tuple xs) (.tuple ys) = small (xs.length + ys.length) (.ok (.dat (.tuple (xs ++ ys)))) := id rfl
theorem vMul_int (h : (-18446744073709551616 < i ∧ i < 18446744073709551616) ∨ (-18446744073709551616 < j ∧ j < 18446744073709551616)) : vMul (.int i) (.int j) = .ok (.dat (.int (i * j))) := if_pos h
theorem vIx_tuple (h : L2.atI xs i = some d) : vIx (.tuple xs) (.int i) = .ok (.dat d) := by simp [vIx, h]
theorem vIx_list (h : L2.atI xs i = some d) : vIx (.list xs) (.int i) = .ok (.dat d) := by simp [vIx, h]
theorem vLen_tuple : vLen (.tuple xs) = .ok (.dat (.int xs.length)) := id rfl
theorem vLen_list : vLen (.list xs) = .ok (.dat (.int xs.length)) := id rfl
theorem vInt_int : vInt (.int i) = .ok (.dat (.int i)) := id rfl
theorem vTuple_list : vTuple (.list xs) = .ok (.dat (.tuple xs)) := id rfl
theorem vTuple_tuple : vTuple (.tuple xs) = .ok (.dat (.tuple xs)) := id rfl
theorem vList_list : vList (.list xs) = .ok (.own xs) := id rfl
theorem vList_tuple : vList (.tuple xs) = .ok (.own xs) := id rfl
theorem vRev_list : vRev (.list xs) = .ok (.own xs.reverse) := id rfl
theorem vRev_tuple : vRev (.tuple xs) = .ok (.dat (.tuple xs.reverse)) := id rfl
theorem vCut_list {lo hi : Option Int} : vCut (.list xs) lo hi = .ok (.own (cutD xs lo hi)) := id rfl
theorem vCut_tuple {lo hi : Option Int} : vCut (.tuple xs) lo hi = .ok (.dat (.tuple (cutD xs lo hi))) := id rfl
theorem f1_e {g : D → M Wv} : f1 g [.dat d] = g d := id rfl
theorem f2_e {g : D → D → M Wv} : f2 g [.dat a, .dat b] = g a b := id rfl
theorem isNon_none : isNon .none = true := id rfl
theorem isNon_int : isNon (.int i) = false := id rfl
/-- the kind of a datum -/
def isI : D → Bool
  | .int _ => true
  | .bool _ => true
  | _ => false
def isB : D → Bool
  | .bool _ => true
  | _ => false
def isT : D → Bool
  | .tuple _ => true
  | _ => false
def isL : D → Bool
  | .list _ => true
  | _ => false
def isDct : D → Bool
  | .dict _ => true
  | _ => false
theorem isi_int : opIsi "int" [.dat d, .raw (.ty "int")] = .ok (.dat (.bool (isI d))) := by cases d <;> rfl
theorem isi_bool : opIsi "bool" [.dat d, .raw (.ty "bool")] = .ok (.dat (.bool (isB d))) := by cases d <;> rfl
theorem isi_tuple : opIsi "tuple" [.dat d, .raw (.ty "tuple")] = .ok (.dat (.bool (isT d))) := by cases d <;> rfl
theorem isi_list : opIsi "list" [.dat d, .raw (.ty "list")] = .ok (.dat (.bool (isL d))) := by cases d <;> rfl
theorem isi_str : opIsi "str" [.dat d, .raw (.ty "str")] = .ok (.dat (.bool (isStr d))) := by cases d <;> rfl
theorem isi_dict : opIsi "dict" [.dat d, .raw (.ty "dict")] = .ok (.dat (.bool (isDct d))) := by cases d <;> rfl
theorem small_ok' {α : Type} {m : M α} (h : n ≤ 1000000) : small n m = m := if_pos h
theorem vAll_bools {bs : List Bool} : vAll (.list (bs.map PyData.bool)) = .ok (.dat (.bool (bs.all id))) := by
  have : bools (bs.map PyData.bool) = some bs := by
    induction bs with
    | nil => rfl
    | cons b bs ih => simp [bools, ih]
  simp [vAll, this]
theorem vAny_bools {bs : List Bool} : vAny (.list (bs.map PyData.bool)) = .ok (.dat (.bool (bs.any id))) := by
  have : bools (bs.map PyData.bool) = some bs := by
    induction bs with
    | nil => rfl
    | cons b bs ih => simp [bools, ih]
  simp [vAny, this]
theorem vSum_ints {ns : List Int} : vSum (.list (ns.map PyData.int)) = .ok (.dat (.int ns.sum)) := by
  have : intsO (ns.map PyData.int) = some ns := by
    induction ns with
    | nil => rfl
    | cons b bs ih => simp [intsO, ih]
  simp [vSum, this]
end
end DL

namespace DL
open PySem PySem.Spec PyProof.Rows L2 SeqAt HT
/-! ## the script, which stays as it is -/
theorem sql_step {K : PySem.W.Frag} {pi : Pot} {H F H' F' : Hp} {a : Addr} {vs : List V} (h : SqL K H a vs) (n : notPot pi a) (s : Step pi H F H' F') : SqL K H' a vs := by
  rcases h with (h | ⟨o, h⟩) | h
  · exact .inl (.inl (s.same a _ n h))
  · exact .inl (.inr ⟨o, s.same a _ n h⟩)
  · exact .inr h
def isAt (a : Addr) : Wv → M Unit
  | .raw (.ref b) => if b = a then .ok () else .bad
  | _ => .bad
def cutR (a : Addr) (xs : List D) (lo hi : En → M (Option Int)) (f : En → M Wv) (ρ : En) : M Wv := f ρ >>= fun u => lo ρ >>= fun l => hi ρ >>= fun h => isAt a u.give >>= fun _ => .ok (.own (cutD xs l h))
section
variable {X : Cx} {c : Act} {Wx : WX} {e : Expr} {f : En → M Wv} {pos p2 : Pos} {lo hi : Option Expr} {fl fh : En → M (Option Int)} {a : Addr} {ns : List Int}
theorem de_cutR (hS : SqL X.K c.H0 a (ns.map V.int)) (np : notPot c.pi a) (he : DE X c Wx e f) (hl : DO X c Wx lo fl) (hh : DO X c Wx hi fh) : DE X c Wx (.Subscript e (.Slice lo hi none p2) pos) (cutR a (ns.map .int) fl fh f) :=
  PE.imp (pe_slice sl_list he hl hh) fun σ H Q ⟨F, ρ, I, p⟩ => ev_split I p fun u x H1 F1 I1 s1 g1 p1 => eo_split I1 p1 fun l H2 F2 I2 s2 p2 => eo_split I2 p2 fun h H3 F3 I3 s3 p3 => by
    have g3 := g1.mono (s2.mono.trans s3.mono)
    unfold isAt at p3
    split at p3
    · rename_i b eu
      rw [eu] at g3
      have g3' : x = .ref b := g3
      subst g3'
      split at p3
      · rename_i hb
        subst hb
        have p4 := M.post_mono (Q' := fun z => ∀ H' F', Step c.pi H3 F3 H' F' → ∀ v, Res X.K c.pi H3 H' F' v z → Q v H') p3 (fun z q H' F' t v r => q H' F' t v (((r.older I2.pot s3).older I1.pot s2).older I.pot s1)) fun _ z => z
        exact ⟨_, _, rfl, sql_step hS np I3.st, Fin.lst p4 I3.le I3.pot ((drs_ints ns).cut l h)⟩
      · exact p3.elim
    · exact p3.elim
end
/-- what a def that makes the pot of a script promises -/
def spPot (K : PySem.W.Frag) : Sp := fun vs H Q _ => ∃ (a : Addr) (ns : List Int), vs = [.ref a] ∧ SqL K H a (ns.map V.int) ∧ ∀ H' F' p c, Step none H (fun _ => none) H' F' → PotIn (some (p, c)) H' F' → Q (.ref p) H'
theorem pot_post {K : PySem.W.Frag} {mg : Str → Option Value} {Wx : WX} {N : List Str} {H : Hp} {Q : VK} {g : En → M Fl} {a : Addr}
    (q : ∀ H' F' p c, Step none H (fun _ => none) H' F' → PotIn (some (p, c)) H' F' → Q (.ref p) H') (h0 : 0 < N.length)
    (h : (g (some (.raw (.ref a)) :: List.replicate (N.length - 1) none)).post (fun fl => ∃ cs : List Int, fl = .ret (.own [.list (cs.map .int), .int 0, .int 0, .int 0])) (fun _ => False)) :
    EvS K mg ⟨none, H, fun _ => none⟩ Wx g { nx := fun _ H' => Q .non H', rt := Q } (L2.start N [.ref a]) H := by
  have hpi : PotIn none H (fun _ => none) := fun p c e => nomatch e
  have hle : Same (fun _ => none) H := fun b o e => nomatch (show (none : Option HO) = some o from e)
  refine ⟨fun _ => none, _, ⟨?_, Step.refl hle hpi, hpi, ?_, ?_⟩, M.post_mono h (fun fl z => ?_) fun _ z => z.elim⟩
  · unfold L2.start
    simp only [List.length_cons, List.length_replicate, List.length_append, List.length_map, List.length_nil]
    omega
  · intro i u e
    cases i with
    | zero =>
      rw [List.getElem?_cons_zero] at e
      cases e
      exact ⟨.ref a, rfl, rfl⟩
    | succ i =>
      rw [List.getElem?_cons_succ, List.getElem?_replicate] at e
      split at e <;> cases e
  · intro i j xs ys v _ e
    cases i with
    | zero =>
      rw [List.getElem?_cons_zero] at e
      cases e
    | succ i =>
      rw [List.getElem?_cons_succ, List.getElem?_replicate] at e
      split at e <;> cases e
  · obtain ⟨cs, rfl⟩ := z
    intro v H' F' st ⟨p, vs, e1, e2, e3, e4, e5⟩
    subst e1
    cases e5 with
    | cons d0 r0 =>
      cases r0 with
      | cons d1 r1 =>
        cases r1 with
        | cons d2 r2 =>
          cases r2 with
          | cons d3 r3 =>
            cases r3
            cases d1
            cases d2
            cases d3
            cases d0 with
            | lst hc rs =>
              rename_i k xs
              have hints : ∀ {vs : List V} {cs : List Int}, DRs K F' vs (cs.map .int) → vs = cs.map V.int := by
                intro vs cs h
                induction cs generalizing vs with
                | nil => cases h; rfl
                | cons n cs ih =>
                  cases h with
                  | cons h1 h2 =>
                    cases h1
                    rw [ih h2]
                    rfl
              have exs := hints rs
              subst exs
              refine q H' F' p k st fun p' c' e => ?_
              cases e
              exact ⟨⟨0, 0, 0, e2⟩, e3, cs, st.le _ _ hc, fun z => by subst z; rw [e3] at hc; cases hc⟩
/-! ## the law -/
def spLaw (K : PySem.W.Frag) : Sp := fun vs H Q _ => ∃ (a : Addr) (ns : List Int), vs = [.ref a] ∧ SqL K H a (ns.map V.int) ∧ ∀ H', Q (.bl true) H'
/-- what follows, whatever stands around -/
theorem pss_ex {X : Cx} {Wx : WX} {sts : List Stmt} {g : En → M Fl} (h : ∀ c : Act, DSs X c Wx sts g) : PSs X sts (fun D σ H => ∃ c, EvS X.K X.mg c Wx g D σ H) :=
  ⟨fun pins s σ H D I z => z.elim fun c z => (h c).run pins s σ H D I z⟩
/-- the slots behind the first statement: the pot in slot 1 -/
def lawE (N : Nat) : En := none :: some .pot :: List.replicate (N - 2) none
/-- the law's claim, in plain words -/
structure LawOk (g : En → M Fl) (n : Nat) : Prop where
  run : (g (lawE n) >>= fin).post (fun w => w = .dat (.bool true)) (fun _ => False)
/-- .. and that of the pot -/
structure PotOk (g : Addr → List D → En → M Fl) : Prop where
  run : ∀ (raw : Addr) (ns : List Int), (g raw (ns.map .int) [some (.raw (.ref raw)), none, none, none]).post (fun fl => ∃ cs : List Int, fl = .ret (.own [.list (cs.map .int), .int 0, .int 0, .int 0])) (fun _ => False)
theorem law_post {K : PySem.W.Frag} {mg : Str → Option Value} {Wx : WX} {E : L2.St → XK} {N : List Str} {vs : List V} {H : Hp} {Q : VK} {E0 : XK} {g : En → M Fl} {n : Nat} (hn : N.length = n) (hN : 2 ≤ n) (z : spLaw K vs H Q E0)
    (h : LawOk g n) :
    tSeq (tAsg (tCallS (spPot K) E (tCons (tVar 0) tNil)) (gName 1)) (fun D σ H => ∃ c, EvS K mg c Wx g D σ H) { nx := fun _ H' => Q .non H', rt := Q } (L2.start N vs) H := by
  subst hn
  obtain ⟨a, ns, rfl, hS, q⟩ := z
  refine ⟨.ref a, rfl, a, ns, rfl, hS, fun H' F' p c st pin => ⟨⟨some (p, c), H', F'⟩, F', lawE N.length, ⟨?_, Step.refl st.le pin, pin, ?_, ?_⟩, M.post_mono (M.post_bind.mp h.run) (fun fl z => ?_) fun _ z => z.elim⟩⟩
  · unfold lawE L2.start
    simp only [List.length_cons, List.length_replicate, List.length_append, List.length_map, List.length_nil, List.length_set]
    omega
  · intro i u e
    unfold lawE at e
    match i, e with
    | 0, e => cases e
    | 1, e =>
      have e' : Wv.pot = u := by simpa using e
      subst e'
      refine ⟨.ref p, ?_, p, c, rfl, rfl⟩
      rw [List.getElem?_set_self]
      unfold L2.start
      simp only [List.length_cons, List.length_replicate, List.length_append, List.length_map, List.length_nil]
      omega
    | i + 2, e =>
      rw [List.getElem?_cons_succ, List.getElem?_cons_succ, List.getElem?_replicate] at e
      split at e <;> cases e
  · intro i j xs ys v _ e
    unfold lawE at e
    match i, e with
    | 0, e => cases e
    | 1, e => cases e
    | i + 2, e =>
      rw [List.getElem?_cons_succ, List.getElem?_cons_succ, List.getElem?_replicate] at e
      split at e <;> cases e
  · have fin1 : ∀ {w : Wv} {v : V} {G G' : Hp}, w = .dat (.bool true) → Res K (some (p, c)) H' G G' v w → Q v G := fun e r => by
      subst e
      cases r
      exact q _
    cases fl with
    | ret w =>
      have z' : w = .dat (.bool true) := z
      exact fun v H2 F2 s2 r => fin1 z' r
    | nx ρ =>
      have z' : Wv.dat .none = .dat (.bool true) := z
      cases z'
    | brk _ => exact z.elim
    | cont _ => exact z.elim
/-! ## from the head to the law's promise -/
def scr (a : Addr) (o : Obj) (ns : List Int) : Hp := fun b => if b = a then some (.frz o (.lst (ns.map V.int))) else none
theorem ints_vals {vs : List Value} {ns : List Int} (h : IntsAre vs ns) : Vals (ns.map V.int) vs := by
  induction h with
  | nil => exact .nil
  | cons n t _ ih => exact .cons ⟨t, rfl⟩ ih
section
variable {P : Program} {w : World} {K : PySem.W.Frag} {mg mb : Str → Option Value} {k : Nat} {f a : Addr} {fd : FuncData} {s : Shared} {vs : List Value} {ns : List Int}
/-- the run, from a heap of which nothing but the script may be tracked -/
theorem law_from {H : Hp} (kin : K.In s.heap) (top : s.heap.Ns mainGlobals mg) (blt : s.heap.Ns builtinsNs mb) (boot : ∀ x : Str, x ≠ "__name__" → mb x = bootBuiltins x) (lim : s.heap.NoLimit) (see : s.heap.NoSeer) (gens : s.gens = #[])
    (obj : s.heap.get? a = some { cls := .type "list", data := .seq vs.toArray }) (room : Room k callerA)
    (F : ∀ base : Heap, SysIn base → FnG P w K mg base k f fd ["script"] (spLaw K)) (bnd : ∀ u : Value, BindsTo s fd ⟨[u], []⟩ [("script", u)])
    (one : ∀ b u, H b = some u → b = a ∧ K.lookup a = none ∧ ∃ o xs, u = .frz o (.lst xs)) (seq : SqL K H a (ns.map V.int)) (ok : HOk P w H s.heap) :
    codeAny (model P w) callerA (.call (.ref f) ⟨[.ref a], []⟩) (fun r s' => r = .ok (.ret (.bool true)) ∧ OldK s.heap s'.heap ∧ s'.os = s.os ∧ AllBare s'.gens) s := by
  have other : ∀ {b : Addr} {o : Obj}, s.heap.get? b = some o → (b = a → K.lookup a = none → False) → H b = none := fun {b o} e n => by
    cases q : H b with
    | none => rfl
    | some u => exact (n (one b u q).1 (one b u q).2.1).elim
  have ns_ : ∀ {b : Addr} {m : Str → Option Value}, s.heap.Ns b m → (hidT s.heap H).Ns b m := fun {b m} ⟨o, es, ep, e, d, r⟩ => ⟨o, es, ep, hidT_get e (other e fun z _ => by
    subst z
    have e2 := obj.symm.trans e
    cases e2
    cases d), d, r⟩
  have kin2 : K.In (hidT s.heap H) := fun b o e => hidT_get (kin b o e) (other (kin b o e) fun z h => by
    subst z
    rw [h] at e
    cases e)
  have env : Env0 P w K mg (hidT s.heap H) callerA [] s H := by
    refine ⟨rfl, ⟨kin2, ns_ top, ⟨mb, ns_ blt, boot⟩, ?_⟩, fun b o e => of_hidT e, Nat.le_of_eq (hidT_size _ _), trivial, fun b hb => absurd (show b ∈ ([] : List Addr) from hb) (by simp), ok, .of_eq gens⟩
    obtain ⟨mc, h1, h2⟩ := lim
    exact ⟨mc, ns_ h1, h2⟩
  have sys : SysIn (hidT s.heap H) := by
    obtain ⟨mm, h1, _⟩ := see.mods
    obtain ⟨o, _, _, e, _⟩ := ns_ h1
    exact ⟨o, e⟩
  refine codeAny_mono ((F _ sys).run callerA [] s H ⟨[.ref a], []⟩ [.ref a] [.ref a] (fun v _ => v = .bl true) (fun _ _ _ => False) room rfl env (bnd (.ref a)) (.cons rfl .nil) ⟨a, ns, rfl, seq, fun _ => rfl⟩) fun r s' h => ?_
  match r, h with
  | .error e, h =>
    obtain ⟨_, _, _, _, _, _, _, _, _, _, _, _, z⟩ := h
    exact z.elim
  | .ok (.ret u), h =>
    obtain ⟨v, H2, os, bare, un, ok2, rv, q⟩ := h
    have q2 : v = .bl true := q
    subst q2
    have hu : u = Value.bool true := rv
    subst hu
    refine ⟨rfl, OldK.of_keep fun b o e => ?_, os, bare⟩
    cases q : H b with
    | none => exact un.keep b o e q (fun z => absurd (show b ∈ ([] : List Addr) from z) (by simp)) (by simp)
    | some u =>
      obtain ⟨rfl, _, ob, xs, rfl⟩ := one b u q
      obtain ⟨e1, _⟩ := ok b _ q
      obtain ⟨e2, _⟩ := ok2 b _ (un.frzs b ob _ q)
      rw [e] at e1
      cases e1
      exact e2
  | .ok .next, h => exact h.elim
  | .ok .brk, h => exact h.elim
  | .ok .cont, h => exact h.elim
theorem law_run (kin : K.In s.heap) (top : s.heap.Ns mainGlobals mg) (blt : s.heap.Ns builtinsNs mb) (boot : ∀ x : Str, x ≠ "__name__" → mb x = bootBuiltins x) (lim : s.heap.NoLimit) (see : s.heap.NoSeer) (gens : s.gens = #[])
    (obj : s.heap.get? a = some { cls := .type "list", data := .seq vs.toArray }) (hnt : IntsAre vs ns) (len : ns.length ≤ sizeLine) (room : Room k callerA)
    (F : ∀ base : Heap, SysIn base → FnG P w K mg base k f fd ["script"] (spLaw K)) (bnd : ∀ u : Value, BindsTo s fd ⟨[u], []⟩ [("script", u)]) :
    codeAny (model P w) callerA (.call (.ref f) ⟨[.ref a], []⟩) (fun r s' => r = .ok (.ret (.bool true)) ∧ OldK s.heap s'.heap ∧ s'.os = s.os ∧ AllBare s'.gens) s := by
  cases hk : K.lookup a with
  | none =>
    refine law_from (H := scr a { cls := .type "list", data := .seq vs.toArray } ns) kin top blt boot lim see gens obj room F bnd (fun b u e => ?_) (.inl (.inr ⟨_, if_pos rfl⟩)) fun b u e => ?_
    · unfold scr at e
      split at e
      · rename_i hb
        cases e
        exact ⟨hb, hk, _, _, rfl⟩
      · cases e
    · unfold scr at e
      split at e
      · rename_i hb
        cases e
        subst hb
        exact ⟨obj, by rw [List.length_map]; exact len, vs, _, ints_vals hnt, obj⟩
      · cases e
  | some o =>
    have e := kin a o hk
    rw [obj] at e
    cases e
    refine law_from (H := fun _ => none) kin top blt boot lim see gens obj room F bnd (fun b u e => nomatch (show (none : Option HO) = some u from e)) (.inr ⟨_, vs.toArray, _, hk, rfl, rfl, rfl, ?_, ints_vals hnt⟩) fun b u e => nomatch (show (none : Option HO) = some u from e)
    rw [List.size_toArray, hnt.length]
    exact len
end
/-- a def by its facts -/
theorem has_of {K : PySem.W.Frag} {h : Heap} {mg : Str → Option Value} {fa : List He.Fa} {fn : List He.DefD} {x : Str} {st : Stmt} {ps : List Str} (X : K.In h) (G : h.Ns mainGlobals mg) (c : He.SaysD fa fn K) (i j : Nat) (hi : fa[i]? = some (.glo x)) (hj : fn[j]? = some ⟨(x, none), x, x, defArgs st, defBody st, defScope st, [], []⟩)
    (hb : ∀ (kV doc pm : Value) (an : Option Addr) (cdv ct : Value) (us : List Value), us.length = ps.length → bindArgs (PySem.W.fnOf x x (defArgs st) (defBody st) (defScope st) .none kV doc pm an cdv ct) ⟨us, []⟩ = pure (ps.zip us)) : Has K mg x st ps := by
  obtain ⟨fd, F⟩ := c.def_ j hj
  refine ⟨_, fd, He.glo_ok X G (c.fact i hi), ?_, fun s us _ hl => ?_⟩
  · obtain ⟨oc, od, dV, kV, doc, pm, an, cdv, ct, osl, e1, e2, e3, e4, _⟩ := F.ex
    have dn : dV = .none := by
      rcases e4 with ⟨_, z⟩ | ⟨z, _⟩
      · exact z
      · exact absurd rfl z
    subst dn
    exact ⟨⟨oc, od, kV, doc, pm, an, cdv, ct, osl, e1, e2, e3⟩, F.kp⟩
  · rw [List.append_nil] at hl ⊢
    exact FunD.bindsA F hb s us hl
/-- the end: what the walk of a law wants, from the def's promise -/
theorem walk_law {l : PySem.W.OpenLaw} {n k : Nat} {q : Program} {loose : List Str} {d : DefRec} {fa : List He.Fa} {fn : List He.DefD} {i j : Nat} {st : Stmt} {XP : (Str → Option Value) → Heap → Prop} {YP : World → Heap → Prop} (hY : ∀ w h, YP w h → ∃ K : PySem.W.Frag, K.In h ∧ He.SaysD fa fn K)
    (hn : l.most = some n) (hn2 : n ≤ sizeLine) (hdf : d.params.defaults = []) (hd : d.name = ("law" : Str)) (room : Room k callerA) (imp : importsNone q = true) (hi : fa[i]? = some (.glo "law")) (hj : fn[j]? = some ⟨("law", none), "law", "law", defArgs st, defBody st, defScope st, [], []⟩)
    (hb : ∀ (kV doc pm : Value) (an : Option Addr) (cdv ct : Value) (us : List Value), us.length = 1 → bindArgs (PySem.W.fnOf "law" "law" (defArgs st) (defBody st) (defScope st) .none kV doc pm an cdv ct) ⟨us, []⟩ = pure ((["script"] : List Str).zip us))
    (F : ∀ (w : World) (K : PySem.W.Frag) (mg : Str → Option Value) (h : Heap), K.In h → h.Ns mainGlobals mg → He.SaysD fa fn K → ∀ (base : Heap), SysIn base → ∀ f fd, mg "law" = some (.ref f) → L2.Fun K "law" "law" st f fd → FnG l.prog w K mg base k f fd ["script"] (spLaw K)) :
    PySem.W.WalkO q loose XP YP l.row.toRowW d [] (fun f vs => PySem.call f vs) := by
  refine Att.attach_call hn hdf fun w s₀ s₁ mg mb f o pm cd doc a vs ns G Y ho hod hcd hmg hobj hints hlen hg => ?_
  obtain ⟨K, kin, c⟩ := hY _ _ Y
  rw [hd] at hmg
  obtain ⟨f', fd, h1, h2, h3⟩ := has_of (ps := ["script"]) kin G.T.g c i j hi hj hb
  cases hmg.symm.trans h1
  exact law_run kin G.T.g G.T.b G.T.builtins G.T.nolimit (G.T.seer imp) hg hobj hints (Nat.le_trans hlen hn2) room (fun base sys => F w K mg _ kin G.T.g c base sys f fd h1 h2) fun u => h3 s₁ [u] kin rfl
end DL

namespace DL
open PySem (PyData Addr Str)
/-! ## plain facts: cuts, places -/
section
variable {α : Type}
def cutL' (xs : List α) (lo hi : Option Int) : List α := (xs.drop (HT.sIx xs.length 0 lo)).take (HT.sIx xs.length xs.length hi - HT.sIx xs.length 0 lo)
theorem sIx_none {n d : Nat} : HT.sIx n d none = d := rfl
theorem sIx_nat {n d k : Nat} : HT.sIx n d (some (k : Int)) = min k n := by
  unfold HT.sIx
  simp only
  rw [if_neg (by omega)]
  simp
theorem sIx_neg1 {n d : Nat} : HT.sIx n d (some (-1)) = n - 1 := by
  unfold HT.sIx
  simp only
  rw [if_pos (by omega)]
  omega
theorem cutD_to {xs : List D} {k : Nat} : cutD xs none (some (k : Int)) = xs.take k := by
  unfold cutD
  rw [sIx_none, sIx_nat]
  simp only [List.drop_zero, Nat.sub_zero]
  rw [← List.take_take, List.take_length]
theorem cutD_from {xs : List D} {k : Nat} : cutD xs (some (k : Int)) none = xs.drop k := by
  unfold cutD
  rw [sIx_none, sIx_nat]
  by_cases h : k ≤ xs.length
  · rw [Nat.min_eq_left h, List.take_of_length_le (by rw [List.length_drop]; omega)]
  · rw [Nat.min_eq_right (by omega), List.drop_eq_nil_of_le (Nat.le_refl _), List.drop_eq_nil_of_le (by omega), List.take_nil]
theorem cutD_mid {xs : List D} {j k : Nat} : cutD xs (some (j : Int)) (some (k : Int)) = (xs.take k).drop j := by
  unfold cutD
  rw [sIx_nat, sIx_nat, List.drop_take]
  by_cases h : j ≤ xs.length
  · rw [Nat.min_eq_left h, List.take_eq_take_iff, List.length_drop]
    omega
  · have e : min j xs.length = xs.length := by omega
    rw [e, List.drop_eq_nil_of_le (Nat.le_refl _), List.drop_eq_nil_of_le (by omega)]
    simp
theorem cutD_init {xs : List D} : cutD xs none (some (-1)) = xs.take (xs.length - 1) := by
  unfold cutD
  rw [sIx_none, sIx_neg1]
  simp
theorem atI_nat' {xs : List α} {k : Nat} : L2.atI xs (k : Int) = xs[k]? := by
  unfold L2.atI L2.ixN
  rw [if_pos (by omega)]
  by_cases h : k < xs.length
  · rw [if_pos (by omega)]
    simp
  · rw [if_neg (by omega)]
    simp [List.getElem?_eq_none (Nat.le_of_not_lt h)]
theorem ixN_nat {n k : Nat} (h : k < n) : L2.ixN n (k : Int) = some k := by
  unfold L2.ixN
  rw [if_pos (by omega), if_pos (by omega)]
  simp
end
/-! ## the pot of a script -/
def bPot (n m : Int) (raw : Addr) (items : List DL.D) : En → M Fl := (seq (asg [0, 2] 1 (lc [2] (sSeq (cutR raw items oN (oS (kI n)) (rdv 0))) (bN 2) tYes (call (f1 vAbs) (acons (rdv 2) anil))))
  (seq (forS [0] (sEnum (cutR raw items (oS (kI n)) (oS (kI m)) (rdv 0))) (bT [3, 2]) (sto [1, 2, 3] [3] 1 (bin2 opAdd (bin2 opIx (rdv 1) (bin2 opMod (rdv 3) (kI n))) (call (f1 vAbs) (acons (rdv 2) anil))) (bin2 opMod (rdv 3) (kI n))))
  (rtn [1] (lst (acons (rdv 1) (acons (kI 0) (acons (kI 0) (acons (kI 0) anil))))))))
def absD : D → D
  | .int i => .int (if i < 0 then -i else i)
  | d => d
theorem cutR_to {raw : Addr} {items : List D} {k : Int} {ρ : En} : cutR raw items oN (oS (kI k)) (rdv 0) (some (.raw (.ref raw)) :: ρ) = .ok (.own (cutD items none (some k))) := by
  simp only [cutR, DL.sel_true, DL.sel_false, DL.sel_self, DL.okb, DL.excb, DL.badb, DL.pickb, DL.okp, DL.pickp, DL.ddat, DL.down, DL.sdat, DL.sown, DL.sraw, DL.spot, DL.gdat, DL.gown, DL.graw, DL.gpot, DL.asBb, DL.asIi, DL.kBok, DL.noxok, DL.datas0, DL.frz1_own, DL.frz1_dat, DL.frz1_raw, DL.frz1_pot, DL.frz1_none, DL.frz1_nil, DL.frz1_succ, DL.frz_nil, DL.frz_cons, DL.rdv_dat, DL.rdv_raw, DL.rdv_pot, DL.rdv_succ, DL.rtnV_zero, DL.rtnV_succ, DL.ownAt_zero, DL.ownAt_succ, DL.startE_eq, DL.seq_e, DL.seqK_nx, DL.seqK_ret, DL.seqK_brk, DL.seqK_cont, DL.asg_e, DL.asgK_e, DL.rtn_e, DL.rtnK_e, DL.rtnN_e, DL.exs_e, DL.exsK_e, DL.ifs_e, DL.ifsK_true, DL.ifsK_false, DL.skip_e, DL.brkS_e, DL.contS_e, DL.badS_e, DL.body_e, DL.fin_ret, DL.fin_nx, DL.app1_e, DL.app1K_e, DL.app_e, DL.appO_e, DL.appW_e, DL.appD_e, DL.asg2_e, DL.asg2K_e, DL.asg2L_e, DL.unp_e, DL.unpW_e, DL.unpD_e, DL.goOn_some, DL.goOn_none, DL.bT_e, DL.setL_cons, DL.setL_nil, DL.bN_e, DL.sto1_e, DL.sto_e, DL.stoW_e, DL.stoD_e, DL.sto2_e, DL.sto2K_e, DL.sto2W_e, DL.sto2I_e, DL.sto1K_e, DL.atK_e, DL.ali_e, DL.aliK_true, DL.aliK_false, DL.ali1_e, DL.ali1B_e, DL.ali1O_e, DL.ali1W_e, DL.ali1D_e, DL.forS_e, DL.forK_e, DL.loopB_some, DL.loopK_nx, DL.loopK_cont, DL.loopK_brk, DL.loopK_ret, DL.bin2_e, DL.binK_e, DL.binL_e, DL.un1_e, DL.unK_e, DL.tst_e, DL.tand_e, DL.tandK_true, DL.tandK_false, DL.tor_e, DL.torK_true, DL.torK_false, DL.tnot_e, DL.notK_e, DL.vand_e, DL.vandK_e, DL.vandL_true, DL.vandL_false, DL.vor_e, DL.vorK_e, DL.vorL_true, DL.vorL_false, DL.vnot_e, DL.vnotK_e, DL.vnotL_e, DL.vif_e, DL.vifK_true, DL.vifK_false, DL.anil_e, DL.acons_e, DL.aconsK_e, DL.aconsL_e, DL.call_e, DL.ccall_e, DL.ccallK1, DL.ccallK2, DL.ccallK3, DL.ccallK4, DL.sub_e, DL.subK_e, DL.subH_e, DL.cutK_e, DL.cutL_e, DL.oN_e, DL.oS_e, DL.oSK_e, DL.oI_e, DL.rev_e, DL.revK_e, DL.tup_e, DL.lst_e, DL.mkTup_e, DL.mkLst_e, DL.tupD_e, DL.lstD_e, DL.datas_e, DL.datasK_e, DL.kN_e, DL.kB_e, DL.kI_e, DL.kS_e, DL.kT_e, DL.kD0_e, DL.chainI_e, DL.chA_e, DL.chB_e, DL.chI_e, DL.chJ_e, DL.chG_true, DL.chG_false, DL.chY_e, DL.chC_e, DL.sSeq_e, DL.seqSrc_e, DL.asItems_list, DL.asItems_tuple, DL.sRng1_e, DL.rngW_e, DL.rngI_e, DL.sRng2_e, DL.rngK_e, DL.rngWW_e, DL.rngWI_e, DL.rngJ_e, DL.sZip_e, DL.zipK_e, DL.zipW_e, DL.zipA_e, DL.zipD_list, DL.zipD_tuple, DL.sEnum_e, DL.enumW_e, DL.enumV_e, DL.asList_e, DL.enumL_e, DL.ownR_e, DL.lc_e, DL.tYes_e, List.map_cons, List.map_nil, List.nil_append, List.cons_append, List.length_cons, List.length_nil, List.set_cons_zero, List.set_cons_succ, ite_self, reduceIte, noL_none, noL_bool, noL_int, noL_str, noL_list, noL_tuple, noLs_nil, noLs_cons, Bool.true_and, Bool.false_and, Bool.and_true, Bool.and_self, Bool.false_eq_true, Bool.not_true, Bool.not_false, List.replicate_succ, List.replicate_zero, DL.opEq_e, DL.flip_e, DL.opNe_e, DL.opIn_e, DL.opNotIn_e, DL.opLt_e, DL.opAdd_e, DL.opMul_e, DL.opIx_e, DL.opIsN_e, DL.opNotN_e, DL.opNeg_e, DL.opLe_e, DL.opGt_e, DL.opGe_e, DL.opSub_e, DL.vLt_int, DL.vEq_int, DL.vAdd_int, DL.vAdd_list, DL.vAdd_tuple, DL.vLen_tuple, DL.vLen_list, DL.vInt_int, DL.vTuple_list, DL.vTuple_tuple, DL.vList_list, DL.vList_tuple, DL.vRev_list, DL.vRev_tuple, DL.vCut_list, DL.vCut_tuple, DL.f1_e, DL.f2_e, DL.isNon_none, DL.isNon_int, DL.isi_int, DL.isi_bool, DL.isi_tuple, DL.isi_list, DL.isi_str, DL.isi_dict, isAt, if_true]
theorem cutR_mid {raw : Addr} {items : List D} {j k : Int} {ρ : En} : cutR raw items (oS (kI j)) (oS (kI k)) (rdv 0) (some (.raw (.ref raw)) :: ρ) = .ok (.own (cutD items (some j) (some k))) := by
  simp only [cutR, DL.sel_true, DL.sel_false, DL.sel_self, DL.okb, DL.excb, DL.badb, DL.pickb, DL.okp, DL.pickp, DL.ddat, DL.down, DL.sdat, DL.sown, DL.sraw, DL.spot, DL.gdat, DL.gown, DL.graw, DL.gpot, DL.asBb, DL.asIi, DL.kBok, DL.noxok, DL.datas0, DL.frz1_own, DL.frz1_dat, DL.frz1_raw, DL.frz1_pot, DL.frz1_none, DL.frz1_nil, DL.frz1_succ, DL.frz_nil, DL.frz_cons, DL.rdv_dat, DL.rdv_raw, DL.rdv_pot, DL.rdv_succ, DL.rtnV_zero, DL.rtnV_succ, DL.ownAt_zero, DL.ownAt_succ, DL.startE_eq, DL.seq_e, DL.seqK_nx, DL.seqK_ret, DL.seqK_brk, DL.seqK_cont, DL.asg_e, DL.asgK_e, DL.rtn_e, DL.rtnK_e, DL.rtnN_e, DL.exs_e, DL.exsK_e, DL.ifs_e, DL.ifsK_true, DL.ifsK_false, DL.skip_e, DL.brkS_e, DL.contS_e, DL.badS_e, DL.body_e, DL.fin_ret, DL.fin_nx, DL.app1_e, DL.app1K_e, DL.app_e, DL.appO_e, DL.appW_e, DL.appD_e, DL.asg2_e, DL.asg2K_e, DL.asg2L_e, DL.unp_e, DL.unpW_e, DL.unpD_e, DL.goOn_some, DL.goOn_none, DL.bT_e, DL.setL_cons, DL.setL_nil, DL.bN_e, DL.sto1_e, DL.sto_e, DL.stoW_e, DL.stoD_e, DL.sto2_e, DL.sto2K_e, DL.sto2W_e, DL.sto2I_e, DL.sto1K_e, DL.atK_e, DL.ali_e, DL.aliK_true, DL.aliK_false, DL.ali1_e, DL.ali1B_e, DL.ali1O_e, DL.ali1W_e, DL.ali1D_e, DL.forS_e, DL.forK_e, DL.loopB_some, DL.loopK_nx, DL.loopK_cont, DL.loopK_brk, DL.loopK_ret, DL.bin2_e, DL.binK_e, DL.binL_e, DL.un1_e, DL.unK_e, DL.tst_e, DL.tand_e, DL.tandK_true, DL.tandK_false, DL.tor_e, DL.torK_true, DL.torK_false, DL.tnot_e, DL.notK_e, DL.vand_e, DL.vandK_e, DL.vandL_true, DL.vandL_false, DL.vor_e, DL.vorK_e, DL.vorL_true, DL.vorL_false, DL.vnot_e, DL.vnotK_e, DL.vnotL_e, DL.vif_e, DL.vifK_true, DL.vifK_false, DL.anil_e, DL.acons_e, DL.aconsK_e, DL.aconsL_e, DL.call_e, DL.ccall_e, DL.ccallK1, DL.ccallK2, DL.ccallK3, DL.ccallK4, DL.sub_e, DL.subK_e, DL.subH_e, DL.cutK_e, DL.cutL_e, DL.oN_e, DL.oS_e, DL.oSK_e, DL.oI_e, DL.rev_e, DL.revK_e, DL.tup_e, DL.lst_e, DL.mkTup_e, DL.mkLst_e, DL.tupD_e, DL.lstD_e, DL.datas_e, DL.datasK_e, DL.kN_e, DL.kB_e, DL.kI_e, DL.kS_e, DL.kT_e, DL.kD0_e, DL.chainI_e, DL.chA_e, DL.chB_e, DL.chI_e, DL.chJ_e, DL.chG_true, DL.chG_false, DL.chY_e, DL.chC_e, DL.sSeq_e, DL.seqSrc_e, DL.asItems_list, DL.asItems_tuple, DL.sRng1_e, DL.rngW_e, DL.rngI_e, DL.sRng2_e, DL.rngK_e, DL.rngWW_e, DL.rngWI_e, DL.rngJ_e, DL.sZip_e, DL.zipK_e, DL.zipW_e, DL.zipA_e, DL.zipD_list, DL.zipD_tuple, DL.sEnum_e, DL.enumW_e, DL.enumV_e, DL.asList_e, DL.enumL_e, DL.ownR_e, DL.lc_e, DL.tYes_e, List.map_cons, List.map_nil, List.nil_append, List.cons_append, List.length_cons, List.length_nil, List.set_cons_zero, List.set_cons_succ, ite_self, reduceIte, noL_none, noL_bool, noL_int, noL_str, noL_list, noL_tuple, noLs_nil, noLs_cons, Bool.true_and, Bool.false_and, Bool.and_true, Bool.and_self, Bool.false_eq_true, Bool.not_true, Bool.not_false, List.replicate_succ, List.replicate_zero, DL.opEq_e, DL.flip_e, DL.opNe_e, DL.opIn_e, DL.opNotIn_e, DL.opLt_e, DL.opAdd_e, DL.opMul_e, DL.opIx_e, DL.opIsN_e, DL.opNotN_e, DL.opNeg_e, DL.opLe_e, DL.opGt_e, DL.opGe_e, DL.opSub_e, DL.vLt_int, DL.vEq_int, DL.vAdd_int, DL.vAdd_list, DL.vAdd_tuple, DL.vLen_tuple, DL.vLen_list, DL.vInt_int, DL.vTuple_list, DL.vTuple_tuple, DL.vList_list, DL.vList_tuple, DL.vRev_list, DL.vRev_tuple, DL.vCut_list, DL.vCut_tuple, DL.f1_e, DL.f2_e, DL.isNon_none, DL.isNon_int, DL.isi_int, DL.isi_bool, DL.isi_tuple, DL.isi_list, DL.isi_str, DL.isi_dict, isAt, if_true]
theorem enumD_mem {k : Nat} {d : D} : ∀ {ds : List D}, d ∈ enumD k ds → ∃ (j : Nat) (x : D), k ≤ j ∧ x ∈ ds ∧ d = pairD (.int j) x
  | [], h => by cases h
  | x :: ds, h => by
    unfold enumD at h
    rcases List.mem_cons.mp h with e | h
    · exact ⟨k, x, Nat.le_refl _, List.mem_cons_self .., e⟩
    · obtain ⟨j, y, h1, h2, h3⟩ := enumD_mem h
      exact ⟨j, y, by omega, List.mem_cons_of_mem _ h2, h3⟩
theorem pot_gen (n m : Nat) (hn : 0 < n ∧ n < 1000) : PotOk (bPot n m) := by
  refine ⟨fun raw ns => ?_⟩
  have c1 : (∀ k : Int, cutR raw (ns.map PyData.int) oN (oS (kI k)) (rdv 0) [some (.raw (.ref raw)), none, none, none] = .ok (.own (cutD (ns.map PyData.int) none (some k)))) := fun k => cutR_to
  have l1 : ∀ ρ : En, ρ = [some (.raw (.ref raw)), none, none, none] → lcK [2] (bN 2) tYes (DL.call (f1 vAbs) (acons (rdv 2) anil)) ρ (cutD (ns.map PyData.int) none (some (n : Int))) = .ok (.own (((cutD (ns.map PyData.int) none (some (n : Int))).filter fun _ => true).map absD)) := by
    intro ρ eρ
    subst eρ
    rw [cutD_to]
    refine lcK_ok _ _ (by rw [List.length_take]; omega) fun d hd => ?_
    obtain ⟨z, _, rfl⟩ := List.mem_map.mp (List.mem_of_mem_take hd)
    refine ⟨_, rfl, rfl, fun _ => ⟨.dat (absD (.int z)), ?_, rfl⟩⟩
    simp only [wipeE, DL.sel_true, DL.sel_false, DL.sel_self, DL.okb, DL.excb, DL.badb, DL.pickb, DL.okp, DL.pickp, DL.ddat, DL.down, DL.sdat, DL.sown, DL.sraw, DL.spot, DL.gdat, DL.gown, DL.graw, DL.gpot, DL.asBb, DL.asIi, DL.kBok, DL.noxok, DL.datas0, DL.frz1_own, DL.frz1_dat, DL.frz1_raw, DL.frz1_pot, DL.frz1_none, DL.frz1_nil, DL.frz1_succ, DL.frz_nil, DL.frz_cons, DL.rdv_dat, DL.rdv_raw, DL.rdv_pot, DL.rdv_succ, DL.rtnV_zero, DL.rtnV_succ, DL.ownAt_zero, DL.ownAt_succ, DL.startE_eq, DL.seq_e, DL.seqK_nx, DL.seqK_ret, DL.seqK_brk, DL.seqK_cont, DL.asg_e, DL.asgK_e, DL.rtn_e, DL.rtnK_e, DL.rtnN_e, DL.exs_e, DL.exsK_e, DL.ifs_e, DL.ifsK_true, DL.ifsK_false, DL.skip_e, DL.brkS_e, DL.contS_e, DL.badS_e, DL.body_e, DL.fin_ret, DL.fin_nx, DL.app1_e, DL.app1K_e, DL.app_e, DL.appO_e, DL.appW_e, DL.appD_e, DL.asg2_e, DL.asg2K_e, DL.asg2L_e, DL.unp_e, DL.unpW_e, DL.unpD_e, DL.goOn_some, DL.goOn_none, DL.bT_e, DL.setL_cons, DL.setL_nil, DL.bN_e, DL.sto1_e, DL.sto_e, DL.stoW_e, DL.stoD_e, DL.sto2_e, DL.sto2K_e, DL.sto2W_e, DL.sto2I_e, DL.sto1K_e, DL.atK_e, DL.ali_e, DL.aliK_true, DL.aliK_false, DL.ali1_e, DL.ali1B_e, DL.ali1O_e, DL.ali1W_e, DL.ali1D_e, DL.forS_e, DL.forK_e, DL.loopB_some, DL.loopK_nx, DL.loopK_cont, DL.loopK_brk, DL.loopK_ret, DL.bin2_e, DL.binK_e, DL.binL_e, DL.un1_e, DL.unK_e, DL.tst_e, DL.tand_e, DL.tandK_true, DL.tandK_false, DL.tor_e, DL.torK_true, DL.torK_false, DL.tnot_e, DL.notK_e, DL.vand_e, DL.vandK_e, DL.vandL_true, DL.vandL_false, DL.vor_e, DL.vorK_e, DL.vorL_true, DL.vorL_false, DL.vnot_e, DL.vnotK_e, DL.vnotL_e, DL.vif_e, DL.vifK_true, DL.vifK_false, DL.anil_e, DL.acons_e, DL.aconsK_e, DL.aconsL_e, DL.call_e, DL.ccall_e, DL.ccallK1, DL.ccallK2, DL.ccallK3, DL.ccallK4, DL.sub_e, DL.subK_e, DL.subH_e, DL.cutK_e, DL.cutL_e, DL.oN_e, DL.oS_e, DL.oSK_e, DL.oI_e, DL.rev_e, DL.revK_e, DL.tup_e, DL.lst_e, DL.mkTup_e, DL.mkLst_e, DL.tupD_e, DL.lstD_e, DL.datas_e, DL.datasK_e, DL.kN_e, DL.kB_e, DL.kI_e, DL.kS_e, DL.kT_e, DL.kD0_e, DL.chainI_e, DL.chA_e, DL.chB_e, DL.chI_e, DL.chJ_e, DL.chG_true, DL.chG_false, DL.chY_e, DL.chC_e, DL.sSeq_e, DL.seqSrc_e, DL.asItems_list, DL.asItems_tuple, DL.sRng1_e, DL.rngW_e, DL.rngI_e, DL.sRng2_e, DL.rngK_e, DL.rngWW_e, DL.rngWI_e, DL.rngJ_e, DL.sZip_e, DL.zipK_e, DL.zipW_e, DL.zipA_e, DL.zipD_list, DL.zipD_tuple, DL.sEnum_e, DL.enumW_e, DL.enumV_e, DL.asList_e, DL.enumL_e, DL.ownR_e, DL.lc_e, DL.tYes_e, List.map_cons, List.map_nil, List.nil_append, List.cons_append, List.length_cons, List.length_nil, List.set_cons_zero, List.set_cons_succ, ite_self, reduceIte, noL_none, noL_bool, noL_int, noL_str, noL_list, noL_tuple, noLs_nil, noLs_cons, Bool.true_and, Bool.false_and, Bool.and_true, Bool.and_self, Bool.false_eq_true, Bool.not_true, Bool.not_false, List.replicate_succ, List.replicate_zero, DL.opEq_e, DL.flip_e, DL.opNe_e, DL.opIn_e, DL.opNotIn_e, DL.opLt_e, DL.opAdd_e, DL.opMul_e, DL.opIx_e, DL.opIsN_e, DL.opNotN_e, DL.opNeg_e, DL.opLe_e, DL.opGt_e, DL.opGe_e, DL.opSub_e, DL.vLt_int, DL.vEq_int, DL.vAdd_int, DL.vAdd_list, DL.vAdd_tuple, DL.vLen_tuple, DL.vLen_list, DL.vInt_int, DL.vTuple_list, DL.vTuple_tuple, DL.vList_list, DL.vList_tuple, DL.vRev_list, DL.vRev_tuple, DL.vCut_list, DL.vCut_tuple, DL.f1_e, DL.f2_e, DL.isNon_none, DL.isNon_int, DL.isi_int, DL.isi_bool, DL.isi_tuple, DL.isi_list, DL.isi_str, DL.isi_dict, vAbs, absD]
  have e1 : ((cutD (ns.map PyData.int) none (some (n : Int))).filter fun _ => true).map absD = ((ns.take n).map fun z : Int => if z < 0 then -z else z).map PyData.int := by
    rw [cutD_to, List.filter_eq_self.mpr (fun _ _ => rfl), ← List.map_take, List.map_map, List.map_map]
    rfl
  have c2 : ∀ ρ : En, cutR raw (ns.map PyData.int) (oS (kI n)) (oS (kI m)) (rdv 0) (some (.raw (.ref raw)) :: ρ) = .ok (.own (cutD (ns.map PyData.int) (some (n : Int)) (some (m : Int)))) := fun ρ => cutR_mid
  simp only [bPot, DL.sel_true, DL.sel_false, DL.sel_self, DL.okb, DL.excb, DL.badb, DL.pickb, DL.okp, DL.pickp, DL.ddat, DL.down, DL.sdat, DL.sown, DL.sraw, DL.spot, DL.gdat, DL.gown, DL.graw, DL.gpot, DL.asBb, DL.asIi, DL.kBok, DL.noxok, DL.datas0, DL.frz1_own, DL.frz1_dat, DL.frz1_raw, DL.frz1_pot, DL.frz1_none, DL.frz1_nil, DL.frz1_succ, DL.frz_nil, DL.frz_cons, DL.rdv_dat, DL.rdv_raw, DL.rdv_pot, DL.rdv_succ, DL.rtnV_zero, DL.rtnV_succ, DL.ownAt_zero, DL.ownAt_succ, DL.startE_eq, DL.seq_e, DL.seqK_nx, DL.seqK_ret, DL.seqK_brk, DL.seqK_cont, DL.asg_e, DL.asgK_e, DL.rtn_e, DL.rtnK_e, DL.rtnN_e, DL.exs_e, DL.exsK_e, DL.ifs_e, DL.ifsK_true, DL.ifsK_false, DL.skip_e, DL.brkS_e, DL.contS_e, DL.badS_e, DL.body_e, DL.fin_ret, DL.fin_nx, DL.app1_e, DL.app1K_e, DL.app_e, DL.appO_e, DL.appW_e, DL.appD_e, DL.asg2_e, DL.asg2K_e, DL.asg2L_e, DL.unp_e, DL.unpW_e, DL.unpD_e, DL.goOn_some, DL.goOn_none, DL.bT_e, DL.setL_cons, DL.setL_nil, DL.bN_e, DL.sto1_e, DL.sto_e, DL.stoW_e, DL.stoD_e, DL.sto2_e, DL.sto2K_e, DL.sto2W_e, DL.sto2I_e, DL.sto1K_e, DL.atK_e, DL.ali_e, DL.aliK_true, DL.aliK_false, DL.ali1_e, DL.ali1B_e, DL.ali1O_e, DL.ali1W_e, DL.ali1D_e, DL.forS_e, DL.forK_e, DL.loopB_some, DL.loopK_nx, DL.loopK_cont, DL.loopK_brk, DL.loopK_ret, DL.bin2_e, DL.binK_e, DL.binL_e, DL.un1_e, DL.unK_e, DL.tst_e, DL.tand_e, DL.tandK_true, DL.tandK_false, DL.tor_e, DL.torK_true, DL.torK_false, DL.tnot_e, DL.notK_e, DL.vand_e, DL.vandK_e, DL.vandL_true, DL.vandL_false, DL.vor_e, DL.vorK_e, DL.vorL_true, DL.vorL_false, DL.vnot_e, DL.vnotK_e, DL.vnotL_e, DL.vif_e, DL.vifK_true, DL.vifK_false, DL.anil_e, DL.acons_e, DL.aconsK_e, DL.aconsL_e, DL.call_e, DL.ccall_e, DL.ccallK1, DL.ccallK2, DL.ccallK3, DL.ccallK4, DL.sub_e, DL.subK_e, DL.subH_e, DL.cutK_e, DL.cutL_e, DL.oN_e, DL.oS_e, DL.oSK_e, DL.oI_e, DL.rev_e, DL.revK_e, DL.tup_e, DL.lst_e, DL.mkTup_e, DL.mkLst_e, DL.tupD_e, DL.lstD_e, DL.datas_e, DL.datasK_e, DL.kN_e, DL.kB_e, DL.kI_e, DL.kS_e, DL.kT_e, DL.kD0_e, DL.chainI_e, DL.chA_e, DL.chB_e, DL.chI_e, DL.chJ_e, DL.chG_true, DL.chG_false, DL.chY_e, DL.chC_e, DL.sSeq_e, DL.seqSrc_e, DL.asItems_list, DL.asItems_tuple, DL.sRng1_e, DL.rngW_e, DL.rngI_e, DL.sRng2_e, DL.rngK_e, DL.rngWW_e, DL.rngWI_e, DL.rngJ_e, DL.sZip_e, DL.zipK_e, DL.zipW_e, DL.zipA_e, DL.zipD_list, DL.zipD_tuple, DL.sEnum_e, DL.enumW_e, DL.enumV_e, DL.asList_e, DL.enumL_e, DL.ownR_e, DL.lc_e, DL.tYes_e, List.map_cons, List.map_nil, List.nil_append, List.cons_append, List.length_cons, List.length_nil, List.set_cons_zero, List.set_cons_succ, ite_self, reduceIte, noL_none, noL_bool, noL_int, noL_str, noL_list, noL_tuple, noLs_nil, noLs_cons, Bool.true_and, Bool.false_and, Bool.and_true, Bool.and_self, Bool.false_eq_true, Bool.not_true, Bool.not_false, List.replicate_succ, List.replicate_zero, DL.opEq_e, DL.flip_e, DL.opNe_e, DL.opIn_e, DL.opNotIn_e, DL.opLt_e, DL.opAdd_e, DL.opMul_e, DL.opIx_e, DL.opIsN_e, DL.opNotN_e, DL.opNeg_e, DL.opLe_e, DL.opGt_e, DL.opGe_e, DL.opSub_e, DL.vLt_int, DL.vEq_int, DL.vAdd_int, DL.vAdd_list, DL.vAdd_tuple, DL.vLen_tuple, DL.vLen_list, DL.vInt_int, DL.vTuple_list, DL.vTuple_tuple, DL.vList_list, DL.vList_tuple, DL.vRev_list, DL.vRev_tuple, DL.vCut_list, DL.vCut_tuple, DL.f1_e, DL.f2_e, DL.isNon_none, DL.isNon_int, DL.isi_int, DL.isi_bool, DL.isi_tuple, DL.isi_list, DL.isi_str, DL.isi_dict, c1, l1, c2, noLs, e1]
  refine M.post_bind.mpr (loop_post (P := fun fl => M.post (seqK _ fl) _ _) (fun ds ρ => ∃ (cs : List Int) (o2 o3 : Option Wv), ρ = [some (.raw (.ref raw)), some (.own (cs.map PyData.int)), o2, o3] ∧ (o2 = none ∨ ∃ z, o2 = some (.dat (.int z))) ∧ (o3 = none ∨ ∃ z, o3 = some (.dat (.int z))) ∧
      ∀ d ∈ ds, cs.length = n ∧ ∃ (j : Nat) (z : Int), d = pairD (.int j) (.int z)) _ _ ?_ ?_ ?_)
  · refine ⟨(ns.take n).map fun z => if z < 0 then -z else z, none, none, rfl, .inl rfl, .inl rfl, fun d hd => ?_⟩
    · obtain ⟨j, x, _, hx, rfl⟩ := enumD_mem hd
      rw [cutD_mid] at hx
      have hx2 := List.mem_of_mem_drop hx
      obtain ⟨z, _, rfl⟩ := List.mem_map.mp (List.mem_of_mem_take hx2)
      refine ⟨?_, j, z, rfl⟩
      rw [List.length_map, List.length_take]
      have : 0 < ((List.take m (ns.map PyData.int)).drop n).length := List.length_pos_of_mem hx
      rw [List.length_drop, List.length_take, List.length_map] at this
      omega
  · rintro ρ ⟨cs, o2, o3, rfl, _, _, _⟩
    have sm : ∀ x : M Wv, small 4 x = x := fun x => if_pos (by decide)
    simp only [DL.sel_true, DL.sel_false, DL.sel_self, DL.okb, DL.excb, DL.badb, DL.pickb, DL.okp, DL.pickp, DL.ddat, DL.down, DL.sdat, DL.sown, DL.sraw, DL.spot, DL.gdat, DL.gown, DL.graw, DL.gpot, DL.asBb, DL.asIi, DL.kBok, DL.noxok, DL.datas0, DL.frz1_own, DL.frz1_dat, DL.frz1_raw, DL.frz1_pot, DL.frz1_none, DL.frz1_nil, DL.frz1_succ, DL.frz_nil, DL.frz_cons, DL.rdv_dat, DL.rdv_raw, DL.rdv_pot, DL.rdv_succ, DL.rtnV_zero, DL.rtnV_succ, DL.ownAt_zero, DL.ownAt_succ, DL.startE_eq, DL.seq_e, DL.seqK_nx, DL.seqK_ret, DL.seqK_brk, DL.seqK_cont, DL.asg_e, DL.asgK_e, DL.rtn_e, DL.rtnK_e, DL.rtnN_e, DL.exs_e, DL.exsK_e, DL.ifs_e, DL.ifsK_true, DL.ifsK_false, DL.skip_e, DL.brkS_e, DL.contS_e, DL.badS_e, DL.body_e, DL.fin_ret, DL.fin_nx, DL.app1_e, DL.app1K_e, DL.app_e, DL.appO_e, DL.appW_e, DL.appD_e, DL.asg2_e, DL.asg2K_e, DL.asg2L_e, DL.unp_e, DL.unpW_e, DL.unpD_e, DL.goOn_some, DL.goOn_none, DL.bT_e, DL.setL_cons, DL.setL_nil, DL.bN_e, DL.sto1_e, DL.sto_e, DL.stoW_e, DL.stoD_e, DL.sto2_e, DL.sto2K_e, DL.sto2W_e, DL.sto2I_e, DL.sto1K_e, DL.atK_e, DL.ali_e, DL.aliK_true, DL.aliK_false, DL.ali1_e, DL.ali1B_e, DL.ali1O_e, DL.ali1W_e, DL.ali1D_e, DL.forS_e, DL.forK_e, DL.loopB_some, DL.loopK_nx, DL.loopK_cont, DL.loopK_brk, DL.loopK_ret, DL.bin2_e, DL.binK_e, DL.binL_e, DL.un1_e, DL.unK_e, DL.tst_e, DL.tand_e, DL.tandK_true, DL.tandK_false, DL.tor_e, DL.torK_true, DL.torK_false, DL.tnot_e, DL.notK_e, DL.vand_e, DL.vandK_e, DL.vandL_true, DL.vandL_false, DL.vor_e, DL.vorK_e, DL.vorL_true, DL.vorL_false, DL.vnot_e, DL.vnotK_e, DL.vnotL_e, DL.vif_e, DL.vifK_true, DL.vifK_false, DL.anil_e, DL.acons_e, DL.aconsK_e, DL.aconsL_e, DL.call_e, DL.ccall_e, DL.ccallK1, DL.ccallK2, DL.ccallK3, DL.ccallK4, DL.sub_e, DL.subK_e, DL.subH_e, DL.cutK_e, DL.cutL_e, DL.oN_e, DL.oS_e, DL.oSK_e, DL.oI_e, DL.rev_e, DL.revK_e, DL.tup_e, DL.lst_e, DL.mkTup_e, DL.mkLst_e, DL.tupD_e, DL.lstD_e, DL.datas_e, DL.datasK_e, DL.kN_e, DL.kB_e, DL.kI_e, DL.kS_e, DL.kT_e, DL.kD0_e, DL.chainI_e, DL.chA_e, DL.chB_e, DL.chI_e, DL.chJ_e, DL.chG_true, DL.chG_false, DL.chY_e, DL.chC_e, DL.sSeq_e, DL.seqSrc_e, DL.asItems_list, DL.asItems_tuple, DL.sRng1_e, DL.rngW_e, DL.rngI_e, DL.sRng2_e, DL.rngK_e, DL.rngWW_e, DL.rngWI_e, DL.rngJ_e, DL.sZip_e, DL.zipK_e, DL.zipW_e, DL.zipA_e, DL.zipD_list, DL.zipD_tuple, DL.sEnum_e, DL.enumW_e, DL.enumV_e, DL.asList_e, DL.enumL_e, DL.ownR_e, DL.lc_e, DL.tYes_e, List.map_cons, List.map_nil, List.nil_append, List.cons_append, List.length_cons, List.length_nil, List.set_cons_zero, List.set_cons_succ, ite_self, reduceIte, noL_none, noL_bool, noL_int, noL_str, noL_list, noL_tuple, noLs_nil, noLs_cons, Bool.true_and, Bool.false_and, Bool.and_true, Bool.and_self, Bool.false_eq_true, Bool.not_true, Bool.not_false, List.replicate_succ, List.replicate_zero, DL.opEq_e, DL.flip_e, DL.opNe_e, DL.opIn_e, DL.opNotIn_e, DL.opLt_e, DL.opAdd_e, DL.opMul_e, DL.opIx_e, DL.opIsN_e, DL.opNotN_e, DL.opNeg_e, DL.opLe_e, DL.opGt_e, DL.opGe_e, DL.opSub_e, DL.vLt_int, DL.vEq_int, DL.vAdd_int, DL.vAdd_list, DL.vAdd_tuple, DL.vLen_tuple, DL.vLen_list, DL.vInt_int, DL.vTuple_list, DL.vTuple_tuple, DL.vList_list, DL.vList_tuple, DL.vRev_list, DL.vRev_tuple, DL.vCut_list, DL.vCut_tuple, DL.f1_e, DL.f2_e, DL.isNon_none, DL.isNon_int, DL.isi_int, DL.isi_bool, DL.isi_tuple, DL.isi_list, DL.isi_str, DL.isi_dict, sm]
    exact ⟨cs, rfl⟩
  · rintro d ds ρ ⟨cs, o2, o3, rfl, h2, h3, hd⟩
    obtain ⟨hl, j, z, rfl⟩ := hd d (List.mem_cons_self ..)
    refine ⟨_, rfl, ?_⟩
    have hn' : (0 : Int) < (n : Int) := by omega
    have md : opMod (.dat (.int (j : Int))) (.dat (.int (n : Int))) = .ok (.dat (.int ((j % n : Nat) : Int))) := by
      rw [opMod_e hn']
      rfl
    have hj : j % n < cs.length := by rw [hl]; exact Nat.mod_lt _ hn.1
    have ix : vIx (.list (cs.map PyData.int)) (.int ((j % n : Nat) : Int)) = .ok (.dat (.int cs[j % n])) := vIx_list (by rw [atI_nat', List.getElem?_map, List.getElem?_eq_getElem hj]; rfl)
    have ix2 : L2.ixN (cs.map PyData.int).length ((j % n : Nat) : Int) = some (j % n) := ixN_nat (by rw [List.length_map]; exact hj)
    have st : [some (.raw (.ref raw)), some (.own (cs.map PyData.int)), o2, o3].set 3 (some (.dat (.int (j : Int)))) = [some (.raw (.ref raw)), some (.own (cs.map PyData.int)), o2, some (.dat (.int (j : Int)))] := rfl
    simp only [pairD, DL.sel_true, DL.sel_false, DL.sel_self, DL.okb, DL.excb, DL.badb, DL.pickb, DL.okp, DL.pickp, DL.ddat, DL.down, DL.sdat, DL.sown, DL.sraw, DL.spot, DL.gdat, DL.gown, DL.graw, DL.gpot, DL.asBb, DL.asIi, DL.kBok, DL.noxok, DL.datas0, DL.frz1_own, DL.frz1_dat, DL.frz1_raw, DL.frz1_pot, DL.frz1_none, DL.frz1_nil, DL.frz1_succ, DL.frz_nil, DL.frz_cons, DL.rdv_dat, DL.rdv_raw, DL.rdv_pot, DL.rdv_succ, DL.rtnV_zero, DL.rtnV_succ, DL.ownAt_zero, DL.ownAt_succ, DL.startE_eq, DL.seq_e, DL.seqK_nx, DL.seqK_ret, DL.seqK_brk, DL.seqK_cont, DL.asg_e, DL.asgK_e, DL.rtn_e, DL.rtnK_e, DL.rtnN_e, DL.exs_e, DL.exsK_e, DL.ifs_e, DL.ifsK_true, DL.ifsK_false, DL.skip_e, DL.brkS_e, DL.contS_e, DL.badS_e, DL.body_e, DL.fin_ret, DL.fin_nx, DL.app1_e, DL.app1K_e, DL.app_e, DL.appO_e, DL.appW_e, DL.appD_e, DL.asg2_e, DL.asg2K_e, DL.asg2L_e, DL.unp_e, DL.unpW_e, DL.unpD_e, DL.goOn_some, DL.goOn_none, DL.bT_e, DL.setL_cons, DL.setL_nil, DL.bN_e, DL.sto1_e, DL.sto_e, DL.stoW_e, DL.stoD_e, DL.sto2_e, DL.sto2K_e, DL.sto2W_e, DL.sto2I_e, DL.sto1K_e, DL.atK_e, DL.ali_e, DL.aliK_true, DL.aliK_false, DL.ali1_e, DL.ali1B_e, DL.ali1O_e, DL.ali1W_e, DL.ali1D_e, DL.forS_e, DL.forK_e, DL.loopB_some, DL.loopK_nx, DL.loopK_cont, DL.loopK_brk, DL.loopK_ret, DL.bin2_e, DL.binK_e, DL.binL_e, DL.un1_e, DL.unK_e, DL.tst_e, DL.tand_e, DL.tandK_true, DL.tandK_false, DL.tor_e, DL.torK_true, DL.torK_false, DL.tnot_e, DL.notK_e, DL.vand_e, DL.vandK_e, DL.vandL_true, DL.vandL_false, DL.vor_e, DL.vorK_e, DL.vorL_true, DL.vorL_false, DL.vnot_e, DL.vnotK_e, DL.vnotL_e, DL.vif_e, DL.vifK_true, DL.vifK_false, DL.anil_e, DL.acons_e, DL.aconsK_e, DL.aconsL_e, DL.call_e, DL.ccall_e, DL.ccallK1, DL.ccallK2, DL.ccallK3, DL.ccallK4, DL.sub_e, DL.subK_e, DL.subH_e, DL.cutK_e, DL.cutL_e, DL.oN_e, DL.oS_e, DL.oSK_e, DL.oI_e, DL.rev_e, DL.revK_e, DL.tup_e, DL.lst_e, DL.mkTup_e, DL.mkLst_e, DL.tupD_e, DL.lstD_e, DL.datas_e, DL.datasK_e, DL.kN_e, DL.kB_e, DL.kI_e, DL.kS_e, DL.kT_e, DL.kD0_e, DL.chainI_e, DL.chA_e, DL.chB_e, DL.chI_e, DL.chJ_e, DL.chG_true, DL.chG_false, DL.chY_e, DL.chC_e, DL.sSeq_e, DL.seqSrc_e, DL.asItems_list, DL.asItems_tuple, DL.sRng1_e, DL.rngW_e, DL.rngI_e, DL.sRng2_e, DL.rngK_e, DL.rngWW_e, DL.rngWI_e, DL.rngJ_e, DL.sZip_e, DL.zipK_e, DL.zipW_e, DL.zipA_e, DL.zipD_list, DL.zipD_tuple, DL.sEnum_e, DL.enumW_e, DL.enumV_e, DL.asList_e, DL.enumL_e, DL.ownR_e, DL.lc_e, DL.tYes_e, List.map_cons, List.map_nil, List.nil_append, List.cons_append, List.length_cons, List.length_nil, List.set_cons_zero, List.set_cons_succ, ite_self, reduceIte, noL_none, noL_bool, noL_int, noL_str, noL_list, noL_tuple, noLs_nil, noLs_cons, Bool.true_and, Bool.false_and, Bool.and_true, Bool.and_self, Bool.false_eq_true, Bool.not_true, Bool.not_false, List.replicate_succ, List.replicate_zero, DL.opEq_e, DL.flip_e, DL.opNe_e, DL.opIn_e, DL.opNotIn_e, DL.opLt_e, DL.opAdd_e, DL.opMul_e, DL.opIx_e, DL.opIsN_e, DL.opNotN_e, DL.opNeg_e, DL.opLe_e, DL.opGt_e, DL.opGe_e, DL.opSub_e, DL.vLt_int, DL.vEq_int, DL.vAdd_int, DL.vAdd_list, DL.vAdd_tuple, DL.vLen_tuple, DL.vLen_list, DL.vInt_int, DL.vTuple_list, DL.vTuple_tuple, DL.vList_list, DL.vList_tuple, DL.vRev_list, DL.vRev_tuple, DL.vCut_list, DL.vCut_tuple, DL.f1_e, DL.f2_e, DL.isNon_none, DL.isNon_int, DL.isi_int, DL.isi_bool, DL.isi_tuple, DL.isi_list, DL.isi_str, DL.isi_dict, md, ix, ix2, vAbs, Option.map_some, M.post_ok]
    refine ⟨cs.set (j % n) (cs[j % n] + if z < 0 then -z else z), _, _, ?_, .inr ⟨z, rfl⟩, .inr ⟨j, rfl⟩, fun d hd' => ?_⟩
    · rw [List.map_set]
    · obtain ⟨q1, q2⟩ := hd d (List.mem_cons_of_mem _ hd')
      exact ⟨by rw [List.length_set]; exact q1, q2⟩
end DL

namespace DL
open PySem (PyData Addr Str)
/-! ## plain words for data -/
def isInt : D → Bool
  | .int _ => true
  | _ => false
def isCnt : D → Bool
  | .int i => decide (0 ≤ i)
  | _ => false
def isNm : D → Bool
  | .none => true
  | .int i => decide (0 ≤ i) && decide (i ≤ 20)
  | _ => false
def isPr (m : Int) : D → Bool
  | .tuple [.int i, .int j] => decide (0 ≤ i) && decide (i < j) && decide (j < m)
  | _ => false
def ltD (a b : D) : Bool := match vLt a b with
  | .ok k => k
  | _ => false
def adj (xs : List D) : Bool := (List.zipWith ltD xs (xs.drop 1)).all id
def isRis : D → Bool
  | .tuple xs => xs.all isCnt && adj xs
  | _ => false
def isRow (m : Int) : D → Bool
  | .tuple xs => xs.all (isPr m) && adj xs
  | _ => false
def itm : D → List D
  | .tuple xs => xs
  | _ => []
def isPty : D → Bool
  | .tuple [.tuple ns, a, b] => decide ((1 : Int) ≤ ns.length) && decide ((ns.length : Int) ≤ 8) && ns.all isNm && isRow ns.length a && isRow ns.length b && !(itm a).any fun p => isIn p (itm b)
  | _ => false
theorem vLt_ok {a b : D} (h : ∃ k, vLt a b = .ok k) : vLt a b = .ok (ltD a b) := by
  obtain ⟨k, e⟩ := h
  unfold ltD
  rw [e]
theorem isPr_iff {m : Int} {d : D} : isPr m d = true ↔ ∃ i j : Int, d = .tuple [.int i, .int j] ∧ 0 ≤ i ∧ i < j ∧ j < m := by
  constructor
  · intro h
    unfold isPr at h
    split at h
    · simp only [Bool.and_eq_true, decide_eq_true_eq] at h
      exact ⟨_, _, rfl, h.1.1, h.1.2, h.2⟩
    · cases h
  · rintro ⟨i, j, rfl, h1, h2, h3⟩
    simp [isPr, h1, h2, h3]
theorem vLt_pairs {i j k l : Int} : ∃ b, vLt (.tuple [.int i, .int j]) (.tuple [.int k, .int l]) = .ok b := by
  refine ⟨PySem.W.dataLt (.tuple [.int i, .int j]) (.tuple [.int k, .int l]), ?_⟩
  unfold vLt
  exact if_pos (by rfl)
/-- a tuple of pairs is fit for in -/
theorem isCnt_iff {d : D} : isCnt d = true ↔ ∃ i : Int, d = .int i ∧ 0 ≤ i := by
  cases d <;> simp [isCnt]
theorem isRis2 {x y : D} : isRis (.tuple [x, y]) = true ↔ ∃ i j : Int, x = .int i ∧ y = .int j ∧ 0 ≤ i ∧ i < j := by
  constructor
  · intro h
    unfold isRis at h
    simp only [List.all_cons, List.all_nil, Bool.and_true, Bool.and_eq_true, adj, List.drop_succ_cons, List.drop_zero, List.zipWith_cons_cons, List.zipWith_nil_right, id_eq] at h
    obtain ⟨⟨h1, h2⟩, h3⟩ := h
    obtain ⟨i, rfl, p1⟩ := isCnt_iff.mp h1
    obtain ⟨j, rfl, p2⟩ := isCnt_iff.mp h2
    exact ⟨i, j, rfl, rfl, p1, by simpa [ltD, vLt] using h3⟩
  · rintro ⟨i, j, rfl, rfl, h1, h2⟩
    simp only [isRis, List.all_cons, List.all_nil, Bool.and_true, Bool.and_eq_true, adj, List.drop_succ_cons, List.drop_zero, List.zipWith_cons_cons, List.zipWith_nil_right, id_eq, isCnt, decide_eq_true_eq]
    exact ⟨⟨h1, by omega⟩, by simpa [ltD, vLt] using h2⟩
theorem isPr_len {m : Int} {xs : List D} (h : xs.length ≠ 2) : isPr m (.tuple xs) = false := by
  cases e : isPr m (.tuple xs) with
  | false => rfl
  | true =>
    obtain ⟨i, j, e2, _⟩ := isPr_iff.mp e
    cases e2
    exact absurd rfl h
theorem two_of {xs : List D} (h : xs.length = 2) : ∃ x y, xs = [x, y] := by
  match xs, h with
  | [x, y], _ => exact ⟨x, y, rfl⟩
theorem canLay_pairs {m : Int} : ∀ {xs : List D}, xs.all (isPr m) = true → PyData.canLayAll0 xs = true
  | [], _ => rfl
  | x :: xs, h => by
    simp only [List.all_cons, Bool.and_eq_true] at h
    obtain ⟨i, j, rfl, _⟩ := isPr_iff.mp h.1
    unfold PyData.canLayAll0
    rw [canLay_pairs h.2]
    rfl
theorem shaped_pair {m : Int} {d : D} (h : isPr m d = true) : PySem.SeqAt.shaped d = true := by
  obtain ⟨i, j, rfl, _⟩ := isPr_iff.mp h
  rfl
/-! comprehensions over data that all hold, all fail -/
theorem all_bools {xs : List D} {p : D → Bool} : vAll (.list (xs.map fun d => .bool (p d))) = .ok (.dat (.bool (xs.all p))) := by
  have := vAll_bools (bs := xs.map p)
  rw [List.map_map] at this
  rw [show (xs.map fun d => PyData.bool (p d)) = List.map (PyData.bool ∘ p) xs from rfl, this, List.all_map]
  rfl
theorem any_bools {xs : List D} {p : D → Bool} : vAny (.list (xs.map fun d => .bool (p d))) = .ok (.dat (.bool (xs.any p))) := by
  have := vAny_bools (bs := xs.map p)
  rw [List.map_map] at this
  rw [show (xs.map fun d => PyData.bool (p d)) = List.map (PyData.bool ∘ p) xs from rfl, this, List.any_map]
  rfl
/-- .. every turn gives one datum -/
theorem lcK_map {vs : List Nat} {b : D → En → Option En} {t : En → M Bool} {el : En → M Wv} {ρ : En} {ds : List D} (q : D → D) (hz : ds.length ≤ 1000000)
    (h : ∀ d ∈ ds, ∃ ρ1, b d (wipeE ρ vs) = some ρ1 ∧ t ρ1 = .ok true ∧ el ρ1 = .ok (.dat (q d))) : lcK vs b t el ρ ds = .ok (.own (ds.map q)) := by
  rw [lcK_ok (fun _ => true) q hz fun d hd => ?_, List.filter_eq_self.mpr fun _ _ => rfl]
  obtain ⟨ρ1, h1, h2, h3⟩ := h d hd
  exact ⟨ρ1, h1, h2, fun _ => ⟨_, h3, rfl⟩⟩
def fst' : D → D
  | .tuple [a, _] => a
  | d => d
def snd' : D → D
  | .tuple [_, b] => b
  | d => d
theorem zip_init (xs : List D) : List.zipWith pairD (xs.take (xs.length - 1)) (xs.drop 1) = List.zipWith pairD xs (xs.drop 1) := by
  cases xs with
  | nil => rfl
  | cons x xs =>
    simp only [List.length_cons, Nat.add_sub_cancel, List.drop_succ_cons, List.drop_zero]
    induction xs generalizing x with
    | nil => rfl
    | cons y xs ih =>
      simp only [List.length_cons, List.take_succ_cons, List.zipWith_cons_cons]
      rw [ih]
theorem zip_adj (xs : List D) : (List.zipWith pairD xs (xs.drop 1)).map (fun d => PyData.bool (ltD (fst' d) (snd' d))) = (List.zipWith ltD xs (xs.drop 1)).map PyData.bool := by
  generalize xs.drop 1 = ys
  induction xs generalizing ys with
  | nil => rfl
  | cons x xs ih =>
    cases ys with
    | nil => rfl
    | cons y ys =>
      simp only [List.zipWith_cons_cons, List.map_cons]
      rw [ih]
      rfl
theorem zip_mem {xs ys : List D} {d : D} (h : d ∈ List.zipWith pairD xs ys) : ∃ a b, a ∈ xs ∧ b ∈ ys ∧ d = pairD a b := by
  induction xs generalizing ys with
  | nil => simp at h
  | cons x xs ih =>
    cases ys with
    | nil => simp at h
    | cons y ys =>
      simp only [List.zipWith_cons_cons, List.mem_cons] at h
      rcases h with e | h
      · exact ⟨x, y, List.mem_cons_self .., List.mem_cons_self .., e⟩
      · obtain ⟨a, b, h1, h2, h3⟩ := ih h
        exact ⟨a, b, List.mem_cons_of_mem _ h1, List.mem_cons_of_mem _ h2, h3⟩
/-- sizes that the machine takes, k levels deep -/
def Sz : Nat → D → Prop
  | 0, _ => True
  | k + 1, d => (itm d).length ≤ 1000000 ∧ ∀ x ∈ itm d, Sz k x
theorem three_of {xs : List D} (h : xs.length = 3) : ∃ x y z, xs = [x, y, z] := by
  match xs, h with
  | [x, y, z], _ => exact ⟨x, y, z, rfl⟩
theorem isPty_len {xs : List D} (h : xs.length ≠ 3) : isPty (.tuple xs) = false := by
  unfold isPty
  split
  · rename_i e
    cases e
    exact absurd rfl h
  · rfl
theorem isNon_ne {d : D} (h : d ≠ .none) : isNon d = false := by
  cases d <;> first | rfl | exact absurd rfl h
def isNum (a b : Int) : D → Bool
  | .int i => decide (a ≤ i) && decide (i ≤ b)
  | _ => false
theorem isNum_nm {d : D} (h : d ≠ .none) : isNum 0 20 d = isNm d := by
  cases d <;> first | rfl | exact absurd rfl h
theorem eqv_nil {xs : List D} : PyData.eqv (.list xs) (.list []) = xs.isEmpty := by
  cases xs <;> simp [PyData.eqv, PyData.eqvAll]
theorem vEq_nil {xs : List D} (h : PySem.SeqAt.shaped (.list xs) = true) : vEq (.list xs) (.list []) = .ok xs.isEmpty := by
  rw [vEq_of h (by rfl), eqv_nil]
theorem depth_pairs {m : Int} : ∀ {xs : List D}, (∀ x ∈ xs, isPr m x = true) → PyData.depthAll xs ≤ 2
  | [], _ => by unfold PyData.depthAll; omega
  | x :: xs, h => by
    obtain ⟨i, j, rfl, _⟩ := isPr_iff.mp (h x (List.mem_cons_self ..))
    have := depth_pairs fun y hy => h y (List.mem_cons_of_mem _ hy)
    unfold PyData.depthAll
    have e : (PyData.tuple [.int i, .int j]).depth ≤ 2 := by
      simp [PyData.depth, PyData.depthAll]
    omega
theorem shaped_pairs {m : Int} {xs : List D} (h : ∀ x ∈ xs, isPr m x = true) : PySem.SeqAt.shaped (.list xs) = true := by
  have h1 := canLay_pairs (m := m) (xs := xs) (List.all_eq_true.mpr h)
  have h2 := depth_pairs h
  unfold PySem.SeqAt.shaped PyData.canLay0 PyData.depth
  simp only [h1, Bool.true_and, decide_eq_true_eq]
  omega
/-- slot i behind a loop that stores there -/
theorem fold1 {a o : Option Wv} {r : En} : ∀ ds : List D, ∃ o', ds.foldl (fun ρ d => ρ.set 1 (some (.dat d))) (a :: o :: r) = a :: o' :: r ∧ (o' = o ∨ ∃ z, o' = some (.dat z))
  | [] => ⟨o, rfl, .inl rfl⟩
  | d :: ds => by
    obtain ⟨o', h1, h2⟩ := fold1 (a := a) (o := some (.dat d)) (r := r) ds
    refine ⟨o', h1, .inr ?_⟩
    rcases h2 with e | e
    · exact ⟨d, e⟩
    · exact e
theorem fold2 {a b o : Option Wv} {r : En} : ∀ ds : List D, ∃ o', ds.foldl (fun ρ d => ρ.set 2 (some (.dat d))) (a :: b :: o :: r) = a :: b :: o' :: r ∧ (o' = o ∨ ∃ z, o' = some (.dat z))
  | [] => ⟨o, rfl, .inl rfl⟩
  | d :: ds => by
    obtain ⟨o', h1, h2⟩ := fold2 (a := a) (b := b) (o := some (.dat d)) (r := r) ds
    refine ⟨o', h1, .inr ?_⟩
    rcases h2 with e | e
    · exact ⟨d, e⟩
    · exact e
theorem find_not {p : D → Bool} {ds : List D} (h : ds.all p = true) : ds.find? (fun d => !p d) = none := by
  rw [List.find?_eq_none]
  intro x hx
  simp [List.all_eq_true.mp h x hx]
theorem find_some {p : D → Bool} {ds : List D} (h : ds.all p = false) : ∃ d, ds.find? (fun d => !p d) = some d := by
  cases e : ds.find? (fun d => !p d) with
  | some d => exact ⟨d, rfl⟩
  | none =>
    rw [List.find?_eq_none] at e
    have : ds.all p = true := List.all_eq_true.mpr fun x hx => by simpa using e x hx
    rw [this] at h
    cases h
theorem adj_not {xs : List D} : ((List.zipWith pairD xs (xs.drop 1)).filter fun d => !ltD (fst' d) (snd' d)).isEmpty = adj xs := by
  unfold adj
  generalize xs.drop 1 = ys
  induction xs generalizing ys with
  | nil => rfl
  | cons x xs ih =>
    cases ys with
    | nil => rfl
    | cons y ys =>
      simp only [List.zipWith_cons_cons, List.filter_cons, List.all_cons, id_eq]
      have := ih ys
      cases h : ltD x y with
      | true =>
        rw [show (!ltD (fst' (pairD x y)) (snd' (pairD x y))) = !ltD x y from rfl, h]
        simpa using this
      | false =>
        rw [show (!ltD (fst' (pairD x y)) (snd' (pairD x y))) = !ltD x y from rfl, h]
        simp
/-- a loop whose turns end it or go on, in slots that keep their form -/
theorem loop_inv {b : D → En → Option En} {g : En → M Fl} (p : D → Bool) (r : D → Wv) (Inv : En → Prop) : ∀ (ds : List D) (ρ : En), Inv ρ →
    (∀ ρ, Inv ρ → ∀ d ∈ ds, ∃ ρ1, b d ρ = some ρ1 ∧ ((p d = true ∧ g ρ1 = .ok (.ret (r d))) ∨ (p d = false ∧ ∃ ρ2, g ρ1 = .ok (.nx ρ2) ∧ Inv ρ2))) →
    ∃ ρ', Inv ρ' ∧ loop b g ds ρ = .ok (match ds.find? p with | some d => .ret (r d) | none => .nx ρ')
  | [], ρ, i, _ => ⟨ρ, i, rfl⟩
  | d :: ds, ρ, i, h => by
    obtain ⟨ρ1, h1, h2⟩ := h ρ i d (List.mem_cons_self ..)
    rcases h2 with ⟨hp, h2⟩ | ⟨hp, ρ2, h2, i2⟩
    · refine ⟨ρ, i, ?_⟩
      rw [loop_cons, h1, loopB_some, h2, M.ok_bind, loopK_ret]
      simp [List.find?_cons, hp]
    · obtain ⟨ρ', i3, h3⟩ := loop_inv p r Inv ds ρ2 i2 fun ρ i x hx => h ρ i x (List.mem_cons_of_mem _ hx)
      refine ⟨ρ', i3, ?_⟩
      rw [loop_cons, h1, loopB_some, h2, M.ok_bind, loopK_nx, h3]
      simp [List.find?_cons, hp]
theorem noLs_pairs {m : Int} : ∀ {xs : List D}, (∀ x ∈ xs, isPr m x = true) → noLs xs = true
  | [], _ => by simp
  | x :: xs, h => by
    obtain ⟨i, j, rfl, _⟩ := isPr_iff.mp (h x (List.mem_cons_self ..))
    rw [noLs_cons, noLs_pairs fun y hy => h y (List.mem_cons_of_mem _ hy)]
    simp
end DL

namespace DL
open PySem (PyData Addr Str)
/-! ## draws -/
theorem dPot_e {b : Int} (h : 0 < b) (h' : b < 1000000000000) : dPot [.pot, .dat (.int b)] = .pick b.toNat fun r => .ok (.dat (.int r)) := by
  refine if_pos ⟨h, ?_⟩
  have h2 : b.natAbs < 2 ^ 41 := by
    have : (2 : Nat) ^ 41 = 2199023255552 := by decide
    omega
  by_cases h0 : b.natAbs = 0
  · rw [h0]; decide
  · have := (Nat.log2_lt h0).mpr h2
    omega
/-- a def's promise, kept from being reckoned -/
structure Pst {α : Type} (m : M α) (R : α → Prop) : Prop where
  run : m.post R (fun _ => False)
theorem post_use {α : Type} {m : M α} {R Q : α → Prop} {E : Ex → Prop} (h : Pst m R) (h2 : ∀ a, R a → Q a) : m.post Q E := M.post_mono h.run h2 fun _ z => z.elim
theorem lcK_pst {vs : List Nat} {t : En → M Bool} {ρ : En} {ds : List D} {b : D → En → Option En} {el : En → M Wv} {P : Wv → Prop} (I : List D → List D → Prop) (hz : ds.length ≤ 1000000) (h0 : I ds []) (h1 : ∀ acc, I [] acc → P (.own acc))
    (h : ∀ d ds acc, I (d :: ds) acc → ∃ ρ1, b d (wipeE ρ vs) = some ρ1 ∧ (t ρ1).post (fun k => if k = true then (el ρ1).post (fun w => ∃ y, w.d = .ok y ∧ I ds (acc ++ [y])) (fun _ => False) else I ds acc) (fun _ => False)) : Pst (lcK vs b t el ρ ds) P := ⟨lcK_post I hz h0 h1 h⟩
theorem loop_pst {b : D → En → Option En} {g : En → M Fl} {P : Fl → Prop} (I : List D → En → Prop) {ds : List D} {ρ : En} (h : I ds ρ) (h0 : ∀ ρ, I [] ρ → P (.nx ρ))
    (hs : ∀ d ds ρ, I (d :: ds) ρ → ∃ ρ1, b d ρ = some ρ1 ∧ (g ρ1).post (fun fl => match fl with | .nx ρ2 => I ds ρ2 | .cont ρ2 => I ds ρ2 | .brk ρ2 => P (.nx ρ2) | .ret w => P (.ret w)) (fun _ => False)) : Pst (loop b g ds ρ) P := ⟨loop_post I ds ρ h h0 hs⟩
theorem post_seq {g g' : En → M Fl} {ρ : En} {Q : Fl → Prop} {E : Ex → Prop} (R : En → Prop) (h : (g ρ).post (fun fl => match fl with | .nx ρ' => R ρ' | fl => Q fl) E) (h' : ∀ ρ', R ρ' → (g' ρ').post Q E) : (seq g g' ρ).post Q E := by
  rw [seq_e]
  refine M.post_bind.mpr (M.post_mono h (fun fl z => ?_) fun _ z => z)
  cases fl with
  | nx ρ' => exact h' ρ' z
  | ret w => exact z
  | brk _ => exact z
  | cont _ => exact z
theorem post_asg {m : List Nat} {i : Nat} {f : En → M Wv} {ρ : En} {Q : Fl → Prop} {E : Ex → Prop} (h : (f (frz m ρ)).post (fun w => Q (.nx (sel w.still (ρ.set i (some w)) ((frz m ρ).set i (some w))))) E) : (asg m i f ρ).post Q E := by
  rw [asg_e]
  refine M.post_bind.mpr (M.post_mono h (fun w z => ?_) fun _ z => z)
  rw [asgK_e]
  exact z
theorem post_rtn {m : List Nat} {f : En → M Wv} {ρ : En} {Q : Fl → Prop} {E : Ex → Prop} (h : (f (frz m ρ)).post (fun w => Q (.ret w)) E) : (rtn m f ρ).post Q E := by
  rw [rtn_e]
  exact M.post_bind.mpr h
theorem post_for {m : List Nat} {src : En → M (List D)} {b : D → En → Option En} {g : En → M Fl} {ρ : En} {ds : List D} {P : Fl → Prop} {E : Ex → Prop} (hs : src (frz m ρ) = .ok ds) (I : List D → En → Prop) (h : I ds (frz m ρ)) (h0 : ∀ ρ, I [] ρ → P (.nx ρ))
    (ht : ∀ d ds ρ, I (d :: ds) ρ → ∃ ρ1, b d ρ = some ρ1 ∧ (g ρ1).post (fun fl => match fl with | .nx ρ2 => I ds ρ2 | .cont ρ2 => I ds ρ2 | .brk ρ2 => P (.nx ρ2) | .ret w => P (.ret w)) E) : (forS m src b g ρ).post P E := by
  rw [forS_e, hs, M.ok_bind, forK_e]
  exact loop_post I ds _ h h0 ht
theorem post_ifs {m : List Nat} {t : En → M Bool} {g g' : En → M Fl} {ρ : En} {Q : Fl → Prop} {E : Ex → Prop} (h : (t (frz m ρ)).post (fun b => if b = true then (g ρ).post Q E else (g' ρ).post Q E) E) : (ifs m t g g' ρ).post Q E := by
  rw [ifs_e]
  refine M.post_bind.mpr (M.post_mono h (fun b z => ?_) fun _ z => z)
  cases b with
  | true => rw [if_pos rfl] at z; exact z
  | false => rw [if_neg Bool.false_ne_true] at z; exact z
theorem post_body {N : Nat} {g : En → M Fl} {ws : List Wv} {Q : Wv → Prop} {E : Ex → Prop} (h : (g (startE N ws)).post (fun fl => match fl with | .ret w => Q w | .nx _ => Q (.dat .none) | _ => False) E) : (body N g ws).post Q E := by
  rw [body_e]
  refine M.post_bind.mpr (M.post_mono h (fun fl z => ?_) fun _ z => z)
  cases fl <;> exact z
theorem post_pick' {α : Type} {n : Nat} {k : Nat → M α} {Q : α → Prop} {E : Ex → Prop} (h : ∀ i, i < n → (k i).post Q E) : (M.pick n k).post Q E := h
/-! ## data of a bounded form: lists within lists, so many at each depth; what is shown of them is short -/
def sc : D → Bool
  | .none => true
  | .bool _ => true
  | .int i => decide (i.natAbs ≤ 1000000)
  | .str s => decide ((PySem.PyData.shown (.str s)).length ≤ 10)
  | _ => false
def fnB : List Nat → D → Bool
  | [], d => sc d
  | n :: ns, d => sc d || match d with
    | .dict kvs => kvs.isEmpty
    | .list xs => decide (xs.length ≤ n) && xs.all (fnB ns)
    | .tuple xs => decide (xs.length ≤ n) && xs.all (fnB ns)
    | _ => false
theorem fn_sc {ns : List Nat} {d : D} (h : sc d = true) : fnB ns d = true := by
  cases ns <;> simp [fnB, h]
theorem fn_tuple {n : Nat} {ns : List Nat} {xs : List D} : fnB (n :: ns) (.tuple xs) = true ↔ xs.length ≤ n ∧ ∀ x ∈ xs, fnB ns x = true := by
  simp [fnB, sc]
theorem fn_list {n : Nat} {ns : List Nat} {xs : List D} : fnB (n :: ns) (.list xs) = true ↔ xs.length ≤ n ∧ ∀ x ∈ xs, fnB ns x = true := by
  simp [fnB, sc]
def leL : List Nat → List Nat → Bool
  | [], _ => true
  | a :: as, b :: bs => decide (a ≤ b) && leL as bs
  | _ :: _, [] => false
theorem fn_mono : ∀ {ns ms : List Nat} {d : D}, leL ns ms = true → fnB ns d = true → fnB ms d = true
  | [], _, _, _, h => fn_sc h
  | n :: ns, [], _, l, _ => by cases l
  | n :: ns, m :: ms, d, l, h => by
    simp only [leL, Bool.and_eq_true, decide_eq_true_eq] at l
    cases d with
    | tuple xs =>
      obtain ⟨h1, h2⟩ := fn_tuple.mp h
      exact fn_tuple.mpr ⟨by omega, fun x hx => fn_mono l.2 (h2 x hx)⟩
    | list xs =>
      obtain ⟨h1, h2⟩ := fn_list.mp h
      exact fn_list.mpr ⟨by omega, fun x hx => fn_mono l.2 (h2 x hx)⟩
    | dict kvs => simpa [fnB, sc] using h
    | none => exact fn_sc rfl
    | bool b => exact fn_sc rfl
    | int i => exact fn_sc (by simpa [fnB] using h)
    | str s => exact fn_sc (by simpa [fnB] using h)
def wB : List Nat → Nat
  | [] => 10
  | n :: ns => 10 + n * (wB ns + 2)
theorem sum_le {xs : List Nat} {k : Nat} (h : ∀ x ∈ xs, x ≤ k) : xs.sum ≤ xs.length * k := by
  induction xs with
  | nil => simp
  | cons x xs ih =>
    have := ih fun y hy => h y (List.mem_cons_of_mem _ hy)
    have := h x (List.mem_cons_self ..)
    simp only [List.sum_cons, List.length_cons, Nat.succ_mul]
    omega
theorem shown_sc {d : D} (h : sc d = true) : (PySem.PyData.shown d).length ≤ 10 := by
  cases d with
  | none => decide
  | bool b => cases b <;> decide
  | int i =>
    have h' : i.natAbs ≤ 1000000 := by simpa [sc] using h
    have := PySem.int_text_length_le10 (a := i) (k := 7) (by decide) (by
      have : (10 : Nat) ^ 7 = 10000000 := by decide
      omega)
    have e : PySem.PyData.shown (.int i) = Str.ofString (toString i) := by simp [PySem.PyData.shown]
    rw [e, PySem.ofString_length]
    omega
  | str s => simpa [sc] using h
  | _ => cases h
theorem shownAll_len : ∀ xs : List D, (PySem.PyData.shownAll xs).map (·.length) = xs.map fun d => (PySem.PyData.shown d).length
  | [] => rfl
  | x :: xs => by
    unfold PySem.PyData.shownAll
    simp only [List.map_cons]
    rw [shownAll_len xs]
theorem shown_le : ∀ {ns : List Nat} {d : D}, fnB ns d = true → (PySem.PyData.shown d).length ≤ wB ns
  | [], d, h => shown_sc h
  | n :: ns, d, h => by
    have seq : ∀ xs : List D, xs.length ≤ n → (∀ x ∈ xs, fnB ns x = true) → ((PySem.PyData.shownAll xs).map (·.length)).sum + 2 * (PySem.PyData.shownAll xs).length + 3 ≤ wB (n :: ns) := by
      intro xs h1 h2
      have e : (PySem.PyData.shownAll xs).length = xs.length := by
        have := congrArg List.length (shownAll_len xs)
        simpa using this
      rw [shownAll_len, e]
      have s := sum_le (xs := xs.map fun d => (PySem.PyData.shown d).length) (k := wB ns) fun y hy => by
        obtain ⟨x, hx, rfl⟩ := List.mem_map.mp hy
        exact shown_le (h2 x hx)
      rw [List.length_map] at s
      have := Nat.mul_le_mul_right (wB ns + 2) h1
      unfold wB
      rw [Nat.mul_add] at this
      omega
    cases d with
    | tuple xs =>
      obtain ⟨h1, h2⟩ := fn_tuple.mp h
      exact Nat.le_trans (by unfold PySem.PyData.shown; exact PySem.tupleText_len_le _) (seq xs h1 h2)
    | list xs =>
      obtain ⟨h1, h2⟩ := fn_list.mp h
      exact Nat.le_trans (by unfold PySem.PyData.shown; exact PySem.listText_len_le _) (seq xs h1 h2)
    | dict kvs =>
      have : kvs = [] := by simpa [fnB, sc] using h
      subst this
      have : (PySem.PyData.shown (.dict [])).length ≤ 10 := by decide
      unfold wB
      omega
    | none => have := shown_sc (d := .none) rfl; unfold wB; omega
    | bool b => have := shown_sc (d := .bool b) rfl; unfold wB; omega
    | int i => have := shown_sc (d := .int i) (by simpa [fnB] using h); unfold wB; omega
    | str s => have := shown_sc (d := .str s) (by simpa [fnB] using h); unfold wB; omega
theorem showable_fn : ∀ {ns : List Nat} {d : D}, fnB ns d = true → d.showable = true
  | ns, .none, _ => by simp [PyData.showable]
  | ns, .bool b, _ => by simp [PyData.showable]
  | ns, .str s, _ => by simp [PyData.showable]
  | ns, .int i, h => by
    have h' : i.natAbs ≤ 1000000 := by cases ns <;> simpa [fnB, sc] using h
    unfold PyData.showable
    rw [decide_eq_true_eq]
    by_cases h0 : i.natAbs = 0
    · rw [h0]; decide
    · have := (Nat.log2_lt (k := 20) h0).mpr (by
        have : (2 : Nat) ^ 20 = 1048576 := by decide
        omega)
      omega
  | [], .tuple xs, h => by cases h
  | [], .list xs, h => by cases h
  | [], .dict kvs, h => by cases h
  | n :: ns, .dict kvs, h => by
    have : kvs = [] := by simpa [fnB, sc] using h
    subst this
    rfl
  | n :: ns, .tuple xs, h => by
    obtain ⟨_, h2⟩ := fn_tuple.mp h
    unfold PyData.showable
    exact all h2
  | n :: ns, .list xs, h => by
    obtain ⟨_, h2⟩ := fn_list.mp h
    unfold PyData.showable
    exact all h2
where
  all {ns : List Nat} : ∀ {xs : List D}, (∀ x ∈ xs, fnB ns x = true) → PyData.showableAll xs = true
    | [], _ => by simp [PyData.showableAll]
    | x :: xs, h => by
      unfold PyData.showableAll
      rw [showable_fn (h x (List.mem_cons_self ..)), all fun y hy => h y (List.mem_cons_of_mem _ hy)]
      rfl
theorem depth_fn : ∀ {ns : List Nat} {d : D}, fnB ns d = true → d.depth ≤ ns.length + 1
  | ns, .none, _ => by simp [PyData.depth]
  | ns, .bool b, _ => by simp [PyData.depth]
  | ns, .str s, _ => by simp [PyData.depth]
  | ns, .int i, _ => by simp [PyData.depth]
  | [], .tuple xs, h => by cases h
  | [], .list xs, h => by cases h
  | [], .dict kvs, h => by cases h
  | n :: ns, .dict kvs, h => by
    have : kvs = [] := by simpa [fnB, sc] using h
    subst this
    simp [PyData.depth, PyData.depthKv]
  | n :: ns, .tuple xs, h => by
    obtain ⟨_, h2⟩ := fn_tuple.mp h
    have := all h2
    unfold PyData.depth
    simp only [List.length_cons]
    omega
  | n :: ns, .list xs, h => by
    obtain ⟨_, h2⟩ := fn_list.mp h
    have := all h2
    unfold PyData.depth
    simp only [List.length_cons]
    omega
where
  all {ns : List Nat} : ∀ {xs : List D}, (∀ x ∈ xs, fnB ns x = true) → PyData.depthAll xs ≤ ns.length + 1
    | [], _ => by simp [PyData.depthAll]
    | x :: xs, h => by
      have h1 := depth_fn (h x (List.mem_cons_self ..))
      have h2 := all fun y hy => h y (List.mem_cons_of_mem _ hy)
      unfold PyData.depthAll
      omega
theorem vRepr_fn {ns : List Nat} {d : D} (h : fnB ns d = true) (hl : ns.length < 60 := by decide) (hw : wB ns ≤ 1000000 := by decide) : vRepr d = .ok (.dat (.str d.shown)) := by
  unfold vRepr
  have h1 := showable_fn h
  have h2 := depth_fn h
  have h3 := shown_le h
  rw [if_pos (by rw [h1, Bool.true_and, decide_eq_true_eq]; omega), small_of (by omega)]
theorem sz_fn : ∀ {ns : List Nat} {d : D} (k : Nat), fnB ns d = true → (∀ n ∈ ns, n ≤ 1000000) → Sz k d
  | _, _, 0, _, _ => trivial
  | [], d, k + 1, h, _ => by
    cases d with
    | tuple xs => cases h
    | _ => exact ⟨by simp [itm], by simp [itm]⟩
  | n :: ns, d, k + 1, h, hn => by
    cases d with
    | tuple xs =>
      obtain ⟨h1, h2⟩ := fn_tuple.mp h
      exact ⟨Nat.le_trans h1 (hn n (List.mem_cons_self ..)), fun x hx => sz_fn k (h2 x hx) fun m hm => hn m (List.mem_cons_of_mem _ hm)⟩
    | _ => exact ⟨by simp [itm], by simp [itm]⟩
theorem vEq_refl_str {x : Str} : vEq (.str x) (.str x) = .ok true := by
  unfold vEq
  have e : PyData.eqv (.str x) (.str x) = true := by simp [PyData.eqv]
  rw [e]
  rfl
theorem vMul_one {d : D} {n : Nat} (h : 1 ≤ n ∧ n ≤ 1000) : vMul (.tuple [d]) (.int (n : Int)) = .ok (.dat (.tuple (List.replicate n d))) := by
  have e1 : vMul (.tuple [d]) (.int (n : Int)) = .ok (.dat (.tuple (List.replicate ((n : Int)).toNat [d]).flatten)) := if_pos ⟨by omega, by omega, by simp⟩
  rw [e1, Int.toNat_natCast]
  congr 3
  induction n with
  | zero => rfl
  | succ n ih =>
    cases n with
    | zero => rfl
    | succ n =>
      rw [List.replicate_succ, List.flatten_cons, ih ⟨by omega, by omega⟩ (if_pos ⟨by omega, by omega, by simp⟩), List.replicate_succ (n := n + 1)]
      rfl
end DL

namespace Lw
section
open PySem PySem.Spec PyProof.Rows L2 DL
def top (i : Nat) : Stmt := PySem.Challenge.pw_metnumbers_k02_parties_recognized.main.body.getD i (.Pass ⟨0, 0, 0, 0⟩)
theorem sc_is_integer : FnScope ["thing"] ["thing"] (defScope (top 1)) := ⟨rfl, rfl, rfl, by decide +kernel, rfl, by decide +kernel, by decide +kernel⟩
theorem sc_is_count : FnScope ["thing"] ["thing"] (defScope (top 2)) := ⟨rfl, rfl, rfl, by decide +kernel, rfl, by decide +kernel, by decide +kernel⟩
theorem sc_is_rising : FnScope ["thing", "one", "other"] ["thing"] (defScope (top 3)) := ⟨rfl, rfl, rfl, by decide +kernel, rfl, by decide +kernel, by decide +kernel⟩
theorem sc_is_pair : FnScope ["thing", "many"] ["thing", "many"] (defScope (top 7)) := ⟨rfl, rfl, rfl, by decide +kernel, rfl, by decide +kernel, by decide +kernel⟩
theorem sc_are_pairs : FnScope ["thing", "many", "pair", "one", "other"] ["thing", "many"] (defScope (top 8)) := ⟨rfl, rfl, rfl, by decide +kernel, rfl, by decide +kernel, by decide +kernel⟩
theorem sc_is_number : FnScope ["thing"] ["thing"] (defScope (top 9)) := ⟨rfl, rfl, rfl, by decide +kernel, rfl, by decide +kernel, by decide +kernel⟩
theorem sc_is_party : FnScope ["thing", "number", "pair"] ["thing"] (defScope (top 10)) := ⟨rfl, rfl, rfl, by decide +kernel, rfl, by decide +kernel, by decide +kernel⟩
theorem sc__law_kneaded : FnScope ["seed", "lap", "prime", "amount", "again"] ["seed", "lap"] (defScope (top 12)) := ⟨rfl, rfl, rfl, by decide +kernel, rfl, by decide +kernel, by decide +kernel⟩
theorem sc__law_pot_of : FnScope ["script", "cells", "cell", "place"] ["script"] (defScope (top 13)) := ⟨rfl, rfl, rfl, by decide +kernel, rfl, by decide +kernel, by decide +kernel⟩
theorem sc__law_below : FnScope ["pot", "bound", "amount", "cells", "place", "found"] ["pot", "bound"] (defScope (top 14)) := ⟨rfl, rfl, rfl, by decide +kernel, rfl, by decide +kernel, by decide +kernel⟩
theorem sc__law_pick : FnScope ["pot", "items"] ["pot", "items"] (defScope (top 15)) := ⟨rfl, rfl, rfl, by decide +kernel, rfl, by decide +kernel, by decide +kernel⟩
theorem sc__law_pairs : FnScope ["many", "found", "one", "other"] ["many"] (defScope (top 16)) := ⟨rfl, rfl, rfl, by decide +kernel, rfl, by decide +kernel, by decide +kernel⟩
theorem sc__law_some_party : FnScope ["pot", "most", "many", "pairs", "chosen", "pair", "numbers", "person", "met", "apart", "choice", "some"] ["pot", "most"] (defScope (top 17)) := ⟨rfl, rfl, rfl, by decide +kernel, rfl, by decide +kernel, by decide +kernel⟩
theorem sc__law_number : FnScope ["thing", "start", "most"] ["thing", "start", "most"] (defScope (top 18)) := ⟨rfl, rfl, rfl, by decide +kernel, rfl, by decide +kernel, by decide +kernel⟩
theorem sc__law_is_pair : FnScope ["thing", "many"] ["thing", "many"] (defScope (top 19)) := ⟨rfl, rfl, rfl, by decide +kernel, rfl, by decide +kernel, by decide +kernel⟩
theorem sc__law_is_row : FnScope ["thing", "many", "pair", "one", "other"] ["thing", "many"] (defScope (top 20)) := ⟨rfl, rfl, rfl, by decide +kernel, rfl, by decide +kernel, by decide +kernel⟩
theorem sc__law_is_party : FnScope ["thing", "number", "pair"] ["thing"] (defScope (top 21)) := ⟨rfl, rfl, rfl, by decide +kernel, rfl, by decide +kernel, by decide +kernel⟩
theorem sc__law_muddled : FnScope ["pot", "row", "odd", "at", "more"] ["pot", "row", "odd"] (defScope (top 22)) := ⟨rfl, rfl, rfl, by decide +kernel, rfl, by decide +kernel, by decide +kernel⟩
theorem sc__law_spoilt : FnScope ["pot", "party", "numbers", "met", "apart", "choice", "many", "odd", "pair", "row"] ["pot", "party"] (defScope (top 23)) := ⟨rfl, rfl, rfl, by decide +kernel, rfl, by decide +kernel, by decide +kernel⟩
theorem sc_law : FnScope ["script", "pot", "turn", "party", "first", "second", "odd", "some", "thing", "before"] ["script"] (defScope (top 24)) := ⟨rfl, rfl, rfl, by decide +kernel, rfl, by decide +kernel, by decide +kernel⟩
structure Txt (K : PySem.W.Frag) (mg : Str → Option Value) : Prop where
  f_is_integer : Has K mg "is_integer" (top 1) ["thing"]
  f_is_count : Has K mg "is_count" (top 2) ["thing"]
  f_is_rising : Has K mg "is_rising" (top 3) ["thing"]
  f_is_pair : Has K mg "is_pair" (top 7) ["thing", "many"]
  f_are_pairs : Has K mg "are_pairs" (top 8) ["thing", "many"]
  f_is_number : Has K mg "is_number" (top 9) ["thing"]
  f_is_party : Has K mg "is_party" (top 10) ["thing"]
  f__law_kneaded : Has K mg "_law_kneaded" (top 12) ["seed", "lap"]
  f__law_pot_of : Has K mg "_law_pot_of" (top 13) ["script"]
  f__law_below : Has K mg "_law_below" (top 14) ["pot", "bound"]
  f__law_pick : Has K mg "_law_pick" (top 15) ["pot", "items"]
  f__law_pairs : Has K mg "_law_pairs" (top 16) ["many"]
  f__law_some_party : Has K mg "_law_some_party" (top 17) ["pot", "most"]
  f__law_number : Has K mg "_law_number" (top 18) ["thing", "start", "most"]
  f__law_is_pair : Has K mg "_law_is_pair" (top 19) ["thing", "many"]
  f__law_is_row : Has K mg "_law_is_row" (top 20) ["thing", "many"]
  f__law_is_party : Has K mg "_law_is_party" (top 21) ["thing"]
  f__law_muddled : Has K mg "_law_muddled" (top 22) ["pot", "row", "odd"]
  f__law_spoilt : Has K mg "_law_spoilt" (top 23) ["pot", "party"]
  f_law : Has K mg "law" (top 24) ["script"]
  n_abs : mg "abs" = none
  n_all : mg "all" = none
  n_any : mg "any" = none
  n_bool : mg "bool" = none
  n_enumerate : mg "enumerate" = none
  n_int : mg "int" = none
  n_isinstance : mg "isinstance" = none
  n_len : mg "len" = none
  n_list : mg "list" = none
  n_range : mg "range" = none
  n_repr : mg "repr" = none
  n_tuple : mg "tuple" = none
  n_zip : mg "zip" = none
  v_MAX_NUMBER : ∃ t, mg "MAX_NUMBER" = some (.int 20 t)
  v_MAX_PERSONS : ∃ t, mg "MAX_PERSONS" = some (.int 8 t)
abbrev g__law_below : List Wv → M Wv := dPot
def b__law_pot_of (raw : Addr) (items : List DL.D) : En → M Fl := (seq (asg [0, 2] 1 (lc [2] (sSeq (cutR raw items oN (oS (kI 17)) (rdv 0))) (bN 2) tYes (call (f1 vAbs) (acons (rdv 2) anil))))
  (seq (forS [0] (sEnum (cutR raw items (oS (kI 17)) (oS (kI 60)) (rdv 0))) (bT [3, 2]) (sto [1, 2, 3] [3] 1 (bin2 opAdd (bin2 opIx (rdv 1) (bin2 opMod (rdv 3) (kI 17))) (call (f1 vAbs) (acons (rdv 2) anil))) (bin2 opMod (rdv 3) (kI 17))))
  (rtn [1] (lst (acons (rdv 1) (acons (kI 0) (acons (kI 0) (acons (kI 0) anil))))))))
def b_is_integer : En → M Fl := (rtn [0] (vand (call (opIsi "int") (acons (rdv 0) (acons (kT "int") anil))) (vnot (call (opIsi "bool") (acons (rdv 0) (acons (kT "bool") anil))))))
def g_is_integer : List Wv → M Wv := body 1 b_is_integer
def b__law_kneaded : En → M Fl := (seq (asg [] 2 (kI 2305843009213693907))
  (seq (asg [0, 1, 2] 3 (bin2 opMod (call (f1 vInt) (acons (bin2 opAdd (bin2 opAdd (bin2 opMul (rdv 0) (kI 2862933555777941757)) (bin2 opMul (rdv 1) (kI 3037000493))) (kI 29)) anil)) (rdv 2)))
  (seq (forS [] (sRng1 (kI 4)) (bN 4) (asg [1, 2, 3, 4] 3 (bin2 opMod (call (f1 vInt) (acons (bin2 opAdd (bin2 opAdd (bin2 opAdd (bin2 opMul (rdv 3) (rdv 3)) (bin2 opMul (kI 11) (rdv 3))) (bin2 opMul (kI 4099) (rdv 4))) (rdv 1)) anil)) (rdv 2))))
  (rtn [1, 2, 3] (bin2 opAdd (bin2 opMul (rdv 3) (rdv 2)) (bin2 opMod (call (f1 vInt) (acons (bin2 opAdd (bin2 opMul (rdv 3) (kI 69621)) (rdv 1)) anil)) (rdv 2)))))))
def g__law_kneaded : List Wv → M Wv := body 5 b__law_kneaded
def b__law_pairs : En → M Fl := (seq (asg [] 1 (lst anil))
  (seq (forS [0] (sRng1 (rdv 0)) (bN 2) (asg [0, 1, 2, 3] 1 (bin2 opAdd (rdv 1) (lc [3] (sRng2 (bin2 opAdd (rdv 2) (kI 1)) (rdv 0)) (bN 3) tYes (tup (acons (rdv 2) (acons (rdv 3) anil)))))))
  (rtnV 1)))
def g__law_pairs : List Wv → M Wv := body 4 b__law_pairs
def b__law_number : En → M Fl := (rtn [0, 1, 2] (vand (call (opIsi "int") (acons (rdv 0) (acons (kT "int") anil))) (vand (vnot (call (opIsi "bool") (acons (rdv 0) (acons (kT "bool") anil)))) (chainI (fun i j => decide (i ≤ j)) (fun i j => decide (i ≤ j)) (rdv 1) (rdv 0) (rdv 2)))))
def g__law_number : List Wv → M Wv := body 3 b__law_number
def b_is_count : En → M Fl := (rtn [0] (vand (ccall 1 g_is_integer (acons (rdv 0) anil)) (bin2 opGe (rdv 0) (kI 0))))
def g_is_count : List Wv → M Wv := body 1 b_is_count
def b__law_is_pair : En → M Fl := (seq (ifs [0, 1] (tor (tnot (tst (call (opIsi "tuple") (acons (rdv 0) (acons (kT "tuple") anil))))) (tor (tst (bin2 opNe (call (f1 vLen) (acons (rdv 0) anil)) (kI 2))) (tnot (tst (ccall 3 g__law_number (acons (bin2 opIx (rdv 0) (kI 0)) (acons (kI 0) (acons (bin2 opSub (rdv 1) (kI 1)) anil)))))))) (rtn [] (kB' false)) skip)
  (rtn [0, 1] (ccall 3 g__law_number (acons (bin2 opIx (rdv 0) (kI 1)) (acons (bin2 opAdd (bin2 opIx (rdv 0) (kI 0)) (kI 1)) (acons (bin2 opSub (rdv 1) (kI 1)) anil))))))
def g__law_is_pair : List Wv → M Wv := body 2 b__law_is_pair
def b_is_rising : En → M Fl := (seq (ifs [0, 1] (tor (tnot (tst (call (opIsi "tuple") (acons (rdv 0) (acons (kT "tuple") anil))))) (tnot (tst (call (f1 vAll) (acons (lc [1] (sSeq (rdv 0)) (bN 1) tYes (ccall 1 g_is_count (acons (rdv 1) anil))) anil))))) (rtn [] (kB' false)) skip)
  (rtn [0, 1, 2] (call (f1 vAll) (acons (lc [1, 2] (sZip (sub oN (oS (un1 opNeg (kI 1))) (rdv 0)) (sub (oS (kI 1)) oN (rdv 0))) (bT [1, 2]) tYes (bin2 opLt (rdv 1) (rdv 2))) anil))))
def g_is_rising : List Wv → M Wv := body 3 b_is_rising
def b_is_number : En → M Fl := (rtn [0] (vor (bin2 opIsN (rdv 0) kN) (vand (ccall 1 g_is_count (acons (rdv 0) anil)) (bin2 opLe (rdv 0) (kI 20)))))
def g_is_number : List Wv → M Wv := body 1 b_is_number
def b__law_pick : En → M Fl := (rtn [0, 1] (bin2 opIx (rdv 1) (ccall 2 g__law_below (acons (rdv 0) (acons (call (f1 vLen) (acons (rdv 1) anil)) anil)))))
def g__law_pick : List Wv → M Wv := body 2 b__law_pick
def b__law_is_row : En → M Fl := (seq (ifs [0] (tnot (tst (call (opIsi "tuple") (acons (rdv 0) (acons (kT "tuple") anil))))) (rtn [] (kB' false)) skip)
  (seq (forS [0] (sSeq (rdv 0)) (bN 2) (ifs [1, 2] (tnot (tst (ccall 2 g__law_is_pair (acons (rdv 2) (acons (rdv 1) anil))))) (rtn [] (kB' false)) skip))
  (rtn [0, 3, 4] (bin2 opEq (lc [3, 4] (sZip (rdv 0) (sub (oS (kI 1)) oN (rdv 0))) (bT [3, 4]) (tnot (tst (bin2 opLt (rdv 3) (rdv 4)))) (kI 1)) (lst anil)))))
def g__law_is_row : List Wv → M Wv := body 5 b__law_is_row
def b_is_pair : En → M Fl := (rtn [0, 1] (vand (call (opIsi "tuple") (acons (rdv 0) (acons (kT "tuple") anil))) (vand (bin2 opEq (call (f1 vLen) (acons (rdv 0) anil)) (kI 2)) (vand (ccall 1 g_is_rising (acons (rdv 0) anil)) (bin2 opLt (bin2 opIx (rdv 0) (kI 1)) (rdv 1))))))
def g_is_pair : List Wv → M Wv := body 2 b_is_pair
def b__law_some_party : En → M Fl := (seq (asg [0, 1] 2 (bin2 opAdd (kI 1) (ccall 2 g__law_below (acons (rdv 0) (acons (rdv 1) anil)))))
  (seq (asg [2] 3 (ccall 1 g__law_pairs (acons (rdv 2) anil)))
  (seq (asg [0, 3, 5] 4 (lc [5] (sSeq (rdv 3)) (bN 5) (tst (bin2 opEq (ccall 2 g__law_below (acons (rdv 0) (acons (kI 2) anil))) (kI 0))) (rdv 5)))
  (seq (asg [2, 4, 5, 7] 6 (lc [7] (sRng1 (rdv 2)) (bN 7) tYes (call (f1 vLen) (acons (lc [5] (sSeq (rdv 4)) (bN 5) (tst (bin2 opIn (rdv 7) (rdv 5))) (rdv 5)) anil))))
  (seq (forS [2] (sRng1 (rdv 2)) (bN 7) (ifs [0] (tst (bin2 opEq (ccall 2 g__law_below (acons (rdv 0) (acons (kI 6) anil))) (kI 0))) (sto [] [7] 6 kN (rdv 7)) skip))
  (seq (ifs [0] (tst (bin2 opEq (ccall 2 g__law_below (acons (rdv 0) (acons (kI 3) anil))) (kI 0))) (sto [0, 2] [0, 2] 6 (ccall 2 g__law_pick (acons (rdv 0) (acons (lst (acons (ccall 2 g__law_below (acons (rdv 0) (acons (bin2 opAdd (rdv 2) (kI 1)) anil))) (acons (ccall 2 g__law_below (acons (rdv 0) (acons (kI 21) anil))) (acons (kI 9) anil)))) anil))) (ccall 2 g__law_below (acons (rdv 0) (acons (rdv 2) anil)))) skip)
  (seq (asg2 [] 8 9 (lst anil) (lst anil))
  (seq (forS [3] (sSeq (rdv 3)) (bN 5) (seq (asg [0] 10 (ccall 2 g__law_below (acons (rdv 0) (acons (kI 9) anil))))
  (ifs [10] (tst (bin2 opLt (rdv 10) (kI 2))) (seq (ali [4, 5] [5] 11 8 9 (tst (bin2 opIn (rdv 5) (rdv 4))) (rdv 5)) skip) (ifs [0, 10] (tand (tst (bin2 opEq (rdv 10) (kI 2))) (tst (bin2 opEq (ccall 2 g__law_below (acons (rdv 0) (acons (kI 4) anil))) (kI 0)))) (seq (ali [4, 5] [5] 11 9 8 (tst (bin2 opIn (rdv 5) (rdv 4))) (rdv 5)) skip) skip))))
  (rtn [6, 8, 9] (tup (acons (call (f1 vTuple) (acons (rdv 6) anil)) (acons (call (f1 vTuple) (acons (rdv 8) anil)) (acons (call (f1 vTuple) (acons (rdv 9) anil)) anil)))))))))))))
def g__law_some_party : List Wv → M Wv := body 12 b__law_some_party
def b__law_is_party : En → M Fl := (seq (ifs [0] (tor (tnot (tst (call (opIsi "tuple") (acons (rdv 0) (acons (kT "tuple") anil))))) (tor (tst (bin2 opNe (call (f1 vLen) (acons (rdv 0) anil)) (kI 3))) (tnot (tst (call (opIsi "tuple") (acons (bin2 opIx (rdv 0) (kI 0)) (acons (kT "tuple") anil))))))) (rtn [] (kB' false)) skip)
  (seq (ifs [0] (tnot (tst (chainI (fun i j => decide (i ≤ j)) (fun i j => decide (i ≤ j)) (kI 1) (call (f1 vLen) (acons (bin2 opIx (rdv 0) (kI 0)) anil)) (kI 8)))) (rtn [] (kB' false)) skip)
  (seq (forS [0] (sSeq (bin2 opIx (rdv 0) (kI 0))) (bN 1) (ifs [1] (tand (tst (bin2 opNotN (rdv 1) kN)) (tnot (tst (ccall 3 g__law_number (acons (rdv 1) (acons (kI 0) (acons (kI 20) anil))))))) (rtn [] (kB' false)) skip))
  (seq (ifs [0] (tor (tnot (tst (ccall 2 g__law_is_row (acons (bin2 opIx (rdv 0) (kI 1)) (acons (call (f1 vLen) (acons (bin2 opIx (rdv 0) (kI 0)) anil)) anil))))) (tnot (tst (ccall 2 g__law_is_row (acons (bin2 opIx (rdv 0) (kI 2)) (acons (call (f1 vLen) (acons (bin2 opIx (rdv 0) (kI 0)) anil)) anil)))))) (rtn [] (kB' false)) skip)
  (rtn [0, 2] (bin2 opEq (lc [2] (sSeq (bin2 opIx (rdv 0) (kI 1))) (bN 2) (tst (bin2 opIn (rdv 2) (bin2 opIx (rdv 0) (kI 2)))) (rdv 2)) (lst anil)))))))
def g__law_is_party : List Wv → M Wv := body 3 b__law_is_party
def b__law_muddled : En → M Fl := (seq (asg [0, 1] 3 (ccall 2 g__law_below (acons (rdv 0) (acons (bin2 opAdd (call (f1 vLen) (acons (rdv 1) anil)) (kI 1)) anil))))
  (seq (asg [1, 3] 4 (lst (acons (bin2 opAdd (bin2 opAdd (sub oN (oS (rdv 3)) (rdv 1)) (rev (sub (oS (rdv 3)) (oS (bin2 opAdd (rdv 3) (kI 2))) (rdv 1)))) (sub (oS (bin2 opAdd (rdv 3) (kI 2))) oN (rdv 1))) (acons (bin2 opAdd (bin2 opAdd (sub oN (oS (rdv 3)) (rdv 1)) (sub (oS (rdv 3)) (oS (bin2 opAdd (rdv 3) (kI 1))) (rdv 1))) (sub (oS (rdv 3)) oN (rdv 1))) anil))))
  (rtn [0, 1, 2, 3, 4] (ccall 2 g__law_pick (acons (rdv 0) (acons (bin2 opAdd (bin2 opAdd (rdv 4) (lst (acons (bin2 opAdd (sub oN (oS (rdv 3)) (rdv 1)) (sub (oS (bin2 opAdd (rdv 3) (kI 1))) oN (rdv 1))) anil))) (bin2 opMul (lst (acons (bin2 opAdd (bin2 opAdd (sub oN (oS (rdv 3)) (rdv 1)) (tup (acons (rdv 2) anil))) (sub (oS (rdv 3)) oN (rdv 1))) anil)) (kI 2))) anil))))))
def g__law_muddled : List Wv → M Wv := body 5 b__law_muddled
def b_are_pairs : En → M Fl := (seq (ifs [0, 1, 2] (tor (tnot (tst (call (opIsi "tuple") (acons (rdv 0) (acons (kT "tuple") anil))))) (tnot (tst (call (f1 vAll) (acons (lc [2] (sSeq (rdv 0)) (bN 2) tYes (ccall 2 g_is_pair (acons (rdv 2) (acons (rdv 1) anil)))) anil))))) (rtn [] (kB' false)) skip)
  (rtn [0, 3, 4] (call (f1 vAll) (acons (lc [3, 4] (sZip (sub oN (oS (un1 opNeg (kI 1))) (rdv 0)) (sub (oS (kI 1)) oN (rdv 0))) (bT [3, 4]) tYes (bin2 opLt (rdv 3) (rdv 4))) anil))))
def g_are_pairs : List Wv → M Wv := body 5 b_are_pairs
def b__law_spoilt : En → M Fl := (seq (unp [1] [2, 3, 4] (rdv 1))
  (seq (asg2 [0, 2] 5 6 (ccall 2 g__law_below (acons (rdv 0) (acons (kI 8) anil))) (call (f1 vLen) (acons (rdv 2) anil)))
  (seq (ifs [5] (tst (bin2 opEq (rdv 5) (kI 0))) (rtn [0, 1, 2] (ccall 2 g__law_pick (acons (rdv 0) (acons (lst (acons kN (acons (tup anil) (acons (sub oN (oS (kI 2)) (rdv 1)) (acons (bin2 opAdd (rdv 1) (tup (acons (tup anil) anil))) (acons (call (f1 vList) (acons (rdv 1) anil)) (acons (rev (rdv 1)) (acons (rdv 2) (acons kD0 anil))))))))) anil)))) skip)
  (seq (ifs [5] (tst (bin2 opLt (rdv 5) (kI 3))) (seq (asg [0] 7 (ccall 2 g__law_pick (acons (rdv 0) (acons (lst (acons kN (acons (kB' true) (acons (bin2 opSub (kI 0) (kI 1)) (acons (kI 21) (acons (kI 20) (acons (kS "1") (acons (tup (acons (kI 1) anil)) (acons (kI 0) (acons (kI 1) anil)))))))))) anil))))
  (rtn [0, 2, 3, 4, 7] (tup (acons (ccall 2 g__law_pick (acons (rdv 0) (acons (lst (acons (ccall 3 g__law_muddled (acons (rdv 0) (acons (rdv 2) (acons (rdv 7) anil)))) (acons (call (f1 vList) (acons (rdv 2) anil)) (acons (tup anil) (acons (bin2 opMul (rdv 2) (kI 9)) (acons (rdv 7) anil)))))) anil))) (acons (rdv 3) (acons (rdv 4) anil)))))) skip)
  (seq (asg [0, 6] 8 (tup (acons (ccall 2 g__law_below (acons (rdv 0) (acons (rdv 6) anil))) (acons (ccall 2 g__law_below (acons (rdv 0) (acons (bin2 opAdd (rdv 6) (kI 1)) anil))) anil))))
  (seq (asg [8] 7 (lst (acons (rdv 8) (acons (rdv 8) (acons (rev (rdv 8)) (acons (call (f1 vList) (acons (rdv 8) anil)) (acons (bin2 opAdd (rdv 8) (tup (acons (kI 0) anil))) (acons (sub oN (oS (kI 1)) (rdv 8)) (acons (tup (acons (kB' false) (acons (kB' true) anil))) (acons (tup (acons (kI 0) (acons (kS "1") anil))) (acons kN (acons (kI 0) (acons (tup (acons (kI 0) (acons (kB' true) anil))) anil)))))))))))))
  (seq (asg [0, 7] 7 (ccall 2 g__law_pick (acons (rdv 0) (acons (bin2 opAdd (rdv 7) (lst (acons (tup (acons (kB' false) (acons (kI 1) anil))) (acons (tup (acons (bin2 opSub (kI 0) (kI 1)) (acons (kI 0) anil))) (acons (tup (acons (lst (acons (kI 0) anil)) (acons (kI 1) anil))) anil))))) anil))))
  (seq (asg [0, 3, 4, 5, 7] 9 (ccall 3 g__law_muddled (acons (rdv 0) (acons (vif (tst (bin2 opLt (rdv 5) (kI 6))) (rdv 3) (rdv 4)) (acons (rdv 7) anil)))))
  (seq (asg [0, 7, 9] 9 (ccall 2 g__law_pick (acons (rdv 0) (acons (lst (acons (rdv 9) (acons (rdv 9) (acons (rdv 9) (acons (call (f1 vList) (acons (rdv 9) anil)) (acons (rdv 7) anil)))))) anil))))
  (rtn [2, 3, 4, 5, 9] (vif (tst (bin2 opLt (rdv 5) (kI 6))) (tup (acons (rdv 2) (acons (rdv 9) (acons (rdv 4) anil)))) (tup (acons (rdv 2) (acons (rdv 3) (acons (rdv 9) anil)))))))))))))))
def g__law_spoilt : List Wv → M Wv := body 10 b__law_spoilt
def b_is_party : En → M Fl := (seq (ifs [0] (tor (tnot (tst (call (opIsi "tuple") (acons (rdv 0) (acons (kT "tuple") anil))))) (tor (tst (bin2 opNe (call (f1 vLen) (acons (rdv 0) anil)) (kI 3))) (tnot (tst (call (opIsi "tuple") (acons (bin2 opIx (rdv 0) (kI 0)) (acons (kT "tuple") anil))))))) (rtn [] (kB' false)) skip)
  (seq (ifs [0, 1] (tor (tnot (tst (chainI (fun i j => decide (i ≤ j)) (fun i j => decide (i ≤ j)) (kI 1) (call (f1 vLen) (acons (bin2 opIx (rdv 0) (kI 0)) anil)) (kI 8)))) (tnot (tst (call (f1 vAll) (acons (lc [1] (sSeq (bin2 opIx (rdv 0) (kI 0))) (bN 1) tYes (ccall 1 g_is_number (acons (rdv 1) anil))) anil))))) (rtn [] (kB' false)) skip)
  (seq (ifs [0] (tor (tnot (tst (ccall 2 g_are_pairs (acons (bin2 opIx (rdv 0) (kI 1)) (acons (call (f1 vLen) (acons (bin2 opIx (rdv 0) (kI 0)) anil)) anil))))) (tnot (tst (ccall 2 g_are_pairs (acons (bin2 opIx (rdv 0) (kI 2)) (acons (call (f1 vLen) (acons (bin2 opIx (rdv 0) (kI 0)) anil)) anil)))))) (rtn [] (kB' false)) skip)
  (rtn [0, 2] (vnot (call (f1 vAny) (acons (lc [2] (sSeq (bin2 opIx (rdv 0) (kI 1))) (bN 2) tYes (bin2 opIn (rdv 2) (bin2 opIx (rdv 0) (kI 2)))) anil)))))))
def g_is_party : List Wv → M Wv := body 3 b_is_party
def b_law : En → M Fl := (seq (forS [] (sRng1 (kI 16)) (bN 2) (seq (asg [1] 3 (ccall 2 g__law_some_party (acons (rdv 1) (acons (kI 8) anil))))
  (seq (asg [1, 3] 4 (ccall 2 g__law_spoilt (acons (rdv 1) (acons (rdv 3) anil))))
  (seq (asg [1, 4] 5 (vif (tst (ccall 1 g__law_is_party (acons (rdv 4) anil))) (ccall 2 g__law_spoilt (acons (rdv 1) (acons (rdv 4) anil))) (rdv 4)))
  (seq (asg [1] 6 (ccall 2 g__law_pick (acons (rdv 1) (acons (lst (acons (kI 21) (acons (kB' true) (acons (bin2 opSub (kI 0) (kI 1)) (acons (kS "1") (acons (bin2 opPow (kI 10) (kI 6)) anil)))))) anil))))
  (seq (asg [3, 6] 7 (lst (acons (tup (acons (bin2 opMul (tup (acons (rdv 6) anil)) (call (f1 vLen) (acons (bin2 opIx (rdv 3) (kI 0)) anil))) (acons (bin2 opIx (rdv 3) (kI 1)) (acons (bin2 opIx (rdv 3) (kI 2)) anil)))) (acons (tup (acons (bin2 opIx (rdv 3) (kI 0)) (acons (call (f1 vList) (acons (bin2 opIx (rdv 3) (kI 1)) anil)) (acons (call (f1 vList) (acons (bin2 opIx (rdv 3) (kI 2)) anil)) anil)))) anil))))
  (seq (app [3] 7 (tup (acons (bin2 opIx (rdv 3) (kI 0)) (acons (bin2 opAdd (bin2 opIx (rdv 3) (kI 1)) (tup (acons kN anil))) (acons (bin2 opAdd (bin2 opIx (rdv 3) (kI 2)) (tup (acons (tup (acons (kI 0) anil)) anil))) anil)))))
  (forS [3, 4, 5, 7] (sSeq (bin2 opAdd (rdv 7) (lst (acons (rdv 3) (acons (rdv 4) (acons (rdv 5) (acons kN (acons (tup anil) (acons (lst anil) (acons kD0 (acons (kS "x") (acons (kI 0) (acons (tup (acons (tup anil) (acons (tup anil) (acons (tup anil) anil)))) (acons (tup (acons (tup (acons kN anil)) (acons (tup anil) (acons (tup anil) anil)))) anil)))))))))))))) (bN 8) (seq (asg [8] 9 (call (f1 vRepr) (acons (rdv 8) anil)))
  (ifs [8, 9] (tor (tst (bin2 opNe (call (f1 vRepr) (acons (ccall 1 g_is_party (acons (rdv 8) anil)) anil)) (call (f1 vRepr) (acons (ccall 1 g__law_is_party (acons (rdv 8) anil)) anil)))) (tst (bin2 opNe (call (f1 vRepr) (acons (rdv 8) anil)) (rdv 9)))) (rtn [] (kB' false)) skip))))))))))
  (rtn [] (kB' true)))
end
section
open PySem (PyData)
open DL
theorem kn_step (a b x y : Int) (h : 0 ≤ x ∧ x < 2305843009213693907) : ∃ z : Int, (0 ≤ z ∧ z < 2305843009213693907) ∧ (asg [1, 2, 3, 4] 3 (bin2 opMod (DL.call (f1 DL.vInt) (acons (bin2 opAdd (bin2 opAdd (bin2 opAdd (bin2 opMul (rdv 3) (rdv 3)) (bin2 opMul (kI 11) (rdv 3))) (bin2 opMul (kI 4099) (rdv 4))) (rdv 1)) anil)) (rdv 2)))
   [some (.dat (.int a)), some (.dat (.int b)), some (.dat (.int 2305843009213693907)), some (.dat (.int x)), some (.dat (.int y))] = .ok (.nx [some (.dat (.int a)), some (.dat (.int b)), some (.dat (.int 2305843009213693907)), some (.dat (.int z)), some (.dat (.int y))]) := by
  refine ⟨(x * x + 11 * x + 4099 * y + b) % 2305843009213693907, ⟨Int.emod_nonneg _ (by decide), Int.emod_lt_of_pos _ (by decide)⟩, ?_⟩
  have e1 : vMul (.int x) (.int x) = .ok (.dat (.int (x * x))) := vMul_int (by omega)
  have e2 : vMul (.int 11) (.int x) = .ok (.dat (.int (11 * x))) := vMul_int (by omega)
  have e3 : vMul (.int 4099) (.int y) = .ok (.dat (.int (4099 * y))) := vMul_int (by omega)
  have e4 : ∀ z : Int, opMod (.dat (.int z)) (.dat (.int 2305843009213693907)) = .ok (.dat (.int (z % 2305843009213693907))) := fun z => opMod_e (by decide)
  simp only [DL.sel_true, DL.sel_false, DL.sel_self, DL.okb, DL.excb, DL.badb, DL.pickb, DL.okp, DL.pickp, DL.ddat, DL.down, DL.sdat, DL.sown, DL.sraw, DL.spot, DL.gdat, DL.gown, DL.graw, DL.gpot, DL.asBb, DL.asIi, DL.kBok, DL.noxok, DL.datas0, DL.frz1_own, DL.frz1_dat, DL.frz1_raw, DL.frz1_pot, DL.frz1_none, DL.frz1_nil, DL.frz1_succ, DL.frz_nil, DL.frz_cons, DL.rdv_dat, DL.rdv_raw, DL.rdv_pot, DL.rdv_succ, DL.rtnV_zero, DL.rtnV_succ, DL.ownAt_zero, DL.ownAt_succ, DL.startE_eq, DL.seq_e, DL.seqK_nx, DL.seqK_ret, DL.seqK_brk, DL.seqK_cont, DL.asg_e, DL.asgK_e, DL.rtn_e, DL.rtnK_e, DL.rtnN_e, DL.exs_e, DL.exsK_e, DL.ifs_e, DL.ifsK_true, DL.ifsK_false, DL.skip_e, DL.brkS_e, DL.contS_e, DL.badS_e, DL.body_e, DL.fin_ret, DL.fin_nx, DL.app1_e, DL.app1K_e, DL.app_e, DL.appO_e, DL.appW_e, DL.appD_e, DL.asg2_e, DL.asg2K_e, DL.asg2L_e, DL.unp_e, DL.unpW_e, DL.unpD_e, DL.goOn_some, DL.goOn_none, DL.bT_e, DL.setL_cons, DL.setL_nil, DL.bN_e, DL.sto1_e, DL.sto_e, DL.stoW_e, DL.stoD_e, DL.sto2_e, DL.sto2K_e, DL.sto2W_e, DL.sto2I_e, DL.sto1K_e, DL.atK_e, DL.ali_e, DL.aliK_true, DL.aliK_false, DL.ali1_e, DL.ali1B_e, DL.ali1O_e, DL.ali1W_e, DL.ali1D_e, DL.forS_e, DL.forK_e, DL.loopB_some, DL.loopK_nx, DL.loopK_cont, DL.loopK_brk, DL.loopK_ret, DL.bin2_e, DL.binK_e, DL.binL_e, DL.un1_e, DL.unK_e, DL.tst_e, DL.tand_e, DL.tandK_true, DL.tandK_false, DL.tor_e, DL.torK_true, DL.torK_false, DL.tnot_e, DL.notK_e, DL.vand_e, DL.vandK_e, DL.vandL_true, DL.vandL_false, DL.vor_e, DL.vorK_e, DL.vorL_true, DL.vorL_false, DL.vnot_e, DL.vnotK_e, DL.vnotL_e, DL.vif_e, DL.vifK_true, DL.vifK_false, DL.anil_e, DL.acons_e, DL.aconsK_e, DL.aconsL_e, DL.call_e, DL.ccall_e, DL.ccallK1, DL.ccallK2, DL.ccallK3, DL.ccallK4, DL.sub_e, DL.subK_e, DL.subH_e, DL.cutK_e, DL.cutL_e, DL.oN_e, DL.oS_e, DL.oSK_e, DL.oI_e, DL.rev_e, DL.revK_e, DL.tup_e, DL.lst_e, DL.mkTup_e, DL.mkLst_e, DL.tupD_e, DL.lstD_e, DL.datas_e, DL.datasK_e, DL.kN_e, DL.kB_e, DL.kI_e, DL.kS_e, DL.kT_e, DL.kD0_e, DL.chainI_e, DL.chA_e, DL.chB_e, DL.chI_e, DL.chJ_e, DL.chG_true, DL.chG_false, DL.chY_e, DL.chC_e, DL.sSeq_e, DL.seqSrc_e, DL.asItems_list, DL.asItems_tuple, DL.sRng1_e, DL.rngW_e, DL.rngI_e, DL.sRng2_e, DL.rngK_e, DL.rngWW_e, DL.rngWI_e, DL.rngJ_e, DL.sZip_e, DL.zipK_e, DL.zipW_e, DL.zipA_e, DL.zipD_list, DL.zipD_tuple, DL.sEnum_e, DL.enumW_e, DL.enumV_e, DL.asList_e, DL.enumL_e, DL.ownR_e, DL.lc_e, DL.tYes_e, List.map_cons, List.map_nil, List.nil_append, List.cons_append, List.length_cons, List.length_nil, List.set_cons_zero, List.set_cons_succ, ite_self, reduceIte, noL_none, noL_bool, noL_int, noL_str, noL_list, noL_tuple, noLs_nil, noLs_cons, Bool.true_and, Bool.false_and, Bool.and_true, Bool.and_self, Bool.false_eq_true, Bool.not_true, Bool.not_false, List.replicate_succ, List.replicate_zero, DL.opEq_e, DL.flip_e, DL.opNe_e, DL.opIn_e, DL.opNotIn_e, DL.opLt_e, DL.opAdd_e, DL.opMul_e, DL.opIx_e, DL.opIsN_e, DL.opNotN_e, DL.opNeg_e, DL.opLe_e, DL.opGt_e, DL.opGe_e, DL.opSub_e, DL.vLt_int, DL.vEq_int, DL.vAdd_int, DL.vAdd_list, DL.vAdd_tuple, DL.vLen_tuple, DL.vLen_list, DL.vInt_int, DL.vTuple_list, DL.vTuple_tuple, DL.vList_list, DL.vList_tuple, DL.vRev_list, DL.vRev_tuple, DL.vCut_list, DL.vCut_tuple, DL.f1_e, DL.f2_e, DL.isNon_none, DL.isNon_int, DL.isi_int, DL.isi_bool, DL.isi_tuple, DL.isi_list, DL.isi_str, DL.isi_dict, e1, e2, e3, e4]
theorem kn_ok (a b : Int) : ∃ i : Int, g__law_kneaded [.dat (.int a), .dat (.int b)] = .ok (.dat (.int i)) := by
  have e1 : vMul (.int a) (.int 2862933555777941757) = .ok (.dat (.int (a * 2862933555777941757))) := vMul_int (by omega)
  have e2 : vMul (.int b) (.int 3037000493) = .ok (.dat (.int (b * 3037000493))) := vMul_int (by omega)
  have e4 : ∀ z : Int, opMod (.dat (.int z)) (.dat (.int 2305843009213693907)) = .ok (.dat (.int (z % 2305843009213693907))) := fun z => opMod_e (by decide)
  have e5 : rngI 4 = .ok [.int 0, .int 1, .int 2, .int 3] := rngI_e (by decide)
  have e6 : startE 5 [.dat (.int a), .dat (.int b)] = [some (.dat (.int a)), some (.dat (.int b)), none, none, none] := rfl
  have st := kn_step a b
  obtain ⟨z1, b1, s1⟩ := st ((a * 2862933555777941757 + b * 3037000493 + 29) % 2305843009213693907) 0 ⟨Int.emod_nonneg _ (by decide), Int.emod_lt_of_pos _ (by decide)⟩
  obtain ⟨z2, b2, s2⟩ := st z1 1 b1
  obtain ⟨z3, b3, s3⟩ := st z2 2 b2
  obtain ⟨z4, b4, s4⟩ := st z3 3 b3
  have m1 : vMul (.int z4) (.int 2305843009213693907) = .ok (.dat (.int (z4 * 2305843009213693907))) := vMul_int (by omega)
  have m2 : vMul (.int z4) (.int 69621) = .ok (.dat (.int (z4 * 69621))) := vMul_int (by omega)
  have lp : loop (bN 4) (asg [1, 2, 3, 4] 3 (bin2 opMod (DL.call (f1 DL.vInt) (acons (bin2 opAdd (bin2 opAdd (bin2 opAdd (bin2 opMul (rdv 3) (rdv 3)) (bin2 opMul (kI 11) (rdv 3))) (bin2 opMul (kI 4099) (rdv 4))) (rdv 1)) anil)) (rdv 2))) [.int 0, .int 1, .int 2, .int 3] [some (.dat (.int a)), some (.dat (.int b)), some (.dat (.int 2305843009213693907)), some (.dat (.int ((a * 2862933555777941757 + b * 3037000493 + 29) % 2305843009213693907))), none] = .ok (.nx [some (.dat (.int a)), some (.dat (.int b)), some (.dat (.int 2305843009213693907)), some (.dat (.int z4)), some (.dat (.int 3))]) := by
    simp only [loop_cons, loop_nil, DL.bN_e, List.set_cons_zero, List.set_cons_succ, loopB_some, s1, s2, s3, s4, M.ok_bind, loopK_nx]
  refine ⟨z4 * 2305843009213693907 + (z4 * 69621 + b) % 2305843009213693907, ?_⟩
  simp only [g__law_kneaded, b__law_kneaded, DL.sel_true, DL.sel_false, DL.sel_self, DL.okb, DL.excb, DL.badb, DL.pickb, DL.okp, DL.pickp, DL.ddat, DL.down, DL.sdat, DL.sown, DL.sraw, DL.spot, DL.gdat, DL.gown, DL.graw, DL.gpot, DL.asBb, DL.asIi, DL.kBok, DL.noxok, DL.datas0, DL.frz1_own, DL.frz1_dat, DL.frz1_raw, DL.frz1_pot, DL.frz1_none, DL.frz1_nil, DL.frz1_succ, DL.frz_nil, DL.frz_cons, DL.rdv_dat, DL.rdv_raw, DL.rdv_pot, DL.rdv_succ, DL.rtnV_zero, DL.rtnV_succ, DL.ownAt_zero, DL.ownAt_succ, DL.startE_eq, DL.seq_e, DL.seqK_nx, DL.seqK_ret, DL.seqK_brk, DL.seqK_cont, DL.asg_e, DL.asgK_e, DL.rtn_e, DL.rtnK_e, DL.rtnN_e, DL.exs_e, DL.exsK_e, DL.ifs_e, DL.ifsK_true, DL.ifsK_false, DL.skip_e, DL.brkS_e, DL.contS_e, DL.badS_e, DL.body_e, DL.fin_ret, DL.fin_nx, DL.app1_e, DL.app1K_e, DL.app_e, DL.appO_e, DL.appW_e, DL.appD_e, DL.asg2_e, DL.asg2K_e, DL.asg2L_e, DL.unp_e, DL.unpW_e, DL.unpD_e, DL.goOn_some, DL.goOn_none, DL.bT_e, DL.setL_cons, DL.setL_nil, DL.bN_e, DL.sto1_e, DL.sto_e, DL.stoW_e, DL.stoD_e, DL.sto2_e, DL.sto2K_e, DL.sto2W_e, DL.sto2I_e, DL.sto1K_e, DL.atK_e, DL.ali_e, DL.aliK_true, DL.aliK_false, DL.ali1_e, DL.ali1B_e, DL.ali1O_e, DL.ali1W_e, DL.ali1D_e, DL.forS_e, DL.forK_e, DL.loopB_some, DL.loopK_nx, DL.loopK_cont, DL.loopK_brk, DL.loopK_ret, DL.bin2_e, DL.binK_e, DL.binL_e, DL.un1_e, DL.unK_e, DL.tst_e, DL.tand_e, DL.tandK_true, DL.tandK_false, DL.tor_e, DL.torK_true, DL.torK_false, DL.tnot_e, DL.notK_e, DL.vand_e, DL.vandK_e, DL.vandL_true, DL.vandL_false, DL.vor_e, DL.vorK_e, DL.vorL_true, DL.vorL_false, DL.vnot_e, DL.vnotK_e, DL.vnotL_e, DL.vif_e, DL.vifK_true, DL.vifK_false, DL.anil_e, DL.acons_e, DL.aconsK_e, DL.aconsL_e, DL.call_e, DL.ccall_e, DL.ccallK1, DL.ccallK2, DL.ccallK3, DL.ccallK4, DL.sub_e, DL.subK_e, DL.subH_e, DL.cutK_e, DL.cutL_e, DL.oN_e, DL.oS_e, DL.oSK_e, DL.oI_e, DL.rev_e, DL.revK_e, DL.tup_e, DL.lst_e, DL.mkTup_e, DL.mkLst_e, DL.tupD_e, DL.lstD_e, DL.datas_e, DL.datasK_e, DL.kN_e, DL.kB_e, DL.kI_e, DL.kS_e, DL.kT_e, DL.kD0_e, DL.chainI_e, DL.chA_e, DL.chB_e, DL.chI_e, DL.chJ_e, DL.chG_true, DL.chG_false, DL.chY_e, DL.chC_e, DL.sSeq_e, DL.seqSrc_e, DL.asItems_list, DL.asItems_tuple, DL.sRng1_e, DL.rngW_e, DL.rngI_e, DL.sRng2_e, DL.rngK_e, DL.rngWW_e, DL.rngWI_e, DL.rngJ_e, DL.sZip_e, DL.zipK_e, DL.zipW_e, DL.zipA_e, DL.zipD_list, DL.zipD_tuple, DL.sEnum_e, DL.enumW_e, DL.enumV_e, DL.asList_e, DL.enumL_e, DL.ownR_e, DL.lc_e, DL.tYes_e, List.map_cons, List.map_nil, List.nil_append, List.cons_append, List.length_cons, List.length_nil, List.set_cons_zero, List.set_cons_succ, ite_self, reduceIte, noL_none, noL_bool, noL_int, noL_str, noL_list, noL_tuple, noLs_nil, noLs_cons, Bool.true_and, Bool.false_and, Bool.and_true, Bool.and_self, Bool.false_eq_true, Bool.not_true, Bool.not_false, List.replicate_succ, List.replicate_zero, DL.opEq_e, DL.flip_e, DL.opNe_e, DL.opIn_e, DL.opNotIn_e, DL.opLt_e, DL.opAdd_e, DL.opMul_e, DL.opIx_e, DL.opIsN_e, DL.opNotN_e, DL.opNeg_e, DL.opLe_e, DL.opGt_e, DL.opGe_e, DL.opSub_e, DL.vLt_int, DL.vEq_int, DL.vAdd_int, DL.vAdd_list, DL.vAdd_tuple, DL.vLen_tuple, DL.vLen_list, DL.vInt_int, DL.vTuple_list, DL.vTuple_tuple, DL.vList_list, DL.vList_tuple, DL.vRev_list, DL.vRev_tuple, DL.vCut_list, DL.vCut_tuple, DL.f1_e, DL.f2_e, DL.isNon_none, DL.isNon_int, DL.isi_int, DL.isi_bool, DL.isi_tuple, DL.isi_list, DL.isi_str, DL.isi_dict, e1, e2, e4, e5, e6, lp, m1, m2]
end
section
open PySem PySem.Spec PyProof.Rows L2 DL
variable {P : Program} {w : World} {K : PySem.W.Frag} {mg : Str → Option Value} {base : Heap}
theorem d_is_integer (T : Txt K mg) (sy : SysIn base) : Den P w K mg base 1 "is_integer" 1 g_is_integer :=
  has_den (N := ["thing"]) (ps := ["thing"]) sy T.f_is_integer sc_is_integer fun f cd A0 ou s H E c A =>
    (dss_one (ds_ret [0] (de_and (dc_isi "int" T.n_isinstance rfl (da_cons (de_var 0) (da_cons (dk_T rfl T.n_int boot_int) da_nil))) (de_and1 (de_not (dc_isi "bool" T.n_isinstance rfl (da_cons (de_var 0) (da_cons (dk_T rfl T.n_bool boot_bool) da_nil))))))))
theorem d__law_kneaded (T : Txt K mg) (sy : SysIn base) : Den P w K mg base 1 "_law_kneaded" 2 g__law_kneaded :=
  has_den (N := ["seed", "lap", "prime", "amount", "again"]) (ps := ["seed", "lap"]) sy T.f__law_kneaded sc__law_kneaded fun f cd A0 ou s H E c A =>
    (dss_cons (ds_asg [] 2 sc__law_kneaded.nd rfl (Or.inl rfl) dk_I)
    (dss_cons (ds_asg [0, 1, 2] 3 sc__law_kneaded.nd rfl (Or.inl rfl) (de_mod (dc_int T.n_int rfl (da_cons (de_add (de_add (de_mul (de_var 0) dk_I) (de_mul (de_var 1) dk_I)) dk_I) da_nil)) (de_var 2)))
    (dss_cons (ds_for [] A.own rfl (di_rng1 rfl T.n_range dk_I) (dg_name 4 sc__law_kneaded.nd rfl (Or.inl rfl)) (dss_one (ds_asg [1, 2, 3, 4] 3 sc__law_kneaded.nd rfl (Or.inl rfl) (de_mod (dc_int T.n_int rfl (da_cons (de_add (de_add (de_add (de_mul (de_var 3) (de_var 3)) (de_mul dk_I (de_var 3))) (de_mul dk_I (de_var 4))) (de_var 1)) da_nil)) (de_var 2)))))
    (dss_one (ds_ret [1, 2, 3] (de_add (de_mul (de_var 3) (de_var 2)) (de_mod (dc_int T.n_int rfl (da_cons (de_add (de_mul (de_var 3) dk_I) (de_var 1)) da_nil)) (de_var 2))))))))
theorem d__law_pairs (T : Txt K mg) (sy : SysIn base) : Den P w K mg base 1 "_law_pairs" 1 g__law_pairs :=
  has_den (N := ["many", "found", "one", "other"]) (ps := ["many"]) sy T.f__law_pairs sc__law_pairs fun f cd A0 ou s H E c A =>
    (dss_cons (ds_asg [] 1 sc__law_pairs.nd rfl (Or.inl rfl) (de_ls da_nil))
    (dss_cons (ds_for [0] A.own rfl (di_rng1 rfl T.n_range (de_var 0)) (dg_name 2 sc__law_pairs.nd rfl (Or.inr rfl)) (dss_one (ds_asg [0, 1, 2, 3] 1 sc__law_pairs.nd rfl (Or.inl rfl) (de_add (de_var 1) (de_lc (own := [("other", 3)]) rfl sc__law_pairs.nd (by exact blkOk_by (N := ["many", "found", "one", "other"]) (sc := defScope (top 16)) (own := [("other", 3)]) (by decide +kernel)) (di_rng2 rfl T.n_range (de_add (de_var 2) dk_I) (de_var 0)) (fun _ _ _ _ _ => (dg_name 3 sc__law_pairs.nd rfl (Or.inl rfl))) (fun _ _ _ _ _ => dts_nil) (fun _ _ _ _ _ => (de_tp (da_cons (de_var 2) (da_cons (de_var 3) da_nil)))))))))
    (dss_one (ds_retV 1))))
theorem d__law_number (T : Txt K mg) (sy : SysIn base) : Den P w K mg base 1 "_law_number" 3 g__law_number :=
  has_den (N := ["thing", "start", "most"]) (ps := ["thing", "start", "most"]) sy T.f__law_number sc__law_number fun f cd A0 ou s H E c A =>
    (dss_one (ds_ret [0, 1, 2] (de_and (dc_isi "int" T.n_isinstance rfl (da_cons (de_var 0) (da_cons (dk_T rfl T.n_int boot_int) da_nil))) (de_and (de_not (dc_isi "bool" T.n_isinstance rfl (da_cons (de_var 0) (da_cons (dk_T rfl T.n_bool boot_bool) da_nil)))) (de_and1 (de_chain op_le op_le (de_var 1) (de_var 0) (de_var 2)))))))
theorem d__law_below (T : Txt K mg) (sy : SysIn base) : Den P w K mg base 2 "_law_below" 2 g__law_below := by
  obtain ⟨f, fd, hm, Fx, hb⟩ := T.f__law_below
  obtain ⟨fk, fdk, psk, hmk, hkk, hbk, hlk, Fk⟩ := (d__law_kneaded (P := P) (w := w) T sy).ex
  refine ⟨f, fd, _, hm, Fx.kp, hb, rfl, fnG_of (N := ["pot", "bound", "amount", "cells", "place", "found"]) Fx sc__law_below (fun vs H Q E z => z.1) fun cd A0 out s H vs Q E room guard z => ?_⟩
  exact ⟨_, pss_cons (ps_if (pt_cmpR op_lt (pe_ix ix_seq (pe_var (i := 0) rfl (Or.inl rfl)) pe_int (fun _ _ => rfl)) (pe_var (i := 1) rfl (Or.inl rfl)) (nomark _))
     (pss_cons (ps_par rfl sc__law_below.nd (i := 3) (j := 4) rfl rfl (by decide) rfl rfl (pa_cons (pe_ix ix_seq (pe_var (i := 0) rfl (Or.inl rfl)) pe_int (fun _ _ => rfl)) (pa_cons (pe_ix ix_seq (pe_var (i := 0) rfl (Or.inl rfl)) pe_int (fun _ _ => rfl)) pa_nil)) (by rfl))
     (pss_cons (ps_set (i := 2) sc__law_below.nd rfl (Or.inl rfl) (pe_ifExp (pt_cmpR (op_neF room.units) (pe_var (i := 3) rfl (Or.inl rfl)) (pe_lst pa_nil) (nomark _)) (pe_ix ix_seq (pe_var (i := 3) rfl (Or.inl rfl)) (pe_op op_mod (pe_var (i := 4) rfl (Or.inl rfl)) (pe_callB call_len rfl T.n_len boot_len (pa_cons (pe_var (i := 3) rfl (Or.inl rfl)) pa_nil))) (fun _ _ => rfl)) pe_int))
     (pss_cons (ps_if (PW.pt (pw_or (pt_cmpR op_ge (pe_var (i := 4) rfl (Or.inl rfl)) (pe_callB call_len rfl T.n_len boot_len (pa_cons (pe_var (i := 3) rfl (Or.inl rfl)) pa_nil)) (nomark _)) (pw_or1 (pt_cmpR op_lt (pe_var (i := 2) rfl (Or.inl rfl)) (pe_op op_pow pe_int pe_int) (nomark _)))))
        (pss_cons (ps_set (i := 2) sc__law_below.nd rfl (Or.inl rfl) (pe_callG Fk (room.mono (by decide)) guard rfl hmk hkk hbk (Wx := fun cls d _ H => E cls d H) (takes_of rfl rfl rfl rfl) (pa_cons (pe_op op_mod (pe_callTy call_int1 rfl T.n_int boot_int (pa_cons (pe_var (i := 2) rfl (Or.inl rfl)) pa_nil)) pe_int) (pa_cons (pe_var (i := 4) rfl (Or.inl rfl)) pa_nil)))) pss_nil) pss_nil)
     (pss_cons (ps_asg (pe_op op_add (pe_var (i := 4) rfl (Or.inl rfl)) pe_int) (pg_sub (pe_var (i := 0) rfl (Or.inl rfl)) pe_int set_list))
     (pss_cons (ps_asg (pe_var (i := 2) rfl (Or.inl rfl)) (pg_sub (pe_var (i := 0) rfl (Or.inl rfl)) pe_int set_list))
     (pss_cons (ps_asg (pe_var (i := 2) rfl (Or.inl rfl)) (pg_sub (pe_var (i := 0) rfl (Or.inl rfl)) pe_int set_list))
     pss_nil)))))) pss_nil)
   (pss_cons (ps_set (i := 5) sc__law_below.nd rfl (Or.inl rfl) (pe_op op_mod (pe_callTy call_int1 rfl T.n_int boot_int (pa_cons (pe_ix ix_seq (pe_var (i := 0) rfl (Or.inl rfl)) pe_int (fun _ _ => rfl)) pa_nil)) (pe_var (i := 1) rfl (Or.inl rfl))))
   (pss_cons (ps_asg (pe_op op_fdivW (pe_ix ix_seq (pe_var (i := 0) rfl (Or.inl rfl)) pe_int (fun _ _ => rfl)) (pe_var (i := 1) rfl (Or.inl rfl))) (pg_sub (pe_var (i := 0) rfl (Or.inl rfl)) pe_int set_list))
   (pss_cons (ps_asg (pe_op op_fdivW (pe_ix ix_seq (pe_var (i := 0) rfl (Or.inl rfl)) pe_int (fun _ _ => rfl)) (pe_var (i := 1) rfl (Or.inl rfl))) (pg_sub (pe_var (i := 0) rfl (Or.inl rfl)) pe_int set_list))
   (pss_cons (ps_ret (pe_var (i := 5) rfl (Or.inl rfl))) pss_nil)))), draw_den (tp := cPlace) (by decide) (kneads_of kn_ok) (fun σ H Q i h q => ⟨_, h, q⟩) z⟩
theorem d_is_count (T : Txt K mg) (sy : SysIn base) : Den P w K mg base 2 "is_count" 1 g_is_count :=
  has_den (N := ["thing"]) (ps := ["thing"]) sy T.f_is_count sc_is_count fun f cd A0 ou s H E c A =>
    (dss_one (ds_ret [0] (de_and (dc_own (d_is_integer T sy) (A.room.mono (by decide)) A.guard A.tk rfl (da_cons (de_var 0) da_nil)) (de_and1 (de_ge (de_var 0) dk_I)))))
theorem d__law_is_pair (T : Txt K mg) (sy : SysIn base) : Den P w K mg base 2 "_law_is_pair" 2 g__law_is_pair :=
  has_den (N := ["thing", "many"]) (ps := ["thing", "many"]) sy T.f__law_is_pair sc__law_is_pair fun f cd A0 ou s H E c A =>
    (dss_cons (ds_if [0, 1] (dt_w (dw_or (dt_not (dt_val (dc_isi "tuple" T.n_isinstance rfl (da_cons (de_var 0) (da_cons (dk_T rfl T.n_tuple boot_tuple) da_nil))))) (dw_or (dt_ne A.room (dc_len T.n_len rfl (da_cons (de_var 0) da_nil)) dk_I) (dw_or1 (dt_not (dt_val (dc_own (d__law_number T sy) (A.room.mono (by decide)) A.guard A.tk rfl (da_cons (de_ix (de_var 0) dk_I) (da_cons dk_I (da_cons (de_sub (de_var 1) dk_I) da_nil)))))))))) (dss_one (ds_ret [] dk_B)) dss_nil)
    (dss_one (ds_ret [0, 1] (dc_own (d__law_number T sy) (A.room.mono (by decide)) A.guard A.tk rfl (da_cons (de_ix (de_var 0) dk_I) (da_cons (de_add (de_ix (de_var 0) dk_I) dk_I) (da_cons (de_sub (de_var 1) dk_I) da_nil)))))))
theorem d_is_rising (T : Txt K mg) (sy : SysIn base) : Den P w K mg base 3 "is_rising" 1 g_is_rising :=
  has_den (N := ["thing", "one", "other"]) (ps := ["thing"]) sy T.f_is_rising sc_is_rising fun f cd A0 ou s H E c A =>
    (dss_cons (ds_if [0, 1] (dt_w (dw_or (dt_not (dt_val (dc_isi "tuple" T.n_isinstance rfl (da_cons (de_var 0) (da_cons (dk_T rfl T.n_tuple boot_tuple) da_nil))))) (dw_or1 (dt_not (dt_val (dc_all rfl T.n_all rfl (da_cons (de_lc (own := [("one", 1)]) rfl sc_is_rising.nd (by exact blkOk_by (N := ["thing", "one", "other"]) (sc := defScope (top 3)) (own := [("one", 1)]) (by decide +kernel)) (di_seq (de_var 0)) (fun _ _ _ _ _ => (dg_name 1 sc_is_rising.nd rfl (Or.inl rfl))) (fun _ _ _ _ _ => dts_nil) (fun _ _ _ _ _ => (dc_own (d_is_count T sy) (A.room.mono (by decide)) A.guard takes0 rfl (da_cons (de_var 1) da_nil)))) da_nil))))))) (dss_one (ds_ret [] dk_B)) dss_nil)
    (dss_one (ds_ret [0, 1, 2] (dc_all rfl T.n_all rfl (da_cons (de_lc (own := [("one", 1), ("other", 2)]) rfl sc_is_rising.nd (by exact blkOk_by (N := ["thing", "one", "other"]) (sc := defScope (top 3)) (own := [("one", 1), ("other", 2)]) (by decide +kernel)) (di_zip rfl T.n_zip (de_sl (de_var 0) do_none (do_some (de_neg dk_I))) (de_sl (de_var 0) (do_some dk_I) do_none)) (fun _ _ _ _ _ => (dg_tup rfl (.cons (pg_name (i := 1) sc_is_rising.nd rfl (Or.inl rfl)) (.cons (pg_name (i := 2) sc_is_rising.nd rfl (Or.inl rfl)) DGN.nil)) (pgs_cons (pg_name (i := 1) sc_is_rising.nd rfl (Or.inl rfl)) (pgs_cons (pg_name (i := 2) sc_is_rising.nd rfl (Or.inl rfl)) pgs_nil)))) (fun _ _ _ _ _ => dts_nil) (fun _ _ _ _ _ => (de_lt A.room (de_var 1) (de_var 2)))) da_nil)))))
theorem d_is_number (T : Txt K mg) (sy : SysIn base) : Den P w K mg base 3 "is_number" 1 g_is_number :=
  has_den (N := ["thing"]) (ps := ["thing"]) sy T.f_is_number sc_is_number fun f cd A0 ou s H E c A =>
    (dss_one (ds_ret [0] (de_or (de_is (de_var 0) dk_N) (de_or1 (de_and (dc_own (d_is_count T sy) (A.room.mono (by decide)) A.guard A.tk rfl (da_cons (de_var 0) da_nil)) (de_and1 (de_le (de_var 0) (dk_gI rfl T.v_MAX_NUMBER))))))))
theorem d__law_pick (T : Txt K mg) (sy : SysIn base) : Den P w K mg base 3 "_law_pick" 2 g__law_pick :=
  has_den (N := ["pot", "items"]) (ps := ["pot", "items"]) sy T.f__law_pick sc__law_pick fun f cd A0 ou s H E c A =>
    (dss_one (ds_ret [0, 1] (de_ix (de_var 1) (dc_own (d__law_below T sy) (A.room.mono (by decide)) A.guard A.tk rfl (da_cons (de_var 0) (da_cons (dc_len T.n_len rfl (da_cons (de_var 1) da_nil)) da_nil))))))
theorem d__law_is_row (T : Txt K mg) (sy : SysIn base) : Den P w K mg base 3 "_law_is_row" 2 g__law_is_row :=
  has_den (N := ["thing", "many", "pair", "one", "other"]) (ps := ["thing", "many"]) sy T.f__law_is_row sc__law_is_row fun f cd A0 ou s H E c A =>
    (dss_cons (ds_if [0] (dt_not (dt_val (dc_isi "tuple" T.n_isinstance rfl (da_cons (de_var 0) (da_cons (dk_T rfl T.n_tuple boot_tuple) da_nil))))) (dss_one (ds_ret [] dk_B)) dss_nil)
    (dss_cons (ds_for [0] A.own rfl (di_seq (de_var 0)) (dg_name 2 sc__law_is_row.nd rfl (Or.inl rfl)) (dss_one (ds_if [1, 2] (dt_not (dt_val (dc_own (d__law_is_pair T sy) (A.room.mono (by decide)) A.guard A.tk rfl (da_cons (de_var 2) (da_cons (de_var 1) da_nil))))) (dss_one (ds_ret [] dk_B)) dss_nil)))
    (dss_one (ds_ret [0, 3, 4] (de_eq A.room (de_lc (own := [("one", 3), ("other", 4)]) rfl sc__law_is_row.nd (by exact blkOk_by (N := ["thing", "many", "pair", "one", "other"]) (sc := defScope (top 20)) (own := [("one", 3), ("other", 4)]) (by decide +kernel)) (di_zip rfl T.n_zip (de_var 0) (de_sl (de_var 0) (do_some dk_I) do_none)) (fun _ _ _ _ _ => (dg_tup rfl (.cons (pg_name (i := 3) sc__law_is_row.nd rfl (Or.inl rfl)) (.cons (pg_name (i := 4) sc__law_is_row.nd rfl (Or.inl rfl)) DGN.nil)) (pgs_cons (pg_name (i := 3) sc__law_is_row.nd rfl (Or.inl rfl)) (pgs_cons (pg_name (i := 4) sc__law_is_row.nd rfl (Or.inl rfl)) pgs_nil)))) (fun _ _ _ _ _ => (dts_one (dt_not (dt_lt A.room (de_var 3) (de_var 4))))) (fun _ _ _ _ _ => dk_I)) (de_ls da_nil))))))
theorem d_is_pair (T : Txt K mg) (sy : SysIn base) : Den P w K mg base 4 "is_pair" 2 g_is_pair :=
  has_den (N := ["thing", "many"]) (ps := ["thing", "many"]) sy T.f_is_pair sc_is_pair fun f cd A0 ou s H E c A =>
    (dss_one (ds_ret [0, 1] (de_and (dc_isi "tuple" T.n_isinstance rfl (da_cons (de_var 0) (da_cons (dk_T rfl T.n_tuple boot_tuple) da_nil))) (de_and (de_eq A.room (dc_len T.n_len rfl (da_cons (de_var 0) da_nil)) dk_I) (de_and (dc_own (d_is_rising T sy) (A.room.mono (by decide)) A.guard A.tk rfl (da_cons (de_var 0) da_nil)) (de_and1 (de_lt A.room (de_ix (de_var 0) dk_I) (de_var 1))))))))
theorem d__law_some_party (T : Txt K mg) (sy : SysIn base) : Den P w K mg base 4 "_law_some_party" 2 g__law_some_party :=
  has_den (N := ["pot", "most", "many", "pairs", "chosen", "pair", "numbers", "person", "met", "apart", "choice", "some"]) (ps := ["pot", "most"]) sy T.f__law_some_party sc__law_some_party fun f cd A0 ou s H E c A =>
    (dss_cons (ds_asg [0, 1] 2 sc__law_some_party.nd rfl (Or.inl rfl) (de_add dk_I (dc_own (d__law_below T sy) (A.room.mono (by decide)) A.guard A.tk rfl (da_cons (de_var 0) (da_cons (de_var 1) da_nil)))))
    (dss_cons (ds_asg [2] 3 sc__law_some_party.nd rfl (Or.inl rfl) (dc_own (d__law_pairs T sy) (A.room.mono (by decide)) A.guard A.tk rfl (da_cons (de_var 2) da_nil)))
    (dss_cons (ds_asg [0, 3, 5] 4 sc__law_some_party.nd rfl (Or.inr rfl) (de_lc (own := [("pair", 5)]) rfl sc__law_some_party.nd (by exact blkOk_by (N := ["pot", "most", "many", "pairs", "chosen", "pair", "numbers", "person", "met", "apart", "choice", "some"]) (sc := defScope (top 17)) (own := [("pair", 5)]) (by decide +kernel)) (di_seq (de_var 3)) (fun _ _ _ _ _ => (dg_name 5 sc__law_some_party.nd rfl (Or.inl rfl))) (fun _ _ _ _ _ => (dts_one (dt_eq A.room (dc_own (d__law_below T sy) (A.room.mono (by decide)) A.guard takes0 rfl (da_cons (de_var 0) (da_cons dk_I da_nil))) dk_I))) (fun _ _ _ _ _ => (de_var 5))))
    (dss_cons (ds_asgLc (own := [("person", 7)]) [2, 4, 5, 7] 6 rfl sc__law_some_party.nd rfl rfl (sw_true rfl rfl rfl (by decide +kernel)) (by exact blkOk_by (N := ["pot", "most", "many", "pairs", "chosen", "pair", "numbers", "person", "met", "apart", "choice", "some"]) (sc := defScope (top 17)) (own := [("person", 7)]) (by decide +kernel)) (di_rng1 rfl T.n_range (de_var 2)) (fun _ _ _ _ _ => (dg_name 7 sc__law_some_party.nd rfl (Or.inr rfl))) (fun _ _ _ _ _ => dts_nil) (fun _ _ _ _ _ => (dc_len T.n_len rfl (da_cons (de_lc (own := [("pair", 5)]) rfl sc__law_some_party.nd (by exact blkOk_by (N := ["pot", "most", "many", "pairs", "chosen", "pair", "numbers", "person", "met", "apart", "choice", "some"]) (own := [("pair", 5)]) (by rfl)) (di_seq (de_var 4)) (fun _ _ _ _ _ => (dg_name 5 sc__law_some_party.nd rfl (Or.inl rfl))) (fun _ _ _ _ _ => (dts_one (dt_in A.room (de_var 7) (de_var 5)))) (fun _ _ _ _ _ => (de_var 5))) da_nil))))
    (dss_cons (ds_for [2] A.own rfl (di_rng1 rfl T.n_range (de_var 2)) (dg_name 7 sc__law_some_party.nd rfl (Or.inl rfl)) (dss_one (ds_if [0] (dt_eq A.room (dc_own (d__law_below T sy) (A.room.mono (by decide)) A.guard A.tk rfl (da_cons (de_var 0) (da_cons dk_I da_nil))) dk_I) (dss_one (ds_sto [] [7] 6 dk_N (de_var 7))) dss_nil)))
    (dss_cons (ds_if [0] (dt_eq A.room (dc_own (d__law_below T sy) (A.room.mono (by decide)) A.guard A.tk rfl (da_cons (de_var 0) (da_cons dk_I da_nil))) dk_I) (dss_one (ds_sto [0, 2] [0, 2] 6 (dc_own (d__law_pick T sy) (A.room.mono (by decide)) A.guard A.tk rfl (da_cons (de_var 0) (da_cons (de_ls (da_cons (dc_own (d__law_below T sy) (A.room.mono (by decide)) A.guard A.tk rfl (da_cons (de_var 0) (da_cons (de_add (de_var 2) dk_I) da_nil))) (da_cons (dc_own (d__law_below T sy) (A.room.mono (by decide)) A.guard A.tk rfl (da_cons (de_var 0) (da_cons dk_I da_nil))) (da_cons dk_I da_nil)))) da_nil))) (dc_own (d__law_below T sy) (A.room.mono (by decide)) A.guard A.tk rfl (da_cons (de_var 0) (da_cons (de_var 2) da_nil))))) dss_nil)
    (dss_cons (ds_par [] 8 9 rfl sc__law_some_party.nd rfl rfl (by decide) rfl rfl (de_ls da_nil) (de_ls da_nil) (by rfl))
    (dss_cons (ds_for [3] A.own rfl (di_seq (de_var 3)) (dg_name 5 sc__law_some_party.nd rfl (Or.inl rfl)) (dss_cons (ds_asg [0] 10 sc__law_some_party.nd rfl (Or.inl rfl) (dc_own (d__law_below T sy) (A.room.mono (by decide)) A.guard A.tk rfl (da_cons (de_var 0) (da_cons dk_I da_nil))))
    (dss_one (ds_if [10] (dt_lt A.room (de_var 10) dk_I) (dss_ali [4, 5] [5] 11 8 9 sc__law_some_party.nd (Or.inl rfl) (dt_in A.room (de_var 5) (de_var 4)) (de_var 5) dss_nil (by decide) (by decide)) (dss_one (ds_if [0, 10] (dt_w (dw_and (dt_eq A.room (de_var 10) dk_I) (dw_and1 (dt_eq A.room (dc_own (d__law_below T sy) (A.room.mono (by decide)) A.guard A.tk rfl (da_cons (de_var 0) (da_cons dk_I da_nil))) dk_I)))) (dss_ali [4, 5] [5] 11 9 8 sc__law_some_party.nd (Or.inl rfl) (dt_in A.room (de_var 5) (de_var 4)) (de_var 5) dss_nil (by decide) (by decide)) dss_nil))))))
    (dss_one (ds_ret [6, 8, 9] (de_tp (da_cons (dc_tuple T.n_tuple rfl (da_cons (de_var 6) da_nil)) (da_cons (dc_tuple T.n_tuple rfl (da_cons (de_var 8) da_nil)) (da_cons (dc_tuple T.n_tuple rfl (da_cons (de_var 9) da_nil)) da_nil))))))))))))))
theorem d__law_is_party (T : Txt K mg) (sy : SysIn base) : Den P w K mg base 4 "_law_is_party" 1 g__law_is_party :=
  has_den (N := ["thing", "number", "pair"]) (ps := ["thing"]) sy T.f__law_is_party sc__law_is_party fun f cd A0 ou s H E c A =>
    (dss_cons (ds_if [0] (dt_w (dw_or (dt_not (dt_val (dc_isi "tuple" T.n_isinstance rfl (da_cons (de_var 0) (da_cons (dk_T rfl T.n_tuple boot_tuple) da_nil))))) (dw_or (dt_ne A.room (dc_len T.n_len rfl (da_cons (de_var 0) da_nil)) dk_I) (dw_or1 (dt_not (dt_val (dc_isi "tuple" T.n_isinstance rfl (da_cons (de_ix (de_var 0) dk_I) (da_cons (dk_T rfl T.n_tuple boot_tuple) da_nil))))))))) (dss_one (ds_ret [] dk_B)) dss_nil)
    (dss_cons (ds_if [0] (dt_not (dt_chain op_le op_le dk_I (dc_len T.n_len rfl (da_cons (de_ix (de_var 0) dk_I) da_nil)) dk_I)) (dss_one (ds_ret [] dk_B)) dss_nil)
    (dss_cons (ds_for [0] A.own rfl (di_seq (de_ix (de_var 0) dk_I)) (dg_name 1 sc__law_is_party.nd rfl (Or.inl rfl)) (dss_one (ds_if [1] (dt_w (dw_and (dt_isnot (de_var 1) dk_N) (dw_and1 (dt_not (dt_val (dc_own (d__law_number T sy) (A.room.mono (by decide)) A.guard A.tk rfl (da_cons (de_var 1) (da_cons dk_I (da_cons dk_I da_nil))))))))) (dss_one (ds_ret [] dk_B)) dss_nil)))
    (dss_cons (ds_if [0] (dt_w (dw_or (dt_not (dt_val (dc_own (d__law_is_row T sy) (A.room.mono (by decide)) A.guard A.tk rfl (da_cons (de_ix (de_var 0) dk_I) (da_cons (dc_len T.n_len rfl (da_cons (de_ix (de_var 0) dk_I) da_nil)) da_nil))))) (dw_or1 (dt_not (dt_val (dc_own (d__law_is_row T sy) (A.room.mono (by decide)) A.guard A.tk rfl (da_cons (de_ix (de_var 0) dk_I) (da_cons (dc_len T.n_len rfl (da_cons (de_ix (de_var 0) dk_I) da_nil)) da_nil)))))))) (dss_one (ds_ret [] dk_B)) dss_nil)
    (dss_one (ds_ret [0, 2] (de_eq A.room (de_lc (own := [("pair", 2)]) rfl sc__law_is_party.nd (by exact blkOk_by (N := ["thing", "number", "pair"]) (sc := defScope (top 21)) (own := [("pair", 2)]) (by decide +kernel)) (di_seq (de_ix (de_var 0) dk_I)) (fun _ _ _ _ _ => (dg_name 2 sc__law_is_party.nd rfl (Or.inl rfl))) (fun _ _ _ _ _ => (dts_one (dt_in A.room (de_var 2) (de_ix (de_var 0) dk_I)))) (fun _ _ _ _ _ => (de_var 2))) (de_ls da_nil))))))))
theorem d__law_muddled (T : Txt K mg) (sy : SysIn base) : Den P w K mg base 4 "_law_muddled" 3 g__law_muddled :=
  has_den (N := ["pot", "row", "odd", "at", "more"]) (ps := ["pot", "row", "odd"]) sy T.f__law_muddled sc__law_muddled fun f cd A0 ou s H E c A =>
    (dss_cons (ds_asg [0, 1] 3 sc__law_muddled.nd rfl (Or.inl rfl) (dc_own (d__law_below T sy) (A.room.mono (by decide)) A.guard A.tk rfl (da_cons (de_var 0) (da_cons (de_add (dc_len T.n_len rfl (da_cons (de_var 1) da_nil)) dk_I) da_nil))))
    (dss_cons (ds_asg [1, 3] 4 sc__law_muddled.nd rfl (Or.inl rfl) (de_ls (da_cons (de_add (de_add (de_sl (de_var 1) do_none (do_some (de_var 3))) (de_rv (de_sl (de_var 1) (do_some (de_var 3)) (do_some (de_add (de_var 3) dk_I))))) (de_sl (de_var 1) (do_some (de_add (de_var 3) dk_I)) do_none)) (da_cons (de_add (de_add (de_sl (de_var 1) do_none (do_some (de_var 3))) (de_sl (de_var 1) (do_some (de_var 3)) (do_some (de_add (de_var 3) dk_I)))) (de_sl (de_var 1) (do_some (de_var 3)) do_none)) da_nil))))
    (dss_one (ds_ret [0, 1, 2, 3, 4] (dc_own (d__law_pick T sy) (A.room.mono (by decide)) A.guard A.tk rfl (da_cons (de_var 0) (da_cons (de_add (de_add (de_var 4) (de_ls (da_cons (de_add (de_sl (de_var 1) do_none (do_some (de_var 3))) (de_sl (de_var 1) (do_some (de_add (de_var 3) dk_I)) do_none)) da_nil))) (de_mul (de_ls (da_cons (de_add (de_add (de_sl (de_var 1) do_none (do_some (de_var 3))) (de_tp (da_cons (de_var 2) da_nil))) (de_sl (de_var 1) (do_some (de_var 3)) do_none)) da_nil)) dk_I)) da_nil)))))))
theorem d_are_pairs (T : Txt K mg) (sy : SysIn base) : Den P w K mg base 5 "are_pairs" 2 g_are_pairs :=
  has_den (N := ["thing", "many", "pair", "one", "other"]) (ps := ["thing", "many"]) sy T.f_are_pairs sc_are_pairs fun f cd A0 ou s H E c A =>
    (dss_cons (ds_if [0, 1, 2] (dt_w (dw_or (dt_not (dt_val (dc_isi "tuple" T.n_isinstance rfl (da_cons (de_var 0) (da_cons (dk_T rfl T.n_tuple boot_tuple) da_nil))))) (dw_or1 (dt_not (dt_val (dc_all rfl T.n_all rfl (da_cons (de_lc (own := [("pair", 2)]) rfl sc_are_pairs.nd (by exact blkOk_by (N := ["thing", "many", "pair", "one", "other"]) (sc := defScope (top 8)) (own := [("pair", 2)]) (by decide +kernel)) (di_seq (de_var 0)) (fun _ _ _ _ _ => (dg_name 2 sc_are_pairs.nd rfl (Or.inl rfl))) (fun _ _ _ _ _ => dts_nil) (fun _ _ _ _ _ => (dc_own (d_is_pair T sy) (A.room.mono (by decide)) A.guard takes0 rfl (da_cons (de_var 2) (da_cons (de_var 1) da_nil))))) da_nil))))))) (dss_one (ds_ret [] dk_B)) dss_nil)
    (dss_one (ds_ret [0, 3, 4] (dc_all rfl T.n_all rfl (da_cons (de_lc (own := [("one", 3), ("other", 4)]) rfl sc_are_pairs.nd (by exact blkOk_by (N := ["thing", "many", "pair", "one", "other"]) (sc := defScope (top 8)) (own := [("one", 3), ("other", 4)]) (by decide +kernel)) (di_zip rfl T.n_zip (de_sl (de_var 0) do_none (do_some (de_neg dk_I))) (de_sl (de_var 0) (do_some dk_I) do_none)) (fun _ _ _ _ _ => (dg_tup rfl (.cons (pg_name (i := 3) sc_are_pairs.nd rfl (Or.inl rfl)) (.cons (pg_name (i := 4) sc_are_pairs.nd rfl (Or.inl rfl)) DGN.nil)) (pgs_cons (pg_name (i := 3) sc_are_pairs.nd rfl (Or.inl rfl)) (pgs_cons (pg_name (i := 4) sc_are_pairs.nd rfl (Or.inl rfl)) pgs_nil)))) (fun _ _ _ _ _ => dts_nil) (fun _ _ _ _ _ => (de_lt A.room (de_var 3) (de_var 4)))) da_nil)))))
theorem d__law_spoilt (T : Txt K mg) (sy : SysIn base) : Den P w K mg base 5 "_law_spoilt" 2 g__law_spoilt :=
  has_den (N := ["pot", "party", "numbers", "met", "apart", "choice", "many", "odd", "pair", "row"]) (ps := ["pot", "party"]) sy T.f__law_spoilt sc__law_spoilt fun f cd A0 ou s H E c A =>
    (dss_cons (ds_unp [1] (de_var 1) (dg_tup rfl (.cons (pg_name (i := 2) sc__law_spoilt.nd rfl (Or.inl rfl)) (.cons (pg_name (i := 3) sc__law_spoilt.nd rfl (Or.inl rfl)) (.cons (pg_name (i := 4) sc__law_spoilt.nd rfl (Or.inl rfl)) DGN.nil))) (pgs_cons (pg_name (i := 2) sc__law_spoilt.nd rfl (Or.inl rfl)) (pgs_cons (pg_name (i := 3) sc__law_spoilt.nd rfl (Or.inl rfl)) (pgs_cons (pg_name (i := 4) sc__law_spoilt.nd rfl (Or.inl rfl)) pgs_nil)))))
    (dss_cons (ds_par [0, 2] 5 6 rfl sc__law_spoilt.nd rfl rfl (by decide) rfl rfl (dc_own (d__law_below T sy) (A.room.mono (by decide)) A.guard A.tk rfl (da_cons (de_var 0) (da_cons dk_I da_nil))) (dc_len T.n_len rfl (da_cons (de_var 2) da_nil)) (by rfl))
    (dss_cons (ds_if [5] (dt_eq A.room (de_var 5) dk_I) (dss_one (ds_ret [0, 1, 2] (dc_own (d__law_pick T sy) (A.room.mono (by decide)) A.guard A.tk rfl (da_cons (de_var 0) (da_cons (de_ls (da_cons dk_N (da_cons (de_tp da_nil) (da_cons (de_sl (de_var 1) do_none (do_some dk_I)) (da_cons (de_add (de_var 1) (de_tp (da_cons (de_tp da_nil) da_nil))) (da_cons (dc_list T.n_list rfl (da_cons (de_var 1) da_nil)) (da_cons (de_rv (de_var 1)) (da_cons (de_var 2) (da_cons dk_D0 da_nil))))))))) da_nil))))) dss_nil)
    (dss_cons (ds_if [5] (dt_lt A.room (de_var 5) dk_I) (dss_cons (ds_asg [0] 7 sc__law_spoilt.nd rfl (Or.inl rfl) (dc_own (d__law_pick T sy) (A.room.mono (by decide)) A.guard A.tk rfl (da_cons (de_var 0) (da_cons (de_ls (da_cons dk_N (da_cons dk_B (da_cons (de_sub dk_I dk_I) (da_cons dk_I (da_cons dk_I (da_cons dk_S (da_cons (de_tp (da_cons dk_I da_nil)) (da_cons dk_I (da_cons dk_I da_nil)))))))))) da_nil))))
    (dss_one (ds_ret [0, 2, 3, 4, 7] (de_tp (da_cons (dc_own (d__law_pick T sy) (A.room.mono (by decide)) A.guard A.tk rfl (da_cons (de_var 0) (da_cons (de_ls (da_cons (dc_own (d__law_muddled T sy) (A.room.mono (by decide)) A.guard A.tk rfl (da_cons (de_var 0) (da_cons (de_var 2) (da_cons (de_var 7) da_nil)))) (da_cons (dc_list T.n_list rfl (da_cons (de_var 2) da_nil)) (da_cons (de_tp da_nil) (da_cons (de_mul (de_var 2) dk_I) (da_cons (de_var 7) da_nil)))))) da_nil))) (da_cons (de_var 3) (da_cons (de_var 4) da_nil))))))) dss_nil)
    (dss_cons (ds_asg [0, 6] 8 sc__law_spoilt.nd rfl (Or.inl rfl) (de_tp (da_cons (dc_own (d__law_below T sy) (A.room.mono (by decide)) A.guard A.tk rfl (da_cons (de_var 0) (da_cons (de_var 6) da_nil))) (da_cons (dc_own (d__law_below T sy) (A.room.mono (by decide)) A.guard A.tk rfl (da_cons (de_var 0) (da_cons (de_add (de_var 6) dk_I) da_nil))) da_nil))))
    (dss_cons (ds_asg [8] 7 sc__law_spoilt.nd rfl (Or.inl rfl) (de_ls (da_cons (de_var 8) (da_cons (de_var 8) (da_cons (de_rv (de_var 8)) (da_cons (dc_list T.n_list rfl (da_cons (de_var 8) da_nil)) (da_cons (de_add (de_var 8) (de_tp (da_cons dk_I da_nil))) (da_cons (de_sl (de_var 8) do_none (do_some dk_I)) (da_cons (de_tp (da_cons dk_B (da_cons dk_B da_nil))) (da_cons (de_tp (da_cons dk_I (da_cons dk_S da_nil))) (da_cons dk_N (da_cons dk_I (da_cons (de_tp (da_cons dk_I (da_cons dk_B da_nil))) da_nil)))))))))))))
    (dss_cons (ds_asg [0, 7] 7 sc__law_spoilt.nd rfl (Or.inl rfl) (dc_own (d__law_pick T sy) (A.room.mono (by decide)) A.guard A.tk rfl (da_cons (de_var 0) (da_cons (de_add (de_var 7) (de_ls (da_cons (de_tp (da_cons dk_B (da_cons dk_I da_nil))) (da_cons (de_tp (da_cons (de_sub dk_I dk_I) (da_cons dk_I da_nil))) (da_cons (de_tp (da_cons (de_ls (da_cons dk_I da_nil)) (da_cons dk_I da_nil))) da_nil))))) da_nil))))
    (dss_cons (ds_asg [0, 3, 4, 5, 7] 9 sc__law_spoilt.nd rfl (Or.inl rfl) (dc_own (d__law_muddled T sy) (A.room.mono (by decide)) A.guard A.tk rfl (da_cons (de_var 0) (da_cons (de_if (dt_lt A.room (de_var 5) dk_I) (de_var 3) (de_var 4)) (da_cons (de_var 7) da_nil)))))
    (dss_cons (ds_asg [0, 7, 9] 9 sc__law_spoilt.nd rfl (Or.inl rfl) (dc_own (d__law_pick T sy) (A.room.mono (by decide)) A.guard A.tk rfl (da_cons (de_var 0) (da_cons (de_ls (da_cons (de_var 9) (da_cons (de_var 9) (da_cons (de_var 9) (da_cons (dc_list T.n_list rfl (da_cons (de_var 9) da_nil)) (da_cons (de_var 7) da_nil)))))) da_nil))))
    (dss_one (ds_ret [2, 3, 4, 5, 9] (de_if (dt_lt A.room (de_var 5) dk_I) (de_tp (da_cons (de_var 2) (da_cons (de_var 9) (da_cons (de_var 4) da_nil)))) (de_tp (da_cons (de_var 2) (da_cons (de_var 3) (da_cons (de_var 9) da_nil))))))))))))))))
theorem d_is_party (T : Txt K mg) (sy : SysIn base) : Den P w K mg base 6 "is_party" 1 g_is_party :=
  has_den (N := ["thing", "number", "pair"]) (ps := ["thing"]) sy T.f_is_party sc_is_party fun f cd A0 ou s H E c A =>
    (dss_cons (ds_if [0] (dt_w (dw_or (dt_not (dt_val (dc_isi "tuple" T.n_isinstance rfl (da_cons (de_var 0) (da_cons (dk_T rfl T.n_tuple boot_tuple) da_nil))))) (dw_or (dt_ne A.room (dc_len T.n_len rfl (da_cons (de_var 0) da_nil)) dk_I) (dw_or1 (dt_not (dt_val (dc_isi "tuple" T.n_isinstance rfl (da_cons (de_ix (de_var 0) dk_I) (da_cons (dk_T rfl T.n_tuple boot_tuple) da_nil))))))))) (dss_one (ds_ret [] dk_B)) dss_nil)
    (dss_cons (ds_if [0, 1] (dt_w (dw_or (dt_not (dt_chain op_le op_le dk_I (dc_len T.n_len rfl (da_cons (de_ix (de_var 0) dk_I) da_nil)) (dk_gI rfl T.v_MAX_PERSONS))) (dw_or1 (dt_not (dt_val (dc_all rfl T.n_all rfl (da_cons (de_lc (own := [("number", 1)]) rfl sc_is_party.nd (by exact blkOk_by (N := ["thing", "number", "pair"]) (sc := defScope (top 10)) (own := [("number", 1)]) (by decide +kernel)) (di_seq (de_ix (de_var 0) dk_I)) (fun _ _ _ _ _ => (dg_name 1 sc_is_party.nd rfl (Or.inl rfl))) (fun _ _ _ _ _ => dts_nil) (fun _ _ _ _ _ => (dc_own (d_is_number T sy) (A.room.mono (by decide)) A.guard takes0 rfl (da_cons (de_var 1) da_nil)))) da_nil))))))) (dss_one (ds_ret [] dk_B)) dss_nil)
    (dss_cons (ds_if [0] (dt_w (dw_or (dt_not (dt_val (dc_own (d_are_pairs T sy) (A.room.mono (by decide)) A.guard A.tk rfl (da_cons (de_ix (de_var 0) dk_I) (da_cons (dc_len T.n_len rfl (da_cons (de_ix (de_var 0) dk_I) da_nil)) da_nil))))) (dw_or1 (dt_not (dt_val (dc_own (d_are_pairs T sy) (A.room.mono (by decide)) A.guard A.tk rfl (da_cons (de_ix (de_var 0) dk_I) (da_cons (dc_len T.n_len rfl (da_cons (de_ix (de_var 0) dk_I) da_nil)) da_nil)))))))) (dss_one (ds_ret [] dk_B)) dss_nil)
    (dss_one (ds_ret [0, 2] (de_not (dc_any rfl T.n_any rfl (da_cons (de_lc (own := [("pair", 2)]) rfl sc_is_party.nd (by exact blkOk_by (N := ["thing", "number", "pair"]) (sc := defScope (top 10)) (own := [("pair", 2)]) (by decide +kernel)) (di_seq (de_ix (de_var 0) dk_I)) (fun _ _ _ _ _ => (dg_name 2 sc_is_party.nd rfl (Or.inl rfl))) (fun _ _ _ _ _ => dts_nil) (fun _ _ _ _ _ => (de_in A.room (de_var 2) (de_ix (de_var 0) dk_I)))) da_nil))))))))
theorem pot_made (T : Txt K mg) (sy : SysIn base) (hpot : PotOk b__law_pot_of) :
    ∃ f fd, mg "_law_pot_of" = some (.ref f) ∧ PySem.W.keepIn K (.ref f) = true ∧ L2.Binds K fd ["script"] [] ∧ FnG P w K mg base 2 f fd ["script"] (spPot K) := by
  obtain ⟨f, fd, hm, Fx, hb⟩ := T.f__law_pot_of
  refine ⟨f, fd, hm, Fx.kp, hb, fnG_of (N := ["script", "cells", "cell", "place"]) Fx sc__law_pot_of (fun vs H Q E z => by obtain ⟨a, ns, rfl, _⟩ := z; rfl) fun cd A0 ou s H vs Q E room guard z => ?_⟩
  obtain ⟨raw, ns, rfl, hS, q⟩ := z
  have A : Ar (cxOf (L2.CX P w) P w K mg base ["script", "cells", "cell", "place"] "_law_pot_of" (defScope (top 13)) f cd A0 ou s H E) (fun cls d _ H => E cls d H) 1 := ⟨⟨room, guard, takes_of rfl rfl rfl rfl, passes_of rfl⟩, sy⟩
  exact ⟨_, (dss_cons (ds_asgLc (own := [("cell", 2)]) [0, 2] 1 rfl sc__law_pot_of.nd rfl rfl (sw_true rfl rfl rfl (by decide +kernel)) (by exact blkOk_by (N := ["script", "cells", "cell", "place"]) (sc := defScope (top 13)) (own := [("cell", 2)]) (by decide +kernel)) (di_seq (de_cutR (c := ⟨none, H, fun _ => none⟩) hS (fun _ _ e => nomatch e) (de_var 0) do_none (do_some dk_I))) (fun _ _ _ _ _ => (dg_name 2 sc__law_pot_of.nd rfl (Or.inl rfl))) (fun _ _ _ _ _ => dts_nil) (fun _ _ _ _ _ => (dc_abs T.n_abs rfl (da_cons (de_var 2) da_nil))))
    (dss_cons (ds_for [0] A.own rfl (di_enum rfl T.n_enumerate (de_cutR (c := ⟨none, H, fun _ => none⟩) hS (fun _ _ e => nomatch e) (de_var 0) (do_some dk_I) (do_some dk_I))) (dg_tup rfl (.cons (pg_name (i := 3) sc__law_pot_of.nd rfl (Or.inl rfl)) (.cons (pg_name (i := 2) sc__law_pot_of.nd rfl (Or.inl rfl)) DGN.nil)) (pgs_cons (pg_name (i := 3) sc__law_pot_of.nd rfl (Or.inl rfl)) (pgs_cons (pg_name (i := 2) sc__law_pot_of.nd rfl (Or.inl rfl)) pgs_nil))) (dss_one (ds_sto [1, 2, 3] [3] 1 (de_add (de_ix (de_var 1) (de_mod (de_var 3) dk_I)) (dc_abs T.n_abs rfl (da_cons (de_var 2) da_nil))) (de_mod (de_var 3) dk_I))))
    (dss_one (ds_ret [1] (de_ls (da_cons (de_var 1) (da_cons dk_I (da_cons dk_I (da_cons dk_I da_nil))))))))), pot_post (N := ["script", "cells", "cell", "place"]) (Wx := fun cls d _ H => E cls d H) q (by decide) (hpot.run raw ns)⟩
theorem law_made (T : Txt K mg) (sy : SysIn base) (hpot : PotOk b__law_pot_of)
    (hlaw : LawOk b_law 10) {f : Addr} {fd : FuncData} (Fx : L2.Fun K "law" "law" (top 24) f fd) : FnG P w K mg base 8 f fd ["script"] (spLaw K) := by
  obtain ⟨fp, fdp, hmp, hkp, hbp, Fp⟩ := pot_made (P := P) (w := w) T sy hpot
  refine fnG_of (N := ["script", "pot", "turn", "party", "first", "second", "odd", "some", "thing", "before"]) Fx sc_law (fun vs H Q E z => by obtain ⟨a, ns, rfl, _⟩ := z; rfl) fun cd A0 ou s H vs Q E room guard z => ?_
  have A : Ar (cxOf (L2.CX P w) P w K mg base ["script", "pot", "turn", "party", "first", "second", "odd", "some", "thing", "before"] "law" (defScope (top 24)) f cd A0 ou s H E) (fun cls d _ H => E cls d H) 7 := ⟨⟨room, guard, takes_of rfl rfl rfl rfl, passes_of rfl⟩, sy⟩
  exact ⟨_, pss_cons (ps_set (i := 1) sc_law.nd rfl (Or.inl rfl) (pe_callG Fp (room.mono (by decide)) guard rfl hmp hkp hbp (Wx := fun cls d _ H => E cls d H) (takes_of rfl rfl rfl rfl) (pa_cons (pe_var (i := 0) rfl (Or.inl rfl)) pa_nil)))
    (pss_ex fun c => (dss_cons (ds_for [] A.own rfl (di_rng1 rfl T.n_range dk_I) (dg_name 2 sc_law.nd rfl (Or.inl rfl)) (dss_cons (ds_asg [1] 3 sc_law.nd rfl (Or.inl rfl) (dc_own (d__law_some_party T sy) (A.room.mono (by decide)) A.guard A.tk rfl (da_cons (de_var 1) (da_cons dk_I da_nil))))
    (dss_cons (ds_asg [1, 3] 4 sc_law.nd rfl (Or.inl rfl) (dc_own (d__law_spoilt T sy) (A.room.mono (by decide)) A.guard A.tk rfl (da_cons (de_var 1) (da_cons (de_var 3) da_nil))))
    (dss_cons (ds_asg [1, 4] 5 sc_law.nd rfl (Or.inl rfl) (de_if (dt_val (dc_own (d__law_is_party T sy) (A.room.mono (by decide)) A.guard A.tk rfl (da_cons (de_var 4) da_nil))) (dc_own (d__law_spoilt T sy) (A.room.mono (by decide)) A.guard A.tk rfl (da_cons (de_var 1) (da_cons (de_var 4) da_nil))) (de_var 4)))
    (dss_cons (ds_asg [1] 6 sc_law.nd rfl (Or.inl rfl) (dc_own (d__law_pick T sy) (A.room.mono (by decide)) A.guard A.tk rfl (da_cons (de_var 1) (da_cons (de_ls (da_cons dk_I (da_cons dk_B (da_cons (de_sub dk_I dk_I) (da_cons dk_S (da_cons (de_pow dk_I dk_I) da_nil)))))) da_nil))))
    (dss_cons (ds_asg [3, 6] 7 sc_law.nd rfl (Or.inl rfl) (de_ls (da_cons (de_tp (da_cons (de_mul (de_tp (da_cons (de_var 6) da_nil)) (dc_len T.n_len rfl (da_cons (de_ix (de_var 3) dk_I) da_nil))) (da_cons (de_ix (de_var 3) dk_I) (da_cons (de_ix (de_var 3) dk_I) da_nil)))) (da_cons (de_tp (da_cons (de_ix (de_var 3) dk_I) (da_cons (dc_list T.n_list rfl (da_cons (de_ix (de_var 3) dk_I) da_nil)) (da_cons (dc_list T.n_list rfl (da_cons (de_ix (de_var 3) dk_I) da_nil)) da_nil)))) da_nil))))
    (dss_cons (ds_app [3] 7 (de_tp (da_cons (de_ix (de_var 3) dk_I) (da_cons (de_add (de_ix (de_var 3) dk_I) (de_tp (da_cons dk_N da_nil))) (da_cons (de_add (de_ix (de_var 3) dk_I) (de_tp (da_cons (de_tp (da_cons dk_I da_nil)) da_nil))) da_nil)))))
    (dss_one (ds_for [3, 4, 5, 7] A.own rfl (di_seq (de_add (de_var 7) (de_ls (da_cons (de_var 3) (da_cons (de_var 4) (da_cons (de_var 5) (da_cons dk_N (da_cons (de_tp da_nil) (da_cons (de_ls da_nil) (da_cons dk_D0 (da_cons dk_S (da_cons dk_I (da_cons (de_tp (da_cons (de_tp da_nil) (da_cons (de_tp da_nil) (da_cons (de_tp da_nil) da_nil)))) (da_cons (de_tp (da_cons (de_tp (da_cons dk_N da_nil)) (da_cons (de_tp da_nil) (da_cons (de_tp da_nil) da_nil)))) da_nil)))))))))))))) (dg_name 8 sc_law.nd rfl (Or.inl rfl)) (dss_cons (ds_asg [8] 9 sc_law.nd rfl (Or.inl rfl) (dc_repr A.room A.guard A.sys T.n_repr rfl (da_cons (de_var 8) da_nil)))
    (dss_one (ds_if [8, 9] (dt_w (dw_or (dt_ne A.room (dc_repr A.room A.guard A.sys T.n_repr rfl (da_cons (dc_own (d_is_party T sy) (A.room.mono (by decide)) A.guard A.tk rfl (da_cons (de_var 8) da_nil)) da_nil)) (dc_repr A.room A.guard A.sys T.n_repr rfl (da_cons (dc_own (d__law_is_party T sy) (A.room.mono (by decide)) A.guard A.tk rfl (da_cons (de_var 8) da_nil)) da_nil))) (dw_or1 (dt_ne A.room (dc_repr A.room A.guard A.sys T.n_repr rfl (da_cons (de_var 8) da_nil)) (de_var 9))))) (dss_one (ds_ret [] dk_B)) dss_nil))))))))))))
    (dss_one (ds_ret [] dk_B)))), law_post (g := b_law) (N := ["script", "pot", "turn", "party", "first", "second", "odd", "some", "thing", "before"]) (n := 10) rfl (by decide) z hlaw⟩
def fn : List He.DefD := [⟨("is_integer", none), "is_integer", "is_integer", defArgs (top 1), defBody (top 1), defScope (top 1), [], []⟩, ⟨("is_count", none), "is_count", "is_count", defArgs (top 2), defBody (top 2), defScope (top 2), [], []⟩, ⟨("is_rising", none), "is_rising", "is_rising", defArgs (top 3), defBody (top 3), defScope (top 3), [], []⟩, ⟨("is_pair", none), "is_pair", "is_pair", defArgs (top 7), defBody (top 7), defScope (top 7), [], []⟩, ⟨("are_pairs", none), "are_pairs", "are_pairs", defArgs (top 8), defBody (top 8), defScope (top 8), [], []⟩, ⟨("is_number", none), "is_number", "is_number", defArgs (top 9), defBody (top 9), defScope (top 9), [], []⟩, ⟨("is_party", none), "is_party", "is_party", defArgs (top 10), defBody (top 10), defScope (top 10), [], []⟩, ⟨("_law_kneaded", none), "_law_kneaded", "_law_kneaded", defArgs (top 12), defBody (top 12), defScope (top 12), [], []⟩, ⟨("_law_pot_of", none), "_law_pot_of", "_law_pot_of", defArgs (top 13), defBody (top 13), defScope (top 13), [], []⟩, ⟨("_law_below", none), "_law_below", "_law_below", defArgs (top 14), defBody (top 14), defScope (top 14), [], []⟩, ⟨("_law_pick", none), "_law_pick", "_law_pick", defArgs (top 15), defBody (top 15), defScope (top 15), [], []⟩, ⟨("_law_pairs", none), "_law_pairs", "_law_pairs", defArgs (top 16), defBody (top 16), defScope (top 16), [], []⟩, ⟨("_law_some_party", none), "_law_some_party", "_law_some_party", defArgs (top 17), defBody (top 17), defScope (top 17), [], []⟩, ⟨("_law_number", none), "_law_number", "_law_number", defArgs (top 18), defBody (top 18), defScope (top 18), [], []⟩, ⟨("_law_is_pair", none), "_law_is_pair", "_law_is_pair", defArgs (top 19), defBody (top 19), defScope (top 19), [], []⟩, ⟨("_law_is_row", none), "_law_is_row", "_law_is_row", defArgs (top 20), defBody (top 20), defScope (top 20), [], []⟩, ⟨("_law_is_party", none), "_law_is_party", "_law_is_party", defArgs (top 21), defBody (top 21), defScope (top 21), [], []⟩, ⟨("_law_muddled", none), "_law_muddled", "_law_muddled", defArgs (top 22), defBody (top 22), defScope (top 22), [], []⟩, ⟨("_law_spoilt", none), "_law_spoilt", "_law_spoilt", defArgs (top 23), defBody (top 23), defScope (top 23), [], []⟩, ⟨("law", none), "law", "law", defArgs (top 24), defBody (top 24), defScope (top 24), [], []⟩]
def fa : List He.Fa := [.glo "is_integer", .glo "is_count", .glo "is_rising", .glo "is_pair", .glo "are_pairs", .glo "is_number", .glo "is_party", .glo "_law_kneaded", .glo "_law_pot_of", .glo "_law_below", .glo "_law_pick", .glo "_law_pairs", .glo "_law_some_party", .glo "_law_number", .glo "_law_is_pair", .glo "_law_is_row", .glo "_law_is_party", .glo "_law_muddled", .glo "_law_spoilt", .glo "law", .free "abs", .free "all", .free "any", .free "bool", .free "enumerate", .free "int", .free "isinstance", .free "len", .free "list", .free "range", .free "repr", .free "tuple", .free "zip", .int "MAX_NUMBER" 20, .int "MAX_PERSONS" 8]
theorem txt_of {h : Heap} (X : K.In h) (G : h.Ns mainGlobals mg) (c : He.SaysD fa fn K) : Txt K mg :=
  ⟨(has_of X G c 0 0 rfl rfl fun _ _ _ _ _ _ us hl => match us, hl with | [_], _ => rfl),
   (has_of X G c 1 1 rfl rfl fun _ _ _ _ _ _ us hl => match us, hl with | [_], _ => rfl),
   (has_of X G c 2 2 rfl rfl fun _ _ _ _ _ _ us hl => match us, hl with | [_], _ => rfl),
   (has_of X G c 3 3 rfl rfl fun _ _ _ _ _ _ us hl => match us, hl with | [_, _], _ => rfl),
   (has_of X G c 4 4 rfl rfl fun _ _ _ _ _ _ us hl => match us, hl with | [_, _], _ => rfl),
   (has_of X G c 5 5 rfl rfl fun _ _ _ _ _ _ us hl => match us, hl with | [_], _ => rfl),
   (has_of X G c 6 6 rfl rfl fun _ _ _ _ _ _ us hl => match us, hl with | [_], _ => rfl),
   (has_of X G c 7 7 rfl rfl fun _ _ _ _ _ _ us hl => match us, hl with | [_, _], _ => rfl),
   (has_of X G c 8 8 rfl rfl fun _ _ _ _ _ _ us hl => match us, hl with | [_], _ => rfl),
   (has_of X G c 9 9 rfl rfl fun _ _ _ _ _ _ us hl => match us, hl with | [_, _], _ => rfl),
   (has_of X G c 10 10 rfl rfl fun _ _ _ _ _ _ us hl => match us, hl with | [_, _], _ => rfl),
   (has_of X G c 11 11 rfl rfl fun _ _ _ _ _ _ us hl => match us, hl with | [_], _ => rfl),
   (has_of X G c 12 12 rfl rfl fun _ _ _ _ _ _ us hl => match us, hl with | [_, _], _ => rfl),
   (has_of X G c 13 13 rfl rfl fun _ _ _ _ _ _ us hl => match us, hl with | [_, _, _], _ => rfl),
   (has_of X G c 14 14 rfl rfl fun _ _ _ _ _ _ us hl => match us, hl with | [_, _], _ => rfl),
   (has_of X G c 15 15 rfl rfl fun _ _ _ _ _ _ us hl => match us, hl with | [_, _], _ => rfl),
   (has_of X G c 16 16 rfl rfl fun _ _ _ _ _ _ us hl => match us, hl with | [_], _ => rfl),
   (has_of X G c 17 17 rfl rfl fun _ _ _ _ _ _ us hl => match us, hl with | [_, _, _], _ => rfl),
   (has_of X G c 18 18 rfl rfl fun _ _ _ _ _ _ us hl => match us, hl with | [_, _], _ => rfl),
   (has_of X G c 19 19 rfl rfl fun _ _ _ _ _ _ us hl => match us, hl with | [_], _ => rfl),
   (He.free_ok X G (c.fact 20 (f := .free "abs") rfl)),
   (He.free_ok X G (c.fact 21 (f := .free "all") rfl)),
   (He.free_ok X G (c.fact 22 (f := .free "any") rfl)),
   (He.free_ok X G (c.fact 23 (f := .free "bool") rfl)),
   (He.free_ok X G (c.fact 24 (f := .free "enumerate") rfl)),
   (He.free_ok X G (c.fact 25 (f := .free "int") rfl)),
   (He.free_ok X G (c.fact 26 (f := .free "isinstance") rfl)),
   (He.free_ok X G (c.fact 27 (f := .free "len") rfl)),
   (He.free_ok X G (c.fact 28 (f := .free "list") rfl)),
   (He.free_ok X G (c.fact 29 (f := .free "range") rfl)),
   (He.free_ok X G (c.fact 30 (f := .free "repr") rfl)),
   (He.free_ok X G (c.fact 31 (f := .free "tuple") rfl)),
   (He.free_ok X G (c.fact 32 (f := .free "zip") rfl)),
   (He.int_ok X G (c.fact 33 (f := .int "MAX_NUMBER" 20) rfl)),
   (He.int_ok X G (c.fact 34 (f := .int "MAX_PERSONS" 8) rfl))⟩
end
end Lw

namespace Lw
open PySem (PyData Addr Str)
open DL
theorem r_is_integer (d : D) : g_is_integer [.dat d] = .ok (.dat (.bool (isInt d))) := by
  cases d <;> simp only [g_is_integer, b_is_integer, DL.sel_true, DL.sel_false, DL.sel_self, DL.okb, DL.excb, DL.badb, DL.pickb, DL.okp, DL.pickp, DL.ddat, DL.down, DL.sdat, DL.sown, DL.sraw, DL.spot, DL.gdat, DL.gown, DL.graw, DL.gpot, DL.asBb, DL.asIi, DL.kBok, DL.noxok, DL.datas0, DL.frz1_own, DL.frz1_dat, DL.frz1_raw, DL.frz1_pot, DL.frz1_none, DL.frz1_nil, DL.frz1_succ, DL.frz_nil, DL.frz_cons, DL.rdv_dat, DL.rdv_raw, DL.rdv_pot, DL.rdv_succ, DL.rtnV_zero, DL.rtnV_succ, DL.ownAt_zero, DL.ownAt_succ, DL.startE_eq, DL.seq_e, DL.seqK_nx, DL.seqK_ret, DL.seqK_brk, DL.seqK_cont, DL.asg_e, DL.asgK_e, DL.rtn_e, DL.rtnK_e, DL.rtnN_e, DL.exs_e, DL.exsK_e, DL.ifs_e, DL.ifsK_true, DL.ifsK_false, DL.skip_e, DL.brkS_e, DL.contS_e, DL.badS_e, DL.body_e, DL.fin_ret, DL.fin_nx, DL.app1_e, DL.app1K_e, DL.app_e, DL.appO_e, DL.appW_e, DL.appD_e, DL.asg2_e, DL.asg2K_e, DL.asg2L_e, DL.unp_e, DL.unpW_e, DL.unpD_e, DL.goOn_some, DL.goOn_none, DL.bT_e, DL.setL_cons, DL.setL_nil, DL.bN_e, DL.sto1_e, DL.sto_e, DL.stoW_e, DL.stoD_e, DL.sto2_e, DL.sto2K_e, DL.sto2W_e, DL.sto2I_e, DL.sto1K_e, DL.atK_e, DL.ali_e, DL.aliK_true, DL.aliK_false, DL.ali1_e, DL.ali1B_e, DL.ali1O_e, DL.ali1W_e, DL.ali1D_e, DL.forS_e, DL.forK_e, DL.loopB_some, DL.loopK_nx, DL.loopK_cont, DL.loopK_brk, DL.loopK_ret, DL.bin2_e, DL.binK_e, DL.binL_e, DL.un1_e, DL.unK_e, DL.tst_e, DL.tand_e, DL.tandK_true, DL.tandK_false, DL.tor_e, DL.torK_true, DL.torK_false, DL.tnot_e, DL.notK_e, DL.vand_e, DL.vandK_e, DL.vandL_true, DL.vandL_false, DL.vor_e, DL.vorK_e, DL.vorL_true, DL.vorL_false, DL.vnot_e, DL.vnotK_e, DL.vnotL_e, DL.vif_e, DL.vifK_true, DL.vifK_false, DL.anil_e, DL.acons_e, DL.aconsK_e, DL.aconsL_e, DL.call_e, DL.ccall_e, DL.ccallK1, DL.ccallK2, DL.ccallK3, DL.ccallK4, DL.sub_e, DL.subK_e, DL.subH_e, DL.cutK_e, DL.cutL_e, DL.oN_e, DL.oS_e, DL.oSK_e, DL.oI_e, DL.rev_e, DL.revK_e, DL.tup_e, DL.lst_e, DL.mkTup_e, DL.mkLst_e, DL.tupD_e, DL.lstD_e, DL.datas_e, DL.datasK_e, DL.kN_e, DL.kB_e, DL.kI_e, DL.kS_e, DL.kT_e, DL.kD0_e, DL.chainI_e, DL.chA_e, DL.chB_e, DL.chI_e, DL.chJ_e, DL.chG_true, DL.chG_false, DL.chY_e, DL.chC_e, DL.sSeq_e, DL.seqSrc_e, DL.asItems_list, DL.asItems_tuple, DL.sRng1_e, DL.rngW_e, DL.rngI_e, DL.sRng2_e, DL.rngK_e, DL.rngWW_e, DL.rngWI_e, DL.rngJ_e, DL.sZip_e, DL.zipK_e, DL.zipW_e, DL.zipA_e, DL.zipD_list, DL.zipD_tuple, DL.sEnum_e, DL.enumW_e, DL.enumV_e, DL.asList_e, DL.enumL_e, DL.ownR_e, DL.lc_e, DL.tYes_e, List.map_cons, List.map_nil, List.nil_append, List.cons_append, List.length_cons, List.length_nil, List.set_cons_zero, List.set_cons_succ, ite_self, reduceIte, noL_none, noL_bool, noL_int, noL_str, noL_list, noL_tuple, noLs_nil, noLs_cons, Bool.true_and, Bool.false_and, Bool.and_true, Bool.and_self, Bool.false_eq_true, Bool.not_true, Bool.not_false, List.replicate_succ, List.replicate_zero, DL.opEq_e, DL.flip_e, DL.opNe_e, DL.opIn_e, DL.opNotIn_e, DL.opLt_e, DL.opAdd_e, DL.opMul_e, DL.opIx_e, DL.opIsN_e, DL.opNotN_e, DL.opNeg_e, DL.opLe_e, DL.opGt_e, DL.opGe_e, DL.opSub_e, DL.vLt_int, DL.vEq_int, DL.vAdd_int, DL.vAdd_list, DL.vAdd_tuple, DL.vLen_tuple, DL.vLen_list, DL.vInt_int, DL.vTuple_list, DL.vTuple_tuple, DL.vList_list, DL.vList_tuple, DL.vRev_list, DL.vRev_tuple, DL.vCut_list, DL.vCut_tuple, DL.f1_e, DL.f2_e, DL.isNon_none, DL.isNon_int, DL.isi_int, DL.isi_bool, DL.isi_tuple, DL.isi_list, DL.isi_str, DL.isi_dict, isI, isB, isInt]
theorem r_is_count (d : D) : g_is_count [.dat d] = .ok (.dat (.bool (isCnt d))) := by
  cases d <;> simp only [g_is_count, b_is_count, DL.sel_true, DL.sel_false, DL.sel_self, DL.okb, DL.excb, DL.badb, DL.pickb, DL.okp, DL.pickp, DL.ddat, DL.down, DL.sdat, DL.sown, DL.sraw, DL.spot, DL.gdat, DL.gown, DL.graw, DL.gpot, DL.asBb, DL.asIi, DL.kBok, DL.noxok, DL.datas0, DL.frz1_own, DL.frz1_dat, DL.frz1_raw, DL.frz1_pot, DL.frz1_none, DL.frz1_nil, DL.frz1_succ, DL.frz_nil, DL.frz_cons, DL.rdv_dat, DL.rdv_raw, DL.rdv_pot, DL.rdv_succ, DL.rtnV_zero, DL.rtnV_succ, DL.ownAt_zero, DL.ownAt_succ, DL.startE_eq, DL.seq_e, DL.seqK_nx, DL.seqK_ret, DL.seqK_brk, DL.seqK_cont, DL.asg_e, DL.asgK_e, DL.rtn_e, DL.rtnK_e, DL.rtnN_e, DL.exs_e, DL.exsK_e, DL.ifs_e, DL.ifsK_true, DL.ifsK_false, DL.skip_e, DL.brkS_e, DL.contS_e, DL.badS_e, DL.body_e, DL.fin_ret, DL.fin_nx, DL.app1_e, DL.app1K_e, DL.app_e, DL.appO_e, DL.appW_e, DL.appD_e, DL.asg2_e, DL.asg2K_e, DL.asg2L_e, DL.unp_e, DL.unpW_e, DL.unpD_e, DL.goOn_some, DL.goOn_none, DL.bT_e, DL.setL_cons, DL.setL_nil, DL.bN_e, DL.sto1_e, DL.sto_e, DL.stoW_e, DL.stoD_e, DL.sto2_e, DL.sto2K_e, DL.sto2W_e, DL.sto2I_e, DL.sto1K_e, DL.atK_e, DL.ali_e, DL.aliK_true, DL.aliK_false, DL.ali1_e, DL.ali1B_e, DL.ali1O_e, DL.ali1W_e, DL.ali1D_e, DL.forS_e, DL.forK_e, DL.loopB_some, DL.loopK_nx, DL.loopK_cont, DL.loopK_brk, DL.loopK_ret, DL.bin2_e, DL.binK_e, DL.binL_e, DL.un1_e, DL.unK_e, DL.tst_e, DL.tand_e, DL.tandK_true, DL.tandK_false, DL.tor_e, DL.torK_true, DL.torK_false, DL.tnot_e, DL.notK_e, DL.vand_e, DL.vandK_e, DL.vandL_true, DL.vandL_false, DL.vor_e, DL.vorK_e, DL.vorL_true, DL.vorL_false, DL.vnot_e, DL.vnotK_e, DL.vnotL_e, DL.vif_e, DL.vifK_true, DL.vifK_false, DL.anil_e, DL.acons_e, DL.aconsK_e, DL.aconsL_e, DL.call_e, DL.ccall_e, DL.ccallK1, DL.ccallK2, DL.ccallK3, DL.ccallK4, DL.sub_e, DL.subK_e, DL.subH_e, DL.cutK_e, DL.cutL_e, DL.oN_e, DL.oS_e, DL.oSK_e, DL.oI_e, DL.rev_e, DL.revK_e, DL.tup_e, DL.lst_e, DL.mkTup_e, DL.mkLst_e, DL.tupD_e, DL.lstD_e, DL.datas_e, DL.datasK_e, DL.kN_e, DL.kB_e, DL.kI_e, DL.kS_e, DL.kT_e, DL.kD0_e, DL.chainI_e, DL.chA_e, DL.chB_e, DL.chI_e, DL.chJ_e, DL.chG_true, DL.chG_false, DL.chY_e, DL.chC_e, DL.sSeq_e, DL.seqSrc_e, DL.asItems_list, DL.asItems_tuple, DL.sRng1_e, DL.rngW_e, DL.rngI_e, DL.sRng2_e, DL.rngK_e, DL.rngWW_e, DL.rngWI_e, DL.rngJ_e, DL.sZip_e, DL.zipK_e, DL.zipW_e, DL.zipA_e, DL.zipD_list, DL.zipD_tuple, DL.sEnum_e, DL.enumW_e, DL.enumV_e, DL.asList_e, DL.enumL_e, DL.ownR_e, DL.lc_e, DL.tYes_e, List.map_cons, List.map_nil, List.nil_append, List.cons_append, List.length_cons, List.length_nil, List.set_cons_zero, List.set_cons_succ, ite_self, reduceIte, noL_none, noL_bool, noL_int, noL_str, noL_list, noL_tuple, noLs_nil, noLs_cons, Bool.true_and, Bool.false_and, Bool.and_true, Bool.and_self, Bool.false_eq_true, Bool.not_true, Bool.not_false, List.replicate_succ, List.replicate_zero, DL.opEq_e, DL.flip_e, DL.opNe_e, DL.opIn_e, DL.opNotIn_e, DL.opLt_e, DL.opAdd_e, DL.opMul_e, DL.opIx_e, DL.opIsN_e, DL.opNotN_e, DL.opNeg_e, DL.opLe_e, DL.opGt_e, DL.opGe_e, DL.opSub_e, DL.vLt_int, DL.vEq_int, DL.vAdd_int, DL.vAdd_list, DL.vAdd_tuple, DL.vLen_tuple, DL.vLen_list, DL.vInt_int, DL.vTuple_list, DL.vTuple_tuple, DL.vList_list, DL.vList_tuple, DL.vRev_list, DL.vRev_tuple, DL.vCut_list, DL.vCut_tuple, DL.f1_e, DL.f2_e, DL.isNon_none, DL.isNon_int, DL.isi_int, DL.isi_bool, DL.isi_tuple, DL.isi_list, DL.isi_str, DL.isi_dict, r_is_integer, isInt, isCnt]
theorem r_is_rising (d : D) (hd : (itm d).length ≤ 1000000) : g_is_rising [.dat d] = .ok (.dat (.bool (isRis d))) := by
  cases d with
  | tuple xs =>
    have hd : xs.length ≤ 1000000 := hd
    have c1 : ∀ ρ : En, ρ = [some (.dat (.tuple xs)), none, none] → lcK [1] (bN 1) tYes (ccall 1 g_is_count (acons (rdv 1) anil)) ρ xs = .ok (.own (xs.map fun d => .bool (isCnt d))) := by
      intro ρ e
      subst e
      refine lcK_map _ hd fun x hx => ⟨_, rfl, rfl, ?_⟩
      simp only [wipeE, DL.sel_true, DL.sel_false, DL.sel_self, DL.okb, DL.excb, DL.badb, DL.pickb, DL.okp, DL.pickp, DL.ddat, DL.down, DL.sdat, DL.sown, DL.sraw, DL.spot, DL.gdat, DL.gown, DL.graw, DL.gpot, DL.asBb, DL.asIi, DL.kBok, DL.noxok, DL.datas0, DL.frz1_own, DL.frz1_dat, DL.frz1_raw, DL.frz1_pot, DL.frz1_none, DL.frz1_nil, DL.frz1_succ, DL.frz_nil, DL.frz_cons, DL.rdv_dat, DL.rdv_raw, DL.rdv_pot, DL.rdv_succ, DL.rtnV_zero, DL.rtnV_succ, DL.ownAt_zero, DL.ownAt_succ, DL.startE_eq, DL.seq_e, DL.seqK_nx, DL.seqK_ret, DL.seqK_brk, DL.seqK_cont, DL.asg_e, DL.asgK_e, DL.rtn_e, DL.rtnK_e, DL.rtnN_e, DL.exs_e, DL.exsK_e, DL.ifs_e, DL.ifsK_true, DL.ifsK_false, DL.skip_e, DL.brkS_e, DL.contS_e, DL.badS_e, DL.body_e, DL.fin_ret, DL.fin_nx, DL.app1_e, DL.app1K_e, DL.app_e, DL.appO_e, DL.appW_e, DL.appD_e, DL.asg2_e, DL.asg2K_e, DL.asg2L_e, DL.unp_e, DL.unpW_e, DL.unpD_e, DL.goOn_some, DL.goOn_none, DL.bT_e, DL.setL_cons, DL.setL_nil, DL.bN_e, DL.sto1_e, DL.sto_e, DL.stoW_e, DL.stoD_e, DL.sto2_e, DL.sto2K_e, DL.sto2W_e, DL.sto2I_e, DL.sto1K_e, DL.atK_e, DL.ali_e, DL.aliK_true, DL.aliK_false, DL.ali1_e, DL.ali1B_e, DL.ali1O_e, DL.ali1W_e, DL.ali1D_e, DL.forS_e, DL.forK_e, DL.loopB_some, DL.loopK_nx, DL.loopK_cont, DL.loopK_brk, DL.loopK_ret, DL.bin2_e, DL.binK_e, DL.binL_e, DL.un1_e, DL.unK_e, DL.tst_e, DL.tand_e, DL.tandK_true, DL.tandK_false, DL.tor_e, DL.torK_true, DL.torK_false, DL.tnot_e, DL.notK_e, DL.vand_e, DL.vandK_e, DL.vandL_true, DL.vandL_false, DL.vor_e, DL.vorK_e, DL.vorL_true, DL.vorL_false, DL.vnot_e, DL.vnotK_e, DL.vnotL_e, DL.vif_e, DL.vifK_true, DL.vifK_false, DL.anil_e, DL.acons_e, DL.aconsK_e, DL.aconsL_e, DL.call_e, DL.ccall_e, DL.ccallK1, DL.ccallK2, DL.ccallK3, DL.ccallK4, DL.sub_e, DL.subK_e, DL.subH_e, DL.cutK_e, DL.cutL_e, DL.oN_e, DL.oS_e, DL.oSK_e, DL.oI_e, DL.rev_e, DL.revK_e, DL.tup_e, DL.lst_e, DL.mkTup_e, DL.mkLst_e, DL.tupD_e, DL.lstD_e, DL.datas_e, DL.datasK_e, DL.kN_e, DL.kB_e, DL.kI_e, DL.kS_e, DL.kT_e, DL.kD0_e, DL.chainI_e, DL.chA_e, DL.chB_e, DL.chI_e, DL.chJ_e, DL.chG_true, DL.chG_false, DL.chY_e, DL.chC_e, DL.sSeq_e, DL.seqSrc_e, DL.asItems_list, DL.asItems_tuple, DL.sRng1_e, DL.rngW_e, DL.rngI_e, DL.sRng2_e, DL.rngK_e, DL.rngWW_e, DL.rngWI_e, DL.rngJ_e, DL.sZip_e, DL.zipK_e, DL.zipW_e, DL.zipA_e, DL.zipD_list, DL.zipD_tuple, DL.sEnum_e, DL.enumW_e, DL.enumV_e, DL.asList_e, DL.enumL_e, DL.ownR_e, DL.lc_e, DL.tYes_e, List.map_cons, List.map_nil, List.nil_append, List.cons_append, List.length_cons, List.length_nil, List.set_cons_zero, List.set_cons_succ, ite_self, reduceIte, noL_none, noL_bool, noL_int, noL_str, noL_list, noL_tuple, noLs_nil, noLs_cons, Bool.true_and, Bool.false_and, Bool.and_true, Bool.and_self, Bool.false_eq_true, Bool.not_true, Bool.not_false, List.replicate_succ, List.replicate_zero, DL.opEq_e, DL.flip_e, DL.opNe_e, DL.opIn_e, DL.opNotIn_e, DL.opLt_e, DL.opAdd_e, DL.opMul_e, DL.opIx_e, DL.opIsN_e, DL.opNotN_e, DL.opNeg_e, DL.opLe_e, DL.opGt_e, DL.opGe_e, DL.opSub_e, DL.vLt_int, DL.vEq_int, DL.vAdd_int, DL.vAdd_list, DL.vAdd_tuple, DL.vLen_tuple, DL.vLen_list, DL.vInt_int, DL.vTuple_list, DL.vTuple_tuple, DL.vList_list, DL.vList_tuple, DL.vRev_list, DL.vRev_tuple, DL.vCut_list, DL.vCut_tuple, DL.f1_e, DL.f2_e, DL.isNon_none, DL.isNon_int, DL.isi_int, DL.isi_bool, DL.isi_tuple, DL.isi_list, DL.isi_str, DL.isi_dict, r_is_count]
    cases hc : xs.all isCnt with
    | false =>
      simp only [g_is_rising, b_is_rising, DL.sel_true, DL.sel_false, DL.sel_self, DL.okb, DL.excb, DL.badb, DL.pickb, DL.okp, DL.pickp, DL.ddat, DL.down, DL.sdat, DL.sown, DL.sraw, DL.spot, DL.gdat, DL.gown, DL.graw, DL.gpot, DL.asBb, DL.asIi, DL.kBok, DL.noxok, DL.datas0, DL.frz1_own, DL.frz1_dat, DL.frz1_raw, DL.frz1_pot, DL.frz1_none, DL.frz1_nil, DL.frz1_succ, DL.frz_nil, DL.frz_cons, DL.rdv_dat, DL.rdv_raw, DL.rdv_pot, DL.rdv_succ, DL.rtnV_zero, DL.rtnV_succ, DL.ownAt_zero, DL.ownAt_succ, DL.startE_eq, DL.seq_e, DL.seqK_nx, DL.seqK_ret, DL.seqK_brk, DL.seqK_cont, DL.asg_e, DL.asgK_e, DL.rtn_e, DL.rtnK_e, DL.rtnN_e, DL.exs_e, DL.exsK_e, DL.ifs_e, DL.ifsK_true, DL.ifsK_false, DL.skip_e, DL.brkS_e, DL.contS_e, DL.badS_e, DL.body_e, DL.fin_ret, DL.fin_nx, DL.app1_e, DL.app1K_e, DL.app_e, DL.appO_e, DL.appW_e, DL.appD_e, DL.asg2_e, DL.asg2K_e, DL.asg2L_e, DL.unp_e, DL.unpW_e, DL.unpD_e, DL.goOn_some, DL.goOn_none, DL.bT_e, DL.setL_cons, DL.setL_nil, DL.bN_e, DL.sto1_e, DL.sto_e, DL.stoW_e, DL.stoD_e, DL.sto2_e, DL.sto2K_e, DL.sto2W_e, DL.sto2I_e, DL.sto1K_e, DL.atK_e, DL.ali_e, DL.aliK_true, DL.aliK_false, DL.ali1_e, DL.ali1B_e, DL.ali1O_e, DL.ali1W_e, DL.ali1D_e, DL.forS_e, DL.forK_e, DL.loopB_some, DL.loopK_nx, DL.loopK_cont, DL.loopK_brk, DL.loopK_ret, DL.bin2_e, DL.binK_e, DL.binL_e, DL.un1_e, DL.unK_e, DL.tst_e, DL.tand_e, DL.tandK_true, DL.tandK_false, DL.tor_e, DL.torK_true, DL.torK_false, DL.tnot_e, DL.notK_e, DL.vand_e, DL.vandK_e, DL.vandL_true, DL.vandL_false, DL.vor_e, DL.vorK_e, DL.vorL_true, DL.vorL_false, DL.vnot_e, DL.vnotK_e, DL.vnotL_e, DL.vif_e, DL.vifK_true, DL.vifK_false, DL.anil_e, DL.acons_e, DL.aconsK_e, DL.aconsL_e, DL.call_e, DL.ccall_e, DL.ccallK1, DL.ccallK2, DL.ccallK3, DL.ccallK4, DL.sub_e, DL.subK_e, DL.subH_e, DL.cutK_e, DL.cutL_e, DL.oN_e, DL.oS_e, DL.oSK_e, DL.oI_e, DL.rev_e, DL.revK_e, DL.tup_e, DL.lst_e, DL.mkTup_e, DL.mkLst_e, DL.tupD_e, DL.lstD_e, DL.datas_e, DL.datasK_e, DL.kN_e, DL.kB_e, DL.kI_e, DL.kS_e, DL.kT_e, DL.kD0_e, DL.chainI_e, DL.chA_e, DL.chB_e, DL.chI_e, DL.chJ_e, DL.chG_true, DL.chG_false, DL.chY_e, DL.chC_e, DL.sSeq_e, DL.seqSrc_e, DL.asItems_list, DL.asItems_tuple, DL.sRng1_e, DL.rngW_e, DL.rngI_e, DL.sRng2_e, DL.rngK_e, DL.rngWW_e, DL.rngWI_e, DL.rngJ_e, DL.sZip_e, DL.zipK_e, DL.zipW_e, DL.zipA_e, DL.zipD_list, DL.zipD_tuple, DL.sEnum_e, DL.enumW_e, DL.enumV_e, DL.asList_e, DL.enumL_e, DL.ownR_e, DL.lc_e, DL.tYes_e, List.map_cons, List.map_nil, List.nil_append, List.cons_append, List.length_cons, List.length_nil, List.set_cons_zero, List.set_cons_succ, ite_self, reduceIte, noL_none, noL_bool, noL_int, noL_str, noL_list, noL_tuple, noLs_nil, noLs_cons, Bool.true_and, Bool.false_and, Bool.and_true, Bool.and_self, Bool.false_eq_true, Bool.not_true, Bool.not_false, List.replicate_succ, List.replicate_zero, DL.opEq_e, DL.flip_e, DL.opNe_e, DL.opIn_e, DL.opNotIn_e, DL.opLt_e, DL.opAdd_e, DL.opMul_e, DL.opIx_e, DL.opIsN_e, DL.opNotN_e, DL.opNeg_e, DL.opLe_e, DL.opGt_e, DL.opGe_e, DL.opSub_e, DL.vLt_int, DL.vEq_int, DL.vAdd_int, DL.vAdd_list, DL.vAdd_tuple, DL.vLen_tuple, DL.vLen_list, DL.vInt_int, DL.vTuple_list, DL.vTuple_tuple, DL.vList_list, DL.vList_tuple, DL.vRev_list, DL.vRev_tuple, DL.vCut_list, DL.vCut_tuple, DL.f1_e, DL.f2_e, DL.isNon_none, DL.isNon_int, DL.isi_int, DL.isi_bool, DL.isi_tuple, DL.isi_list, DL.isi_str, DL.isi_dict, isRis, isT, c1, all_bools, hc]
    | true =>
      have c2 : ∀ ρ : En, ρ = [some (.dat (.tuple xs)), none, none] → lcK [1, 2] (bT [1, 2]) tYes (bin2 opLt (rdv 1) (rdv 2)) ρ (List.zipWith pairD (cutD xs none (some (-1))) (cutD xs (some 1) none)) = .ok (.own ((List.zipWith pairD xs (xs.drop 1)).map fun d => .bool (ltD (fst' d) (snd' d)))) := by
        intro ρ e
        subst e
        rw [cutD_init, show ((1 : Int)) = ((1 : Nat) : Int) from rfl, cutD_from, zip_init]
        refine lcK_map _ (by rw [List.length_zipWith]; omega) fun z hz => ?_
        obtain ⟨x, y, hx, hy, rfl⟩ := zip_mem hz
        refine ⟨_, rfl, rfl, ?_⟩
        have hx2 := List.all_eq_true.mp hc x hx
        have hy2 := List.all_eq_true.mp hc y (List.mem_of_mem_drop hy)
        cases x <;> simp only [isCnt, Bool.false_eq_true] at hx2
        cases y <;> simp only [isCnt, Bool.false_eq_true] at hy2
        simp only [wipeE, DL.sel_true, DL.sel_false, DL.sel_self, DL.okb, DL.excb, DL.badb, DL.pickb, DL.okp, DL.pickp, DL.ddat, DL.down, DL.sdat, DL.sown, DL.sraw, DL.spot, DL.gdat, DL.gown, DL.graw, DL.gpot, DL.asBb, DL.asIi, DL.kBok, DL.noxok, DL.datas0, DL.frz1_own, DL.frz1_dat, DL.frz1_raw, DL.frz1_pot, DL.frz1_none, DL.frz1_nil, DL.frz1_succ, DL.frz_nil, DL.frz_cons, DL.rdv_dat, DL.rdv_raw, DL.rdv_pot, DL.rdv_succ, DL.rtnV_zero, DL.rtnV_succ, DL.ownAt_zero, DL.ownAt_succ, DL.startE_eq, DL.seq_e, DL.seqK_nx, DL.seqK_ret, DL.seqK_brk, DL.seqK_cont, DL.asg_e, DL.asgK_e, DL.rtn_e, DL.rtnK_e, DL.rtnN_e, DL.exs_e, DL.exsK_e, DL.ifs_e, DL.ifsK_true, DL.ifsK_false, DL.skip_e, DL.brkS_e, DL.contS_e, DL.badS_e, DL.body_e, DL.fin_ret, DL.fin_nx, DL.app1_e, DL.app1K_e, DL.app_e, DL.appO_e, DL.appW_e, DL.appD_e, DL.asg2_e, DL.asg2K_e, DL.asg2L_e, DL.unp_e, DL.unpW_e, DL.unpD_e, DL.goOn_some, DL.goOn_none, DL.bT_e, DL.setL_cons, DL.setL_nil, DL.bN_e, DL.sto1_e, DL.sto_e, DL.stoW_e, DL.stoD_e, DL.sto2_e, DL.sto2K_e, DL.sto2W_e, DL.sto2I_e, DL.sto1K_e, DL.atK_e, DL.ali_e, DL.aliK_true, DL.aliK_false, DL.ali1_e, DL.ali1B_e, DL.ali1O_e, DL.ali1W_e, DL.ali1D_e, DL.forS_e, DL.forK_e, DL.loopB_some, DL.loopK_nx, DL.loopK_cont, DL.loopK_brk, DL.loopK_ret, DL.bin2_e, DL.binK_e, DL.binL_e, DL.un1_e, DL.unK_e, DL.tst_e, DL.tand_e, DL.tandK_true, DL.tandK_false, DL.tor_e, DL.torK_true, DL.torK_false, DL.tnot_e, DL.notK_e, DL.vand_e, DL.vandK_e, DL.vandL_true, DL.vandL_false, DL.vor_e, DL.vorK_e, DL.vorL_true, DL.vorL_false, DL.vnot_e, DL.vnotK_e, DL.vnotL_e, DL.vif_e, DL.vifK_true, DL.vifK_false, DL.anil_e, DL.acons_e, DL.aconsK_e, DL.aconsL_e, DL.call_e, DL.ccall_e, DL.ccallK1, DL.ccallK2, DL.ccallK3, DL.ccallK4, DL.sub_e, DL.subK_e, DL.subH_e, DL.cutK_e, DL.cutL_e, DL.oN_e, DL.oS_e, DL.oSK_e, DL.oI_e, DL.rev_e, DL.revK_e, DL.tup_e, DL.lst_e, DL.mkTup_e, DL.mkLst_e, DL.tupD_e, DL.lstD_e, DL.datas_e, DL.datasK_e, DL.kN_e, DL.kB_e, DL.kI_e, DL.kS_e, DL.kT_e, DL.kD0_e, DL.chainI_e, DL.chA_e, DL.chB_e, DL.chI_e, DL.chJ_e, DL.chG_true, DL.chG_false, DL.chY_e, DL.chC_e, DL.sSeq_e, DL.seqSrc_e, DL.asItems_list, DL.asItems_tuple, DL.sRng1_e, DL.rngW_e, DL.rngI_e, DL.sRng2_e, DL.rngK_e, DL.rngWW_e, DL.rngWI_e, DL.rngJ_e, DL.sZip_e, DL.zipK_e, DL.zipW_e, DL.zipA_e, DL.zipD_list, DL.zipD_tuple, DL.sEnum_e, DL.enumW_e, DL.enumV_e, DL.asList_e, DL.enumL_e, DL.ownR_e, DL.lc_e, DL.tYes_e, List.map_cons, List.map_nil, List.nil_append, List.cons_append, List.length_cons, List.length_nil, List.set_cons_zero, List.set_cons_succ, ite_self, reduceIte, noL_none, noL_bool, noL_int, noL_str, noL_list, noL_tuple, noLs_nil, noLs_cons, Bool.true_and, Bool.false_and, Bool.and_true, Bool.and_self, Bool.false_eq_true, Bool.not_true, Bool.not_false, List.replicate_succ, List.replicate_zero, DL.opEq_e, DL.flip_e, DL.opNe_e, DL.opIn_e, DL.opNotIn_e, DL.opLt_e, DL.opAdd_e, DL.opMul_e, DL.opIx_e, DL.opIsN_e, DL.opNotN_e, DL.opNeg_e, DL.opLe_e, DL.opGt_e, DL.opGe_e, DL.opSub_e, DL.vLt_int, DL.vEq_int, DL.vAdd_int, DL.vAdd_list, DL.vAdd_tuple, DL.vLen_tuple, DL.vLen_list, DL.vInt_int, DL.vTuple_list, DL.vTuple_tuple, DL.vList_list, DL.vList_tuple, DL.vRev_list, DL.vRev_tuple, DL.vCut_list, DL.vCut_tuple, DL.f1_e, DL.f2_e, DL.isNon_none, DL.isNon_int, DL.isi_int, DL.isi_bool, DL.isi_tuple, DL.isi_list, DL.isi_str, DL.isi_dict, pairD, fst', snd', ltD]
      have c3 : vAll (.list ((List.zipWith pairD xs (xs.drop 1)).map fun d => .bool (ltD (fst' d) (snd' d)))) = .ok (.dat (.bool (adj xs))) := by
        rw [zip_adj, vAll_bools]
        rfl
      simp only [g_is_rising, b_is_rising, DL.sel_true, DL.sel_false, DL.sel_self, DL.okb, DL.excb, DL.badb, DL.pickb, DL.okp, DL.pickp, DL.ddat, DL.down, DL.sdat, DL.sown, DL.sraw, DL.spot, DL.gdat, DL.gown, DL.graw, DL.gpot, DL.asBb, DL.asIi, DL.kBok, DL.noxok, DL.datas0, DL.frz1_own, DL.frz1_dat, DL.frz1_raw, DL.frz1_pot, DL.frz1_none, DL.frz1_nil, DL.frz1_succ, DL.frz_nil, DL.frz_cons, DL.rdv_dat, DL.rdv_raw, DL.rdv_pot, DL.rdv_succ, DL.rtnV_zero, DL.rtnV_succ, DL.ownAt_zero, DL.ownAt_succ, DL.startE_eq, DL.seq_e, DL.seqK_nx, DL.seqK_ret, DL.seqK_brk, DL.seqK_cont, DL.asg_e, DL.asgK_e, DL.rtn_e, DL.rtnK_e, DL.rtnN_e, DL.exs_e, DL.exsK_e, DL.ifs_e, DL.ifsK_true, DL.ifsK_false, DL.skip_e, DL.brkS_e, DL.contS_e, DL.badS_e, DL.body_e, DL.fin_ret, DL.fin_nx, DL.app1_e, DL.app1K_e, DL.app_e, DL.appO_e, DL.appW_e, DL.appD_e, DL.asg2_e, DL.asg2K_e, DL.asg2L_e, DL.unp_e, DL.unpW_e, DL.unpD_e, DL.goOn_some, DL.goOn_none, DL.bT_e, DL.setL_cons, DL.setL_nil, DL.bN_e, DL.sto1_e, DL.sto_e, DL.stoW_e, DL.stoD_e, DL.sto2_e, DL.sto2K_e, DL.sto2W_e, DL.sto2I_e, DL.sto1K_e, DL.atK_e, DL.ali_e, DL.aliK_true, DL.aliK_false, DL.ali1_e, DL.ali1B_e, DL.ali1O_e, DL.ali1W_e, DL.ali1D_e, DL.forS_e, DL.forK_e, DL.loopB_some, DL.loopK_nx, DL.loopK_cont, DL.loopK_brk, DL.loopK_ret, DL.bin2_e, DL.binK_e, DL.binL_e, DL.un1_e, DL.unK_e, DL.tst_e, DL.tand_e, DL.tandK_true, DL.tandK_false, DL.tor_e, DL.torK_true, DL.torK_false, DL.tnot_e, DL.notK_e, DL.vand_e, DL.vandK_e, DL.vandL_true, DL.vandL_false, DL.vor_e, DL.vorK_e, DL.vorL_true, DL.vorL_false, DL.vnot_e, DL.vnotK_e, DL.vnotL_e, DL.vif_e, DL.vifK_true, DL.vifK_false, DL.anil_e, DL.acons_e, DL.aconsK_e, DL.aconsL_e, DL.call_e, DL.ccall_e, DL.ccallK1, DL.ccallK2, DL.ccallK3, DL.ccallK4, DL.sub_e, DL.subK_e, DL.subH_e, DL.cutK_e, DL.cutL_e, DL.oN_e, DL.oS_e, DL.oSK_e, DL.oI_e, DL.rev_e, DL.revK_e, DL.tup_e, DL.lst_e, DL.mkTup_e, DL.mkLst_e, DL.tupD_e, DL.lstD_e, DL.datas_e, DL.datasK_e, DL.kN_e, DL.kB_e, DL.kI_e, DL.kS_e, DL.kT_e, DL.kD0_e, DL.chainI_e, DL.chA_e, DL.chB_e, DL.chI_e, DL.chJ_e, DL.chG_true, DL.chG_false, DL.chY_e, DL.chC_e, DL.sSeq_e, DL.seqSrc_e, DL.asItems_list, DL.asItems_tuple, DL.sRng1_e, DL.rngW_e, DL.rngI_e, DL.sRng2_e, DL.rngK_e, DL.rngWW_e, DL.rngWI_e, DL.rngJ_e, DL.sZip_e, DL.zipK_e, DL.zipW_e, DL.zipA_e, DL.zipD_list, DL.zipD_tuple, DL.sEnum_e, DL.enumW_e, DL.enumV_e, DL.asList_e, DL.enumL_e, DL.ownR_e, DL.lc_e, DL.tYes_e, List.map_cons, List.map_nil, List.nil_append, List.cons_append, List.length_cons, List.length_nil, List.set_cons_zero, List.set_cons_succ, ite_self, reduceIte, noL_none, noL_bool, noL_int, noL_str, noL_list, noL_tuple, noLs_nil, noLs_cons, Bool.true_and, Bool.false_and, Bool.and_true, Bool.and_self, Bool.false_eq_true, Bool.not_true, Bool.not_false, List.replicate_succ, List.replicate_zero, DL.opEq_e, DL.flip_e, DL.opNe_e, DL.opIn_e, DL.opNotIn_e, DL.opLt_e, DL.opAdd_e, DL.opMul_e, DL.opIx_e, DL.opIsN_e, DL.opNotN_e, DL.opNeg_e, DL.opLe_e, DL.opGt_e, DL.opGe_e, DL.opSub_e, DL.vLt_int, DL.vEq_int, DL.vAdd_int, DL.vAdd_list, DL.vAdd_tuple, DL.vLen_tuple, DL.vLen_list, DL.vInt_int, DL.vTuple_list, DL.vTuple_tuple, DL.vList_list, DL.vList_tuple, DL.vRev_list, DL.vRev_tuple, DL.vCut_list, DL.vCut_tuple, DL.f1_e, DL.f2_e, DL.isNon_none, DL.isNon_int, DL.isi_int, DL.isi_bool, DL.isi_tuple, DL.isi_list, DL.isi_str, DL.isi_dict, isRis, isT, c1, all_bools, hc, c2, c3]
  | _ => simp only [g_is_rising, b_is_rising, DL.sel_true, DL.sel_false, DL.sel_self, DL.okb, DL.excb, DL.badb, DL.pickb, DL.okp, DL.pickp, DL.ddat, DL.down, DL.sdat, DL.sown, DL.sraw, DL.spot, DL.gdat, DL.gown, DL.graw, DL.gpot, DL.asBb, DL.asIi, DL.kBok, DL.noxok, DL.datas0, DL.frz1_own, DL.frz1_dat, DL.frz1_raw, DL.frz1_pot, DL.frz1_none, DL.frz1_nil, DL.frz1_succ, DL.frz_nil, DL.frz_cons, DL.rdv_dat, DL.rdv_raw, DL.rdv_pot, DL.rdv_succ, DL.rtnV_zero, DL.rtnV_succ, DL.ownAt_zero, DL.ownAt_succ, DL.startE_eq, DL.seq_e, DL.seqK_nx, DL.seqK_ret, DL.seqK_brk, DL.seqK_cont, DL.asg_e, DL.asgK_e, DL.rtn_e, DL.rtnK_e, DL.rtnN_e, DL.exs_e, DL.exsK_e, DL.ifs_e, DL.ifsK_true, DL.ifsK_false, DL.skip_e, DL.brkS_e, DL.contS_e, DL.badS_e, DL.body_e, DL.fin_ret, DL.fin_nx, DL.app1_e, DL.app1K_e, DL.app_e, DL.appO_e, DL.appW_e, DL.appD_e, DL.asg2_e, DL.asg2K_e, DL.asg2L_e, DL.unp_e, DL.unpW_e, DL.unpD_e, DL.goOn_some, DL.goOn_none, DL.bT_e, DL.setL_cons, DL.setL_nil, DL.bN_e, DL.sto1_e, DL.sto_e, DL.stoW_e, DL.stoD_e, DL.sto2_e, DL.sto2K_e, DL.sto2W_e, DL.sto2I_e, DL.sto1K_e, DL.atK_e, DL.ali_e, DL.aliK_true, DL.aliK_false, DL.ali1_e, DL.ali1B_e, DL.ali1O_e, DL.ali1W_e, DL.ali1D_e, DL.forS_e, DL.forK_e, DL.loopB_some, DL.loopK_nx, DL.loopK_cont, DL.loopK_brk, DL.loopK_ret, DL.bin2_e, DL.binK_e, DL.binL_e, DL.un1_e, DL.unK_e, DL.tst_e, DL.tand_e, DL.tandK_true, DL.tandK_false, DL.tor_e, DL.torK_true, DL.torK_false, DL.tnot_e, DL.notK_e, DL.vand_e, DL.vandK_e, DL.vandL_true, DL.vandL_false, DL.vor_e, DL.vorK_e, DL.vorL_true, DL.vorL_false, DL.vnot_e, DL.vnotK_e, DL.vnotL_e, DL.vif_e, DL.vifK_true, DL.vifK_false, DL.anil_e, DL.acons_e, DL.aconsK_e, DL.aconsL_e, DL.call_e, DL.ccall_e, DL.ccallK1, DL.ccallK2, DL.ccallK3, DL.ccallK4, DL.sub_e, DL.subK_e, DL.subH_e, DL.cutK_e, DL.cutL_e, DL.oN_e, DL.oS_e, DL.oSK_e, DL.oI_e, DL.rev_e, DL.revK_e, DL.tup_e, DL.lst_e, DL.mkTup_e, DL.mkLst_e, DL.tupD_e, DL.lstD_e, DL.datas_e, DL.datasK_e, DL.kN_e, DL.kB_e, DL.kI_e, DL.kS_e, DL.kT_e, DL.kD0_e, DL.chainI_e, DL.chA_e, DL.chB_e, DL.chI_e, DL.chJ_e, DL.chG_true, DL.chG_false, DL.chY_e, DL.chC_e, DL.sSeq_e, DL.seqSrc_e, DL.asItems_list, DL.asItems_tuple, DL.sRng1_e, DL.rngW_e, DL.rngI_e, DL.sRng2_e, DL.rngK_e, DL.rngWW_e, DL.rngWI_e, DL.rngJ_e, DL.sZip_e, DL.zipK_e, DL.zipW_e, DL.zipA_e, DL.zipD_list, DL.zipD_tuple, DL.sEnum_e, DL.enumW_e, DL.enumV_e, DL.asList_e, DL.enumL_e, DL.ownR_e, DL.lc_e, DL.tYes_e, List.map_cons, List.map_nil, List.nil_append, List.cons_append, List.length_cons, List.length_nil, List.set_cons_zero, List.set_cons_succ, ite_self, reduceIte, noL_none, noL_bool, noL_int, noL_str, noL_list, noL_tuple, noLs_nil, noLs_cons, Bool.true_and, Bool.false_and, Bool.and_true, Bool.and_self, Bool.false_eq_true, Bool.not_true, Bool.not_false, List.replicate_succ, List.replicate_zero, DL.opEq_e, DL.flip_e, DL.opNe_e, DL.opIn_e, DL.opNotIn_e, DL.opLt_e, DL.opAdd_e, DL.opMul_e, DL.opIx_e, DL.opIsN_e, DL.opNotN_e, DL.opNeg_e, DL.opLe_e, DL.opGt_e, DL.opGe_e, DL.opSub_e, DL.vLt_int, DL.vEq_int, DL.vAdd_int, DL.vAdd_list, DL.vAdd_tuple, DL.vLen_tuple, DL.vLen_list, DL.vInt_int, DL.vTuple_list, DL.vTuple_tuple, DL.vList_list, DL.vList_tuple, DL.vRev_list, DL.vRev_tuple, DL.vCut_list, DL.vCut_tuple, DL.f1_e, DL.f2_e, DL.isNon_none, DL.isNon_int, DL.isi_int, DL.isi_bool, DL.isi_tuple, DL.isi_list, DL.isi_str, DL.isi_dict, isT, isRis]
theorem r_is_pair (d : D) (m : Int) (hd : (itm d).length ≤ 1000000) : g_is_pair [.dat d, .dat (.int m)] = .ok (.dat (.bool (isPr m d))) := by
  have hr := r_is_rising d hd
  cases d with
  | tuple xs =>
    by_cases hl : xs.length = 2
    · obtain ⟨x, y, rfl⟩ := two_of hl
      have e2 : decide ((([x, y].length : Nat) : Int) = 2) = true := rfl
      have ix : vIx (.tuple [x, y]) (.int 1) = .ok (.dat y) := rfl
      rw [List.length_cons, List.length_cons, List.length_nil] at e2
      cases hi : isRis (.tuple [x, y]) with
      | true =>
        obtain ⟨i, j, rfl, rfl, h1, h2⟩ := isRis2.mp hi
        simp only [g_is_pair, b_is_pair, DL.sel_true, DL.sel_false, DL.sel_self, DL.okb, DL.excb, DL.badb, DL.pickb, DL.okp, DL.pickp, DL.ddat, DL.down, DL.sdat, DL.sown, DL.sraw, DL.spot, DL.gdat, DL.gown, DL.graw, DL.gpot, DL.asBb, DL.asIi, DL.kBok, DL.noxok, DL.datas0, DL.frz1_own, DL.frz1_dat, DL.frz1_raw, DL.frz1_pot, DL.frz1_none, DL.frz1_nil, DL.frz1_succ, DL.frz_nil, DL.frz_cons, DL.rdv_dat, DL.rdv_raw, DL.rdv_pot, DL.rdv_succ, DL.rtnV_zero, DL.rtnV_succ, DL.ownAt_zero, DL.ownAt_succ, DL.startE_eq, DL.seq_e, DL.seqK_nx, DL.seqK_ret, DL.seqK_brk, DL.seqK_cont, DL.asg_e, DL.asgK_e, DL.rtn_e, DL.rtnK_e, DL.rtnN_e, DL.exs_e, DL.exsK_e, DL.ifs_e, DL.ifsK_true, DL.ifsK_false, DL.skip_e, DL.brkS_e, DL.contS_e, DL.badS_e, DL.body_e, DL.fin_ret, DL.fin_nx, DL.app1_e, DL.app1K_e, DL.app_e, DL.appO_e, DL.appW_e, DL.appD_e, DL.asg2_e, DL.asg2K_e, DL.asg2L_e, DL.unp_e, DL.unpW_e, DL.unpD_e, DL.goOn_some, DL.goOn_none, DL.bT_e, DL.setL_cons, DL.setL_nil, DL.bN_e, DL.sto1_e, DL.sto_e, DL.stoW_e, DL.stoD_e, DL.sto2_e, DL.sto2K_e, DL.sto2W_e, DL.sto2I_e, DL.sto1K_e, DL.atK_e, DL.ali_e, DL.aliK_true, DL.aliK_false, DL.ali1_e, DL.ali1B_e, DL.ali1O_e, DL.ali1W_e, DL.ali1D_e, DL.forS_e, DL.forK_e, DL.loopB_some, DL.loopK_nx, DL.loopK_cont, DL.loopK_brk, DL.loopK_ret, DL.bin2_e, DL.binK_e, DL.binL_e, DL.un1_e, DL.unK_e, DL.tst_e, DL.tand_e, DL.tandK_true, DL.tandK_false, DL.tor_e, DL.torK_true, DL.torK_false, DL.tnot_e, DL.notK_e, DL.vand_e, DL.vandK_e, DL.vandL_true, DL.vandL_false, DL.vor_e, DL.vorK_e, DL.vorL_true, DL.vorL_false, DL.vnot_e, DL.vnotK_e, DL.vnotL_e, DL.vif_e, DL.vifK_true, DL.vifK_false, DL.anil_e, DL.acons_e, DL.aconsK_e, DL.aconsL_e, DL.call_e, DL.ccall_e, DL.ccallK1, DL.ccallK2, DL.ccallK3, DL.ccallK4, DL.sub_e, DL.subK_e, DL.subH_e, DL.cutK_e, DL.cutL_e, DL.oN_e, DL.oS_e, DL.oSK_e, DL.oI_e, DL.rev_e, DL.revK_e, DL.tup_e, DL.lst_e, DL.mkTup_e, DL.mkLst_e, DL.tupD_e, DL.lstD_e, DL.datas_e, DL.datasK_e, DL.kN_e, DL.kB_e, DL.kI_e, DL.kS_e, DL.kT_e, DL.kD0_e, DL.chainI_e, DL.chA_e, DL.chB_e, DL.chI_e, DL.chJ_e, DL.chG_true, DL.chG_false, DL.chY_e, DL.chC_e, DL.sSeq_e, DL.seqSrc_e, DL.asItems_list, DL.asItems_tuple, DL.sRng1_e, DL.rngW_e, DL.rngI_e, DL.sRng2_e, DL.rngK_e, DL.rngWW_e, DL.rngWI_e, DL.rngJ_e, DL.sZip_e, DL.zipK_e, DL.zipW_e, DL.zipA_e, DL.zipD_list, DL.zipD_tuple, DL.sEnum_e, DL.enumW_e, DL.enumV_e, DL.asList_e, DL.enumL_e, DL.ownR_e, DL.lc_e, DL.tYes_e, List.map_cons, List.map_nil, List.nil_append, List.cons_append, List.length_cons, List.length_nil, List.set_cons_zero, List.set_cons_succ, ite_self, reduceIte, noL_none, noL_bool, noL_int, noL_str, noL_list, noL_tuple, noLs_nil, noLs_cons, Bool.true_and, Bool.false_and, Bool.and_true, Bool.and_self, Bool.false_eq_true, Bool.not_true, Bool.not_false, List.replicate_succ, List.replicate_zero, DL.opEq_e, DL.flip_e, DL.opNe_e, DL.opIn_e, DL.opNotIn_e, DL.opLt_e, DL.opAdd_e, DL.opMul_e, DL.opIx_e, DL.opIsN_e, DL.opNotN_e, DL.opNeg_e, DL.opLe_e, DL.opGt_e, DL.opGe_e, DL.opSub_e, DL.vLt_int, DL.vEq_int, DL.vAdd_int, DL.vAdd_list, DL.vAdd_tuple, DL.vLen_tuple, DL.vLen_list, DL.vInt_int, DL.vTuple_list, DL.vTuple_tuple, DL.vList_list, DL.vList_tuple, DL.vRev_list, DL.vRev_tuple, DL.vCut_list, DL.vCut_tuple, DL.f1_e, DL.f2_e, DL.isNon_none, DL.isNon_int, DL.isi_int, DL.isi_bool, DL.isi_tuple, DL.isi_list, DL.isi_str, DL.isi_dict, isT, hr, hi, ix, e2]
        simp [isPr, h1, h2]
      | false =>
        have e3 : isPr m (.tuple [x, y]) = false := by
          cases e : isPr m (.tuple [x, y]) with
          | false => rfl
          | true =>
            obtain ⟨i, j, e2, h1, h2, _⟩ := isPr_iff.mp e
            cases e2
            rw [isRis2.mpr ⟨i, j, rfl, rfl, h1, h2⟩] at hi
            cases hi
        simp only [g_is_pair, b_is_pair, DL.sel_true, DL.sel_false, DL.sel_self, DL.okb, DL.excb, DL.badb, DL.pickb, DL.okp, DL.pickp, DL.ddat, DL.down, DL.sdat, DL.sown, DL.sraw, DL.spot, DL.gdat, DL.gown, DL.graw, DL.gpot, DL.asBb, DL.asIi, DL.kBok, DL.noxok, DL.datas0, DL.frz1_own, DL.frz1_dat, DL.frz1_raw, DL.frz1_pot, DL.frz1_none, DL.frz1_nil, DL.frz1_succ, DL.frz_nil, DL.frz_cons, DL.rdv_dat, DL.rdv_raw, DL.rdv_pot, DL.rdv_succ, DL.rtnV_zero, DL.rtnV_succ, DL.ownAt_zero, DL.ownAt_succ, DL.startE_eq, DL.seq_e, DL.seqK_nx, DL.seqK_ret, DL.seqK_brk, DL.seqK_cont, DL.asg_e, DL.asgK_e, DL.rtn_e, DL.rtnK_e, DL.rtnN_e, DL.exs_e, DL.exsK_e, DL.ifs_e, DL.ifsK_true, DL.ifsK_false, DL.skip_e, DL.brkS_e, DL.contS_e, DL.badS_e, DL.body_e, DL.fin_ret, DL.fin_nx, DL.app1_e, DL.app1K_e, DL.app_e, DL.appO_e, DL.appW_e, DL.appD_e, DL.asg2_e, DL.asg2K_e, DL.asg2L_e, DL.unp_e, DL.unpW_e, DL.unpD_e, DL.goOn_some, DL.goOn_none, DL.bT_e, DL.setL_cons, DL.setL_nil, DL.bN_e, DL.sto1_e, DL.sto_e, DL.stoW_e, DL.stoD_e, DL.sto2_e, DL.sto2K_e, DL.sto2W_e, DL.sto2I_e, DL.sto1K_e, DL.atK_e, DL.ali_e, DL.aliK_true, DL.aliK_false, DL.ali1_e, DL.ali1B_e, DL.ali1O_e, DL.ali1W_e, DL.ali1D_e, DL.forS_e, DL.forK_e, DL.loopB_some, DL.loopK_nx, DL.loopK_cont, DL.loopK_brk, DL.loopK_ret, DL.bin2_e, DL.binK_e, DL.binL_e, DL.un1_e, DL.unK_e, DL.tst_e, DL.tand_e, DL.tandK_true, DL.tandK_false, DL.tor_e, DL.torK_true, DL.torK_false, DL.tnot_e, DL.notK_e, DL.vand_e, DL.vandK_e, DL.vandL_true, DL.vandL_false, DL.vor_e, DL.vorK_e, DL.vorL_true, DL.vorL_false, DL.vnot_e, DL.vnotK_e, DL.vnotL_e, DL.vif_e, DL.vifK_true, DL.vifK_false, DL.anil_e, DL.acons_e, DL.aconsK_e, DL.aconsL_e, DL.call_e, DL.ccall_e, DL.ccallK1, DL.ccallK2, DL.ccallK3, DL.ccallK4, DL.sub_e, DL.subK_e, DL.subH_e, DL.cutK_e, DL.cutL_e, DL.oN_e, DL.oS_e, DL.oSK_e, DL.oI_e, DL.rev_e, DL.revK_e, DL.tup_e, DL.lst_e, DL.mkTup_e, DL.mkLst_e, DL.tupD_e, DL.lstD_e, DL.datas_e, DL.datasK_e, DL.kN_e, DL.kB_e, DL.kI_e, DL.kS_e, DL.kT_e, DL.kD0_e, DL.chainI_e, DL.chA_e, DL.chB_e, DL.chI_e, DL.chJ_e, DL.chG_true, DL.chG_false, DL.chY_e, DL.chC_e, DL.sSeq_e, DL.seqSrc_e, DL.asItems_list, DL.asItems_tuple, DL.sRng1_e, DL.rngW_e, DL.rngI_e, DL.sRng2_e, DL.rngK_e, DL.rngWW_e, DL.rngWI_e, DL.rngJ_e, DL.sZip_e, DL.zipK_e, DL.zipW_e, DL.zipA_e, DL.zipD_list, DL.zipD_tuple, DL.sEnum_e, DL.enumW_e, DL.enumV_e, DL.asList_e, DL.enumL_e, DL.ownR_e, DL.lc_e, DL.tYes_e, List.map_cons, List.map_nil, List.nil_append, List.cons_append, List.length_cons, List.length_nil, List.set_cons_zero, List.set_cons_succ, ite_self, reduceIte, noL_none, noL_bool, noL_int, noL_str, noL_list, noL_tuple, noLs_nil, noLs_cons, Bool.true_and, Bool.false_and, Bool.and_true, Bool.and_self, Bool.false_eq_true, Bool.not_true, Bool.not_false, List.replicate_succ, List.replicate_zero, DL.opEq_e, DL.flip_e, DL.opNe_e, DL.opIn_e, DL.opNotIn_e, DL.opLt_e, DL.opAdd_e, DL.opMul_e, DL.opIx_e, DL.opIsN_e, DL.opNotN_e, DL.opNeg_e, DL.opLe_e, DL.opGt_e, DL.opGe_e, DL.opSub_e, DL.vLt_int, DL.vEq_int, DL.vAdd_int, DL.vAdd_list, DL.vAdd_tuple, DL.vLen_tuple, DL.vLen_list, DL.vInt_int, DL.vTuple_list, DL.vTuple_tuple, DL.vList_list, DL.vList_tuple, DL.vRev_list, DL.vRev_tuple, DL.vCut_list, DL.vCut_tuple, DL.f1_e, DL.f2_e, DL.isNon_none, DL.isNon_int, DL.isi_int, DL.isi_bool, DL.isi_tuple, DL.isi_list, DL.isi_str, DL.isi_dict, isT, hr, hi, ix, e2, e3]
    · have e1 : decide ((xs.length : Int) = 2) = false := decide_eq_false (by omega)
      simp only [g_is_pair, b_is_pair, DL.sel_true, DL.sel_false, DL.sel_self, DL.okb, DL.excb, DL.badb, DL.pickb, DL.okp, DL.pickp, DL.ddat, DL.down, DL.sdat, DL.sown, DL.sraw, DL.spot, DL.gdat, DL.gown, DL.graw, DL.gpot, DL.asBb, DL.asIi, DL.kBok, DL.noxok, DL.datas0, DL.frz1_own, DL.frz1_dat, DL.frz1_raw, DL.frz1_pot, DL.frz1_none, DL.frz1_nil, DL.frz1_succ, DL.frz_nil, DL.frz_cons, DL.rdv_dat, DL.rdv_raw, DL.rdv_pot, DL.rdv_succ, DL.rtnV_zero, DL.rtnV_succ, DL.ownAt_zero, DL.ownAt_succ, DL.startE_eq, DL.seq_e, DL.seqK_nx, DL.seqK_ret, DL.seqK_brk, DL.seqK_cont, DL.asg_e, DL.asgK_e, DL.rtn_e, DL.rtnK_e, DL.rtnN_e, DL.exs_e, DL.exsK_e, DL.ifs_e, DL.ifsK_true, DL.ifsK_false, DL.skip_e, DL.brkS_e, DL.contS_e, DL.badS_e, DL.body_e, DL.fin_ret, DL.fin_nx, DL.app1_e, DL.app1K_e, DL.app_e, DL.appO_e, DL.appW_e, DL.appD_e, DL.asg2_e, DL.asg2K_e, DL.asg2L_e, DL.unp_e, DL.unpW_e, DL.unpD_e, DL.goOn_some, DL.goOn_none, DL.bT_e, DL.setL_cons, DL.setL_nil, DL.bN_e, DL.sto1_e, DL.sto_e, DL.stoW_e, DL.stoD_e, DL.sto2_e, DL.sto2K_e, DL.sto2W_e, DL.sto2I_e, DL.sto1K_e, DL.atK_e, DL.ali_e, DL.aliK_true, DL.aliK_false, DL.ali1_e, DL.ali1B_e, DL.ali1O_e, DL.ali1W_e, DL.ali1D_e, DL.forS_e, DL.forK_e, DL.loopB_some, DL.loopK_nx, DL.loopK_cont, DL.loopK_brk, DL.loopK_ret, DL.bin2_e, DL.binK_e, DL.binL_e, DL.un1_e, DL.unK_e, DL.tst_e, DL.tand_e, DL.tandK_true, DL.tandK_false, DL.tor_e, DL.torK_true, DL.torK_false, DL.tnot_e, DL.notK_e, DL.vand_e, DL.vandK_e, DL.vandL_true, DL.vandL_false, DL.vor_e, DL.vorK_e, DL.vorL_true, DL.vorL_false, DL.vnot_e, DL.vnotK_e, DL.vnotL_e, DL.vif_e, DL.vifK_true, DL.vifK_false, DL.anil_e, DL.acons_e, DL.aconsK_e, DL.aconsL_e, DL.call_e, DL.ccall_e, DL.ccallK1, DL.ccallK2, DL.ccallK3, DL.ccallK4, DL.sub_e, DL.subK_e, DL.subH_e, DL.cutK_e, DL.cutL_e, DL.oN_e, DL.oS_e, DL.oSK_e, DL.oI_e, DL.rev_e, DL.revK_e, DL.tup_e, DL.lst_e, DL.mkTup_e, DL.mkLst_e, DL.tupD_e, DL.lstD_e, DL.datas_e, DL.datasK_e, DL.kN_e, DL.kB_e, DL.kI_e, DL.kS_e, DL.kT_e, DL.kD0_e, DL.chainI_e, DL.chA_e, DL.chB_e, DL.chI_e, DL.chJ_e, DL.chG_true, DL.chG_false, DL.chY_e, DL.chC_e, DL.sSeq_e, DL.seqSrc_e, DL.asItems_list, DL.asItems_tuple, DL.sRng1_e, DL.rngW_e, DL.rngI_e, DL.sRng2_e, DL.rngK_e, DL.rngWW_e, DL.rngWI_e, DL.rngJ_e, DL.sZip_e, DL.zipK_e, DL.zipW_e, DL.zipA_e, DL.zipD_list, DL.zipD_tuple, DL.sEnum_e, DL.enumW_e, DL.enumV_e, DL.asList_e, DL.enumL_e, DL.ownR_e, DL.lc_e, DL.tYes_e, List.map_cons, List.map_nil, List.nil_append, List.cons_append, List.length_cons, List.length_nil, List.set_cons_zero, List.set_cons_succ, ite_self, reduceIte, noL_none, noL_bool, noL_int, noL_str, noL_list, noL_tuple, noLs_nil, noLs_cons, Bool.true_and, Bool.false_and, Bool.and_true, Bool.and_self, Bool.false_eq_true, Bool.not_true, Bool.not_false, List.replicate_succ, List.replicate_zero, DL.opEq_e, DL.flip_e, DL.opNe_e, DL.opIn_e, DL.opNotIn_e, DL.opLt_e, DL.opAdd_e, DL.opMul_e, DL.opIx_e, DL.opIsN_e, DL.opNotN_e, DL.opNeg_e, DL.opLe_e, DL.opGt_e, DL.opGe_e, DL.opSub_e, DL.vLt_int, DL.vEq_int, DL.vAdd_int, DL.vAdd_list, DL.vAdd_tuple, DL.vLen_tuple, DL.vLen_list, DL.vInt_int, DL.vTuple_list, DL.vTuple_tuple, DL.vList_list, DL.vList_tuple, DL.vRev_list, DL.vRev_tuple, DL.vCut_list, DL.vCut_tuple, DL.f1_e, DL.f2_e, DL.isNon_none, DL.isNon_int, DL.isi_int, DL.isi_bool, DL.isi_tuple, DL.isi_list, DL.isi_str, DL.isi_dict, isT, e1, isPr_len hl]
  | _ => simp only [g_is_pair, b_is_pair, DL.sel_true, DL.sel_false, DL.sel_self, DL.okb, DL.excb, DL.badb, DL.pickb, DL.okp, DL.pickp, DL.ddat, DL.down, DL.sdat, DL.sown, DL.sraw, DL.spot, DL.gdat, DL.gown, DL.graw, DL.gpot, DL.asBb, DL.asIi, DL.kBok, DL.noxok, DL.datas0, DL.frz1_own, DL.frz1_dat, DL.frz1_raw, DL.frz1_pot, DL.frz1_none, DL.frz1_nil, DL.frz1_succ, DL.frz_nil, DL.frz_cons, DL.rdv_dat, DL.rdv_raw, DL.rdv_pot, DL.rdv_succ, DL.rtnV_zero, DL.rtnV_succ, DL.ownAt_zero, DL.ownAt_succ, DL.startE_eq, DL.seq_e, DL.seqK_nx, DL.seqK_ret, DL.seqK_brk, DL.seqK_cont, DL.asg_e, DL.asgK_e, DL.rtn_e, DL.rtnK_e, DL.rtnN_e, DL.exs_e, DL.exsK_e, DL.ifs_e, DL.ifsK_true, DL.ifsK_false, DL.skip_e, DL.brkS_e, DL.contS_e, DL.badS_e, DL.body_e, DL.fin_ret, DL.fin_nx, DL.app1_e, DL.app1K_e, DL.app_e, DL.appO_e, DL.appW_e, DL.appD_e, DL.asg2_e, DL.asg2K_e, DL.asg2L_e, DL.unp_e, DL.unpW_e, DL.unpD_e, DL.goOn_some, DL.goOn_none, DL.bT_e, DL.setL_cons, DL.setL_nil, DL.bN_e, DL.sto1_e, DL.sto_e, DL.stoW_e, DL.stoD_e, DL.sto2_e, DL.sto2K_e, DL.sto2W_e, DL.sto2I_e, DL.sto1K_e, DL.atK_e, DL.ali_e, DL.aliK_true, DL.aliK_false, DL.ali1_e, DL.ali1B_e, DL.ali1O_e, DL.ali1W_e, DL.ali1D_e, DL.forS_e, DL.forK_e, DL.loopB_some, DL.loopK_nx, DL.loopK_cont, DL.loopK_brk, DL.loopK_ret, DL.bin2_e, DL.binK_e, DL.binL_e, DL.un1_e, DL.unK_e, DL.tst_e, DL.tand_e, DL.tandK_true, DL.tandK_false, DL.tor_e, DL.torK_true, DL.torK_false, DL.tnot_e, DL.notK_e, DL.vand_e, DL.vandK_e, DL.vandL_true, DL.vandL_false, DL.vor_e, DL.vorK_e, DL.vorL_true, DL.vorL_false, DL.vnot_e, DL.vnotK_e, DL.vnotL_e, DL.vif_e, DL.vifK_true, DL.vifK_false, DL.anil_e, DL.acons_e, DL.aconsK_e, DL.aconsL_e, DL.call_e, DL.ccall_e, DL.ccallK1, DL.ccallK2, DL.ccallK3, DL.ccallK4, DL.sub_e, DL.subK_e, DL.subH_e, DL.cutK_e, DL.cutL_e, DL.oN_e, DL.oS_e, DL.oSK_e, DL.oI_e, DL.rev_e, DL.revK_e, DL.tup_e, DL.lst_e, DL.mkTup_e, DL.mkLst_e, DL.tupD_e, DL.lstD_e, DL.datas_e, DL.datasK_e, DL.kN_e, DL.kB_e, DL.kI_e, DL.kS_e, DL.kT_e, DL.kD0_e, DL.chainI_e, DL.chA_e, DL.chB_e, DL.chI_e, DL.chJ_e, DL.chG_true, DL.chG_false, DL.chY_e, DL.chC_e, DL.sSeq_e, DL.seqSrc_e, DL.asItems_list, DL.asItems_tuple, DL.sRng1_e, DL.rngW_e, DL.rngI_e, DL.sRng2_e, DL.rngK_e, DL.rngWW_e, DL.rngWI_e, DL.rngJ_e, DL.sZip_e, DL.zipK_e, DL.zipW_e, DL.zipA_e, DL.zipD_list, DL.zipD_tuple, DL.sEnum_e, DL.enumW_e, DL.enumV_e, DL.asList_e, DL.enumL_e, DL.ownR_e, DL.lc_e, DL.tYes_e, List.map_cons, List.map_nil, List.nil_append, List.cons_append, List.length_cons, List.length_nil, List.set_cons_zero, List.set_cons_succ, ite_self, reduceIte, noL_none, noL_bool, noL_int, noL_str, noL_list, noL_tuple, noLs_nil, noLs_cons, Bool.true_and, Bool.false_and, Bool.and_true, Bool.and_self, Bool.false_eq_true, Bool.not_true, Bool.not_false, List.replicate_succ, List.replicate_zero, DL.opEq_e, DL.flip_e, DL.opNe_e, DL.opIn_e, DL.opNotIn_e, DL.opLt_e, DL.opAdd_e, DL.opMul_e, DL.opIx_e, DL.opIsN_e, DL.opNotN_e, DL.opNeg_e, DL.opLe_e, DL.opGt_e, DL.opGe_e, DL.opSub_e, DL.vLt_int, DL.vEq_int, DL.vAdd_int, DL.vAdd_list, DL.vAdd_tuple, DL.vLen_tuple, DL.vLen_list, DL.vInt_int, DL.vTuple_list, DL.vTuple_tuple, DL.vList_list, DL.vList_tuple, DL.vRev_list, DL.vRev_tuple, DL.vCut_list, DL.vCut_tuple, DL.f1_e, DL.f2_e, DL.isNon_none, DL.isNon_int, DL.isi_int, DL.isi_bool, DL.isi_tuple, DL.isi_list, DL.isi_str, DL.isi_dict, isT, isPr]
theorem r_are_pairs (d : D) (m : Int) (hd : (itm d).length ≤ 1000000) (h2 : ∀ x ∈ itm d, (itm x).length ≤ 1000000) : g_are_pairs [.dat d, .dat (.int m)] = .ok (.dat (.bool (isRow m d))) := by
  cases d with
  | tuple xs =>
    have hd : xs.length ≤ 1000000 := hd
    have c1 : ∀ ρ : En, ρ = [some (.dat (.tuple xs)), some (.dat (.int m)), none, none, none] → lcK [2] (bN 2) tYes (ccall 2 g_is_pair (acons (rdv 2) (acons (rdv 1) anil))) ρ xs = .ok (.own (xs.map fun d => .bool (isPr m d))) := by
      intro ρ e
      subst e
      refine lcK_map _ hd fun x hx => ⟨_, rfl, rfl, ?_⟩
      simp only [wipeE, DL.sel_true, DL.sel_false, DL.sel_self, DL.okb, DL.excb, DL.badb, DL.pickb, DL.okp, DL.pickp, DL.ddat, DL.down, DL.sdat, DL.sown, DL.sraw, DL.spot, DL.gdat, DL.gown, DL.graw, DL.gpot, DL.asBb, DL.asIi, DL.kBok, DL.noxok, DL.datas0, DL.frz1_own, DL.frz1_dat, DL.frz1_raw, DL.frz1_pot, DL.frz1_none, DL.frz1_nil, DL.frz1_succ, DL.frz_nil, DL.frz_cons, DL.rdv_dat, DL.rdv_raw, DL.rdv_pot, DL.rdv_succ, DL.rtnV_zero, DL.rtnV_succ, DL.ownAt_zero, DL.ownAt_succ, DL.startE_eq, DL.seq_e, DL.seqK_nx, DL.seqK_ret, DL.seqK_brk, DL.seqK_cont, DL.asg_e, DL.asgK_e, DL.rtn_e, DL.rtnK_e, DL.rtnN_e, DL.exs_e, DL.exsK_e, DL.ifs_e, DL.ifsK_true, DL.ifsK_false, DL.skip_e, DL.brkS_e, DL.contS_e, DL.badS_e, DL.body_e, DL.fin_ret, DL.fin_nx, DL.app1_e, DL.app1K_e, DL.app_e, DL.appO_e, DL.appW_e, DL.appD_e, DL.asg2_e, DL.asg2K_e, DL.asg2L_e, DL.unp_e, DL.unpW_e, DL.unpD_e, DL.goOn_some, DL.goOn_none, DL.bT_e, DL.setL_cons, DL.setL_nil, DL.bN_e, DL.sto1_e, DL.sto_e, DL.stoW_e, DL.stoD_e, DL.sto2_e, DL.sto2K_e, DL.sto2W_e, DL.sto2I_e, DL.sto1K_e, DL.atK_e, DL.ali_e, DL.aliK_true, DL.aliK_false, DL.ali1_e, DL.ali1B_e, DL.ali1O_e, DL.ali1W_e, DL.ali1D_e, DL.forS_e, DL.forK_e, DL.loopB_some, DL.loopK_nx, DL.loopK_cont, DL.loopK_brk, DL.loopK_ret, DL.bin2_e, DL.binK_e, DL.binL_e, DL.un1_e, DL.unK_e, DL.tst_e, DL.tand_e, DL.tandK_true, DL.tandK_false, DL.tor_e, DL.torK_true, DL.torK_false, DL.tnot_e, DL.notK_e, DL.vand_e, DL.vandK_e, DL.vandL_true, DL.vandL_false, DL.vor_e, DL.vorK_e, DL.vorL_true, DL.vorL_false, DL.vnot_e, DL.vnotK_e, DL.vnotL_e, DL.vif_e, DL.vifK_true, DL.vifK_false, DL.anil_e, DL.acons_e, DL.aconsK_e, DL.aconsL_e, DL.call_e, DL.ccall_e, DL.ccallK1, DL.ccallK2, DL.ccallK3, DL.ccallK4, DL.sub_e, DL.subK_e, DL.subH_e, DL.cutK_e, DL.cutL_e, DL.oN_e, DL.oS_e, DL.oSK_e, DL.oI_e, DL.rev_e, DL.revK_e, DL.tup_e, DL.lst_e, DL.mkTup_e, DL.mkLst_e, DL.tupD_e, DL.lstD_e, DL.datas_e, DL.datasK_e, DL.kN_e, DL.kB_e, DL.kI_e, DL.kS_e, DL.kT_e, DL.kD0_e, DL.chainI_e, DL.chA_e, DL.chB_e, DL.chI_e, DL.chJ_e, DL.chG_true, DL.chG_false, DL.chY_e, DL.chC_e, DL.sSeq_e, DL.seqSrc_e, DL.asItems_list, DL.asItems_tuple, DL.sRng1_e, DL.rngW_e, DL.rngI_e, DL.sRng2_e, DL.rngK_e, DL.rngWW_e, DL.rngWI_e, DL.rngJ_e, DL.sZip_e, DL.zipK_e, DL.zipW_e, DL.zipA_e, DL.zipD_list, DL.zipD_tuple, DL.sEnum_e, DL.enumW_e, DL.enumV_e, DL.asList_e, DL.enumL_e, DL.ownR_e, DL.lc_e, DL.tYes_e, List.map_cons, List.map_nil, List.nil_append, List.cons_append, List.length_cons, List.length_nil, List.set_cons_zero, List.set_cons_succ, ite_self, reduceIte, noL_none, noL_bool, noL_int, noL_str, noL_list, noL_tuple, noLs_nil, noLs_cons, Bool.true_and, Bool.false_and, Bool.and_true, Bool.and_self, Bool.false_eq_true, Bool.not_true, Bool.not_false, List.replicate_succ, List.replicate_zero, DL.opEq_e, DL.flip_e, DL.opNe_e, DL.opIn_e, DL.opNotIn_e, DL.opLt_e, DL.opAdd_e, DL.opMul_e, DL.opIx_e, DL.opIsN_e, DL.opNotN_e, DL.opNeg_e, DL.opLe_e, DL.opGt_e, DL.opGe_e, DL.opSub_e, DL.vLt_int, DL.vEq_int, DL.vAdd_int, DL.vAdd_list, DL.vAdd_tuple, DL.vLen_tuple, DL.vLen_list, DL.vInt_int, DL.vTuple_list, DL.vTuple_tuple, DL.vList_list, DL.vList_tuple, DL.vRev_list, DL.vRev_tuple, DL.vCut_list, DL.vCut_tuple, DL.f1_e, DL.f2_e, DL.isNon_none, DL.isNon_int, DL.isi_int, DL.isi_bool, DL.isi_tuple, DL.isi_list, DL.isi_str, DL.isi_dict, r_is_pair x m (h2 x hx)]
    cases hc : xs.all (isPr m) with
    | false =>
      simp only [g_are_pairs, b_are_pairs, DL.sel_true, DL.sel_false, DL.sel_self, DL.okb, DL.excb, DL.badb, DL.pickb, DL.okp, DL.pickp, DL.ddat, DL.down, DL.sdat, DL.sown, DL.sraw, DL.spot, DL.gdat, DL.gown, DL.graw, DL.gpot, DL.asBb, DL.asIi, DL.kBok, DL.noxok, DL.datas0, DL.frz1_own, DL.frz1_dat, DL.frz1_raw, DL.frz1_pot, DL.frz1_none, DL.frz1_nil, DL.frz1_succ, DL.frz_nil, DL.frz_cons, DL.rdv_dat, DL.rdv_raw, DL.rdv_pot, DL.rdv_succ, DL.rtnV_zero, DL.rtnV_succ, DL.ownAt_zero, DL.ownAt_succ, DL.startE_eq, DL.seq_e, DL.seqK_nx, DL.seqK_ret, DL.seqK_brk, DL.seqK_cont, DL.asg_e, DL.asgK_e, DL.rtn_e, DL.rtnK_e, DL.rtnN_e, DL.exs_e, DL.exsK_e, DL.ifs_e, DL.ifsK_true, DL.ifsK_false, DL.skip_e, DL.brkS_e, DL.contS_e, DL.badS_e, DL.body_e, DL.fin_ret, DL.fin_nx, DL.app1_e, DL.app1K_e, DL.app_e, DL.appO_e, DL.appW_e, DL.appD_e, DL.asg2_e, DL.asg2K_e, DL.asg2L_e, DL.unp_e, DL.unpW_e, DL.unpD_e, DL.goOn_some, DL.goOn_none, DL.bT_e, DL.setL_cons, DL.setL_nil, DL.bN_e, DL.sto1_e, DL.sto_e, DL.stoW_e, DL.stoD_e, DL.sto2_e, DL.sto2K_e, DL.sto2W_e, DL.sto2I_e, DL.sto1K_e, DL.atK_e, DL.ali_e, DL.aliK_true, DL.aliK_false, DL.ali1_e, DL.ali1B_e, DL.ali1O_e, DL.ali1W_e, DL.ali1D_e, DL.forS_e, DL.forK_e, DL.loopB_some, DL.loopK_nx, DL.loopK_cont, DL.loopK_brk, DL.loopK_ret, DL.bin2_e, DL.binK_e, DL.binL_e, DL.un1_e, DL.unK_e, DL.tst_e, DL.tand_e, DL.tandK_true, DL.tandK_false, DL.tor_e, DL.torK_true, DL.torK_false, DL.tnot_e, DL.notK_e, DL.vand_e, DL.vandK_e, DL.vandL_true, DL.vandL_false, DL.vor_e, DL.vorK_e, DL.vorL_true, DL.vorL_false, DL.vnot_e, DL.vnotK_e, DL.vnotL_e, DL.vif_e, DL.vifK_true, DL.vifK_false, DL.anil_e, DL.acons_e, DL.aconsK_e, DL.aconsL_e, DL.call_e, DL.ccall_e, DL.ccallK1, DL.ccallK2, DL.ccallK3, DL.ccallK4, DL.sub_e, DL.subK_e, DL.subH_e, DL.cutK_e, DL.cutL_e, DL.oN_e, DL.oS_e, DL.oSK_e, DL.oI_e, DL.rev_e, DL.revK_e, DL.tup_e, DL.lst_e, DL.mkTup_e, DL.mkLst_e, DL.tupD_e, DL.lstD_e, DL.datas_e, DL.datasK_e, DL.kN_e, DL.kB_e, DL.kI_e, DL.kS_e, DL.kT_e, DL.kD0_e, DL.chainI_e, DL.chA_e, DL.chB_e, DL.chI_e, DL.chJ_e, DL.chG_true, DL.chG_false, DL.chY_e, DL.chC_e, DL.sSeq_e, DL.seqSrc_e, DL.asItems_list, DL.asItems_tuple, DL.sRng1_e, DL.rngW_e, DL.rngI_e, DL.sRng2_e, DL.rngK_e, DL.rngWW_e, DL.rngWI_e, DL.rngJ_e, DL.sZip_e, DL.zipK_e, DL.zipW_e, DL.zipA_e, DL.zipD_list, DL.zipD_tuple, DL.sEnum_e, DL.enumW_e, DL.enumV_e, DL.asList_e, DL.enumL_e, DL.ownR_e, DL.lc_e, DL.tYes_e, List.map_cons, List.map_nil, List.nil_append, List.cons_append, List.length_cons, List.length_nil, List.set_cons_zero, List.set_cons_succ, ite_self, reduceIte, noL_none, noL_bool, noL_int, noL_str, noL_list, noL_tuple, noLs_nil, noLs_cons, Bool.true_and, Bool.false_and, Bool.and_true, Bool.and_self, Bool.false_eq_true, Bool.not_true, Bool.not_false, List.replicate_succ, List.replicate_zero, DL.opEq_e, DL.flip_e, DL.opNe_e, DL.opIn_e, DL.opNotIn_e, DL.opLt_e, DL.opAdd_e, DL.opMul_e, DL.opIx_e, DL.opIsN_e, DL.opNotN_e, DL.opNeg_e, DL.opLe_e, DL.opGt_e, DL.opGe_e, DL.opSub_e, DL.vLt_int, DL.vEq_int, DL.vAdd_int, DL.vAdd_list, DL.vAdd_tuple, DL.vLen_tuple, DL.vLen_list, DL.vInt_int, DL.vTuple_list, DL.vTuple_tuple, DL.vList_list, DL.vList_tuple, DL.vRev_list, DL.vRev_tuple, DL.vCut_list, DL.vCut_tuple, DL.f1_e, DL.f2_e, DL.isNon_none, DL.isNon_int, DL.isi_int, DL.isi_bool, DL.isi_tuple, DL.isi_list, DL.isi_str, DL.isi_dict, isRow, isT, c1, all_bools, hc]
    | true =>
      have c2 : ∀ ρ : En, ρ = [some (.dat (.tuple xs)), some (.dat (.int m)), none, none, none] → lcK [3, 4] (bT [3, 4]) tYes (bin2 opLt (rdv 3) (rdv 4)) ρ (List.zipWith pairD (cutD xs none (some (-1))) (cutD xs (some 1) none)) = .ok (.own ((List.zipWith pairD xs (xs.drop 1)).map fun d => .bool (ltD (fst' d) (snd' d)))) := by
        intro ρ e
        subst e
        rw [cutD_init, show ((1 : Int)) = ((1 : Nat) : Int) from rfl, cutD_from, zip_init]
        refine lcK_map _ (by rw [List.length_zipWith]; omega) fun z hz => ?_
        obtain ⟨x, y, hx, hy, rfl⟩ := zip_mem hz
        refine ⟨_, rfl, rfl, ?_⟩
        obtain ⟨i, j, rfl, _⟩ := isPr_iff.mp (List.all_eq_true.mp hc x hx)
        obtain ⟨k, l, rfl, _⟩ := isPr_iff.mp (List.all_eq_true.mp hc y (List.mem_of_mem_drop hy))
        simp only [wipeE, DL.sel_true, DL.sel_false, DL.sel_self, DL.okb, DL.excb, DL.badb, DL.pickb, DL.okp, DL.pickp, DL.ddat, DL.down, DL.sdat, DL.sown, DL.sraw, DL.spot, DL.gdat, DL.gown, DL.graw, DL.gpot, DL.asBb, DL.asIi, DL.kBok, DL.noxok, DL.datas0, DL.frz1_own, DL.frz1_dat, DL.frz1_raw, DL.frz1_pot, DL.frz1_none, DL.frz1_nil, DL.frz1_succ, DL.frz_nil, DL.frz_cons, DL.rdv_dat, DL.rdv_raw, DL.rdv_pot, DL.rdv_succ, DL.rtnV_zero, DL.rtnV_succ, DL.ownAt_zero, DL.ownAt_succ, DL.startE_eq, DL.seq_e, DL.seqK_nx, DL.seqK_ret, DL.seqK_brk, DL.seqK_cont, DL.asg_e, DL.asgK_e, DL.rtn_e, DL.rtnK_e, DL.rtnN_e, DL.exs_e, DL.exsK_e, DL.ifs_e, DL.ifsK_true, DL.ifsK_false, DL.skip_e, DL.brkS_e, DL.contS_e, DL.badS_e, DL.body_e, DL.fin_ret, DL.fin_nx, DL.app1_e, DL.app1K_e, DL.app_e, DL.appO_e, DL.appW_e, DL.appD_e, DL.asg2_e, DL.asg2K_e, DL.asg2L_e, DL.unp_e, DL.unpW_e, DL.unpD_e, DL.goOn_some, DL.goOn_none, DL.bT_e, DL.setL_cons, DL.setL_nil, DL.bN_e, DL.sto1_e, DL.sto_e, DL.stoW_e, DL.stoD_e, DL.sto2_e, DL.sto2K_e, DL.sto2W_e, DL.sto2I_e, DL.sto1K_e, DL.atK_e, DL.ali_e, DL.aliK_true, DL.aliK_false, DL.ali1_e, DL.ali1B_e, DL.ali1O_e, DL.ali1W_e, DL.ali1D_e, DL.forS_e, DL.forK_e, DL.loopB_some, DL.loopK_nx, DL.loopK_cont, DL.loopK_brk, DL.loopK_ret, DL.bin2_e, DL.binK_e, DL.binL_e, DL.un1_e, DL.unK_e, DL.tst_e, DL.tand_e, DL.tandK_true, DL.tandK_false, DL.tor_e, DL.torK_true, DL.torK_false, DL.tnot_e, DL.notK_e, DL.vand_e, DL.vandK_e, DL.vandL_true, DL.vandL_false, DL.vor_e, DL.vorK_e, DL.vorL_true, DL.vorL_false, DL.vnot_e, DL.vnotK_e, DL.vnotL_e, DL.vif_e, DL.vifK_true, DL.vifK_false, DL.anil_e, DL.acons_e, DL.aconsK_e, DL.aconsL_e, DL.call_e, DL.ccall_e, DL.ccallK1, DL.ccallK2, DL.ccallK3, DL.ccallK4, DL.sub_e, DL.subK_e, DL.subH_e, DL.cutK_e, DL.cutL_e, DL.oN_e, DL.oS_e, DL.oSK_e, DL.oI_e, DL.rev_e, DL.revK_e, DL.tup_e, DL.lst_e, DL.mkTup_e, DL.mkLst_e, DL.tupD_e, DL.lstD_e, DL.datas_e, DL.datasK_e, DL.kN_e, DL.kB_e, DL.kI_e, DL.kS_e, DL.kT_e, DL.kD0_e, DL.chainI_e, DL.chA_e, DL.chB_e, DL.chI_e, DL.chJ_e, DL.chG_true, DL.chG_false, DL.chY_e, DL.chC_e, DL.sSeq_e, DL.seqSrc_e, DL.asItems_list, DL.asItems_tuple, DL.sRng1_e, DL.rngW_e, DL.rngI_e, DL.sRng2_e, DL.rngK_e, DL.rngWW_e, DL.rngWI_e, DL.rngJ_e, DL.sZip_e, DL.zipK_e, DL.zipW_e, DL.zipA_e, DL.zipD_list, DL.zipD_tuple, DL.sEnum_e, DL.enumW_e, DL.enumV_e, DL.asList_e, DL.enumL_e, DL.ownR_e, DL.lc_e, DL.tYes_e, List.map_cons, List.map_nil, List.nil_append, List.cons_append, List.length_cons, List.length_nil, List.set_cons_zero, List.set_cons_succ, ite_self, reduceIte, noL_none, noL_bool, noL_int, noL_str, noL_list, noL_tuple, noLs_nil, noLs_cons, Bool.true_and, Bool.false_and, Bool.and_true, Bool.and_self, Bool.false_eq_true, Bool.not_true, Bool.not_false, List.replicate_succ, List.replicate_zero, DL.opEq_e, DL.flip_e, DL.opNe_e, DL.opIn_e, DL.opNotIn_e, DL.opLt_e, DL.opAdd_e, DL.opMul_e, DL.opIx_e, DL.opIsN_e, DL.opNotN_e, DL.opNeg_e, DL.opLe_e, DL.opGt_e, DL.opGe_e, DL.opSub_e, DL.vLt_int, DL.vEq_int, DL.vAdd_int, DL.vAdd_list, DL.vAdd_tuple, DL.vLen_tuple, DL.vLen_list, DL.vInt_int, DL.vTuple_list, DL.vTuple_tuple, DL.vList_list, DL.vList_tuple, DL.vRev_list, DL.vRev_tuple, DL.vCut_list, DL.vCut_tuple, DL.f1_e, DL.f2_e, DL.isNon_none, DL.isNon_int, DL.isi_int, DL.isi_bool, DL.isi_tuple, DL.isi_list, DL.isi_str, DL.isi_dict, pairD, fst', snd', vLt_ok vLt_pairs]
      have c3 : vAll (.list ((List.zipWith pairD xs (xs.drop 1)).map fun d => .bool (ltD (fst' d) (snd' d)))) = .ok (.dat (.bool (adj xs))) := by
        rw [zip_adj, vAll_bools]
        rfl
      simp only [g_are_pairs, b_are_pairs, DL.sel_true, DL.sel_false, DL.sel_self, DL.okb, DL.excb, DL.badb, DL.pickb, DL.okp, DL.pickp, DL.ddat, DL.down, DL.sdat, DL.sown, DL.sraw, DL.spot, DL.gdat, DL.gown, DL.graw, DL.gpot, DL.asBb, DL.asIi, DL.kBok, DL.noxok, DL.datas0, DL.frz1_own, DL.frz1_dat, DL.frz1_raw, DL.frz1_pot, DL.frz1_none, DL.frz1_nil, DL.frz1_succ, DL.frz_nil, DL.frz_cons, DL.rdv_dat, DL.rdv_raw, DL.rdv_pot, DL.rdv_succ, DL.rtnV_zero, DL.rtnV_succ, DL.ownAt_zero, DL.ownAt_succ, DL.startE_eq, DL.seq_e, DL.seqK_nx, DL.seqK_ret, DL.seqK_brk, DL.seqK_cont, DL.asg_e, DL.asgK_e, DL.rtn_e, DL.rtnK_e, DL.rtnN_e, DL.exs_e, DL.exsK_e, DL.ifs_e, DL.ifsK_true, DL.ifsK_false, DL.skip_e, DL.brkS_e, DL.contS_e, DL.badS_e, DL.body_e, DL.fin_ret, DL.fin_nx, DL.app1_e, DL.app1K_e, DL.app_e, DL.appO_e, DL.appW_e, DL.appD_e, DL.asg2_e, DL.asg2K_e, DL.asg2L_e, DL.unp_e, DL.unpW_e, DL.unpD_e, DL.goOn_some, DL.goOn_none, DL.bT_e, DL.setL_cons, DL.setL_nil, DL.bN_e, DL.sto1_e, DL.sto_e, DL.stoW_e, DL.stoD_e, DL.sto2_e, DL.sto2K_e, DL.sto2W_e, DL.sto2I_e, DL.sto1K_e, DL.atK_e, DL.ali_e, DL.aliK_true, DL.aliK_false, DL.ali1_e, DL.ali1B_e, DL.ali1O_e, DL.ali1W_e, DL.ali1D_e, DL.forS_e, DL.forK_e, DL.loopB_some, DL.loopK_nx, DL.loopK_cont, DL.loopK_brk, DL.loopK_ret, DL.bin2_e, DL.binK_e, DL.binL_e, DL.un1_e, DL.unK_e, DL.tst_e, DL.tand_e, DL.tandK_true, DL.tandK_false, DL.tor_e, DL.torK_true, DL.torK_false, DL.tnot_e, DL.notK_e, DL.vand_e, DL.vandK_e, DL.vandL_true, DL.vandL_false, DL.vor_e, DL.vorK_e, DL.vorL_true, DL.vorL_false, DL.vnot_e, DL.vnotK_e, DL.vnotL_e, DL.vif_e, DL.vifK_true, DL.vifK_false, DL.anil_e, DL.acons_e, DL.aconsK_e, DL.aconsL_e, DL.call_e, DL.ccall_e, DL.ccallK1, DL.ccallK2, DL.ccallK3, DL.ccallK4, DL.sub_e, DL.subK_e, DL.subH_e, DL.cutK_e, DL.cutL_e, DL.oN_e, DL.oS_e, DL.oSK_e, DL.oI_e, DL.rev_e, DL.revK_e, DL.tup_e, DL.lst_e, DL.mkTup_e, DL.mkLst_e, DL.tupD_e, DL.lstD_e, DL.datas_e, DL.datasK_e, DL.kN_e, DL.kB_e, DL.kI_e, DL.kS_e, DL.kT_e, DL.kD0_e, DL.chainI_e, DL.chA_e, DL.chB_e, DL.chI_e, DL.chJ_e, DL.chG_true, DL.chG_false, DL.chY_e, DL.chC_e, DL.sSeq_e, DL.seqSrc_e, DL.asItems_list, DL.asItems_tuple, DL.sRng1_e, DL.rngW_e, DL.rngI_e, DL.sRng2_e, DL.rngK_e, DL.rngWW_e, DL.rngWI_e, DL.rngJ_e, DL.sZip_e, DL.zipK_e, DL.zipW_e, DL.zipA_e, DL.zipD_list, DL.zipD_tuple, DL.sEnum_e, DL.enumW_e, DL.enumV_e, DL.asList_e, DL.enumL_e, DL.ownR_e, DL.lc_e, DL.tYes_e, List.map_cons, List.map_nil, List.nil_append, List.cons_append, List.length_cons, List.length_nil, List.set_cons_zero, List.set_cons_succ, ite_self, reduceIte, noL_none, noL_bool, noL_int, noL_str, noL_list, noL_tuple, noLs_nil, noLs_cons, Bool.true_and, Bool.false_and, Bool.and_true, Bool.and_self, Bool.false_eq_true, Bool.not_true, Bool.not_false, List.replicate_succ, List.replicate_zero, DL.opEq_e, DL.flip_e, DL.opNe_e, DL.opIn_e, DL.opNotIn_e, DL.opLt_e, DL.opAdd_e, DL.opMul_e, DL.opIx_e, DL.opIsN_e, DL.opNotN_e, DL.opNeg_e, DL.opLe_e, DL.opGt_e, DL.opGe_e, DL.opSub_e, DL.vLt_int, DL.vEq_int, DL.vAdd_int, DL.vAdd_list, DL.vAdd_tuple, DL.vLen_tuple, DL.vLen_list, DL.vInt_int, DL.vTuple_list, DL.vTuple_tuple, DL.vList_list, DL.vList_tuple, DL.vRev_list, DL.vRev_tuple, DL.vCut_list, DL.vCut_tuple, DL.f1_e, DL.f2_e, DL.isNon_none, DL.isNon_int, DL.isi_int, DL.isi_bool, DL.isi_tuple, DL.isi_list, DL.isi_str, DL.isi_dict, isRow, isT, c1, all_bools, hc, c2, c3]
  | _ => simp only [g_are_pairs, b_are_pairs, DL.sel_true, DL.sel_false, DL.sel_self, DL.okb, DL.excb, DL.badb, DL.pickb, DL.okp, DL.pickp, DL.ddat, DL.down, DL.sdat, DL.sown, DL.sraw, DL.spot, DL.gdat, DL.gown, DL.graw, DL.gpot, DL.asBb, DL.asIi, DL.kBok, DL.noxok, DL.datas0, DL.frz1_own, DL.frz1_dat, DL.frz1_raw, DL.frz1_pot, DL.frz1_none, DL.frz1_nil, DL.frz1_succ, DL.frz_nil, DL.frz_cons, DL.rdv_dat, DL.rdv_raw, DL.rdv_pot, DL.rdv_succ, DL.rtnV_zero, DL.rtnV_succ, DL.ownAt_zero, DL.ownAt_succ, DL.startE_eq, DL.seq_e, DL.seqK_nx, DL.seqK_ret, DL.seqK_brk, DL.seqK_cont, DL.asg_e, DL.asgK_e, DL.rtn_e, DL.rtnK_e, DL.rtnN_e, DL.exs_e, DL.exsK_e, DL.ifs_e, DL.ifsK_true, DL.ifsK_false, DL.skip_e, DL.brkS_e, DL.contS_e, DL.badS_e, DL.body_e, DL.fin_ret, DL.fin_nx, DL.app1_e, DL.app1K_e, DL.app_e, DL.appO_e, DL.appW_e, DL.appD_e, DL.asg2_e, DL.asg2K_e, DL.asg2L_e, DL.unp_e, DL.unpW_e, DL.unpD_e, DL.goOn_some, DL.goOn_none, DL.bT_e, DL.setL_cons, DL.setL_nil, DL.bN_e, DL.sto1_e, DL.sto_e, DL.stoW_e, DL.stoD_e, DL.sto2_e, DL.sto2K_e, DL.sto2W_e, DL.sto2I_e, DL.sto1K_e, DL.atK_e, DL.ali_e, DL.aliK_true, DL.aliK_false, DL.ali1_e, DL.ali1B_e, DL.ali1O_e, DL.ali1W_e, DL.ali1D_e, DL.forS_e, DL.forK_e, DL.loopB_some, DL.loopK_nx, DL.loopK_cont, DL.loopK_brk, DL.loopK_ret, DL.bin2_e, DL.binK_e, DL.binL_e, DL.un1_e, DL.unK_e, DL.tst_e, DL.tand_e, DL.tandK_true, DL.tandK_false, DL.tor_e, DL.torK_true, DL.torK_false, DL.tnot_e, DL.notK_e, DL.vand_e, DL.vandK_e, DL.vandL_true, DL.vandL_false, DL.vor_e, DL.vorK_e, DL.vorL_true, DL.vorL_false, DL.vnot_e, DL.vnotK_e, DL.vnotL_e, DL.vif_e, DL.vifK_true, DL.vifK_false, DL.anil_e, DL.acons_e, DL.aconsK_e, DL.aconsL_e, DL.call_e, DL.ccall_e, DL.ccallK1, DL.ccallK2, DL.ccallK3, DL.ccallK4, DL.sub_e, DL.subK_e, DL.subH_e, DL.cutK_e, DL.cutL_e, DL.oN_e, DL.oS_e, DL.oSK_e, DL.oI_e, DL.rev_e, DL.revK_e, DL.tup_e, DL.lst_e, DL.mkTup_e, DL.mkLst_e, DL.tupD_e, DL.lstD_e, DL.datas_e, DL.datasK_e, DL.kN_e, DL.kB_e, DL.kI_e, DL.kS_e, DL.kT_e, DL.kD0_e, DL.chainI_e, DL.chA_e, DL.chB_e, DL.chI_e, DL.chJ_e, DL.chG_true, DL.chG_false, DL.chY_e, DL.chC_e, DL.sSeq_e, DL.seqSrc_e, DL.asItems_list, DL.asItems_tuple, DL.sRng1_e, DL.rngW_e, DL.rngI_e, DL.sRng2_e, DL.rngK_e, DL.rngWW_e, DL.rngWI_e, DL.rngJ_e, DL.sZip_e, DL.zipK_e, DL.zipW_e, DL.zipA_e, DL.zipD_list, DL.zipD_tuple, DL.sEnum_e, DL.enumW_e, DL.enumV_e, DL.asList_e, DL.enumL_e, DL.ownR_e, DL.lc_e, DL.tYes_e, List.map_cons, List.map_nil, List.nil_append, List.cons_append, List.length_cons, List.length_nil, List.set_cons_zero, List.set_cons_succ, ite_self, reduceIte, noL_none, noL_bool, noL_int, noL_str, noL_list, noL_tuple, noLs_nil, noLs_cons, Bool.true_and, Bool.false_and, Bool.and_true, Bool.and_self, Bool.false_eq_true, Bool.not_true, Bool.not_false, List.replicate_succ, List.replicate_zero, DL.opEq_e, DL.flip_e, DL.opNe_e, DL.opIn_e, DL.opNotIn_e, DL.opLt_e, DL.opAdd_e, DL.opMul_e, DL.opIx_e, DL.opIsN_e, DL.opNotN_e, DL.opNeg_e, DL.opLe_e, DL.opGt_e, DL.opGe_e, DL.opSub_e, DL.vLt_int, DL.vEq_int, DL.vAdd_int, DL.vAdd_list, DL.vAdd_tuple, DL.vLen_tuple, DL.vLen_list, DL.vInt_int, DL.vTuple_list, DL.vTuple_tuple, DL.vList_list, DL.vList_tuple, DL.vRev_list, DL.vRev_tuple, DL.vCut_list, DL.vCut_tuple, DL.f1_e, DL.f2_e, DL.isNon_none, DL.isNon_int, DL.isi_int, DL.isi_bool, DL.isi_tuple, DL.isi_list, DL.isi_str, DL.isi_dict, isT, isRow]
theorem r_is_number (d : D) : g_is_number [.dat d] = .ok (.dat (.bool (isNm d))) := by
  cases d with
  | none => simp only [g_is_number, b_is_number, DL.sel_true, DL.sel_false, DL.sel_self, DL.okb, DL.excb, DL.badb, DL.pickb, DL.okp, DL.pickp, DL.ddat, DL.down, DL.sdat, DL.sown, DL.sraw, DL.spot, DL.gdat, DL.gown, DL.graw, DL.gpot, DL.asBb, DL.asIi, DL.kBok, DL.noxok, DL.datas0, DL.frz1_own, DL.frz1_dat, DL.frz1_raw, DL.frz1_pot, DL.frz1_none, DL.frz1_nil, DL.frz1_succ, DL.frz_nil, DL.frz_cons, DL.rdv_dat, DL.rdv_raw, DL.rdv_pot, DL.rdv_succ, DL.rtnV_zero, DL.rtnV_succ, DL.ownAt_zero, DL.ownAt_succ, DL.startE_eq, DL.seq_e, DL.seqK_nx, DL.seqK_ret, DL.seqK_brk, DL.seqK_cont, DL.asg_e, DL.asgK_e, DL.rtn_e, DL.rtnK_e, DL.rtnN_e, DL.exs_e, DL.exsK_e, DL.ifs_e, DL.ifsK_true, DL.ifsK_false, DL.skip_e, DL.brkS_e, DL.contS_e, DL.badS_e, DL.body_e, DL.fin_ret, DL.fin_nx, DL.app1_e, DL.app1K_e, DL.app_e, DL.appO_e, DL.appW_e, DL.appD_e, DL.asg2_e, DL.asg2K_e, DL.asg2L_e, DL.unp_e, DL.unpW_e, DL.unpD_e, DL.goOn_some, DL.goOn_none, DL.bT_e, DL.setL_cons, DL.setL_nil, DL.bN_e, DL.sto1_e, DL.sto_e, DL.stoW_e, DL.stoD_e, DL.sto2_e, DL.sto2K_e, DL.sto2W_e, DL.sto2I_e, DL.sto1K_e, DL.atK_e, DL.ali_e, DL.aliK_true, DL.aliK_false, DL.ali1_e, DL.ali1B_e, DL.ali1O_e, DL.ali1W_e, DL.ali1D_e, DL.forS_e, DL.forK_e, DL.loopB_some, DL.loopK_nx, DL.loopK_cont, DL.loopK_brk, DL.loopK_ret, DL.bin2_e, DL.binK_e, DL.binL_e, DL.un1_e, DL.unK_e, DL.tst_e, DL.tand_e, DL.tandK_true, DL.tandK_false, DL.tor_e, DL.torK_true, DL.torK_false, DL.tnot_e, DL.notK_e, DL.vand_e, DL.vandK_e, DL.vandL_true, DL.vandL_false, DL.vor_e, DL.vorK_e, DL.vorL_true, DL.vorL_false, DL.vnot_e, DL.vnotK_e, DL.vnotL_e, DL.vif_e, DL.vifK_true, DL.vifK_false, DL.anil_e, DL.acons_e, DL.aconsK_e, DL.aconsL_e, DL.call_e, DL.ccall_e, DL.ccallK1, DL.ccallK2, DL.ccallK3, DL.ccallK4, DL.sub_e, DL.subK_e, DL.subH_e, DL.cutK_e, DL.cutL_e, DL.oN_e, DL.oS_e, DL.oSK_e, DL.oI_e, DL.rev_e, DL.revK_e, DL.tup_e, DL.lst_e, DL.mkTup_e, DL.mkLst_e, DL.tupD_e, DL.lstD_e, DL.datas_e, DL.datasK_e, DL.kN_e, DL.kB_e, DL.kI_e, DL.kS_e, DL.kT_e, DL.kD0_e, DL.chainI_e, DL.chA_e, DL.chB_e, DL.chI_e, DL.chJ_e, DL.chG_true, DL.chG_false, DL.chY_e, DL.chC_e, DL.sSeq_e, DL.seqSrc_e, DL.asItems_list, DL.asItems_tuple, DL.sRng1_e, DL.rngW_e, DL.rngI_e, DL.sRng2_e, DL.rngK_e, DL.rngWW_e, DL.rngWI_e, DL.rngJ_e, DL.sZip_e, DL.zipK_e, DL.zipW_e, DL.zipA_e, DL.zipD_list, DL.zipD_tuple, DL.sEnum_e, DL.enumW_e, DL.enumV_e, DL.asList_e, DL.enumL_e, DL.ownR_e, DL.lc_e, DL.tYes_e, List.map_cons, List.map_nil, List.nil_append, List.cons_append, List.length_cons, List.length_nil, List.set_cons_zero, List.set_cons_succ, ite_self, reduceIte, noL_none, noL_bool, noL_int, noL_str, noL_list, noL_tuple, noLs_nil, noLs_cons, Bool.true_and, Bool.false_and, Bool.and_true, Bool.and_self, Bool.false_eq_true, Bool.not_true, Bool.not_false, List.replicate_succ, List.replicate_zero, DL.opEq_e, DL.flip_e, DL.opNe_e, DL.opIn_e, DL.opNotIn_e, DL.opLt_e, DL.opAdd_e, DL.opMul_e, DL.opIx_e, DL.opIsN_e, DL.opNotN_e, DL.opNeg_e, DL.opLe_e, DL.opGt_e, DL.opGe_e, DL.opSub_e, DL.vLt_int, DL.vEq_int, DL.vAdd_int, DL.vAdd_list, DL.vAdd_tuple, DL.vLen_tuple, DL.vLen_list, DL.vInt_int, DL.vTuple_list, DL.vTuple_tuple, DL.vList_list, DL.vList_tuple, DL.vRev_list, DL.vRev_tuple, DL.vCut_list, DL.vCut_tuple, DL.f1_e, DL.f2_e, DL.isNon_none, DL.isNon_int, DL.isi_int, DL.isi_bool, DL.isi_tuple, DL.isi_list, DL.isi_str, DL.isi_dict, r_is_count, isCnt, isNm, isNon]
  | int i =>
    cases h : decide (0 ≤ i) <;> simp only [g_is_number, b_is_number, DL.sel_true, DL.sel_false, DL.sel_self, DL.okb, DL.excb, DL.badb, DL.pickb, DL.okp, DL.pickp, DL.ddat, DL.down, DL.sdat, DL.sown, DL.sraw, DL.spot, DL.gdat, DL.gown, DL.graw, DL.gpot, DL.asBb, DL.asIi, DL.kBok, DL.noxok, DL.datas0, DL.frz1_own, DL.frz1_dat, DL.frz1_raw, DL.frz1_pot, DL.frz1_none, DL.frz1_nil, DL.frz1_succ, DL.frz_nil, DL.frz_cons, DL.rdv_dat, DL.rdv_raw, DL.rdv_pot, DL.rdv_succ, DL.rtnV_zero, DL.rtnV_succ, DL.ownAt_zero, DL.ownAt_succ, DL.startE_eq, DL.seq_e, DL.seqK_nx, DL.seqK_ret, DL.seqK_brk, DL.seqK_cont, DL.asg_e, DL.asgK_e, DL.rtn_e, DL.rtnK_e, DL.rtnN_e, DL.exs_e, DL.exsK_e, DL.ifs_e, DL.ifsK_true, DL.ifsK_false, DL.skip_e, DL.brkS_e, DL.contS_e, DL.badS_e, DL.body_e, DL.fin_ret, DL.fin_nx, DL.app1_e, DL.app1K_e, DL.app_e, DL.appO_e, DL.appW_e, DL.appD_e, DL.asg2_e, DL.asg2K_e, DL.asg2L_e, DL.unp_e, DL.unpW_e, DL.unpD_e, DL.goOn_some, DL.goOn_none, DL.bT_e, DL.setL_cons, DL.setL_nil, DL.bN_e, DL.sto1_e, DL.sto_e, DL.stoW_e, DL.stoD_e, DL.sto2_e, DL.sto2K_e, DL.sto2W_e, DL.sto2I_e, DL.sto1K_e, DL.atK_e, DL.ali_e, DL.aliK_true, DL.aliK_false, DL.ali1_e, DL.ali1B_e, DL.ali1O_e, DL.ali1W_e, DL.ali1D_e, DL.forS_e, DL.forK_e, DL.loopB_some, DL.loopK_nx, DL.loopK_cont, DL.loopK_brk, DL.loopK_ret, DL.bin2_e, DL.binK_e, DL.binL_e, DL.un1_e, DL.unK_e, DL.tst_e, DL.tand_e, DL.tandK_true, DL.tandK_false, DL.tor_e, DL.torK_true, DL.torK_false, DL.tnot_e, DL.notK_e, DL.vand_e, DL.vandK_e, DL.vandL_true, DL.vandL_false, DL.vor_e, DL.vorK_e, DL.vorL_true, DL.vorL_false, DL.vnot_e, DL.vnotK_e, DL.vnotL_e, DL.vif_e, DL.vifK_true, DL.vifK_false, DL.anil_e, DL.acons_e, DL.aconsK_e, DL.aconsL_e, DL.call_e, DL.ccall_e, DL.ccallK1, DL.ccallK2, DL.ccallK3, DL.ccallK4, DL.sub_e, DL.subK_e, DL.subH_e, DL.cutK_e, DL.cutL_e, DL.oN_e, DL.oS_e, DL.oSK_e, DL.oI_e, DL.rev_e, DL.revK_e, DL.tup_e, DL.lst_e, DL.mkTup_e, DL.mkLst_e, DL.tupD_e, DL.lstD_e, DL.datas_e, DL.datasK_e, DL.kN_e, DL.kB_e, DL.kI_e, DL.kS_e, DL.kT_e, DL.kD0_e, DL.chainI_e, DL.chA_e, DL.chB_e, DL.chI_e, DL.chJ_e, DL.chG_true, DL.chG_false, DL.chY_e, DL.chC_e, DL.sSeq_e, DL.seqSrc_e, DL.asItems_list, DL.asItems_tuple, DL.sRng1_e, DL.rngW_e, DL.rngI_e, DL.sRng2_e, DL.rngK_e, DL.rngWW_e, DL.rngWI_e, DL.rngJ_e, DL.sZip_e, DL.zipK_e, DL.zipW_e, DL.zipA_e, DL.zipD_list, DL.zipD_tuple, DL.sEnum_e, DL.enumW_e, DL.enumV_e, DL.asList_e, DL.enumL_e, DL.ownR_e, DL.lc_e, DL.tYes_e, List.map_cons, List.map_nil, List.nil_append, List.cons_append, List.length_cons, List.length_nil, List.set_cons_zero, List.set_cons_succ, ite_self, reduceIte, noL_none, noL_bool, noL_int, noL_str, noL_list, noL_tuple, noLs_nil, noLs_cons, Bool.true_and, Bool.false_and, Bool.and_true, Bool.and_self, Bool.false_eq_true, Bool.not_true, Bool.not_false, List.replicate_succ, List.replicate_zero, DL.opEq_e, DL.flip_e, DL.opNe_e, DL.opIn_e, DL.opNotIn_e, DL.opLt_e, DL.opAdd_e, DL.opMul_e, DL.opIx_e, DL.opIsN_e, DL.opNotN_e, DL.opNeg_e, DL.opLe_e, DL.opGt_e, DL.opGe_e, DL.opSub_e, DL.vLt_int, DL.vEq_int, DL.vAdd_int, DL.vAdd_list, DL.vAdd_tuple, DL.vLen_tuple, DL.vLen_list, DL.vInt_int, DL.vTuple_list, DL.vTuple_tuple, DL.vList_list, DL.vList_tuple, DL.vRev_list, DL.vRev_tuple, DL.vCut_list, DL.vCut_tuple, DL.f1_e, DL.f2_e, DL.isNon_none, DL.isNon_int, DL.isi_int, DL.isi_bool, DL.isi_tuple, DL.isi_list, DL.isi_str, DL.isi_dict, r_is_count, isCnt, isNm, isNon, h]
  | _ => simp only [g_is_number, b_is_number, DL.sel_true, DL.sel_false, DL.sel_self, DL.okb, DL.excb, DL.badb, DL.pickb, DL.okp, DL.pickp, DL.ddat, DL.down, DL.sdat, DL.sown, DL.sraw, DL.spot, DL.gdat, DL.gown, DL.graw, DL.gpot, DL.asBb, DL.asIi, DL.kBok, DL.noxok, DL.datas0, DL.frz1_own, DL.frz1_dat, DL.frz1_raw, DL.frz1_pot, DL.frz1_none, DL.frz1_nil, DL.frz1_succ, DL.frz_nil, DL.frz_cons, DL.rdv_dat, DL.rdv_raw, DL.rdv_pot, DL.rdv_succ, DL.rtnV_zero, DL.rtnV_succ, DL.ownAt_zero, DL.ownAt_succ, DL.startE_eq, DL.seq_e, DL.seqK_nx, DL.seqK_ret, DL.seqK_brk, DL.seqK_cont, DL.asg_e, DL.asgK_e, DL.rtn_e, DL.rtnK_e, DL.rtnN_e, DL.exs_e, DL.exsK_e, DL.ifs_e, DL.ifsK_true, DL.ifsK_false, DL.skip_e, DL.brkS_e, DL.contS_e, DL.badS_e, DL.body_e, DL.fin_ret, DL.fin_nx, DL.app1_e, DL.app1K_e, DL.app_e, DL.appO_e, DL.appW_e, DL.appD_e, DL.asg2_e, DL.asg2K_e, DL.asg2L_e, DL.unp_e, DL.unpW_e, DL.unpD_e, DL.goOn_some, DL.goOn_none, DL.bT_e, DL.setL_cons, DL.setL_nil, DL.bN_e, DL.sto1_e, DL.sto_e, DL.stoW_e, DL.stoD_e, DL.sto2_e, DL.sto2K_e, DL.sto2W_e, DL.sto2I_e, DL.sto1K_e, DL.atK_e, DL.ali_e, DL.aliK_true, DL.aliK_false, DL.ali1_e, DL.ali1B_e, DL.ali1O_e, DL.ali1W_e, DL.ali1D_e, DL.forS_e, DL.forK_e, DL.loopB_some, DL.loopK_nx, DL.loopK_cont, DL.loopK_brk, DL.loopK_ret, DL.bin2_e, DL.binK_e, DL.binL_e, DL.un1_e, DL.unK_e, DL.tst_e, DL.tand_e, DL.tandK_true, DL.tandK_false, DL.tor_e, DL.torK_true, DL.torK_false, DL.tnot_e, DL.notK_e, DL.vand_e, DL.vandK_e, DL.vandL_true, DL.vandL_false, DL.vor_e, DL.vorK_e, DL.vorL_true, DL.vorL_false, DL.vnot_e, DL.vnotK_e, DL.vnotL_e, DL.vif_e, DL.vifK_true, DL.vifK_false, DL.anil_e, DL.acons_e, DL.aconsK_e, DL.aconsL_e, DL.call_e, DL.ccall_e, DL.ccallK1, DL.ccallK2, DL.ccallK3, DL.ccallK4, DL.sub_e, DL.subK_e, DL.subH_e, DL.cutK_e, DL.cutL_e, DL.oN_e, DL.oS_e, DL.oSK_e, DL.oI_e, DL.rev_e, DL.revK_e, DL.tup_e, DL.lst_e, DL.mkTup_e, DL.mkLst_e, DL.tupD_e, DL.lstD_e, DL.datas_e, DL.datasK_e, DL.kN_e, DL.kB_e, DL.kI_e, DL.kS_e, DL.kT_e, DL.kD0_e, DL.chainI_e, DL.chA_e, DL.chB_e, DL.chI_e, DL.chJ_e, DL.chG_true, DL.chG_false, DL.chY_e, DL.chC_e, DL.sSeq_e, DL.seqSrc_e, DL.asItems_list, DL.asItems_tuple, DL.sRng1_e, DL.rngW_e, DL.rngI_e, DL.sRng2_e, DL.rngK_e, DL.rngWW_e, DL.rngWI_e, DL.rngJ_e, DL.sZip_e, DL.zipK_e, DL.zipW_e, DL.zipA_e, DL.zipD_list, DL.zipD_tuple, DL.sEnum_e, DL.enumW_e, DL.enumV_e, DL.asList_e, DL.enumL_e, DL.ownR_e, DL.lc_e, DL.tYes_e, List.map_cons, List.map_nil, List.nil_append, List.cons_append, List.length_cons, List.length_nil, List.set_cons_zero, List.set_cons_succ, ite_self, reduceIte, noL_none, noL_bool, noL_int, noL_str, noL_list, noL_tuple, noLs_nil, noLs_cons, Bool.true_and, Bool.false_and, Bool.and_true, Bool.and_self, Bool.false_eq_true, Bool.not_true, Bool.not_false, List.replicate_succ, List.replicate_zero, DL.opEq_e, DL.flip_e, DL.opNe_e, DL.opIn_e, DL.opNotIn_e, DL.opLt_e, DL.opAdd_e, DL.opMul_e, DL.opIx_e, DL.opIsN_e, DL.opNotN_e, DL.opNeg_e, DL.opLe_e, DL.opGt_e, DL.opGe_e, DL.opSub_e, DL.vLt_int, DL.vEq_int, DL.vAdd_int, DL.vAdd_list, DL.vAdd_tuple, DL.vLen_tuple, DL.vLen_list, DL.vInt_int, DL.vTuple_list, DL.vTuple_tuple, DL.vList_list, DL.vList_tuple, DL.vRev_list, DL.vRev_tuple, DL.vCut_list, DL.vCut_tuple, DL.f1_e, DL.f2_e, DL.isNon_none, DL.isNon_int, DL.isi_int, DL.isi_bool, DL.isi_tuple, DL.isi_list, DL.isi_str, DL.isi_dict, r_is_count, isCnt, isNm, isNon]
theorem r_is_party (d : D) (hz : Sz 3 d) : g_is_party [.dat d] = .ok (.dat (.bool (isPty d))) := by
  cases d with
  | tuple xs =>
    by_cases hl : xs.length = 3
    · obtain ⟨x, a, b, rfl⟩ := three_of hl
      have e2 : decide (((0 + 1 + 1 + 1 : Nat) : Int) = 3) = true := rfl
      have i0 : vIx (.tuple [x, a, b]) (.int 0) = .ok (.dat x) := rfl
      have i1 : vIx (.tuple [x, a, b]) (.int 1) = .ok (.dat a) := rfl
      have i2 : vIx (.tuple [x, a, b]) (.int 2) = .ok (.dat b) := rfl
      have zx := hz.2 x (by simp [itm])
      have za := hz.2 a (by simp [itm])
      have zb := hz.2 b (by simp [itm])
      cases x with
      | tuple ns =>
        have hn : ns.length ≤ 1000000 := zx.1
        have c1 : ∀ ρ : En, ρ = [some (.dat (.tuple [.tuple ns, a, b])), none, none] → lcK [1] (bN 1) tYes (ccall 1 g_is_number (acons (rdv 1) anil)) ρ ns = .ok (.own (ns.map fun d => .bool (isNm d))) := by
          intro ρ e
          subst e
          refine lcK_map _ hn fun y hy => ⟨_, rfl, rfl, ?_⟩
          simp only [wipeE, DL.sel_true, DL.sel_false, DL.sel_self, DL.okb, DL.excb, DL.badb, DL.pickb, DL.okp, DL.pickp, DL.ddat, DL.down, DL.sdat, DL.sown, DL.sraw, DL.spot, DL.gdat, DL.gown, DL.graw, DL.gpot, DL.asBb, DL.asIi, DL.kBok, DL.noxok, DL.datas0, DL.frz1_own, DL.frz1_dat, DL.frz1_raw, DL.frz1_pot, DL.frz1_none, DL.frz1_nil, DL.frz1_succ, DL.frz_nil, DL.frz_cons, DL.rdv_dat, DL.rdv_raw, DL.rdv_pot, DL.rdv_succ, DL.rtnV_zero, DL.rtnV_succ, DL.ownAt_zero, DL.ownAt_succ, DL.startE_eq, DL.seq_e, DL.seqK_nx, DL.seqK_ret, DL.seqK_brk, DL.seqK_cont, DL.asg_e, DL.asgK_e, DL.rtn_e, DL.rtnK_e, DL.rtnN_e, DL.exs_e, DL.exsK_e, DL.ifs_e, DL.ifsK_true, DL.ifsK_false, DL.skip_e, DL.brkS_e, DL.contS_e, DL.badS_e, DL.body_e, DL.fin_ret, DL.fin_nx, DL.app1_e, DL.app1K_e, DL.app_e, DL.appO_e, DL.appW_e, DL.appD_e, DL.asg2_e, DL.asg2K_e, DL.asg2L_e, DL.unp_e, DL.unpW_e, DL.unpD_e, DL.goOn_some, DL.goOn_none, DL.bT_e, DL.setL_cons, DL.setL_nil, DL.bN_e, DL.sto1_e, DL.sto_e, DL.stoW_e, DL.stoD_e, DL.sto2_e, DL.sto2K_e, DL.sto2W_e, DL.sto2I_e, DL.sto1K_e, DL.atK_e, DL.ali_e, DL.aliK_true, DL.aliK_false, DL.ali1_e, DL.ali1B_e, DL.ali1O_e, DL.ali1W_e, DL.ali1D_e, DL.forS_e, DL.forK_e, DL.loopB_some, DL.loopK_nx, DL.loopK_cont, DL.loopK_brk, DL.loopK_ret, DL.bin2_e, DL.binK_e, DL.binL_e, DL.un1_e, DL.unK_e, DL.tst_e, DL.tand_e, DL.tandK_true, DL.tandK_false, DL.tor_e, DL.torK_true, DL.torK_false, DL.tnot_e, DL.notK_e, DL.vand_e, DL.vandK_e, DL.vandL_true, DL.vandL_false, DL.vor_e, DL.vorK_e, DL.vorL_true, DL.vorL_false, DL.vnot_e, DL.vnotK_e, DL.vnotL_e, DL.vif_e, DL.vifK_true, DL.vifK_false, DL.anil_e, DL.acons_e, DL.aconsK_e, DL.aconsL_e, DL.call_e, DL.ccall_e, DL.ccallK1, DL.ccallK2, DL.ccallK3, DL.ccallK4, DL.sub_e, DL.subK_e, DL.subH_e, DL.cutK_e, DL.cutL_e, DL.oN_e, DL.oS_e, DL.oSK_e, DL.oI_e, DL.rev_e, DL.revK_e, DL.tup_e, DL.lst_e, DL.mkTup_e, DL.mkLst_e, DL.tupD_e, DL.lstD_e, DL.datas_e, DL.datasK_e, DL.kN_e, DL.kB_e, DL.kI_e, DL.kS_e, DL.kT_e, DL.kD0_e, DL.chainI_e, DL.chA_e, DL.chB_e, DL.chI_e, DL.chJ_e, DL.chG_true, DL.chG_false, DL.chY_e, DL.chC_e, DL.sSeq_e, DL.seqSrc_e, DL.asItems_list, DL.asItems_tuple, DL.sRng1_e, DL.rngW_e, DL.rngI_e, DL.sRng2_e, DL.rngK_e, DL.rngWW_e, DL.rngWI_e, DL.rngJ_e, DL.sZip_e, DL.zipK_e, DL.zipW_e, DL.zipA_e, DL.zipD_list, DL.zipD_tuple, DL.sEnum_e, DL.enumW_e, DL.enumV_e, DL.asList_e, DL.enumL_e, DL.ownR_e, DL.lc_e, DL.tYes_e, List.map_cons, List.map_nil, List.nil_append, List.cons_append, List.length_cons, List.length_nil, List.set_cons_zero, List.set_cons_succ, ite_self, reduceIte, noL_none, noL_bool, noL_int, noL_str, noL_list, noL_tuple, noLs_nil, noLs_cons, Bool.true_and, Bool.false_and, Bool.and_true, Bool.and_self, Bool.false_eq_true, Bool.not_true, Bool.not_false, List.replicate_succ, List.replicate_zero, DL.opEq_e, DL.flip_e, DL.opNe_e, DL.opIn_e, DL.opNotIn_e, DL.opLt_e, DL.opAdd_e, DL.opMul_e, DL.opIx_e, DL.opIsN_e, DL.opNotN_e, DL.opNeg_e, DL.opLe_e, DL.opGt_e, DL.opGe_e, DL.opSub_e, DL.vLt_int, DL.vEq_int, DL.vAdd_int, DL.vAdd_list, DL.vAdd_tuple, DL.vLen_tuple, DL.vLen_list, DL.vInt_int, DL.vTuple_list, DL.vTuple_tuple, DL.vList_list, DL.vList_tuple, DL.vRev_list, DL.vRev_tuple, DL.vCut_list, DL.vCut_tuple, DL.f1_e, DL.f2_e, DL.isNon_none, DL.isNon_int, DL.isi_int, DL.isi_bool, DL.isi_tuple, DL.isi_list, DL.isi_str, DL.isi_dict, r_is_number]
        have ra := r_are_pairs a ns.length za.1 fun y hy => (za.2 y hy).1
        have rb := r_are_pairs b ns.length zb.1 fun y hy => (zb.2 y hy).1
        cases h1 : decide ((1 : Int) ≤ ns.length) with
        | false => simp only [g_is_party, b_is_party, DL.sel_true, DL.sel_false, DL.sel_self, DL.okb, DL.excb, DL.badb, DL.pickb, DL.okp, DL.pickp, DL.ddat, DL.down, DL.sdat, DL.sown, DL.sraw, DL.spot, DL.gdat, DL.gown, DL.graw, DL.gpot, DL.asBb, DL.asIi, DL.kBok, DL.noxok, DL.datas0, DL.frz1_own, DL.frz1_dat, DL.frz1_raw, DL.frz1_pot, DL.frz1_none, DL.frz1_nil, DL.frz1_succ, DL.frz_nil, DL.frz_cons, DL.rdv_dat, DL.rdv_raw, DL.rdv_pot, DL.rdv_succ, DL.rtnV_zero, DL.rtnV_succ, DL.ownAt_zero, DL.ownAt_succ, DL.startE_eq, DL.seq_e, DL.seqK_nx, DL.seqK_ret, DL.seqK_brk, DL.seqK_cont, DL.asg_e, DL.asgK_e, DL.rtn_e, DL.rtnK_e, DL.rtnN_e, DL.exs_e, DL.exsK_e, DL.ifs_e, DL.ifsK_true, DL.ifsK_false, DL.skip_e, DL.brkS_e, DL.contS_e, DL.badS_e, DL.body_e, DL.fin_ret, DL.fin_nx, DL.app1_e, DL.app1K_e, DL.app_e, DL.appO_e, DL.appW_e, DL.appD_e, DL.asg2_e, DL.asg2K_e, DL.asg2L_e, DL.unp_e, DL.unpW_e, DL.unpD_e, DL.goOn_some, DL.goOn_none, DL.bT_e, DL.setL_cons, DL.setL_nil, DL.bN_e, DL.sto1_e, DL.sto_e, DL.stoW_e, DL.stoD_e, DL.sto2_e, DL.sto2K_e, DL.sto2W_e, DL.sto2I_e, DL.sto1K_e, DL.atK_e, DL.ali_e, DL.aliK_true, DL.aliK_false, DL.ali1_e, DL.ali1B_e, DL.ali1O_e, DL.ali1W_e, DL.ali1D_e, DL.forS_e, DL.forK_e, DL.loopB_some, DL.loopK_nx, DL.loopK_cont, DL.loopK_brk, DL.loopK_ret, DL.bin2_e, DL.binK_e, DL.binL_e, DL.un1_e, DL.unK_e, DL.tst_e, DL.tand_e, DL.tandK_true, DL.tandK_false, DL.tor_e, DL.torK_true, DL.torK_false, DL.tnot_e, DL.notK_e, DL.vand_e, DL.vandK_e, DL.vandL_true, DL.vandL_false, DL.vor_e, DL.vorK_e, DL.vorL_true, DL.vorL_false, DL.vnot_e, DL.vnotK_e, DL.vnotL_e, DL.vif_e, DL.vifK_true, DL.vifK_false, DL.anil_e, DL.acons_e, DL.aconsK_e, DL.aconsL_e, DL.call_e, DL.ccall_e, DL.ccallK1, DL.ccallK2, DL.ccallK3, DL.ccallK4, DL.sub_e, DL.subK_e, DL.subH_e, DL.cutK_e, DL.cutL_e, DL.oN_e, DL.oS_e, DL.oSK_e, DL.oI_e, DL.rev_e, DL.revK_e, DL.tup_e, DL.lst_e, DL.mkTup_e, DL.mkLst_e, DL.tupD_e, DL.lstD_e, DL.datas_e, DL.datasK_e, DL.kN_e, DL.kB_e, DL.kI_e, DL.kS_e, DL.kT_e, DL.kD0_e, DL.chainI_e, DL.chA_e, DL.chB_e, DL.chI_e, DL.chJ_e, DL.chG_true, DL.chG_false, DL.chY_e, DL.chC_e, DL.sSeq_e, DL.seqSrc_e, DL.asItems_list, DL.asItems_tuple, DL.sRng1_e, DL.rngW_e, DL.rngI_e, DL.sRng2_e, DL.rngK_e, DL.rngWW_e, DL.rngWI_e, DL.rngJ_e, DL.sZip_e, DL.zipK_e, DL.zipW_e, DL.zipA_e, DL.zipD_list, DL.zipD_tuple, DL.sEnum_e, DL.enumW_e, DL.enumV_e, DL.asList_e, DL.enumL_e, DL.ownR_e, DL.lc_e, DL.tYes_e, List.map_cons, List.map_nil, List.nil_append, List.cons_append, List.length_cons, List.length_nil, List.set_cons_zero, List.set_cons_succ, ite_self, reduceIte, noL_none, noL_bool, noL_int, noL_str, noL_list, noL_tuple, noLs_nil, noLs_cons, Bool.true_and, Bool.false_and, Bool.and_true, Bool.and_self, Bool.false_eq_true, Bool.not_true, Bool.not_false, List.replicate_succ, List.replicate_zero, DL.opEq_e, DL.flip_e, DL.opNe_e, DL.opIn_e, DL.opNotIn_e, DL.opLt_e, DL.opAdd_e, DL.opMul_e, DL.opIx_e, DL.opIsN_e, DL.opNotN_e, DL.opNeg_e, DL.opLe_e, DL.opGt_e, DL.opGe_e, DL.opSub_e, DL.vLt_int, DL.vEq_int, DL.vAdd_int, DL.vAdd_list, DL.vAdd_tuple, DL.vLen_tuple, DL.vLen_list, DL.vInt_int, DL.vTuple_list, DL.vTuple_tuple, DL.vList_list, DL.vList_tuple, DL.vRev_list, DL.vRev_tuple, DL.vCut_list, DL.vCut_tuple, DL.f1_e, DL.f2_e, DL.isNon_none, DL.isNon_int, DL.isi_int, DL.isi_bool, DL.isi_tuple, DL.isi_list, DL.isi_str, DL.isi_dict, isT, isPty, e2, i0, i1, i2, h1]
        | true =>
        cases h2 : decide ((ns.length : Int) ≤ 8) with
        | false => simp only [g_is_party, b_is_party, DL.sel_true, DL.sel_false, DL.sel_self, DL.okb, DL.excb, DL.badb, DL.pickb, DL.okp, DL.pickp, DL.ddat, DL.down, DL.sdat, DL.sown, DL.sraw, DL.spot, DL.gdat, DL.gown, DL.graw, DL.gpot, DL.asBb, DL.asIi, DL.kBok, DL.noxok, DL.datas0, DL.frz1_own, DL.frz1_dat, DL.frz1_raw, DL.frz1_pot, DL.frz1_none, DL.frz1_nil, DL.frz1_succ, DL.frz_nil, DL.frz_cons, DL.rdv_dat, DL.rdv_raw, DL.rdv_pot, DL.rdv_succ, DL.rtnV_zero, DL.rtnV_succ, DL.ownAt_zero, DL.ownAt_succ, DL.startE_eq, DL.seq_e, DL.seqK_nx, DL.seqK_ret, DL.seqK_brk, DL.seqK_cont, DL.asg_e, DL.asgK_e, DL.rtn_e, DL.rtnK_e, DL.rtnN_e, DL.exs_e, DL.exsK_e, DL.ifs_e, DL.ifsK_true, DL.ifsK_false, DL.skip_e, DL.brkS_e, DL.contS_e, DL.badS_e, DL.body_e, DL.fin_ret, DL.fin_nx, DL.app1_e, DL.app1K_e, DL.app_e, DL.appO_e, DL.appW_e, DL.appD_e, DL.asg2_e, DL.asg2K_e, DL.asg2L_e, DL.unp_e, DL.unpW_e, DL.unpD_e, DL.goOn_some, DL.goOn_none, DL.bT_e, DL.setL_cons, DL.setL_nil, DL.bN_e, DL.sto1_e, DL.sto_e, DL.stoW_e, DL.stoD_e, DL.sto2_e, DL.sto2K_e, DL.sto2W_e, DL.sto2I_e, DL.sto1K_e, DL.atK_e, DL.ali_e, DL.aliK_true, DL.aliK_false, DL.ali1_e, DL.ali1B_e, DL.ali1O_e, DL.ali1W_e, DL.ali1D_e, DL.forS_e, DL.forK_e, DL.loopB_some, DL.loopK_nx, DL.loopK_cont, DL.loopK_brk, DL.loopK_ret, DL.bin2_e, DL.binK_e, DL.binL_e, DL.un1_e, DL.unK_e, DL.tst_e, DL.tand_e, DL.tandK_true, DL.tandK_false, DL.tor_e, DL.torK_true, DL.torK_false, DL.tnot_e, DL.notK_e, DL.vand_e, DL.vandK_e, DL.vandL_true, DL.vandL_false, DL.vor_e, DL.vorK_e, DL.vorL_true, DL.vorL_false, DL.vnot_e, DL.vnotK_e, DL.vnotL_e, DL.vif_e, DL.vifK_true, DL.vifK_false, DL.anil_e, DL.acons_e, DL.aconsK_e, DL.aconsL_e, DL.call_e, DL.ccall_e, DL.ccallK1, DL.ccallK2, DL.ccallK3, DL.ccallK4, DL.sub_e, DL.subK_e, DL.subH_e, DL.cutK_e, DL.cutL_e, DL.oN_e, DL.oS_e, DL.oSK_e, DL.oI_e, DL.rev_e, DL.revK_e, DL.tup_e, DL.lst_e, DL.mkTup_e, DL.mkLst_e, DL.tupD_e, DL.lstD_e, DL.datas_e, DL.datasK_e, DL.kN_e, DL.kB_e, DL.kI_e, DL.kS_e, DL.kT_e, DL.kD0_e, DL.chainI_e, DL.chA_e, DL.chB_e, DL.chI_e, DL.chJ_e, DL.chG_true, DL.chG_false, DL.chY_e, DL.chC_e, DL.sSeq_e, DL.seqSrc_e, DL.asItems_list, DL.asItems_tuple, DL.sRng1_e, DL.rngW_e, DL.rngI_e, DL.sRng2_e, DL.rngK_e, DL.rngWW_e, DL.rngWI_e, DL.rngJ_e, DL.sZip_e, DL.zipK_e, DL.zipW_e, DL.zipA_e, DL.zipD_list, DL.zipD_tuple, DL.sEnum_e, DL.enumW_e, DL.enumV_e, DL.asList_e, DL.enumL_e, DL.ownR_e, DL.lc_e, DL.tYes_e, List.map_cons, List.map_nil, List.nil_append, List.cons_append, List.length_cons, List.length_nil, List.set_cons_zero, List.set_cons_succ, ite_self, reduceIte, noL_none, noL_bool, noL_int, noL_str, noL_list, noL_tuple, noLs_nil, noLs_cons, Bool.true_and, Bool.false_and, Bool.and_true, Bool.and_self, Bool.false_eq_true, Bool.not_true, Bool.not_false, List.replicate_succ, List.replicate_zero, DL.opEq_e, DL.flip_e, DL.opNe_e, DL.opIn_e, DL.opNotIn_e, DL.opLt_e, DL.opAdd_e, DL.opMul_e, DL.opIx_e, DL.opIsN_e, DL.opNotN_e, DL.opNeg_e, DL.opLe_e, DL.opGt_e, DL.opGe_e, DL.opSub_e, DL.vLt_int, DL.vEq_int, DL.vAdd_int, DL.vAdd_list, DL.vAdd_tuple, DL.vLen_tuple, DL.vLen_list, DL.vInt_int, DL.vTuple_list, DL.vTuple_tuple, DL.vList_list, DL.vList_tuple, DL.vRev_list, DL.vRev_tuple, DL.vCut_list, DL.vCut_tuple, DL.f1_e, DL.f2_e, DL.isNon_none, DL.isNon_int, DL.isi_int, DL.isi_bool, DL.isi_tuple, DL.isi_list, DL.isi_str, DL.isi_dict, isT, isPty, e2, i0, i1, i2, h1, h2]
        | true =>
        cases h3 : ns.all isNm with
        | false => simp only [g_is_party, b_is_party, DL.sel_true, DL.sel_false, DL.sel_self, DL.okb, DL.excb, DL.badb, DL.pickb, DL.okp, DL.pickp, DL.ddat, DL.down, DL.sdat, DL.sown, DL.sraw, DL.spot, DL.gdat, DL.gown, DL.graw, DL.gpot, DL.asBb, DL.asIi, DL.kBok, DL.noxok, DL.datas0, DL.frz1_own, DL.frz1_dat, DL.frz1_raw, DL.frz1_pot, DL.frz1_none, DL.frz1_nil, DL.frz1_succ, DL.frz_nil, DL.frz_cons, DL.rdv_dat, DL.rdv_raw, DL.rdv_pot, DL.rdv_succ, DL.rtnV_zero, DL.rtnV_succ, DL.ownAt_zero, DL.ownAt_succ, DL.startE_eq, DL.seq_e, DL.seqK_nx, DL.seqK_ret, DL.seqK_brk, DL.seqK_cont, DL.asg_e, DL.asgK_e, DL.rtn_e, DL.rtnK_e, DL.rtnN_e, DL.exs_e, DL.exsK_e, DL.ifs_e, DL.ifsK_true, DL.ifsK_false, DL.skip_e, DL.brkS_e, DL.contS_e, DL.badS_e, DL.body_e, DL.fin_ret, DL.fin_nx, DL.app1_e, DL.app1K_e, DL.app_e, DL.appO_e, DL.appW_e, DL.appD_e, DL.asg2_e, DL.asg2K_e, DL.asg2L_e, DL.unp_e, DL.unpW_e, DL.unpD_e, DL.goOn_some, DL.goOn_none, DL.bT_e, DL.setL_cons, DL.setL_nil, DL.bN_e, DL.sto1_e, DL.sto_e, DL.stoW_e, DL.stoD_e, DL.sto2_e, DL.sto2K_e, DL.sto2W_e, DL.sto2I_e, DL.sto1K_e, DL.atK_e, DL.ali_e, DL.aliK_true, DL.aliK_false, DL.ali1_e, DL.ali1B_e, DL.ali1O_e, DL.ali1W_e, DL.ali1D_e, DL.forS_e, DL.forK_e, DL.loopB_some, DL.loopK_nx, DL.loopK_cont, DL.loopK_brk, DL.loopK_ret, DL.bin2_e, DL.binK_e, DL.binL_e, DL.un1_e, DL.unK_e, DL.tst_e, DL.tand_e, DL.tandK_true, DL.tandK_false, DL.tor_e, DL.torK_true, DL.torK_false, DL.tnot_e, DL.notK_e, DL.vand_e, DL.vandK_e, DL.vandL_true, DL.vandL_false, DL.vor_e, DL.vorK_e, DL.vorL_true, DL.vorL_false, DL.vnot_e, DL.vnotK_e, DL.vnotL_e, DL.vif_e, DL.vifK_true, DL.vifK_false, DL.anil_e, DL.acons_e, DL.aconsK_e, DL.aconsL_e, DL.call_e, DL.ccall_e, DL.ccallK1, DL.ccallK2, DL.ccallK3, DL.ccallK4, DL.sub_e, DL.subK_e, DL.subH_e, DL.cutK_e, DL.cutL_e, DL.oN_e, DL.oS_e, DL.oSK_e, DL.oI_e, DL.rev_e, DL.revK_e, DL.tup_e, DL.lst_e, DL.mkTup_e, DL.mkLst_e, DL.tupD_e, DL.lstD_e, DL.datas_e, DL.datasK_e, DL.kN_e, DL.kB_e, DL.kI_e, DL.kS_e, DL.kT_e, DL.kD0_e, DL.chainI_e, DL.chA_e, DL.chB_e, DL.chI_e, DL.chJ_e, DL.chG_true, DL.chG_false, DL.chY_e, DL.chC_e, DL.sSeq_e, DL.seqSrc_e, DL.asItems_list, DL.asItems_tuple, DL.sRng1_e, DL.rngW_e, DL.rngI_e, DL.sRng2_e, DL.rngK_e, DL.rngWW_e, DL.rngWI_e, DL.rngJ_e, DL.sZip_e, DL.zipK_e, DL.zipW_e, DL.zipA_e, DL.zipD_list, DL.zipD_tuple, DL.sEnum_e, DL.enumW_e, DL.enumV_e, DL.asList_e, DL.enumL_e, DL.ownR_e, DL.lc_e, DL.tYes_e, List.map_cons, List.map_nil, List.nil_append, List.cons_append, List.length_cons, List.length_nil, List.set_cons_zero, List.set_cons_succ, ite_self, reduceIte, noL_none, noL_bool, noL_int, noL_str, noL_list, noL_tuple, noLs_nil, noLs_cons, Bool.true_and, Bool.false_and, Bool.and_true, Bool.and_self, Bool.false_eq_true, Bool.not_true, Bool.not_false, List.replicate_succ, List.replicate_zero, DL.opEq_e, DL.flip_e, DL.opNe_e, DL.opIn_e, DL.opNotIn_e, DL.opLt_e, DL.opAdd_e, DL.opMul_e, DL.opIx_e, DL.opIsN_e, DL.opNotN_e, DL.opNeg_e, DL.opLe_e, DL.opGt_e, DL.opGe_e, DL.opSub_e, DL.vLt_int, DL.vEq_int, DL.vAdd_int, DL.vAdd_list, DL.vAdd_tuple, DL.vLen_tuple, DL.vLen_list, DL.vInt_int, DL.vTuple_list, DL.vTuple_tuple, DL.vList_list, DL.vList_tuple, DL.vRev_list, DL.vRev_tuple, DL.vCut_list, DL.vCut_tuple, DL.f1_e, DL.f2_e, DL.isNon_none, DL.isNon_int, DL.isi_int, DL.isi_bool, DL.isi_tuple, DL.isi_list, DL.isi_str, DL.isi_dict, isT, isPty, e2, i0, i1, i2, h1, h2, h3, c1, all_bools]
        | true =>
        cases h4 : isRow ns.length a with
        | false => simp only [g_is_party, b_is_party, DL.sel_true, DL.sel_false, DL.sel_self, DL.okb, DL.excb, DL.badb, DL.pickb, DL.okp, DL.pickp, DL.ddat, DL.down, DL.sdat, DL.sown, DL.sraw, DL.spot, DL.gdat, DL.gown, DL.graw, DL.gpot, DL.asBb, DL.asIi, DL.kBok, DL.noxok, DL.datas0, DL.frz1_own, DL.frz1_dat, DL.frz1_raw, DL.frz1_pot, DL.frz1_none, DL.frz1_nil, DL.frz1_succ, DL.frz_nil, DL.frz_cons, DL.rdv_dat, DL.rdv_raw, DL.rdv_pot, DL.rdv_succ, DL.rtnV_zero, DL.rtnV_succ, DL.ownAt_zero, DL.ownAt_succ, DL.startE_eq, DL.seq_e, DL.seqK_nx, DL.seqK_ret, DL.seqK_brk, DL.seqK_cont, DL.asg_e, DL.asgK_e, DL.rtn_e, DL.rtnK_e, DL.rtnN_e, DL.exs_e, DL.exsK_e, DL.ifs_e, DL.ifsK_true, DL.ifsK_false, DL.skip_e, DL.brkS_e, DL.contS_e, DL.badS_e, DL.body_e, DL.fin_ret, DL.fin_nx, DL.app1_e, DL.app1K_e, DL.app_e, DL.appO_e, DL.appW_e, DL.appD_e, DL.asg2_e, DL.asg2K_e, DL.asg2L_e, DL.unp_e, DL.unpW_e, DL.unpD_e, DL.goOn_some, DL.goOn_none, DL.bT_e, DL.setL_cons, DL.setL_nil, DL.bN_e, DL.sto1_e, DL.sto_e, DL.stoW_e, DL.stoD_e, DL.sto2_e, DL.sto2K_e, DL.sto2W_e, DL.sto2I_e, DL.sto1K_e, DL.atK_e, DL.ali_e, DL.aliK_true, DL.aliK_false, DL.ali1_e, DL.ali1B_e, DL.ali1O_e, DL.ali1W_e, DL.ali1D_e, DL.forS_e, DL.forK_e, DL.loopB_some, DL.loopK_nx, DL.loopK_cont, DL.loopK_brk, DL.loopK_ret, DL.bin2_e, DL.binK_e, DL.binL_e, DL.un1_e, DL.unK_e, DL.tst_e, DL.tand_e, DL.tandK_true, DL.tandK_false, DL.tor_e, DL.torK_true, DL.torK_false, DL.tnot_e, DL.notK_e, DL.vand_e, DL.vandK_e, DL.vandL_true, DL.vandL_false, DL.vor_e, DL.vorK_e, DL.vorL_true, DL.vorL_false, DL.vnot_e, DL.vnotK_e, DL.vnotL_e, DL.vif_e, DL.vifK_true, DL.vifK_false, DL.anil_e, DL.acons_e, DL.aconsK_e, DL.aconsL_e, DL.call_e, DL.ccall_e, DL.ccallK1, DL.ccallK2, DL.ccallK3, DL.ccallK4, DL.sub_e, DL.subK_e, DL.subH_e, DL.cutK_e, DL.cutL_e, DL.oN_e, DL.oS_e, DL.oSK_e, DL.oI_e, DL.rev_e, DL.revK_e, DL.tup_e, DL.lst_e, DL.mkTup_e, DL.mkLst_e, DL.tupD_e, DL.lstD_e, DL.datas_e, DL.datasK_e, DL.kN_e, DL.kB_e, DL.kI_e, DL.kS_e, DL.kT_e, DL.kD0_e, DL.chainI_e, DL.chA_e, DL.chB_e, DL.chI_e, DL.chJ_e, DL.chG_true, DL.chG_false, DL.chY_e, DL.chC_e, DL.sSeq_e, DL.seqSrc_e, DL.asItems_list, DL.asItems_tuple, DL.sRng1_e, DL.rngW_e, DL.rngI_e, DL.sRng2_e, DL.rngK_e, DL.rngWW_e, DL.rngWI_e, DL.rngJ_e, DL.sZip_e, DL.zipK_e, DL.zipW_e, DL.zipA_e, DL.zipD_list, DL.zipD_tuple, DL.sEnum_e, DL.enumW_e, DL.enumV_e, DL.asList_e, DL.enumL_e, DL.ownR_e, DL.lc_e, DL.tYes_e, List.map_cons, List.map_nil, List.nil_append, List.cons_append, List.length_cons, List.length_nil, List.set_cons_zero, List.set_cons_succ, ite_self, reduceIte, noL_none, noL_bool, noL_int, noL_str, noL_list, noL_tuple, noLs_nil, noLs_cons, Bool.true_and, Bool.false_and, Bool.and_true, Bool.and_self, Bool.false_eq_true, Bool.not_true, Bool.not_false, List.replicate_succ, List.replicate_zero, DL.opEq_e, DL.flip_e, DL.opNe_e, DL.opIn_e, DL.opNotIn_e, DL.opLt_e, DL.opAdd_e, DL.opMul_e, DL.opIx_e, DL.opIsN_e, DL.opNotN_e, DL.opNeg_e, DL.opLe_e, DL.opGt_e, DL.opGe_e, DL.opSub_e, DL.vLt_int, DL.vEq_int, DL.vAdd_int, DL.vAdd_list, DL.vAdd_tuple, DL.vLen_tuple, DL.vLen_list, DL.vInt_int, DL.vTuple_list, DL.vTuple_tuple, DL.vList_list, DL.vList_tuple, DL.vRev_list, DL.vRev_tuple, DL.vCut_list, DL.vCut_tuple, DL.f1_e, DL.f2_e, DL.isNon_none, DL.isNon_int, DL.isi_int, DL.isi_bool, DL.isi_tuple, DL.isi_list, DL.isi_str, DL.isi_dict, isT, isPty, e2, i0, i1, i2, h1, h2, h3, c1, all_bools, ra, rb, h4]
        | true =>
        cases h5 : isRow ns.length b with
        | false => simp only [g_is_party, b_is_party, DL.sel_true, DL.sel_false, DL.sel_self, DL.okb, DL.excb, DL.badb, DL.pickb, DL.okp, DL.pickp, DL.ddat, DL.down, DL.sdat, DL.sown, DL.sraw, DL.spot, DL.gdat, DL.gown, DL.graw, DL.gpot, DL.asBb, DL.asIi, DL.kBok, DL.noxok, DL.datas0, DL.frz1_own, DL.frz1_dat, DL.frz1_raw, DL.frz1_pot, DL.frz1_none, DL.frz1_nil, DL.frz1_succ, DL.frz_nil, DL.frz_cons, DL.rdv_dat, DL.rdv_raw, DL.rdv_pot, DL.rdv_succ, DL.rtnV_zero, DL.rtnV_succ, DL.ownAt_zero, DL.ownAt_succ, DL.startE_eq, DL.seq_e, DL.seqK_nx, DL.seqK_ret, DL.seqK_brk, DL.seqK_cont, DL.asg_e, DL.asgK_e, DL.rtn_e, DL.rtnK_e, DL.rtnN_e, DL.exs_e, DL.exsK_e, DL.ifs_e, DL.ifsK_true, DL.ifsK_false, DL.skip_e, DL.brkS_e, DL.contS_e, DL.badS_e, DL.body_e, DL.fin_ret, DL.fin_nx, DL.app1_e, DL.app1K_e, DL.app_e, DL.appO_e, DL.appW_e, DL.appD_e, DL.asg2_e, DL.asg2K_e, DL.asg2L_e, DL.unp_e, DL.unpW_e, DL.unpD_e, DL.goOn_some, DL.goOn_none, DL.bT_e, DL.setL_cons, DL.setL_nil, DL.bN_e, DL.sto1_e, DL.sto_e, DL.stoW_e, DL.stoD_e, DL.sto2_e, DL.sto2K_e, DL.sto2W_e, DL.sto2I_e, DL.sto1K_e, DL.atK_e, DL.ali_e, DL.aliK_true, DL.aliK_false, DL.ali1_e, DL.ali1B_e, DL.ali1O_e, DL.ali1W_e, DL.ali1D_e, DL.forS_e, DL.forK_e, DL.loopB_some, DL.loopK_nx, DL.loopK_cont, DL.loopK_brk, DL.loopK_ret, DL.bin2_e, DL.binK_e, DL.binL_e, DL.un1_e, DL.unK_e, DL.tst_e, DL.tand_e, DL.tandK_true, DL.tandK_false, DL.tor_e, DL.torK_true, DL.torK_false, DL.tnot_e, DL.notK_e, DL.vand_e, DL.vandK_e, DL.vandL_true, DL.vandL_false, DL.vor_e, DL.vorK_e, DL.vorL_true, DL.vorL_false, DL.vnot_e, DL.vnotK_e, DL.vnotL_e, DL.vif_e, DL.vifK_true, DL.vifK_false, DL.anil_e, DL.acons_e, DL.aconsK_e, DL.aconsL_e, DL.call_e, DL.ccall_e, DL.ccallK1, DL.ccallK2, DL.ccallK3, DL.ccallK4, DL.sub_e, DL.subK_e, DL.subH_e, DL.cutK_e, DL.cutL_e, DL.oN_e, DL.oS_e, DL.oSK_e, DL.oI_e, DL.rev_e, DL.revK_e, DL.tup_e, DL.lst_e, DL.mkTup_e, DL.mkLst_e, DL.tupD_e, DL.lstD_e, DL.datas_e, DL.datasK_e, DL.kN_e, DL.kB_e, DL.kI_e, DL.kS_e, DL.kT_e, DL.kD0_e, DL.chainI_e, DL.chA_e, DL.chB_e, DL.chI_e, DL.chJ_e, DL.chG_true, DL.chG_false, DL.chY_e, DL.chC_e, DL.sSeq_e, DL.seqSrc_e, DL.asItems_list, DL.asItems_tuple, DL.sRng1_e, DL.rngW_e, DL.rngI_e, DL.sRng2_e, DL.rngK_e, DL.rngWW_e, DL.rngWI_e, DL.rngJ_e, DL.sZip_e, DL.zipK_e, DL.zipW_e, DL.zipA_e, DL.zipD_list, DL.zipD_tuple, DL.sEnum_e, DL.enumW_e, DL.enumV_e, DL.asList_e, DL.enumL_e, DL.ownR_e, DL.lc_e, DL.tYes_e, List.map_cons, List.map_nil, List.nil_append, List.cons_append, List.length_cons, List.length_nil, List.set_cons_zero, List.set_cons_succ, ite_self, reduceIte, noL_none, noL_bool, noL_int, noL_str, noL_list, noL_tuple, noLs_nil, noLs_cons, Bool.true_and, Bool.false_and, Bool.and_true, Bool.and_self, Bool.false_eq_true, Bool.not_true, Bool.not_false, List.replicate_succ, List.replicate_zero, DL.opEq_e, DL.flip_e, DL.opNe_e, DL.opIn_e, DL.opNotIn_e, DL.opLt_e, DL.opAdd_e, DL.opMul_e, DL.opIx_e, DL.opIsN_e, DL.opNotN_e, DL.opNeg_e, DL.opLe_e, DL.opGt_e, DL.opGe_e, DL.opSub_e, DL.vLt_int, DL.vEq_int, DL.vAdd_int, DL.vAdd_list, DL.vAdd_tuple, DL.vLen_tuple, DL.vLen_list, DL.vInt_int, DL.vTuple_list, DL.vTuple_tuple, DL.vList_list, DL.vList_tuple, DL.vRev_list, DL.vRev_tuple, DL.vCut_list, DL.vCut_tuple, DL.f1_e, DL.f2_e, DL.isNon_none, DL.isNon_int, DL.isi_int, DL.isi_bool, DL.isi_tuple, DL.isi_list, DL.isi_str, DL.isi_dict, isT, isPty, e2, i0, i1, i2, h1, h2, h3, c1, all_bools, ra, rb, h4, h5]
        | true =>
          obtain ⟨as, rfl⟩ : ∃ as, a = .tuple as := by cases a <;> first | exact ⟨_, rfl⟩ | cases h4
          obtain ⟨bs, rfl⟩ : ∃ bs, b = .tuple bs := by cases b <;> first | exact ⟨_, rfl⟩ | cases h5
          have h4' := (Bool.and_eq_true_iff.mp h4).1
          have h5' := (Bool.and_eq_true_iff.mp h5).1
          have c2 : ∀ ρ : En, ρ = [some (.dat (.tuple [.tuple ns, .tuple as, .tuple bs])), none, none] → lcK [2] (bN 2) tYes (bin2 opIn (rdv 2) (bin2 opIx (rdv 0) (kI 2))) ρ as = .ok (.own (as.map fun d => .bool (isIn d bs))) := by
            intro ρ e
            subst e
            refine lcK_map _ za.1 fun y hy => ⟨_, rfl, rfl, ?_⟩
            simp only [wipeE, DL.sel_true, DL.sel_false, DL.sel_self, DL.okb, DL.excb, DL.badb, DL.pickb, DL.okp, DL.pickp, DL.ddat, DL.down, DL.sdat, DL.sown, DL.sraw, DL.spot, DL.gdat, DL.gown, DL.graw, DL.gpot, DL.asBb, DL.asIi, DL.kBok, DL.noxok, DL.datas0, DL.frz1_own, DL.frz1_dat, DL.frz1_raw, DL.frz1_pot, DL.frz1_none, DL.frz1_nil, DL.frz1_succ, DL.frz_nil, DL.frz_cons, DL.rdv_dat, DL.rdv_raw, DL.rdv_pot, DL.rdv_succ, DL.rtnV_zero, DL.rtnV_succ, DL.ownAt_zero, DL.ownAt_succ, DL.startE_eq, DL.seq_e, DL.seqK_nx, DL.seqK_ret, DL.seqK_brk, DL.seqK_cont, DL.asg_e, DL.asgK_e, DL.rtn_e, DL.rtnK_e, DL.rtnN_e, DL.exs_e, DL.exsK_e, DL.ifs_e, DL.ifsK_true, DL.ifsK_false, DL.skip_e, DL.brkS_e, DL.contS_e, DL.badS_e, DL.body_e, DL.fin_ret, DL.fin_nx, DL.app1_e, DL.app1K_e, DL.app_e, DL.appO_e, DL.appW_e, DL.appD_e, DL.asg2_e, DL.asg2K_e, DL.asg2L_e, DL.unp_e, DL.unpW_e, DL.unpD_e, DL.goOn_some, DL.goOn_none, DL.bT_e, DL.setL_cons, DL.setL_nil, DL.bN_e, DL.sto1_e, DL.sto_e, DL.stoW_e, DL.stoD_e, DL.sto2_e, DL.sto2K_e, DL.sto2W_e, DL.sto2I_e, DL.sto1K_e, DL.atK_e, DL.ali_e, DL.aliK_true, DL.aliK_false, DL.ali1_e, DL.ali1B_e, DL.ali1O_e, DL.ali1W_e, DL.ali1D_e, DL.forS_e, DL.forK_e, DL.loopB_some, DL.loopK_nx, DL.loopK_cont, DL.loopK_brk, DL.loopK_ret, DL.bin2_e, DL.binK_e, DL.binL_e, DL.un1_e, DL.unK_e, DL.tst_e, DL.tand_e, DL.tandK_true, DL.tandK_false, DL.tor_e, DL.torK_true, DL.torK_false, DL.tnot_e, DL.notK_e, DL.vand_e, DL.vandK_e, DL.vandL_true, DL.vandL_false, DL.vor_e, DL.vorK_e, DL.vorL_true, DL.vorL_false, DL.vnot_e, DL.vnotK_e, DL.vnotL_e, DL.vif_e, DL.vifK_true, DL.vifK_false, DL.anil_e, DL.acons_e, DL.aconsK_e, DL.aconsL_e, DL.call_e, DL.ccall_e, DL.ccallK1, DL.ccallK2, DL.ccallK3, DL.ccallK4, DL.sub_e, DL.subK_e, DL.subH_e, DL.cutK_e, DL.cutL_e, DL.oN_e, DL.oS_e, DL.oSK_e, DL.oI_e, DL.rev_e, DL.revK_e, DL.tup_e, DL.lst_e, DL.mkTup_e, DL.mkLst_e, DL.tupD_e, DL.lstD_e, DL.datas_e, DL.datasK_e, DL.kN_e, DL.kB_e, DL.kI_e, DL.kS_e, DL.kT_e, DL.kD0_e, DL.chainI_e, DL.chA_e, DL.chB_e, DL.chI_e, DL.chJ_e, DL.chG_true, DL.chG_false, DL.chY_e, DL.chC_e, DL.sSeq_e, DL.seqSrc_e, DL.asItems_list, DL.asItems_tuple, DL.sRng1_e, DL.rngW_e, DL.rngI_e, DL.sRng2_e, DL.rngK_e, DL.rngWW_e, DL.rngWI_e, DL.rngJ_e, DL.sZip_e, DL.zipK_e, DL.zipW_e, DL.zipA_e, DL.zipD_list, DL.zipD_tuple, DL.sEnum_e, DL.enumW_e, DL.enumV_e, DL.asList_e, DL.enumL_e, DL.ownR_e, DL.lc_e, DL.tYes_e, List.map_cons, List.map_nil, List.nil_append, List.cons_append, List.length_cons, List.length_nil, List.set_cons_zero, List.set_cons_succ, ite_self, reduceIte, noL_none, noL_bool, noL_int, noL_str, noL_list, noL_tuple, noLs_nil, noLs_cons, Bool.true_and, Bool.false_and, Bool.and_true, Bool.and_self, Bool.false_eq_true, Bool.not_true, Bool.not_false, List.replicate_succ, List.replicate_zero, DL.opEq_e, DL.flip_e, DL.opNe_e, DL.opIn_e, DL.opNotIn_e, DL.opLt_e, DL.opAdd_e, DL.opMul_e, DL.opIx_e, DL.opIsN_e, DL.opNotN_e, DL.opNeg_e, DL.opLe_e, DL.opGt_e, DL.opGe_e, DL.opSub_e, DL.vLt_int, DL.vEq_int, DL.vAdd_int, DL.vAdd_list, DL.vAdd_tuple, DL.vLen_tuple, DL.vLen_list, DL.vInt_int, DL.vTuple_list, DL.vTuple_tuple, DL.vList_list, DL.vList_tuple, DL.vRev_list, DL.vRev_tuple, DL.vCut_list, DL.vCut_tuple, DL.f1_e, DL.f2_e, DL.isNon_none, DL.isNon_int, DL.isi_int, DL.isi_bool, DL.isi_tuple, DL.isi_list, DL.isi_str, DL.isi_dict, i2, vIn_tuple (shaped_pair (List.all_eq_true.mp h4' y hy)) (canLay_pairs h5')]
          simp only [g_is_party, b_is_party, DL.sel_true, DL.sel_false, DL.sel_self, DL.okb, DL.excb, DL.badb, DL.pickb, DL.okp, DL.pickp, DL.ddat, DL.down, DL.sdat, DL.sown, DL.sraw, DL.spot, DL.gdat, DL.gown, DL.graw, DL.gpot, DL.asBb, DL.asIi, DL.kBok, DL.noxok, DL.datas0, DL.frz1_own, DL.frz1_dat, DL.frz1_raw, DL.frz1_pot, DL.frz1_none, DL.frz1_nil, DL.frz1_succ, DL.frz_nil, DL.frz_cons, DL.rdv_dat, DL.rdv_raw, DL.rdv_pot, DL.rdv_succ, DL.rtnV_zero, DL.rtnV_succ, DL.ownAt_zero, DL.ownAt_succ, DL.startE_eq, DL.seq_e, DL.seqK_nx, DL.seqK_ret, DL.seqK_brk, DL.seqK_cont, DL.asg_e, DL.asgK_e, DL.rtn_e, DL.rtnK_e, DL.rtnN_e, DL.exs_e, DL.exsK_e, DL.ifs_e, DL.ifsK_true, DL.ifsK_false, DL.skip_e, DL.brkS_e, DL.contS_e, DL.badS_e, DL.body_e, DL.fin_ret, DL.fin_nx, DL.app1_e, DL.app1K_e, DL.app_e, DL.appO_e, DL.appW_e, DL.appD_e, DL.asg2_e, DL.asg2K_e, DL.asg2L_e, DL.unp_e, DL.unpW_e, DL.unpD_e, DL.goOn_some, DL.goOn_none, DL.bT_e, DL.setL_cons, DL.setL_nil, DL.bN_e, DL.sto1_e, DL.sto_e, DL.stoW_e, DL.stoD_e, DL.sto2_e, DL.sto2K_e, DL.sto2W_e, DL.sto2I_e, DL.sto1K_e, DL.atK_e, DL.ali_e, DL.aliK_true, DL.aliK_false, DL.ali1_e, DL.ali1B_e, DL.ali1O_e, DL.ali1W_e, DL.ali1D_e, DL.forS_e, DL.forK_e, DL.loopB_some, DL.loopK_nx, DL.loopK_cont, DL.loopK_brk, DL.loopK_ret, DL.bin2_e, DL.binK_e, DL.binL_e, DL.un1_e, DL.unK_e, DL.tst_e, DL.tand_e, DL.tandK_true, DL.tandK_false, DL.tor_e, DL.torK_true, DL.torK_false, DL.tnot_e, DL.notK_e, DL.vand_e, DL.vandK_e, DL.vandL_true, DL.vandL_false, DL.vor_e, DL.vorK_e, DL.vorL_true, DL.vorL_false, DL.vnot_e, DL.vnotK_e, DL.vnotL_e, DL.vif_e, DL.vifK_true, DL.vifK_false, DL.anil_e, DL.acons_e, DL.aconsK_e, DL.aconsL_e, DL.call_e, DL.ccall_e, DL.ccallK1, DL.ccallK2, DL.ccallK3, DL.ccallK4, DL.sub_e, DL.subK_e, DL.subH_e, DL.cutK_e, DL.cutL_e, DL.oN_e, DL.oS_e, DL.oSK_e, DL.oI_e, DL.rev_e, DL.revK_e, DL.tup_e, DL.lst_e, DL.mkTup_e, DL.mkLst_e, DL.tupD_e, DL.lstD_e, DL.datas_e, DL.datasK_e, DL.kN_e, DL.kB_e, DL.kI_e, DL.kS_e, DL.kT_e, DL.kD0_e, DL.chainI_e, DL.chA_e, DL.chB_e, DL.chI_e, DL.chJ_e, DL.chG_true, DL.chG_false, DL.chY_e, DL.chC_e, DL.sSeq_e, DL.seqSrc_e, DL.asItems_list, DL.asItems_tuple, DL.sRng1_e, DL.rngW_e, DL.rngI_e, DL.sRng2_e, DL.rngK_e, DL.rngWW_e, DL.rngWI_e, DL.rngJ_e, DL.sZip_e, DL.zipK_e, DL.zipW_e, DL.zipA_e, DL.zipD_list, DL.zipD_tuple, DL.sEnum_e, DL.enumW_e, DL.enumV_e, DL.asList_e, DL.enumL_e, DL.ownR_e, DL.lc_e, DL.tYes_e, List.map_cons, List.map_nil, List.nil_append, List.cons_append, List.length_cons, List.length_nil, List.set_cons_zero, List.set_cons_succ, ite_self, reduceIte, noL_none, noL_bool, noL_int, noL_str, noL_list, noL_tuple, noLs_nil, noLs_cons, Bool.true_and, Bool.false_and, Bool.and_true, Bool.and_self, Bool.false_eq_true, Bool.not_true, Bool.not_false, List.replicate_succ, List.replicate_zero, DL.opEq_e, DL.flip_e, DL.opNe_e, DL.opIn_e, DL.opNotIn_e, DL.opLt_e, DL.opAdd_e, DL.opMul_e, DL.opIx_e, DL.opIsN_e, DL.opNotN_e, DL.opNeg_e, DL.opLe_e, DL.opGt_e, DL.opGe_e, DL.opSub_e, DL.vLt_int, DL.vEq_int, DL.vAdd_int, DL.vAdd_list, DL.vAdd_tuple, DL.vLen_tuple, DL.vLen_list, DL.vInt_int, DL.vTuple_list, DL.vTuple_tuple, DL.vList_list, DL.vList_tuple, DL.vRev_list, DL.vRev_tuple, DL.vCut_list, DL.vCut_tuple, DL.f1_e, DL.f2_e, DL.isNon_none, DL.isNon_int, DL.isi_int, DL.isi_bool, DL.isi_tuple, DL.isi_list, DL.isi_str, DL.isi_dict, isT, isPty, e2, i0, i1, i2, h1, h2, h3, c1, all_bools, any_bools, ra, rb, h4, h5, c2, itm]
      | _ => simp only [g_is_party, b_is_party, DL.sel_true, DL.sel_false, DL.sel_self, DL.okb, DL.excb, DL.badb, DL.pickb, DL.okp, DL.pickp, DL.ddat, DL.down, DL.sdat, DL.sown, DL.sraw, DL.spot, DL.gdat, DL.gown, DL.graw, DL.gpot, DL.asBb, DL.asIi, DL.kBok, DL.noxok, DL.datas0, DL.frz1_own, DL.frz1_dat, DL.frz1_raw, DL.frz1_pot, DL.frz1_none, DL.frz1_nil, DL.frz1_succ, DL.frz_nil, DL.frz_cons, DL.rdv_dat, DL.rdv_raw, DL.rdv_pot, DL.rdv_succ, DL.rtnV_zero, DL.rtnV_succ, DL.ownAt_zero, DL.ownAt_succ, DL.startE_eq, DL.seq_e, DL.seqK_nx, DL.seqK_ret, DL.seqK_brk, DL.seqK_cont, DL.asg_e, DL.asgK_e, DL.rtn_e, DL.rtnK_e, DL.rtnN_e, DL.exs_e, DL.exsK_e, DL.ifs_e, DL.ifsK_true, DL.ifsK_false, DL.skip_e, DL.brkS_e, DL.contS_e, DL.badS_e, DL.body_e, DL.fin_ret, DL.fin_nx, DL.app1_e, DL.app1K_e, DL.app_e, DL.appO_e, DL.appW_e, DL.appD_e, DL.asg2_e, DL.asg2K_e, DL.asg2L_e, DL.unp_e, DL.unpW_e, DL.unpD_e, DL.goOn_some, DL.goOn_none, DL.bT_e, DL.setL_cons, DL.setL_nil, DL.bN_e, DL.sto1_e, DL.sto_e, DL.stoW_e, DL.stoD_e, DL.sto2_e, DL.sto2K_e, DL.sto2W_e, DL.sto2I_e, DL.sto1K_e, DL.atK_e, DL.ali_e, DL.aliK_true, DL.aliK_false, DL.ali1_e, DL.ali1B_e, DL.ali1O_e, DL.ali1W_e, DL.ali1D_e, DL.forS_e, DL.forK_e, DL.loopB_some, DL.loopK_nx, DL.loopK_cont, DL.loopK_brk, DL.loopK_ret, DL.bin2_e, DL.binK_e, DL.binL_e, DL.un1_e, DL.unK_e, DL.tst_e, DL.tand_e, DL.tandK_true, DL.tandK_false, DL.tor_e, DL.torK_true, DL.torK_false, DL.tnot_e, DL.notK_e, DL.vand_e, DL.vandK_e, DL.vandL_true, DL.vandL_false, DL.vor_e, DL.vorK_e, DL.vorL_true, DL.vorL_false, DL.vnot_e, DL.vnotK_e, DL.vnotL_e, DL.vif_e, DL.vifK_true, DL.vifK_false, DL.anil_e, DL.acons_e, DL.aconsK_e, DL.aconsL_e, DL.call_e, DL.ccall_e, DL.ccallK1, DL.ccallK2, DL.ccallK3, DL.ccallK4, DL.sub_e, DL.subK_e, DL.subH_e, DL.cutK_e, DL.cutL_e, DL.oN_e, DL.oS_e, DL.oSK_e, DL.oI_e, DL.rev_e, DL.revK_e, DL.tup_e, DL.lst_e, DL.mkTup_e, DL.mkLst_e, DL.tupD_e, DL.lstD_e, DL.datas_e, DL.datasK_e, DL.kN_e, DL.kB_e, DL.kI_e, DL.kS_e, DL.kT_e, DL.kD0_e, DL.chainI_e, DL.chA_e, DL.chB_e, DL.chI_e, DL.chJ_e, DL.chG_true, DL.chG_false, DL.chY_e, DL.chC_e, DL.sSeq_e, DL.seqSrc_e, DL.asItems_list, DL.asItems_tuple, DL.sRng1_e, DL.rngW_e, DL.rngI_e, DL.sRng2_e, DL.rngK_e, DL.rngWW_e, DL.rngWI_e, DL.rngJ_e, DL.sZip_e, DL.zipK_e, DL.zipW_e, DL.zipA_e, DL.zipD_list, DL.zipD_tuple, DL.sEnum_e, DL.enumW_e, DL.enumV_e, DL.asList_e, DL.enumL_e, DL.ownR_e, DL.lc_e, DL.tYes_e, List.map_cons, List.map_nil, List.nil_append, List.cons_append, List.length_cons, List.length_nil, List.set_cons_zero, List.set_cons_succ, ite_self, reduceIte, noL_none, noL_bool, noL_int, noL_str, noL_list, noL_tuple, noLs_nil, noLs_cons, Bool.true_and, Bool.false_and, Bool.and_true, Bool.and_self, Bool.false_eq_true, Bool.not_true, Bool.not_false, List.replicate_succ, List.replicate_zero, DL.opEq_e, DL.flip_e, DL.opNe_e, DL.opIn_e, DL.opNotIn_e, DL.opLt_e, DL.opAdd_e, DL.opMul_e, DL.opIx_e, DL.opIsN_e, DL.opNotN_e, DL.opNeg_e, DL.opLe_e, DL.opGt_e, DL.opGe_e, DL.opSub_e, DL.vLt_int, DL.vEq_int, DL.vAdd_int, DL.vAdd_list, DL.vAdd_tuple, DL.vLen_tuple, DL.vLen_list, DL.vInt_int, DL.vTuple_list, DL.vTuple_tuple, DL.vList_list, DL.vList_tuple, DL.vRev_list, DL.vRev_tuple, DL.vCut_list, DL.vCut_tuple, DL.f1_e, DL.f2_e, DL.isNon_none, DL.isNon_int, DL.isi_int, DL.isi_bool, DL.isi_tuple, DL.isi_list, DL.isi_str, DL.isi_dict, isT, isPty, e2, i0]
    · have e1 : decide ((xs.length : Int) = 3) = false := decide_eq_false (by omega)
      simp only [g_is_party, b_is_party, DL.sel_true, DL.sel_false, DL.sel_self, DL.okb, DL.excb, DL.badb, DL.pickb, DL.okp, DL.pickp, DL.ddat, DL.down, DL.sdat, DL.sown, DL.sraw, DL.spot, DL.gdat, DL.gown, DL.graw, DL.gpot, DL.asBb, DL.asIi, DL.kBok, DL.noxok, DL.datas0, DL.frz1_own, DL.frz1_dat, DL.frz1_raw, DL.frz1_pot, DL.frz1_none, DL.frz1_nil, DL.frz1_succ, DL.frz_nil, DL.frz_cons, DL.rdv_dat, DL.rdv_raw, DL.rdv_pot, DL.rdv_succ, DL.rtnV_zero, DL.rtnV_succ, DL.ownAt_zero, DL.ownAt_succ, DL.startE_eq, DL.seq_e, DL.seqK_nx, DL.seqK_ret, DL.seqK_brk, DL.seqK_cont, DL.asg_e, DL.asgK_e, DL.rtn_e, DL.rtnK_e, DL.rtnN_e, DL.exs_e, DL.exsK_e, DL.ifs_e, DL.ifsK_true, DL.ifsK_false, DL.skip_e, DL.brkS_e, DL.contS_e, DL.badS_e, DL.body_e, DL.fin_ret, DL.fin_nx, DL.app1_e, DL.app1K_e, DL.app_e, DL.appO_e, DL.appW_e, DL.appD_e, DL.asg2_e, DL.asg2K_e, DL.asg2L_e, DL.unp_e, DL.unpW_e, DL.unpD_e, DL.goOn_some, DL.goOn_none, DL.bT_e, DL.setL_cons, DL.setL_nil, DL.bN_e, DL.sto1_e, DL.sto_e, DL.stoW_e, DL.stoD_e, DL.sto2_e, DL.sto2K_e, DL.sto2W_e, DL.sto2I_e, DL.sto1K_e, DL.atK_e, DL.ali_e, DL.aliK_true, DL.aliK_false, DL.ali1_e, DL.ali1B_e, DL.ali1O_e, DL.ali1W_e, DL.ali1D_e, DL.forS_e, DL.forK_e, DL.loopB_some, DL.loopK_nx, DL.loopK_cont, DL.loopK_brk, DL.loopK_ret, DL.bin2_e, DL.binK_e, DL.binL_e, DL.un1_e, DL.unK_e, DL.tst_e, DL.tand_e, DL.tandK_true, DL.tandK_false, DL.tor_e, DL.torK_true, DL.torK_false, DL.tnot_e, DL.notK_e, DL.vand_e, DL.vandK_e, DL.vandL_true, DL.vandL_false, DL.vor_e, DL.vorK_e, DL.vorL_true, DL.vorL_false, DL.vnot_e, DL.vnotK_e, DL.vnotL_e, DL.vif_e, DL.vifK_true, DL.vifK_false, DL.anil_e, DL.acons_e, DL.aconsK_e, DL.aconsL_e, DL.call_e, DL.ccall_e, DL.ccallK1, DL.ccallK2, DL.ccallK3, DL.ccallK4, DL.sub_e, DL.subK_e, DL.subH_e, DL.cutK_e, DL.cutL_e, DL.oN_e, DL.oS_e, DL.oSK_e, DL.oI_e, DL.rev_e, DL.revK_e, DL.tup_e, DL.lst_e, DL.mkTup_e, DL.mkLst_e, DL.tupD_e, DL.lstD_e, DL.datas_e, DL.datasK_e, DL.kN_e, DL.kB_e, DL.kI_e, DL.kS_e, DL.kT_e, DL.kD0_e, DL.chainI_e, DL.chA_e, DL.chB_e, DL.chI_e, DL.chJ_e, DL.chG_true, DL.chG_false, DL.chY_e, DL.chC_e, DL.sSeq_e, DL.seqSrc_e, DL.asItems_list, DL.asItems_tuple, DL.sRng1_e, DL.rngW_e, DL.rngI_e, DL.sRng2_e, DL.rngK_e, DL.rngWW_e, DL.rngWI_e, DL.rngJ_e, DL.sZip_e, DL.zipK_e, DL.zipW_e, DL.zipA_e, DL.zipD_list, DL.zipD_tuple, DL.sEnum_e, DL.enumW_e, DL.enumV_e, DL.asList_e, DL.enumL_e, DL.ownR_e, DL.lc_e, DL.tYes_e, List.map_cons, List.map_nil, List.nil_append, List.cons_append, List.length_cons, List.length_nil, List.set_cons_zero, List.set_cons_succ, ite_self, reduceIte, noL_none, noL_bool, noL_int, noL_str, noL_list, noL_tuple, noLs_nil, noLs_cons, Bool.true_and, Bool.false_and, Bool.and_true, Bool.and_self, Bool.false_eq_true, Bool.not_true, Bool.not_false, List.replicate_succ, List.replicate_zero, DL.opEq_e, DL.flip_e, DL.opNe_e, DL.opIn_e, DL.opNotIn_e, DL.opLt_e, DL.opAdd_e, DL.opMul_e, DL.opIx_e, DL.opIsN_e, DL.opNotN_e, DL.opNeg_e, DL.opLe_e, DL.opGt_e, DL.opGe_e, DL.opSub_e, DL.vLt_int, DL.vEq_int, DL.vAdd_int, DL.vAdd_list, DL.vAdd_tuple, DL.vLen_tuple, DL.vLen_list, DL.vInt_int, DL.vTuple_list, DL.vTuple_tuple, DL.vList_list, DL.vList_tuple, DL.vRev_list, DL.vRev_tuple, DL.vCut_list, DL.vCut_tuple, DL.f1_e, DL.f2_e, DL.isNon_none, DL.isNon_int, DL.isi_int, DL.isi_bool, DL.isi_tuple, DL.isi_list, DL.isi_str, DL.isi_dict, isT, e1, isPty_len hl]
  | _ => simp only [g_is_party, b_is_party, DL.sel_true, DL.sel_false, DL.sel_self, DL.okb, DL.excb, DL.badb, DL.pickb, DL.okp, DL.pickp, DL.ddat, DL.down, DL.sdat, DL.sown, DL.sraw, DL.spot, DL.gdat, DL.gown, DL.graw, DL.gpot, DL.asBb, DL.asIi, DL.kBok, DL.noxok, DL.datas0, DL.frz1_own, DL.frz1_dat, DL.frz1_raw, DL.frz1_pot, DL.frz1_none, DL.frz1_nil, DL.frz1_succ, DL.frz_nil, DL.frz_cons, DL.rdv_dat, DL.rdv_raw, DL.rdv_pot, DL.rdv_succ, DL.rtnV_zero, DL.rtnV_succ, DL.ownAt_zero, DL.ownAt_succ, DL.startE_eq, DL.seq_e, DL.seqK_nx, DL.seqK_ret, DL.seqK_brk, DL.seqK_cont, DL.asg_e, DL.asgK_e, DL.rtn_e, DL.rtnK_e, DL.rtnN_e, DL.exs_e, DL.exsK_e, DL.ifs_e, DL.ifsK_true, DL.ifsK_false, DL.skip_e, DL.brkS_e, DL.contS_e, DL.badS_e, DL.body_e, DL.fin_ret, DL.fin_nx, DL.app1_e, DL.app1K_e, DL.app_e, DL.appO_e, DL.appW_e, DL.appD_e, DL.asg2_e, DL.asg2K_e, DL.asg2L_e, DL.unp_e, DL.unpW_e, DL.unpD_e, DL.goOn_some, DL.goOn_none, DL.bT_e, DL.setL_cons, DL.setL_nil, DL.bN_e, DL.sto1_e, DL.sto_e, DL.stoW_e, DL.stoD_e, DL.sto2_e, DL.sto2K_e, DL.sto2W_e, DL.sto2I_e, DL.sto1K_e, DL.atK_e, DL.ali_e, DL.aliK_true, DL.aliK_false, DL.ali1_e, DL.ali1B_e, DL.ali1O_e, DL.ali1W_e, DL.ali1D_e, DL.forS_e, DL.forK_e, DL.loopB_some, DL.loopK_nx, DL.loopK_cont, DL.loopK_brk, DL.loopK_ret, DL.bin2_e, DL.binK_e, DL.binL_e, DL.un1_e, DL.unK_e, DL.tst_e, DL.tand_e, DL.tandK_true, DL.tandK_false, DL.tor_e, DL.torK_true, DL.torK_false, DL.tnot_e, DL.notK_e, DL.vand_e, DL.vandK_e, DL.vandL_true, DL.vandL_false, DL.vor_e, DL.vorK_e, DL.vorL_true, DL.vorL_false, DL.vnot_e, DL.vnotK_e, DL.vnotL_e, DL.vif_e, DL.vifK_true, DL.vifK_false, DL.anil_e, DL.acons_e, DL.aconsK_e, DL.aconsL_e, DL.call_e, DL.ccall_e, DL.ccallK1, DL.ccallK2, DL.ccallK3, DL.ccallK4, DL.sub_e, DL.subK_e, DL.subH_e, DL.cutK_e, DL.cutL_e, DL.oN_e, DL.oS_e, DL.oSK_e, DL.oI_e, DL.rev_e, DL.revK_e, DL.tup_e, DL.lst_e, DL.mkTup_e, DL.mkLst_e, DL.tupD_e, DL.lstD_e, DL.datas_e, DL.datasK_e, DL.kN_e, DL.kB_e, DL.kI_e, DL.kS_e, DL.kT_e, DL.kD0_e, DL.chainI_e, DL.chA_e, DL.chB_e, DL.chI_e, DL.chJ_e, DL.chG_true, DL.chG_false, DL.chY_e, DL.chC_e, DL.sSeq_e, DL.seqSrc_e, DL.asItems_list, DL.asItems_tuple, DL.sRng1_e, DL.rngW_e, DL.rngI_e, DL.sRng2_e, DL.rngK_e, DL.rngWW_e, DL.rngWI_e, DL.rngJ_e, DL.sZip_e, DL.zipK_e, DL.zipW_e, DL.zipA_e, DL.zipD_list, DL.zipD_tuple, DL.sEnum_e, DL.enumW_e, DL.enumV_e, DL.asList_e, DL.enumL_e, DL.ownR_e, DL.lc_e, DL.tYes_e, List.map_cons, List.map_nil, List.nil_append, List.cons_append, List.length_cons, List.length_nil, List.set_cons_zero, List.set_cons_succ, ite_self, reduceIte, noL_none, noL_bool, noL_int, noL_str, noL_list, noL_tuple, noLs_nil, noLs_cons, Bool.true_and, Bool.false_and, Bool.and_true, Bool.and_self, Bool.false_eq_true, Bool.not_true, Bool.not_false, List.replicate_succ, List.replicate_zero, DL.opEq_e, DL.flip_e, DL.opNe_e, DL.opIn_e, DL.opNotIn_e, DL.opLt_e, DL.opAdd_e, DL.opMul_e, DL.opIx_e, DL.opIsN_e, DL.opNotN_e, DL.opNeg_e, DL.opLe_e, DL.opGt_e, DL.opGe_e, DL.opSub_e, DL.vLt_int, DL.vEq_int, DL.vAdd_int, DL.vAdd_list, DL.vAdd_tuple, DL.vLen_tuple, DL.vLen_list, DL.vInt_int, DL.vTuple_list, DL.vTuple_tuple, DL.vList_list, DL.vList_tuple, DL.vRev_list, DL.vRev_tuple, DL.vCut_list, DL.vCut_tuple, DL.f1_e, DL.f2_e, DL.isNon_none, DL.isNon_int, DL.isi_int, DL.isi_bool, DL.isi_tuple, DL.isi_list, DL.isi_str, DL.isi_dict, isT, isPty]
/-! the law's own reading -/
theorem r_law_number (d : D) (a b : Int) : g__law_number [.dat d, .dat (.int a), .dat (.int b)] = .ok (.dat (.bool (isNum a b d))) := by
  cases d with
  | int i =>
    cases h : decide (a ≤ i) <;> simp only [g__law_number, b__law_number, DL.sel_true, DL.sel_false, DL.sel_self, DL.okb, DL.excb, DL.badb, DL.pickb, DL.okp, DL.pickp, DL.ddat, DL.down, DL.sdat, DL.sown, DL.sraw, DL.spot, DL.gdat, DL.gown, DL.graw, DL.gpot, DL.asBb, DL.asIi, DL.kBok, DL.noxok, DL.datas0, DL.frz1_own, DL.frz1_dat, DL.frz1_raw, DL.frz1_pot, DL.frz1_none, DL.frz1_nil, DL.frz1_succ, DL.frz_nil, DL.frz_cons, DL.rdv_dat, DL.rdv_raw, DL.rdv_pot, DL.rdv_succ, DL.rtnV_zero, DL.rtnV_succ, DL.ownAt_zero, DL.ownAt_succ, DL.startE_eq, DL.seq_e, DL.seqK_nx, DL.seqK_ret, DL.seqK_brk, DL.seqK_cont, DL.asg_e, DL.asgK_e, DL.rtn_e, DL.rtnK_e, DL.rtnN_e, DL.exs_e, DL.exsK_e, DL.ifs_e, DL.ifsK_true, DL.ifsK_false, DL.skip_e, DL.brkS_e, DL.contS_e, DL.badS_e, DL.body_e, DL.fin_ret, DL.fin_nx, DL.app1_e, DL.app1K_e, DL.app_e, DL.appO_e, DL.appW_e, DL.appD_e, DL.asg2_e, DL.asg2K_e, DL.asg2L_e, DL.unp_e, DL.unpW_e, DL.unpD_e, DL.goOn_some, DL.goOn_none, DL.bT_e, DL.setL_cons, DL.setL_nil, DL.bN_e, DL.sto1_e, DL.sto_e, DL.stoW_e, DL.stoD_e, DL.sto2_e, DL.sto2K_e, DL.sto2W_e, DL.sto2I_e, DL.sto1K_e, DL.atK_e, DL.ali_e, DL.aliK_true, DL.aliK_false, DL.ali1_e, DL.ali1B_e, DL.ali1O_e, DL.ali1W_e, DL.ali1D_e, DL.forS_e, DL.forK_e, DL.loopB_some, DL.loopK_nx, DL.loopK_cont, DL.loopK_brk, DL.loopK_ret, DL.bin2_e, DL.binK_e, DL.binL_e, DL.un1_e, DL.unK_e, DL.tst_e, DL.tand_e, DL.tandK_true, DL.tandK_false, DL.tor_e, DL.torK_true, DL.torK_false, DL.tnot_e, DL.notK_e, DL.vand_e, DL.vandK_e, DL.vandL_true, DL.vandL_false, DL.vor_e, DL.vorK_e, DL.vorL_true, DL.vorL_false, DL.vnot_e, DL.vnotK_e, DL.vnotL_e, DL.vif_e, DL.vifK_true, DL.vifK_false, DL.anil_e, DL.acons_e, DL.aconsK_e, DL.aconsL_e, DL.call_e, DL.ccall_e, DL.ccallK1, DL.ccallK2, DL.ccallK3, DL.ccallK4, DL.sub_e, DL.subK_e, DL.subH_e, DL.cutK_e, DL.cutL_e, DL.oN_e, DL.oS_e, DL.oSK_e, DL.oI_e, DL.rev_e, DL.revK_e, DL.tup_e, DL.lst_e, DL.mkTup_e, DL.mkLst_e, DL.tupD_e, DL.lstD_e, DL.datas_e, DL.datasK_e, DL.kN_e, DL.kB_e, DL.kI_e, DL.kS_e, DL.kT_e, DL.kD0_e, DL.chainI_e, DL.chA_e, DL.chB_e, DL.chI_e, DL.chJ_e, DL.chG_true, DL.chG_false, DL.chY_e, DL.chC_e, DL.sSeq_e, DL.seqSrc_e, DL.asItems_list, DL.asItems_tuple, DL.sRng1_e, DL.rngW_e, DL.rngI_e, DL.sRng2_e, DL.rngK_e, DL.rngWW_e, DL.rngWI_e, DL.rngJ_e, DL.sZip_e, DL.zipK_e, DL.zipW_e, DL.zipA_e, DL.zipD_list, DL.zipD_tuple, DL.sEnum_e, DL.enumW_e, DL.enumV_e, DL.asList_e, DL.enumL_e, DL.ownR_e, DL.lc_e, DL.tYes_e, List.map_cons, List.map_nil, List.nil_append, List.cons_append, List.length_cons, List.length_nil, List.set_cons_zero, List.set_cons_succ, ite_self, reduceIte, noL_none, noL_bool, noL_int, noL_str, noL_list, noL_tuple, noLs_nil, noLs_cons, Bool.true_and, Bool.false_and, Bool.and_true, Bool.and_self, Bool.false_eq_true, Bool.not_true, Bool.not_false, List.replicate_succ, List.replicate_zero, DL.opEq_e, DL.flip_e, DL.opNe_e, DL.opIn_e, DL.opNotIn_e, DL.opLt_e, DL.opAdd_e, DL.opMul_e, DL.opIx_e, DL.opIsN_e, DL.opNotN_e, DL.opNeg_e, DL.opLe_e, DL.opGt_e, DL.opGe_e, DL.opSub_e, DL.vLt_int, DL.vEq_int, DL.vAdd_int, DL.vAdd_list, DL.vAdd_tuple, DL.vLen_tuple, DL.vLen_list, DL.vInt_int, DL.vTuple_list, DL.vTuple_tuple, DL.vList_list, DL.vList_tuple, DL.vRev_list, DL.vRev_tuple, DL.vCut_list, DL.vCut_tuple, DL.f1_e, DL.f2_e, DL.isNon_none, DL.isNon_int, DL.isi_int, DL.isi_bool, DL.isi_tuple, DL.isi_list, DL.isi_str, DL.isi_dict, isI, isB, isNum, h]
  | _ => simp only [g__law_number, b__law_number, DL.sel_true, DL.sel_false, DL.sel_self, DL.okb, DL.excb, DL.badb, DL.pickb, DL.okp, DL.pickp, DL.ddat, DL.down, DL.sdat, DL.sown, DL.sraw, DL.spot, DL.gdat, DL.gown, DL.graw, DL.gpot, DL.asBb, DL.asIi, DL.kBok, DL.noxok, DL.datas0, DL.frz1_own, DL.frz1_dat, DL.frz1_raw, DL.frz1_pot, DL.frz1_none, DL.frz1_nil, DL.frz1_succ, DL.frz_nil, DL.frz_cons, DL.rdv_dat, DL.rdv_raw, DL.rdv_pot, DL.rdv_succ, DL.rtnV_zero, DL.rtnV_succ, DL.ownAt_zero, DL.ownAt_succ, DL.startE_eq, DL.seq_e, DL.seqK_nx, DL.seqK_ret, DL.seqK_brk, DL.seqK_cont, DL.asg_e, DL.asgK_e, DL.rtn_e, DL.rtnK_e, DL.rtnN_e, DL.exs_e, DL.exsK_e, DL.ifs_e, DL.ifsK_true, DL.ifsK_false, DL.skip_e, DL.brkS_e, DL.contS_e, DL.badS_e, DL.body_e, DL.fin_ret, DL.fin_nx, DL.app1_e, DL.app1K_e, DL.app_e, DL.appO_e, DL.appW_e, DL.appD_e, DL.asg2_e, DL.asg2K_e, DL.asg2L_e, DL.unp_e, DL.unpW_e, DL.unpD_e, DL.goOn_some, DL.goOn_none, DL.bT_e, DL.setL_cons, DL.setL_nil, DL.bN_e, DL.sto1_e, DL.sto_e, DL.stoW_e, DL.stoD_e, DL.sto2_e, DL.sto2K_e, DL.sto2W_e, DL.sto2I_e, DL.sto1K_e, DL.atK_e, DL.ali_e, DL.aliK_true, DL.aliK_false, DL.ali1_e, DL.ali1B_e, DL.ali1O_e, DL.ali1W_e, DL.ali1D_e, DL.forS_e, DL.forK_e, DL.loopB_some, DL.loopK_nx, DL.loopK_cont, DL.loopK_brk, DL.loopK_ret, DL.bin2_e, DL.binK_e, DL.binL_e, DL.un1_e, DL.unK_e, DL.tst_e, DL.tand_e, DL.tandK_true, DL.tandK_false, DL.tor_e, DL.torK_true, DL.torK_false, DL.tnot_e, DL.notK_e, DL.vand_e, DL.vandK_e, DL.vandL_true, DL.vandL_false, DL.vor_e, DL.vorK_e, DL.vorL_true, DL.vorL_false, DL.vnot_e, DL.vnotK_e, DL.vnotL_e, DL.vif_e, DL.vifK_true, DL.vifK_false, DL.anil_e, DL.acons_e, DL.aconsK_e, DL.aconsL_e, DL.call_e, DL.ccall_e, DL.ccallK1, DL.ccallK2, DL.ccallK3, DL.ccallK4, DL.sub_e, DL.subK_e, DL.subH_e, DL.cutK_e, DL.cutL_e, DL.oN_e, DL.oS_e, DL.oSK_e, DL.oI_e, DL.rev_e, DL.revK_e, DL.tup_e, DL.lst_e, DL.mkTup_e, DL.mkLst_e, DL.tupD_e, DL.lstD_e, DL.datas_e, DL.datasK_e, DL.kN_e, DL.kB_e, DL.kI_e, DL.kS_e, DL.kT_e, DL.kD0_e, DL.chainI_e, DL.chA_e, DL.chB_e, DL.chI_e, DL.chJ_e, DL.chG_true, DL.chG_false, DL.chY_e, DL.chC_e, DL.sSeq_e, DL.seqSrc_e, DL.asItems_list, DL.asItems_tuple, DL.sRng1_e, DL.rngW_e, DL.rngI_e, DL.sRng2_e, DL.rngK_e, DL.rngWW_e, DL.rngWI_e, DL.rngJ_e, DL.sZip_e, DL.zipK_e, DL.zipW_e, DL.zipA_e, DL.zipD_list, DL.zipD_tuple, DL.sEnum_e, DL.enumW_e, DL.enumV_e, DL.asList_e, DL.enumL_e, DL.ownR_e, DL.lc_e, DL.tYes_e, List.map_cons, List.map_nil, List.nil_append, List.cons_append, List.length_cons, List.length_nil, List.set_cons_zero, List.set_cons_succ, ite_self, reduceIte, noL_none, noL_bool, noL_int, noL_str, noL_list, noL_tuple, noLs_nil, noLs_cons, Bool.true_and, Bool.false_and, Bool.and_true, Bool.and_self, Bool.false_eq_true, Bool.not_true, Bool.not_false, List.replicate_succ, List.replicate_zero, DL.opEq_e, DL.flip_e, DL.opNe_e, DL.opIn_e, DL.opNotIn_e, DL.opLt_e, DL.opAdd_e, DL.opMul_e, DL.opIx_e, DL.opIsN_e, DL.opNotN_e, DL.opNeg_e, DL.opLe_e, DL.opGt_e, DL.opGe_e, DL.opSub_e, DL.vLt_int, DL.vEq_int, DL.vAdd_int, DL.vAdd_list, DL.vAdd_tuple, DL.vLen_tuple, DL.vLen_list, DL.vInt_int, DL.vTuple_list, DL.vTuple_tuple, DL.vList_list, DL.vList_tuple, DL.vRev_list, DL.vRev_tuple, DL.vCut_list, DL.vCut_tuple, DL.f1_e, DL.f2_e, DL.isNon_none, DL.isNon_int, DL.isi_int, DL.isi_bool, DL.isi_tuple, DL.isi_list, DL.isi_str, DL.isi_dict, isI, isB, isNum]
theorem r_law_is_pair (d : D) (m : Int) : g__law_is_pair [.dat d, .dat (.int m)] = .ok (.dat (.bool (isPr m d))) := by
  cases d with
  | tuple xs =>
    by_cases hl : xs.length = 2
    · obtain ⟨x, y, rfl⟩ := two_of hl
      have e2 : decide (((0 + 1 + 1 : Nat) : Int) = 2) = true := rfl
      have i0 : vIx (.tuple [x, y]) (.int 0) = .ok (.dat x) := rfl
      have i1 : vIx (.tuple [x, y]) (.int 1) = .ok (.dat y) := rfl
      cases h : isNum 0 (m - 1) x with
      | false =>
        have e3 : isPr m (.tuple [x, y]) = false := by
          cases e : isPr m (.tuple [x, y]) with
          | false => rfl
          | true =>
            obtain ⟨i, j, e2, h1, h2, h3⟩ := isPr_iff.mp e
            cases e2
            simp only [isNum, Bool.and_eq_false_iff, decide_eq_false_iff_not] at h
            omega
        simp only [g__law_is_pair, b__law_is_pair, DL.sel_true, DL.sel_false, DL.sel_self, DL.okb, DL.excb, DL.badb, DL.pickb, DL.okp, DL.pickp, DL.ddat, DL.down, DL.sdat, DL.sown, DL.sraw, DL.spot, DL.gdat, DL.gown, DL.graw, DL.gpot, DL.asBb, DL.asIi, DL.kBok, DL.noxok, DL.datas0, DL.frz1_own, DL.frz1_dat, DL.frz1_raw, DL.frz1_pot, DL.frz1_none, DL.frz1_nil, DL.frz1_succ, DL.frz_nil, DL.frz_cons, DL.rdv_dat, DL.rdv_raw, DL.rdv_pot, DL.rdv_succ, DL.rtnV_zero, DL.rtnV_succ, DL.ownAt_zero, DL.ownAt_succ, DL.startE_eq, DL.seq_e, DL.seqK_nx, DL.seqK_ret, DL.seqK_brk, DL.seqK_cont, DL.asg_e, DL.asgK_e, DL.rtn_e, DL.rtnK_e, DL.rtnN_e, DL.exs_e, DL.exsK_e, DL.ifs_e, DL.ifsK_true, DL.ifsK_false, DL.skip_e, DL.brkS_e, DL.contS_e, DL.badS_e, DL.body_e, DL.fin_ret, DL.fin_nx, DL.app1_e, DL.app1K_e, DL.app_e, DL.appO_e, DL.appW_e, DL.appD_e, DL.asg2_e, DL.asg2K_e, DL.asg2L_e, DL.unp_e, DL.unpW_e, DL.unpD_e, DL.goOn_some, DL.goOn_none, DL.bT_e, DL.setL_cons, DL.setL_nil, DL.bN_e, DL.sto1_e, DL.sto_e, DL.stoW_e, DL.stoD_e, DL.sto2_e, DL.sto2K_e, DL.sto2W_e, DL.sto2I_e, DL.sto1K_e, DL.atK_e, DL.ali_e, DL.aliK_true, DL.aliK_false, DL.ali1_e, DL.ali1B_e, DL.ali1O_e, DL.ali1W_e, DL.ali1D_e, DL.forS_e, DL.forK_e, DL.loopB_some, DL.loopK_nx, DL.loopK_cont, DL.loopK_brk, DL.loopK_ret, DL.bin2_e, DL.binK_e, DL.binL_e, DL.un1_e, DL.unK_e, DL.tst_e, DL.tand_e, DL.tandK_true, DL.tandK_false, DL.tor_e, DL.torK_true, DL.torK_false, DL.tnot_e, DL.notK_e, DL.vand_e, DL.vandK_e, DL.vandL_true, DL.vandL_false, DL.vor_e, DL.vorK_e, DL.vorL_true, DL.vorL_false, DL.vnot_e, DL.vnotK_e, DL.vnotL_e, DL.vif_e, DL.vifK_true, DL.vifK_false, DL.anil_e, DL.acons_e, DL.aconsK_e, DL.aconsL_e, DL.call_e, DL.ccall_e, DL.ccallK1, DL.ccallK2, DL.ccallK3, DL.ccallK4, DL.sub_e, DL.subK_e, DL.subH_e, DL.cutK_e, DL.cutL_e, DL.oN_e, DL.oS_e, DL.oSK_e, DL.oI_e, DL.rev_e, DL.revK_e, DL.tup_e, DL.lst_e, DL.mkTup_e, DL.mkLst_e, DL.tupD_e, DL.lstD_e, DL.datas_e, DL.datasK_e, DL.kN_e, DL.kB_e, DL.kI_e, DL.kS_e, DL.kT_e, DL.kD0_e, DL.chainI_e, DL.chA_e, DL.chB_e, DL.chI_e, DL.chJ_e, DL.chG_true, DL.chG_false, DL.chY_e, DL.chC_e, DL.sSeq_e, DL.seqSrc_e, DL.asItems_list, DL.asItems_tuple, DL.sRng1_e, DL.rngW_e, DL.rngI_e, DL.sRng2_e, DL.rngK_e, DL.rngWW_e, DL.rngWI_e, DL.rngJ_e, DL.sZip_e, DL.zipK_e, DL.zipW_e, DL.zipA_e, DL.zipD_list, DL.zipD_tuple, DL.sEnum_e, DL.enumW_e, DL.enumV_e, DL.asList_e, DL.enumL_e, DL.ownR_e, DL.lc_e, DL.tYes_e, List.map_cons, List.map_nil, List.nil_append, List.cons_append, List.length_cons, List.length_nil, List.set_cons_zero, List.set_cons_succ, ite_self, reduceIte, noL_none, noL_bool, noL_int, noL_str, noL_list, noL_tuple, noLs_nil, noLs_cons, Bool.true_and, Bool.false_and, Bool.and_true, Bool.and_self, Bool.false_eq_true, Bool.not_true, Bool.not_false, List.replicate_succ, List.replicate_zero, DL.opEq_e, DL.flip_e, DL.opNe_e, DL.opIn_e, DL.opNotIn_e, DL.opLt_e, DL.opAdd_e, DL.opMul_e, DL.opIx_e, DL.opIsN_e, DL.opNotN_e, DL.opNeg_e, DL.opLe_e, DL.opGt_e, DL.opGe_e, DL.opSub_e, DL.vLt_int, DL.vEq_int, DL.vAdd_int, DL.vAdd_list, DL.vAdd_tuple, DL.vLen_tuple, DL.vLen_list, DL.vInt_int, DL.vTuple_list, DL.vTuple_tuple, DL.vList_list, DL.vList_tuple, DL.vRev_list, DL.vRev_tuple, DL.vCut_list, DL.vCut_tuple, DL.f1_e, DL.f2_e, DL.isNon_none, DL.isNon_int, DL.isi_int, DL.isi_bool, DL.isi_tuple, DL.isi_list, DL.isi_str, DL.isi_dict, isT, e2, i0, i1, r_law_number, h, e3]
      | true =>
        obtain ⟨i, rfl⟩ : ∃ i, x = .int i := by cases x <;> first | exact ⟨_, rfl⟩ | cases h
        have e4 : isNum (i + 1) (m - 1) y = isPr m (.tuple [.int i, y]) := by
          simp only [isNum, Bool.and_eq_true, decide_eq_true_eq] at h
          cases y <;> simp only [isNum, isPr]
          rename_i j
          rw [decide_eq_true h.1, Bool.true_and]
          congr 1 <;> rw [decide_eq_decide] <;> omega
        simp only [g__law_is_pair, b__law_is_pair, DL.sel_true, DL.sel_false, DL.sel_self, DL.okb, DL.excb, DL.badb, DL.pickb, DL.okp, DL.pickp, DL.ddat, DL.down, DL.sdat, DL.sown, DL.sraw, DL.spot, DL.gdat, DL.gown, DL.graw, DL.gpot, DL.asBb, DL.asIi, DL.kBok, DL.noxok, DL.datas0, DL.frz1_own, DL.frz1_dat, DL.frz1_raw, DL.frz1_pot, DL.frz1_none, DL.frz1_nil, DL.frz1_succ, DL.frz_nil, DL.frz_cons, DL.rdv_dat, DL.rdv_raw, DL.rdv_pot, DL.rdv_succ, DL.rtnV_zero, DL.rtnV_succ, DL.ownAt_zero, DL.ownAt_succ, DL.startE_eq, DL.seq_e, DL.seqK_nx, DL.seqK_ret, DL.seqK_brk, DL.seqK_cont, DL.asg_e, DL.asgK_e, DL.rtn_e, DL.rtnK_e, DL.rtnN_e, DL.exs_e, DL.exsK_e, DL.ifs_e, DL.ifsK_true, DL.ifsK_false, DL.skip_e, DL.brkS_e, DL.contS_e, DL.badS_e, DL.body_e, DL.fin_ret, DL.fin_nx, DL.app1_e, DL.app1K_e, DL.app_e, DL.appO_e, DL.appW_e, DL.appD_e, DL.asg2_e, DL.asg2K_e, DL.asg2L_e, DL.unp_e, DL.unpW_e, DL.unpD_e, DL.goOn_some, DL.goOn_none, DL.bT_e, DL.setL_cons, DL.setL_nil, DL.bN_e, DL.sto1_e, DL.sto_e, DL.stoW_e, DL.stoD_e, DL.sto2_e, DL.sto2K_e, DL.sto2W_e, DL.sto2I_e, DL.sto1K_e, DL.atK_e, DL.ali_e, DL.aliK_true, DL.aliK_false, DL.ali1_e, DL.ali1B_e, DL.ali1O_e, DL.ali1W_e, DL.ali1D_e, DL.forS_e, DL.forK_e, DL.loopB_some, DL.loopK_nx, DL.loopK_cont, DL.loopK_brk, DL.loopK_ret, DL.bin2_e, DL.binK_e, DL.binL_e, DL.un1_e, DL.unK_e, DL.tst_e, DL.tand_e, DL.tandK_true, DL.tandK_false, DL.tor_e, DL.torK_true, DL.torK_false, DL.tnot_e, DL.notK_e, DL.vand_e, DL.vandK_e, DL.vandL_true, DL.vandL_false, DL.vor_e, DL.vorK_e, DL.vorL_true, DL.vorL_false, DL.vnot_e, DL.vnotK_e, DL.vnotL_e, DL.vif_e, DL.vifK_true, DL.vifK_false, DL.anil_e, DL.acons_e, DL.aconsK_e, DL.aconsL_e, DL.call_e, DL.ccall_e, DL.ccallK1, DL.ccallK2, DL.ccallK3, DL.ccallK4, DL.sub_e, DL.subK_e, DL.subH_e, DL.cutK_e, DL.cutL_e, DL.oN_e, DL.oS_e, DL.oSK_e, DL.oI_e, DL.rev_e, DL.revK_e, DL.tup_e, DL.lst_e, DL.mkTup_e, DL.mkLst_e, DL.tupD_e, DL.lstD_e, DL.datas_e, DL.datasK_e, DL.kN_e, DL.kB_e, DL.kI_e, DL.kS_e, DL.kT_e, DL.kD0_e, DL.chainI_e, DL.chA_e, DL.chB_e, DL.chI_e, DL.chJ_e, DL.chG_true, DL.chG_false, DL.chY_e, DL.chC_e, DL.sSeq_e, DL.seqSrc_e, DL.asItems_list, DL.asItems_tuple, DL.sRng1_e, DL.rngW_e, DL.rngI_e, DL.sRng2_e, DL.rngK_e, DL.rngWW_e, DL.rngWI_e, DL.rngJ_e, DL.sZip_e, DL.zipK_e, DL.zipW_e, DL.zipA_e, DL.zipD_list, DL.zipD_tuple, DL.sEnum_e, DL.enumW_e, DL.enumV_e, DL.asList_e, DL.enumL_e, DL.ownR_e, DL.lc_e, DL.tYes_e, List.map_cons, List.map_nil, List.nil_append, List.cons_append, List.length_cons, List.length_nil, List.set_cons_zero, List.set_cons_succ, ite_self, reduceIte, noL_none, noL_bool, noL_int, noL_str, noL_list, noL_tuple, noLs_nil, noLs_cons, Bool.true_and, Bool.false_and, Bool.and_true, Bool.and_self, Bool.false_eq_true, Bool.not_true, Bool.not_false, List.replicate_succ, List.replicate_zero, DL.opEq_e, DL.flip_e, DL.opNe_e, DL.opIn_e, DL.opNotIn_e, DL.opLt_e, DL.opAdd_e, DL.opMul_e, DL.opIx_e, DL.opIsN_e, DL.opNotN_e, DL.opNeg_e, DL.opLe_e, DL.opGt_e, DL.opGe_e, DL.opSub_e, DL.vLt_int, DL.vEq_int, DL.vAdd_int, DL.vAdd_list, DL.vAdd_tuple, DL.vLen_tuple, DL.vLen_list, DL.vInt_int, DL.vTuple_list, DL.vTuple_tuple, DL.vList_list, DL.vList_tuple, DL.vRev_list, DL.vRev_tuple, DL.vCut_list, DL.vCut_tuple, DL.f1_e, DL.f2_e, DL.isNon_none, DL.isNon_int, DL.isi_int, DL.isi_bool, DL.isi_tuple, DL.isi_list, DL.isi_str, DL.isi_dict, isT, e2, i0, i1, r_law_number, h, e4]
    · have e1 : decide ((xs.length : Int) = 2) = false := decide_eq_false (by omega)
      simp only [g__law_is_pair, b__law_is_pair, DL.sel_true, DL.sel_false, DL.sel_self, DL.okb, DL.excb, DL.badb, DL.pickb, DL.okp, DL.pickp, DL.ddat, DL.down, DL.sdat, DL.sown, DL.sraw, DL.spot, DL.gdat, DL.gown, DL.graw, DL.gpot, DL.asBb, DL.asIi, DL.kBok, DL.noxok, DL.datas0, DL.frz1_own, DL.frz1_dat, DL.frz1_raw, DL.frz1_pot, DL.frz1_none, DL.frz1_nil, DL.frz1_succ, DL.frz_nil, DL.frz_cons, DL.rdv_dat, DL.rdv_raw, DL.rdv_pot, DL.rdv_succ, DL.rtnV_zero, DL.rtnV_succ, DL.ownAt_zero, DL.ownAt_succ, DL.startE_eq, DL.seq_e, DL.seqK_nx, DL.seqK_ret, DL.seqK_brk, DL.seqK_cont, DL.asg_e, DL.asgK_e, DL.rtn_e, DL.rtnK_e, DL.rtnN_e, DL.exs_e, DL.exsK_e, DL.ifs_e, DL.ifsK_true, DL.ifsK_false, DL.skip_e, DL.brkS_e, DL.contS_e, DL.badS_e, DL.body_e, DL.fin_ret, DL.fin_nx, DL.app1_e, DL.app1K_e, DL.app_e, DL.appO_e, DL.appW_e, DL.appD_e, DL.asg2_e, DL.asg2K_e, DL.asg2L_e, DL.unp_e, DL.unpW_e, DL.unpD_e, DL.goOn_some, DL.goOn_none, DL.bT_e, DL.setL_cons, DL.setL_nil, DL.bN_e, DL.sto1_e, DL.sto_e, DL.stoW_e, DL.stoD_e, DL.sto2_e, DL.sto2K_e, DL.sto2W_e, DL.sto2I_e, DL.sto1K_e, DL.atK_e, DL.ali_e, DL.aliK_true, DL.aliK_false, DL.ali1_e, DL.ali1B_e, DL.ali1O_e, DL.ali1W_e, DL.ali1D_e, DL.forS_e, DL.forK_e, DL.loopB_some, DL.loopK_nx, DL.loopK_cont, DL.loopK_brk, DL.loopK_ret, DL.bin2_e, DL.binK_e, DL.binL_e, DL.un1_e, DL.unK_e, DL.tst_e, DL.tand_e, DL.tandK_true, DL.tandK_false, DL.tor_e, DL.torK_true, DL.torK_false, DL.tnot_e, DL.notK_e, DL.vand_e, DL.vandK_e, DL.vandL_true, DL.vandL_false, DL.vor_e, DL.vorK_e, DL.vorL_true, DL.vorL_false, DL.vnot_e, DL.vnotK_e, DL.vnotL_e, DL.vif_e, DL.vifK_true, DL.vifK_false, DL.anil_e, DL.acons_e, DL.aconsK_e, DL.aconsL_e, DL.call_e, DL.ccall_e, DL.ccallK1, DL.ccallK2, DL.ccallK3, DL.ccallK4, DL.sub_e, DL.subK_e, DL.subH_e, DL.cutK_e, DL.cutL_e, DL.oN_e, DL.oS_e, DL.oSK_e, DL.oI_e, DL.rev_e, DL.revK_e, DL.tup_e, DL.lst_e, DL.mkTup_e, DL.mkLst_e, DL.tupD_e, DL.lstD_e, DL.datas_e, DL.datasK_e, DL.kN_e, DL.kB_e, DL.kI_e, DL.kS_e, DL.kT_e, DL.kD0_e, DL.chainI_e, DL.chA_e, DL.chB_e, DL.chI_e, DL.chJ_e, DL.chG_true, DL.chG_false, DL.chY_e, DL.chC_e, DL.sSeq_e, DL.seqSrc_e, DL.asItems_list, DL.asItems_tuple, DL.sRng1_e, DL.rngW_e, DL.rngI_e, DL.sRng2_e, DL.rngK_e, DL.rngWW_e, DL.rngWI_e, DL.rngJ_e, DL.sZip_e, DL.zipK_e, DL.zipW_e, DL.zipA_e, DL.zipD_list, DL.zipD_tuple, DL.sEnum_e, DL.enumW_e, DL.enumV_e, DL.asList_e, DL.enumL_e, DL.ownR_e, DL.lc_e, DL.tYes_e, List.map_cons, List.map_nil, List.nil_append, List.cons_append, List.length_cons, List.length_nil, List.set_cons_zero, List.set_cons_succ, ite_self, reduceIte, noL_none, noL_bool, noL_int, noL_str, noL_list, noL_tuple, noLs_nil, noLs_cons, Bool.true_and, Bool.false_and, Bool.and_true, Bool.and_self, Bool.false_eq_true, Bool.not_true, Bool.not_false, List.replicate_succ, List.replicate_zero, DL.opEq_e, DL.flip_e, DL.opNe_e, DL.opIn_e, DL.opNotIn_e, DL.opLt_e, DL.opAdd_e, DL.opMul_e, DL.opIx_e, DL.opIsN_e, DL.opNotN_e, DL.opNeg_e, DL.opLe_e, DL.opGt_e, DL.opGe_e, DL.opSub_e, DL.vLt_int, DL.vEq_int, DL.vAdd_int, DL.vAdd_list, DL.vAdd_tuple, DL.vLen_tuple, DL.vLen_list, DL.vInt_int, DL.vTuple_list, DL.vTuple_tuple, DL.vList_list, DL.vList_tuple, DL.vRev_list, DL.vRev_tuple, DL.vCut_list, DL.vCut_tuple, DL.f1_e, DL.f2_e, DL.isNon_none, DL.isNon_int, DL.isi_int, DL.isi_bool, DL.isi_tuple, DL.isi_list, DL.isi_str, DL.isi_dict, isT, e1, isPr_len hl]
  | _ => simp only [g__law_is_pair, b__law_is_pair, DL.sel_true, DL.sel_false, DL.sel_self, DL.okb, DL.excb, DL.badb, DL.pickb, DL.okp, DL.pickp, DL.ddat, DL.down, DL.sdat, DL.sown, DL.sraw, DL.spot, DL.gdat, DL.gown, DL.graw, DL.gpot, DL.asBb, DL.asIi, DL.kBok, DL.noxok, DL.datas0, DL.frz1_own, DL.frz1_dat, DL.frz1_raw, DL.frz1_pot, DL.frz1_none, DL.frz1_nil, DL.frz1_succ, DL.frz_nil, DL.frz_cons, DL.rdv_dat, DL.rdv_raw, DL.rdv_pot, DL.rdv_succ, DL.rtnV_zero, DL.rtnV_succ, DL.ownAt_zero, DL.ownAt_succ, DL.startE_eq, DL.seq_e, DL.seqK_nx, DL.seqK_ret, DL.seqK_brk, DL.seqK_cont, DL.asg_e, DL.asgK_e, DL.rtn_e, DL.rtnK_e, DL.rtnN_e, DL.exs_e, DL.exsK_e, DL.ifs_e, DL.ifsK_true, DL.ifsK_false, DL.skip_e, DL.brkS_e, DL.contS_e, DL.badS_e, DL.body_e, DL.fin_ret, DL.fin_nx, DL.app1_e, DL.app1K_e, DL.app_e, DL.appO_e, DL.appW_e, DL.appD_e, DL.asg2_e, DL.asg2K_e, DL.asg2L_e, DL.unp_e, DL.unpW_e, DL.unpD_e, DL.goOn_some, DL.goOn_none, DL.bT_e, DL.setL_cons, DL.setL_nil, DL.bN_e, DL.sto1_e, DL.sto_e, DL.stoW_e, DL.stoD_e, DL.sto2_e, DL.sto2K_e, DL.sto2W_e, DL.sto2I_e, DL.sto1K_e, DL.atK_e, DL.ali_e, DL.aliK_true, DL.aliK_false, DL.ali1_e, DL.ali1B_e, DL.ali1O_e, DL.ali1W_e, DL.ali1D_e, DL.forS_e, DL.forK_e, DL.loopB_some, DL.loopK_nx, DL.loopK_cont, DL.loopK_brk, DL.loopK_ret, DL.bin2_e, DL.binK_e, DL.binL_e, DL.un1_e, DL.unK_e, DL.tst_e, DL.tand_e, DL.tandK_true, DL.tandK_false, DL.tor_e, DL.torK_true, DL.torK_false, DL.tnot_e, DL.notK_e, DL.vand_e, DL.vandK_e, DL.vandL_true, DL.vandL_false, DL.vor_e, DL.vorK_e, DL.vorL_true, DL.vorL_false, DL.vnot_e, DL.vnotK_e, DL.vnotL_e, DL.vif_e, DL.vifK_true, DL.vifK_false, DL.anil_e, DL.acons_e, DL.aconsK_e, DL.aconsL_e, DL.call_e, DL.ccall_e, DL.ccallK1, DL.ccallK2, DL.ccallK3, DL.ccallK4, DL.sub_e, DL.subK_e, DL.subH_e, DL.cutK_e, DL.cutL_e, DL.oN_e, DL.oS_e, DL.oSK_e, DL.oI_e, DL.rev_e, DL.revK_e, DL.tup_e, DL.lst_e, DL.mkTup_e, DL.mkLst_e, DL.tupD_e, DL.lstD_e, DL.datas_e, DL.datasK_e, DL.kN_e, DL.kB_e, DL.kI_e, DL.kS_e, DL.kT_e, DL.kD0_e, DL.chainI_e, DL.chA_e, DL.chB_e, DL.chI_e, DL.chJ_e, DL.chG_true, DL.chG_false, DL.chY_e, DL.chC_e, DL.sSeq_e, DL.seqSrc_e, DL.asItems_list, DL.asItems_tuple, DL.sRng1_e, DL.rngW_e, DL.rngI_e, DL.sRng2_e, DL.rngK_e, DL.rngWW_e, DL.rngWI_e, DL.rngJ_e, DL.sZip_e, DL.zipK_e, DL.zipW_e, DL.zipA_e, DL.zipD_list, DL.zipD_tuple, DL.sEnum_e, DL.enumW_e, DL.enumV_e, DL.asList_e, DL.enumL_e, DL.ownR_e, DL.lc_e, DL.tYes_e, List.map_cons, List.map_nil, List.nil_append, List.cons_append, List.length_cons, List.length_nil, List.set_cons_zero, List.set_cons_succ, ite_self, reduceIte, noL_none, noL_bool, noL_int, noL_str, noL_list, noL_tuple, noLs_nil, noLs_cons, Bool.true_and, Bool.false_and, Bool.and_true, Bool.and_self, Bool.false_eq_true, Bool.not_true, Bool.not_false, List.replicate_succ, List.replicate_zero, DL.opEq_e, DL.flip_e, DL.opNe_e, DL.opIn_e, DL.opNotIn_e, DL.opLt_e, DL.opAdd_e, DL.opMul_e, DL.opIx_e, DL.opIsN_e, DL.opNotN_e, DL.opNeg_e, DL.opLe_e, DL.opGt_e, DL.opGe_e, DL.opSub_e, DL.vLt_int, DL.vEq_int, DL.vAdd_int, DL.vAdd_list, DL.vAdd_tuple, DL.vLen_tuple, DL.vLen_list, DL.vInt_int, DL.vTuple_list, DL.vTuple_tuple, DL.vList_list, DL.vList_tuple, DL.vRev_list, DL.vRev_tuple, DL.vCut_list, DL.vCut_tuple, DL.f1_e, DL.f2_e, DL.isNon_none, DL.isNon_int, DL.isi_int, DL.isi_bool, DL.isi_tuple, DL.isi_list, DL.isi_str, DL.isi_dict, isT, isPr]
theorem r_law_is_row (d : D) (m : Int) (hd : (itm d).length ≤ 1000000) : g__law_is_row [.dat d, .dat (.int m)] = .ok (.dat (.bool (isRow m d))) := by
  cases d with
  | tuple xs =>
    have hd : xs.length ≤ 1000000 := hd
    obtain ⟨ρ', ⟨o, rfl, ho⟩, lp⟩ := loop_inv (b := bN 2) (g := ifs [1, 2] (tnot (tst (ccall 2 g__law_is_pair (acons (rdv 2) (acons (rdv 1) anil))))) (rtn [] (kB' false)) skip) (fun d => !isPr m d) (fun _ => .dat (.bool false))
      (fun ρ => ∃ o, ρ = [some (.dat (.tuple xs)), some (.dat (.int m)), o, none, none] ∧ (o = none ∨ ∃ z, o = some (.dat z))) xs _ ⟨none, rfl, .inl rfl⟩ fun ρ hρ z hz => by
        obtain ⟨o, rfl, _⟩ := hρ
        refine ⟨_, rfl, ?_⟩
        cases hp : isPr m z with
        | false => exact .inl ⟨rfl, by simp only [DL.sel_true, DL.sel_false, DL.sel_self, DL.okb, DL.excb, DL.badb, DL.pickb, DL.okp, DL.pickp, DL.ddat, DL.down, DL.sdat, DL.sown, DL.sraw, DL.spot, DL.gdat, DL.gown, DL.graw, DL.gpot, DL.asBb, DL.asIi, DL.kBok, DL.noxok, DL.datas0, DL.frz1_own, DL.frz1_dat, DL.frz1_raw, DL.frz1_pot, DL.frz1_none, DL.frz1_nil, DL.frz1_succ, DL.frz_nil, DL.frz_cons, DL.rdv_dat, DL.rdv_raw, DL.rdv_pot, DL.rdv_succ, DL.rtnV_zero, DL.rtnV_succ, DL.ownAt_zero, DL.ownAt_succ, DL.startE_eq, DL.seq_e, DL.seqK_nx, DL.seqK_ret, DL.seqK_brk, DL.seqK_cont, DL.asg_e, DL.asgK_e, DL.rtn_e, DL.rtnK_e, DL.rtnN_e, DL.exs_e, DL.exsK_e, DL.ifs_e, DL.ifsK_true, DL.ifsK_false, DL.skip_e, DL.brkS_e, DL.contS_e, DL.badS_e, DL.body_e, DL.fin_ret, DL.fin_nx, DL.app1_e, DL.app1K_e, DL.app_e, DL.appO_e, DL.appW_e, DL.appD_e, DL.asg2_e, DL.asg2K_e, DL.asg2L_e, DL.unp_e, DL.unpW_e, DL.unpD_e, DL.goOn_some, DL.goOn_none, DL.bT_e, DL.setL_cons, DL.setL_nil, DL.bN_e, DL.sto1_e, DL.sto_e, DL.stoW_e, DL.stoD_e, DL.sto2_e, DL.sto2K_e, DL.sto2W_e, DL.sto2I_e, DL.sto1K_e, DL.atK_e, DL.ali_e, DL.aliK_true, DL.aliK_false, DL.ali1_e, DL.ali1B_e, DL.ali1O_e, DL.ali1W_e, DL.ali1D_e, DL.forS_e, DL.forK_e, DL.loopB_some, DL.loopK_nx, DL.loopK_cont, DL.loopK_brk, DL.loopK_ret, DL.bin2_e, DL.binK_e, DL.binL_e, DL.un1_e, DL.unK_e, DL.tst_e, DL.tand_e, DL.tandK_true, DL.tandK_false, DL.tor_e, DL.torK_true, DL.torK_false, DL.tnot_e, DL.notK_e, DL.vand_e, DL.vandK_e, DL.vandL_true, DL.vandL_false, DL.vor_e, DL.vorK_e, DL.vorL_true, DL.vorL_false, DL.vnot_e, DL.vnotK_e, DL.vnotL_e, DL.vif_e, DL.vifK_true, DL.vifK_false, DL.anil_e, DL.acons_e, DL.aconsK_e, DL.aconsL_e, DL.call_e, DL.ccall_e, DL.ccallK1, DL.ccallK2, DL.ccallK3, DL.ccallK4, DL.sub_e, DL.subK_e, DL.subH_e, DL.cutK_e, DL.cutL_e, DL.oN_e, DL.oS_e, DL.oSK_e, DL.oI_e, DL.rev_e, DL.revK_e, DL.tup_e, DL.lst_e, DL.mkTup_e, DL.mkLst_e, DL.tupD_e, DL.lstD_e, DL.datas_e, DL.datasK_e, DL.kN_e, DL.kB_e, DL.kI_e, DL.kS_e, DL.kT_e, DL.kD0_e, DL.chainI_e, DL.chA_e, DL.chB_e, DL.chI_e, DL.chJ_e, DL.chG_true, DL.chG_false, DL.chY_e, DL.chC_e, DL.sSeq_e, DL.seqSrc_e, DL.asItems_list, DL.asItems_tuple, DL.sRng1_e, DL.rngW_e, DL.rngI_e, DL.sRng2_e, DL.rngK_e, DL.rngWW_e, DL.rngWI_e, DL.rngJ_e, DL.sZip_e, DL.zipK_e, DL.zipW_e, DL.zipA_e, DL.zipD_list, DL.zipD_tuple, DL.sEnum_e, DL.enumW_e, DL.enumV_e, DL.asList_e, DL.enumL_e, DL.ownR_e, DL.lc_e, DL.tYes_e, List.map_cons, List.map_nil, List.nil_append, List.cons_append, List.length_cons, List.length_nil, List.set_cons_zero, List.set_cons_succ, ite_self, reduceIte, noL_none, noL_bool, noL_int, noL_str, noL_list, noL_tuple, noLs_nil, noLs_cons, Bool.true_and, Bool.false_and, Bool.and_true, Bool.and_self, Bool.false_eq_true, Bool.not_true, Bool.not_false, List.replicate_succ, List.replicate_zero, DL.opEq_e, DL.flip_e, DL.opNe_e, DL.opIn_e, DL.opNotIn_e, DL.opLt_e, DL.opAdd_e, DL.opMul_e, DL.opIx_e, DL.opIsN_e, DL.opNotN_e, DL.opNeg_e, DL.opLe_e, DL.opGt_e, DL.opGe_e, DL.opSub_e, DL.vLt_int, DL.vEq_int, DL.vAdd_int, DL.vAdd_list, DL.vAdd_tuple, DL.vLen_tuple, DL.vLen_list, DL.vInt_int, DL.vTuple_list, DL.vTuple_tuple, DL.vList_list, DL.vList_tuple, DL.vRev_list, DL.vRev_tuple, DL.vCut_list, DL.vCut_tuple, DL.f1_e, DL.f2_e, DL.isNon_none, DL.isNon_int, DL.isi_int, DL.isi_bool, DL.isi_tuple, DL.isi_list, DL.isi_str, DL.isi_dict, r_law_is_pair, hp]⟩
        | true => exact .inr ⟨rfl, _, by simp only [DL.sel_true, DL.sel_false, DL.sel_self, DL.okb, DL.excb, DL.badb, DL.pickb, DL.okp, DL.pickp, DL.ddat, DL.down, DL.sdat, DL.sown, DL.sraw, DL.spot, DL.gdat, DL.gown, DL.graw, DL.gpot, DL.asBb, DL.asIi, DL.kBok, DL.noxok, DL.datas0, DL.frz1_own, DL.frz1_dat, DL.frz1_raw, DL.frz1_pot, DL.frz1_none, DL.frz1_nil, DL.frz1_succ, DL.frz_nil, DL.frz_cons, DL.rdv_dat, DL.rdv_raw, DL.rdv_pot, DL.rdv_succ, DL.rtnV_zero, DL.rtnV_succ, DL.ownAt_zero, DL.ownAt_succ, DL.startE_eq, DL.seq_e, DL.seqK_nx, DL.seqK_ret, DL.seqK_brk, DL.seqK_cont, DL.asg_e, DL.asgK_e, DL.rtn_e, DL.rtnK_e, DL.rtnN_e, DL.exs_e, DL.exsK_e, DL.ifs_e, DL.ifsK_true, DL.ifsK_false, DL.skip_e, DL.brkS_e, DL.contS_e, DL.badS_e, DL.body_e, DL.fin_ret, DL.fin_nx, DL.app1_e, DL.app1K_e, DL.app_e, DL.appO_e, DL.appW_e, DL.appD_e, DL.asg2_e, DL.asg2K_e, DL.asg2L_e, DL.unp_e, DL.unpW_e, DL.unpD_e, DL.goOn_some, DL.goOn_none, DL.bT_e, DL.setL_cons, DL.setL_nil, DL.bN_e, DL.sto1_e, DL.sto_e, DL.stoW_e, DL.stoD_e, DL.sto2_e, DL.sto2K_e, DL.sto2W_e, DL.sto2I_e, DL.sto1K_e, DL.atK_e, DL.ali_e, DL.aliK_true, DL.aliK_false, DL.ali1_e, DL.ali1B_e, DL.ali1O_e, DL.ali1W_e, DL.ali1D_e, DL.forS_e, DL.forK_e, DL.loopB_some, DL.loopK_nx, DL.loopK_cont, DL.loopK_brk, DL.loopK_ret, DL.bin2_e, DL.binK_e, DL.binL_e, DL.un1_e, DL.unK_e, DL.tst_e, DL.tand_e, DL.tandK_true, DL.tandK_false, DL.tor_e, DL.torK_true, DL.torK_false, DL.tnot_e, DL.notK_e, DL.vand_e, DL.vandK_e, DL.vandL_true, DL.vandL_false, DL.vor_e, DL.vorK_e, DL.vorL_true, DL.vorL_false, DL.vnot_e, DL.vnotK_e, DL.vnotL_e, DL.vif_e, DL.vifK_true, DL.vifK_false, DL.anil_e, DL.acons_e, DL.aconsK_e, DL.aconsL_e, DL.call_e, DL.ccall_e, DL.ccallK1, DL.ccallK2, DL.ccallK3, DL.ccallK4, DL.sub_e, DL.subK_e, DL.subH_e, DL.cutK_e, DL.cutL_e, DL.oN_e, DL.oS_e, DL.oSK_e, DL.oI_e, DL.rev_e, DL.revK_e, DL.tup_e, DL.lst_e, DL.mkTup_e, DL.mkLst_e, DL.tupD_e, DL.lstD_e, DL.datas_e, DL.datasK_e, DL.kN_e, DL.kB_e, DL.kI_e, DL.kS_e, DL.kT_e, DL.kD0_e, DL.chainI_e, DL.chA_e, DL.chB_e, DL.chI_e, DL.chJ_e, DL.chG_true, DL.chG_false, DL.chY_e, DL.chC_e, DL.sSeq_e, DL.seqSrc_e, DL.asItems_list, DL.asItems_tuple, DL.sRng1_e, DL.rngW_e, DL.rngI_e, DL.sRng2_e, DL.rngK_e, DL.rngWW_e, DL.rngWI_e, DL.rngJ_e, DL.sZip_e, DL.zipK_e, DL.zipW_e, DL.zipA_e, DL.zipD_list, DL.zipD_tuple, DL.sEnum_e, DL.enumW_e, DL.enumV_e, DL.asList_e, DL.enumL_e, DL.ownR_e, DL.lc_e, DL.tYes_e, List.map_cons, List.map_nil, List.nil_append, List.cons_append, List.length_cons, List.length_nil, List.set_cons_zero, List.set_cons_succ, ite_self, reduceIte, noL_none, noL_bool, noL_int, noL_str, noL_list, noL_tuple, noLs_nil, noLs_cons, Bool.true_and, Bool.false_and, Bool.and_true, Bool.and_self, Bool.false_eq_true, Bool.not_true, Bool.not_false, List.replicate_succ, List.replicate_zero, DL.opEq_e, DL.flip_e, DL.opNe_e, DL.opIn_e, DL.opNotIn_e, DL.opLt_e, DL.opAdd_e, DL.opMul_e, DL.opIx_e, DL.opIsN_e, DL.opNotN_e, DL.opNeg_e, DL.opLe_e, DL.opGt_e, DL.opGe_e, DL.opSub_e, DL.vLt_int, DL.vEq_int, DL.vAdd_int, DL.vAdd_list, DL.vAdd_tuple, DL.vLen_tuple, DL.vLen_list, DL.vInt_int, DL.vTuple_list, DL.vTuple_tuple, DL.vList_list, DL.vList_tuple, DL.vRev_list, DL.vRev_tuple, DL.vCut_list, DL.vCut_tuple, DL.f1_e, DL.f2_e, DL.isNon_none, DL.isNon_int, DL.isi_int, DL.isi_bool, DL.isi_tuple, DL.isi_list, DL.isi_str, DL.isi_dict, r_law_is_pair, hp], _, rfl, .inr ⟨z, rfl⟩⟩
    cases hc : xs.all (isPr m) with
    | false =>
      obtain ⟨z, hz⟩ := find_some hc
      rw [hz] at lp
      simp only [g__law_is_row, b__law_is_row, DL.sel_true, DL.sel_false, DL.sel_self, DL.okb, DL.excb, DL.badb, DL.pickb, DL.okp, DL.pickp, DL.ddat, DL.down, DL.sdat, DL.sown, DL.sraw, DL.spot, DL.gdat, DL.gown, DL.graw, DL.gpot, DL.asBb, DL.asIi, DL.kBok, DL.noxok, DL.datas0, DL.frz1_own, DL.frz1_dat, DL.frz1_raw, DL.frz1_pot, DL.frz1_none, DL.frz1_nil, DL.frz1_succ, DL.frz_nil, DL.frz_cons, DL.rdv_dat, DL.rdv_raw, DL.rdv_pot, DL.rdv_succ, DL.rtnV_zero, DL.rtnV_succ, DL.ownAt_zero, DL.ownAt_succ, DL.startE_eq, DL.seq_e, DL.seqK_nx, DL.seqK_ret, DL.seqK_brk, DL.seqK_cont, DL.asg_e, DL.asgK_e, DL.rtn_e, DL.rtnK_e, DL.rtnN_e, DL.exs_e, DL.exsK_e, DL.ifs_e, DL.ifsK_true, DL.ifsK_false, DL.skip_e, DL.brkS_e, DL.contS_e, DL.badS_e, DL.body_e, DL.fin_ret, DL.fin_nx, DL.app1_e, DL.app1K_e, DL.app_e, DL.appO_e, DL.appW_e, DL.appD_e, DL.asg2_e, DL.asg2K_e, DL.asg2L_e, DL.unp_e, DL.unpW_e, DL.unpD_e, DL.goOn_some, DL.goOn_none, DL.bT_e, DL.setL_cons, DL.setL_nil, DL.bN_e, DL.sto1_e, DL.sto_e, DL.stoW_e, DL.stoD_e, DL.sto2_e, DL.sto2K_e, DL.sto2W_e, DL.sto2I_e, DL.sto1K_e, DL.atK_e, DL.ali_e, DL.aliK_true, DL.aliK_false, DL.ali1_e, DL.ali1B_e, DL.ali1O_e, DL.ali1W_e, DL.ali1D_e, DL.forS_e, DL.forK_e, DL.loopB_some, DL.loopK_nx, DL.loopK_cont, DL.loopK_brk, DL.loopK_ret, DL.bin2_e, DL.binK_e, DL.binL_e, DL.un1_e, DL.unK_e, DL.tst_e, DL.tand_e, DL.tandK_true, DL.tandK_false, DL.tor_e, DL.torK_true, DL.torK_false, DL.tnot_e, DL.notK_e, DL.vand_e, DL.vandK_e, DL.vandL_true, DL.vandL_false, DL.vor_e, DL.vorK_e, DL.vorL_true, DL.vorL_false, DL.vnot_e, DL.vnotK_e, DL.vnotL_e, DL.vif_e, DL.vifK_true, DL.vifK_false, DL.anil_e, DL.acons_e, DL.aconsK_e, DL.aconsL_e, DL.call_e, DL.ccall_e, DL.ccallK1, DL.ccallK2, DL.ccallK3, DL.ccallK4, DL.sub_e, DL.subK_e, DL.subH_e, DL.cutK_e, DL.cutL_e, DL.oN_e, DL.oS_e, DL.oSK_e, DL.oI_e, DL.rev_e, DL.revK_e, DL.tup_e, DL.lst_e, DL.mkTup_e, DL.mkLst_e, DL.tupD_e, DL.lstD_e, DL.datas_e, DL.datasK_e, DL.kN_e, DL.kB_e, DL.kI_e, DL.kS_e, DL.kT_e, DL.kD0_e, DL.chainI_e, DL.chA_e, DL.chB_e, DL.chI_e, DL.chJ_e, DL.chG_true, DL.chG_false, DL.chY_e, DL.chC_e, DL.sSeq_e, DL.seqSrc_e, DL.asItems_list, DL.asItems_tuple, DL.sRng1_e, DL.rngW_e, DL.rngI_e, DL.sRng2_e, DL.rngK_e, DL.rngWW_e, DL.rngWI_e, DL.rngJ_e, DL.sZip_e, DL.zipK_e, DL.zipW_e, DL.zipA_e, DL.zipD_list, DL.zipD_tuple, DL.sEnum_e, DL.enumW_e, DL.enumV_e, DL.asList_e, DL.enumL_e, DL.ownR_e, DL.lc_e, DL.tYes_e, List.map_cons, List.map_nil, List.nil_append, List.cons_append, List.length_cons, List.length_nil, List.set_cons_zero, List.set_cons_succ, ite_self, reduceIte, noL_none, noL_bool, noL_int, noL_str, noL_list, noL_tuple, noLs_nil, noLs_cons, Bool.true_and, Bool.false_and, Bool.and_true, Bool.and_self, Bool.false_eq_true, Bool.not_true, Bool.not_false, List.replicate_succ, List.replicate_zero, DL.opEq_e, DL.flip_e, DL.opNe_e, DL.opIn_e, DL.opNotIn_e, DL.opLt_e, DL.opAdd_e, DL.opMul_e, DL.opIx_e, DL.opIsN_e, DL.opNotN_e, DL.opNeg_e, DL.opLe_e, DL.opGt_e, DL.opGe_e, DL.opSub_e, DL.vLt_int, DL.vEq_int, DL.vAdd_int, DL.vAdd_list, DL.vAdd_tuple, DL.vLen_tuple, DL.vLen_list, DL.vInt_int, DL.vTuple_list, DL.vTuple_tuple, DL.vList_list, DL.vList_tuple, DL.vRev_list, DL.vRev_tuple, DL.vCut_list, DL.vCut_tuple, DL.f1_e, DL.f2_e, DL.isNon_none, DL.isNon_int, DL.isi_int, DL.isi_bool, DL.isi_tuple, DL.isi_list, DL.isi_str, DL.isi_dict, isT, isRow, hc, lp]
    | true =>
      rw [find_not hc] at lp
      have c2 : ∀ ρ : En, ρ = [some (.dat (.tuple xs)), some (.dat (.int m)), o, none, none] → lcK [3, 4] (bT [3, 4]) (tnot (tst (bin2 opLt (rdv 3) (rdv 4)))) (kI 1) ρ (List.zipWith pairD xs (cutD xs (some 1) none)) = .ok (.own (((List.zipWith pairD xs (xs.drop 1)).filter fun d => !ltD (fst' d) (snd' d)).map fun _ => .int 1)) := by
        intro ρ e
        subst e
        rw [show ((1 : Int)) = ((1 : Nat) : Int) from rfl, cutD_from]
        refine lcK_ok _ _ (by rw [List.length_zipWith]; omega) fun z hz => ?_
        obtain ⟨x, y, hx, hy, rfl⟩ := zip_mem hz
        obtain ⟨i, j, rfl, _⟩ := isPr_iff.mp (List.all_eq_true.mp hc x hx)
        obtain ⟨k, l, rfl, _⟩ := isPr_iff.mp (List.all_eq_true.mp hc y (List.mem_of_mem_drop hy))
        refine ⟨_, rfl, ?_, fun _ => ⟨_, rfl, rfl⟩⟩
        simp only [wipeE, DL.sel_true, DL.sel_false, DL.sel_self, DL.okb, DL.excb, DL.badb, DL.pickb, DL.okp, DL.pickp, DL.ddat, DL.down, DL.sdat, DL.sown, DL.sraw, DL.spot, DL.gdat, DL.gown, DL.graw, DL.gpot, DL.asBb, DL.asIi, DL.kBok, DL.noxok, DL.datas0, DL.frz1_own, DL.frz1_dat, DL.frz1_raw, DL.frz1_pot, DL.frz1_none, DL.frz1_nil, DL.frz1_succ, DL.frz_nil, DL.frz_cons, DL.rdv_dat, DL.rdv_raw, DL.rdv_pot, DL.rdv_succ, DL.rtnV_zero, DL.rtnV_succ, DL.ownAt_zero, DL.ownAt_succ, DL.startE_eq, DL.seq_e, DL.seqK_nx, DL.seqK_ret, DL.seqK_brk, DL.seqK_cont, DL.asg_e, DL.asgK_e, DL.rtn_e, DL.rtnK_e, DL.rtnN_e, DL.exs_e, DL.exsK_e, DL.ifs_e, DL.ifsK_true, DL.ifsK_false, DL.skip_e, DL.brkS_e, DL.contS_e, DL.badS_e, DL.body_e, DL.fin_ret, DL.fin_nx, DL.app1_e, DL.app1K_e, DL.app_e, DL.appO_e, DL.appW_e, DL.appD_e, DL.asg2_e, DL.asg2K_e, DL.asg2L_e, DL.unp_e, DL.unpW_e, DL.unpD_e, DL.goOn_some, DL.goOn_none, DL.bT_e, DL.setL_cons, DL.setL_nil, DL.bN_e, DL.sto1_e, DL.sto_e, DL.stoW_e, DL.stoD_e, DL.sto2_e, DL.sto2K_e, DL.sto2W_e, DL.sto2I_e, DL.sto1K_e, DL.atK_e, DL.ali_e, DL.aliK_true, DL.aliK_false, DL.ali1_e, DL.ali1B_e, DL.ali1O_e, DL.ali1W_e, DL.ali1D_e, DL.forS_e, DL.forK_e, DL.loopB_some, DL.loopK_nx, DL.loopK_cont, DL.loopK_brk, DL.loopK_ret, DL.bin2_e, DL.binK_e, DL.binL_e, DL.un1_e, DL.unK_e, DL.tst_e, DL.tand_e, DL.tandK_true, DL.tandK_false, DL.tor_e, DL.torK_true, DL.torK_false, DL.tnot_e, DL.notK_e, DL.vand_e, DL.vandK_e, DL.vandL_true, DL.vandL_false, DL.vor_e, DL.vorK_e, DL.vorL_true, DL.vorL_false, DL.vnot_e, DL.vnotK_e, DL.vnotL_e, DL.vif_e, DL.vifK_true, DL.vifK_false, DL.anil_e, DL.acons_e, DL.aconsK_e, DL.aconsL_e, DL.call_e, DL.ccall_e, DL.ccallK1, DL.ccallK2, DL.ccallK3, DL.ccallK4, DL.sub_e, DL.subK_e, DL.subH_e, DL.cutK_e, DL.cutL_e, DL.oN_e, DL.oS_e, DL.oSK_e, DL.oI_e, DL.rev_e, DL.revK_e, DL.tup_e, DL.lst_e, DL.mkTup_e, DL.mkLst_e, DL.tupD_e, DL.lstD_e, DL.datas_e, DL.datasK_e, DL.kN_e, DL.kB_e, DL.kI_e, DL.kS_e, DL.kT_e, DL.kD0_e, DL.chainI_e, DL.chA_e, DL.chB_e, DL.chI_e, DL.chJ_e, DL.chG_true, DL.chG_false, DL.chY_e, DL.chC_e, DL.sSeq_e, DL.seqSrc_e, DL.asItems_list, DL.asItems_tuple, DL.sRng1_e, DL.rngW_e, DL.rngI_e, DL.sRng2_e, DL.rngK_e, DL.rngWW_e, DL.rngWI_e, DL.rngJ_e, DL.sZip_e, DL.zipK_e, DL.zipW_e, DL.zipA_e, DL.zipD_list, DL.zipD_tuple, DL.sEnum_e, DL.enumW_e, DL.enumV_e, DL.asList_e, DL.enumL_e, DL.ownR_e, DL.lc_e, DL.tYes_e, List.map_cons, List.map_nil, List.nil_append, List.cons_append, List.length_cons, List.length_nil, List.set_cons_zero, List.set_cons_succ, ite_self, reduceIte, noL_none, noL_bool, noL_int, noL_str, noL_list, noL_tuple, noLs_nil, noLs_cons, Bool.true_and, Bool.false_and, Bool.and_true, Bool.and_self, Bool.false_eq_true, Bool.not_true, Bool.not_false, List.replicate_succ, List.replicate_zero, DL.opEq_e, DL.flip_e, DL.opNe_e, DL.opIn_e, DL.opNotIn_e, DL.opLt_e, DL.opAdd_e, DL.opMul_e, DL.opIx_e, DL.opIsN_e, DL.opNotN_e, DL.opNeg_e, DL.opLe_e, DL.opGt_e, DL.opGe_e, DL.opSub_e, DL.vLt_int, DL.vEq_int, DL.vAdd_int, DL.vAdd_list, DL.vAdd_tuple, DL.vLen_tuple, DL.vLen_list, DL.vInt_int, DL.vTuple_list, DL.vTuple_tuple, DL.vList_list, DL.vList_tuple, DL.vRev_list, DL.vRev_tuple, DL.vCut_list, DL.vCut_tuple, DL.f1_e, DL.f2_e, DL.isNon_none, DL.isNon_int, DL.isi_int, DL.isi_bool, DL.isi_tuple, DL.isi_list, DL.isi_str, DL.isi_dict, pairD, fst', snd', vLt_ok vLt_pairs]
      have c3 : vEq (.list (((List.zipWith pairD xs (xs.drop 1)).filter fun d => !ltD (fst' d) (snd' d)).map fun _ => .int 1)) (.list []) = .ok (adj xs) := by
        have e : (((List.zipWith pairD xs (xs.drop 1)).filter fun d => !ltD (fst' d) (snd' d)).map fun _ => PyData.int 1) = ((((List.zipWith pairD xs (xs.drop 1)).filter fun d => !ltD (fst' d) (snd' d)).map fun _ => (1 : Int)).map PyData.int) := by
          rw [List.map_map]
          rfl
        rw [e, vEq_nil (shaped_ints _), ← adj_not]
        simp
      have sm : ∀ x : M Wv, small 0 x = x := fun _ => rfl
      rcases ho with rfl | ⟨z, rfl⟩
      · simp only [g__law_is_row, b__law_is_row, DL.sel_true, DL.sel_false, DL.sel_self, DL.okb, DL.excb, DL.badb, DL.pickb, DL.okp, DL.pickp, DL.ddat, DL.down, DL.sdat, DL.sown, DL.sraw, DL.spot, DL.gdat, DL.gown, DL.graw, DL.gpot, DL.asBb, DL.asIi, DL.kBok, DL.noxok, DL.datas0, DL.frz1_own, DL.frz1_dat, DL.frz1_raw, DL.frz1_pot, DL.frz1_none, DL.frz1_nil, DL.frz1_succ, DL.frz_nil, DL.frz_cons, DL.rdv_dat, DL.rdv_raw, DL.rdv_pot, DL.rdv_succ, DL.rtnV_zero, DL.rtnV_succ, DL.ownAt_zero, DL.ownAt_succ, DL.startE_eq, DL.seq_e, DL.seqK_nx, DL.seqK_ret, DL.seqK_brk, DL.seqK_cont, DL.asg_e, DL.asgK_e, DL.rtn_e, DL.rtnK_e, DL.rtnN_e, DL.exs_e, DL.exsK_e, DL.ifs_e, DL.ifsK_true, DL.ifsK_false, DL.skip_e, DL.brkS_e, DL.contS_e, DL.badS_e, DL.body_e, DL.fin_ret, DL.fin_nx, DL.app1_e, DL.app1K_e, DL.app_e, DL.appO_e, DL.appW_e, DL.appD_e, DL.asg2_e, DL.asg2K_e, DL.asg2L_e, DL.unp_e, DL.unpW_e, DL.unpD_e, DL.goOn_some, DL.goOn_none, DL.bT_e, DL.setL_cons, DL.setL_nil, DL.bN_e, DL.sto1_e, DL.sto_e, DL.stoW_e, DL.stoD_e, DL.sto2_e, DL.sto2K_e, DL.sto2W_e, DL.sto2I_e, DL.sto1K_e, DL.atK_e, DL.ali_e, DL.aliK_true, DL.aliK_false, DL.ali1_e, DL.ali1B_e, DL.ali1O_e, DL.ali1W_e, DL.ali1D_e, DL.forS_e, DL.forK_e, DL.loopB_some, DL.loopK_nx, DL.loopK_cont, DL.loopK_brk, DL.loopK_ret, DL.bin2_e, DL.binK_e, DL.binL_e, DL.un1_e, DL.unK_e, DL.tst_e, DL.tand_e, DL.tandK_true, DL.tandK_false, DL.tor_e, DL.torK_true, DL.torK_false, DL.tnot_e, DL.notK_e, DL.vand_e, DL.vandK_e, DL.vandL_true, DL.vandL_false, DL.vor_e, DL.vorK_e, DL.vorL_true, DL.vorL_false, DL.vnot_e, DL.vnotK_e, DL.vnotL_e, DL.vif_e, DL.vifK_true, DL.vifK_false, DL.anil_e, DL.acons_e, DL.aconsK_e, DL.aconsL_e, DL.call_e, DL.ccall_e, DL.ccallK1, DL.ccallK2, DL.ccallK3, DL.ccallK4, DL.sub_e, DL.subK_e, DL.subH_e, DL.cutK_e, DL.cutL_e, DL.oN_e, DL.oS_e, DL.oSK_e, DL.oI_e, DL.rev_e, DL.revK_e, DL.tup_e, DL.lst_e, DL.mkTup_e, DL.mkLst_e, DL.tupD_e, DL.lstD_e, DL.datas_e, DL.datasK_e, DL.kN_e, DL.kB_e, DL.kI_e, DL.kS_e, DL.kT_e, DL.kD0_e, DL.chainI_e, DL.chA_e, DL.chB_e, DL.chI_e, DL.chJ_e, DL.chG_true, DL.chG_false, DL.chY_e, DL.chC_e, DL.sSeq_e, DL.seqSrc_e, DL.asItems_list, DL.asItems_tuple, DL.sRng1_e, DL.rngW_e, DL.rngI_e, DL.sRng2_e, DL.rngK_e, DL.rngWW_e, DL.rngWI_e, DL.rngJ_e, DL.sZip_e, DL.zipK_e, DL.zipW_e, DL.zipA_e, DL.zipD_list, DL.zipD_tuple, DL.sEnum_e, DL.enumW_e, DL.enumV_e, DL.asList_e, DL.enumL_e, DL.ownR_e, DL.lc_e, DL.tYes_e, List.map_cons, List.map_nil, List.nil_append, List.cons_append, List.length_cons, List.length_nil, List.set_cons_zero, List.set_cons_succ, ite_self, reduceIte, noL_none, noL_bool, noL_int, noL_str, noL_list, noL_tuple, noLs_nil, noLs_cons, Bool.true_and, Bool.false_and, Bool.and_true, Bool.and_self, Bool.false_eq_true, Bool.not_true, Bool.not_false, List.replicate_succ, List.replicate_zero, DL.opEq_e, DL.flip_e, DL.opNe_e, DL.opIn_e, DL.opNotIn_e, DL.opLt_e, DL.opAdd_e, DL.opMul_e, DL.opIx_e, DL.opIsN_e, DL.opNotN_e, DL.opNeg_e, DL.opLe_e, DL.opGt_e, DL.opGe_e, DL.opSub_e, DL.vLt_int, DL.vEq_int, DL.vAdd_int, DL.vAdd_list, DL.vAdd_tuple, DL.vLen_tuple, DL.vLen_list, DL.vInt_int, DL.vTuple_list, DL.vTuple_tuple, DL.vList_list, DL.vList_tuple, DL.vRev_list, DL.vRev_tuple, DL.vCut_list, DL.vCut_tuple, DL.f1_e, DL.f2_e, DL.isNon_none, DL.isNon_int, DL.isi_int, DL.isi_bool, DL.isi_tuple, DL.isi_list, DL.isi_str, DL.isi_dict, isT, isRow, hc, lp, c2, c3, sm]
      · simp only [g__law_is_row, b__law_is_row, DL.sel_true, DL.sel_false, DL.sel_self, DL.okb, DL.excb, DL.badb, DL.pickb, DL.okp, DL.pickp, DL.ddat, DL.down, DL.sdat, DL.sown, DL.sraw, DL.spot, DL.gdat, DL.gown, DL.graw, DL.gpot, DL.asBb, DL.asIi, DL.kBok, DL.noxok, DL.datas0, DL.frz1_own, DL.frz1_dat, DL.frz1_raw, DL.frz1_pot, DL.frz1_none, DL.frz1_nil, DL.frz1_succ, DL.frz_nil, DL.frz_cons, DL.rdv_dat, DL.rdv_raw, DL.rdv_pot, DL.rdv_succ, DL.rtnV_zero, DL.rtnV_succ, DL.ownAt_zero, DL.ownAt_succ, DL.startE_eq, DL.seq_e, DL.seqK_nx, DL.seqK_ret, DL.seqK_brk, DL.seqK_cont, DL.asg_e, DL.asgK_e, DL.rtn_e, DL.rtnK_e, DL.rtnN_e, DL.exs_e, DL.exsK_e, DL.ifs_e, DL.ifsK_true, DL.ifsK_false, DL.skip_e, DL.brkS_e, DL.contS_e, DL.badS_e, DL.body_e, DL.fin_ret, DL.fin_nx, DL.app1_e, DL.app1K_e, DL.app_e, DL.appO_e, DL.appW_e, DL.appD_e, DL.asg2_e, DL.asg2K_e, DL.asg2L_e, DL.unp_e, DL.unpW_e, DL.unpD_e, DL.goOn_some, DL.goOn_none, DL.bT_e, DL.setL_cons, DL.setL_nil, DL.bN_e, DL.sto1_e, DL.sto_e, DL.stoW_e, DL.stoD_e, DL.sto2_e, DL.sto2K_e, DL.sto2W_e, DL.sto2I_e, DL.sto1K_e, DL.atK_e, DL.ali_e, DL.aliK_true, DL.aliK_false, DL.ali1_e, DL.ali1B_e, DL.ali1O_e, DL.ali1W_e, DL.ali1D_e, DL.forS_e, DL.forK_e, DL.loopB_some, DL.loopK_nx, DL.loopK_cont, DL.loopK_brk, DL.loopK_ret, DL.bin2_e, DL.binK_e, DL.binL_e, DL.un1_e, DL.unK_e, DL.tst_e, DL.tand_e, DL.tandK_true, DL.tandK_false, DL.tor_e, DL.torK_true, DL.torK_false, DL.tnot_e, DL.notK_e, DL.vand_e, DL.vandK_e, DL.vandL_true, DL.vandL_false, DL.vor_e, DL.vorK_e, DL.vorL_true, DL.vorL_false, DL.vnot_e, DL.vnotK_e, DL.vnotL_e, DL.vif_e, DL.vifK_true, DL.vifK_false, DL.anil_e, DL.acons_e, DL.aconsK_e, DL.aconsL_e, DL.call_e, DL.ccall_e, DL.ccallK1, DL.ccallK2, DL.ccallK3, DL.ccallK4, DL.sub_e, DL.subK_e, DL.subH_e, DL.cutK_e, DL.cutL_e, DL.oN_e, DL.oS_e, DL.oSK_e, DL.oI_e, DL.rev_e, DL.revK_e, DL.tup_e, DL.lst_e, DL.mkTup_e, DL.mkLst_e, DL.tupD_e, DL.lstD_e, DL.datas_e, DL.datasK_e, DL.kN_e, DL.kB_e, DL.kI_e, DL.kS_e, DL.kT_e, DL.kD0_e, DL.chainI_e, DL.chA_e, DL.chB_e, DL.chI_e, DL.chJ_e, DL.chG_true, DL.chG_false, DL.chY_e, DL.chC_e, DL.sSeq_e, DL.seqSrc_e, DL.asItems_list, DL.asItems_tuple, DL.sRng1_e, DL.rngW_e, DL.rngI_e, DL.sRng2_e, DL.rngK_e, DL.rngWW_e, DL.rngWI_e, DL.rngJ_e, DL.sZip_e, DL.zipK_e, DL.zipW_e, DL.zipA_e, DL.zipD_list, DL.zipD_tuple, DL.sEnum_e, DL.enumW_e, DL.enumV_e, DL.asList_e, DL.enumL_e, DL.ownR_e, DL.lc_e, DL.tYes_e, List.map_cons, List.map_nil, List.nil_append, List.cons_append, List.length_cons, List.length_nil, List.set_cons_zero, List.set_cons_succ, ite_self, reduceIte, noL_none, noL_bool, noL_int, noL_str, noL_list, noL_tuple, noLs_nil, noLs_cons, Bool.true_and, Bool.false_and, Bool.and_true, Bool.and_self, Bool.false_eq_true, Bool.not_true, Bool.not_false, List.replicate_succ, List.replicate_zero, DL.opEq_e, DL.flip_e, DL.opNe_e, DL.opIn_e, DL.opNotIn_e, DL.opLt_e, DL.opAdd_e, DL.opMul_e, DL.opIx_e, DL.opIsN_e, DL.opNotN_e, DL.opNeg_e, DL.opLe_e, DL.opGt_e, DL.opGe_e, DL.opSub_e, DL.vLt_int, DL.vEq_int, DL.vAdd_int, DL.vAdd_list, DL.vAdd_tuple, DL.vLen_tuple, DL.vLen_list, DL.vInt_int, DL.vTuple_list, DL.vTuple_tuple, DL.vList_list, DL.vList_tuple, DL.vRev_list, DL.vRev_tuple, DL.vCut_list, DL.vCut_tuple, DL.f1_e, DL.f2_e, DL.isNon_none, DL.isNon_int, DL.isi_int, DL.isi_bool, DL.isi_tuple, DL.isi_list, DL.isi_str, DL.isi_dict, isT, isRow, hc, lp, c2, c3, sm]
  | _ => simp only [g__law_is_row, b__law_is_row, DL.sel_true, DL.sel_false, DL.sel_self, DL.okb, DL.excb, DL.badb, DL.pickb, DL.okp, DL.pickp, DL.ddat, DL.down, DL.sdat, DL.sown, DL.sraw, DL.spot, DL.gdat, DL.gown, DL.graw, DL.gpot, DL.asBb, DL.asIi, DL.kBok, DL.noxok, DL.datas0, DL.frz1_own, DL.frz1_dat, DL.frz1_raw, DL.frz1_pot, DL.frz1_none, DL.frz1_nil, DL.frz1_succ, DL.frz_nil, DL.frz_cons, DL.rdv_dat, DL.rdv_raw, DL.rdv_pot, DL.rdv_succ, DL.rtnV_zero, DL.rtnV_succ, DL.ownAt_zero, DL.ownAt_succ, DL.startE_eq, DL.seq_e, DL.seqK_nx, DL.seqK_ret, DL.seqK_brk, DL.seqK_cont, DL.asg_e, DL.asgK_e, DL.rtn_e, DL.rtnK_e, DL.rtnN_e, DL.exs_e, DL.exsK_e, DL.ifs_e, DL.ifsK_true, DL.ifsK_false, DL.skip_e, DL.brkS_e, DL.contS_e, DL.badS_e, DL.body_e, DL.fin_ret, DL.fin_nx, DL.app1_e, DL.app1K_e, DL.app_e, DL.appO_e, DL.appW_e, DL.appD_e, DL.asg2_e, DL.asg2K_e, DL.asg2L_e, DL.unp_e, DL.unpW_e, DL.unpD_e, DL.goOn_some, DL.goOn_none, DL.bT_e, DL.setL_cons, DL.setL_nil, DL.bN_e, DL.sto1_e, DL.sto_e, DL.stoW_e, DL.stoD_e, DL.sto2_e, DL.sto2K_e, DL.sto2W_e, DL.sto2I_e, DL.sto1K_e, DL.atK_e, DL.ali_e, DL.aliK_true, DL.aliK_false, DL.ali1_e, DL.ali1B_e, DL.ali1O_e, DL.ali1W_e, DL.ali1D_e, DL.forS_e, DL.forK_e, DL.loopB_some, DL.loopK_nx, DL.loopK_cont, DL.loopK_brk, DL.loopK_ret, DL.bin2_e, DL.binK_e, DL.binL_e, DL.un1_e, DL.unK_e, DL.tst_e, DL.tand_e, DL.tandK_true, DL.tandK_false, DL.tor_e, DL.torK_true, DL.torK_false, DL.tnot_e, DL.notK_e, DL.vand_e, DL.vandK_e, DL.vandL_true, DL.vandL_false, DL.vor_e, DL.vorK_e, DL.vorL_true, DL.vorL_false, DL.vnot_e, DL.vnotK_e, DL.vnotL_e, DL.vif_e, DL.vifK_true, DL.vifK_false, DL.anil_e, DL.acons_e, DL.aconsK_e, DL.aconsL_e, DL.call_e, DL.ccall_e, DL.ccallK1, DL.ccallK2, DL.ccallK3, DL.ccallK4, DL.sub_e, DL.subK_e, DL.subH_e, DL.cutK_e, DL.cutL_e, DL.oN_e, DL.oS_e, DL.oSK_e, DL.oI_e, DL.rev_e, DL.revK_e, DL.tup_e, DL.lst_e, DL.mkTup_e, DL.mkLst_e, DL.tupD_e, DL.lstD_e, DL.datas_e, DL.datasK_e, DL.kN_e, DL.kB_e, DL.kI_e, DL.kS_e, DL.kT_e, DL.kD0_e, DL.chainI_e, DL.chA_e, DL.chB_e, DL.chI_e, DL.chJ_e, DL.chG_true, DL.chG_false, DL.chY_e, DL.chC_e, DL.sSeq_e, DL.seqSrc_e, DL.asItems_list, DL.asItems_tuple, DL.sRng1_e, DL.rngW_e, DL.rngI_e, DL.sRng2_e, DL.rngK_e, DL.rngWW_e, DL.rngWI_e, DL.rngJ_e, DL.sZip_e, DL.zipK_e, DL.zipW_e, DL.zipA_e, DL.zipD_list, DL.zipD_tuple, DL.sEnum_e, DL.enumW_e, DL.enumV_e, DL.asList_e, DL.enumL_e, DL.ownR_e, DL.lc_e, DL.tYes_e, List.map_cons, List.map_nil, List.nil_append, List.cons_append, List.length_cons, List.length_nil, List.set_cons_zero, List.set_cons_succ, ite_self, reduceIte, noL_none, noL_bool, noL_int, noL_str, noL_list, noL_tuple, noLs_nil, noLs_cons, Bool.true_and, Bool.false_and, Bool.and_true, Bool.and_self, Bool.false_eq_true, Bool.not_true, Bool.not_false, List.replicate_succ, List.replicate_zero, DL.opEq_e, DL.flip_e, DL.opNe_e, DL.opIn_e, DL.opNotIn_e, DL.opLt_e, DL.opAdd_e, DL.opMul_e, DL.opIx_e, DL.opIsN_e, DL.opNotN_e, DL.opNeg_e, DL.opLe_e, DL.opGt_e, DL.opGe_e, DL.opSub_e, DL.vLt_int, DL.vEq_int, DL.vAdd_int, DL.vAdd_list, DL.vAdd_tuple, DL.vLen_tuple, DL.vLen_list, DL.vInt_int, DL.vTuple_list, DL.vTuple_tuple, DL.vList_list, DL.vList_tuple, DL.vRev_list, DL.vRev_tuple, DL.vCut_list, DL.vCut_tuple, DL.f1_e, DL.f2_e, DL.isNon_none, DL.isNon_int, DL.isi_int, DL.isi_bool, DL.isi_tuple, DL.isi_list, DL.isi_str, DL.isi_dict, isT, isRow]
theorem r_law_is_party (d : D) (hz : Sz 3 d) : g__law_is_party [.dat d] = .ok (.dat (.bool (isPty d))) := by
  cases d with
  | tuple xs =>
    by_cases hl : xs.length = 3
    · obtain ⟨x, a, b, rfl⟩ := three_of hl
      have e2 : decide (((0 + 1 + 1 + 1 : Nat) : Int) = 3) = true := rfl
      have i0 : vIx (.tuple [x, a, b]) (.int 0) = .ok (.dat x) := rfl
      have i1 : vIx (.tuple [x, a, b]) (.int 1) = .ok (.dat a) := rfl
      have i2 : vIx (.tuple [x, a, b]) (.int 2) = .ok (.dat b) := rfl
      have zx := hz.2 x (by simp [itm])
      have za := hz.2 a (by simp [itm])
      have zb := hz.2 b (by simp [itm])
      cases x with
      | tuple ns =>
        have hn : ns.length ≤ 1000000 := zx.1
        have ra := r_law_is_row a ns.length za.1
        have rb := r_law_is_row b ns.length zb.1
        cases h1 : decide ((1 : Int) ≤ ns.length) with
        | false => simp only [g__law_is_party, b__law_is_party, DL.sel_true, DL.sel_false, DL.sel_self, DL.okb, DL.excb, DL.badb, DL.pickb, DL.okp, DL.pickp, DL.ddat, DL.down, DL.sdat, DL.sown, DL.sraw, DL.spot, DL.gdat, DL.gown, DL.graw, DL.gpot, DL.asBb, DL.asIi, DL.kBok, DL.noxok, DL.datas0, DL.frz1_own, DL.frz1_dat, DL.frz1_raw, DL.frz1_pot, DL.frz1_none, DL.frz1_nil, DL.frz1_succ, DL.frz_nil, DL.frz_cons, DL.rdv_dat, DL.rdv_raw, DL.rdv_pot, DL.rdv_succ, DL.rtnV_zero, DL.rtnV_succ, DL.ownAt_zero, DL.ownAt_succ, DL.startE_eq, DL.seq_e, DL.seqK_nx, DL.seqK_ret, DL.seqK_brk, DL.seqK_cont, DL.asg_e, DL.asgK_e, DL.rtn_e, DL.rtnK_e, DL.rtnN_e, DL.exs_e, DL.exsK_e, DL.ifs_e, DL.ifsK_true, DL.ifsK_false, DL.skip_e, DL.brkS_e, DL.contS_e, DL.badS_e, DL.body_e, DL.fin_ret, DL.fin_nx, DL.app1_e, DL.app1K_e, DL.app_e, DL.appO_e, DL.appW_e, DL.appD_e, DL.asg2_e, DL.asg2K_e, DL.asg2L_e, DL.unp_e, DL.unpW_e, DL.unpD_e, DL.goOn_some, DL.goOn_none, DL.bT_e, DL.setL_cons, DL.setL_nil, DL.bN_e, DL.sto1_e, DL.sto_e, DL.stoW_e, DL.stoD_e, DL.sto2_e, DL.sto2K_e, DL.sto2W_e, DL.sto2I_e, DL.sto1K_e, DL.atK_e, DL.ali_e, DL.aliK_true, DL.aliK_false, DL.ali1_e, DL.ali1B_e, DL.ali1O_e, DL.ali1W_e, DL.ali1D_e, DL.forS_e, DL.forK_e, DL.loopB_some, DL.loopK_nx, DL.loopK_cont, DL.loopK_brk, DL.loopK_ret, DL.bin2_e, DL.binK_e, DL.binL_e, DL.un1_e, DL.unK_e, DL.tst_e, DL.tand_e, DL.tandK_true, DL.tandK_false, DL.tor_e, DL.torK_true, DL.torK_false, DL.tnot_e, DL.notK_e, DL.vand_e, DL.vandK_e, DL.vandL_true, DL.vandL_false, DL.vor_e, DL.vorK_e, DL.vorL_true, DL.vorL_false, DL.vnot_e, DL.vnotK_e, DL.vnotL_e, DL.vif_e, DL.vifK_true, DL.vifK_false, DL.anil_e, DL.acons_e, DL.aconsK_e, DL.aconsL_e, DL.call_e, DL.ccall_e, DL.ccallK1, DL.ccallK2, DL.ccallK3, DL.ccallK4, DL.sub_e, DL.subK_e, DL.subH_e, DL.cutK_e, DL.cutL_e, DL.oN_e, DL.oS_e, DL.oSK_e, DL.oI_e, DL.rev_e, DL.revK_e, DL.tup_e, DL.lst_e, DL.mkTup_e, DL.mkLst_e, DL.tupD_e, DL.lstD_e, DL.datas_e, DL.datasK_e, DL.kN_e, DL.kB_e, DL.kI_e, DL.kS_e, DL.kT_e, DL.kD0_e, DL.chainI_e, DL.chA_e, DL.chB_e, DL.chI_e, DL.chJ_e, DL.chG_true, DL.chG_false, DL.chY_e, DL.chC_e, DL.sSeq_e, DL.seqSrc_e, DL.asItems_list, DL.asItems_tuple, DL.sRng1_e, DL.rngW_e, DL.rngI_e, DL.sRng2_e, DL.rngK_e, DL.rngWW_e, DL.rngWI_e, DL.rngJ_e, DL.sZip_e, DL.zipK_e, DL.zipW_e, DL.zipA_e, DL.zipD_list, DL.zipD_tuple, DL.sEnum_e, DL.enumW_e, DL.enumV_e, DL.asList_e, DL.enumL_e, DL.ownR_e, DL.lc_e, DL.tYes_e, List.map_cons, List.map_nil, List.nil_append, List.cons_append, List.length_cons, List.length_nil, List.set_cons_zero, List.set_cons_succ, ite_self, reduceIte, noL_none, noL_bool, noL_int, noL_str, noL_list, noL_tuple, noLs_nil, noLs_cons, Bool.true_and, Bool.false_and, Bool.and_true, Bool.and_self, Bool.false_eq_true, Bool.not_true, Bool.not_false, List.replicate_succ, List.replicate_zero, DL.opEq_e, DL.flip_e, DL.opNe_e, DL.opIn_e, DL.opNotIn_e, DL.opLt_e, DL.opAdd_e, DL.opMul_e, DL.opIx_e, DL.opIsN_e, DL.opNotN_e, DL.opNeg_e, DL.opLe_e, DL.opGt_e, DL.opGe_e, DL.opSub_e, DL.vLt_int, DL.vEq_int, DL.vAdd_int, DL.vAdd_list, DL.vAdd_tuple, DL.vLen_tuple, DL.vLen_list, DL.vInt_int, DL.vTuple_list, DL.vTuple_tuple, DL.vList_list, DL.vList_tuple, DL.vRev_list, DL.vRev_tuple, DL.vCut_list, DL.vCut_tuple, DL.f1_e, DL.f2_e, DL.isNon_none, DL.isNon_int, DL.isi_int, DL.isi_bool, DL.isi_tuple, DL.isi_list, DL.isi_str, DL.isi_dict, isT, isPty, e2, i0, i1, i2, h1]
        | true =>
        cases h2 : decide ((ns.length : Int) ≤ 8) with
        | false => simp only [g__law_is_party, b__law_is_party, DL.sel_true, DL.sel_false, DL.sel_self, DL.okb, DL.excb, DL.badb, DL.pickb, DL.okp, DL.pickp, DL.ddat, DL.down, DL.sdat, DL.sown, DL.sraw, DL.spot, DL.gdat, DL.gown, DL.graw, DL.gpot, DL.asBb, DL.asIi, DL.kBok, DL.noxok, DL.datas0, DL.frz1_own, DL.frz1_dat, DL.frz1_raw, DL.frz1_pot, DL.frz1_none, DL.frz1_nil, DL.frz1_succ, DL.frz_nil, DL.frz_cons, DL.rdv_dat, DL.rdv_raw, DL.rdv_pot, DL.rdv_succ, DL.rtnV_zero, DL.rtnV_succ, DL.ownAt_zero, DL.ownAt_succ, DL.startE_eq, DL.seq_e, DL.seqK_nx, DL.seqK_ret, DL.seqK_brk, DL.seqK_cont, DL.asg_e, DL.asgK_e, DL.rtn_e, DL.rtnK_e, DL.rtnN_e, DL.exs_e, DL.exsK_e, DL.ifs_e, DL.ifsK_true, DL.ifsK_false, DL.skip_e, DL.brkS_e, DL.contS_e, DL.badS_e, DL.body_e, DL.fin_ret, DL.fin_nx, DL.app1_e, DL.app1K_e, DL.app_e, DL.appO_e, DL.appW_e, DL.appD_e, DL.asg2_e, DL.asg2K_e, DL.asg2L_e, DL.unp_e, DL.unpW_e, DL.unpD_e, DL.goOn_some, DL.goOn_none, DL.bT_e, DL.setL_cons, DL.setL_nil, DL.bN_e, DL.sto1_e, DL.sto_e, DL.stoW_e, DL.stoD_e, DL.sto2_e, DL.sto2K_e, DL.sto2W_e, DL.sto2I_e, DL.sto1K_e, DL.atK_e, DL.ali_e, DL.aliK_true, DL.aliK_false, DL.ali1_e, DL.ali1B_e, DL.ali1O_e, DL.ali1W_e, DL.ali1D_e, DL.forS_e, DL.forK_e, DL.loopB_some, DL.loopK_nx, DL.loopK_cont, DL.loopK_brk, DL.loopK_ret, DL.bin2_e, DL.binK_e, DL.binL_e, DL.un1_e, DL.unK_e, DL.tst_e, DL.tand_e, DL.tandK_true, DL.tandK_false, DL.tor_e, DL.torK_true, DL.torK_false, DL.tnot_e, DL.notK_e, DL.vand_e, DL.vandK_e, DL.vandL_true, DL.vandL_false, DL.vor_e, DL.vorK_e, DL.vorL_true, DL.vorL_false, DL.vnot_e, DL.vnotK_e, DL.vnotL_e, DL.vif_e, DL.vifK_true, DL.vifK_false, DL.anil_e, DL.acons_e, DL.aconsK_e, DL.aconsL_e, DL.call_e, DL.ccall_e, DL.ccallK1, DL.ccallK2, DL.ccallK3, DL.ccallK4, DL.sub_e, DL.subK_e, DL.subH_e, DL.cutK_e, DL.cutL_e, DL.oN_e, DL.oS_e, DL.oSK_e, DL.oI_e, DL.rev_e, DL.revK_e, DL.tup_e, DL.lst_e, DL.mkTup_e, DL.mkLst_e, DL.tupD_e, DL.lstD_e, DL.datas_e, DL.datasK_e, DL.kN_e, DL.kB_e, DL.kI_e, DL.kS_e, DL.kT_e, DL.kD0_e, DL.chainI_e, DL.chA_e, DL.chB_e, DL.chI_e, DL.chJ_e, DL.chG_true, DL.chG_false, DL.chY_e, DL.chC_e, DL.sSeq_e, DL.seqSrc_e, DL.asItems_list, DL.asItems_tuple, DL.sRng1_e, DL.rngW_e, DL.rngI_e, DL.sRng2_e, DL.rngK_e, DL.rngWW_e, DL.rngWI_e, DL.rngJ_e, DL.sZip_e, DL.zipK_e, DL.zipW_e, DL.zipA_e, DL.zipD_list, DL.zipD_tuple, DL.sEnum_e, DL.enumW_e, DL.enumV_e, DL.asList_e, DL.enumL_e, DL.ownR_e, DL.lc_e, DL.tYes_e, List.map_cons, List.map_nil, List.nil_append, List.cons_append, List.length_cons, List.length_nil, List.set_cons_zero, List.set_cons_succ, ite_self, reduceIte, noL_none, noL_bool, noL_int, noL_str, noL_list, noL_tuple, noLs_nil, noLs_cons, Bool.true_and, Bool.false_and, Bool.and_true, Bool.and_self, Bool.false_eq_true, Bool.not_true, Bool.not_false, List.replicate_succ, List.replicate_zero, DL.opEq_e, DL.flip_e, DL.opNe_e, DL.opIn_e, DL.opNotIn_e, DL.opLt_e, DL.opAdd_e, DL.opMul_e, DL.opIx_e, DL.opIsN_e, DL.opNotN_e, DL.opNeg_e, DL.opLe_e, DL.opGt_e, DL.opGe_e, DL.opSub_e, DL.vLt_int, DL.vEq_int, DL.vAdd_int, DL.vAdd_list, DL.vAdd_tuple, DL.vLen_tuple, DL.vLen_list, DL.vInt_int, DL.vTuple_list, DL.vTuple_tuple, DL.vList_list, DL.vList_tuple, DL.vRev_list, DL.vRev_tuple, DL.vCut_list, DL.vCut_tuple, DL.f1_e, DL.f2_e, DL.isNon_none, DL.isNon_int, DL.isi_int, DL.isi_bool, DL.isi_tuple, DL.isi_list, DL.isi_str, DL.isi_dict, isT, isPty, e2, i0, i1, i2, h1, h2]
        | true =>
        obtain ⟨ρ', ⟨o, rfl, ho⟩, lp⟩ := loop_inv (b := bN 1) (g := ifs [1] (tand (tst (bin2 opNotN (rdv 1) kN)) (tnot (tst (ccall 3 g__law_number (acons (rdv 1) (acons (kI 0) (acons (kI 20) anil))))))) (rtn [] (kB' false)) skip) (fun d => !isNm d) (fun _ => .dat (.bool false))
          (fun ρ => ∃ o, ρ = [some (.dat (.tuple [.tuple ns, a, b])), o, none] ∧ (o = none ∨ ∃ z, o = some (.dat z))) ns _ ⟨none, rfl, .inl rfl⟩ fun ρ hρ z hz => by
            obtain ⟨o, rfl, _⟩ := hρ
            refine ⟨_, rfl, ?_⟩
            by_cases h0 : z = .none
            · subst h0
              exact .inr ⟨rfl, _, by simp only [DL.sel_true, DL.sel_false, DL.sel_self, DL.okb, DL.excb, DL.badb, DL.pickb, DL.okp, DL.pickp, DL.ddat, DL.down, DL.sdat, DL.sown, DL.sraw, DL.spot, DL.gdat, DL.gown, DL.graw, DL.gpot, DL.asBb, DL.asIi, DL.kBok, DL.noxok, DL.datas0, DL.frz1_own, DL.frz1_dat, DL.frz1_raw, DL.frz1_pot, DL.frz1_none, DL.frz1_nil, DL.frz1_succ, DL.frz_nil, DL.frz_cons, DL.rdv_dat, DL.rdv_raw, DL.rdv_pot, DL.rdv_succ, DL.rtnV_zero, DL.rtnV_succ, DL.ownAt_zero, DL.ownAt_succ, DL.startE_eq, DL.seq_e, DL.seqK_nx, DL.seqK_ret, DL.seqK_brk, DL.seqK_cont, DL.asg_e, DL.asgK_e, DL.rtn_e, DL.rtnK_e, DL.rtnN_e, DL.exs_e, DL.exsK_e, DL.ifs_e, DL.ifsK_true, DL.ifsK_false, DL.skip_e, DL.brkS_e, DL.contS_e, DL.badS_e, DL.body_e, DL.fin_ret, DL.fin_nx, DL.app1_e, DL.app1K_e, DL.app_e, DL.appO_e, DL.appW_e, DL.appD_e, DL.asg2_e, DL.asg2K_e, DL.asg2L_e, DL.unp_e, DL.unpW_e, DL.unpD_e, DL.goOn_some, DL.goOn_none, DL.bT_e, DL.setL_cons, DL.setL_nil, DL.bN_e, DL.sto1_e, DL.sto_e, DL.stoW_e, DL.stoD_e, DL.sto2_e, DL.sto2K_e, DL.sto2W_e, DL.sto2I_e, DL.sto1K_e, DL.atK_e, DL.ali_e, DL.aliK_true, DL.aliK_false, DL.ali1_e, DL.ali1B_e, DL.ali1O_e, DL.ali1W_e, DL.ali1D_e, DL.forS_e, DL.forK_e, DL.loopB_some, DL.loopK_nx, DL.loopK_cont, DL.loopK_brk, DL.loopK_ret, DL.bin2_e, DL.binK_e, DL.binL_e, DL.un1_e, DL.unK_e, DL.tst_e, DL.tand_e, DL.tandK_true, DL.tandK_false, DL.tor_e, DL.torK_true, DL.torK_false, DL.tnot_e, DL.notK_e, DL.vand_e, DL.vandK_e, DL.vandL_true, DL.vandL_false, DL.vor_e, DL.vorK_e, DL.vorL_true, DL.vorL_false, DL.vnot_e, DL.vnotK_e, DL.vnotL_e, DL.vif_e, DL.vifK_true, DL.vifK_false, DL.anil_e, DL.acons_e, DL.aconsK_e, DL.aconsL_e, DL.call_e, DL.ccall_e, DL.ccallK1, DL.ccallK2, DL.ccallK3, DL.ccallK4, DL.sub_e, DL.subK_e, DL.subH_e, DL.cutK_e, DL.cutL_e, DL.oN_e, DL.oS_e, DL.oSK_e, DL.oI_e, DL.rev_e, DL.revK_e, DL.tup_e, DL.lst_e, DL.mkTup_e, DL.mkLst_e, DL.tupD_e, DL.lstD_e, DL.datas_e, DL.datasK_e, DL.kN_e, DL.kB_e, DL.kI_e, DL.kS_e, DL.kT_e, DL.kD0_e, DL.chainI_e, DL.chA_e, DL.chB_e, DL.chI_e, DL.chJ_e, DL.chG_true, DL.chG_false, DL.chY_e, DL.chC_e, DL.sSeq_e, DL.seqSrc_e, DL.asItems_list, DL.asItems_tuple, DL.sRng1_e, DL.rngW_e, DL.rngI_e, DL.sRng2_e, DL.rngK_e, DL.rngWW_e, DL.rngWI_e, DL.rngJ_e, DL.sZip_e, DL.zipK_e, DL.zipW_e, DL.zipA_e, DL.zipD_list, DL.zipD_tuple, DL.sEnum_e, DL.enumW_e, DL.enumV_e, DL.asList_e, DL.enumL_e, DL.ownR_e, DL.lc_e, DL.tYes_e, List.map_cons, List.map_nil, List.nil_append, List.cons_append, List.length_cons, List.length_nil, List.set_cons_zero, List.set_cons_succ, ite_self, reduceIte, noL_none, noL_bool, noL_int, noL_str, noL_list, noL_tuple, noLs_nil, noLs_cons, Bool.true_and, Bool.false_and, Bool.and_true, Bool.and_self, Bool.false_eq_true, Bool.not_true, Bool.not_false, List.replicate_succ, List.replicate_zero, DL.opEq_e, DL.flip_e, DL.opNe_e, DL.opIn_e, DL.opNotIn_e, DL.opLt_e, DL.opAdd_e, DL.opMul_e, DL.opIx_e, DL.opIsN_e, DL.opNotN_e, DL.opNeg_e, DL.opLe_e, DL.opGt_e, DL.opGe_e, DL.opSub_e, DL.vLt_int, DL.vEq_int, DL.vAdd_int, DL.vAdd_list, DL.vAdd_tuple, DL.vLen_tuple, DL.vLen_list, DL.vInt_int, DL.vTuple_list, DL.vTuple_tuple, DL.vList_list, DL.vList_tuple, DL.vRev_list, DL.vRev_tuple, DL.vCut_list, DL.vCut_tuple, DL.f1_e, DL.f2_e, DL.isNon_none, DL.isNon_int, DL.isi_int, DL.isi_bool, DL.isi_tuple, DL.isi_list, DL.isi_str, DL.isi_dict]; rfl, _, rfl, .inr ⟨_, rfl⟩⟩
            · cases hp : isNm z with
              | false => exact .inl ⟨rfl, by simp only [DL.sel_true, DL.sel_false, DL.sel_self, DL.okb, DL.excb, DL.badb, DL.pickb, DL.okp, DL.pickp, DL.ddat, DL.down, DL.sdat, DL.sown, DL.sraw, DL.spot, DL.gdat, DL.gown, DL.graw, DL.gpot, DL.asBb, DL.asIi, DL.kBok, DL.noxok, DL.datas0, DL.frz1_own, DL.frz1_dat, DL.frz1_raw, DL.frz1_pot, DL.frz1_none, DL.frz1_nil, DL.frz1_succ, DL.frz_nil, DL.frz_cons, DL.rdv_dat, DL.rdv_raw, DL.rdv_pot, DL.rdv_succ, DL.rtnV_zero, DL.rtnV_succ, DL.ownAt_zero, DL.ownAt_succ, DL.startE_eq, DL.seq_e, DL.seqK_nx, DL.seqK_ret, DL.seqK_brk, DL.seqK_cont, DL.asg_e, DL.asgK_e, DL.rtn_e, DL.rtnK_e, DL.rtnN_e, DL.exs_e, DL.exsK_e, DL.ifs_e, DL.ifsK_true, DL.ifsK_false, DL.skip_e, DL.brkS_e, DL.contS_e, DL.badS_e, DL.body_e, DL.fin_ret, DL.fin_nx, DL.app1_e, DL.app1K_e, DL.app_e, DL.appO_e, DL.appW_e, DL.appD_e, DL.asg2_e, DL.asg2K_e, DL.asg2L_e, DL.unp_e, DL.unpW_e, DL.unpD_e, DL.goOn_some, DL.goOn_none, DL.bT_e, DL.setL_cons, DL.setL_nil, DL.bN_e, DL.sto1_e, DL.sto_e, DL.stoW_e, DL.stoD_e, DL.sto2_e, DL.sto2K_e, DL.sto2W_e, DL.sto2I_e, DL.sto1K_e, DL.atK_e, DL.ali_e, DL.aliK_true, DL.aliK_false, DL.ali1_e, DL.ali1B_e, DL.ali1O_e, DL.ali1W_e, DL.ali1D_e, DL.forS_e, DL.forK_e, DL.loopB_some, DL.loopK_nx, DL.loopK_cont, DL.loopK_brk, DL.loopK_ret, DL.bin2_e, DL.binK_e, DL.binL_e, DL.un1_e, DL.unK_e, DL.tst_e, DL.tand_e, DL.tandK_true, DL.tandK_false, DL.tor_e, DL.torK_true, DL.torK_false, DL.tnot_e, DL.notK_e, DL.vand_e, DL.vandK_e, DL.vandL_true, DL.vandL_false, DL.vor_e, DL.vorK_e, DL.vorL_true, DL.vorL_false, DL.vnot_e, DL.vnotK_e, DL.vnotL_e, DL.vif_e, DL.vifK_true, DL.vifK_false, DL.anil_e, DL.acons_e, DL.aconsK_e, DL.aconsL_e, DL.call_e, DL.ccall_e, DL.ccallK1, DL.ccallK2, DL.ccallK3, DL.ccallK4, DL.sub_e, DL.subK_e, DL.subH_e, DL.cutK_e, DL.cutL_e, DL.oN_e, DL.oS_e, DL.oSK_e, DL.oI_e, DL.rev_e, DL.revK_e, DL.tup_e, DL.lst_e, DL.mkTup_e, DL.mkLst_e, DL.tupD_e, DL.lstD_e, DL.datas_e, DL.datasK_e, DL.kN_e, DL.kB_e, DL.kI_e, DL.kS_e, DL.kT_e, DL.kD0_e, DL.chainI_e, DL.chA_e, DL.chB_e, DL.chI_e, DL.chJ_e, DL.chG_true, DL.chG_false, DL.chY_e, DL.chC_e, DL.sSeq_e, DL.seqSrc_e, DL.asItems_list, DL.asItems_tuple, DL.sRng1_e, DL.rngW_e, DL.rngI_e, DL.sRng2_e, DL.rngK_e, DL.rngWW_e, DL.rngWI_e, DL.rngJ_e, DL.sZip_e, DL.zipK_e, DL.zipW_e, DL.zipA_e, DL.zipD_list, DL.zipD_tuple, DL.sEnum_e, DL.enumW_e, DL.enumV_e, DL.asList_e, DL.enumL_e, DL.ownR_e, DL.lc_e, DL.tYes_e, List.map_cons, List.map_nil, List.nil_append, List.cons_append, List.length_cons, List.length_nil, List.set_cons_zero, List.set_cons_succ, ite_self, reduceIte, noL_none, noL_bool, noL_int, noL_str, noL_list, noL_tuple, noLs_nil, noLs_cons, Bool.true_and, Bool.false_and, Bool.and_true, Bool.and_self, Bool.false_eq_true, Bool.not_true, Bool.not_false, List.replicate_succ, List.replicate_zero, DL.opEq_e, DL.flip_e, DL.opNe_e, DL.opIn_e, DL.opNotIn_e, DL.opLt_e, DL.opAdd_e, DL.opMul_e, DL.opIx_e, DL.opIsN_e, DL.opNotN_e, DL.opNeg_e, DL.opLe_e, DL.opGt_e, DL.opGe_e, DL.opSub_e, DL.vLt_int, DL.vEq_int, DL.vAdd_int, DL.vAdd_list, DL.vAdd_tuple, DL.vLen_tuple, DL.vLen_list, DL.vInt_int, DL.vTuple_list, DL.vTuple_tuple, DL.vList_list, DL.vList_tuple, DL.vRev_list, DL.vRev_tuple, DL.vCut_list, DL.vCut_tuple, DL.f1_e, DL.f2_e, DL.isNon_none, DL.isNon_int, DL.isi_int, DL.isi_bool, DL.isi_tuple, DL.isi_list, DL.isi_str, DL.isi_dict, r_law_number, isNon_ne h0, isNum_nm h0, hp]⟩
              | true => exact .inr ⟨rfl, _, by simp only [DL.sel_true, DL.sel_false, DL.sel_self, DL.okb, DL.excb, DL.badb, DL.pickb, DL.okp, DL.pickp, DL.ddat, DL.down, DL.sdat, DL.sown, DL.sraw, DL.spot, DL.gdat, DL.gown, DL.graw, DL.gpot, DL.asBb, DL.asIi, DL.kBok, DL.noxok, DL.datas0, DL.frz1_own, DL.frz1_dat, DL.frz1_raw, DL.frz1_pot, DL.frz1_none, DL.frz1_nil, DL.frz1_succ, DL.frz_nil, DL.frz_cons, DL.rdv_dat, DL.rdv_raw, DL.rdv_pot, DL.rdv_succ, DL.rtnV_zero, DL.rtnV_succ, DL.ownAt_zero, DL.ownAt_succ, DL.startE_eq, DL.seq_e, DL.seqK_nx, DL.seqK_ret, DL.seqK_brk, DL.seqK_cont, DL.asg_e, DL.asgK_e, DL.rtn_e, DL.rtnK_e, DL.rtnN_e, DL.exs_e, DL.exsK_e, DL.ifs_e, DL.ifsK_true, DL.ifsK_false, DL.skip_e, DL.brkS_e, DL.contS_e, DL.badS_e, DL.body_e, DL.fin_ret, DL.fin_nx, DL.app1_e, DL.app1K_e, DL.app_e, DL.appO_e, DL.appW_e, DL.appD_e, DL.asg2_e, DL.asg2K_e, DL.asg2L_e, DL.unp_e, DL.unpW_e, DL.unpD_e, DL.goOn_some, DL.goOn_none, DL.bT_e, DL.setL_cons, DL.setL_nil, DL.bN_e, DL.sto1_e, DL.sto_e, DL.stoW_e, DL.stoD_e, DL.sto2_e, DL.sto2K_e, DL.sto2W_e, DL.sto2I_e, DL.sto1K_e, DL.atK_e, DL.ali_e, DL.aliK_true, DL.aliK_false, DL.ali1_e, DL.ali1B_e, DL.ali1O_e, DL.ali1W_e, DL.ali1D_e, DL.forS_e, DL.forK_e, DL.loopB_some, DL.loopK_nx, DL.loopK_cont, DL.loopK_brk, DL.loopK_ret, DL.bin2_e, DL.binK_e, DL.binL_e, DL.un1_e, DL.unK_e, DL.tst_e, DL.tand_e, DL.tandK_true, DL.tandK_false, DL.tor_e, DL.torK_true, DL.torK_false, DL.tnot_e, DL.notK_e, DL.vand_e, DL.vandK_e, DL.vandL_true, DL.vandL_false, DL.vor_e, DL.vorK_e, DL.vorL_true, DL.vorL_false, DL.vnot_e, DL.vnotK_e, DL.vnotL_e, DL.vif_e, DL.vifK_true, DL.vifK_false, DL.anil_e, DL.acons_e, DL.aconsK_e, DL.aconsL_e, DL.call_e, DL.ccall_e, DL.ccallK1, DL.ccallK2, DL.ccallK3, DL.ccallK4, DL.sub_e, DL.subK_e, DL.subH_e, DL.cutK_e, DL.cutL_e, DL.oN_e, DL.oS_e, DL.oSK_e, DL.oI_e, DL.rev_e, DL.revK_e, DL.tup_e, DL.lst_e, DL.mkTup_e, DL.mkLst_e, DL.tupD_e, DL.lstD_e, DL.datas_e, DL.datasK_e, DL.kN_e, DL.kB_e, DL.kI_e, DL.kS_e, DL.kT_e, DL.kD0_e, DL.chainI_e, DL.chA_e, DL.chB_e, DL.chI_e, DL.chJ_e, DL.chG_true, DL.chG_false, DL.chY_e, DL.chC_e, DL.sSeq_e, DL.seqSrc_e, DL.asItems_list, DL.asItems_tuple, DL.sRng1_e, DL.rngW_e, DL.rngI_e, DL.sRng2_e, DL.rngK_e, DL.rngWW_e, DL.rngWI_e, DL.rngJ_e, DL.sZip_e, DL.zipK_e, DL.zipW_e, DL.zipA_e, DL.zipD_list, DL.zipD_tuple, DL.sEnum_e, DL.enumW_e, DL.enumV_e, DL.asList_e, DL.enumL_e, DL.ownR_e, DL.lc_e, DL.tYes_e, List.map_cons, List.map_nil, List.nil_append, List.cons_append, List.length_cons, List.length_nil, List.set_cons_zero, List.set_cons_succ, ite_self, reduceIte, noL_none, noL_bool, noL_int, noL_str, noL_list, noL_tuple, noLs_nil, noLs_cons, Bool.true_and, Bool.false_and, Bool.and_true, Bool.and_self, Bool.false_eq_true, Bool.not_true, Bool.not_false, List.replicate_succ, List.replicate_zero, DL.opEq_e, DL.flip_e, DL.opNe_e, DL.opIn_e, DL.opNotIn_e, DL.opLt_e, DL.opAdd_e, DL.opMul_e, DL.opIx_e, DL.opIsN_e, DL.opNotN_e, DL.opNeg_e, DL.opLe_e, DL.opGt_e, DL.opGe_e, DL.opSub_e, DL.vLt_int, DL.vEq_int, DL.vAdd_int, DL.vAdd_list, DL.vAdd_tuple, DL.vLen_tuple, DL.vLen_list, DL.vInt_int, DL.vTuple_list, DL.vTuple_tuple, DL.vList_list, DL.vList_tuple, DL.vRev_list, DL.vRev_tuple, DL.vCut_list, DL.vCut_tuple, DL.f1_e, DL.f2_e, DL.isNon_none, DL.isNon_int, DL.isi_int, DL.isi_bool, DL.isi_tuple, DL.isi_list, DL.isi_str, DL.isi_dict, r_law_number, isNon_ne h0, isNum_nm h0, hp], _, rfl, .inr ⟨z, rfl⟩⟩
        cases h3 : ns.all isNm with
        | false =>
          obtain ⟨z, hz⟩ := find_some h3
          rw [hz] at lp
          simp only [g__law_is_party, b__law_is_party, DL.sel_true, DL.sel_false, DL.sel_self, DL.okb, DL.excb, DL.badb, DL.pickb, DL.okp, DL.pickp, DL.ddat, DL.down, DL.sdat, DL.sown, DL.sraw, DL.spot, DL.gdat, DL.gown, DL.graw, DL.gpot, DL.asBb, DL.asIi, DL.kBok, DL.noxok, DL.datas0, DL.frz1_own, DL.frz1_dat, DL.frz1_raw, DL.frz1_pot, DL.frz1_none, DL.frz1_nil, DL.frz1_succ, DL.frz_nil, DL.frz_cons, DL.rdv_dat, DL.rdv_raw, DL.rdv_pot, DL.rdv_succ, DL.rtnV_zero, DL.rtnV_succ, DL.ownAt_zero, DL.ownAt_succ, DL.startE_eq, DL.seq_e, DL.seqK_nx, DL.seqK_ret, DL.seqK_brk, DL.seqK_cont, DL.asg_e, DL.asgK_e, DL.rtn_e, DL.rtnK_e, DL.rtnN_e, DL.exs_e, DL.exsK_e, DL.ifs_e, DL.ifsK_true, DL.ifsK_false, DL.skip_e, DL.brkS_e, DL.contS_e, DL.badS_e, DL.body_e, DL.fin_ret, DL.fin_nx, DL.app1_e, DL.app1K_e, DL.app_e, DL.appO_e, DL.appW_e, DL.appD_e, DL.asg2_e, DL.asg2K_e, DL.asg2L_e, DL.unp_e, DL.unpW_e, DL.unpD_e, DL.goOn_some, DL.goOn_none, DL.bT_e, DL.setL_cons, DL.setL_nil, DL.bN_e, DL.sto1_e, DL.sto_e, DL.stoW_e, DL.stoD_e, DL.sto2_e, DL.sto2K_e, DL.sto2W_e, DL.sto2I_e, DL.sto1K_e, DL.atK_e, DL.ali_e, DL.aliK_true, DL.aliK_false, DL.ali1_e, DL.ali1B_e, DL.ali1O_e, DL.ali1W_e, DL.ali1D_e, DL.forS_e, DL.forK_e, DL.loopB_some, DL.loopK_nx, DL.loopK_cont, DL.loopK_brk, DL.loopK_ret, DL.bin2_e, DL.binK_e, DL.binL_e, DL.un1_e, DL.unK_e, DL.tst_e, DL.tand_e, DL.tandK_true, DL.tandK_false, DL.tor_e, DL.torK_true, DL.torK_false, DL.tnot_e, DL.notK_e, DL.vand_e, DL.vandK_e, DL.vandL_true, DL.vandL_false, DL.vor_e, DL.vorK_e, DL.vorL_true, DL.vorL_false, DL.vnot_e, DL.vnotK_e, DL.vnotL_e, DL.vif_e, DL.vifK_true, DL.vifK_false, DL.anil_e, DL.acons_e, DL.aconsK_e, DL.aconsL_e, DL.call_e, DL.ccall_e, DL.ccallK1, DL.ccallK2, DL.ccallK3, DL.ccallK4, DL.sub_e, DL.subK_e, DL.subH_e, DL.cutK_e, DL.cutL_e, DL.oN_e, DL.oS_e, DL.oSK_e, DL.oI_e, DL.rev_e, DL.revK_e, DL.tup_e, DL.lst_e, DL.mkTup_e, DL.mkLst_e, DL.tupD_e, DL.lstD_e, DL.datas_e, DL.datasK_e, DL.kN_e, DL.kB_e, DL.kI_e, DL.kS_e, DL.kT_e, DL.kD0_e, DL.chainI_e, DL.chA_e, DL.chB_e, DL.chI_e, DL.chJ_e, DL.chG_true, DL.chG_false, DL.chY_e, DL.chC_e, DL.sSeq_e, DL.seqSrc_e, DL.asItems_list, DL.asItems_tuple, DL.sRng1_e, DL.rngW_e, DL.rngI_e, DL.sRng2_e, DL.rngK_e, DL.rngWW_e, DL.rngWI_e, DL.rngJ_e, DL.sZip_e, DL.zipK_e, DL.zipW_e, DL.zipA_e, DL.zipD_list, DL.zipD_tuple, DL.sEnum_e, DL.enumW_e, DL.enumV_e, DL.asList_e, DL.enumL_e, DL.ownR_e, DL.lc_e, DL.tYes_e, List.map_cons, List.map_nil, List.nil_append, List.cons_append, List.length_cons, List.length_nil, List.set_cons_zero, List.set_cons_succ, ite_self, reduceIte, noL_none, noL_bool, noL_int, noL_str, noL_list, noL_tuple, noLs_nil, noLs_cons, Bool.true_and, Bool.false_and, Bool.and_true, Bool.and_self, Bool.false_eq_true, Bool.not_true, Bool.not_false, List.replicate_succ, List.replicate_zero, DL.opEq_e, DL.flip_e, DL.opNe_e, DL.opIn_e, DL.opNotIn_e, DL.opLt_e, DL.opAdd_e, DL.opMul_e, DL.opIx_e, DL.opIsN_e, DL.opNotN_e, DL.opNeg_e, DL.opLe_e, DL.opGt_e, DL.opGe_e, DL.opSub_e, DL.vLt_int, DL.vEq_int, DL.vAdd_int, DL.vAdd_list, DL.vAdd_tuple, DL.vLen_tuple, DL.vLen_list, DL.vInt_int, DL.vTuple_list, DL.vTuple_tuple, DL.vList_list, DL.vList_tuple, DL.vRev_list, DL.vRev_tuple, DL.vCut_list, DL.vCut_tuple, DL.f1_e, DL.f2_e, DL.isNon_none, DL.isNon_int, DL.isi_int, DL.isi_bool, DL.isi_tuple, DL.isi_list, DL.isi_str, DL.isi_dict, isT, isPty, e2, i0, i1, i2, h1, h2, h3, lp]
        | true =>
        rw [find_not h3] at lp
        cases h4 : isRow ns.length a with
        | false => rcases ho with rfl | ⟨z, rfl⟩ <;> simp only [g__law_is_party, b__law_is_party, DL.sel_true, DL.sel_false, DL.sel_self, DL.okb, DL.excb, DL.badb, DL.pickb, DL.okp, DL.pickp, DL.ddat, DL.down, DL.sdat, DL.sown, DL.sraw, DL.spot, DL.gdat, DL.gown, DL.graw, DL.gpot, DL.asBb, DL.asIi, DL.kBok, DL.noxok, DL.datas0, DL.frz1_own, DL.frz1_dat, DL.frz1_raw, DL.frz1_pot, DL.frz1_none, DL.frz1_nil, DL.frz1_succ, DL.frz_nil, DL.frz_cons, DL.rdv_dat, DL.rdv_raw, DL.rdv_pot, DL.rdv_succ, DL.rtnV_zero, DL.rtnV_succ, DL.ownAt_zero, DL.ownAt_succ, DL.startE_eq, DL.seq_e, DL.seqK_nx, DL.seqK_ret, DL.seqK_brk, DL.seqK_cont, DL.asg_e, DL.asgK_e, DL.rtn_e, DL.rtnK_e, DL.rtnN_e, DL.exs_e, DL.exsK_e, DL.ifs_e, DL.ifsK_true, DL.ifsK_false, DL.skip_e, DL.brkS_e, DL.contS_e, DL.badS_e, DL.body_e, DL.fin_ret, DL.fin_nx, DL.app1_e, DL.app1K_e, DL.app_e, DL.appO_e, DL.appW_e, DL.appD_e, DL.asg2_e, DL.asg2K_e, DL.asg2L_e, DL.unp_e, DL.unpW_e, DL.unpD_e, DL.goOn_some, DL.goOn_none, DL.bT_e, DL.setL_cons, DL.setL_nil, DL.bN_e, DL.sto1_e, DL.sto_e, DL.stoW_e, DL.stoD_e, DL.sto2_e, DL.sto2K_e, DL.sto2W_e, DL.sto2I_e, DL.sto1K_e, DL.atK_e, DL.ali_e, DL.aliK_true, DL.aliK_false, DL.ali1_e, DL.ali1B_e, DL.ali1O_e, DL.ali1W_e, DL.ali1D_e, DL.forS_e, DL.forK_e, DL.loopB_some, DL.loopK_nx, DL.loopK_cont, DL.loopK_brk, DL.loopK_ret, DL.bin2_e, DL.binK_e, DL.binL_e, DL.un1_e, DL.unK_e, DL.tst_e, DL.tand_e, DL.tandK_true, DL.tandK_false, DL.tor_e, DL.torK_true, DL.torK_false, DL.tnot_e, DL.notK_e, DL.vand_e, DL.vandK_e, DL.vandL_true, DL.vandL_false, DL.vor_e, DL.vorK_e, DL.vorL_true, DL.vorL_false, DL.vnot_e, DL.vnotK_e, DL.vnotL_e, DL.vif_e, DL.vifK_true, DL.vifK_false, DL.anil_e, DL.acons_e, DL.aconsK_e, DL.aconsL_e, DL.call_e, DL.ccall_e, DL.ccallK1, DL.ccallK2, DL.ccallK3, DL.ccallK4, DL.sub_e, DL.subK_e, DL.subH_e, DL.cutK_e, DL.cutL_e, DL.oN_e, DL.oS_e, DL.oSK_e, DL.oI_e, DL.rev_e, DL.revK_e, DL.tup_e, DL.lst_e, DL.mkTup_e, DL.mkLst_e, DL.tupD_e, DL.lstD_e, DL.datas_e, DL.datasK_e, DL.kN_e, DL.kB_e, DL.kI_e, DL.kS_e, DL.kT_e, DL.kD0_e, DL.chainI_e, DL.chA_e, DL.chB_e, DL.chI_e, DL.chJ_e, DL.chG_true, DL.chG_false, DL.chY_e, DL.chC_e, DL.sSeq_e, DL.seqSrc_e, DL.asItems_list, DL.asItems_tuple, DL.sRng1_e, DL.rngW_e, DL.rngI_e, DL.sRng2_e, DL.rngK_e, DL.rngWW_e, DL.rngWI_e, DL.rngJ_e, DL.sZip_e, DL.zipK_e, DL.zipW_e, DL.zipA_e, DL.zipD_list, DL.zipD_tuple, DL.sEnum_e, DL.enumW_e, DL.enumV_e, DL.asList_e, DL.enumL_e, DL.ownR_e, DL.lc_e, DL.tYes_e, List.map_cons, List.map_nil, List.nil_append, List.cons_append, List.length_cons, List.length_nil, List.set_cons_zero, List.set_cons_succ, ite_self, reduceIte, noL_none, noL_bool, noL_int, noL_str, noL_list, noL_tuple, noLs_nil, noLs_cons, Bool.true_and, Bool.false_and, Bool.and_true, Bool.and_self, Bool.false_eq_true, Bool.not_true, Bool.not_false, List.replicate_succ, List.replicate_zero, DL.opEq_e, DL.flip_e, DL.opNe_e, DL.opIn_e, DL.opNotIn_e, DL.opLt_e, DL.opAdd_e, DL.opMul_e, DL.opIx_e, DL.opIsN_e, DL.opNotN_e, DL.opNeg_e, DL.opLe_e, DL.opGt_e, DL.opGe_e, DL.opSub_e, DL.vLt_int, DL.vEq_int, DL.vAdd_int, DL.vAdd_list, DL.vAdd_tuple, DL.vLen_tuple, DL.vLen_list, DL.vInt_int, DL.vTuple_list, DL.vTuple_tuple, DL.vList_list, DL.vList_tuple, DL.vRev_list, DL.vRev_tuple, DL.vCut_list, DL.vCut_tuple, DL.f1_e, DL.f2_e, DL.isNon_none, DL.isNon_int, DL.isi_int, DL.isi_bool, DL.isi_tuple, DL.isi_list, DL.isi_str, DL.isi_dict, isT, isPty, e2, i0, i1, i2, h1, h2, h3, lp, ra, rb, h4]
        | true =>
        cases h5 : isRow ns.length b with
        | false => rcases ho with rfl | ⟨z, rfl⟩ <;> simp only [g__law_is_party, b__law_is_party, DL.sel_true, DL.sel_false, DL.sel_self, DL.okb, DL.excb, DL.badb, DL.pickb, DL.okp, DL.pickp, DL.ddat, DL.down, DL.sdat, DL.sown, DL.sraw, DL.spot, DL.gdat, DL.gown, DL.graw, DL.gpot, DL.asBb, DL.asIi, DL.kBok, DL.noxok, DL.datas0, DL.frz1_own, DL.frz1_dat, DL.frz1_raw, DL.frz1_pot, DL.frz1_none, DL.frz1_nil, DL.frz1_succ, DL.frz_nil, DL.frz_cons, DL.rdv_dat, DL.rdv_raw, DL.rdv_pot, DL.rdv_succ, DL.rtnV_zero, DL.rtnV_succ, DL.ownAt_zero, DL.ownAt_succ, DL.startE_eq, DL.seq_e, DL.seqK_nx, DL.seqK_ret, DL.seqK_brk, DL.seqK_cont, DL.asg_e, DL.asgK_e, DL.rtn_e, DL.rtnK_e, DL.rtnN_e, DL.exs_e, DL.exsK_e, DL.ifs_e, DL.ifsK_true, DL.ifsK_false, DL.skip_e, DL.brkS_e, DL.contS_e, DL.badS_e, DL.body_e, DL.fin_ret, DL.fin_nx, DL.app1_e, DL.app1K_e, DL.app_e, DL.appO_e, DL.appW_e, DL.appD_e, DL.asg2_e, DL.asg2K_e, DL.asg2L_e, DL.unp_e, DL.unpW_e, DL.unpD_e, DL.goOn_some, DL.goOn_none, DL.bT_e, DL.setL_cons, DL.setL_nil, DL.bN_e, DL.sto1_e, DL.sto_e, DL.stoW_e, DL.stoD_e, DL.sto2_e, DL.sto2K_e, DL.sto2W_e, DL.sto2I_e, DL.sto1K_e, DL.atK_e, DL.ali_e, DL.aliK_true, DL.aliK_false, DL.ali1_e, DL.ali1B_e, DL.ali1O_e, DL.ali1W_e, DL.ali1D_e, DL.forS_e, DL.forK_e, DL.loopB_some, DL.loopK_nx, DL.loopK_cont, DL.loopK_brk, DL.loopK_ret, DL.bin2_e, DL.binK_e, DL.binL_e, DL.un1_e, DL.unK_e, DL.tst_e, DL.tand_e, DL.tandK_true, DL.tandK_false, DL.tor_e, DL.torK_true, DL.torK_false, DL.tnot_e, DL.notK_e, DL.vand_e, DL.vandK_e, DL.vandL_true, DL.vandL_false, DL.vor_e, DL.vorK_e, DL.vorL_true, DL.vorL_false, DL.vnot_e, DL.vnotK_e, DL.vnotL_e, DL.vif_e, DL.vifK_true, DL.vifK_false, DL.anil_e, DL.acons_e, DL.aconsK_e, DL.aconsL_e, DL.call_e, DL.ccall_e, DL.ccallK1, DL.ccallK2, DL.ccallK3, DL.ccallK4, DL.sub_e, DL.subK_e, DL.subH_e, DL.cutK_e, DL.cutL_e, DL.oN_e, DL.oS_e, DL.oSK_e, DL.oI_e, DL.rev_e, DL.revK_e, DL.tup_e, DL.lst_e, DL.mkTup_e, DL.mkLst_e, DL.tupD_e, DL.lstD_e, DL.datas_e, DL.datasK_e, DL.kN_e, DL.kB_e, DL.kI_e, DL.kS_e, DL.kT_e, DL.kD0_e, DL.chainI_e, DL.chA_e, DL.chB_e, DL.chI_e, DL.chJ_e, DL.chG_true, DL.chG_false, DL.chY_e, DL.chC_e, DL.sSeq_e, DL.seqSrc_e, DL.asItems_list, DL.asItems_tuple, DL.sRng1_e, DL.rngW_e, DL.rngI_e, DL.sRng2_e, DL.rngK_e, DL.rngWW_e, DL.rngWI_e, DL.rngJ_e, DL.sZip_e, DL.zipK_e, DL.zipW_e, DL.zipA_e, DL.zipD_list, DL.zipD_tuple, DL.sEnum_e, DL.enumW_e, DL.enumV_e, DL.asList_e, DL.enumL_e, DL.ownR_e, DL.lc_e, DL.tYes_e, List.map_cons, List.map_nil, List.nil_append, List.cons_append, List.length_cons, List.length_nil, List.set_cons_zero, List.set_cons_succ, ite_self, reduceIte, noL_none, noL_bool, noL_int, noL_str, noL_list, noL_tuple, noLs_nil, noLs_cons, Bool.true_and, Bool.false_and, Bool.and_true, Bool.and_self, Bool.false_eq_true, Bool.not_true, Bool.not_false, List.replicate_succ, List.replicate_zero, DL.opEq_e, DL.flip_e, DL.opNe_e, DL.opIn_e, DL.opNotIn_e, DL.opLt_e, DL.opAdd_e, DL.opMul_e, DL.opIx_e, DL.opIsN_e, DL.opNotN_e, DL.opNeg_e, DL.opLe_e, DL.opGt_e, DL.opGe_e, DL.opSub_e, DL.vLt_int, DL.vEq_int, DL.vAdd_int, DL.vAdd_list, DL.vAdd_tuple, DL.vLen_tuple, DL.vLen_list, DL.vInt_int, DL.vTuple_list, DL.vTuple_tuple, DL.vList_list, DL.vList_tuple, DL.vRev_list, DL.vRev_tuple, DL.vCut_list, DL.vCut_tuple, DL.f1_e, DL.f2_e, DL.isNon_none, DL.isNon_int, DL.isi_int, DL.isi_bool, DL.isi_tuple, DL.isi_list, DL.isi_str, DL.isi_dict, isT, isPty, e2, i0, i1, i2, h1, h2, h3, lp, ra, rb, h4, h5]
        | true =>
          obtain ⟨as, rfl⟩ : ∃ as, a = .tuple as := by cases a <;> first | exact ⟨_, rfl⟩ | cases h4
          obtain ⟨bs, rfl⟩ : ∃ bs, b = .tuple bs := by cases b <;> first | exact ⟨_, rfl⟩ | cases h5
          have h4' := (Bool.and_eq_true_iff.mp h4).1
          have h5' := (Bool.and_eq_true_iff.mp h5).1
          have c2 : ∀ ρ : En, (∃ o, ρ = [some (.dat (.tuple [.tuple ns, .tuple as, .tuple bs])), o, none]) → lcK [2] (bN 2) (tst (bin2 opIn (rdv 2) (bin2 opIx (rdv 0) (kI 2)))) (rdv 2) ρ as = .ok (.own ((as.filter fun d => isIn d bs).map fun d => d)) := by
            rintro ρ ⟨o, e⟩
            subst e
            refine lcK_ok _ _ za.1 fun y hy => ⟨_, rfl, ?_, fun _ => ⟨_, rfl, rfl⟩⟩
            simp only [wipeE, DL.sel_true, DL.sel_false, DL.sel_self, DL.okb, DL.excb, DL.badb, DL.pickb, DL.okp, DL.pickp, DL.ddat, DL.down, DL.sdat, DL.sown, DL.sraw, DL.spot, DL.gdat, DL.gown, DL.graw, DL.gpot, DL.asBb, DL.asIi, DL.kBok, DL.noxok, DL.datas0, DL.frz1_own, DL.frz1_dat, DL.frz1_raw, DL.frz1_pot, DL.frz1_none, DL.frz1_nil, DL.frz1_succ, DL.frz_nil, DL.frz_cons, DL.rdv_dat, DL.rdv_raw, DL.rdv_pot, DL.rdv_succ, DL.rtnV_zero, DL.rtnV_succ, DL.ownAt_zero, DL.ownAt_succ, DL.startE_eq, DL.seq_e, DL.seqK_nx, DL.seqK_ret, DL.seqK_brk, DL.seqK_cont, DL.asg_e, DL.asgK_e, DL.rtn_e, DL.rtnK_e, DL.rtnN_e, DL.exs_e, DL.exsK_e, DL.ifs_e, DL.ifsK_true, DL.ifsK_false, DL.skip_e, DL.brkS_e, DL.contS_e, DL.badS_e, DL.body_e, DL.fin_ret, DL.fin_nx, DL.app1_e, DL.app1K_e, DL.app_e, DL.appO_e, DL.appW_e, DL.appD_e, DL.asg2_e, DL.asg2K_e, DL.asg2L_e, DL.unp_e, DL.unpW_e, DL.unpD_e, DL.goOn_some, DL.goOn_none, DL.bT_e, DL.setL_cons, DL.setL_nil, DL.bN_e, DL.sto1_e, DL.sto_e, DL.stoW_e, DL.stoD_e, DL.sto2_e, DL.sto2K_e, DL.sto2W_e, DL.sto2I_e, DL.sto1K_e, DL.atK_e, DL.ali_e, DL.aliK_true, DL.aliK_false, DL.ali1_e, DL.ali1B_e, DL.ali1O_e, DL.ali1W_e, DL.ali1D_e, DL.forS_e, DL.forK_e, DL.loopB_some, DL.loopK_nx, DL.loopK_cont, DL.loopK_brk, DL.loopK_ret, DL.bin2_e, DL.binK_e, DL.binL_e, DL.un1_e, DL.unK_e, DL.tst_e, DL.tand_e, DL.tandK_true, DL.tandK_false, DL.tor_e, DL.torK_true, DL.torK_false, DL.tnot_e, DL.notK_e, DL.vand_e, DL.vandK_e, DL.vandL_true, DL.vandL_false, DL.vor_e, DL.vorK_e, DL.vorL_true, DL.vorL_false, DL.vnot_e, DL.vnotK_e, DL.vnotL_e, DL.vif_e, DL.vifK_true, DL.vifK_false, DL.anil_e, DL.acons_e, DL.aconsK_e, DL.aconsL_e, DL.call_e, DL.ccall_e, DL.ccallK1, DL.ccallK2, DL.ccallK3, DL.ccallK4, DL.sub_e, DL.subK_e, DL.subH_e, DL.cutK_e, DL.cutL_e, DL.oN_e, DL.oS_e, DL.oSK_e, DL.oI_e, DL.rev_e, DL.revK_e, DL.tup_e, DL.lst_e, DL.mkTup_e, DL.mkLst_e, DL.tupD_e, DL.lstD_e, DL.datas_e, DL.datasK_e, DL.kN_e, DL.kB_e, DL.kI_e, DL.kS_e, DL.kT_e, DL.kD0_e, DL.chainI_e, DL.chA_e, DL.chB_e, DL.chI_e, DL.chJ_e, DL.chG_true, DL.chG_false, DL.chY_e, DL.chC_e, DL.sSeq_e, DL.seqSrc_e, DL.asItems_list, DL.asItems_tuple, DL.sRng1_e, DL.rngW_e, DL.rngI_e, DL.sRng2_e, DL.rngK_e, DL.rngWW_e, DL.rngWI_e, DL.rngJ_e, DL.sZip_e, DL.zipK_e, DL.zipW_e, DL.zipA_e, DL.zipD_list, DL.zipD_tuple, DL.sEnum_e, DL.enumW_e, DL.enumV_e, DL.asList_e, DL.enumL_e, DL.ownR_e, DL.lc_e, DL.tYes_e, List.map_cons, List.map_nil, List.nil_append, List.cons_append, List.length_cons, List.length_nil, List.set_cons_zero, List.set_cons_succ, ite_self, reduceIte, noL_none, noL_bool, noL_int, noL_str, noL_list, noL_tuple, noLs_nil, noLs_cons, Bool.true_and, Bool.false_and, Bool.and_true, Bool.and_self, Bool.false_eq_true, Bool.not_true, Bool.not_false, List.replicate_succ, List.replicate_zero, DL.opEq_e, DL.flip_e, DL.opNe_e, DL.opIn_e, DL.opNotIn_e, DL.opLt_e, DL.opAdd_e, DL.opMul_e, DL.opIx_e, DL.opIsN_e, DL.opNotN_e, DL.opNeg_e, DL.opLe_e, DL.opGt_e, DL.opGe_e, DL.opSub_e, DL.vLt_int, DL.vEq_int, DL.vAdd_int, DL.vAdd_list, DL.vAdd_tuple, DL.vLen_tuple, DL.vLen_list, DL.vInt_int, DL.vTuple_list, DL.vTuple_tuple, DL.vList_list, DL.vList_tuple, DL.vRev_list, DL.vRev_tuple, DL.vCut_list, DL.vCut_tuple, DL.f1_e, DL.f2_e, DL.isNon_none, DL.isNon_int, DL.isi_int, DL.isi_bool, DL.isi_tuple, DL.isi_list, DL.isi_str, DL.isi_dict, i2, vIn_tuple (shaped_pair (List.all_eq_true.mp h4' y hy)) (canLay_pairs h5')]
          have c3 : vEq (.list ((as.filter fun d => isIn d bs).map fun d => d)) (.list []) = .ok (!as.any fun d => isIn d bs) := by
            rw [List.map_id'] 
            rw [vEq_nil (shaped_pairs (m := ns.length) fun x hx => List.all_eq_true.mp h4' x (List.mem_filter.mp hx).1)]
            congr 1
            cases h : as.any fun d => isIn d bs with
            | false =>
              rw [Bool.not_false, List.isEmpty_iff, List.filter_eq_nil_iff]
              intro x hx
              rw [List.any_eq_false] at h
              exact h x hx
            | true =>
              rw [Bool.not_true, List.isEmpty_eq_false_iff]
              obtain ⟨x, hx, h⟩ := List.any_eq_true.mp h
              exact List.ne_nil_of_mem (List.mem_filter.mpr ⟨hx, h⟩)
          have sm : ∀ x : M Wv, small 0 x = x := fun _ => rfl
          rcases ho with rfl | ⟨z, rfl⟩ <;> simp only [g__law_is_party, b__law_is_party, DL.sel_true, DL.sel_false, DL.sel_self, DL.okb, DL.excb, DL.badb, DL.pickb, DL.okp, DL.pickp, DL.ddat, DL.down, DL.sdat, DL.sown, DL.sraw, DL.spot, DL.gdat, DL.gown, DL.graw, DL.gpot, DL.asBb, DL.asIi, DL.kBok, DL.noxok, DL.datas0, DL.frz1_own, DL.frz1_dat, DL.frz1_raw, DL.frz1_pot, DL.frz1_none, DL.frz1_nil, DL.frz1_succ, DL.frz_nil, DL.frz_cons, DL.rdv_dat, DL.rdv_raw, DL.rdv_pot, DL.rdv_succ, DL.rtnV_zero, DL.rtnV_succ, DL.ownAt_zero, DL.ownAt_succ, DL.startE_eq, DL.seq_e, DL.seqK_nx, DL.seqK_ret, DL.seqK_brk, DL.seqK_cont, DL.asg_e, DL.asgK_e, DL.rtn_e, DL.rtnK_e, DL.rtnN_e, DL.exs_e, DL.exsK_e, DL.ifs_e, DL.ifsK_true, DL.ifsK_false, DL.skip_e, DL.brkS_e, DL.contS_e, DL.badS_e, DL.body_e, DL.fin_ret, DL.fin_nx, DL.app1_e, DL.app1K_e, DL.app_e, DL.appO_e, DL.appW_e, DL.appD_e, DL.asg2_e, DL.asg2K_e, DL.asg2L_e, DL.unp_e, DL.unpW_e, DL.unpD_e, DL.goOn_some, DL.goOn_none, DL.bT_e, DL.setL_cons, DL.setL_nil, DL.bN_e, DL.sto1_e, DL.sto_e, DL.stoW_e, DL.stoD_e, DL.sto2_e, DL.sto2K_e, DL.sto2W_e, DL.sto2I_e, DL.sto1K_e, DL.atK_e, DL.ali_e, DL.aliK_true, DL.aliK_false, DL.ali1_e, DL.ali1B_e, DL.ali1O_e, DL.ali1W_e, DL.ali1D_e, DL.forS_e, DL.forK_e, DL.loopB_some, DL.loopK_nx, DL.loopK_cont, DL.loopK_brk, DL.loopK_ret, DL.bin2_e, DL.binK_e, DL.binL_e, DL.un1_e, DL.unK_e, DL.tst_e, DL.tand_e, DL.tandK_true, DL.tandK_false, DL.tor_e, DL.torK_true, DL.torK_false, DL.tnot_e, DL.notK_e, DL.vand_e, DL.vandK_e, DL.vandL_true, DL.vandL_false, DL.vor_e, DL.vorK_e, DL.vorL_true, DL.vorL_false, DL.vnot_e, DL.vnotK_e, DL.vnotL_e, DL.vif_e, DL.vifK_true, DL.vifK_false, DL.anil_e, DL.acons_e, DL.aconsK_e, DL.aconsL_e, DL.call_e, DL.ccall_e, DL.ccallK1, DL.ccallK2, DL.ccallK3, DL.ccallK4, DL.sub_e, DL.subK_e, DL.subH_e, DL.cutK_e, DL.cutL_e, DL.oN_e, DL.oS_e, DL.oSK_e, DL.oI_e, DL.rev_e, DL.revK_e, DL.tup_e, DL.lst_e, DL.mkTup_e, DL.mkLst_e, DL.tupD_e, DL.lstD_e, DL.datas_e, DL.datasK_e, DL.kN_e, DL.kB_e, DL.kI_e, DL.kS_e, DL.kT_e, DL.kD0_e, DL.chainI_e, DL.chA_e, DL.chB_e, DL.chI_e, DL.chJ_e, DL.chG_true, DL.chG_false, DL.chY_e, DL.chC_e, DL.sSeq_e, DL.seqSrc_e, DL.asItems_list, DL.asItems_tuple, DL.sRng1_e, DL.rngW_e, DL.rngI_e, DL.sRng2_e, DL.rngK_e, DL.rngWW_e, DL.rngWI_e, DL.rngJ_e, DL.sZip_e, DL.zipK_e, DL.zipW_e, DL.zipA_e, DL.zipD_list, DL.zipD_tuple, DL.sEnum_e, DL.enumW_e, DL.enumV_e, DL.asList_e, DL.enumL_e, DL.ownR_e, DL.lc_e, DL.tYes_e, List.map_cons, List.map_nil, List.nil_append, List.cons_append, List.length_cons, List.length_nil, List.set_cons_zero, List.set_cons_succ, ite_self, reduceIte, noL_none, noL_bool, noL_int, noL_str, noL_list, noL_tuple, noLs_nil, noLs_cons, Bool.true_and, Bool.false_and, Bool.and_true, Bool.and_self, Bool.false_eq_true, Bool.not_true, Bool.not_false, List.replicate_succ, List.replicate_zero, DL.opEq_e, DL.flip_e, DL.opNe_e, DL.opIn_e, DL.opNotIn_e, DL.opLt_e, DL.opAdd_e, DL.opMul_e, DL.opIx_e, DL.opIsN_e, DL.opNotN_e, DL.opNeg_e, DL.opLe_e, DL.opGt_e, DL.opGe_e, DL.opSub_e, DL.vLt_int, DL.vEq_int, DL.vAdd_int, DL.vAdd_list, DL.vAdd_tuple, DL.vLen_tuple, DL.vLen_list, DL.vInt_int, DL.vTuple_list, DL.vTuple_tuple, DL.vList_list, DL.vList_tuple, DL.vRev_list, DL.vRev_tuple, DL.vCut_list, DL.vCut_tuple, DL.f1_e, DL.f2_e, DL.isNon_none, DL.isNon_int, DL.isi_int, DL.isi_bool, DL.isi_tuple, DL.isi_list, DL.isi_str, DL.isi_dict, isT, isPty, e2, i0, i1, i2, h1, h2, h3, lp, ra, rb, h4, h5, c2 _ ⟨_, rfl⟩, c3, sm, itm]
      | _ => simp only [g__law_is_party, b__law_is_party, DL.sel_true, DL.sel_false, DL.sel_self, DL.okb, DL.excb, DL.badb, DL.pickb, DL.okp, DL.pickp, DL.ddat, DL.down, DL.sdat, DL.sown, DL.sraw, DL.spot, DL.gdat, DL.gown, DL.graw, DL.gpot, DL.asBb, DL.asIi, DL.kBok, DL.noxok, DL.datas0, DL.frz1_own, DL.frz1_dat, DL.frz1_raw, DL.frz1_pot, DL.frz1_none, DL.frz1_nil, DL.frz1_succ, DL.frz_nil, DL.frz_cons, DL.rdv_dat, DL.rdv_raw, DL.rdv_pot, DL.rdv_succ, DL.rtnV_zero, DL.rtnV_succ, DL.ownAt_zero, DL.ownAt_succ, DL.startE_eq, DL.seq_e, DL.seqK_nx, DL.seqK_ret, DL.seqK_brk, DL.seqK_cont, DL.asg_e, DL.asgK_e, DL.rtn_e, DL.rtnK_e, DL.rtnN_e, DL.exs_e, DL.exsK_e, DL.ifs_e, DL.ifsK_true, DL.ifsK_false, DL.skip_e, DL.brkS_e, DL.contS_e, DL.badS_e, DL.body_e, DL.fin_ret, DL.fin_nx, DL.app1_e, DL.app1K_e, DL.app_e, DL.appO_e, DL.appW_e, DL.appD_e, DL.asg2_e, DL.asg2K_e, DL.asg2L_e, DL.unp_e, DL.unpW_e, DL.unpD_e, DL.goOn_some, DL.goOn_none, DL.bT_e, DL.setL_cons, DL.setL_nil, DL.bN_e, DL.sto1_e, DL.sto_e, DL.stoW_e, DL.stoD_e, DL.sto2_e, DL.sto2K_e, DL.sto2W_e, DL.sto2I_e, DL.sto1K_e, DL.atK_e, DL.ali_e, DL.aliK_true, DL.aliK_false, DL.ali1_e, DL.ali1B_e, DL.ali1O_e, DL.ali1W_e, DL.ali1D_e, DL.forS_e, DL.forK_e, DL.loopB_some, DL.loopK_nx, DL.loopK_cont, DL.loopK_brk, DL.loopK_ret, DL.bin2_e, DL.binK_e, DL.binL_e, DL.un1_e, DL.unK_e, DL.tst_e, DL.tand_e, DL.tandK_true, DL.tandK_false, DL.tor_e, DL.torK_true, DL.torK_false, DL.tnot_e, DL.notK_e, DL.vand_e, DL.vandK_e, DL.vandL_true, DL.vandL_false, DL.vor_e, DL.vorK_e, DL.vorL_true, DL.vorL_false, DL.vnot_e, DL.vnotK_e, DL.vnotL_e, DL.vif_e, DL.vifK_true, DL.vifK_false, DL.anil_e, DL.acons_e, DL.aconsK_e, DL.aconsL_e, DL.call_e, DL.ccall_e, DL.ccallK1, DL.ccallK2, DL.ccallK3, DL.ccallK4, DL.sub_e, DL.subK_e, DL.subH_e, DL.cutK_e, DL.cutL_e, DL.oN_e, DL.oS_e, DL.oSK_e, DL.oI_e, DL.rev_e, DL.revK_e, DL.tup_e, DL.lst_e, DL.mkTup_e, DL.mkLst_e, DL.tupD_e, DL.lstD_e, DL.datas_e, DL.datasK_e, DL.kN_e, DL.kB_e, DL.kI_e, DL.kS_e, DL.kT_e, DL.kD0_e, DL.chainI_e, DL.chA_e, DL.chB_e, DL.chI_e, DL.chJ_e, DL.chG_true, DL.chG_false, DL.chY_e, DL.chC_e, DL.sSeq_e, DL.seqSrc_e, DL.asItems_list, DL.asItems_tuple, DL.sRng1_e, DL.rngW_e, DL.rngI_e, DL.sRng2_e, DL.rngK_e, DL.rngWW_e, DL.rngWI_e, DL.rngJ_e, DL.sZip_e, DL.zipK_e, DL.zipW_e, DL.zipA_e, DL.zipD_list, DL.zipD_tuple, DL.sEnum_e, DL.enumW_e, DL.enumV_e, DL.asList_e, DL.enumL_e, DL.ownR_e, DL.lc_e, DL.tYes_e, List.map_cons, List.map_nil, List.nil_append, List.cons_append, List.length_cons, List.length_nil, List.set_cons_zero, List.set_cons_succ, ite_self, reduceIte, noL_none, noL_bool, noL_int, noL_str, noL_list, noL_tuple, noLs_nil, noLs_cons, Bool.true_and, Bool.false_and, Bool.and_true, Bool.and_self, Bool.false_eq_true, Bool.not_true, Bool.not_false, List.replicate_succ, List.replicate_zero, DL.opEq_e, DL.flip_e, DL.opNe_e, DL.opIn_e, DL.opNotIn_e, DL.opLt_e, DL.opAdd_e, DL.opMul_e, DL.opIx_e, DL.opIsN_e, DL.opNotN_e, DL.opNeg_e, DL.opLe_e, DL.opGt_e, DL.opGe_e, DL.opSub_e, DL.vLt_int, DL.vEq_int, DL.vAdd_int, DL.vAdd_list, DL.vAdd_tuple, DL.vLen_tuple, DL.vLen_list, DL.vInt_int, DL.vTuple_list, DL.vTuple_tuple, DL.vList_list, DL.vList_tuple, DL.vRev_list, DL.vRev_tuple, DL.vCut_list, DL.vCut_tuple, DL.f1_e, DL.f2_e, DL.isNon_none, DL.isNon_int, DL.isi_int, DL.isi_bool, DL.isi_tuple, DL.isi_list, DL.isi_str, DL.isi_dict, isT, isPty, e2, i0]
    · have e1 : decide ((xs.length : Int) = 3) = false := decide_eq_false (by omega)
      simp only [g__law_is_party, b__law_is_party, DL.sel_true, DL.sel_false, DL.sel_self, DL.okb, DL.excb, DL.badb, DL.pickb, DL.okp, DL.pickp, DL.ddat, DL.down, DL.sdat, DL.sown, DL.sraw, DL.spot, DL.gdat, DL.gown, DL.graw, DL.gpot, DL.asBb, DL.asIi, DL.kBok, DL.noxok, DL.datas0, DL.frz1_own, DL.frz1_dat, DL.frz1_raw, DL.frz1_pot, DL.frz1_none, DL.frz1_nil, DL.frz1_succ, DL.frz_nil, DL.frz_cons, DL.rdv_dat, DL.rdv_raw, DL.rdv_pot, DL.rdv_succ, DL.rtnV_zero, DL.rtnV_succ, DL.ownAt_zero, DL.ownAt_succ, DL.startE_eq, DL.seq_e, DL.seqK_nx, DL.seqK_ret, DL.seqK_brk, DL.seqK_cont, DL.asg_e, DL.asgK_e, DL.rtn_e, DL.rtnK_e, DL.rtnN_e, DL.exs_e, DL.exsK_e, DL.ifs_e, DL.ifsK_true, DL.ifsK_false, DL.skip_e, DL.brkS_e, DL.contS_e, DL.badS_e, DL.body_e, DL.fin_ret, DL.fin_nx, DL.app1_e, DL.app1K_e, DL.app_e, DL.appO_e, DL.appW_e, DL.appD_e, DL.asg2_e, DL.asg2K_e, DL.asg2L_e, DL.unp_e, DL.unpW_e, DL.unpD_e, DL.goOn_some, DL.goOn_none, DL.bT_e, DL.setL_cons, DL.setL_nil, DL.bN_e, DL.sto1_e, DL.sto_e, DL.stoW_e, DL.stoD_e, DL.sto2_e, DL.sto2K_e, DL.sto2W_e, DL.sto2I_e, DL.sto1K_e, DL.atK_e, DL.ali_e, DL.aliK_true, DL.aliK_false, DL.ali1_e, DL.ali1B_e, DL.ali1O_e, DL.ali1W_e, DL.ali1D_e, DL.forS_e, DL.forK_e, DL.loopB_some, DL.loopK_nx, DL.loopK_cont, DL.loopK_brk, DL.loopK_ret, DL.bin2_e, DL.binK_e, DL.binL_e, DL.un1_e, DL.unK_e, DL.tst_e, DL.tand_e, DL.tandK_true, DL.tandK_false, DL.tor_e, DL.torK_true, DL.torK_false, DL.tnot_e, DL.notK_e, DL.vand_e, DL.vandK_e, DL.vandL_true, DL.vandL_false, DL.vor_e, DL.vorK_e, DL.vorL_true, DL.vorL_false, DL.vnot_e, DL.vnotK_e, DL.vnotL_e, DL.vif_e, DL.vifK_true, DL.vifK_false, DL.anil_e, DL.acons_e, DL.aconsK_e, DL.aconsL_e, DL.call_e, DL.ccall_e, DL.ccallK1, DL.ccallK2, DL.ccallK3, DL.ccallK4, DL.sub_e, DL.subK_e, DL.subH_e, DL.cutK_e, DL.cutL_e, DL.oN_e, DL.oS_e, DL.oSK_e, DL.oI_e, DL.rev_e, DL.revK_e, DL.tup_e, DL.lst_e, DL.mkTup_e, DL.mkLst_e, DL.tupD_e, DL.lstD_e, DL.datas_e, DL.datasK_e, DL.kN_e, DL.kB_e, DL.kI_e, DL.kS_e, DL.kT_e, DL.kD0_e, DL.chainI_e, DL.chA_e, DL.chB_e, DL.chI_e, DL.chJ_e, DL.chG_true, DL.chG_false, DL.chY_e, DL.chC_e, DL.sSeq_e, DL.seqSrc_e, DL.asItems_list, DL.asItems_tuple, DL.sRng1_e, DL.rngW_e, DL.rngI_e, DL.sRng2_e, DL.rngK_e, DL.rngWW_e, DL.rngWI_e, DL.rngJ_e, DL.sZip_e, DL.zipK_e, DL.zipW_e, DL.zipA_e, DL.zipD_list, DL.zipD_tuple, DL.sEnum_e, DL.enumW_e, DL.enumV_e, DL.asList_e, DL.enumL_e, DL.ownR_e, DL.lc_e, DL.tYes_e, List.map_cons, List.map_nil, List.nil_append, List.cons_append, List.length_cons, List.length_nil, List.set_cons_zero, List.set_cons_succ, ite_self, reduceIte, noL_none, noL_bool, noL_int, noL_str, noL_list, noL_tuple, noLs_nil, noLs_cons, Bool.true_and, Bool.false_and, Bool.and_true, Bool.and_self, Bool.false_eq_true, Bool.not_true, Bool.not_false, List.replicate_succ, List.replicate_zero, DL.opEq_e, DL.flip_e, DL.opNe_e, DL.opIn_e, DL.opNotIn_e, DL.opLt_e, DL.opAdd_e, DL.opMul_e, DL.opIx_e, DL.opIsN_e, DL.opNotN_e, DL.opNeg_e, DL.opLe_e, DL.opGt_e, DL.opGe_e, DL.opSub_e, DL.vLt_int, DL.vEq_int, DL.vAdd_int, DL.vAdd_list, DL.vAdd_tuple, DL.vLen_tuple, DL.vLen_list, DL.vInt_int, DL.vTuple_list, DL.vTuple_tuple, DL.vList_list, DL.vList_tuple, DL.vRev_list, DL.vRev_tuple, DL.vCut_list, DL.vCut_tuple, DL.f1_e, DL.f2_e, DL.isNon_none, DL.isNon_int, DL.isi_int, DL.isi_bool, DL.isi_tuple, DL.isi_list, DL.isi_str, DL.isi_dict, isT, e1, isPty_len hl]
  | _ => simp only [g__law_is_party, b__law_is_party, DL.sel_true, DL.sel_false, DL.sel_self, DL.okb, DL.excb, DL.badb, DL.pickb, DL.okp, DL.pickp, DL.ddat, DL.down, DL.sdat, DL.sown, DL.sraw, DL.spot, DL.gdat, DL.gown, DL.graw, DL.gpot, DL.asBb, DL.asIi, DL.kBok, DL.noxok, DL.datas0, DL.frz1_own, DL.frz1_dat, DL.frz1_raw, DL.frz1_pot, DL.frz1_none, DL.frz1_nil, DL.frz1_succ, DL.frz_nil, DL.frz_cons, DL.rdv_dat, DL.rdv_raw, DL.rdv_pot, DL.rdv_succ, DL.rtnV_zero, DL.rtnV_succ, DL.ownAt_zero, DL.ownAt_succ, DL.startE_eq, DL.seq_e, DL.seqK_nx, DL.seqK_ret, DL.seqK_brk, DL.seqK_cont, DL.asg_e, DL.asgK_e, DL.rtn_e, DL.rtnK_e, DL.rtnN_e, DL.exs_e, DL.exsK_e, DL.ifs_e, DL.ifsK_true, DL.ifsK_false, DL.skip_e, DL.brkS_e, DL.contS_e, DL.badS_e, DL.body_e, DL.fin_ret, DL.fin_nx, DL.app1_e, DL.app1K_e, DL.app_e, DL.appO_e, DL.appW_e, DL.appD_e, DL.asg2_e, DL.asg2K_e, DL.asg2L_e, DL.unp_e, DL.unpW_e, DL.unpD_e, DL.goOn_some, DL.goOn_none, DL.bT_e, DL.setL_cons, DL.setL_nil, DL.bN_e, DL.sto1_e, DL.sto_e, DL.stoW_e, DL.stoD_e, DL.sto2_e, DL.sto2K_e, DL.sto2W_e, DL.sto2I_e, DL.sto1K_e, DL.atK_e, DL.ali_e, DL.aliK_true, DL.aliK_false, DL.ali1_e, DL.ali1B_e, DL.ali1O_e, DL.ali1W_e, DL.ali1D_e, DL.forS_e, DL.forK_e, DL.loopB_some, DL.loopK_nx, DL.loopK_cont, DL.loopK_brk, DL.loopK_ret, DL.bin2_e, DL.binK_e, DL.binL_e, DL.un1_e, DL.unK_e, DL.tst_e, DL.tand_e, DL.tandK_true, DL.tandK_false, DL.tor_e, DL.torK_true, DL.torK_false, DL.tnot_e, DL.notK_e, DL.vand_e, DL.vandK_e, DL.vandL_true, DL.vandL_false, DL.vor_e, DL.vorK_e, DL.vorL_true, DL.vorL_false, DL.vnot_e, DL.vnotK_e, DL.vnotL_e, DL.vif_e, DL.vifK_true, DL.vifK_false, DL.anil_e, DL.acons_e, DL.aconsK_e, DL.aconsL_e, DL.call_e, DL.ccall_e, DL.ccallK1, DL.ccallK2, DL.ccallK3, DL.ccallK4, DL.sub_e, DL.subK_e, DL.subH_e, DL.cutK_e, DL.cutL_e, DL.oN_e, DL.oS_e, DL.oSK_e, DL.oI_e, DL.rev_e, DL.revK_e, DL.tup_e, DL.lst_e, DL.mkTup_e, DL.mkLst_e, DL.tupD_e, DL.lstD_e, DL.datas_e, DL.datasK_e, DL.kN_e, DL.kB_e, DL.kI_e, DL.kS_e, DL.kT_e, DL.kD0_e, DL.chainI_e, DL.chA_e, DL.chB_e, DL.chI_e, DL.chJ_e, DL.chG_true, DL.chG_false, DL.chY_e, DL.chC_e, DL.sSeq_e, DL.seqSrc_e, DL.asItems_list, DL.asItems_tuple, DL.sRng1_e, DL.rngW_e, DL.rngI_e, DL.sRng2_e, DL.rngK_e, DL.rngWW_e, DL.rngWI_e, DL.rngJ_e, DL.sZip_e, DL.zipK_e, DL.zipW_e, DL.zipA_e, DL.zipD_list, DL.zipD_tuple, DL.sEnum_e, DL.enumW_e, DL.enumV_e, DL.asList_e, DL.enumL_e, DL.ownR_e, DL.lc_e, DL.tYes_e, List.map_cons, List.map_nil, List.nil_append, List.cons_append, List.length_cons, List.length_nil, List.set_cons_zero, List.set_cons_succ, ite_self, reduceIte, noL_none, noL_bool, noL_int, noL_str, noL_list, noL_tuple, noLs_nil, noLs_cons, Bool.true_and, Bool.false_and, Bool.and_true, Bool.and_self, Bool.false_eq_true, Bool.not_true, Bool.not_false, List.replicate_succ, List.replicate_zero, DL.opEq_e, DL.flip_e, DL.opNe_e, DL.opIn_e, DL.opNotIn_e, DL.opLt_e, DL.opAdd_e, DL.opMul_e, DL.opIx_e, DL.opIsN_e, DL.opNotN_e, DL.opNeg_e, DL.opLe_e, DL.opGt_e, DL.opGe_e, DL.opSub_e, DL.vLt_int, DL.vEq_int, DL.vAdd_int, DL.vAdd_list, DL.vAdd_tuple, DL.vLen_tuple, DL.vLen_list, DL.vInt_int, DL.vTuple_list, DL.vTuple_tuple, DL.vList_list, DL.vList_tuple, DL.vRev_list, DL.vRev_tuple, DL.vCut_list, DL.vCut_tuple, DL.f1_e, DL.f2_e, DL.isNon_none, DL.isNon_int, DL.isi_int, DL.isi_bool, DL.isi_tuple, DL.isi_list, DL.isi_str, DL.isi_dict, isT, isPty]
end Lw

namespace Lw
open PySem (PyData Addr Str)
open DL
theorem vMul_l2 {xs : List D} (h : xs.length ≤ 1000) : vMul (.list xs) (.int 2) = .ok (.own (xs ++ xs)) := by
  have e1 : vMul (.list xs) (.int 2) = small (xs.length * 2) (.ok (.own (List.replicate 2 xs).flatten)) := rfl
  rw [e1, small_of (by omega), show (2 : Nat) = 0 + 1 + 1 from rfl, List.replicate_succ, List.replicate_succ, List.replicate_zero]
  simp
theorem p_pick {xs : List D} (hx : 0 < xs.length) (hz : xs.length ≤ 1000000) : Pst (g__law_pick [.pot, .dat (.list xs)]) (fun w => ∃ x ∈ xs, w = .dat x) := by
  refine ⟨?_⟩
  have dp : dPot [.pot, .dat (.int xs.length)] = .pick xs.length fun r => .ok (.dat (.int r)) := by rw [dPot_e (by omega) (by omega)]; rfl
  simp only [g__law_pick, b__law_pick, g__law_below, DL.sel_true, DL.sel_false, DL.sel_self, DL.okb, DL.excb, DL.badb, DL.pickb, DL.okp, DL.pickp, DL.ddat, DL.down, DL.sdat, DL.sown, DL.sraw, DL.spot, DL.gdat, DL.gown, DL.graw, DL.gpot, DL.asBb, DL.asIi, DL.kBok, DL.noxok, DL.datas0, DL.frz1_own, DL.frz1_dat, DL.frz1_raw, DL.frz1_pot, DL.frz1_none, DL.frz1_nil, DL.frz1_succ, DL.frz_nil, DL.frz_cons, DL.rdv_dat, DL.rdv_raw, DL.rdv_pot, DL.rdv_succ, DL.rtnV_zero, DL.rtnV_succ, DL.ownAt_zero, DL.ownAt_succ, DL.startE_eq, DL.seq_e, DL.seqK_nx, DL.seqK_ret, DL.seqK_brk, DL.seqK_cont, DL.asg_e, DL.asgK_e, DL.rtn_e, DL.rtnK_e, DL.rtnN_e, DL.exs_e, DL.exsK_e, DL.ifs_e, DL.ifsK_true, DL.ifsK_false, DL.skip_e, DL.brkS_e, DL.contS_e, DL.badS_e, DL.body_e, DL.fin_ret, DL.fin_nx, DL.app1_e, DL.app1K_e, DL.app_e, DL.appO_e, DL.appW_e, DL.appD_e, DL.asg2_e, DL.asg2K_e, DL.asg2L_e, DL.unp_e, DL.unpW_e, DL.unpD_e, DL.goOn_some, DL.goOn_none, DL.bT_e, DL.setL_cons, DL.setL_nil, DL.bN_e, DL.sto1_e, DL.sto_e, DL.stoW_e, DL.stoD_e, DL.sto2_e, DL.sto2K_e, DL.sto2W_e, DL.sto2I_e, DL.sto1K_e, DL.atK_e, DL.ali_e, DL.aliK_true, DL.aliK_false, DL.ali1_e, DL.ali1B_e, DL.ali1O_e, DL.ali1W_e, DL.ali1D_e, DL.forS_e, DL.forK_e, DL.loopB_some, DL.loopK_nx, DL.loopK_cont, DL.loopK_brk, DL.loopK_ret, DL.bin2_e, DL.binK_e, DL.binL_e, DL.un1_e, DL.unK_e, DL.tst_e, DL.tand_e, DL.tandK_true, DL.tandK_false, DL.tor_e, DL.torK_true, DL.torK_false, DL.tnot_e, DL.notK_e, DL.vand_e, DL.vandK_e, DL.vandL_true, DL.vandL_false, DL.vor_e, DL.vorK_e, DL.vorL_true, DL.vorL_false, DL.vnot_e, DL.vnotK_e, DL.vnotL_e, DL.vif_e, DL.vifK_true, DL.vifK_false, DL.anil_e, DL.acons_e, DL.aconsK_e, DL.aconsL_e, DL.call_e, DL.ccall_e, DL.ccallK1, DL.ccallK2, DL.ccallK3, DL.ccallK4, DL.sub_e, DL.subK_e, DL.subH_e, DL.cutK_e, DL.cutL_e, DL.oN_e, DL.oS_e, DL.oSK_e, DL.oI_e, DL.rev_e, DL.revK_e, DL.tup_e, DL.lst_e, DL.mkTup_e, DL.mkLst_e, DL.tupD_e, DL.lstD_e, DL.datas_e, DL.datasK_e, DL.kN_e, DL.kB_e, DL.kI_e, DL.kS_e, DL.kT_e, DL.kD0_e, DL.chainI_e, DL.chA_e, DL.chB_e, DL.chI_e, DL.chJ_e, DL.chG_true, DL.chG_false, DL.chY_e, DL.chC_e, DL.sSeq_e, DL.seqSrc_e, DL.asItems_list, DL.asItems_tuple, DL.sRng1_e, DL.rngW_e, DL.rngI_e, DL.sRng2_e, DL.rngK_e, DL.rngWW_e, DL.rngWI_e, DL.rngJ_e, DL.sZip_e, DL.zipK_e, DL.zipW_e, DL.zipA_e, DL.zipD_list, DL.zipD_tuple, DL.sEnum_e, DL.enumW_e, DL.enumV_e, DL.asList_e, DL.enumL_e, DL.ownR_e, DL.lc_e, DL.tYes_e, List.map_cons, List.map_nil, List.nil_append, List.cons_append, List.length_cons, List.length_nil, List.set_cons_zero, List.set_cons_succ, ite_self, reduceIte, noL_none, noL_bool, noL_int, noL_str, noL_list, noL_tuple, noLs_nil, noLs_cons, Bool.true_and, Bool.false_and, Bool.and_true, Bool.and_self, Bool.false_eq_true, Bool.not_true, Bool.not_false, List.replicate_succ, List.replicate_zero, DL.opEq_e, DL.flip_e, DL.opNe_e, DL.opIn_e, DL.opNotIn_e, DL.opLt_e, DL.opAdd_e, DL.opMul_e, DL.opIx_e, DL.opIsN_e, DL.opNotN_e, DL.opNeg_e, DL.opLe_e, DL.opGt_e, DL.opGe_e, DL.opSub_e, DL.vLt_int, DL.vEq_int, DL.vAdd_int, DL.vAdd_list, DL.vAdd_tuple, DL.vLen_tuple, DL.vLen_list, DL.vInt_int, DL.vTuple_list, DL.vTuple_tuple, DL.vList_list, DL.vList_tuple, DL.vRev_list, DL.vRev_tuple, DL.vCut_list, DL.vCut_tuple, DL.f1_e, DL.f2_e, DL.isNon_none, DL.isNon_int, DL.isi_int, DL.isi_bool, DL.isi_tuple, DL.isi_list, DL.isi_str, DL.isi_dict, dp]
  intro i hi
  have ix : vIx (.list xs) (.int (i : Int)) = .ok (.dat xs[i]) := vIx_list (by rw [atI_nat', List.getElem?_eq_getElem hi])
  simp only [DL.sel_true, DL.sel_false, DL.sel_self, DL.okb, DL.excb, DL.badb, DL.pickb, DL.okp, DL.pickp, DL.ddat, DL.down, DL.sdat, DL.sown, DL.sraw, DL.spot, DL.gdat, DL.gown, DL.graw, DL.gpot, DL.asBb, DL.asIi, DL.kBok, DL.noxok, DL.datas0, DL.frz1_own, DL.frz1_dat, DL.frz1_raw, DL.frz1_pot, DL.frz1_none, DL.frz1_nil, DL.frz1_succ, DL.frz_nil, DL.frz_cons, DL.rdv_dat, DL.rdv_raw, DL.rdv_pot, DL.rdv_succ, DL.rtnV_zero, DL.rtnV_succ, DL.ownAt_zero, DL.ownAt_succ, DL.startE_eq, DL.seq_e, DL.seqK_nx, DL.seqK_ret, DL.seqK_brk, DL.seqK_cont, DL.asg_e, DL.asgK_e, DL.rtn_e, DL.rtnK_e, DL.rtnN_e, DL.exs_e, DL.exsK_e, DL.ifs_e, DL.ifsK_true, DL.ifsK_false, DL.skip_e, DL.brkS_e, DL.contS_e, DL.badS_e, DL.body_e, DL.fin_ret, DL.fin_nx, DL.app1_e, DL.app1K_e, DL.app_e, DL.appO_e, DL.appW_e, DL.appD_e, DL.asg2_e, DL.asg2K_e, DL.asg2L_e, DL.unp_e, DL.unpW_e, DL.unpD_e, DL.goOn_some, DL.goOn_none, DL.bT_e, DL.setL_cons, DL.setL_nil, DL.bN_e, DL.sto1_e, DL.sto_e, DL.stoW_e, DL.stoD_e, DL.sto2_e, DL.sto2K_e, DL.sto2W_e, DL.sto2I_e, DL.sto1K_e, DL.atK_e, DL.ali_e, DL.aliK_true, DL.aliK_false, DL.ali1_e, DL.ali1B_e, DL.ali1O_e, DL.ali1W_e, DL.ali1D_e, DL.forS_e, DL.forK_e, DL.loopB_some, DL.loopK_nx, DL.loopK_cont, DL.loopK_brk, DL.loopK_ret, DL.bin2_e, DL.binK_e, DL.binL_e, DL.un1_e, DL.unK_e, DL.tst_e, DL.tand_e, DL.tandK_true, DL.tandK_false, DL.tor_e, DL.torK_true, DL.torK_false, DL.tnot_e, DL.notK_e, DL.vand_e, DL.vandK_e, DL.vandL_true, DL.vandL_false, DL.vor_e, DL.vorK_e, DL.vorL_true, DL.vorL_false, DL.vnot_e, DL.vnotK_e, DL.vnotL_e, DL.vif_e, DL.vifK_true, DL.vifK_false, DL.anil_e, DL.acons_e, DL.aconsK_e, DL.aconsL_e, DL.call_e, DL.ccall_e, DL.ccallK1, DL.ccallK2, DL.ccallK3, DL.ccallK4, DL.sub_e, DL.subK_e, DL.subH_e, DL.cutK_e, DL.cutL_e, DL.oN_e, DL.oS_e, DL.oSK_e, DL.oI_e, DL.rev_e, DL.revK_e, DL.tup_e, DL.lst_e, DL.mkTup_e, DL.mkLst_e, DL.tupD_e, DL.lstD_e, DL.datas_e, DL.datasK_e, DL.kN_e, DL.kB_e, DL.kI_e, DL.kS_e, DL.kT_e, DL.kD0_e, DL.chainI_e, DL.chA_e, DL.chB_e, DL.chI_e, DL.chJ_e, DL.chG_true, DL.chG_false, DL.chY_e, DL.chC_e, DL.sSeq_e, DL.seqSrc_e, DL.asItems_list, DL.asItems_tuple, DL.sRng1_e, DL.rngW_e, DL.rngI_e, DL.sRng2_e, DL.rngK_e, DL.rngWW_e, DL.rngWI_e, DL.rngJ_e, DL.sZip_e, DL.zipK_e, DL.zipW_e, DL.zipA_e, DL.zipD_list, DL.zipD_tuple, DL.sEnum_e, DL.enumW_e, DL.enumV_e, DL.asList_e, DL.enumL_e, DL.ownR_e, DL.lc_e, DL.tYes_e, List.map_cons, List.map_nil, List.nil_append, List.cons_append, List.length_cons, List.length_nil, List.set_cons_zero, List.set_cons_succ, ite_self, reduceIte, noL_none, noL_bool, noL_int, noL_str, noL_list, noL_tuple, noLs_nil, noLs_cons, Bool.true_and, Bool.false_and, Bool.and_true, Bool.and_self, Bool.false_eq_true, Bool.not_true, Bool.not_false, List.replicate_succ, List.replicate_zero, DL.opEq_e, DL.flip_e, DL.opNe_e, DL.opIn_e, DL.opNotIn_e, DL.opLt_e, DL.opAdd_e, DL.opMul_e, DL.opIx_e, DL.opIsN_e, DL.opNotN_e, DL.opNeg_e, DL.opLe_e, DL.opGt_e, DL.opGe_e, DL.opSub_e, DL.vLt_int, DL.vEq_int, DL.vAdd_int, DL.vAdd_list, DL.vAdd_tuple, DL.vLen_tuple, DL.vLen_list, DL.vInt_int, DL.vTuple_list, DL.vTuple_tuple, DL.vList_list, DL.vList_tuple, DL.vRev_list, DL.vRev_tuple, DL.vCut_list, DL.vCut_tuple, DL.f1_e, DL.f2_e, DL.isNon_none, DL.isNon_int, DL.isi_int, DL.isi_bool, DL.isi_tuple, DL.isi_list, DL.isi_str, DL.isi_dict, ix]
  exact ⟨_, List.getElem_mem hi, rfl⟩
theorem p_muddled {row : List D} {odd : D} (hz : row.length ≤ 1000) : Pst (g__law_muddled [.pot, .dat (.tuple row), .dat odd]) (fun w => ∃ r, w = .dat (.tuple r) ∧ r.length ≤ row.length + 1 ∧ ∀ x ∈ r, x ∈ row ∨ x = odd) := by
  refine ⟨?_⟩
  have dp : dPot [.pot, .dat (.int ((row.length : Int) + 1))] = .pick (row.length + 1) fun r => .ok (.dat (.int r)) := by rw [dPot_e (by omega) (by omega)]; rfl
  simp only [g__law_muddled, b__law_muddled, g__law_below, DL.sel_true, DL.sel_false, DL.sel_self, DL.okb, DL.excb, DL.badb, DL.pickb, DL.okp, DL.pickp, DL.ddat, DL.down, DL.sdat, DL.sown, DL.sraw, DL.spot, DL.gdat, DL.gown, DL.graw, DL.gpot, DL.asBb, DL.asIi, DL.kBok, DL.noxok, DL.datas0, DL.frz1_own, DL.frz1_dat, DL.frz1_raw, DL.frz1_pot, DL.frz1_none, DL.frz1_nil, DL.frz1_succ, DL.frz_nil, DL.frz_cons, DL.rdv_dat, DL.rdv_raw, DL.rdv_pot, DL.rdv_succ, DL.rtnV_zero, DL.rtnV_succ, DL.ownAt_zero, DL.ownAt_succ, DL.startE_eq, DL.seq_e, DL.seqK_nx, DL.seqK_ret, DL.seqK_brk, DL.seqK_cont, DL.asg_e, DL.asgK_e, DL.rtn_e, DL.rtnK_e, DL.rtnN_e, DL.exs_e, DL.exsK_e, DL.ifs_e, DL.ifsK_true, DL.ifsK_false, DL.skip_e, DL.brkS_e, DL.contS_e, DL.badS_e, DL.body_e, DL.fin_ret, DL.fin_nx, DL.app1_e, DL.app1K_e, DL.app_e, DL.appO_e, DL.appW_e, DL.appD_e, DL.asg2_e, DL.asg2K_e, DL.asg2L_e, DL.unp_e, DL.unpW_e, DL.unpD_e, DL.goOn_some, DL.goOn_none, DL.bT_e, DL.setL_cons, DL.setL_nil, DL.bN_e, DL.sto1_e, DL.sto_e, DL.stoW_e, DL.stoD_e, DL.sto2_e, DL.sto2K_e, DL.sto2W_e, DL.sto2I_e, DL.sto1K_e, DL.atK_e, DL.ali_e, DL.aliK_true, DL.aliK_false, DL.ali1_e, DL.ali1B_e, DL.ali1O_e, DL.ali1W_e, DL.ali1D_e, DL.forS_e, DL.forK_e, DL.loopB_some, DL.loopK_nx, DL.loopK_cont, DL.loopK_brk, DL.loopK_ret, DL.bin2_e, DL.binK_e, DL.binL_e, DL.un1_e, DL.unK_e, DL.tst_e, DL.tand_e, DL.tandK_true, DL.tandK_false, DL.tor_e, DL.torK_true, DL.torK_false, DL.tnot_e, DL.notK_e, DL.vand_e, DL.vandK_e, DL.vandL_true, DL.vandL_false, DL.vor_e, DL.vorK_e, DL.vorL_true, DL.vorL_false, DL.vnot_e, DL.vnotK_e, DL.vnotL_e, DL.vif_e, DL.vifK_true, DL.vifK_false, DL.anil_e, DL.acons_e, DL.aconsK_e, DL.aconsL_e, DL.call_e, DL.ccall_e, DL.ccallK1, DL.ccallK2, DL.ccallK3, DL.ccallK4, DL.sub_e, DL.subK_e, DL.subH_e, DL.cutK_e, DL.cutL_e, DL.oN_e, DL.oS_e, DL.oSK_e, DL.oI_e, DL.rev_e, DL.revK_e, DL.tup_e, DL.lst_e, DL.mkTup_e, DL.mkLst_e, DL.tupD_e, DL.lstD_e, DL.datas_e, DL.datasK_e, DL.kN_e, DL.kB_e, DL.kI_e, DL.kS_e, DL.kT_e, DL.kD0_e, DL.chainI_e, DL.chA_e, DL.chB_e, DL.chI_e, DL.chJ_e, DL.chG_true, DL.chG_false, DL.chY_e, DL.chC_e, DL.sSeq_e, DL.seqSrc_e, DL.asItems_list, DL.asItems_tuple, DL.sRng1_e, DL.rngW_e, DL.rngI_e, DL.sRng2_e, DL.rngK_e, DL.rngWW_e, DL.rngWI_e, DL.rngJ_e, DL.sZip_e, DL.zipK_e, DL.zipW_e, DL.zipA_e, DL.zipD_list, DL.zipD_tuple, DL.sEnum_e, DL.enumW_e, DL.enumV_e, DL.asList_e, DL.enumL_e, DL.ownR_e, DL.lc_e, DL.tYes_e, List.map_cons, List.map_nil, List.nil_append, List.cons_append, List.length_cons, List.length_nil, List.set_cons_zero, List.set_cons_succ, ite_self, reduceIte, noL_none, noL_bool, noL_int, noL_str, noL_list, noL_tuple, noLs_nil, noLs_cons, Bool.true_and, Bool.false_and, Bool.and_true, Bool.and_self, Bool.false_eq_true, Bool.not_true, Bool.not_false, List.replicate_succ, List.replicate_zero, DL.opEq_e, DL.flip_e, DL.opNe_e, DL.opIn_e, DL.opNotIn_e, DL.opLt_e, DL.opAdd_e, DL.opMul_e, DL.opIx_e, DL.opIsN_e, DL.opNotN_e, DL.opNeg_e, DL.opLe_e, DL.opGt_e, DL.opGe_e, DL.opSub_e, DL.vLt_int, DL.vEq_int, DL.vAdd_int, DL.vAdd_list, DL.vAdd_tuple, DL.vLen_tuple, DL.vLen_list, DL.vInt_int, DL.vTuple_list, DL.vTuple_tuple, DL.vList_list, DL.vList_tuple, DL.vRev_list, DL.vRev_tuple, DL.vCut_list, DL.vCut_tuple, DL.f1_e, DL.f2_e, DL.isNon_none, DL.isNon_int, DL.isi_int, DL.isi_bool, DL.isi_tuple, DL.isi_list, DL.isi_str, DL.isi_dict, dp]
  intro i hi
  have a2 : ((i : Int) + 2) = ((i + 2 : Nat) : Int) := rfl
  have a1 : ((i : Int) + 1) = ((i + 1 : Nat) : Int) := rfl
  simp (disch := (try simp only [List.length_append, List.length_take, List.length_drop, List.length_reverse, List.length_map, List.length_cons, List.length_nil]); omega) only [DL.sel_true, DL.sel_false, DL.sel_self, DL.okb, DL.excb, DL.badb, DL.pickb, DL.okp, DL.pickp, DL.ddat, DL.down, DL.sdat, DL.sown, DL.sraw, DL.spot, DL.gdat, DL.gown, DL.graw, DL.gpot, DL.asBb, DL.asIi, DL.kBok, DL.noxok, DL.datas0, DL.frz1_own, DL.frz1_dat, DL.frz1_raw, DL.frz1_pot, DL.frz1_none, DL.frz1_nil, DL.frz1_succ, DL.frz_nil, DL.frz_cons, DL.rdv_dat, DL.rdv_raw, DL.rdv_pot, DL.rdv_succ, DL.rtnV_zero, DL.rtnV_succ, DL.ownAt_zero, DL.ownAt_succ, DL.startE_eq, DL.seq_e, DL.seqK_nx, DL.seqK_ret, DL.seqK_brk, DL.seqK_cont, DL.asg_e, DL.asgK_e, DL.rtn_e, DL.rtnK_e, DL.rtnN_e, DL.exs_e, DL.exsK_e, DL.ifs_e, DL.ifsK_true, DL.ifsK_false, DL.skip_e, DL.brkS_e, DL.contS_e, DL.badS_e, DL.body_e, DL.fin_ret, DL.fin_nx, DL.app1_e, DL.app1K_e, DL.app_e, DL.appO_e, DL.appW_e, DL.appD_e, DL.asg2_e, DL.asg2K_e, DL.asg2L_e, DL.unp_e, DL.unpW_e, DL.unpD_e, DL.goOn_some, DL.goOn_none, DL.bT_e, DL.setL_cons, DL.setL_nil, DL.bN_e, DL.sto1_e, DL.sto_e, DL.stoW_e, DL.stoD_e, DL.sto2_e, DL.sto2K_e, DL.sto2W_e, DL.sto2I_e, DL.sto1K_e, DL.atK_e, DL.ali_e, DL.aliK_true, DL.aliK_false, DL.ali1_e, DL.ali1B_e, DL.ali1O_e, DL.ali1W_e, DL.ali1D_e, DL.forS_e, DL.forK_e, DL.loopB_some, DL.loopK_nx, DL.loopK_cont, DL.loopK_brk, DL.loopK_ret, DL.bin2_e, DL.binK_e, DL.binL_e, DL.un1_e, DL.unK_e, DL.tst_e, DL.tand_e, DL.tandK_true, DL.tandK_false, DL.tor_e, DL.torK_true, DL.torK_false, DL.tnot_e, DL.notK_e, DL.vand_e, DL.vandK_e, DL.vandL_true, DL.vandL_false, DL.vor_e, DL.vorK_e, DL.vorL_true, DL.vorL_false, DL.vnot_e, DL.vnotK_e, DL.vnotL_e, DL.vif_e, DL.vifK_true, DL.vifK_false, DL.anil_e, DL.acons_e, DL.aconsK_e, DL.aconsL_e, DL.call_e, DL.ccall_e, DL.ccallK1, DL.ccallK2, DL.ccallK3, DL.ccallK4, DL.sub_e, DL.subK_e, DL.subH_e, DL.cutK_e, DL.cutL_e, DL.oN_e, DL.oS_e, DL.oSK_e, DL.oI_e, DL.rev_e, DL.revK_e, DL.tup_e, DL.lst_e, DL.mkTup_e, DL.mkLst_e, DL.tupD_e, DL.lstD_e, DL.datas_e, DL.datasK_e, DL.kN_e, DL.kB_e, DL.kI_e, DL.kS_e, DL.kT_e, DL.kD0_e, DL.chainI_e, DL.chA_e, DL.chB_e, DL.chI_e, DL.chJ_e, DL.chG_true, DL.chG_false, DL.chY_e, DL.chC_e, DL.sSeq_e, DL.seqSrc_e, DL.asItems_list, DL.asItems_tuple, DL.sRng1_e, DL.rngW_e, DL.rngI_e, DL.sRng2_e, DL.rngK_e, DL.rngWW_e, DL.rngWI_e, DL.rngJ_e, DL.sZip_e, DL.zipK_e, DL.zipW_e, DL.zipA_e, DL.zipD_list, DL.zipD_tuple, DL.sEnum_e, DL.enumW_e, DL.enumV_e, DL.asList_e, DL.enumL_e, DL.ownR_e, DL.lc_e, DL.tYes_e, List.map_cons, List.map_nil, List.nil_append, List.cons_append, List.length_cons, List.length_nil, List.set_cons_zero, List.set_cons_succ, ite_self, reduceIte, noL_none, noL_bool, noL_int, noL_str, noL_list, noL_tuple, noLs_nil, noLs_cons, Bool.true_and, Bool.false_and, Bool.and_true, Bool.and_self, Bool.false_eq_true, Bool.not_true, Bool.not_false, List.replicate_succ, List.replicate_zero, DL.opEq_e, DL.flip_e, DL.opNe_e, DL.opIn_e, DL.opNotIn_e, DL.opLt_e, DL.opAdd_e, DL.opMul_e, DL.opIx_e, DL.opIsN_e, DL.opNotN_e, DL.opNeg_e, DL.opLe_e, DL.opGt_e, DL.opGe_e, DL.opSub_e, DL.vLt_int, DL.vEq_int, DL.vAdd_int, DL.vAdd_list, DL.vAdd_tuple, DL.vLen_tuple, DL.vLen_list, DL.vInt_int, DL.vTuple_list, DL.vTuple_tuple, DL.vList_list, DL.vList_tuple, DL.vRev_list, DL.vRev_tuple, DL.vCut_list, DL.vCut_tuple, DL.f1_e, DL.f2_e, DL.isNon_none, DL.isNon_int, DL.isi_int, DL.isi_bool, DL.isi_tuple, DL.isi_list, DL.isi_str, DL.isi_dict, a1, a2, cutD_to, cutD_from, cutD_mid, small_of, vMul_l2]
  (repeat rw [M.post_bind])
  refine post_use (p_pick (by simp) (by simp)) fun w hw => ?_
  obtain ⟨x, hx, rfl⟩ := hw
  have t : ∀ {k : Nat} {y : D}, y ∈ row.take k → y ∈ row := List.mem_of_mem_take
  have d : ∀ {k : Nat} {y : D}, y ∈ row.drop k → y ∈ row := List.mem_of_mem_drop
  simp only [List.mem_cons, List.not_mem_nil, or_false] at hx
  rcases hx with rfl | rfl | rfl | rfl | rfl
  · refine ⟨_, rfl, by simp only [List.length_append, List.length_take, List.length_drop, List.length_reverse]; omega, fun y hy => .inl ?_⟩
    rcases List.mem_append.mp hy with hy | hy
    · rcases List.mem_append.mp hy with hy | hy
      · exact t hy
      · exact t (List.mem_of_mem_drop (List.mem_reverse.mp hy))
    · exact d hy
  · refine ⟨_, rfl, by simp only [List.length_append, List.length_take, List.length_drop]; omega, fun y hy => .inl ?_⟩
    rcases List.mem_append.mp hy with hy | hy
    · rcases List.mem_append.mp hy with hy | hy
      · exact t hy
      · exact t (List.mem_of_mem_drop hy)
    · exact d hy
  · refine ⟨_, rfl, by simp only [List.length_append, List.length_take, List.length_drop]; omega, fun y hy => .inl ?_⟩
    rcases List.mem_append.mp hy with hy | hy
    · exact t hy
    · exact d hy
  all_goals
    refine ⟨_, rfl, by simp only [List.length_append, List.length_take, List.length_drop, List.length_cons, List.length_nil]; omega, fun y hy => ?_⟩
    rcases List.mem_append.mp hy with hy | hy
    · rcases List.mem_append.mp hy with hy | hy
      · exact .inl (t hy)
      · exact .inr (by simpa using hy)
    · exact .inl (d hy)
end Lw

namespace Lw
open PySem (PyData Addr Str)
open DL
theorem p_spoilt {ns as bs : List D} {L : Nat} (hn : 1 ≤ ns.length ∧ ns.length ≤ 8) (hL : 72 ≤ L ∧ L ≤ 500) (f1 : ∀ x ∈ ns, fnB [4, 2] x = true) (f2 : as.length ≤ L ∧ ∀ x ∈ as, fnB [4, 2] x = true) (f3 : bs.length ≤ L ∧ ∀ x ∈ bs, fnB [4, 2] x = true) :
    Pst (g__law_spoilt [.pot, .dat (.tuple [.tuple ns, .tuple as, .tuple bs])]) (fun w => ∃ d, w = .dat d ∧ fnB [10, L + 1, 4, 2] d = true) := by
  refine ⟨?_⟩
  have q1 : fnB [L + 1, 4, 2] (.tuple ns) = true := fn_tuple.mpr ⟨by omega, f1⟩
  have q2 : fnB [L + 1, 4, 2] (.tuple as) = true := fn_tuple.mpr ⟨by omega, f2.2⟩
  have q3 : fnB [L + 1, 4, 2] (.tuple bs) = true := fn_tuple.mpr ⟨by omega, f3.2⟩
  have qm : ∀ {c : D}, fnB [L + 1, 4, 2] c = true → fnB [10, L + 1, 4, 2] (.tuple [c, .tuple as, .tuple bs]) = true := fun h => fn_tuple.mpr ⟨by simp, by simp [h, q2, q3]⟩
  have dp8 : dPot [.pot, .dat (.int 8)] = .pick 8 fun r => .ok (.dat (.int r)) := dPot_e (by decide) (by decide)
  simp only [g__law_spoilt, b__law_spoilt, g__law_below, DL.sel_true, DL.sel_false, DL.sel_self, DL.okb, DL.excb, DL.badb, DL.pickb, DL.okp, DL.pickp, DL.ddat, DL.down, DL.sdat, DL.sown, DL.sraw, DL.spot, DL.gdat, DL.gown, DL.graw, DL.gpot, DL.asBb, DL.asIi, DL.kBok, DL.noxok, DL.datas0, DL.frz1_own, DL.frz1_dat, DL.frz1_raw, DL.frz1_pot, DL.frz1_none, DL.frz1_nil, DL.frz1_succ, DL.frz_nil, DL.frz_cons, DL.rdv_dat, DL.rdv_raw, DL.rdv_pot, DL.rdv_succ, DL.rtnV_zero, DL.rtnV_succ, DL.ownAt_zero, DL.ownAt_succ, DL.startE_eq, DL.seq_e, DL.seqK_nx, DL.seqK_ret, DL.seqK_brk, DL.seqK_cont, DL.asg_e, DL.asgK_e, DL.rtn_e, DL.rtnK_e, DL.rtnN_e, DL.exs_e, DL.exsK_e, DL.ifs_e, DL.ifsK_true, DL.ifsK_false, DL.skip_e, DL.brkS_e, DL.contS_e, DL.badS_e, DL.body_e, DL.fin_ret, DL.fin_nx, DL.app1_e, DL.app1K_e, DL.app_e, DL.appO_e, DL.appW_e, DL.appD_e, DL.asg2_e, DL.asg2K_e, DL.asg2L_e, DL.unp_e, DL.unpW_e, DL.unpD_e, DL.goOn_some, DL.goOn_none, DL.bT_e, DL.setL_cons, DL.setL_nil, DL.bN_e, DL.sto1_e, DL.sto_e, DL.stoW_e, DL.stoD_e, DL.sto2_e, DL.sto2K_e, DL.sto2W_e, DL.sto2I_e, DL.sto1K_e, DL.atK_e, DL.ali_e, DL.aliK_true, DL.aliK_false, DL.ali1_e, DL.ali1B_e, DL.ali1O_e, DL.ali1W_e, DL.ali1D_e, DL.forS_e, DL.forK_e, DL.loopB_some, DL.loopK_nx, DL.loopK_cont, DL.loopK_brk, DL.loopK_ret, DL.bin2_e, DL.binK_e, DL.binL_e, DL.un1_e, DL.unK_e, DL.tst_e, DL.tand_e, DL.tandK_true, DL.tandK_false, DL.tor_e, DL.torK_true, DL.torK_false, DL.tnot_e, DL.notK_e, DL.vand_e, DL.vandK_e, DL.vandL_true, DL.vandL_false, DL.vor_e, DL.vorK_e, DL.vorL_true, DL.vorL_false, DL.vnot_e, DL.vnotK_e, DL.vnotL_e, DL.vif_e, DL.vifK_true, DL.vifK_false, DL.anil_e, DL.acons_e, DL.aconsK_e, DL.aconsL_e, DL.call_e, DL.ccall_e, DL.ccallK1, DL.ccallK2, DL.ccallK3, DL.ccallK4, DL.sub_e, DL.subK_e, DL.subH_e, DL.cutK_e, DL.cutL_e, DL.oN_e, DL.oS_e, DL.oSK_e, DL.oI_e, DL.rev_e, DL.revK_e, DL.tup_e, DL.lst_e, DL.mkTup_e, DL.mkLst_e, DL.tupD_e, DL.lstD_e, DL.datas_e, DL.datasK_e, DL.kN_e, DL.kB_e, DL.kI_e, DL.kS_e, DL.kT_e, DL.kD0_e, DL.chainI_e, DL.chA_e, DL.chB_e, DL.chI_e, DL.chJ_e, DL.chG_true, DL.chG_false, DL.chY_e, DL.chC_e, DL.sSeq_e, DL.seqSrc_e, DL.asItems_list, DL.asItems_tuple, DL.sRng1_e, DL.rngW_e, DL.rngI_e, DL.sRng2_e, DL.rngK_e, DL.rngWW_e, DL.rngWI_e, DL.rngJ_e, DL.sZip_e, DL.zipK_e, DL.zipW_e, DL.zipA_e, DL.zipD_list, DL.zipD_tuple, DL.sEnum_e, DL.enumW_e, DL.enumV_e, DL.asList_e, DL.enumL_e, DL.ownR_e, DL.lc_e, DL.tYes_e, List.map_cons, List.map_nil, List.nil_append, List.cons_append, List.length_cons, List.length_nil, List.set_cons_zero, List.set_cons_succ, ite_self, reduceIte, noL_none, noL_bool, noL_int, noL_str, noL_list, noL_tuple, noLs_nil, noLs_cons, Bool.true_and, Bool.false_and, Bool.and_true, Bool.and_self, Bool.false_eq_true, Bool.not_true, Bool.not_false, List.replicate_succ, List.replicate_zero, DL.opEq_e, DL.flip_e, DL.opNe_e, DL.opIn_e, DL.opNotIn_e, DL.opLt_e, DL.opAdd_e, DL.opMul_e, DL.opIx_e, DL.opIsN_e, DL.opNotN_e, DL.opNeg_e, DL.opLe_e, DL.opGt_e, DL.opGe_e, DL.opSub_e, DL.vLt_int, DL.vEq_int, DL.vAdd_int, DL.vAdd_list, DL.vAdd_tuple, DL.vLen_tuple, DL.vLen_list, DL.vInt_int, DL.vTuple_list, DL.vTuple_tuple, DL.vList_list, DL.vList_tuple, DL.vRev_list, DL.vRev_tuple, DL.vCut_list, DL.vCut_tuple, DL.f1_e, DL.f2_e, DL.isNon_none, DL.isNon_int, DL.isi_int, DL.isi_bool, DL.isi_tuple, DL.isi_list, DL.isi_str, DL.isi_dict, dp8]
  intro ch hch
  by_cases h0 : (ch : Int) = 0
  · have e0 : decide ((ch : Int) = 0) = true := decide_eq_true h0
    have c2 : cutD [PyData.tuple ns, PyData.tuple as, PyData.tuple bs] none (some 2) = [PyData.tuple ns, PyData.tuple as] := rfl
    simp (disch := (try simp only [List.length_append, List.length_take, List.length_drop, List.length_reverse, List.length_map, List.length_cons, List.length_nil]); omega) only [DL.sel_true, DL.sel_false, DL.sel_self, DL.okb, DL.excb, DL.badb, DL.pickb, DL.okp, DL.pickp, DL.ddat, DL.down, DL.sdat, DL.sown, DL.sraw, DL.spot, DL.gdat, DL.gown, DL.graw, DL.gpot, DL.asBb, DL.asIi, DL.kBok, DL.noxok, DL.datas0, DL.frz1_own, DL.frz1_dat, DL.frz1_raw, DL.frz1_pot, DL.frz1_none, DL.frz1_nil, DL.frz1_succ, DL.frz_nil, DL.frz_cons, DL.rdv_dat, DL.rdv_raw, DL.rdv_pot, DL.rdv_succ, DL.rtnV_zero, DL.rtnV_succ, DL.ownAt_zero, DL.ownAt_succ, DL.startE_eq, DL.seq_e, DL.seqK_nx, DL.seqK_ret, DL.seqK_brk, DL.seqK_cont, DL.asg_e, DL.asgK_e, DL.rtn_e, DL.rtnK_e, DL.rtnN_e, DL.exs_e, DL.exsK_e, DL.ifs_e, DL.ifsK_true, DL.ifsK_false, DL.skip_e, DL.brkS_e, DL.contS_e, DL.badS_e, DL.body_e, DL.fin_ret, DL.fin_nx, DL.app1_e, DL.app1K_e, DL.app_e, DL.appO_e, DL.appW_e, DL.appD_e, DL.asg2_e, DL.asg2K_e, DL.asg2L_e, DL.unp_e, DL.unpW_e, DL.unpD_e, DL.goOn_some, DL.goOn_none, DL.bT_e, DL.setL_cons, DL.setL_nil, DL.bN_e, DL.sto1_e, DL.sto_e, DL.stoW_e, DL.stoD_e, DL.sto2_e, DL.sto2K_e, DL.sto2W_e, DL.sto2I_e, DL.sto1K_e, DL.atK_e, DL.ali_e, DL.aliK_true, DL.aliK_false, DL.ali1_e, DL.ali1B_e, DL.ali1O_e, DL.ali1W_e, DL.ali1D_e, DL.forS_e, DL.forK_e, DL.loopB_some, DL.loopK_nx, DL.loopK_cont, DL.loopK_brk, DL.loopK_ret, DL.bin2_e, DL.binK_e, DL.binL_e, DL.un1_e, DL.unK_e, DL.tst_e, DL.tand_e, DL.tandK_true, DL.tandK_false, DL.tor_e, DL.torK_true, DL.torK_false, DL.tnot_e, DL.notK_e, DL.vand_e, DL.vandK_e, DL.vandL_true, DL.vandL_false, DL.vor_e, DL.vorK_e, DL.vorL_true, DL.vorL_false, DL.vnot_e, DL.vnotK_e, DL.vnotL_e, DL.vif_e, DL.vifK_true, DL.vifK_false, DL.anil_e, DL.acons_e, DL.aconsK_e, DL.aconsL_e, DL.call_e, DL.ccall_e, DL.ccallK1, DL.ccallK2, DL.ccallK3, DL.ccallK4, DL.sub_e, DL.subK_e, DL.subH_e, DL.cutK_e, DL.cutL_e, DL.oN_e, DL.oS_e, DL.oSK_e, DL.oI_e, DL.rev_e, DL.revK_e, DL.tup_e, DL.lst_e, DL.mkTup_e, DL.mkLst_e, DL.tupD_e, DL.lstD_e, DL.datas_e, DL.datasK_e, DL.kN_e, DL.kB_e, DL.kI_e, DL.kS_e, DL.kT_e, DL.kD0_e, DL.chainI_e, DL.chA_e, DL.chB_e, DL.chI_e, DL.chJ_e, DL.chG_true, DL.chG_false, DL.chY_e, DL.chC_e, DL.sSeq_e, DL.seqSrc_e, DL.asItems_list, DL.asItems_tuple, DL.sRng1_e, DL.rngW_e, DL.rngI_e, DL.sRng2_e, DL.rngK_e, DL.rngWW_e, DL.rngWI_e, DL.rngJ_e, DL.sZip_e, DL.zipK_e, DL.zipW_e, DL.zipA_e, DL.zipD_list, DL.zipD_tuple, DL.sEnum_e, DL.enumW_e, DL.enumV_e, DL.asList_e, DL.enumL_e, DL.ownR_e, DL.lc_e, DL.tYes_e, List.map_cons, List.map_nil, List.nil_append, List.cons_append, List.length_cons, List.length_nil, List.set_cons_zero, List.set_cons_succ, ite_self, reduceIte, noL_none, noL_bool, noL_int, noL_str, noL_list, noL_tuple, noLs_nil, noLs_cons, Bool.true_and, Bool.false_and, Bool.and_true, Bool.and_self, Bool.false_eq_true, Bool.not_true, Bool.not_false, List.replicate_succ, List.replicate_zero, DL.opEq_e, DL.flip_e, DL.opNe_e, DL.opIn_e, DL.opNotIn_e, DL.opLt_e, DL.opAdd_e, DL.opMul_e, DL.opIx_e, DL.opIsN_e, DL.opNotN_e, DL.opNeg_e, DL.opLe_e, DL.opGt_e, DL.opGe_e, DL.opSub_e, DL.vLt_int, DL.vEq_int, DL.vAdd_int, DL.vAdd_list, DL.vAdd_tuple, DL.vLen_tuple, DL.vLen_list, DL.vInt_int, DL.vTuple_list, DL.vTuple_tuple, DL.vList_list, DL.vList_tuple, DL.vRev_list, DL.vRev_tuple, DL.vCut_list, DL.vCut_tuple, DL.f1_e, DL.f2_e, DL.isNon_none, DL.isNon_int, DL.isi_int, DL.isi_bool, DL.isi_tuple, DL.isi_list, DL.isi_str, DL.isi_dict, e0, small_of, c2]
    (repeat rw [M.post_bind])
    refine post_use (p_pick (by simp) (by simp)) fun w hw => ?_
    obtain ⟨x, hx, rfl⟩ := hw
    refine ⟨_, rfl, ?_⟩
    simp only [List.mem_cons, List.not_mem_nil, or_false] at hx
    rcases hx with rfl | rfl | rfl | rfl | rfl | rfl | rfl | rfl
    · exact fn_sc rfl
    · exact fn_tuple.mpr ⟨by simp, by simp⟩
    · exact fn_tuple.mpr ⟨by simp, by simp [q1, q2]⟩
    · exact fn_tuple.mpr ⟨by simp, by simp [q1, q2, q3]; exact fn_tuple.mpr ⟨by simp, by simp⟩⟩
    · exact fn_list.mpr ⟨by simp, by simp [q1, q2, q3]⟩
    · exact fn_tuple.mpr ⟨by simp, by simp [q1, q2, q3]⟩
    · exact fn_tuple.mpr ⟨by omega, fun x hx => fn_mono (by simp [leL]; omega) (f1 x hx)⟩
    · rfl
  · have e0 : decide ((ch : Int) = 0) = false := decide_eq_false h0
    by_cases h3 : (ch : Int) < 3
    · have e3 : decide ((ch : Int) < 3) = true := decide_eq_true h3
      simp (disch := (try simp only [List.length_append, List.length_take, List.length_drop, List.length_reverse, List.length_map, List.length_cons, List.length_nil]); omega) only [DL.sel_true, DL.sel_false, DL.sel_self, DL.okb, DL.excb, DL.badb, DL.pickb, DL.okp, DL.pickp, DL.ddat, DL.down, DL.sdat, DL.sown, DL.sraw, DL.spot, DL.gdat, DL.gown, DL.graw, DL.gpot, DL.asBb, DL.asIi, DL.kBok, DL.noxok, DL.datas0, DL.frz1_own, DL.frz1_dat, DL.frz1_raw, DL.frz1_pot, DL.frz1_none, DL.frz1_nil, DL.frz1_succ, DL.frz_nil, DL.frz_cons, DL.rdv_dat, DL.rdv_raw, DL.rdv_pot, DL.rdv_succ, DL.rtnV_zero, DL.rtnV_succ, DL.ownAt_zero, DL.ownAt_succ, DL.startE_eq, DL.seq_e, DL.seqK_nx, DL.seqK_ret, DL.seqK_brk, DL.seqK_cont, DL.asg_e, DL.asgK_e, DL.rtn_e, DL.rtnK_e, DL.rtnN_e, DL.exs_e, DL.exsK_e, DL.ifs_e, DL.ifsK_true, DL.ifsK_false, DL.skip_e, DL.brkS_e, DL.contS_e, DL.badS_e, DL.body_e, DL.fin_ret, DL.fin_nx, DL.app1_e, DL.app1K_e, DL.app_e, DL.appO_e, DL.appW_e, DL.appD_e, DL.asg2_e, DL.asg2K_e, DL.asg2L_e, DL.unp_e, DL.unpW_e, DL.unpD_e, DL.goOn_some, DL.goOn_none, DL.bT_e, DL.setL_cons, DL.setL_nil, DL.bN_e, DL.sto1_e, DL.sto_e, DL.stoW_e, DL.stoD_e, DL.sto2_e, DL.sto2K_e, DL.sto2W_e, DL.sto2I_e, DL.sto1K_e, DL.atK_e, DL.ali_e, DL.aliK_true, DL.aliK_false, DL.ali1_e, DL.ali1B_e, DL.ali1O_e, DL.ali1W_e, DL.ali1D_e, DL.forS_e, DL.forK_e, DL.loopB_some, DL.loopK_nx, DL.loopK_cont, DL.loopK_brk, DL.loopK_ret, DL.bin2_e, DL.binK_e, DL.binL_e, DL.un1_e, DL.unK_e, DL.tst_e, DL.tand_e, DL.tandK_true, DL.tandK_false, DL.tor_e, DL.torK_true, DL.torK_false, DL.tnot_e, DL.notK_e, DL.vand_e, DL.vandK_e, DL.vandL_true, DL.vandL_false, DL.vor_e, DL.vorK_e, DL.vorL_true, DL.vorL_false, DL.vnot_e, DL.vnotK_e, DL.vnotL_e, DL.vif_e, DL.vifK_true, DL.vifK_false, DL.anil_e, DL.acons_e, DL.aconsK_e, DL.aconsL_e, DL.call_e, DL.ccall_e, DL.ccallK1, DL.ccallK2, DL.ccallK3, DL.ccallK4, DL.sub_e, DL.subK_e, DL.subH_e, DL.cutK_e, DL.cutL_e, DL.oN_e, DL.oS_e, DL.oSK_e, DL.oI_e, DL.rev_e, DL.revK_e, DL.tup_e, DL.lst_e, DL.mkTup_e, DL.mkLst_e, DL.tupD_e, DL.lstD_e, DL.datas_e, DL.datasK_e, DL.kN_e, DL.kB_e, DL.kI_e, DL.kS_e, DL.kT_e, DL.kD0_e, DL.chainI_e, DL.chA_e, DL.chB_e, DL.chI_e, DL.chJ_e, DL.chG_true, DL.chG_false, DL.chY_e, DL.chC_e, DL.sSeq_e, DL.seqSrc_e, DL.asItems_list, DL.asItems_tuple, DL.sRng1_e, DL.rngW_e, DL.rngI_e, DL.sRng2_e, DL.rngK_e, DL.rngWW_e, DL.rngWI_e, DL.rngJ_e, DL.sZip_e, DL.zipK_e, DL.zipW_e, DL.zipA_e, DL.zipD_list, DL.zipD_tuple, DL.sEnum_e, DL.enumW_e, DL.enumV_e, DL.asList_e, DL.enumL_e, DL.ownR_e, DL.lc_e, DL.tYes_e, List.map_cons, List.map_nil, List.nil_append, List.cons_append, List.length_cons, List.length_nil, List.set_cons_zero, List.set_cons_succ, ite_self, reduceIte, noL_none, noL_bool, noL_int, noL_str, noL_list, noL_tuple, noLs_nil, noLs_cons, Bool.true_and, Bool.false_and, Bool.and_true, Bool.and_self, Bool.false_eq_true, Bool.not_true, Bool.not_false, List.replicate_succ, List.replicate_zero, DL.opEq_e, DL.flip_e, DL.opNe_e, DL.opIn_e, DL.opNotIn_e, DL.opLt_e, DL.opAdd_e, DL.opMul_e, DL.opIx_e, DL.opIsN_e, DL.opNotN_e, DL.opNeg_e, DL.opLe_e, DL.opGt_e, DL.opGe_e, DL.opSub_e, DL.vLt_int, DL.vEq_int, DL.vAdd_int, DL.vAdd_list, DL.vAdd_tuple, DL.vLen_tuple, DL.vLen_list, DL.vInt_int, DL.vTuple_list, DL.vTuple_tuple, DL.vList_list, DL.vList_tuple, DL.vRev_list, DL.vRev_tuple, DL.vCut_list, DL.vCut_tuple, DL.f1_e, DL.f2_e, DL.isNon_none, DL.isNon_int, DL.isi_int, DL.isi_bool, DL.isi_tuple, DL.isi_list, DL.isi_str, DL.isi_dict, e0, e3, small_of]
      (repeat rw [M.post_bind])
      refine post_use (p_pick (by simp) (by simp)) fun w hw => ?_
      obtain ⟨odd, ho, rfl⟩ := hw
      have fo : fnB [4, 2] odd = true := by
        simp only [List.mem_cons, List.not_mem_nil, or_false] at ho
        rcases ho with rfl | rfl | rfl | rfl | rfl | rfl | rfl | rfl | rfl <;> first | rfl | decide +kernel
      (repeat rw [← M.post_bind])
      simp (disch := (try simp only [List.length_append, List.length_take, List.length_drop, List.length_reverse, List.length_map, List.length_cons, List.length_nil]); omega) only [DL.sel_true, DL.sel_false, DL.sel_self, DL.okb, DL.excb, DL.badb, DL.pickb, DL.okp, DL.pickp, DL.ddat, DL.down, DL.sdat, DL.sown, DL.sraw, DL.spot, DL.gdat, DL.gown, DL.graw, DL.gpot, DL.asBb, DL.asIi, DL.kBok, DL.noxok, DL.datas0, DL.frz1_own, DL.frz1_dat, DL.frz1_raw, DL.frz1_pot, DL.frz1_none, DL.frz1_nil, DL.frz1_succ, DL.frz_nil, DL.frz_cons, DL.rdv_dat, DL.rdv_raw, DL.rdv_pot, DL.rdv_succ, DL.rtnV_zero, DL.rtnV_succ, DL.ownAt_zero, DL.ownAt_succ, DL.startE_eq, DL.seq_e, DL.seqK_nx, DL.seqK_ret, DL.seqK_brk, DL.seqK_cont, DL.asg_e, DL.asgK_e, DL.rtn_e, DL.rtnK_e, DL.rtnN_e, DL.exs_e, DL.exsK_e, DL.ifs_e, DL.ifsK_true, DL.ifsK_false, DL.skip_e, DL.brkS_e, DL.contS_e, DL.badS_e, DL.body_e, DL.fin_ret, DL.fin_nx, DL.app1_e, DL.app1K_e, DL.app_e, DL.appO_e, DL.appW_e, DL.appD_e, DL.asg2_e, DL.asg2K_e, DL.asg2L_e, DL.unp_e, DL.unpW_e, DL.unpD_e, DL.goOn_some, DL.goOn_none, DL.bT_e, DL.setL_cons, DL.setL_nil, DL.bN_e, DL.sto1_e, DL.sto_e, DL.stoW_e, DL.stoD_e, DL.sto2_e, DL.sto2K_e, DL.sto2W_e, DL.sto2I_e, DL.sto1K_e, DL.atK_e, DL.ali_e, DL.aliK_true, DL.aliK_false, DL.ali1_e, DL.ali1B_e, DL.ali1O_e, DL.ali1W_e, DL.ali1D_e, DL.forS_e, DL.forK_e, DL.loopB_some, DL.loopK_nx, DL.loopK_cont, DL.loopK_brk, DL.loopK_ret, DL.bin2_e, DL.binK_e, DL.binL_e, DL.un1_e, DL.unK_e, DL.tst_e, DL.tand_e, DL.tandK_true, DL.tandK_false, DL.tor_e, DL.torK_true, DL.torK_false, DL.tnot_e, DL.notK_e, DL.vand_e, DL.vandK_e, DL.vandL_true, DL.vandL_false, DL.vor_e, DL.vorK_e, DL.vorL_true, DL.vorL_false, DL.vnot_e, DL.vnotK_e, DL.vnotL_e, DL.vif_e, DL.vifK_true, DL.vifK_false, DL.anil_e, DL.acons_e, DL.aconsK_e, DL.aconsL_e, DL.call_e, DL.ccall_e, DL.ccallK1, DL.ccallK2, DL.ccallK3, DL.ccallK4, DL.sub_e, DL.subK_e, DL.subH_e, DL.cutK_e, DL.cutL_e, DL.oN_e, DL.oS_e, DL.oSK_e, DL.oI_e, DL.rev_e, DL.revK_e, DL.tup_e, DL.lst_e, DL.mkTup_e, DL.mkLst_e, DL.tupD_e, DL.lstD_e, DL.datas_e, DL.datasK_e, DL.kN_e, DL.kB_e, DL.kI_e, DL.kS_e, DL.kT_e, DL.kD0_e, DL.chainI_e, DL.chA_e, DL.chB_e, DL.chI_e, DL.chJ_e, DL.chG_true, DL.chG_false, DL.chY_e, DL.chC_e, DL.sSeq_e, DL.seqSrc_e, DL.asItems_list, DL.asItems_tuple, DL.sRng1_e, DL.rngW_e, DL.rngI_e, DL.sRng2_e, DL.rngK_e, DL.rngWW_e, DL.rngWI_e, DL.rngJ_e, DL.sZip_e, DL.zipK_e, DL.zipW_e, DL.zipA_e, DL.zipD_list, DL.zipD_tuple, DL.sEnum_e, DL.enumW_e, DL.enumV_e, DL.asList_e, DL.enumL_e, DL.ownR_e, DL.lc_e, DL.tYes_e, List.map_cons, List.map_nil, List.nil_append, List.cons_append, List.length_cons, List.length_nil, List.set_cons_zero, List.set_cons_succ, ite_self, reduceIte, noL_none, noL_bool, noL_int, noL_str, noL_list, noL_tuple, noLs_nil, noLs_cons, Bool.true_and, Bool.false_and, Bool.and_true, Bool.and_self, Bool.false_eq_true, Bool.not_true, Bool.not_false, List.replicate_succ, List.replicate_zero, DL.opEq_e, DL.flip_e, DL.opNe_e, DL.opIn_e, DL.opNotIn_e, DL.opLt_e, DL.opAdd_e, DL.opMul_e, DL.opIx_e, DL.opIsN_e, DL.opNotN_e, DL.opNeg_e, DL.opLe_e, DL.opGt_e, DL.opGe_e, DL.opSub_e, DL.vLt_int, DL.vEq_int, DL.vAdd_int, DL.vAdd_list, DL.vAdd_tuple, DL.vLen_tuple, DL.vLen_list, DL.vInt_int, DL.vTuple_list, DL.vTuple_tuple, DL.vList_list, DL.vList_tuple, DL.vRev_list, DL.vRev_tuple, DL.vCut_list, DL.vCut_tuple, DL.f1_e, DL.f2_e, DL.isNon_none, DL.isNon_int, DL.isi_int, DL.isi_bool, DL.isi_tuple, DL.isi_list, DL.isi_str, DL.isi_dict, small_of]
      (repeat rw [M.post_bind])
      refine post_use (p_muddled (by omega)) fun w hw => ?_
      obtain ⟨r, rfl, hr1, hr2⟩ := hw
      (repeat rw [← M.post_bind])
      have m9 : vMul (.tuple ns) (.int 9) = .ok (.dat (.tuple (List.replicate 9 ns).flatten)) := if_pos ⟨by decide, by decide, by omega⟩
      simp (disch := (try simp only [List.length_append, List.length_take, List.length_drop, List.length_reverse, List.length_map, List.length_cons, List.length_nil]); omega) only [DL.sel_true, DL.sel_false, DL.sel_self, DL.okb, DL.excb, DL.badb, DL.pickb, DL.okp, DL.pickp, DL.ddat, DL.down, DL.sdat, DL.sown, DL.sraw, DL.spot, DL.gdat, DL.gown, DL.graw, DL.gpot, DL.asBb, DL.asIi, DL.kBok, DL.noxok, DL.datas0, DL.frz1_own, DL.frz1_dat, DL.frz1_raw, DL.frz1_pot, DL.frz1_none, DL.frz1_nil, DL.frz1_succ, DL.frz_nil, DL.frz_cons, DL.rdv_dat, DL.rdv_raw, DL.rdv_pot, DL.rdv_succ, DL.rtnV_zero, DL.rtnV_succ, DL.ownAt_zero, DL.ownAt_succ, DL.startE_eq, DL.seq_e, DL.seqK_nx, DL.seqK_ret, DL.seqK_brk, DL.seqK_cont, DL.asg_e, DL.asgK_e, DL.rtn_e, DL.rtnK_e, DL.rtnN_e, DL.exs_e, DL.exsK_e, DL.ifs_e, DL.ifsK_true, DL.ifsK_false, DL.skip_e, DL.brkS_e, DL.contS_e, DL.badS_e, DL.body_e, DL.fin_ret, DL.fin_nx, DL.app1_e, DL.app1K_e, DL.app_e, DL.appO_e, DL.appW_e, DL.appD_e, DL.asg2_e, DL.asg2K_e, DL.asg2L_e, DL.unp_e, DL.unpW_e, DL.unpD_e, DL.goOn_some, DL.goOn_none, DL.bT_e, DL.setL_cons, DL.setL_nil, DL.bN_e, DL.sto1_e, DL.sto_e, DL.stoW_e, DL.stoD_e, DL.sto2_e, DL.sto2K_e, DL.sto2W_e, DL.sto2I_e, DL.sto1K_e, DL.atK_e, DL.ali_e, DL.aliK_true, DL.aliK_false, DL.ali1_e, DL.ali1B_e, DL.ali1O_e, DL.ali1W_e, DL.ali1D_e, DL.forS_e, DL.forK_e, DL.loopB_some, DL.loopK_nx, DL.loopK_cont, DL.loopK_brk, DL.loopK_ret, DL.bin2_e, DL.binK_e, DL.binL_e, DL.un1_e, DL.unK_e, DL.tst_e, DL.tand_e, DL.tandK_true, DL.tandK_false, DL.tor_e, DL.torK_true, DL.torK_false, DL.tnot_e, DL.notK_e, DL.vand_e, DL.vandK_e, DL.vandL_true, DL.vandL_false, DL.vor_e, DL.vorK_e, DL.vorL_true, DL.vorL_false, DL.vnot_e, DL.vnotK_e, DL.vnotL_e, DL.vif_e, DL.vifK_true, DL.vifK_false, DL.anil_e, DL.acons_e, DL.aconsK_e, DL.aconsL_e, DL.call_e, DL.ccall_e, DL.ccallK1, DL.ccallK2, DL.ccallK3, DL.ccallK4, DL.sub_e, DL.subK_e, DL.subH_e, DL.cutK_e, DL.cutL_e, DL.oN_e, DL.oS_e, DL.oSK_e, DL.oI_e, DL.rev_e, DL.revK_e, DL.tup_e, DL.lst_e, DL.mkTup_e, DL.mkLst_e, DL.tupD_e, DL.lstD_e, DL.datas_e, DL.datasK_e, DL.kN_e, DL.kB_e, DL.kI_e, DL.kS_e, DL.kT_e, DL.kD0_e, DL.chainI_e, DL.chA_e, DL.chB_e, DL.chI_e, DL.chJ_e, DL.chG_true, DL.chG_false, DL.chY_e, DL.chC_e, DL.sSeq_e, DL.seqSrc_e, DL.asItems_list, DL.asItems_tuple, DL.sRng1_e, DL.rngW_e, DL.rngI_e, DL.sRng2_e, DL.rngK_e, DL.rngWW_e, DL.rngWI_e, DL.rngJ_e, DL.sZip_e, DL.zipK_e, DL.zipW_e, DL.zipA_e, DL.zipD_list, DL.zipD_tuple, DL.sEnum_e, DL.enumW_e, DL.enumV_e, DL.asList_e, DL.enumL_e, DL.ownR_e, DL.lc_e, DL.tYes_e, List.map_cons, List.map_nil, List.nil_append, List.cons_append, List.length_cons, List.length_nil, List.set_cons_zero, List.set_cons_succ, ite_self, reduceIte, noL_none, noL_bool, noL_int, noL_str, noL_list, noL_tuple, noLs_nil, noLs_cons, Bool.true_and, Bool.false_and, Bool.and_true, Bool.and_self, Bool.false_eq_true, Bool.not_true, Bool.not_false, List.replicate_succ, List.replicate_zero, DL.opEq_e, DL.flip_e, DL.opNe_e, DL.opIn_e, DL.opNotIn_e, DL.opLt_e, DL.opAdd_e, DL.opMul_e, DL.opIx_e, DL.opIsN_e, DL.opNotN_e, DL.opNeg_e, DL.opLe_e, DL.opGt_e, DL.opGe_e, DL.opSub_e, DL.vLt_int, DL.vEq_int, DL.vAdd_int, DL.vAdd_list, DL.vAdd_tuple, DL.vLen_tuple, DL.vLen_list, DL.vInt_int, DL.vTuple_list, DL.vTuple_tuple, DL.vList_list, DL.vList_tuple, DL.vRev_list, DL.vRev_tuple, DL.vCut_list, DL.vCut_tuple, DL.f1_e, DL.f2_e, DL.isNon_none, DL.isNon_int, DL.isi_int, DL.isi_bool, DL.isi_tuple, DL.isi_list, DL.isi_str, DL.isi_dict, small_of, m9]
      (repeat rw [M.post_bind])
      refine post_use (p_pick (by simp) (by simp)) fun w hw => ?_
      obtain ⟨x, hx, rfl⟩ := hw
      (repeat rw [← M.post_bind])
      simp (disch := (try simp only [List.length_append, List.length_take, List.length_drop, List.length_reverse, List.length_map, List.length_cons, List.length_nil]); omega) only [DL.sel_true, DL.sel_false, DL.sel_self, DL.okb, DL.excb, DL.badb, DL.pickb, DL.okp, DL.pickp, DL.ddat, DL.down, DL.sdat, DL.sown, DL.sraw, DL.spot, DL.gdat, DL.gown, DL.graw, DL.gpot, DL.asBb, DL.asIi, DL.kBok, DL.noxok, DL.datas0, DL.frz1_own, DL.frz1_dat, DL.frz1_raw, DL.frz1_pot, DL.frz1_none, DL.frz1_nil, DL.frz1_succ, DL.frz_nil, DL.frz_cons, DL.rdv_dat, DL.rdv_raw, DL.rdv_pot, DL.rdv_succ, DL.rtnV_zero, DL.rtnV_succ, DL.ownAt_zero, DL.ownAt_succ, DL.startE_eq, DL.seq_e, DL.seqK_nx, DL.seqK_ret, DL.seqK_brk, DL.seqK_cont, DL.asg_e, DL.asgK_e, DL.rtn_e, DL.rtnK_e, DL.rtnN_e, DL.exs_e, DL.exsK_e, DL.ifs_e, DL.ifsK_true, DL.ifsK_false, DL.skip_e, DL.brkS_e, DL.contS_e, DL.badS_e, DL.body_e, DL.fin_ret, DL.fin_nx, DL.app1_e, DL.app1K_e, DL.app_e, DL.appO_e, DL.appW_e, DL.appD_e, DL.asg2_e, DL.asg2K_e, DL.asg2L_e, DL.unp_e, DL.unpW_e, DL.unpD_e, DL.goOn_some, DL.goOn_none, DL.bT_e, DL.setL_cons, DL.setL_nil, DL.bN_e, DL.sto1_e, DL.sto_e, DL.stoW_e, DL.stoD_e, DL.sto2_e, DL.sto2K_e, DL.sto2W_e, DL.sto2I_e, DL.sto1K_e, DL.atK_e, DL.ali_e, DL.aliK_true, DL.aliK_false, DL.ali1_e, DL.ali1B_e, DL.ali1O_e, DL.ali1W_e, DL.ali1D_e, DL.forS_e, DL.forK_e, DL.loopB_some, DL.loopK_nx, DL.loopK_cont, DL.loopK_brk, DL.loopK_ret, DL.bin2_e, DL.binK_e, DL.binL_e, DL.un1_e, DL.unK_e, DL.tst_e, DL.tand_e, DL.tandK_true, DL.tandK_false, DL.tor_e, DL.torK_true, DL.torK_false, DL.tnot_e, DL.notK_e, DL.vand_e, DL.vandK_e, DL.vandL_true, DL.vandL_false, DL.vor_e, DL.vorK_e, DL.vorL_true, DL.vorL_false, DL.vnot_e, DL.vnotK_e, DL.vnotL_e, DL.vif_e, DL.vifK_true, DL.vifK_false, DL.anil_e, DL.acons_e, DL.aconsK_e, DL.aconsL_e, DL.call_e, DL.ccall_e, DL.ccallK1, DL.ccallK2, DL.ccallK3, DL.ccallK4, DL.sub_e, DL.subK_e, DL.subH_e, DL.cutK_e, DL.cutL_e, DL.oN_e, DL.oS_e, DL.oSK_e, DL.oI_e, DL.rev_e, DL.revK_e, DL.tup_e, DL.lst_e, DL.mkTup_e, DL.mkLst_e, DL.tupD_e, DL.lstD_e, DL.datas_e, DL.datasK_e, DL.kN_e, DL.kB_e, DL.kI_e, DL.kS_e, DL.kT_e, DL.kD0_e, DL.chainI_e, DL.chA_e, DL.chB_e, DL.chI_e, DL.chJ_e, DL.chG_true, DL.chG_false, DL.chY_e, DL.chC_e, DL.sSeq_e, DL.seqSrc_e, DL.asItems_list, DL.asItems_tuple, DL.sRng1_e, DL.rngW_e, DL.rngI_e, DL.sRng2_e, DL.rngK_e, DL.rngWW_e, DL.rngWI_e, DL.rngJ_e, DL.sZip_e, DL.zipK_e, DL.zipW_e, DL.zipA_e, DL.zipD_list, DL.zipD_tuple, DL.sEnum_e, DL.enumW_e, DL.enumV_e, DL.asList_e, DL.enumL_e, DL.ownR_e, DL.lc_e, DL.tYes_e, List.map_cons, List.map_nil, List.nil_append, List.cons_append, List.length_cons, List.length_nil, List.set_cons_zero, List.set_cons_succ, ite_self, reduceIte, noL_none, noL_bool, noL_int, noL_str, noL_list, noL_tuple, noLs_nil, noLs_cons, Bool.true_and, Bool.false_and, Bool.and_true, Bool.and_self, Bool.false_eq_true, Bool.not_true, Bool.not_false, List.replicate_succ, List.replicate_zero, DL.opEq_e, DL.flip_e, DL.opNe_e, DL.opIn_e, DL.opNotIn_e, DL.opLt_e, DL.opAdd_e, DL.opMul_e, DL.opIx_e, DL.opIsN_e, DL.opNotN_e, DL.opNeg_e, DL.opLe_e, DL.opGt_e, DL.opGe_e, DL.opSub_e, DL.vLt_int, DL.vEq_int, DL.vAdd_int, DL.vAdd_list, DL.vAdd_tuple, DL.vLen_tuple, DL.vLen_list, DL.vInt_int, DL.vTuple_list, DL.vTuple_tuple, DL.vList_list, DL.vList_tuple, DL.vRev_list, DL.vRev_tuple, DL.vCut_list, DL.vCut_tuple, DL.f1_e, DL.f2_e, DL.isNon_none, DL.isNon_int, DL.isi_int, DL.isi_bool, DL.isi_tuple, DL.isi_list, DL.isi_str, DL.isi_dict, small_of]
      refine ⟨_, rfl, qm ?_⟩
      simp only [List.mem_cons, List.not_mem_nil, or_false] at hx
      rcases hx with rfl | rfl | rfl | rfl | rfl
      · refine fn_tuple.mpr ⟨by omega, fun x hx => ?_⟩
        rcases hr2 x hx with hx | rfl
        · exact f1 x hx
        · exact fo
      · exact fn_list.mpr ⟨by omega, f1⟩
      · exact fn_tuple.mpr ⟨by simp, by simp⟩
      · refine fn_tuple.mpr ⟨by simp; omega, fun x hx => ?_⟩
        obtain ⟨l, hl, hx⟩ := List.mem_flatten.mp hx
        have hl2 : l = ns := by simpa using hl
        rw [hl2] at hx
        exact f1 x hx
      · exact fn_mono (by simp [leL]; omega) fo
    · have e3 : decide ((ch : Int) < 3) = false := decide_eq_false h3
      have dpn : dPot [.pot, .dat (.int ns.length)] = .pick ns.length fun r => .ok (.dat (.int r)) := by rw [dPot_e (by omega) (by omega)]; rfl
      have dpn1 : dPot [.pot, .dat (.int ((ns.length : Int) + 1))] = .pick (ns.length + 1) fun r => .ok (.dat (.int r)) := by rw [dPot_e (by omega) (by omega)]; rfl
      simp (disch := (try simp only [List.length_append, List.length_take, List.length_drop, List.length_reverse, List.length_map, List.length_cons, List.length_nil]); omega) only [DL.sel_true, DL.sel_false, DL.sel_self, DL.okb, DL.excb, DL.badb, DL.pickb, DL.okp, DL.pickp, DL.ddat, DL.down, DL.sdat, DL.sown, DL.sraw, DL.spot, DL.gdat, DL.gown, DL.graw, DL.gpot, DL.asBb, DL.asIi, DL.kBok, DL.noxok, DL.datas0, DL.frz1_own, DL.frz1_dat, DL.frz1_raw, DL.frz1_pot, DL.frz1_none, DL.frz1_nil, DL.frz1_succ, DL.frz_nil, DL.frz_cons, DL.rdv_dat, DL.rdv_raw, DL.rdv_pot, DL.rdv_succ, DL.rtnV_zero, DL.rtnV_succ, DL.ownAt_zero, DL.ownAt_succ, DL.startE_eq, DL.seq_e, DL.seqK_nx, DL.seqK_ret, DL.seqK_brk, DL.seqK_cont, DL.asg_e, DL.asgK_e, DL.rtn_e, DL.rtnK_e, DL.rtnN_e, DL.exs_e, DL.exsK_e, DL.ifs_e, DL.ifsK_true, DL.ifsK_false, DL.skip_e, DL.brkS_e, DL.contS_e, DL.badS_e, DL.body_e, DL.fin_ret, DL.fin_nx, DL.app1_e, DL.app1K_e, DL.app_e, DL.appO_e, DL.appW_e, DL.appD_e, DL.asg2_e, DL.asg2K_e, DL.asg2L_e, DL.unp_e, DL.unpW_e, DL.unpD_e, DL.goOn_some, DL.goOn_none, DL.bT_e, DL.setL_cons, DL.setL_nil, DL.bN_e, DL.sto1_e, DL.sto_e, DL.stoW_e, DL.stoD_e, DL.sto2_e, DL.sto2K_e, DL.sto2W_e, DL.sto2I_e, DL.sto1K_e, DL.atK_e, DL.ali_e, DL.aliK_true, DL.aliK_false, DL.ali1_e, DL.ali1B_e, DL.ali1O_e, DL.ali1W_e, DL.ali1D_e, DL.forS_e, DL.forK_e, DL.loopB_some, DL.loopK_nx, DL.loopK_cont, DL.loopK_brk, DL.loopK_ret, DL.bin2_e, DL.binK_e, DL.binL_e, DL.un1_e, DL.unK_e, DL.tst_e, DL.tand_e, DL.tandK_true, DL.tandK_false, DL.tor_e, DL.torK_true, DL.torK_false, DL.tnot_e, DL.notK_e, DL.vand_e, DL.vandK_e, DL.vandL_true, DL.vandL_false, DL.vor_e, DL.vorK_e, DL.vorL_true, DL.vorL_false, DL.vnot_e, DL.vnotK_e, DL.vnotL_e, DL.vif_e, DL.vifK_true, DL.vifK_false, DL.anil_e, DL.acons_e, DL.aconsK_e, DL.aconsL_e, DL.call_e, DL.ccall_e, DL.ccallK1, DL.ccallK2, DL.ccallK3, DL.ccallK4, DL.sub_e, DL.subK_e, DL.subH_e, DL.cutK_e, DL.cutL_e, DL.oN_e, DL.oS_e, DL.oSK_e, DL.oI_e, DL.rev_e, DL.revK_e, DL.tup_e, DL.lst_e, DL.mkTup_e, DL.mkLst_e, DL.tupD_e, DL.lstD_e, DL.datas_e, DL.datasK_e, DL.kN_e, DL.kB_e, DL.kI_e, DL.kS_e, DL.kT_e, DL.kD0_e, DL.chainI_e, DL.chA_e, DL.chB_e, DL.chI_e, DL.chJ_e, DL.chG_true, DL.chG_false, DL.chY_e, DL.chC_e, DL.sSeq_e, DL.seqSrc_e, DL.asItems_list, DL.asItems_tuple, DL.sRng1_e, DL.rngW_e, DL.rngI_e, DL.sRng2_e, DL.rngK_e, DL.rngWW_e, DL.rngWI_e, DL.rngJ_e, DL.sZip_e, DL.zipK_e, DL.zipW_e, DL.zipA_e, DL.zipD_list, DL.zipD_tuple, DL.sEnum_e, DL.enumW_e, DL.enumV_e, DL.asList_e, DL.enumL_e, DL.ownR_e, DL.lc_e, DL.tYes_e, List.map_cons, List.map_nil, List.nil_append, List.cons_append, List.length_cons, List.length_nil, List.set_cons_zero, List.set_cons_succ, ite_self, reduceIte, noL_none, noL_bool, noL_int, noL_str, noL_list, noL_tuple, noLs_nil, noLs_cons, Bool.true_and, Bool.false_and, Bool.and_true, Bool.and_self, Bool.false_eq_true, Bool.not_true, Bool.not_false, List.replicate_succ, List.replicate_zero, DL.opEq_e, DL.flip_e, DL.opNe_e, DL.opIn_e, DL.opNotIn_e, DL.opLt_e, DL.opAdd_e, DL.opMul_e, DL.opIx_e, DL.opIsN_e, DL.opNotN_e, DL.opNeg_e, DL.opLe_e, DL.opGt_e, DL.opGe_e, DL.opSub_e, DL.vLt_int, DL.vEq_int, DL.vAdd_int, DL.vAdd_list, DL.vAdd_tuple, DL.vLen_tuple, DL.vLen_list, DL.vInt_int, DL.vTuple_list, DL.vTuple_tuple, DL.vList_list, DL.vList_tuple, DL.vRev_list, DL.vRev_tuple, DL.vCut_list, DL.vCut_tuple, DL.f1_e, DL.f2_e, DL.isNon_none, DL.isNon_int, DL.isi_int, DL.isi_bool, DL.isi_tuple, DL.isi_list, DL.isi_str, DL.isi_dict, e0, e3, small_of, dpn, dpn1]
      intro i hi j hj
      have c1 : cutD [PyData.int (i : Int), PyData.int (j : Int)] none (some 1) = [PyData.int (i : Int)] := rfl
      simp (disch := (try simp only [List.length_append, List.length_take, List.length_drop, List.length_reverse, List.length_map, List.length_cons, List.length_nil]); omega) only [DL.sel_true, DL.sel_false, DL.sel_self, DL.okb, DL.excb, DL.badb, DL.pickb, DL.okp, DL.pickp, DL.ddat, DL.down, DL.sdat, DL.sown, DL.sraw, DL.spot, DL.gdat, DL.gown, DL.graw, DL.gpot, DL.asBb, DL.asIi, DL.kBok, DL.noxok, DL.datas0, DL.frz1_own, DL.frz1_dat, DL.frz1_raw, DL.frz1_pot, DL.frz1_none, DL.frz1_nil, DL.frz1_succ, DL.frz_nil, DL.frz_cons, DL.rdv_dat, DL.rdv_raw, DL.rdv_pot, DL.rdv_succ, DL.rtnV_zero, DL.rtnV_succ, DL.ownAt_zero, DL.ownAt_succ, DL.startE_eq, DL.seq_e, DL.seqK_nx, DL.seqK_ret, DL.seqK_brk, DL.seqK_cont, DL.asg_e, DL.asgK_e, DL.rtn_e, DL.rtnK_e, DL.rtnN_e, DL.exs_e, DL.exsK_e, DL.ifs_e, DL.ifsK_true, DL.ifsK_false, DL.skip_e, DL.brkS_e, DL.contS_e, DL.badS_e, DL.body_e, DL.fin_ret, DL.fin_nx, DL.app1_e, DL.app1K_e, DL.app_e, DL.appO_e, DL.appW_e, DL.appD_e, DL.asg2_e, DL.asg2K_e, DL.asg2L_e, DL.unp_e, DL.unpW_e, DL.unpD_e, DL.goOn_some, DL.goOn_none, DL.bT_e, DL.setL_cons, DL.setL_nil, DL.bN_e, DL.sto1_e, DL.sto_e, DL.stoW_e, DL.stoD_e, DL.sto2_e, DL.sto2K_e, DL.sto2W_e, DL.sto2I_e, DL.sto1K_e, DL.atK_e, DL.ali_e, DL.aliK_true, DL.aliK_false, DL.ali1_e, DL.ali1B_e, DL.ali1O_e, DL.ali1W_e, DL.ali1D_e, DL.forS_e, DL.forK_e, DL.loopB_some, DL.loopK_nx, DL.loopK_cont, DL.loopK_brk, DL.loopK_ret, DL.bin2_e, DL.binK_e, DL.binL_e, DL.un1_e, DL.unK_e, DL.tst_e, DL.tand_e, DL.tandK_true, DL.tandK_false, DL.tor_e, DL.torK_true, DL.torK_false, DL.tnot_e, DL.notK_e, DL.vand_e, DL.vandK_e, DL.vandL_true, DL.vandL_false, DL.vor_e, DL.vorK_e, DL.vorL_true, DL.vorL_false, DL.vnot_e, DL.vnotK_e, DL.vnotL_e, DL.vif_e, DL.vifK_true, DL.vifK_false, DL.anil_e, DL.acons_e, DL.aconsK_e, DL.aconsL_e, DL.call_e, DL.ccall_e, DL.ccallK1, DL.ccallK2, DL.ccallK3, DL.ccallK4, DL.sub_e, DL.subK_e, DL.subH_e, DL.cutK_e, DL.cutL_e, DL.oN_e, DL.oS_e, DL.oSK_e, DL.oI_e, DL.rev_e, DL.revK_e, DL.tup_e, DL.lst_e, DL.mkTup_e, DL.mkLst_e, DL.tupD_e, DL.lstD_e, DL.datas_e, DL.datasK_e, DL.kN_e, DL.kB_e, DL.kI_e, DL.kS_e, DL.kT_e, DL.kD0_e, DL.chainI_e, DL.chA_e, DL.chB_e, DL.chI_e, DL.chJ_e, DL.chG_true, DL.chG_false, DL.chY_e, DL.chC_e, DL.sSeq_e, DL.seqSrc_e, DL.asItems_list, DL.asItems_tuple, DL.sRng1_e, DL.rngW_e, DL.rngI_e, DL.sRng2_e, DL.rngK_e, DL.rngWW_e, DL.rngWI_e, DL.rngJ_e, DL.sZip_e, DL.zipK_e, DL.zipW_e, DL.zipA_e, DL.zipD_list, DL.zipD_tuple, DL.sEnum_e, DL.enumW_e, DL.enumV_e, DL.asList_e, DL.enumL_e, DL.ownR_e, DL.lc_e, DL.tYes_e, List.map_cons, List.map_nil, List.nil_append, List.cons_append, List.length_cons, List.length_nil, List.set_cons_zero, List.set_cons_succ, ite_self, reduceIte, noL_none, noL_bool, noL_int, noL_str, noL_list, noL_tuple, noLs_nil, noLs_cons, Bool.true_and, Bool.false_and, Bool.and_true, Bool.and_self, Bool.false_eq_true, Bool.not_true, Bool.not_false, List.replicate_succ, List.replicate_zero, DL.opEq_e, DL.flip_e, DL.opNe_e, DL.opIn_e, DL.opNotIn_e, DL.opLt_e, DL.opAdd_e, DL.opMul_e, DL.opIx_e, DL.opIsN_e, DL.opNotN_e, DL.opNeg_e, DL.opLe_e, DL.opGt_e, DL.opGe_e, DL.opSub_e, DL.vLt_int, DL.vEq_int, DL.vAdd_int, DL.vAdd_list, DL.vAdd_tuple, DL.vLen_tuple, DL.vLen_list, DL.vInt_int, DL.vTuple_list, DL.vTuple_tuple, DL.vList_list, DL.vList_tuple, DL.vRev_list, DL.vRev_tuple, DL.vCut_list, DL.vCut_tuple, DL.f1_e, DL.f2_e, DL.isNon_none, DL.isNon_int, DL.isi_int, DL.isi_bool, DL.isi_tuple, DL.isi_list, DL.isi_str, DL.isi_dict, small_of, c1]
      (repeat rw [M.post_bind])
      refine post_use (p_pick (by simp) (by simp)) fun w hw => ?_
      obtain ⟨odd, ho, rfl⟩ := hw
      have si : ∀ {k : Nat}, k ≤ 8 → sc (.int (k : Int)) = true := fun {k} h => by
        unfold sc
        rw [decide_eq_true_eq, Int.natAbs_natCast]
        omega
      have fo : fnB [4, 2] odd = true := by
        have fi := fun ns => fn_sc (ns := ns) (si (k := i) (by omega))
        have fj := fun ns => fn_sc (ns := ns) (si (k := j) (by omega))
        simp only [List.mem_append, List.mem_cons, List.not_mem_nil, or_false, List.reverse_cons, List.reverse_nil, List.nil_append, List.cons_append] at ho
        rcases ho with rfl | rfl | rfl | rfl | rfl | rfl | rfl | rfl | rfl | rfl | rfl | rfl | rfl | rfl
        · exact fn_tuple.mpr ⟨by simp, by simp [fi, fj]⟩
        · exact fn_tuple.mpr ⟨by simp, by simp [fi, fj]⟩
        · exact fn_tuple.mpr ⟨by simp, by simp [fi, fj]⟩
        · exact fn_list.mpr ⟨by simp, by simp [fi, fj]⟩
        · exact fn_tuple.mpr ⟨by simp, by simp [fi, fj]; rfl⟩
        · exact fn_tuple.mpr ⟨by simp, by simp [fi, fj]⟩
        all_goals first | rfl | decide +kernel
      (repeat rw [← M.post_bind])
      have fin1 : ∀ {row : List D} {k : D → D}, row.length ≤ L → (∀ x ∈ row, fnB [4, 2] x = true) → (∀ {c : D}, fnB [L + 1, 4, 2] c = true → fnB [10, L + 1, 4, 2] (k c) = true) → ∀ {r : List D}, r.length ≤ row.length + 1 → (∀ x ∈ r, x ∈ row ∨ x = odd) → ∀ {x : D}, x ∈ [PyData.tuple r, .tuple r, .tuple r, .list r, odd] → fnB [10, L + 1, 4, 2] (k x) = true := fun {row k} h1 h2 h3 {r} h4 h5 {x} h6 => by
        have ar : ∀ y ∈ r, fnB [4, 2] y = true := fun y hy => by
          rcases h5 y hy with hy | rfl
          · exact h2 y hy
          · exact fo
        refine h3 ?_
        simp only [List.mem_cons, List.not_mem_nil, or_false] at h6
        rcases h6 with rfl | rfl | rfl | rfl | rfl
        · exact fn_tuple.mpr ⟨by omega, ar⟩
        · exact fn_tuple.mpr ⟨by omega, ar⟩
        · exact fn_tuple.mpr ⟨by omega, ar⟩
        · exact fn_list.mpr ⟨by omega, ar⟩
        · exact fn_mono (by simp [leL]; omega) fo
      by_cases h6 : (ch : Int) < 6
      · have e6 : decide ((ch : Int) < 6) = true := decide_eq_true h6
        simp (disch := (try simp only [List.length_append, List.length_take, List.length_drop, List.length_reverse, List.length_map, List.length_cons, List.length_nil]); omega) only [DL.sel_true, DL.sel_false, DL.sel_self, DL.okb, DL.excb, DL.badb, DL.pickb, DL.okp, DL.pickp, DL.ddat, DL.down, DL.sdat, DL.sown, DL.sraw, DL.spot, DL.gdat, DL.gown, DL.graw, DL.gpot, DL.asBb, DL.asIi, DL.kBok, DL.noxok, DL.datas0, DL.frz1_own, DL.frz1_dat, DL.frz1_raw, DL.frz1_pot, DL.frz1_none, DL.frz1_nil, DL.frz1_succ, DL.frz_nil, DL.frz_cons, DL.rdv_dat, DL.rdv_raw, DL.rdv_pot, DL.rdv_succ, DL.rtnV_zero, DL.rtnV_succ, DL.ownAt_zero, DL.ownAt_succ, DL.startE_eq, DL.seq_e, DL.seqK_nx, DL.seqK_ret, DL.seqK_brk, DL.seqK_cont, DL.asg_e, DL.asgK_e, DL.rtn_e, DL.rtnK_e, DL.rtnN_e, DL.exs_e, DL.exsK_e, DL.ifs_e, DL.ifsK_true, DL.ifsK_false, DL.skip_e, DL.brkS_e, DL.contS_e, DL.badS_e, DL.body_e, DL.fin_ret, DL.fin_nx, DL.app1_e, DL.app1K_e, DL.app_e, DL.appO_e, DL.appW_e, DL.appD_e, DL.asg2_e, DL.asg2K_e, DL.asg2L_e, DL.unp_e, DL.unpW_e, DL.unpD_e, DL.goOn_some, DL.goOn_none, DL.bT_e, DL.setL_cons, DL.setL_nil, DL.bN_e, DL.sto1_e, DL.sto_e, DL.stoW_e, DL.stoD_e, DL.sto2_e, DL.sto2K_e, DL.sto2W_e, DL.sto2I_e, DL.sto1K_e, DL.atK_e, DL.ali_e, DL.aliK_true, DL.aliK_false, DL.ali1_e, DL.ali1B_e, DL.ali1O_e, DL.ali1W_e, DL.ali1D_e, DL.forS_e, DL.forK_e, DL.loopB_some, DL.loopK_nx, DL.loopK_cont, DL.loopK_brk, DL.loopK_ret, DL.bin2_e, DL.binK_e, DL.binL_e, DL.un1_e, DL.unK_e, DL.tst_e, DL.tand_e, DL.tandK_true, DL.tandK_false, DL.tor_e, DL.torK_true, DL.torK_false, DL.tnot_e, DL.notK_e, DL.vand_e, DL.vandK_e, DL.vandL_true, DL.vandL_false, DL.vor_e, DL.vorK_e, DL.vorL_true, DL.vorL_false, DL.vnot_e, DL.vnotK_e, DL.vnotL_e, DL.vif_e, DL.vifK_true, DL.vifK_false, DL.anil_e, DL.acons_e, DL.aconsK_e, DL.aconsL_e, DL.call_e, DL.ccall_e, DL.ccallK1, DL.ccallK2, DL.ccallK3, DL.ccallK4, DL.sub_e, DL.subK_e, DL.subH_e, DL.cutK_e, DL.cutL_e, DL.oN_e, DL.oS_e, DL.oSK_e, DL.oI_e, DL.rev_e, DL.revK_e, DL.tup_e, DL.lst_e, DL.mkTup_e, DL.mkLst_e, DL.tupD_e, DL.lstD_e, DL.datas_e, DL.datasK_e, DL.kN_e, DL.kB_e, DL.kI_e, DL.kS_e, DL.kT_e, DL.kD0_e, DL.chainI_e, DL.chA_e, DL.chB_e, DL.chI_e, DL.chJ_e, DL.chG_true, DL.chG_false, DL.chY_e, DL.chC_e, DL.sSeq_e, DL.seqSrc_e, DL.asItems_list, DL.asItems_tuple, DL.sRng1_e, DL.rngW_e, DL.rngI_e, DL.sRng2_e, DL.rngK_e, DL.rngWW_e, DL.rngWI_e, DL.rngJ_e, DL.sZip_e, DL.zipK_e, DL.zipW_e, DL.zipA_e, DL.zipD_list, DL.zipD_tuple, DL.sEnum_e, DL.enumW_e, DL.enumV_e, DL.asList_e, DL.enumL_e, DL.ownR_e, DL.lc_e, DL.tYes_e, List.map_cons, List.map_nil, List.nil_append, List.cons_append, List.length_cons, List.length_nil, List.set_cons_zero, List.set_cons_succ, ite_self, reduceIte, noL_none, noL_bool, noL_int, noL_str, noL_list, noL_tuple, noLs_nil, noLs_cons, Bool.true_and, Bool.false_and, Bool.and_true, Bool.and_self, Bool.false_eq_true, Bool.not_true, Bool.not_false, List.replicate_succ, List.replicate_zero, DL.opEq_e, DL.flip_e, DL.opNe_e, DL.opIn_e, DL.opNotIn_e, DL.opLt_e, DL.opAdd_e, DL.opMul_e, DL.opIx_e, DL.opIsN_e, DL.opNotN_e, DL.opNeg_e, DL.opLe_e, DL.opGt_e, DL.opGe_e, DL.opSub_e, DL.vLt_int, DL.vEq_int, DL.vAdd_int, DL.vAdd_list, DL.vAdd_tuple, DL.vLen_tuple, DL.vLen_list, DL.vInt_int, DL.vTuple_list, DL.vTuple_tuple, DL.vList_list, DL.vList_tuple, DL.vRev_list, DL.vRev_tuple, DL.vCut_list, DL.vCut_tuple, DL.f1_e, DL.f2_e, DL.isNon_none, DL.isNon_int, DL.isi_int, DL.isi_bool, DL.isi_tuple, DL.isi_list, DL.isi_str, DL.isi_dict, small_of, e6]
        (repeat rw [M.post_bind])
        refine post_use (p_muddled (by omega)) fun w hw => ?_
        obtain ⟨r, rfl, hr1, hr2⟩ := hw
        (repeat rw [← M.post_bind])
        simp (disch := (try simp only [List.length_append, List.length_take, List.length_drop, List.length_reverse, List.length_map, List.length_cons, List.length_nil]); omega) only [DL.sel_true, DL.sel_false, DL.sel_self, DL.okb, DL.excb, DL.badb, DL.pickb, DL.okp, DL.pickp, DL.ddat, DL.down, DL.sdat, DL.sown, DL.sraw, DL.spot, DL.gdat, DL.gown, DL.graw, DL.gpot, DL.asBb, DL.asIi, DL.kBok, DL.noxok, DL.datas0, DL.frz1_own, DL.frz1_dat, DL.frz1_raw, DL.frz1_pot, DL.frz1_none, DL.frz1_nil, DL.frz1_succ, DL.frz_nil, DL.frz_cons, DL.rdv_dat, DL.rdv_raw, DL.rdv_pot, DL.rdv_succ, DL.rtnV_zero, DL.rtnV_succ, DL.ownAt_zero, DL.ownAt_succ, DL.startE_eq, DL.seq_e, DL.seqK_nx, DL.seqK_ret, DL.seqK_brk, DL.seqK_cont, DL.asg_e, DL.asgK_e, DL.rtn_e, DL.rtnK_e, DL.rtnN_e, DL.exs_e, DL.exsK_e, DL.ifs_e, DL.ifsK_true, DL.ifsK_false, DL.skip_e, DL.brkS_e, DL.contS_e, DL.badS_e, DL.body_e, DL.fin_ret, DL.fin_nx, DL.app1_e, DL.app1K_e, DL.app_e, DL.appO_e, DL.appW_e, DL.appD_e, DL.asg2_e, DL.asg2K_e, DL.asg2L_e, DL.unp_e, DL.unpW_e, DL.unpD_e, DL.goOn_some, DL.goOn_none, DL.bT_e, DL.setL_cons, DL.setL_nil, DL.bN_e, DL.sto1_e, DL.sto_e, DL.stoW_e, DL.stoD_e, DL.sto2_e, DL.sto2K_e, DL.sto2W_e, DL.sto2I_e, DL.sto1K_e, DL.atK_e, DL.ali_e, DL.aliK_true, DL.aliK_false, DL.ali1_e, DL.ali1B_e, DL.ali1O_e, DL.ali1W_e, DL.ali1D_e, DL.forS_e, DL.forK_e, DL.loopB_some, DL.loopK_nx, DL.loopK_cont, DL.loopK_brk, DL.loopK_ret, DL.bin2_e, DL.binK_e, DL.binL_e, DL.un1_e, DL.unK_e, DL.tst_e, DL.tand_e, DL.tandK_true, DL.tandK_false, DL.tor_e, DL.torK_true, DL.torK_false, DL.tnot_e, DL.notK_e, DL.vand_e, DL.vandK_e, DL.vandL_true, DL.vandL_false, DL.vor_e, DL.vorK_e, DL.vorL_true, DL.vorL_false, DL.vnot_e, DL.vnotK_e, DL.vnotL_e, DL.vif_e, DL.vifK_true, DL.vifK_false, DL.anil_e, DL.acons_e, DL.aconsK_e, DL.aconsL_e, DL.call_e, DL.ccall_e, DL.ccallK1, DL.ccallK2, DL.ccallK3, DL.ccallK4, DL.sub_e, DL.subK_e, DL.subH_e, DL.cutK_e, DL.cutL_e, DL.oN_e, DL.oS_e, DL.oSK_e, DL.oI_e, DL.rev_e, DL.revK_e, DL.tup_e, DL.lst_e, DL.mkTup_e, DL.mkLst_e, DL.tupD_e, DL.lstD_e, DL.datas_e, DL.datasK_e, DL.kN_e, DL.kB_e, DL.kI_e, DL.kS_e, DL.kT_e, DL.kD0_e, DL.chainI_e, DL.chA_e, DL.chB_e, DL.chI_e, DL.chJ_e, DL.chG_true, DL.chG_false, DL.chY_e, DL.chC_e, DL.sSeq_e, DL.seqSrc_e, DL.asItems_list, DL.asItems_tuple, DL.sRng1_e, DL.rngW_e, DL.rngI_e, DL.sRng2_e, DL.rngK_e, DL.rngWW_e, DL.rngWI_e, DL.rngJ_e, DL.sZip_e, DL.zipK_e, DL.zipW_e, DL.zipA_e, DL.zipD_list, DL.zipD_tuple, DL.sEnum_e, DL.enumW_e, DL.enumV_e, DL.asList_e, DL.enumL_e, DL.ownR_e, DL.lc_e, DL.tYes_e, List.map_cons, List.map_nil, List.nil_append, List.cons_append, List.length_cons, List.length_nil, List.set_cons_zero, List.set_cons_succ, ite_self, reduceIte, noL_none, noL_bool, noL_int, noL_str, noL_list, noL_tuple, noLs_nil, noLs_cons, Bool.true_and, Bool.false_and, Bool.and_true, Bool.and_self, Bool.false_eq_true, Bool.not_true, Bool.not_false, List.replicate_succ, List.replicate_zero, DL.opEq_e, DL.flip_e, DL.opNe_e, DL.opIn_e, DL.opNotIn_e, DL.opLt_e, DL.opAdd_e, DL.opMul_e, DL.opIx_e, DL.opIsN_e, DL.opNotN_e, DL.opNeg_e, DL.opLe_e, DL.opGt_e, DL.opGe_e, DL.opSub_e, DL.vLt_int, DL.vEq_int, DL.vAdd_int, DL.vAdd_list, DL.vAdd_tuple, DL.vLen_tuple, DL.vLen_list, DL.vInt_int, DL.vTuple_list, DL.vTuple_tuple, DL.vList_list, DL.vList_tuple, DL.vRev_list, DL.vRev_tuple, DL.vCut_list, DL.vCut_tuple, DL.f1_e, DL.f2_e, DL.isNon_none, DL.isNon_int, DL.isi_int, DL.isi_bool, DL.isi_tuple, DL.isi_list, DL.isi_str, DL.isi_dict, small_of, e6]
        (repeat rw [M.post_bind])
        refine post_use (p_pick (by simp) (by simp)) fun w hw => ?_
        obtain ⟨x, hx, rfl⟩ := hw
        (repeat rw [← M.post_bind])
        simp (disch := (try simp only [List.length_append, List.length_take, List.length_drop, List.length_reverse, List.length_map, List.length_cons, List.length_nil]); omega) only [DL.sel_true, DL.sel_false, DL.sel_self, DL.okb, DL.excb, DL.badb, DL.pickb, DL.okp, DL.pickp, DL.ddat, DL.down, DL.sdat, DL.sown, DL.sraw, DL.spot, DL.gdat, DL.gown, DL.graw, DL.gpot, DL.asBb, DL.asIi, DL.kBok, DL.noxok, DL.datas0, DL.frz1_own, DL.frz1_dat, DL.frz1_raw, DL.frz1_pot, DL.frz1_none, DL.frz1_nil, DL.frz1_succ, DL.frz_nil, DL.frz_cons, DL.rdv_dat, DL.rdv_raw, DL.rdv_pot, DL.rdv_succ, DL.rtnV_zero, DL.rtnV_succ, DL.ownAt_zero, DL.ownAt_succ, DL.startE_eq, DL.seq_e, DL.seqK_nx, DL.seqK_ret, DL.seqK_brk, DL.seqK_cont, DL.asg_e, DL.asgK_e, DL.rtn_e, DL.rtnK_e, DL.rtnN_e, DL.exs_e, DL.exsK_e, DL.ifs_e, DL.ifsK_true, DL.ifsK_false, DL.skip_e, DL.brkS_e, DL.contS_e, DL.badS_e, DL.body_e, DL.fin_ret, DL.fin_nx, DL.app1_e, DL.app1K_e, DL.app_e, DL.appO_e, DL.appW_e, DL.appD_e, DL.asg2_e, DL.asg2K_e, DL.asg2L_e, DL.unp_e, DL.unpW_e, DL.unpD_e, DL.goOn_some, DL.goOn_none, DL.bT_e, DL.setL_cons, DL.setL_nil, DL.bN_e, DL.sto1_e, DL.sto_e, DL.stoW_e, DL.stoD_e, DL.sto2_e, DL.sto2K_e, DL.sto2W_e, DL.sto2I_e, DL.sto1K_e, DL.atK_e, DL.ali_e, DL.aliK_true, DL.aliK_false, DL.ali1_e, DL.ali1B_e, DL.ali1O_e, DL.ali1W_e, DL.ali1D_e, DL.forS_e, DL.forK_e, DL.loopB_some, DL.loopK_nx, DL.loopK_cont, DL.loopK_brk, DL.loopK_ret, DL.bin2_e, DL.binK_e, DL.binL_e, DL.un1_e, DL.unK_e, DL.tst_e, DL.tand_e, DL.tandK_true, DL.tandK_false, DL.tor_e, DL.torK_true, DL.torK_false, DL.tnot_e, DL.notK_e, DL.vand_e, DL.vandK_e, DL.vandL_true, DL.vandL_false, DL.vor_e, DL.vorK_e, DL.vorL_true, DL.vorL_false, DL.vnot_e, DL.vnotK_e, DL.vnotL_e, DL.vif_e, DL.vifK_true, DL.vifK_false, DL.anil_e, DL.acons_e, DL.aconsK_e, DL.aconsL_e, DL.call_e, DL.ccall_e, DL.ccallK1, DL.ccallK2, DL.ccallK3, DL.ccallK4, DL.sub_e, DL.subK_e, DL.subH_e, DL.cutK_e, DL.cutL_e, DL.oN_e, DL.oS_e, DL.oSK_e, DL.oI_e, DL.rev_e, DL.revK_e, DL.tup_e, DL.lst_e, DL.mkTup_e, DL.mkLst_e, DL.tupD_e, DL.lstD_e, DL.datas_e, DL.datasK_e, DL.kN_e, DL.kB_e, DL.kI_e, DL.kS_e, DL.kT_e, DL.kD0_e, DL.chainI_e, DL.chA_e, DL.chB_e, DL.chI_e, DL.chJ_e, DL.chG_true, DL.chG_false, DL.chY_e, DL.chC_e, DL.sSeq_e, DL.seqSrc_e, DL.asItems_list, DL.asItems_tuple, DL.sRng1_e, DL.rngW_e, DL.rngI_e, DL.sRng2_e, DL.rngK_e, DL.rngWW_e, DL.rngWI_e, DL.rngJ_e, DL.sZip_e, DL.zipK_e, DL.zipW_e, DL.zipA_e, DL.zipD_list, DL.zipD_tuple, DL.sEnum_e, DL.enumW_e, DL.enumV_e, DL.asList_e, DL.enumL_e, DL.ownR_e, DL.lc_e, DL.tYes_e, List.map_cons, List.map_nil, List.nil_append, List.cons_append, List.length_cons, List.length_nil, List.set_cons_zero, List.set_cons_succ, ite_self, reduceIte, noL_none, noL_bool, noL_int, noL_str, noL_list, noL_tuple, noLs_nil, noLs_cons, Bool.true_and, Bool.false_and, Bool.and_true, Bool.and_self, Bool.false_eq_true, Bool.not_true, Bool.not_false, List.replicate_succ, List.replicate_zero, DL.opEq_e, DL.flip_e, DL.opNe_e, DL.opIn_e, DL.opNotIn_e, DL.opLt_e, DL.opAdd_e, DL.opMul_e, DL.opIx_e, DL.opIsN_e, DL.opNotN_e, DL.opNeg_e, DL.opLe_e, DL.opGt_e, DL.opGe_e, DL.opSub_e, DL.vLt_int, DL.vEq_int, DL.vAdd_int, DL.vAdd_list, DL.vAdd_tuple, DL.vLen_tuple, DL.vLen_list, DL.vInt_int, DL.vTuple_list, DL.vTuple_tuple, DL.vList_list, DL.vList_tuple, DL.vRev_list, DL.vRev_tuple, DL.vCut_list, DL.vCut_tuple, DL.f1_e, DL.f2_e, DL.isNon_none, DL.isNon_int, DL.isi_int, DL.isi_bool, DL.isi_tuple, DL.isi_list, DL.isi_str, DL.isi_dict, small_of, e6]
        refine ⟨_, rfl, fin1 (k := fun c => .tuple [.tuple ns, c, .tuple bs]) f2.1 f2.2 (fun h => fn_tuple.mpr ⟨by simp, by simp [h, q1, q3]⟩) hr1 hr2 hx⟩
      · have e6 : decide ((ch : Int) < 6) = false := decide_eq_false h6
        simp (disch := (try simp only [List.length_append, List.length_take, List.length_drop, List.length_reverse, List.length_map, List.length_cons, List.length_nil]); omega) only [DL.sel_true, DL.sel_false, DL.sel_self, DL.okb, DL.excb, DL.badb, DL.pickb, DL.okp, DL.pickp, DL.ddat, DL.down, DL.sdat, DL.sown, DL.sraw, DL.spot, DL.gdat, DL.gown, DL.graw, DL.gpot, DL.asBb, DL.asIi, DL.kBok, DL.noxok, DL.datas0, DL.frz1_own, DL.frz1_dat, DL.frz1_raw, DL.frz1_pot, DL.frz1_none, DL.frz1_nil, DL.frz1_succ, DL.frz_nil, DL.frz_cons, DL.rdv_dat, DL.rdv_raw, DL.rdv_pot, DL.rdv_succ, DL.rtnV_zero, DL.rtnV_succ, DL.ownAt_zero, DL.ownAt_succ, DL.startE_eq, DL.seq_e, DL.seqK_nx, DL.seqK_ret, DL.seqK_brk, DL.seqK_cont, DL.asg_e, DL.asgK_e, DL.rtn_e, DL.rtnK_e, DL.rtnN_e, DL.exs_e, DL.exsK_e, DL.ifs_e, DL.ifsK_true, DL.ifsK_false, DL.skip_e, DL.brkS_e, DL.contS_e, DL.badS_e, DL.body_e, DL.fin_ret, DL.fin_nx, DL.app1_e, DL.app1K_e, DL.app_e, DL.appO_e, DL.appW_e, DL.appD_e, DL.asg2_e, DL.asg2K_e, DL.asg2L_e, DL.unp_e, DL.unpW_e, DL.unpD_e, DL.goOn_some, DL.goOn_none, DL.bT_e, DL.setL_cons, DL.setL_nil, DL.bN_e, DL.sto1_e, DL.sto_e, DL.stoW_e, DL.stoD_e, DL.sto2_e, DL.sto2K_e, DL.sto2W_e, DL.sto2I_e, DL.sto1K_e, DL.atK_e, DL.ali_e, DL.aliK_true, DL.aliK_false, DL.ali1_e, DL.ali1B_e, DL.ali1O_e, DL.ali1W_e, DL.ali1D_e, DL.forS_e, DL.forK_e, DL.loopB_some, DL.loopK_nx, DL.loopK_cont, DL.loopK_brk, DL.loopK_ret, DL.bin2_e, DL.binK_e, DL.binL_e, DL.un1_e, DL.unK_e, DL.tst_e, DL.tand_e, DL.tandK_true, DL.tandK_false, DL.tor_e, DL.torK_true, DL.torK_false, DL.tnot_e, DL.notK_e, DL.vand_e, DL.vandK_e, DL.vandL_true, DL.vandL_false, DL.vor_e, DL.vorK_e, DL.vorL_true, DL.vorL_false, DL.vnot_e, DL.vnotK_e, DL.vnotL_e, DL.vif_e, DL.vifK_true, DL.vifK_false, DL.anil_e, DL.acons_e, DL.aconsK_e, DL.aconsL_e, DL.call_e, DL.ccall_e, DL.ccallK1, DL.ccallK2, DL.ccallK3, DL.ccallK4, DL.sub_e, DL.subK_e, DL.subH_e, DL.cutK_e, DL.cutL_e, DL.oN_e, DL.oS_e, DL.oSK_e, DL.oI_e, DL.rev_e, DL.revK_e, DL.tup_e, DL.lst_e, DL.mkTup_e, DL.mkLst_e, DL.tupD_e, DL.lstD_e, DL.datas_e, DL.datasK_e, DL.kN_e, DL.kB_e, DL.kI_e, DL.kS_e, DL.kT_e, DL.kD0_e, DL.chainI_e, DL.chA_e, DL.chB_e, DL.chI_e, DL.chJ_e, DL.chG_true, DL.chG_false, DL.chY_e, DL.chC_e, DL.sSeq_e, DL.seqSrc_e, DL.asItems_list, DL.asItems_tuple, DL.sRng1_e, DL.rngW_e, DL.rngI_e, DL.sRng2_e, DL.rngK_e, DL.rngWW_e, DL.rngWI_e, DL.rngJ_e, DL.sZip_e, DL.zipK_e, DL.zipW_e, DL.zipA_e, DL.zipD_list, DL.zipD_tuple, DL.sEnum_e, DL.enumW_e, DL.enumV_e, DL.asList_e, DL.enumL_e, DL.ownR_e, DL.lc_e, DL.tYes_e, List.map_cons, List.map_nil, List.nil_append, List.cons_append, List.length_cons, List.length_nil, List.set_cons_zero, List.set_cons_succ, ite_self, reduceIte, noL_none, noL_bool, noL_int, noL_str, noL_list, noL_tuple, noLs_nil, noLs_cons, Bool.true_and, Bool.false_and, Bool.and_true, Bool.and_self, Bool.false_eq_true, Bool.not_true, Bool.not_false, List.replicate_succ, List.replicate_zero, DL.opEq_e, DL.flip_e, DL.opNe_e, DL.opIn_e, DL.opNotIn_e, DL.opLt_e, DL.opAdd_e, DL.opMul_e, DL.opIx_e, DL.opIsN_e, DL.opNotN_e, DL.opNeg_e, DL.opLe_e, DL.opGt_e, DL.opGe_e, DL.opSub_e, DL.vLt_int, DL.vEq_int, DL.vAdd_int, DL.vAdd_list, DL.vAdd_tuple, DL.vLen_tuple, DL.vLen_list, DL.vInt_int, DL.vTuple_list, DL.vTuple_tuple, DL.vList_list, DL.vList_tuple, DL.vRev_list, DL.vRev_tuple, DL.vCut_list, DL.vCut_tuple, DL.f1_e, DL.f2_e, DL.isNon_none, DL.isNon_int, DL.isi_int, DL.isi_bool, DL.isi_tuple, DL.isi_list, DL.isi_str, DL.isi_dict, small_of, e6]
        (repeat rw [M.post_bind])
        refine post_use (p_muddled (by omega)) fun w hw => ?_
        obtain ⟨r, rfl, hr1, hr2⟩ := hw
        (repeat rw [← M.post_bind])
        simp (disch := (try simp only [List.length_append, List.length_take, List.length_drop, List.length_reverse, List.length_map, List.length_cons, List.length_nil]); omega) only [DL.sel_true, DL.sel_false, DL.sel_self, DL.okb, DL.excb, DL.badb, DL.pickb, DL.okp, DL.pickp, DL.ddat, DL.down, DL.sdat, DL.sown, DL.sraw, DL.spot, DL.gdat, DL.gown, DL.graw, DL.gpot, DL.asBb, DL.asIi, DL.kBok, DL.noxok, DL.datas0, DL.frz1_own, DL.frz1_dat, DL.frz1_raw, DL.frz1_pot, DL.frz1_none, DL.frz1_nil, DL.frz1_succ, DL.frz_nil, DL.frz_cons, DL.rdv_dat, DL.rdv_raw, DL.rdv_pot, DL.rdv_succ, DL.rtnV_zero, DL.rtnV_succ, DL.ownAt_zero, DL.ownAt_succ, DL.startE_eq, DL.seq_e, DL.seqK_nx, DL.seqK_ret, DL.seqK_brk, DL.seqK_cont, DL.asg_e, DL.asgK_e, DL.rtn_e, DL.rtnK_e, DL.rtnN_e, DL.exs_e, DL.exsK_e, DL.ifs_e, DL.ifsK_true, DL.ifsK_false, DL.skip_e, DL.brkS_e, DL.contS_e, DL.badS_e, DL.body_e, DL.fin_ret, DL.fin_nx, DL.app1_e, DL.app1K_e, DL.app_e, DL.appO_e, DL.appW_e, DL.appD_e, DL.asg2_e, DL.asg2K_e, DL.asg2L_e, DL.unp_e, DL.unpW_e, DL.unpD_e, DL.goOn_some, DL.goOn_none, DL.bT_e, DL.setL_cons, DL.setL_nil, DL.bN_e, DL.sto1_e, DL.sto_e, DL.stoW_e, DL.stoD_e, DL.sto2_e, DL.sto2K_e, DL.sto2W_e, DL.sto2I_e, DL.sto1K_e, DL.atK_e, DL.ali_e, DL.aliK_true, DL.aliK_false, DL.ali1_e, DL.ali1B_e, DL.ali1O_e, DL.ali1W_e, DL.ali1D_e, DL.forS_e, DL.forK_e, DL.loopB_some, DL.loopK_nx, DL.loopK_cont, DL.loopK_brk, DL.loopK_ret, DL.bin2_e, DL.binK_e, DL.binL_e, DL.un1_e, DL.unK_e, DL.tst_e, DL.tand_e, DL.tandK_true, DL.tandK_false, DL.tor_e, DL.torK_true, DL.torK_false, DL.tnot_e, DL.notK_e, DL.vand_e, DL.vandK_e, DL.vandL_true, DL.vandL_false, DL.vor_e, DL.vorK_e, DL.vorL_true, DL.vorL_false, DL.vnot_e, DL.vnotK_e, DL.vnotL_e, DL.vif_e, DL.vifK_true, DL.vifK_false, DL.anil_e, DL.acons_e, DL.aconsK_e, DL.aconsL_e, DL.call_e, DL.ccall_e, DL.ccallK1, DL.ccallK2, DL.ccallK3, DL.ccallK4, DL.sub_e, DL.subK_e, DL.subH_e, DL.cutK_e, DL.cutL_e, DL.oN_e, DL.oS_e, DL.oSK_e, DL.oI_e, DL.rev_e, DL.revK_e, DL.tup_e, DL.lst_e, DL.mkTup_e, DL.mkLst_e, DL.tupD_e, DL.lstD_e, DL.datas_e, DL.datasK_e, DL.kN_e, DL.kB_e, DL.kI_e, DL.kS_e, DL.kT_e, DL.kD0_e, DL.chainI_e, DL.chA_e, DL.chB_e, DL.chI_e, DL.chJ_e, DL.chG_true, DL.chG_false, DL.chY_e, DL.chC_e, DL.sSeq_e, DL.seqSrc_e, DL.asItems_list, DL.asItems_tuple, DL.sRng1_e, DL.rngW_e, DL.rngI_e, DL.sRng2_e, DL.rngK_e, DL.rngWW_e, DL.rngWI_e, DL.rngJ_e, DL.sZip_e, DL.zipK_e, DL.zipW_e, DL.zipA_e, DL.zipD_list, DL.zipD_tuple, DL.sEnum_e, DL.enumW_e, DL.enumV_e, DL.asList_e, DL.enumL_e, DL.ownR_e, DL.lc_e, DL.tYes_e, List.map_cons, List.map_nil, List.nil_append, List.cons_append, List.length_cons, List.length_nil, List.set_cons_zero, List.set_cons_succ, ite_self, reduceIte, noL_none, noL_bool, noL_int, noL_str, noL_list, noL_tuple, noLs_nil, noLs_cons, Bool.true_and, Bool.false_and, Bool.and_true, Bool.and_self, Bool.false_eq_true, Bool.not_true, Bool.not_false, List.replicate_succ, List.replicate_zero, DL.opEq_e, DL.flip_e, DL.opNe_e, DL.opIn_e, DL.opNotIn_e, DL.opLt_e, DL.opAdd_e, DL.opMul_e, DL.opIx_e, DL.opIsN_e, DL.opNotN_e, DL.opNeg_e, DL.opLe_e, DL.opGt_e, DL.opGe_e, DL.opSub_e, DL.vLt_int, DL.vEq_int, DL.vAdd_int, DL.vAdd_list, DL.vAdd_tuple, DL.vLen_tuple, DL.vLen_list, DL.vInt_int, DL.vTuple_list, DL.vTuple_tuple, DL.vList_list, DL.vList_tuple, DL.vRev_list, DL.vRev_tuple, DL.vCut_list, DL.vCut_tuple, DL.f1_e, DL.f2_e, DL.isNon_none, DL.isNon_int, DL.isi_int, DL.isi_bool, DL.isi_tuple, DL.isi_list, DL.isi_str, DL.isi_dict, small_of, e6]
        (repeat rw [M.post_bind])
        refine post_use (p_pick (by simp) (by simp)) fun w hw => ?_
        obtain ⟨x, hx, rfl⟩ := hw
        (repeat rw [← M.post_bind])
        simp (disch := (try simp only [List.length_append, List.length_take, List.length_drop, List.length_reverse, List.length_map, List.length_cons, List.length_nil]); omega) only [DL.sel_true, DL.sel_false, DL.sel_self, DL.okb, DL.excb, DL.badb, DL.pickb, DL.okp, DL.pickp, DL.ddat, DL.down, DL.sdat, DL.sown, DL.sraw, DL.spot, DL.gdat, DL.gown, DL.graw, DL.gpot, DL.asBb, DL.asIi, DL.kBok, DL.noxok, DL.datas0, DL.frz1_own, DL.frz1_dat, DL.frz1_raw, DL.frz1_pot, DL.frz1_none, DL.frz1_nil, DL.frz1_succ, DL.frz_nil, DL.frz_cons, DL.rdv_dat, DL.rdv_raw, DL.rdv_pot, DL.rdv_succ, DL.rtnV_zero, DL.rtnV_succ, DL.ownAt_zero, DL.ownAt_succ, DL.startE_eq, DL.seq_e, DL.seqK_nx, DL.seqK_ret, DL.seqK_brk, DL.seqK_cont, DL.asg_e, DL.asgK_e, DL.rtn_e, DL.rtnK_e, DL.rtnN_e, DL.exs_e, DL.exsK_e, DL.ifs_e, DL.ifsK_true, DL.ifsK_false, DL.skip_e, DL.brkS_e, DL.contS_e, DL.badS_e, DL.body_e, DL.fin_ret, DL.fin_nx, DL.app1_e, DL.app1K_e, DL.app_e, DL.appO_e, DL.appW_e, DL.appD_e, DL.asg2_e, DL.asg2K_e, DL.asg2L_e, DL.unp_e, DL.unpW_e, DL.unpD_e, DL.goOn_some, DL.goOn_none, DL.bT_e, DL.setL_cons, DL.setL_nil, DL.bN_e, DL.sto1_e, DL.sto_e, DL.stoW_e, DL.stoD_e, DL.sto2_e, DL.sto2K_e, DL.sto2W_e, DL.sto2I_e, DL.sto1K_e, DL.atK_e, DL.ali_e, DL.aliK_true, DL.aliK_false, DL.ali1_e, DL.ali1B_e, DL.ali1O_e, DL.ali1W_e, DL.ali1D_e, DL.forS_e, DL.forK_e, DL.loopB_some, DL.loopK_nx, DL.loopK_cont, DL.loopK_brk, DL.loopK_ret, DL.bin2_e, DL.binK_e, DL.binL_e, DL.un1_e, DL.unK_e, DL.tst_e, DL.tand_e, DL.tandK_true, DL.tandK_false, DL.tor_e, DL.torK_true, DL.torK_false, DL.tnot_e, DL.notK_e, DL.vand_e, DL.vandK_e, DL.vandL_true, DL.vandL_false, DL.vor_e, DL.vorK_e, DL.vorL_true, DL.vorL_false, DL.vnot_e, DL.vnotK_e, DL.vnotL_e, DL.vif_e, DL.vifK_true, DL.vifK_false, DL.anil_e, DL.acons_e, DL.aconsK_e, DL.aconsL_e, DL.call_e, DL.ccall_e, DL.ccallK1, DL.ccallK2, DL.ccallK3, DL.ccallK4, DL.sub_e, DL.subK_e, DL.subH_e, DL.cutK_e, DL.cutL_e, DL.oN_e, DL.oS_e, DL.oSK_e, DL.oI_e, DL.rev_e, DL.revK_e, DL.tup_e, DL.lst_e, DL.mkTup_e, DL.mkLst_e, DL.tupD_e, DL.lstD_e, DL.datas_e, DL.datasK_e, DL.kN_e, DL.kB_e, DL.kI_e, DL.kS_e, DL.kT_e, DL.kD0_e, DL.chainI_e, DL.chA_e, DL.chB_e, DL.chI_e, DL.chJ_e, DL.chG_true, DL.chG_false, DL.chY_e, DL.chC_e, DL.sSeq_e, DL.seqSrc_e, DL.asItems_list, DL.asItems_tuple, DL.sRng1_e, DL.rngW_e, DL.rngI_e, DL.sRng2_e, DL.rngK_e, DL.rngWW_e, DL.rngWI_e, DL.rngJ_e, DL.sZip_e, DL.zipK_e, DL.zipW_e, DL.zipA_e, DL.zipD_list, DL.zipD_tuple, DL.sEnum_e, DL.enumW_e, DL.enumV_e, DL.asList_e, DL.enumL_e, DL.ownR_e, DL.lc_e, DL.tYes_e, List.map_cons, List.map_nil, List.nil_append, List.cons_append, List.length_cons, List.length_nil, List.set_cons_zero, List.set_cons_succ, ite_self, reduceIte, noL_none, noL_bool, noL_int, noL_str, noL_list, noL_tuple, noLs_nil, noLs_cons, Bool.true_and, Bool.false_and, Bool.and_true, Bool.and_self, Bool.false_eq_true, Bool.not_true, Bool.not_false, List.replicate_succ, List.replicate_zero, DL.opEq_e, DL.flip_e, DL.opNe_e, DL.opIn_e, DL.opNotIn_e, DL.opLt_e, DL.opAdd_e, DL.opMul_e, DL.opIx_e, DL.opIsN_e, DL.opNotN_e, DL.opNeg_e, DL.opLe_e, DL.opGt_e, DL.opGe_e, DL.opSub_e, DL.vLt_int, DL.vEq_int, DL.vAdd_int, DL.vAdd_list, DL.vAdd_tuple, DL.vLen_tuple, DL.vLen_list, DL.vInt_int, DL.vTuple_list, DL.vTuple_tuple, DL.vList_list, DL.vList_tuple, DL.vRev_list, DL.vRev_tuple, DL.vCut_list, DL.vCut_tuple, DL.f1_e, DL.f2_e, DL.isNon_none, DL.isNon_int, DL.isi_int, DL.isi_bool, DL.isi_tuple, DL.isi_list, DL.isi_str, DL.isi_dict, small_of, e6]
        refine ⟨_, rfl, fin1 (k := fun c => .tuple [.tuple ns, .tuple as, c]) f3.1 f3.2 (fun h => fn_tuple.mpr ⟨by simp, by simp [h, q1, q2]⟩) hr1 hr2 hx⟩
end Lw

namespace Lw
open PySem (PyData Addr Str)
open DL
def pairsOf (m : Nat) : List D := (List.range m).flatMap fun i => (List.range (m - (i + 1))).map fun j => .tuple [.int i, .int ((i + 1 + j : Nat) : Int)]
theorem r_law_pairs : ∀ m : Nat, m < 9 → g__law_pairs [.dat (.int (m : Int))] = .ok (.own (pairsOf m))
  | 0, _ => by kernel_rfl
  | 1, _ => by kernel_rfl
  | 2, _ => by kernel_rfl
  | 3, _ => by kernel_rfl
  | 4, _ => by kernel_rfl
  | 5, _ => by kernel_rfl
  | 6, _ => by kernel_rfl
  | 7, _ => by kernel_rfl
  | 8, _ => by kernel_rfl
  | n + 9, h => absurd h (by omega)
theorem pairsOf_len : ∀ m : Nat, m < 9 → (pairsOf m).length ≤ 28 := by decide +kernel
theorem pairsOf_pr {m : Nat} {x : D} (h : x ∈ pairsOf m) : isPr m x = true := by
  unfold pairsOf at h
  obtain ⟨i, hi, h⟩ := List.mem_flatMap.mp h
  obtain ⟨j, hj, rfl⟩ := List.mem_map.mp h
  have hi := List.mem_range.mp hi
  have hj := List.mem_range.mp hj
  exact isPr_iff.mpr ⟨_, _, rfl, by omega, by omega, by omega⟩
theorem p_some_party : Pst (g__law_some_party [.pot, .dat (.int 8)]) (fun w => ∃ ns as bs, w = .dat (.tuple [.tuple ns, .tuple as, .tuple bs]) ∧ (1 ≤ ns.length ∧ ns.length ≤ 8) ∧ (∀ x ∈ ns, fnB [4, 2] x = true) ∧ (as.length ≤ 72 ∧ ∀ x ∈ as, fnB [4, 2] x = true) ∧ (bs.length ≤ 72 ∧ ∀ x ∈ bs, fnB [4, 2] x = true)) := by
  refine ⟨?_⟩
  have dp8 : dPot [.pot, .dat (.int 8)] = .pick 8 fun r => .ok (.dat (.int r)) := dPot_e (by decide) (by decide)
  have dp2 : dPot [.pot, .dat (.int 2)] = .pick 2 fun r => .ok (.dat (.int r)) := dPot_e (by decide) (by decide)
  simp only [g__law_some_party, b__law_some_party, g__law_below, DL.sel_true, DL.sel_false, DL.sel_self, DL.okb, DL.excb, DL.badb, DL.pickb, DL.okp, DL.pickp, DL.ddat, DL.down, DL.sdat, DL.sown, DL.sraw, DL.spot, DL.gdat, DL.gown, DL.graw, DL.gpot, DL.asBb, DL.asIi, DL.kBok, DL.noxok, DL.datas0, DL.frz1_own, DL.frz1_dat, DL.frz1_raw, DL.frz1_pot, DL.frz1_none, DL.frz1_nil, DL.frz1_succ, DL.frz_nil, DL.frz_cons, DL.rdv_dat, DL.rdv_raw, DL.rdv_pot, DL.rdv_succ, DL.rtnV_zero, DL.rtnV_succ, DL.ownAt_zero, DL.ownAt_succ, DL.startE_eq, DL.seq_e, DL.seqK_nx, DL.seqK_ret, DL.seqK_brk, DL.seqK_cont, DL.asg_e, DL.asgK_e, DL.rtn_e, DL.rtnK_e, DL.rtnN_e, DL.exs_e, DL.exsK_e, DL.ifs_e, DL.ifsK_true, DL.ifsK_false, DL.skip_e, DL.brkS_e, DL.contS_e, DL.badS_e, DL.body_e, DL.fin_ret, DL.fin_nx, DL.app1_e, DL.app1K_e, DL.app_e, DL.appO_e, DL.appW_e, DL.appD_e, DL.asg2_e, DL.asg2K_e, DL.asg2L_e, DL.unp_e, DL.unpW_e, DL.unpD_e, DL.goOn_some, DL.goOn_none, DL.bT_e, DL.setL_cons, DL.setL_nil, DL.bN_e, DL.sto1_e, DL.sto_e, DL.stoW_e, DL.stoD_e, DL.sto2_e, DL.sto2K_e, DL.sto2W_e, DL.sto2I_e, DL.sto1K_e, DL.atK_e, DL.ali_e, DL.aliK_true, DL.aliK_false, DL.ali1_e, DL.ali1B_e, DL.ali1O_e, DL.ali1W_e, DL.ali1D_e, DL.forS_e, DL.forK_e, DL.loopB_some, DL.loopK_nx, DL.loopK_cont, DL.loopK_brk, DL.loopK_ret, DL.bin2_e, DL.binK_e, DL.binL_e, DL.un1_e, DL.unK_e, DL.tst_e, DL.tand_e, DL.tandK_true, DL.tandK_false, DL.tor_e, DL.torK_true, DL.torK_false, DL.tnot_e, DL.notK_e, DL.vand_e, DL.vandK_e, DL.vandL_true, DL.vandL_false, DL.vor_e, DL.vorK_e, DL.vorL_true, DL.vorL_false, DL.vnot_e, DL.vnotK_e, DL.vnotL_e, DL.vif_e, DL.vifK_true, DL.vifK_false, DL.anil_e, DL.acons_e, DL.aconsK_e, DL.aconsL_e, DL.call_e, DL.ccall_e, DL.ccallK1, DL.ccallK2, DL.ccallK3, DL.ccallK4, DL.sub_e, DL.subK_e, DL.subH_e, DL.cutK_e, DL.cutL_e, DL.oN_e, DL.oS_e, DL.oSK_e, DL.oI_e, DL.rev_e, DL.revK_e, DL.tup_e, DL.lst_e, DL.mkTup_e, DL.mkLst_e, DL.tupD_e, DL.lstD_e, DL.datas_e, DL.datasK_e, DL.kN_e, DL.kB_e, DL.kI_e, DL.kS_e, DL.kT_e, DL.kD0_e, DL.chainI_e, DL.chA_e, DL.chB_e, DL.chI_e, DL.chJ_e, DL.chG_true, DL.chG_false, DL.chY_e, DL.chC_e, DL.sSeq_e, DL.seqSrc_e, DL.asItems_list, DL.asItems_tuple, DL.sRng1_e, DL.rngW_e, DL.rngI_e, DL.sRng2_e, DL.rngK_e, DL.rngWW_e, DL.rngWI_e, DL.rngJ_e, DL.sZip_e, DL.zipK_e, DL.zipW_e, DL.zipA_e, DL.zipD_list, DL.zipD_tuple, DL.sEnum_e, DL.enumW_e, DL.enumV_e, DL.asList_e, DL.enumL_e, DL.ownR_e, DL.lc_e, DL.tYes_e, List.map_cons, List.map_nil, List.nil_append, List.cons_append, List.length_cons, List.length_nil, List.set_cons_zero, List.set_cons_succ, ite_self, reduceIte, noL_none, noL_bool, noL_int, noL_str, noL_list, noL_tuple, noLs_nil, noLs_cons, Bool.true_and, Bool.false_and, Bool.and_true, Bool.and_self, Bool.false_eq_true, Bool.not_true, Bool.not_false, List.replicate_succ, List.replicate_zero, DL.opEq_e, DL.flip_e, DL.opNe_e, DL.opIn_e, DL.opNotIn_e, DL.opLt_e, DL.opAdd_e, DL.opMul_e, DL.opIx_e, DL.opIsN_e, DL.opNotN_e, DL.opNeg_e, DL.opLe_e, DL.opGt_e, DL.opGe_e, DL.opSub_e, DL.vLt_int, DL.vEq_int, DL.vAdd_int, DL.vAdd_list, DL.vAdd_tuple, DL.vLen_tuple, DL.vLen_list, DL.vInt_int, DL.vTuple_list, DL.vTuple_tuple, DL.vList_list, DL.vList_tuple, DL.vRev_list, DL.vRev_tuple, DL.vCut_list, DL.vCut_tuple, DL.f1_e, DL.f2_e, DL.isNon_none, DL.isNon_int, DL.isi_int, DL.isi_bool, DL.isi_tuple, DL.isi_list, DL.isi_str, DL.isi_dict, dp8]
  intro r hr
  have er : (1 : Int) + (r : Int) = ((r + 1 : Nat) : Int) := by omega
  generalize hm : r + 1 = m at er
  have hm9 : m < 9 := by omega
  have hlen := pairsOf_len m hm9
  simp (disch := (try simp only [List.length_append, List.length_take, List.length_drop, List.length_reverse, List.length_map, List.length_cons, List.length_nil]); omega) only [DL.sel_true, DL.sel_false, DL.sel_self, DL.okb, DL.excb, DL.badb, DL.pickb, DL.okp, DL.pickp, DL.ddat, DL.down, DL.sdat, DL.sown, DL.sraw, DL.spot, DL.gdat, DL.gown, DL.graw, DL.gpot, DL.asBb, DL.asIi, DL.kBok, DL.noxok, DL.datas0, DL.frz1_own, DL.frz1_dat, DL.frz1_raw, DL.frz1_pot, DL.frz1_none, DL.frz1_nil, DL.frz1_succ, DL.frz_nil, DL.frz_cons, DL.rdv_dat, DL.rdv_raw, DL.rdv_pot, DL.rdv_succ, DL.rtnV_zero, DL.rtnV_succ, DL.ownAt_zero, DL.ownAt_succ, DL.startE_eq, DL.seq_e, DL.seqK_nx, DL.seqK_ret, DL.seqK_brk, DL.seqK_cont, DL.asg_e, DL.asgK_e, DL.rtn_e, DL.rtnK_e, DL.rtnN_e, DL.exs_e, DL.exsK_e, DL.ifs_e, DL.ifsK_true, DL.ifsK_false, DL.skip_e, DL.brkS_e, DL.contS_e, DL.badS_e, DL.body_e, DL.fin_ret, DL.fin_nx, DL.app1_e, DL.app1K_e, DL.app_e, DL.appO_e, DL.appW_e, DL.appD_e, DL.asg2_e, DL.asg2K_e, DL.asg2L_e, DL.unp_e, DL.unpW_e, DL.unpD_e, DL.goOn_some, DL.goOn_none, DL.bT_e, DL.setL_cons, DL.setL_nil, DL.bN_e, DL.sto1_e, DL.sto_e, DL.stoW_e, DL.stoD_e, DL.sto2_e, DL.sto2K_e, DL.sto2W_e, DL.sto2I_e, DL.sto1K_e, DL.atK_e, DL.ali_e, DL.aliK_true, DL.aliK_false, DL.ali1_e, DL.ali1B_e, DL.ali1O_e, DL.ali1W_e, DL.ali1D_e, DL.forS_e, DL.forK_e, DL.loopB_some, DL.loopK_nx, DL.loopK_cont, DL.loopK_brk, DL.loopK_ret, DL.bin2_e, DL.binK_e, DL.binL_e, DL.un1_e, DL.unK_e, DL.tst_e, DL.tand_e, DL.tandK_true, DL.tandK_false, DL.tor_e, DL.torK_true, DL.torK_false, DL.tnot_e, DL.notK_e, DL.vand_e, DL.vandK_e, DL.vandL_true, DL.vandL_false, DL.vor_e, DL.vorK_e, DL.vorL_true, DL.vorL_false, DL.vnot_e, DL.vnotK_e, DL.vnotL_e, DL.vif_e, DL.vifK_true, DL.vifK_false, DL.anil_e, DL.acons_e, DL.aconsK_e, DL.aconsL_e, DL.call_e, DL.ccall_e, DL.ccallK1, DL.ccallK2, DL.ccallK3, DL.ccallK4, DL.sub_e, DL.subK_e, DL.subH_e, DL.cutK_e, DL.cutL_e, DL.oN_e, DL.oS_e, DL.oSK_e, DL.oI_e, DL.rev_e, DL.revK_e, DL.tup_e, DL.lst_e, DL.mkTup_e, DL.mkLst_e, DL.tupD_e, DL.lstD_e, DL.datas_e, DL.datasK_e, DL.kN_e, DL.kB_e, DL.kI_e, DL.kS_e, DL.kT_e, DL.kD0_e, DL.chainI_e, DL.chA_e, DL.chB_e, DL.chI_e, DL.chJ_e, DL.chG_true, DL.chG_false, DL.chY_e, DL.chC_e, DL.sSeq_e, DL.seqSrc_e, DL.asItems_list, DL.asItems_tuple, DL.sRng1_e, DL.rngW_e, DL.rngI_e, DL.sRng2_e, DL.rngK_e, DL.rngWW_e, DL.rngWI_e, DL.rngJ_e, DL.sZip_e, DL.zipK_e, DL.zipW_e, DL.zipA_e, DL.zipD_list, DL.zipD_tuple, DL.sEnum_e, DL.enumW_e, DL.enumV_e, DL.asList_e, DL.enumL_e, DL.ownR_e, DL.lc_e, DL.tYes_e, List.map_cons, List.map_nil, List.nil_append, List.cons_append, List.length_cons, List.length_nil, List.set_cons_zero, List.set_cons_succ, ite_self, reduceIte, noL_none, noL_bool, noL_int, noL_str, noL_list, noL_tuple, noLs_nil, noLs_cons, Bool.true_and, Bool.false_and, Bool.and_true, Bool.and_self, Bool.false_eq_true, Bool.not_true, Bool.not_false, List.replicate_succ, List.replicate_zero, DL.opEq_e, DL.flip_e, DL.opNe_e, DL.opIn_e, DL.opNotIn_e, DL.opLt_e, DL.opAdd_e, DL.opMul_e, DL.opIx_e, DL.opIsN_e, DL.opNotN_e, DL.opNeg_e, DL.opLe_e, DL.opGt_e, DL.opGe_e, DL.opSub_e, DL.vLt_int, DL.vEq_int, DL.vAdd_int, DL.vAdd_list, DL.vAdd_tuple, DL.vLen_tuple, DL.vLen_list, DL.vInt_int, DL.vTuple_list, DL.vTuple_tuple, DL.vList_list, DL.vList_tuple, DL.vRev_list, DL.vRev_tuple, DL.vCut_list, DL.vCut_tuple, DL.f1_e, DL.f2_e, DL.isNon_none, DL.isNon_int, DL.isi_int, DL.isi_bool, DL.isi_tuple, DL.isi_list, DL.isi_str, DL.isi_dict, er, r_law_pairs m hm9, small_of]
  (repeat rw [M.post_bind])
  refine post_use (lcK_pst (P := fun w => ∃ cs, w = .own cs ∧ cs.length ≤ 28 ∧ ∀ x ∈ cs, isPr m x = true) (fun ds acc => (∀ x ∈ ds, isPr m x = true) ∧ (∀ x ∈ acc, isPr m x = true) ∧ acc.length + ds.length ≤ 28) (by omega) ⟨fun x hx => pairsOf_pr hx, by simp, by simpa using hlen⟩ (fun acc h => ⟨acc, rfl, by simpa using h.2.2, h.2.1⟩) fun d ds acc h => ?_) fun w hw => ?_
  · refine ⟨_, rfl, ?_⟩
    simp (disch := (try simp only [List.length_append, List.length_take, List.length_drop, List.length_reverse, List.length_map, List.length_cons, List.length_nil]); omega) only [wipeE, DL.sel_true, DL.sel_false, DL.sel_self, DL.okb, DL.excb, DL.badb, DL.pickb, DL.okp, DL.pickp, DL.ddat, DL.down, DL.sdat, DL.sown, DL.sraw, DL.spot, DL.gdat, DL.gown, DL.graw, DL.gpot, DL.asBb, DL.asIi, DL.kBok, DL.noxok, DL.datas0, DL.frz1_own, DL.frz1_dat, DL.frz1_raw, DL.frz1_pot, DL.frz1_none, DL.frz1_nil, DL.frz1_succ, DL.frz_nil, DL.frz_cons, DL.rdv_dat, DL.rdv_raw, DL.rdv_pot, DL.rdv_succ, DL.rtnV_zero, DL.rtnV_succ, DL.ownAt_zero, DL.ownAt_succ, DL.startE_eq, DL.seq_e, DL.seqK_nx, DL.seqK_ret, DL.seqK_brk, DL.seqK_cont, DL.asg_e, DL.asgK_e, DL.rtn_e, DL.rtnK_e, DL.rtnN_e, DL.exs_e, DL.exsK_e, DL.ifs_e, DL.ifsK_true, DL.ifsK_false, DL.skip_e, DL.brkS_e, DL.contS_e, DL.badS_e, DL.body_e, DL.fin_ret, DL.fin_nx, DL.app1_e, DL.app1K_e, DL.app_e, DL.appO_e, DL.appW_e, DL.appD_e, DL.asg2_e, DL.asg2K_e, DL.asg2L_e, DL.unp_e, DL.unpW_e, DL.unpD_e, DL.goOn_some, DL.goOn_none, DL.bT_e, DL.setL_cons, DL.setL_nil, DL.bN_e, DL.sto1_e, DL.sto_e, DL.stoW_e, DL.stoD_e, DL.sto2_e, DL.sto2K_e, DL.sto2W_e, DL.sto2I_e, DL.sto1K_e, DL.atK_e, DL.ali_e, DL.aliK_true, DL.aliK_false, DL.ali1_e, DL.ali1B_e, DL.ali1O_e, DL.ali1W_e, DL.ali1D_e, DL.forS_e, DL.forK_e, DL.loopB_some, DL.loopK_nx, DL.loopK_cont, DL.loopK_brk, DL.loopK_ret, DL.bin2_e, DL.binK_e, DL.binL_e, DL.un1_e, DL.unK_e, DL.tst_e, DL.tand_e, DL.tandK_true, DL.tandK_false, DL.tor_e, DL.torK_true, DL.torK_false, DL.tnot_e, DL.notK_e, DL.vand_e, DL.vandK_e, DL.vandL_true, DL.vandL_false, DL.vor_e, DL.vorK_e, DL.vorL_true, DL.vorL_false, DL.vnot_e, DL.vnotK_e, DL.vnotL_e, DL.vif_e, DL.vifK_true, DL.vifK_false, DL.anil_e, DL.acons_e, DL.aconsK_e, DL.aconsL_e, DL.call_e, DL.ccall_e, DL.ccallK1, DL.ccallK2, DL.ccallK3, DL.ccallK4, DL.sub_e, DL.subK_e, DL.subH_e, DL.cutK_e, DL.cutL_e, DL.oN_e, DL.oS_e, DL.oSK_e, DL.oI_e, DL.rev_e, DL.revK_e, DL.tup_e, DL.lst_e, DL.mkTup_e, DL.mkLst_e, DL.tupD_e, DL.lstD_e, DL.datas_e, DL.datasK_e, DL.kN_e, DL.kB_e, DL.kI_e, DL.kS_e, DL.kT_e, DL.kD0_e, DL.chainI_e, DL.chA_e, DL.chB_e, DL.chI_e, DL.chJ_e, DL.chG_true, DL.chG_false, DL.chY_e, DL.chC_e, DL.sSeq_e, DL.seqSrc_e, DL.asItems_list, DL.asItems_tuple, DL.sRng1_e, DL.rngW_e, DL.rngI_e, DL.sRng2_e, DL.rngK_e, DL.rngWW_e, DL.rngWI_e, DL.rngJ_e, DL.sZip_e, DL.zipK_e, DL.zipW_e, DL.zipA_e, DL.zipD_list, DL.zipD_tuple, DL.sEnum_e, DL.enumW_e, DL.enumV_e, DL.asList_e, DL.enumL_e, DL.ownR_e, DL.lc_e, DL.tYes_e, List.map_cons, List.map_nil, List.nil_append, List.cons_append, List.length_cons, List.length_nil, List.set_cons_zero, List.set_cons_succ, ite_self, reduceIte, noL_none, noL_bool, noL_int, noL_str, noL_list, noL_tuple, noLs_nil, noLs_cons, Bool.true_and, Bool.false_and, Bool.and_true, Bool.and_self, Bool.false_eq_true, Bool.not_true, Bool.not_false, List.replicate_succ, List.replicate_zero, DL.opEq_e, DL.flip_e, DL.opNe_e, DL.opIn_e, DL.opNotIn_e, DL.opLt_e, DL.opAdd_e, DL.opMul_e, DL.opIx_e, DL.opIsN_e, DL.opNotN_e, DL.opNeg_e, DL.opLe_e, DL.opGt_e, DL.opGe_e, DL.opSub_e, DL.vLt_int, DL.vEq_int, DL.vAdd_int, DL.vAdd_list, DL.vAdd_tuple, DL.vLen_tuple, DL.vLen_list, DL.vInt_int, DL.vTuple_list, DL.vTuple_tuple, DL.vList_list, DL.vList_tuple, DL.vRev_list, DL.vRev_tuple, DL.vCut_list, DL.vCut_tuple, DL.f1_e, DL.f2_e, DL.isNon_none, DL.isNon_int, DL.isi_int, DL.isi_bool, DL.isi_tuple, DL.isi_list, DL.isi_str, DL.isi_dict, dp2]
    intro k hk
    obtain ⟨h1, h2, h3⟩ := h
    cases hk0 : decide ((k : Int) = 0) with
    | true =>
      rw [if_pos rfl]
      refine ⟨d, rfl, fun x hx => h1 x (List.mem_cons_of_mem _ hx), fun x hx => ?_, ?_⟩
      · rcases List.mem_append.mp hx with hx | hx
        · exact h2 x hx
        · exact h1 x (by simp at hx; simp [hx])
      · simp only [List.length_append, List.length_cons, List.length_nil] at h3 ⊢
        omega
    | false =>
      rw [if_neg Bool.false_ne_true]
      refine ⟨fun x hx => h1 x (List.mem_cons_of_mem _ hx), h2, ?_⟩
      simp only [List.length_cons] at h3
      omega
  · obtain ⟨cs, rfl, hc1, hc2⟩ := hw
    (repeat rw [← M.post_bind])
    have nc := noLs_pairs hc2
    have np := noLs_pairs (xs := pairsOf m) fun x hx => pairsOf_pr hx
    have rm : inR (m : Int) = true := by unfold inR; simp; omega
    have rg : rngI (m : Int) = .ok (rng 0 m) := rngI_e rm
    simp (disch := (try simp only [List.length_append, List.length_take, List.length_drop, List.length_reverse, List.length_map, List.length_cons, List.length_nil]); omega) only [DL.sel_true, DL.sel_false, DL.sel_self, DL.okb, DL.excb, DL.badb, DL.pickb, DL.okp, DL.pickp, DL.ddat, DL.down, DL.sdat, DL.sown, DL.sraw, DL.spot, DL.gdat, DL.gown, DL.graw, DL.gpot, DL.asBb, DL.asIi, DL.kBok, DL.noxok, DL.datas0, DL.frz1_own, DL.frz1_dat, DL.frz1_raw, DL.frz1_pot, DL.frz1_none, DL.frz1_nil, DL.frz1_succ, DL.frz_nil, DL.frz_cons, DL.rdv_dat, DL.rdv_raw, DL.rdv_pot, DL.rdv_succ, DL.rtnV_zero, DL.rtnV_succ, DL.ownAt_zero, DL.ownAt_succ, DL.startE_eq, DL.seq_e, DL.seqK_nx, DL.seqK_ret, DL.seqK_brk, DL.seqK_cont, DL.asg_e, DL.asgK_e, DL.rtn_e, DL.rtnK_e, DL.rtnN_e, DL.exs_e, DL.exsK_e, DL.ifs_e, DL.ifsK_true, DL.ifsK_false, DL.skip_e, DL.brkS_e, DL.contS_e, DL.badS_e, DL.body_e, DL.fin_ret, DL.fin_nx, DL.app1_e, DL.app1K_e, DL.app_e, DL.appO_e, DL.appW_e, DL.appD_e, DL.asg2_e, DL.asg2K_e, DL.asg2L_e, DL.unp_e, DL.unpW_e, DL.unpD_e, DL.goOn_some, DL.goOn_none, DL.bT_e, DL.setL_cons, DL.setL_nil, DL.bN_e, DL.sto1_e, DL.sto_e, DL.stoW_e, DL.stoD_e, DL.sto2_e, DL.sto2K_e, DL.sto2W_e, DL.sto2I_e, DL.sto1K_e, DL.atK_e, DL.ali_e, DL.aliK_true, DL.aliK_false, DL.ali1_e, DL.ali1B_e, DL.ali1O_e, DL.ali1W_e, DL.ali1D_e, DL.forS_e, DL.forK_e, DL.loopB_some, DL.loopK_nx, DL.loopK_cont, DL.loopK_brk, DL.loopK_ret, DL.bin2_e, DL.binK_e, DL.binL_e, DL.un1_e, DL.unK_e, DL.tst_e, DL.tand_e, DL.tandK_true, DL.tandK_false, DL.tor_e, DL.torK_true, DL.torK_false, DL.tnot_e, DL.notK_e, DL.vand_e, DL.vandK_e, DL.vandL_true, DL.vandL_false, DL.vor_e, DL.vorK_e, DL.vorL_true, DL.vorL_false, DL.vnot_e, DL.vnotK_e, DL.vnotL_e, DL.vif_e, DL.vifK_true, DL.vifK_false, DL.anil_e, DL.acons_e, DL.aconsK_e, DL.aconsL_e, DL.call_e, DL.ccall_e, DL.ccallK1, DL.ccallK2, DL.ccallK3, DL.ccallK4, DL.sub_e, DL.subK_e, DL.subH_e, DL.cutK_e, DL.cutL_e, DL.oN_e, DL.oS_e, DL.oSK_e, DL.oI_e, DL.rev_e, DL.revK_e, DL.tup_e, DL.lst_e, DL.mkTup_e, DL.mkLst_e, DL.tupD_e, DL.lstD_e, DL.datas_e, DL.datasK_e, DL.kN_e, DL.kB_e, DL.kI_e, DL.kS_e, DL.kT_e, DL.kD0_e, DL.chainI_e, DL.chA_e, DL.chB_e, DL.chI_e, DL.chJ_e, DL.chG_true, DL.chG_false, DL.chY_e, DL.chC_e, DL.sSeq_e, DL.seqSrc_e, DL.asItems_list, DL.asItems_tuple, DL.sRng1_e, DL.rngW_e, DL.rngI_e, DL.sRng2_e, DL.rngK_e, DL.rngWW_e, DL.rngWI_e, DL.rngJ_e, DL.sZip_e, DL.zipK_e, DL.zipW_e, DL.zipA_e, DL.zipD_list, DL.zipD_tuple, DL.sEnum_e, DL.enumW_e, DL.enumV_e, DL.asList_e, DL.enumL_e, DL.ownR_e, DL.lc_e, DL.tYes_e, List.map_cons, List.map_nil, List.nil_append, List.cons_append, List.length_cons, List.length_nil, List.set_cons_zero, List.set_cons_succ, ite_self, reduceIte, noL_none, noL_bool, noL_int, noL_str, noL_list, noL_tuple, noLs_nil, noLs_cons, Bool.true_and, Bool.false_and, Bool.and_true, Bool.and_self, Bool.false_eq_true, Bool.not_true, Bool.not_false, List.replicate_succ, List.replicate_zero, DL.opEq_e, DL.flip_e, DL.opNe_e, DL.opIn_e, DL.opNotIn_e, DL.opLt_e, DL.opAdd_e, DL.opMul_e, DL.opIx_e, DL.opIsN_e, DL.opNotN_e, DL.opNeg_e, DL.opLe_e, DL.opGt_e, DL.opGe_e, DL.opSub_e, DL.vLt_int, DL.vEq_int, DL.vAdd_int, DL.vAdd_list, DL.vAdd_tuple, DL.vLen_tuple, DL.vLen_list, DL.vInt_int, DL.vTuple_list, DL.vTuple_tuple, DL.vList_list, DL.vList_tuple, DL.vRev_list, DL.vRev_tuple, DL.vCut_list, DL.vCut_tuple, DL.f1_e, DL.f2_e, DL.isNon_none, DL.isNon_int, DL.isi_int, DL.isi_bool, DL.isi_tuple, DL.isi_list, DL.isi_str, DL.isi_dict, nc, np, rg]
    have cnt : ∀ ρ : En, (∃ o5, ρ = [some .pot, some (.dat (.int 8)), some (.dat (.int m)), some (.own (pairsOf m)), some (.dat (.list cs)), o5, none, none, none, none, none, none]) → lcK [7] (bN 7) tYes (DL.call (DL.f1 vLen) (acons (lc [5] (sSeq (rdv 4)) (bN 5) (tst (bin2 opIn (rdv 7) (rdv 5))) (rdv 5)) anil)) ρ (rng 0 (m : Int).toNat) = .ok (.own ((rng 0 (m : Int).toNat).map fun p => .int ((cs.filter fun d => isIn p (itm d)).length))) := by
      rintro ρ ⟨o5, rfl⟩
      refine lcK_map _ (by simp [rng]; omega) fun p hp => ⟨_, rfl, rfl, ?_⟩
      obtain ⟨k, _, rfl⟩ := List.mem_map.mp hp
      have c2 : ∀ ρ : En, ρ = [some .pot, some (.dat (.int 8)), some (.dat (.int m)), some (.own (pairsOf m)), some (.dat (.list cs)), o5, none, some (.dat (.int (0 + (k : Int)))), none, none, none, none] → lcK [5] (bN 5) (tst (bin2 opIn (rdv 7) (rdv 5))) (rdv 5) ρ cs = .ok (.own ((cs.filter fun d => isIn (.int (0 + (k : Int))) (itm d)).map fun d => d)) := by
        intro ρ e
        subst e
        refine lcK_ok _ _ (by omega) fun d hd => ⟨_, rfl, ?_, fun _ => ⟨_, rfl, rfl⟩⟩
        obtain ⟨i, j, rfl, _⟩ := isPr_iff.mp (hc2 d hd)
        simp only [wipeE, DL.sel_true, DL.sel_false, DL.sel_self, DL.okb, DL.excb, DL.badb, DL.pickb, DL.okp, DL.pickp, DL.ddat, DL.down, DL.sdat, DL.sown, DL.sraw, DL.spot, DL.gdat, DL.gown, DL.graw, DL.gpot, DL.asBb, DL.asIi, DL.kBok, DL.noxok, DL.datas0, DL.frz1_own, DL.frz1_dat, DL.frz1_raw, DL.frz1_pot, DL.frz1_none, DL.frz1_nil, DL.frz1_succ, DL.frz_nil, DL.frz_cons, DL.rdv_dat, DL.rdv_raw, DL.rdv_pot, DL.rdv_succ, DL.rtnV_zero, DL.rtnV_succ, DL.ownAt_zero, DL.ownAt_succ, DL.startE_eq, DL.seq_e, DL.seqK_nx, DL.seqK_ret, DL.seqK_brk, DL.seqK_cont, DL.asg_e, DL.asgK_e, DL.rtn_e, DL.rtnK_e, DL.rtnN_e, DL.exs_e, DL.exsK_e, DL.ifs_e, DL.ifsK_true, DL.ifsK_false, DL.skip_e, DL.brkS_e, DL.contS_e, DL.badS_e, DL.body_e, DL.fin_ret, DL.fin_nx, DL.app1_e, DL.app1K_e, DL.app_e, DL.appO_e, DL.appW_e, DL.appD_e, DL.asg2_e, DL.asg2K_e, DL.asg2L_e, DL.unp_e, DL.unpW_e, DL.unpD_e, DL.goOn_some, DL.goOn_none, DL.bT_e, DL.setL_cons, DL.setL_nil, DL.bN_e, DL.sto1_e, DL.sto_e, DL.stoW_e, DL.stoD_e, DL.sto2_e, DL.sto2K_e, DL.sto2W_e, DL.sto2I_e, DL.sto1K_e, DL.atK_e, DL.ali_e, DL.aliK_true, DL.aliK_false, DL.ali1_e, DL.ali1B_e, DL.ali1O_e, DL.ali1W_e, DL.ali1D_e, DL.forS_e, DL.forK_e, DL.loopB_some, DL.loopK_nx, DL.loopK_cont, DL.loopK_brk, DL.loopK_ret, DL.bin2_e, DL.binK_e, DL.binL_e, DL.un1_e, DL.unK_e, DL.tst_e, DL.tand_e, DL.tandK_true, DL.tandK_false, DL.tor_e, DL.torK_true, DL.torK_false, DL.tnot_e, DL.notK_e, DL.vand_e, DL.vandK_e, DL.vandL_true, DL.vandL_false, DL.vor_e, DL.vorK_e, DL.vorL_true, DL.vorL_false, DL.vnot_e, DL.vnotK_e, DL.vnotL_e, DL.vif_e, DL.vifK_true, DL.vifK_false, DL.anil_e, DL.acons_e, DL.aconsK_e, DL.aconsL_e, DL.call_e, DL.ccall_e, DL.ccallK1, DL.ccallK2, DL.ccallK3, DL.ccallK4, DL.sub_e, DL.subK_e, DL.subH_e, DL.cutK_e, DL.cutL_e, DL.oN_e, DL.oS_e, DL.oSK_e, DL.oI_e, DL.rev_e, DL.revK_e, DL.tup_e, DL.lst_e, DL.mkTup_e, DL.mkLst_e, DL.tupD_e, DL.lstD_e, DL.datas_e, DL.datasK_e, DL.kN_e, DL.kB_e, DL.kI_e, DL.kS_e, DL.kT_e, DL.kD0_e, DL.chainI_e, DL.chA_e, DL.chB_e, DL.chI_e, DL.chJ_e, DL.chG_true, DL.chG_false, DL.chY_e, DL.chC_e, DL.sSeq_e, DL.seqSrc_e, DL.asItems_list, DL.asItems_tuple, DL.sRng1_e, DL.rngW_e, DL.rngI_e, DL.sRng2_e, DL.rngK_e, DL.rngWW_e, DL.rngWI_e, DL.rngJ_e, DL.sZip_e, DL.zipK_e, DL.zipW_e, DL.zipA_e, DL.zipD_list, DL.zipD_tuple, DL.sEnum_e, DL.enumW_e, DL.enumV_e, DL.asList_e, DL.enumL_e, DL.ownR_e, DL.lc_e, DL.tYes_e, List.map_cons, List.map_nil, List.nil_append, List.cons_append, List.length_cons, List.length_nil, List.set_cons_zero, List.set_cons_succ, ite_self, reduceIte, noL_none, noL_bool, noL_int, noL_str, noL_list, noL_tuple, noLs_nil, noLs_cons, Bool.true_and, Bool.false_and, Bool.and_true, Bool.and_self, Bool.false_eq_true, Bool.not_true, Bool.not_false, List.replicate_succ, List.replicate_zero, DL.opEq_e, DL.flip_e, DL.opNe_e, DL.opIn_e, DL.opNotIn_e, DL.opLt_e, DL.opAdd_e, DL.opMul_e, DL.opIx_e, DL.opIsN_e, DL.opNotN_e, DL.opNeg_e, DL.opLe_e, DL.opGt_e, DL.opGe_e, DL.opSub_e, DL.vLt_int, DL.vEq_int, DL.vAdd_int, DL.vAdd_list, DL.vAdd_tuple, DL.vLen_tuple, DL.vLen_list, DL.vInt_int, DL.vTuple_list, DL.vTuple_tuple, DL.vList_list, DL.vList_tuple, DL.vRev_list, DL.vRev_tuple, DL.vCut_list, DL.vCut_tuple, DL.f1_e, DL.f2_e, DL.isNon_none, DL.isNon_int, DL.isi_int, DL.isi_bool, DL.isi_tuple, DL.isi_list, DL.isi_str, DL.isi_dict, vIn_tuple (a := .int (0 + (k : Int))) (xs := [.int i, .int j]) rfl rfl, itm]
      simp only [wipeE, DL.sel_true, DL.sel_false, DL.sel_self, DL.okb, DL.excb, DL.badb, DL.pickb, DL.okp, DL.pickp, DL.ddat, DL.down, DL.sdat, DL.sown, DL.sraw, DL.spot, DL.gdat, DL.gown, DL.graw, DL.gpot, DL.asBb, DL.asIi, DL.kBok, DL.noxok, DL.datas0, DL.frz1_own, DL.frz1_dat, DL.frz1_raw, DL.frz1_pot, DL.frz1_none, DL.frz1_nil, DL.frz1_succ, DL.frz_nil, DL.frz_cons, DL.rdv_dat, DL.rdv_raw, DL.rdv_pot, DL.rdv_succ, DL.rtnV_zero, DL.rtnV_succ, DL.ownAt_zero, DL.ownAt_succ, DL.startE_eq, DL.seq_e, DL.seqK_nx, DL.seqK_ret, DL.seqK_brk, DL.seqK_cont, DL.asg_e, DL.asgK_e, DL.rtn_e, DL.rtnK_e, DL.rtnN_e, DL.exs_e, DL.exsK_e, DL.ifs_e, DL.ifsK_true, DL.ifsK_false, DL.skip_e, DL.brkS_e, DL.contS_e, DL.badS_e, DL.body_e, DL.fin_ret, DL.fin_nx, DL.app1_e, DL.app1K_e, DL.app_e, DL.appO_e, DL.appW_e, DL.appD_e, DL.asg2_e, DL.asg2K_e, DL.asg2L_e, DL.unp_e, DL.unpW_e, DL.unpD_e, DL.goOn_some, DL.goOn_none, DL.bT_e, DL.setL_cons, DL.setL_nil, DL.bN_e, DL.sto1_e, DL.sto_e, DL.stoW_e, DL.stoD_e, DL.sto2_e, DL.sto2K_e, DL.sto2W_e, DL.sto2I_e, DL.sto1K_e, DL.atK_e, DL.ali_e, DL.aliK_true, DL.aliK_false, DL.ali1_e, DL.ali1B_e, DL.ali1O_e, DL.ali1W_e, DL.ali1D_e, DL.forS_e, DL.forK_e, DL.loopB_some, DL.loopK_nx, DL.loopK_cont, DL.loopK_brk, DL.loopK_ret, DL.bin2_e, DL.binK_e, DL.binL_e, DL.un1_e, DL.unK_e, DL.tst_e, DL.tand_e, DL.tandK_true, DL.tandK_false, DL.tor_e, DL.torK_true, DL.torK_false, DL.tnot_e, DL.notK_e, DL.vand_e, DL.vandK_e, DL.vandL_true, DL.vandL_false, DL.vor_e, DL.vorK_e, DL.vorL_true, DL.vorL_false, DL.vnot_e, DL.vnotK_e, DL.vnotL_e, DL.vif_e, DL.vifK_true, DL.vifK_false, DL.anil_e, DL.acons_e, DL.aconsK_e, DL.aconsL_e, DL.call_e, DL.ccall_e, DL.ccallK1, DL.ccallK2, DL.ccallK3, DL.ccallK4, DL.sub_e, DL.subK_e, DL.subH_e, DL.cutK_e, DL.cutL_e, DL.oN_e, DL.oS_e, DL.oSK_e, DL.oI_e, DL.rev_e, DL.revK_e, DL.tup_e, DL.lst_e, DL.mkTup_e, DL.mkLst_e, DL.tupD_e, DL.lstD_e, DL.datas_e, DL.datasK_e, DL.kN_e, DL.kB_e, DL.kI_e, DL.kS_e, DL.kT_e, DL.kD0_e, DL.chainI_e, DL.chA_e, DL.chB_e, DL.chI_e, DL.chJ_e, DL.chG_true, DL.chG_false, DL.chY_e, DL.chC_e, DL.sSeq_e, DL.seqSrc_e, DL.asItems_list, DL.asItems_tuple, DL.sRng1_e, DL.rngW_e, DL.rngI_e, DL.sRng2_e, DL.rngK_e, DL.rngWW_e, DL.rngWI_e, DL.rngJ_e, DL.sZip_e, DL.zipK_e, DL.zipW_e, DL.zipA_e, DL.zipD_list, DL.zipD_tuple, DL.sEnum_e, DL.enumW_e, DL.enumV_e, DL.asList_e, DL.enumL_e, DL.ownR_e, DL.lc_e, DL.tYes_e, List.map_cons, List.map_nil, List.nil_append, List.cons_append, List.length_cons, List.length_nil, List.set_cons_zero, List.set_cons_succ, ite_self, reduceIte, noL_none, noL_bool, noL_int, noL_str, noL_list, noL_tuple, noLs_nil, noLs_cons, Bool.true_and, Bool.false_and, Bool.and_true, Bool.and_self, Bool.false_eq_true, Bool.not_true, Bool.not_false, List.replicate_succ, List.replicate_zero, DL.opEq_e, DL.flip_e, DL.opNe_e, DL.opIn_e, DL.opNotIn_e, DL.opLt_e, DL.opAdd_e, DL.opMul_e, DL.opIx_e, DL.opIsN_e, DL.opNotN_e, DL.opNeg_e, DL.opLe_e, DL.opGt_e, DL.opGe_e, DL.opSub_e, DL.vLt_int, DL.vEq_int, DL.vAdd_int, DL.vAdd_list, DL.vAdd_tuple, DL.vLen_tuple, DL.vLen_list, DL.vInt_int, DL.vTuple_list, DL.vTuple_tuple, DL.vList_list, DL.vList_tuple, DL.vRev_list, DL.vRev_tuple, DL.vCut_list, DL.vCut_tuple, DL.f1_e, DL.f2_e, DL.isNon_none, DL.isNon_int, DL.isi_int, DL.isi_bool, DL.isi_tuple, DL.isi_list, DL.isi_str, DL.isi_dict, c2, List.length_map]
    simp only [cnt _ ⟨none, rfl⟩]
    (repeat rw [← M.post_bind])
    have dp6 : dPot [.pot, .dat (.int 6)] = .pick 6 fun r => .ok (.dat (.int r)) := dPot_e (by decide) (by decide)
    have dp3 : dPot [.pot, .dat (.int 3)] = .pick 3 fun r => .ok (.dat (.int r)) := dPot_e (by decide) (by decide)
    have dp21 : dPot [.pot, .dat (.int 21)] = .pick 21 fun r => .ok (.dat (.int r)) := dPot_e (by decide) (by decide)
    have dp9 : dPot [.pot, .dat (.int 9)] = .pick 9 fun r => .ok (.dat (.int r)) := dPot_e (by decide) (by decide)
    have dp4 : dPot [.pot, .dat (.int 4)] = .pick 4 fun r => .ok (.dat (.int r)) := dPot_e (by decide) (by decide)
    have dpm : dPot [.pot, .dat (.int m)] = .pick m fun r => .ok (.dat (.int r)) := by rw [dPot_e (by omega) (by omega)]; rfl
    have dpm1 : dPot [.pot, .dat (.int ((m : Int) + 1))] = .pick (m + 1) fun r => .ok (.dat (.int r)) := by rw [dPot_e (by omega) (by omega)]; rfl
    generalize hns : ((rng 0 (m : Int).toNat).map fun p => PyData.int ((cs.filter fun d => isIn p (itm d)).length)) = ns0
    have hn0 : ns0.length = m := by rw [← hns]; simp [rng]
    have hs0 : ∀ x ∈ ns0, sc x = true := by
      intro x hx
      rw [← hns] at hx
      obtain ⟨p, _, rfl⟩ := List.mem_map.mp hx
      have := List.length_filter_le (fun d => isIn p (itm d)) cs
      unfold sc
      rw [decide_eq_true_eq, Int.natAbs_natCast]
      omega
    have hnl : noLs ns0 = true := by
      rw [← hns]
      generalize rng 0 (m : Int).toNat = l
      induction l with
      | nil => simp
      | cons x l ih => simp [ih]
    simp (disch := (try simp only [List.length_append, List.length_take, List.length_drop, List.length_reverse, List.length_map, List.length_cons, List.length_nil]); omega) only [DL.sel_true, DL.sel_false, DL.sel_self, DL.okb, DL.excb, DL.badb, DL.pickb, DL.okp, DL.pickp, DL.ddat, DL.down, DL.sdat, DL.sown, DL.sraw, DL.spot, DL.gdat, DL.gown, DL.graw, DL.gpot, DL.asBb, DL.asIi, DL.kBok, DL.noxok, DL.datas0, DL.frz1_own, DL.frz1_dat, DL.frz1_raw, DL.frz1_pot, DL.frz1_none, DL.frz1_nil, DL.frz1_succ, DL.frz_nil, DL.frz_cons, DL.rdv_dat, DL.rdv_raw, DL.rdv_pot, DL.rdv_succ, DL.rtnV_zero, DL.rtnV_succ, DL.ownAt_zero, DL.ownAt_succ, DL.startE_eq, DL.seq_e, DL.seqK_nx, DL.seqK_ret, DL.seqK_brk, DL.seqK_cont, DL.asg_e, DL.asgK_e, DL.rtn_e, DL.rtnK_e, DL.rtnN_e, DL.exs_e, DL.exsK_e, DL.ifs_e, DL.ifsK_true, DL.ifsK_false, DL.skip_e, DL.brkS_e, DL.contS_e, DL.badS_e, DL.body_e, DL.fin_ret, DL.fin_nx, DL.app1_e, DL.app1K_e, DL.app_e, DL.appO_e, DL.appW_e, DL.appD_e, DL.asg2_e, DL.asg2K_e, DL.asg2L_e, DL.unp_e, DL.unpW_e, DL.unpD_e, DL.goOn_some, DL.goOn_none, DL.bT_e, DL.setL_cons, DL.setL_nil, DL.bN_e, DL.sto1_e, DL.sto_e, DL.stoW_e, DL.stoD_e, DL.sto2_e, DL.sto2K_e, DL.sto2W_e, DL.sto2I_e, DL.sto1K_e, DL.atK_e, DL.ali_e, DL.aliK_true, DL.aliK_false, DL.ali1_e, DL.ali1B_e, DL.ali1O_e, DL.ali1W_e, DL.ali1D_e, DL.forS_e, DL.forK_e, DL.loopB_some, DL.loopK_nx, DL.loopK_cont, DL.loopK_brk, DL.loopK_ret, DL.bin2_e, DL.binK_e, DL.binL_e, DL.un1_e, DL.unK_e, DL.tst_e, DL.tand_e, DL.tandK_true, DL.tandK_false, DL.tor_e, DL.torK_true, DL.torK_false, DL.tnot_e, DL.notK_e, DL.vand_e, DL.vandK_e, DL.vandL_true, DL.vandL_false, DL.vor_e, DL.vorK_e, DL.vorL_true, DL.vorL_false, DL.vnot_e, DL.vnotK_e, DL.vnotL_e, DL.vif_e, DL.vifK_true, DL.vifK_false, DL.anil_e, DL.acons_e, DL.aconsK_e, DL.aconsL_e, DL.call_e, DL.ccall_e, DL.ccallK1, DL.ccallK2, DL.ccallK3, DL.ccallK4, DL.sub_e, DL.subK_e, DL.subH_e, DL.cutK_e, DL.cutL_e, DL.oN_e, DL.oS_e, DL.oSK_e, DL.oI_e, DL.rev_e, DL.revK_e, DL.tup_e, DL.lst_e, DL.mkTup_e, DL.mkLst_e, DL.tupD_e, DL.lstD_e, DL.datas_e, DL.datasK_e, DL.kN_e, DL.kB_e, DL.kI_e, DL.kS_e, DL.kT_e, DL.kD0_e, DL.chainI_e, DL.chA_e, DL.chB_e, DL.chI_e, DL.chJ_e, DL.chG_true, DL.chG_false, DL.chY_e, DL.chC_e, DL.sSeq_e, DL.seqSrc_e, DL.asItems_list, DL.asItems_tuple, DL.sRng1_e, DL.rngW_e, DL.rngI_e, DL.sRng2_e, DL.rngK_e, DL.rngWW_e, DL.rngWI_e, DL.rngJ_e, DL.sZip_e, DL.zipK_e, DL.zipW_e, DL.zipA_e, DL.zipD_list, DL.zipD_tuple, DL.sEnum_e, DL.enumW_e, DL.enumV_e, DL.asList_e, DL.enumL_e, DL.ownR_e, DL.lc_e, DL.tYes_e, List.map_cons, List.map_nil, List.nil_append, List.cons_append, List.length_cons, List.length_nil, List.set_cons_zero, List.set_cons_succ, ite_self, reduceIte, noL_none, noL_bool, noL_int, noL_str, noL_list, noL_tuple, noLs_nil, noLs_cons, Bool.true_and, Bool.false_and, Bool.and_true, Bool.and_self, Bool.false_eq_true, Bool.not_true, Bool.not_false, List.replicate_succ, List.replicate_zero, DL.opEq_e, DL.flip_e, DL.opNe_e, DL.opIn_e, DL.opNotIn_e, DL.opLt_e, DL.opAdd_e, DL.opMul_e, DL.opIx_e, DL.opIsN_e, DL.opNotN_e, DL.opNeg_e, DL.opLe_e, DL.opGt_e, DL.opGe_e, DL.opSub_e, DL.vLt_int, DL.vEq_int, DL.vAdd_int, DL.vAdd_list, DL.vAdd_tuple, DL.vLen_tuple, DL.vLen_list, DL.vInt_int, DL.vTuple_list, DL.vTuple_tuple, DL.vList_list, DL.vList_tuple, DL.vRev_list, DL.vRev_tuple, DL.vCut_list, DL.vCut_tuple, DL.f1_e, DL.f2_e, DL.isNon_none, DL.isNon_int, DL.isi_int, DL.isi_bool, DL.isi_tuple, DL.isi_list, DL.isi_str, DL.isi_dict, hnl, rg]
    (repeat rw [M.post_bind])
    refine post_use (loop_pst (P := fun fl => ∃ ns o7, fl = .nx [some .pot, some (.dat (.int 8)), some (.dat (.int m)), some (.own (pairsOf m)), some (.own cs), none, some (.own ns), o7, none, none, none, none] ∧ ns.length = m ∧ ∀ x ∈ ns, sc x = true)
      (fun ds ρ => ∃ ns o7, ρ = [some .pot, some (.dat (.int 8)), some (.dat (.int m)), some (.own (pairsOf m)), some (.own cs), none, some (.own ns), o7, none, none, none, none] ∧ ns.length = m ∧ (∀ x ∈ ns, sc x = true) ∧ ∀ d ∈ ds, ∃ k : Nat, d = .int (0 + (k : Int)) ∧ k < m) ?_ ?_ ?_) fun fl hfl => ?_
    · refine ⟨ns0, none, rfl, hn0, hs0, fun d hd => ?_⟩
      obtain ⟨k, hk, rfl⟩ := List.mem_map.mp hd
      exact ⟨k, rfl, by simpa using hk⟩
    · rintro ρ ⟨ns, o7, rfl, h1, h2, _⟩
      exact ⟨ns, o7, rfl, h1, h2⟩
    · rintro d ds ρ ⟨ns, o7, rfl, h1, h2, h3⟩
      obtain ⟨k, rfl, hk⟩ := h3 d (List.mem_cons_self ..)
      have h3' := fun d hd => h3 d (List.mem_cons_of_mem _ hd)
      refine ⟨_, rfl, ?_⟩
      simp only [DL.sel_true, DL.sel_false, DL.sel_self, DL.okb, DL.excb, DL.badb, DL.pickb, DL.okp, DL.pickp, DL.ddat, DL.down, DL.sdat, DL.sown, DL.sraw, DL.spot, DL.gdat, DL.gown, DL.graw, DL.gpot, DL.asBb, DL.asIi, DL.kBok, DL.noxok, DL.datas0, DL.frz1_own, DL.frz1_dat, DL.frz1_raw, DL.frz1_pot, DL.frz1_none, DL.frz1_nil, DL.frz1_succ, DL.frz_nil, DL.frz_cons, DL.rdv_dat, DL.rdv_raw, DL.rdv_pot, DL.rdv_succ, DL.rtnV_zero, DL.rtnV_succ, DL.ownAt_zero, DL.ownAt_succ, DL.startE_eq, DL.seq_e, DL.seqK_nx, DL.seqK_ret, DL.seqK_brk, DL.seqK_cont, DL.asg_e, DL.asgK_e, DL.rtn_e, DL.rtnK_e, DL.rtnN_e, DL.exs_e, DL.exsK_e, DL.ifs_e, DL.ifsK_true, DL.ifsK_false, DL.skip_e, DL.brkS_e, DL.contS_e, DL.badS_e, DL.body_e, DL.fin_ret, DL.fin_nx, DL.app1_e, DL.app1K_e, DL.app_e, DL.appO_e, DL.appW_e, DL.appD_e, DL.asg2_e, DL.asg2K_e, DL.asg2L_e, DL.unp_e, DL.unpW_e, DL.unpD_e, DL.goOn_some, DL.goOn_none, DL.bT_e, DL.setL_cons, DL.setL_nil, DL.bN_e, DL.sto1_e, DL.sto_e, DL.stoW_e, DL.stoD_e, DL.sto2_e, DL.sto2K_e, DL.sto2W_e, DL.sto2I_e, DL.sto1K_e, DL.atK_e, DL.ali_e, DL.aliK_true, DL.aliK_false, DL.ali1_e, DL.ali1B_e, DL.ali1O_e, DL.ali1W_e, DL.ali1D_e, DL.forS_e, DL.forK_e, DL.loopB_some, DL.loopK_nx, DL.loopK_cont, DL.loopK_brk, DL.loopK_ret, DL.bin2_e, DL.binK_e, DL.binL_e, DL.un1_e, DL.unK_e, DL.tst_e, DL.tand_e, DL.tandK_true, DL.tandK_false, DL.tor_e, DL.torK_true, DL.torK_false, DL.tnot_e, DL.notK_e, DL.vand_e, DL.vandK_e, DL.vandL_true, DL.vandL_false, DL.vor_e, DL.vorK_e, DL.vorL_true, DL.vorL_false, DL.vnot_e, DL.vnotK_e, DL.vnotL_e, DL.vif_e, DL.vifK_true, DL.vifK_false, DL.anil_e, DL.acons_e, DL.aconsK_e, DL.aconsL_e, DL.call_e, DL.ccall_e, DL.ccallK1, DL.ccallK2, DL.ccallK3, DL.ccallK4, DL.sub_e, DL.subK_e, DL.subH_e, DL.cutK_e, DL.cutL_e, DL.oN_e, DL.oS_e, DL.oSK_e, DL.oI_e, DL.rev_e, DL.revK_e, DL.tup_e, DL.lst_e, DL.mkTup_e, DL.mkLst_e, DL.tupD_e, DL.lstD_e, DL.datas_e, DL.datasK_e, DL.kN_e, DL.kB_e, DL.kI_e, DL.kS_e, DL.kT_e, DL.kD0_e, DL.chainI_e, DL.chA_e, DL.chB_e, DL.chI_e, DL.chJ_e, DL.chG_true, DL.chG_false, DL.chY_e, DL.chC_e, DL.sSeq_e, DL.seqSrc_e, DL.asItems_list, DL.asItems_tuple, DL.sRng1_e, DL.rngW_e, DL.rngI_e, DL.sRng2_e, DL.rngK_e, DL.rngWW_e, DL.rngWI_e, DL.rngJ_e, DL.sZip_e, DL.zipK_e, DL.zipW_e, DL.zipA_e, DL.zipD_list, DL.zipD_tuple, DL.sEnum_e, DL.enumW_e, DL.enumV_e, DL.asList_e, DL.enumL_e, DL.ownR_e, DL.lc_e, DL.tYes_e, List.map_cons, List.map_nil, List.nil_append, List.cons_append, List.length_cons, List.length_nil, List.set_cons_zero, List.set_cons_succ, ite_self, reduceIte, noL_none, noL_bool, noL_int, noL_str, noL_list, noL_tuple, noLs_nil, noLs_cons, Bool.true_and, Bool.false_and, Bool.and_true, Bool.and_self, Bool.false_eq_true, Bool.not_true, Bool.not_false, List.replicate_succ, List.replicate_zero, DL.opEq_e, DL.flip_e, DL.opNe_e, DL.opIn_e, DL.opNotIn_e, DL.opLt_e, DL.opAdd_e, DL.opMul_e, DL.opIx_e, DL.opIsN_e, DL.opNotN_e, DL.opNeg_e, DL.opLe_e, DL.opGt_e, DL.opGe_e, DL.opSub_e, DL.vLt_int, DL.vEq_int, DL.vAdd_int, DL.vAdd_list, DL.vAdd_tuple, DL.vLen_tuple, DL.vLen_list, DL.vInt_int, DL.vTuple_list, DL.vTuple_tuple, DL.vList_list, DL.vList_tuple, DL.vRev_list, DL.vRev_tuple, DL.vCut_list, DL.vCut_tuple, DL.f1_e, DL.f2_e, DL.isNon_none, DL.isNon_int, DL.isi_int, DL.isi_bool, DL.isi_tuple, DL.isi_list, DL.isi_str, DL.isi_dict, dp6]
      intro q hq
      cases hq0 : decide ((q : Int) = 0) with
      | false =>
        simp only [DL.sel_true, DL.sel_false, DL.sel_self, DL.okb, DL.excb, DL.badb, DL.pickb, DL.okp, DL.pickp, DL.ddat, DL.down, DL.sdat, DL.sown, DL.sraw, DL.spot, DL.gdat, DL.gown, DL.graw, DL.gpot, DL.asBb, DL.asIi, DL.kBok, DL.noxok, DL.datas0, DL.frz1_own, DL.frz1_dat, DL.frz1_raw, DL.frz1_pot, DL.frz1_none, DL.frz1_nil, DL.frz1_succ, DL.frz_nil, DL.frz_cons, DL.rdv_dat, DL.rdv_raw, DL.rdv_pot, DL.rdv_succ, DL.rtnV_zero, DL.rtnV_succ, DL.ownAt_zero, DL.ownAt_succ, DL.startE_eq, DL.seq_e, DL.seqK_nx, DL.seqK_ret, DL.seqK_brk, DL.seqK_cont, DL.asg_e, DL.asgK_e, DL.rtn_e, DL.rtnK_e, DL.rtnN_e, DL.exs_e, DL.exsK_e, DL.ifs_e, DL.ifsK_true, DL.ifsK_false, DL.skip_e, DL.brkS_e, DL.contS_e, DL.badS_e, DL.body_e, DL.fin_ret, DL.fin_nx, DL.app1_e, DL.app1K_e, DL.app_e, DL.appO_e, DL.appW_e, DL.appD_e, DL.asg2_e, DL.asg2K_e, DL.asg2L_e, DL.unp_e, DL.unpW_e, DL.unpD_e, DL.goOn_some, DL.goOn_none, DL.bT_e, DL.setL_cons, DL.setL_nil, DL.bN_e, DL.sto1_e, DL.sto_e, DL.stoW_e, DL.stoD_e, DL.sto2_e, DL.sto2K_e, DL.sto2W_e, DL.sto2I_e, DL.sto1K_e, DL.atK_e, DL.ali_e, DL.aliK_true, DL.aliK_false, DL.ali1_e, DL.ali1B_e, DL.ali1O_e, DL.ali1W_e, DL.ali1D_e, DL.forS_e, DL.forK_e, DL.loopB_some, DL.loopK_nx, DL.loopK_cont, DL.loopK_brk, DL.loopK_ret, DL.bin2_e, DL.binK_e, DL.binL_e, DL.un1_e, DL.unK_e, DL.tst_e, DL.tand_e, DL.tandK_true, DL.tandK_false, DL.tor_e, DL.torK_true, DL.torK_false, DL.tnot_e, DL.notK_e, DL.vand_e, DL.vandK_e, DL.vandL_true, DL.vandL_false, DL.vor_e, DL.vorK_e, DL.vorL_true, DL.vorL_false, DL.vnot_e, DL.vnotK_e, DL.vnotL_e, DL.vif_e, DL.vifK_true, DL.vifK_false, DL.anil_e, DL.acons_e, DL.aconsK_e, DL.aconsL_e, DL.call_e, DL.ccall_e, DL.ccallK1, DL.ccallK2, DL.ccallK3, DL.ccallK4, DL.sub_e, DL.subK_e, DL.subH_e, DL.cutK_e, DL.cutL_e, DL.oN_e, DL.oS_e, DL.oSK_e, DL.oI_e, DL.rev_e, DL.revK_e, DL.tup_e, DL.lst_e, DL.mkTup_e, DL.mkLst_e, DL.tupD_e, DL.lstD_e, DL.datas_e, DL.datasK_e, DL.kN_e, DL.kB_e, DL.kI_e, DL.kS_e, DL.kT_e, DL.kD0_e, DL.chainI_e, DL.chA_e, DL.chB_e, DL.chI_e, DL.chJ_e, DL.chG_true, DL.chG_false, DL.chY_e, DL.chC_e, DL.sSeq_e, DL.seqSrc_e, DL.asItems_list, DL.asItems_tuple, DL.sRng1_e, DL.rngW_e, DL.rngI_e, DL.sRng2_e, DL.rngK_e, DL.rngWW_e, DL.rngWI_e, DL.rngJ_e, DL.sZip_e, DL.zipK_e, DL.zipW_e, DL.zipA_e, DL.zipD_list, DL.zipD_tuple, DL.sEnum_e, DL.enumW_e, DL.enumV_e, DL.asList_e, DL.enumL_e, DL.ownR_e, DL.lc_e, DL.tYes_e, List.map_cons, List.map_nil, List.nil_append, List.cons_append, List.length_cons, List.length_nil, List.set_cons_zero, List.set_cons_succ, ite_self, reduceIte, noL_none, noL_bool, noL_int, noL_str, noL_list, noL_tuple, noLs_nil, noLs_cons, Bool.true_and, Bool.false_and, Bool.and_true, Bool.and_self, Bool.false_eq_true, Bool.not_true, Bool.not_false, List.replicate_succ, List.replicate_zero, DL.opEq_e, DL.flip_e, DL.opNe_e, DL.opIn_e, DL.opNotIn_e, DL.opLt_e, DL.opAdd_e, DL.opMul_e, DL.opIx_e, DL.opIsN_e, DL.opNotN_e, DL.opNeg_e, DL.opLe_e, DL.opGt_e, DL.opGe_e, DL.opSub_e, DL.vLt_int, DL.vEq_int, DL.vAdd_int, DL.vAdd_list, DL.vAdd_tuple, DL.vLen_tuple, DL.vLen_list, DL.vInt_int, DL.vTuple_list, DL.vTuple_tuple, DL.vList_list, DL.vList_tuple, DL.vRev_list, DL.vRev_tuple, DL.vCut_list, DL.vCut_tuple, DL.f1_e, DL.f2_e, DL.isNon_none, DL.isNon_int, DL.isi_int, DL.isi_bool, DL.isi_tuple, DL.isi_list, DL.isi_str, DL.isi_dict]
        exact ⟨ns, _, rfl, h1, h2, h3'⟩
      | true =>
        have ix : L2.ixN ns.length (0 + (k : Int)) = some k := by rw [Int.zero_add]; exact ixN_nat (by omega)
        simp only [DL.sel_true, DL.sel_false, DL.sel_self, DL.okb, DL.excb, DL.badb, DL.pickb, DL.okp, DL.pickp, DL.ddat, DL.down, DL.sdat, DL.sown, DL.sraw, DL.spot, DL.gdat, DL.gown, DL.graw, DL.gpot, DL.asBb, DL.asIi, DL.kBok, DL.noxok, DL.datas0, DL.frz1_own, DL.frz1_dat, DL.frz1_raw, DL.frz1_pot, DL.frz1_none, DL.frz1_nil, DL.frz1_succ, DL.frz_nil, DL.frz_cons, DL.rdv_dat, DL.rdv_raw, DL.rdv_pot, DL.rdv_succ, DL.rtnV_zero, DL.rtnV_succ, DL.ownAt_zero, DL.ownAt_succ, DL.startE_eq, DL.seq_e, DL.seqK_nx, DL.seqK_ret, DL.seqK_brk, DL.seqK_cont, DL.asg_e, DL.asgK_e, DL.rtn_e, DL.rtnK_e, DL.rtnN_e, DL.exs_e, DL.exsK_e, DL.ifs_e, DL.ifsK_true, DL.ifsK_false, DL.skip_e, DL.brkS_e, DL.contS_e, DL.badS_e, DL.body_e, DL.fin_ret, DL.fin_nx, DL.app1_e, DL.app1K_e, DL.app_e, DL.appO_e, DL.appW_e, DL.appD_e, DL.asg2_e, DL.asg2K_e, DL.asg2L_e, DL.unp_e, DL.unpW_e, DL.unpD_e, DL.goOn_some, DL.goOn_none, DL.bT_e, DL.setL_cons, DL.setL_nil, DL.bN_e, DL.sto1_e, DL.sto_e, DL.stoW_e, DL.stoD_e, DL.sto2_e, DL.sto2K_e, DL.sto2W_e, DL.sto2I_e, DL.sto1K_e, DL.atK_e, DL.ali_e, DL.aliK_true, DL.aliK_false, DL.ali1_e, DL.ali1B_e, DL.ali1O_e, DL.ali1W_e, DL.ali1D_e, DL.forS_e, DL.forK_e, DL.loopB_some, DL.loopK_nx, DL.loopK_cont, DL.loopK_brk, DL.loopK_ret, DL.bin2_e, DL.binK_e, DL.binL_e, DL.un1_e, DL.unK_e, DL.tst_e, DL.tand_e, DL.tandK_true, DL.tandK_false, DL.tor_e, DL.torK_true, DL.torK_false, DL.tnot_e, DL.notK_e, DL.vand_e, DL.vandK_e, DL.vandL_true, DL.vandL_false, DL.vor_e, DL.vorK_e, DL.vorL_true, DL.vorL_false, DL.vnot_e, DL.vnotK_e, DL.vnotL_e, DL.vif_e, DL.vifK_true, DL.vifK_false, DL.anil_e, DL.acons_e, DL.aconsK_e, DL.aconsL_e, DL.call_e, DL.ccall_e, DL.ccallK1, DL.ccallK2, DL.ccallK3, DL.ccallK4, DL.sub_e, DL.subK_e, DL.subH_e, DL.cutK_e, DL.cutL_e, DL.oN_e, DL.oS_e, DL.oSK_e, DL.oI_e, DL.rev_e, DL.revK_e, DL.tup_e, DL.lst_e, DL.mkTup_e, DL.mkLst_e, DL.tupD_e, DL.lstD_e, DL.datas_e, DL.datasK_e, DL.kN_e, DL.kB_e, DL.kI_e, DL.kS_e, DL.kT_e, DL.kD0_e, DL.chainI_e, DL.chA_e, DL.chB_e, DL.chI_e, DL.chJ_e, DL.chG_true, DL.chG_false, DL.chY_e, DL.chC_e, DL.sSeq_e, DL.seqSrc_e, DL.asItems_list, DL.asItems_tuple, DL.sRng1_e, DL.rngW_e, DL.rngI_e, DL.sRng2_e, DL.rngK_e, DL.rngWW_e, DL.rngWI_e, DL.rngJ_e, DL.sZip_e, DL.zipK_e, DL.zipW_e, DL.zipA_e, DL.zipD_list, DL.zipD_tuple, DL.sEnum_e, DL.enumW_e, DL.enumV_e, DL.asList_e, DL.enumL_e, DL.ownR_e, DL.lc_e, DL.tYes_e, List.map_cons, List.map_nil, List.nil_append, List.cons_append, List.length_cons, List.length_nil, List.set_cons_zero, List.set_cons_succ, ite_self, reduceIte, noL_none, noL_bool, noL_int, noL_str, noL_list, noL_tuple, noLs_nil, noLs_cons, Bool.true_and, Bool.false_and, Bool.and_true, Bool.and_self, Bool.false_eq_true, Bool.not_true, Bool.not_false, List.replicate_succ, List.replicate_zero, DL.opEq_e, DL.flip_e, DL.opNe_e, DL.opIn_e, DL.opNotIn_e, DL.opLt_e, DL.opAdd_e, DL.opMul_e, DL.opIx_e, DL.opIsN_e, DL.opNotN_e, DL.opNeg_e, DL.opLe_e, DL.opGt_e, DL.opGe_e, DL.opSub_e, DL.vLt_int, DL.vEq_int, DL.vAdd_int, DL.vAdd_list, DL.vAdd_tuple, DL.vLen_tuple, DL.vLen_list, DL.vInt_int, DL.vTuple_list, DL.vTuple_tuple, DL.vList_list, DL.vList_tuple, DL.vRev_list, DL.vRev_tuple, DL.vCut_list, DL.vCut_tuple, DL.f1_e, DL.f2_e, DL.isNon_none, DL.isNon_int, DL.isi_int, DL.isi_bool, DL.isi_tuple, DL.isi_list, DL.isi_str, DL.isi_dict, ix, Option.map_some]
        refine ⟨ns.set k .none, _, rfl, by rw [List.length_set]; exact h1, fun x hx => ?_, h3'⟩
        rcases List.mem_or_eq_of_mem_set hx with hx | rfl
        · exact h2 x hx
        · rfl
    · obtain ⟨ns, o7, rfl, h1, h2⟩ := hfl
      (repeat rw [← M.post_bind])
      simp (disch := (try simp only [List.length_append, List.length_take, List.length_drop, List.length_reverse, List.length_map, List.length_cons, List.length_nil]); omega) only [DL.sel_true, DL.sel_false, DL.sel_self, DL.okb, DL.excb, DL.badb, DL.pickb, DL.okp, DL.pickp, DL.ddat, DL.down, DL.sdat, DL.sown, DL.sraw, DL.spot, DL.gdat, DL.gown, DL.graw, DL.gpot, DL.asBb, DL.asIi, DL.kBok, DL.noxok, DL.datas0, DL.frz1_own, DL.frz1_dat, DL.frz1_raw, DL.frz1_pot, DL.frz1_none, DL.frz1_nil, DL.frz1_succ, DL.frz_nil, DL.frz_cons, DL.rdv_dat, DL.rdv_raw, DL.rdv_pot, DL.rdv_succ, DL.rtnV_zero, DL.rtnV_succ, DL.ownAt_zero, DL.ownAt_succ, DL.startE_eq, DL.seq_e, DL.seqK_nx, DL.seqK_ret, DL.seqK_brk, DL.seqK_cont, DL.asg_e, DL.asgK_e, DL.rtn_e, DL.rtnK_e, DL.rtnN_e, DL.exs_e, DL.exsK_e, DL.ifs_e, DL.ifsK_true, DL.ifsK_false, DL.skip_e, DL.brkS_e, DL.contS_e, DL.badS_e, DL.body_e, DL.fin_ret, DL.fin_nx, DL.app1_e, DL.app1K_e, DL.app_e, DL.appO_e, DL.appW_e, DL.appD_e, DL.asg2_e, DL.asg2K_e, DL.asg2L_e, DL.unp_e, DL.unpW_e, DL.unpD_e, DL.goOn_some, DL.goOn_none, DL.bT_e, DL.setL_cons, DL.setL_nil, DL.bN_e, DL.sto1_e, DL.sto_e, DL.stoW_e, DL.stoD_e, DL.sto2_e, DL.sto2K_e, DL.sto2W_e, DL.sto2I_e, DL.sto1K_e, DL.atK_e, DL.ali_e, DL.aliK_true, DL.aliK_false, DL.ali1_e, DL.ali1B_e, DL.ali1O_e, DL.ali1W_e, DL.ali1D_e, DL.forS_e, DL.forK_e, DL.loopB_some, DL.loopK_nx, DL.loopK_cont, DL.loopK_brk, DL.loopK_ret, DL.bin2_e, DL.binK_e, DL.binL_e, DL.un1_e, DL.unK_e, DL.tst_e, DL.tand_e, DL.tandK_true, DL.tandK_false, DL.tor_e, DL.torK_true, DL.torK_false, DL.tnot_e, DL.notK_e, DL.vand_e, DL.vandK_e, DL.vandL_true, DL.vandL_false, DL.vor_e, DL.vorK_e, DL.vorL_true, DL.vorL_false, DL.vnot_e, DL.vnotK_e, DL.vnotL_e, DL.vif_e, DL.vifK_true, DL.vifK_false, DL.anil_e, DL.acons_e, DL.aconsK_e, DL.aconsL_e, DL.call_e, DL.ccall_e, DL.ccallK1, DL.ccallK2, DL.ccallK3, DL.ccallK4, DL.sub_e, DL.subK_e, DL.subH_e, DL.cutK_e, DL.cutL_e, DL.oN_e, DL.oS_e, DL.oSK_e, DL.oI_e, DL.rev_e, DL.revK_e, DL.tup_e, DL.lst_e, DL.mkTup_e, DL.mkLst_e, DL.tupD_e, DL.lstD_e, DL.datas_e, DL.datasK_e, DL.kN_e, DL.kB_e, DL.kI_e, DL.kS_e, DL.kT_e, DL.kD0_e, DL.chainI_e, DL.chA_e, DL.chB_e, DL.chI_e, DL.chJ_e, DL.chG_true, DL.chG_false, DL.chY_e, DL.chC_e, DL.sSeq_e, DL.seqSrc_e, DL.asItems_list, DL.asItems_tuple, DL.sRng1_e, DL.rngW_e, DL.rngI_e, DL.sRng2_e, DL.rngK_e, DL.rngWW_e, DL.rngWI_e, DL.rngJ_e, DL.sZip_e, DL.zipK_e, DL.zipW_e, DL.zipA_e, DL.zipD_list, DL.zipD_tuple, DL.sEnum_e, DL.enumW_e, DL.enumV_e, DL.asList_e, DL.enumL_e, DL.ownR_e, DL.lc_e, DL.tYes_e, List.map_cons, List.map_nil, List.nil_append, List.cons_append, List.length_cons, List.length_nil, List.set_cons_zero, List.set_cons_succ, ite_self, reduceIte, noL_none, noL_bool, noL_int, noL_str, noL_list, noL_tuple, noLs_nil, noLs_cons, Bool.true_and, Bool.false_and, Bool.and_true, Bool.and_self, Bool.false_eq_true, Bool.not_true, Bool.not_false, List.replicate_succ, List.replicate_zero, DL.opEq_e, DL.flip_e, DL.opNe_e, DL.opIn_e, DL.opNotIn_e, DL.opLt_e, DL.opAdd_e, DL.opMul_e, DL.opIx_e, DL.opIsN_e, DL.opNotN_e, DL.opNeg_e, DL.opLe_e, DL.opGt_e, DL.opGe_e, DL.opSub_e, DL.vLt_int, DL.vEq_int, DL.vAdd_int, DL.vAdd_list, DL.vAdd_tuple, DL.vLen_tuple, DL.vLen_list, DL.vInt_int, DL.vTuple_list, DL.vTuple_tuple, DL.vList_list, DL.vList_tuple, DL.vRev_list, DL.vRev_tuple, DL.vCut_list, DL.vCut_tuple, DL.f1_e, DL.f2_e, DL.isNon_none, DL.isNon_int, DL.isi_int, DL.isi_bool, DL.isi_tuple, DL.isi_list, DL.isi_str, DL.isi_dict, dp3]
      intro q hq
      (repeat rw [M.post_bind])
      refine post_use (R := fun fl => ∃ ns, fl = .nx [some .pot, some (.dat (.int 8)), some (.dat (.int m)), some (.own (pairsOf m)), some (.own cs), none, some (.own ns), o7, none, none, none, none] ∧ ns.length = m ∧ ∀ x ∈ ns, sc x = true) ⟨?_⟩ fun fl hfl => ?_
      · cases hq0 : decide ((q : Int) = 0) with
        | false =>
          rw [ifsK_false, skip_e]
          exact ⟨ns, rfl, h1, h2⟩
        | true =>
          simp only [DL.sel_true, DL.sel_false, DL.sel_self, DL.okb, DL.excb, DL.badb, DL.pickb, DL.okp, DL.pickp, DL.ddat, DL.down, DL.sdat, DL.sown, DL.sraw, DL.spot, DL.gdat, DL.gown, DL.graw, DL.gpot, DL.asBb, DL.asIi, DL.kBok, DL.noxok, DL.datas0, DL.frz1_own, DL.frz1_dat, DL.frz1_raw, DL.frz1_pot, DL.frz1_none, DL.frz1_nil, DL.frz1_succ, DL.frz_nil, DL.frz_cons, DL.rdv_dat, DL.rdv_raw, DL.rdv_pot, DL.rdv_succ, DL.rtnV_zero, DL.rtnV_succ, DL.ownAt_zero, DL.ownAt_succ, DL.startE_eq, DL.seq_e, DL.seqK_nx, DL.seqK_ret, DL.seqK_brk, DL.seqK_cont, DL.asg_e, DL.asgK_e, DL.rtn_e, DL.rtnK_e, DL.rtnN_e, DL.exs_e, DL.exsK_e, DL.ifs_e, DL.ifsK_true, DL.ifsK_false, DL.skip_e, DL.brkS_e, DL.contS_e, DL.badS_e, DL.body_e, DL.fin_ret, DL.fin_nx, DL.app1_e, DL.app1K_e, DL.app_e, DL.appO_e, DL.appW_e, DL.appD_e, DL.asg2_e, DL.asg2K_e, DL.asg2L_e, DL.unp_e, DL.unpW_e, DL.unpD_e, DL.goOn_some, DL.goOn_none, DL.bT_e, DL.setL_cons, DL.setL_nil, DL.bN_e, DL.sto1_e, DL.sto_e, DL.stoW_e, DL.stoD_e, DL.sto2_e, DL.sto2K_e, DL.sto2W_e, DL.sto2I_e, DL.sto1K_e, DL.atK_e, DL.ali_e, DL.aliK_true, DL.aliK_false, DL.ali1_e, DL.ali1B_e, DL.ali1O_e, DL.ali1W_e, DL.ali1D_e, DL.forS_e, DL.forK_e, DL.loopB_some, DL.loopK_nx, DL.loopK_cont, DL.loopK_brk, DL.loopK_ret, DL.bin2_e, DL.binK_e, DL.binL_e, DL.un1_e, DL.unK_e, DL.tst_e, DL.tand_e, DL.tandK_true, DL.tandK_false, DL.tor_e, DL.torK_true, DL.torK_false, DL.tnot_e, DL.notK_e, DL.vand_e, DL.vandK_e, DL.vandL_true, DL.vandL_false, DL.vor_e, DL.vorK_e, DL.vorL_true, DL.vorL_false, DL.vnot_e, DL.vnotK_e, DL.vnotL_e, DL.vif_e, DL.vifK_true, DL.vifK_false, DL.anil_e, DL.acons_e, DL.aconsK_e, DL.aconsL_e, DL.call_e, DL.ccall_e, DL.ccallK1, DL.ccallK2, DL.ccallK3, DL.ccallK4, DL.sub_e, DL.subK_e, DL.subH_e, DL.cutK_e, DL.cutL_e, DL.oN_e, DL.oS_e, DL.oSK_e, DL.oI_e, DL.rev_e, DL.revK_e, DL.tup_e, DL.lst_e, DL.mkTup_e, DL.mkLst_e, DL.tupD_e, DL.lstD_e, DL.datas_e, DL.datasK_e, DL.kN_e, DL.kB_e, DL.kI_e, DL.kS_e, DL.kT_e, DL.kD0_e, DL.chainI_e, DL.chA_e, DL.chB_e, DL.chI_e, DL.chJ_e, DL.chG_true, DL.chG_false, DL.chY_e, DL.chC_e, DL.sSeq_e, DL.seqSrc_e, DL.asItems_list, DL.asItems_tuple, DL.sRng1_e, DL.rngW_e, DL.rngI_e, DL.sRng2_e, DL.rngK_e, DL.rngWW_e, DL.rngWI_e, DL.rngJ_e, DL.sZip_e, DL.zipK_e, DL.zipW_e, DL.zipA_e, DL.zipD_list, DL.zipD_tuple, DL.sEnum_e, DL.enumW_e, DL.enumV_e, DL.asList_e, DL.enumL_e, DL.ownR_e, DL.lc_e, DL.tYes_e, List.map_cons, List.map_nil, List.nil_append, List.cons_append, List.length_cons, List.length_nil, List.set_cons_zero, List.set_cons_succ, ite_self, reduceIte, noL_none, noL_bool, noL_int, noL_str, noL_list, noL_tuple, noLs_nil, noLs_cons, Bool.true_and, Bool.false_and, Bool.and_true, Bool.and_self, Bool.false_eq_true, Bool.not_true, Bool.not_false, List.replicate_succ, List.replicate_zero, DL.opEq_e, DL.flip_e, DL.opNe_e, DL.opIn_e, DL.opNotIn_e, DL.opLt_e, DL.opAdd_e, DL.opMul_e, DL.opIx_e, DL.opIsN_e, DL.opNotN_e, DL.opNeg_e, DL.opLe_e, DL.opGt_e, DL.opGe_e, DL.opSub_e, DL.vLt_int, DL.vEq_int, DL.vAdd_int, DL.vAdd_list, DL.vAdd_tuple, DL.vLen_tuple, DL.vLen_list, DL.vInt_int, DL.vTuple_list, DL.vTuple_tuple, DL.vList_list, DL.vList_tuple, DL.vRev_list, DL.vRev_tuple, DL.vCut_list, DL.vCut_tuple, DL.f1_e, DL.f2_e, DL.isNon_none, DL.isNon_int, DL.isi_int, DL.isi_bool, DL.isi_tuple, DL.isi_list, DL.isi_str, DL.isi_dict, dpm1, dp21]
          intro a ha b hb
          simp (disch := (try simp only [List.length_append, List.length_take, List.length_drop, List.length_reverse, List.length_map, List.length_cons, List.length_nil]); omega) only [DL.sel_true, DL.sel_false, DL.sel_self, DL.okb, DL.excb, DL.badb, DL.pickb, DL.okp, DL.pickp, DL.ddat, DL.down, DL.sdat, DL.sown, DL.sraw, DL.spot, DL.gdat, DL.gown, DL.graw, DL.gpot, DL.asBb, DL.asIi, DL.kBok, DL.noxok, DL.datas0, DL.frz1_own, DL.frz1_dat, DL.frz1_raw, DL.frz1_pot, DL.frz1_none, DL.frz1_nil, DL.frz1_succ, DL.frz_nil, DL.frz_cons, DL.rdv_dat, DL.rdv_raw, DL.rdv_pot, DL.rdv_succ, DL.rtnV_zero, DL.rtnV_succ, DL.ownAt_zero, DL.ownAt_succ, DL.startE_eq, DL.seq_e, DL.seqK_nx, DL.seqK_ret, DL.seqK_brk, DL.seqK_cont, DL.asg_e, DL.asgK_e, DL.rtn_e, DL.rtnK_e, DL.rtnN_e, DL.exs_e, DL.exsK_e, DL.ifs_e, DL.ifsK_true, DL.ifsK_false, DL.skip_e, DL.brkS_e, DL.contS_e, DL.badS_e, DL.body_e, DL.fin_ret, DL.fin_nx, DL.app1_e, DL.app1K_e, DL.app_e, DL.appO_e, DL.appW_e, DL.appD_e, DL.asg2_e, DL.asg2K_e, DL.asg2L_e, DL.unp_e, DL.unpW_e, DL.unpD_e, DL.goOn_some, DL.goOn_none, DL.bT_e, DL.setL_cons, DL.setL_nil, DL.bN_e, DL.sto1_e, DL.sto_e, DL.stoW_e, DL.stoD_e, DL.sto2_e, DL.sto2K_e, DL.sto2W_e, DL.sto2I_e, DL.sto1K_e, DL.atK_e, DL.ali_e, DL.aliK_true, DL.aliK_false, DL.ali1_e, DL.ali1B_e, DL.ali1O_e, DL.ali1W_e, DL.ali1D_e, DL.forS_e, DL.forK_e, DL.loopB_some, DL.loopK_nx, DL.loopK_cont, DL.loopK_brk, DL.loopK_ret, DL.bin2_e, DL.binK_e, DL.binL_e, DL.un1_e, DL.unK_e, DL.tst_e, DL.tand_e, DL.tandK_true, DL.tandK_false, DL.tor_e, DL.torK_true, DL.torK_false, DL.tnot_e, DL.notK_e, DL.vand_e, DL.vandK_e, DL.vandL_true, DL.vandL_false, DL.vor_e, DL.vorK_e, DL.vorL_true, DL.vorL_false, DL.vnot_e, DL.vnotK_e, DL.vnotL_e, DL.vif_e, DL.vifK_true, DL.vifK_false, DL.anil_e, DL.acons_e, DL.aconsK_e, DL.aconsL_e, DL.call_e, DL.ccall_e, DL.ccallK1, DL.ccallK2, DL.ccallK3, DL.ccallK4, DL.sub_e, DL.subK_e, DL.subH_e, DL.cutK_e, DL.cutL_e, DL.oN_e, DL.oS_e, DL.oSK_e, DL.oI_e, DL.rev_e, DL.revK_e, DL.tup_e, DL.lst_e, DL.mkTup_e, DL.mkLst_e, DL.tupD_e, DL.lstD_e, DL.datas_e, DL.datasK_e, DL.kN_e, DL.kB_e, DL.kI_e, DL.kS_e, DL.kT_e, DL.kD0_e, DL.chainI_e, DL.chA_e, DL.chB_e, DL.chI_e, DL.chJ_e, DL.chG_true, DL.chG_false, DL.chY_e, DL.chC_e, DL.sSeq_e, DL.seqSrc_e, DL.asItems_list, DL.asItems_tuple, DL.sRng1_e, DL.rngW_e, DL.rngI_e, DL.sRng2_e, DL.rngK_e, DL.rngWW_e, DL.rngWI_e, DL.rngJ_e, DL.sZip_e, DL.zipK_e, DL.zipW_e, DL.zipA_e, DL.zipD_list, DL.zipD_tuple, DL.sEnum_e, DL.enumW_e, DL.enumV_e, DL.asList_e, DL.enumL_e, DL.ownR_e, DL.lc_e, DL.tYes_e, List.map_cons, List.map_nil, List.nil_append, List.cons_append, List.length_cons, List.length_nil, List.set_cons_zero, List.set_cons_succ, ite_self, reduceIte, noL_none, noL_bool, noL_int, noL_str, noL_list, noL_tuple, noLs_nil, noLs_cons, Bool.true_and, Bool.false_and, Bool.and_true, Bool.and_self, Bool.false_eq_true, Bool.not_true, Bool.not_false, List.replicate_succ, List.replicate_zero, DL.opEq_e, DL.flip_e, DL.opNe_e, DL.opIn_e, DL.opNotIn_e, DL.opLt_e, DL.opAdd_e, DL.opMul_e, DL.opIx_e, DL.opIsN_e, DL.opNotN_e, DL.opNeg_e, DL.opLe_e, DL.opGt_e, DL.opGe_e, DL.opSub_e, DL.vLt_int, DL.vEq_int, DL.vAdd_int, DL.vAdd_list, DL.vAdd_tuple, DL.vLen_tuple, DL.vLen_list, DL.vInt_int, DL.vTuple_list, DL.vTuple_tuple, DL.vList_list, DL.vList_tuple, DL.vRev_list, DL.vRev_tuple, DL.vCut_list, DL.vCut_tuple, DL.f1_e, DL.f2_e, DL.isNon_none, DL.isNon_int, DL.isi_int, DL.isi_bool, DL.isi_tuple, DL.isi_list, DL.isi_str, DL.isi_dict, small_of]
          (repeat rw [M.post_bind])
          refine post_use (p_pick (by simp) (by simp)) fun w hw => ?_
          obtain ⟨x, hx, rfl⟩ := hw
          have hx2 : sc x = true ∧ noL x = true := by
            simp only [List.mem_cons, List.not_mem_nil, or_false] at hx
            rcases hx with rfl | rfl | rfl
            · exact ⟨by unfold sc; rw [decide_eq_true_eq, Int.natAbs_natCast]; omega, by simp⟩
            · exact ⟨by unfold sc; rw [decide_eq_true_eq, Int.natAbs_natCast]; omega, by simp⟩
            · exact ⟨rfl, by simp⟩
          (repeat rw [← M.post_bind])
          simp (disch := (try simp only [List.length_append, List.length_take, List.length_drop, List.length_reverse, List.length_map, List.length_cons, List.length_nil]); omega) only [DL.sel_true, DL.sel_false, DL.sel_self, DL.okb, DL.excb, DL.badb, DL.pickb, DL.okp, DL.pickp, DL.ddat, DL.down, DL.sdat, DL.sown, DL.sraw, DL.spot, DL.gdat, DL.gown, DL.graw, DL.gpot, DL.asBb, DL.asIi, DL.kBok, DL.noxok, DL.datas0, DL.frz1_own, DL.frz1_dat, DL.frz1_raw, DL.frz1_pot, DL.frz1_none, DL.frz1_nil, DL.frz1_succ, DL.frz_nil, DL.frz_cons, DL.rdv_dat, DL.rdv_raw, DL.rdv_pot, DL.rdv_succ, DL.rtnV_zero, DL.rtnV_succ, DL.ownAt_zero, DL.ownAt_succ, DL.startE_eq, DL.seq_e, DL.seqK_nx, DL.seqK_ret, DL.seqK_brk, DL.seqK_cont, DL.asg_e, DL.asgK_e, DL.rtn_e, DL.rtnK_e, DL.rtnN_e, DL.exs_e, DL.exsK_e, DL.ifs_e, DL.ifsK_true, DL.ifsK_false, DL.skip_e, DL.brkS_e, DL.contS_e, DL.badS_e, DL.body_e, DL.fin_ret, DL.fin_nx, DL.app1_e, DL.app1K_e, DL.app_e, DL.appO_e, DL.appW_e, DL.appD_e, DL.asg2_e, DL.asg2K_e, DL.asg2L_e, DL.unp_e, DL.unpW_e, DL.unpD_e, DL.goOn_some, DL.goOn_none, DL.bT_e, DL.setL_cons, DL.setL_nil, DL.bN_e, DL.sto1_e, DL.sto_e, DL.stoW_e, DL.stoD_e, DL.sto2_e, DL.sto2K_e, DL.sto2W_e, DL.sto2I_e, DL.sto1K_e, DL.atK_e, DL.ali_e, DL.aliK_true, DL.aliK_false, DL.ali1_e, DL.ali1B_e, DL.ali1O_e, DL.ali1W_e, DL.ali1D_e, DL.forS_e, DL.forK_e, DL.loopB_some, DL.loopK_nx, DL.loopK_cont, DL.loopK_brk, DL.loopK_ret, DL.bin2_e, DL.binK_e, DL.binL_e, DL.un1_e, DL.unK_e, DL.tst_e, DL.tand_e, DL.tandK_true, DL.tandK_false, DL.tor_e, DL.torK_true, DL.torK_false, DL.tnot_e, DL.notK_e, DL.vand_e, DL.vandK_e, DL.vandL_true, DL.vandL_false, DL.vor_e, DL.vorK_e, DL.vorL_true, DL.vorL_false, DL.vnot_e, DL.vnotK_e, DL.vnotL_e, DL.vif_e, DL.vifK_true, DL.vifK_false, DL.anil_e, DL.acons_e, DL.aconsK_e, DL.aconsL_e, DL.call_e, DL.ccall_e, DL.ccallK1, DL.ccallK2, DL.ccallK3, DL.ccallK4, DL.sub_e, DL.subK_e, DL.subH_e, DL.cutK_e, DL.cutL_e, DL.oN_e, DL.oS_e, DL.oSK_e, DL.oI_e, DL.rev_e, DL.revK_e, DL.tup_e, DL.lst_e, DL.mkTup_e, DL.mkLst_e, DL.tupD_e, DL.lstD_e, DL.datas_e, DL.datasK_e, DL.kN_e, DL.kB_e, DL.kI_e, DL.kS_e, DL.kT_e, DL.kD0_e, DL.chainI_e, DL.chA_e, DL.chB_e, DL.chI_e, DL.chJ_e, DL.chG_true, DL.chG_false, DL.chY_e, DL.chC_e, DL.sSeq_e, DL.seqSrc_e, DL.asItems_list, DL.asItems_tuple, DL.sRng1_e, DL.rngW_e, DL.rngI_e, DL.sRng2_e, DL.rngK_e, DL.rngWW_e, DL.rngWI_e, DL.rngJ_e, DL.sZip_e, DL.zipK_e, DL.zipW_e, DL.zipA_e, DL.zipD_list, DL.zipD_tuple, DL.sEnum_e, DL.enumW_e, DL.enumV_e, DL.asList_e, DL.enumL_e, DL.ownR_e, DL.lc_e, DL.tYes_e, List.map_cons, List.map_nil, List.nil_append, List.cons_append, List.length_cons, List.length_nil, List.set_cons_zero, List.set_cons_succ, ite_self, reduceIte, noL_none, noL_bool, noL_int, noL_str, noL_list, noL_tuple, noLs_nil, noLs_cons, Bool.true_and, Bool.false_and, Bool.and_true, Bool.and_self, Bool.false_eq_true, Bool.not_true, Bool.not_false, List.replicate_succ, List.replicate_zero, DL.opEq_e, DL.flip_e, DL.opNe_e, DL.opIn_e, DL.opNotIn_e, DL.opLt_e, DL.opAdd_e, DL.opMul_e, DL.opIx_e, DL.opIsN_e, DL.opNotN_e, DL.opNeg_e, DL.opLe_e, DL.opGt_e, DL.opGe_e, DL.opSub_e, DL.vLt_int, DL.vEq_int, DL.vAdd_int, DL.vAdd_list, DL.vAdd_tuple, DL.vLen_tuple, DL.vLen_list, DL.vInt_int, DL.vTuple_list, DL.vTuple_tuple, DL.vList_list, DL.vList_tuple, DL.vRev_list, DL.vRev_tuple, DL.vCut_list, DL.vCut_tuple, DL.f1_e, DL.f2_e, DL.isNon_none, DL.isNon_int, DL.isi_int, DL.isi_bool, DL.isi_tuple, DL.isi_list, DL.isi_str, DL.isi_dict, dpm]
          intro k hk
          have ix : L2.ixN ns.length (k : Int) = some k := ixN_nat (by omega)
          simp only [DL.sel_true, DL.sel_false, DL.sel_self, DL.okb, DL.excb, DL.badb, DL.pickb, DL.okp, DL.pickp, DL.ddat, DL.down, DL.sdat, DL.sown, DL.sraw, DL.spot, DL.gdat, DL.gown, DL.graw, DL.gpot, DL.asBb, DL.asIi, DL.kBok, DL.noxok, DL.datas0, DL.frz1_own, DL.frz1_dat, DL.frz1_raw, DL.frz1_pot, DL.frz1_none, DL.frz1_nil, DL.frz1_succ, DL.frz_nil, DL.frz_cons, DL.rdv_dat, DL.rdv_raw, DL.rdv_pot, DL.rdv_succ, DL.rtnV_zero, DL.rtnV_succ, DL.ownAt_zero, DL.ownAt_succ, DL.startE_eq, DL.seq_e, DL.seqK_nx, DL.seqK_ret, DL.seqK_brk, DL.seqK_cont, DL.asg_e, DL.asgK_e, DL.rtn_e, DL.rtnK_e, DL.rtnN_e, DL.exs_e, DL.exsK_e, DL.ifs_e, DL.ifsK_true, DL.ifsK_false, DL.skip_e, DL.brkS_e, DL.contS_e, DL.badS_e, DL.body_e, DL.fin_ret, DL.fin_nx, DL.app1_e, DL.app1K_e, DL.app_e, DL.appO_e, DL.appW_e, DL.appD_e, DL.asg2_e, DL.asg2K_e, DL.asg2L_e, DL.unp_e, DL.unpW_e, DL.unpD_e, DL.goOn_some, DL.goOn_none, DL.bT_e, DL.setL_cons, DL.setL_nil, DL.bN_e, DL.sto1_e, DL.sto_e, DL.stoW_e, DL.stoD_e, DL.sto2_e, DL.sto2K_e, DL.sto2W_e, DL.sto2I_e, DL.sto1K_e, DL.atK_e, DL.ali_e, DL.aliK_true, DL.aliK_false, DL.ali1_e, DL.ali1B_e, DL.ali1O_e, DL.ali1W_e, DL.ali1D_e, DL.forS_e, DL.forK_e, DL.loopB_some, DL.loopK_nx, DL.loopK_cont, DL.loopK_brk, DL.loopK_ret, DL.bin2_e, DL.binK_e, DL.binL_e, DL.un1_e, DL.unK_e, DL.tst_e, DL.tand_e, DL.tandK_true, DL.tandK_false, DL.tor_e, DL.torK_true, DL.torK_false, DL.tnot_e, DL.notK_e, DL.vand_e, DL.vandK_e, DL.vandL_true, DL.vandL_false, DL.vor_e, DL.vorK_e, DL.vorL_true, DL.vorL_false, DL.vnot_e, DL.vnotK_e, DL.vnotL_e, DL.vif_e, DL.vifK_true, DL.vifK_false, DL.anil_e, DL.acons_e, DL.aconsK_e, DL.aconsL_e, DL.call_e, DL.ccall_e, DL.ccallK1, DL.ccallK2, DL.ccallK3, DL.ccallK4, DL.sub_e, DL.subK_e, DL.subH_e, DL.cutK_e, DL.cutL_e, DL.oN_e, DL.oS_e, DL.oSK_e, DL.oI_e, DL.rev_e, DL.revK_e, DL.tup_e, DL.lst_e, DL.mkTup_e, DL.mkLst_e, DL.tupD_e, DL.lstD_e, DL.datas_e, DL.datasK_e, DL.kN_e, DL.kB_e, DL.kI_e, DL.kS_e, DL.kT_e, DL.kD0_e, DL.chainI_e, DL.chA_e, DL.chB_e, DL.chI_e, DL.chJ_e, DL.chG_true, DL.chG_false, DL.chY_e, DL.chC_e, DL.sSeq_e, DL.seqSrc_e, DL.asItems_list, DL.asItems_tuple, DL.sRng1_e, DL.rngW_e, DL.rngI_e, DL.sRng2_e, DL.rngK_e, DL.rngWW_e, DL.rngWI_e, DL.rngJ_e, DL.sZip_e, DL.zipK_e, DL.zipW_e, DL.zipA_e, DL.zipD_list, DL.zipD_tuple, DL.sEnum_e, DL.enumW_e, DL.enumV_e, DL.asList_e, DL.enumL_e, DL.ownR_e, DL.lc_e, DL.tYes_e, List.map_cons, List.map_nil, List.nil_append, List.cons_append, List.length_cons, List.length_nil, List.set_cons_zero, List.set_cons_succ, ite_self, reduceIte, noL_none, noL_bool, noL_int, noL_str, noL_list, noL_tuple, noLs_nil, noLs_cons, Bool.true_and, Bool.false_and, Bool.and_true, Bool.and_self, Bool.false_eq_true, Bool.not_true, Bool.not_false, List.replicate_succ, List.replicate_zero, DL.opEq_e, DL.flip_e, DL.opNe_e, DL.opIn_e, DL.opNotIn_e, DL.opLt_e, DL.opAdd_e, DL.opMul_e, DL.opIx_e, DL.opIsN_e, DL.opNotN_e, DL.opNeg_e, DL.opLe_e, DL.opGt_e, DL.opGe_e, DL.opSub_e, DL.vLt_int, DL.vEq_int, DL.vAdd_int, DL.vAdd_list, DL.vAdd_tuple, DL.vLen_tuple, DL.vLen_list, DL.vInt_int, DL.vTuple_list, DL.vTuple_tuple, DL.vList_list, DL.vList_tuple, DL.vRev_list, DL.vRev_tuple, DL.vCut_list, DL.vCut_tuple, DL.f1_e, DL.f2_e, DL.isNon_none, DL.isNon_int, DL.isi_int, DL.isi_bool, DL.isi_tuple, DL.isi_list, DL.isi_str, DL.isi_dict, ix, Option.map_some]
          refine ⟨ns.set k x, rfl, by rw [List.length_set]; exact h1, fun y hy => ?_⟩
          rcases List.mem_or_eq_of_mem_set hy with hy | rfl
          · exact h2 y hy
          · exact hx2.1
      · clear h1 h2 ns
        obtain ⟨ns, rfl, h1, h2⟩ := hfl
        (repeat rw [← M.post_bind])
        have s0 : ∀ x : M Wv, small 0 x = x := fun _ => rfl
        simp (disch := (try simp only [List.length_append, List.length_take, List.length_drop, List.length_reverse, List.length_map, List.length_cons, List.length_nil]); omega) only [DL.sel_true, DL.sel_false, DL.sel_self, DL.okb, DL.excb, DL.badb, DL.pickb, DL.okp, DL.pickp, DL.ddat, DL.down, DL.sdat, DL.sown, DL.sraw, DL.spot, DL.gdat, DL.gown, DL.graw, DL.gpot, DL.asBb, DL.asIi, DL.kBok, DL.noxok, DL.datas0, DL.frz1_own, DL.frz1_dat, DL.frz1_raw, DL.frz1_pot, DL.frz1_none, DL.frz1_nil, DL.frz1_succ, DL.frz_nil, DL.frz_cons, DL.rdv_dat, DL.rdv_raw, DL.rdv_pot, DL.rdv_succ, DL.rtnV_zero, DL.rtnV_succ, DL.ownAt_zero, DL.ownAt_succ, DL.startE_eq, DL.seq_e, DL.seqK_nx, DL.seqK_ret, DL.seqK_brk, DL.seqK_cont, DL.asg_e, DL.asgK_e, DL.rtn_e, DL.rtnK_e, DL.rtnN_e, DL.exs_e, DL.exsK_e, DL.ifs_e, DL.ifsK_true, DL.ifsK_false, DL.skip_e, DL.brkS_e, DL.contS_e, DL.badS_e, DL.body_e, DL.fin_ret, DL.fin_nx, DL.app1_e, DL.app1K_e, DL.app_e, DL.appO_e, DL.appW_e, DL.appD_e, DL.asg2_e, DL.asg2K_e, DL.asg2L_e, DL.unp_e, DL.unpW_e, DL.unpD_e, DL.goOn_some, DL.goOn_none, DL.bT_e, DL.setL_cons, DL.setL_nil, DL.bN_e, DL.sto1_e, DL.sto_e, DL.stoW_e, DL.stoD_e, DL.sto2_e, DL.sto2K_e, DL.sto2W_e, DL.sto2I_e, DL.sto1K_e, DL.atK_e, DL.ali_e, DL.aliK_true, DL.aliK_false, DL.ali1_e, DL.ali1B_e, DL.ali1O_e, DL.ali1W_e, DL.ali1D_e, DL.forS_e, DL.forK_e, DL.loopB_some, DL.loopK_nx, DL.loopK_cont, DL.loopK_brk, DL.loopK_ret, DL.bin2_e, DL.binK_e, DL.binL_e, DL.un1_e, DL.unK_e, DL.tst_e, DL.tand_e, DL.tandK_true, DL.tandK_false, DL.tor_e, DL.torK_true, DL.torK_false, DL.tnot_e, DL.notK_e, DL.vand_e, DL.vandK_e, DL.vandL_true, DL.vandL_false, DL.vor_e, DL.vorK_e, DL.vorL_true, DL.vorL_false, DL.vnot_e, DL.vnotK_e, DL.vnotL_e, DL.vif_e, DL.vifK_true, DL.vifK_false, DL.anil_e, DL.acons_e, DL.aconsK_e, DL.aconsL_e, DL.call_e, DL.ccall_e, DL.ccallK1, DL.ccallK2, DL.ccallK3, DL.ccallK4, DL.sub_e, DL.subK_e, DL.subH_e, DL.cutK_e, DL.cutL_e, DL.oN_e, DL.oS_e, DL.oSK_e, DL.oI_e, DL.rev_e, DL.revK_e, DL.tup_e, DL.lst_e, DL.mkTup_e, DL.mkLst_e, DL.tupD_e, DL.lstD_e, DL.datas_e, DL.datasK_e, DL.kN_e, DL.kB_e, DL.kI_e, DL.kS_e, DL.kT_e, DL.kD0_e, DL.chainI_e, DL.chA_e, DL.chB_e, DL.chI_e, DL.chJ_e, DL.chG_true, DL.chG_false, DL.chY_e, DL.chC_e, DL.sSeq_e, DL.seqSrc_e, DL.asItems_list, DL.asItems_tuple, DL.sRng1_e, DL.rngW_e, DL.rngI_e, DL.sRng2_e, DL.rngK_e, DL.rngWW_e, DL.rngWI_e, DL.rngJ_e, DL.sZip_e, DL.zipK_e, DL.zipW_e, DL.zipA_e, DL.zipD_list, DL.zipD_tuple, DL.sEnum_e, DL.enumW_e, DL.enumV_e, DL.asList_e, DL.enumL_e, DL.ownR_e, DL.lc_e, DL.tYes_e, List.map_cons, List.map_nil, List.nil_append, List.cons_append, List.length_cons, List.length_nil, List.set_cons_zero, List.set_cons_succ, ite_self, reduceIte, noL_none, noL_bool, noL_int, noL_str, noL_list, noL_tuple, noLs_nil, noLs_cons, Bool.true_and, Bool.false_and, Bool.and_true, Bool.and_self, Bool.false_eq_true, Bool.not_true, Bool.not_false, List.replicate_succ, List.replicate_zero, DL.opEq_e, DL.flip_e, DL.opNe_e, DL.opIn_e, DL.opNotIn_e, DL.opLt_e, DL.opAdd_e, DL.opMul_e, DL.opIx_e, DL.opIsN_e, DL.opNotN_e, DL.opNeg_e, DL.opLe_e, DL.opGt_e, DL.opGe_e, DL.opSub_e, DL.vLt_int, DL.vEq_int, DL.vAdd_int, DL.vAdd_list, DL.vAdd_tuple, DL.vLen_tuple, DL.vLen_list, DL.vInt_int, DL.vTuple_list, DL.vTuple_tuple, DL.vList_list, DL.vList_tuple, DL.vRev_list, DL.vRev_tuple, DL.vCut_list, DL.vCut_tuple, DL.f1_e, DL.f2_e, DL.isNon_none, DL.isNon_int, DL.isi_int, DL.isi_bool, DL.isi_tuple, DL.isi_list, DL.isi_str, DL.isi_dict, s0]
        (repeat rw [M.post_bind])
        refine post_use (loop_pst (P := fun fl => ∃ as bs o5 o10 o11, fl = .nx [some .pot, some (.dat (.int 8)), some (.dat (.int m)), some (.dat (.list (pairsOf m))), some (.own cs), o5, some (.own ns), o7, some (.own as), some (.own bs), o10, o11] ∧ as.length ≤ 28 ∧ bs.length ≤ 28 ∧ (∀ x ∈ as, isPr m x = true) ∧ ∀ x ∈ bs, isPr m x = true)
          (fun ds ρ => ∃ as bs o5 o10 o11, ρ = [some .pot, some (.dat (.int 8)), some (.dat (.int m)), some (.dat (.list (pairsOf m))), some (.own cs), o5, some (.own ns), o7, some (.own as), some (.own bs), o10, o11] ∧ as.length + ds.length ≤ 28 ∧ bs.length + ds.length ≤ 28 ∧ (∀ x ∈ as, isPr m x = true) ∧ (∀ x ∈ bs, isPr m x = true) ∧ ∀ x ∈ ds, isPr m x = true) ?_ ?_ ?_) fun fl hfl => ?_
        · exact ⟨[], [], none, none, none, rfl, by simpa using hlen, by simpa using hlen, by simp, by simp, fun x hx => pairsOf_pr hx⟩
        · rintro ρ ⟨as, bs, o5, o10, o11, rfl, g1, g2, g3, g4, _⟩
          exact ⟨as, bs, o5, o10, o11, rfl, g1, g2, g3, g4⟩
        · rintro d ds ρ ⟨as, bs, o5, o10, o11, rfl, g1, g2, g3, g4, g5⟩
          have hd := g5 d (List.mem_cons_self ..)
          have g5' := fun d hd => g5 d (List.mem_cons_of_mem _ hd)
          have hin : vIn d (.list cs) = .ok (isIn d cs) := vIn_list (shaped_pair hd) (canLay_pairs (m := m) (List.all_eq_true.mpr hc2))
          have hnd : noL d = true := by
            obtain ⟨i, j, rfl, _⟩ := isPr_iff.mp hd
            simp
          simp only [List.length_cons] at g1 g2
          have up : ∀ {xs : List D}, (∀ x ∈ xs, isPr m x = true) → ∀ x ∈ xs ++ [d], isPr m x = true := fun h x hx => by
            rcases List.mem_append.mp hx with hx | hx
            · exact h x hx
            · have e : x = d := by simpa using hx
              rw [e]; exact hd
          refine ⟨_, rfl, ?_⟩
          simp only [DL.sel_true, DL.sel_false, DL.sel_self, DL.okb, DL.excb, DL.badb, DL.pickb, DL.okp, DL.pickp, DL.ddat, DL.down, DL.sdat, DL.sown, DL.sraw, DL.spot, DL.gdat, DL.gown, DL.graw, DL.gpot, DL.asBb, DL.asIi, DL.kBok, DL.noxok, DL.datas0, DL.frz1_own, DL.frz1_dat, DL.frz1_raw, DL.frz1_pot, DL.frz1_none, DL.frz1_nil, DL.frz1_succ, DL.frz_nil, DL.frz_cons, DL.rdv_dat, DL.rdv_raw, DL.rdv_pot, DL.rdv_succ, DL.rtnV_zero, DL.rtnV_succ, DL.ownAt_zero, DL.ownAt_succ, DL.startE_eq, DL.seq_e, DL.seqK_nx, DL.seqK_ret, DL.seqK_brk, DL.seqK_cont, DL.asg_e, DL.asgK_e, DL.rtn_e, DL.rtnK_e, DL.rtnN_e, DL.exs_e, DL.exsK_e, DL.ifs_e, DL.ifsK_true, DL.ifsK_false, DL.skip_e, DL.brkS_e, DL.contS_e, DL.badS_e, DL.body_e, DL.fin_ret, DL.fin_nx, DL.app1_e, DL.app1K_e, DL.app_e, DL.appO_e, DL.appW_e, DL.appD_e, DL.asg2_e, DL.asg2K_e, DL.asg2L_e, DL.unp_e, DL.unpW_e, DL.unpD_e, DL.goOn_some, DL.goOn_none, DL.bT_e, DL.setL_cons, DL.setL_nil, DL.bN_e, DL.sto1_e, DL.sto_e, DL.stoW_e, DL.stoD_e, DL.sto2_e, DL.sto2K_e, DL.sto2W_e, DL.sto2I_e, DL.sto1K_e, DL.atK_e, DL.ali_e, DL.aliK_true, DL.aliK_false, DL.ali1_e, DL.ali1B_e, DL.ali1O_e, DL.ali1W_e, DL.ali1D_e, DL.forS_e, DL.forK_e, DL.loopB_some, DL.loopK_nx, DL.loopK_cont, DL.loopK_brk, DL.loopK_ret, DL.bin2_e, DL.binK_e, DL.binL_e, DL.un1_e, DL.unK_e, DL.tst_e, DL.tand_e, DL.tandK_true, DL.tandK_false, DL.tor_e, DL.torK_true, DL.torK_false, DL.tnot_e, DL.notK_e, DL.vand_e, DL.vandK_e, DL.vandL_true, DL.vandL_false, DL.vor_e, DL.vorK_e, DL.vorL_true, DL.vorL_false, DL.vnot_e, DL.vnotK_e, DL.vnotL_e, DL.vif_e, DL.vifK_true, DL.vifK_false, DL.anil_e, DL.acons_e, DL.aconsK_e, DL.aconsL_e, DL.call_e, DL.ccall_e, DL.ccallK1, DL.ccallK2, DL.ccallK3, DL.ccallK4, DL.sub_e, DL.subK_e, DL.subH_e, DL.cutK_e, DL.cutL_e, DL.oN_e, DL.oS_e, DL.oSK_e, DL.oI_e, DL.rev_e, DL.revK_e, DL.tup_e, DL.lst_e, DL.mkTup_e, DL.mkLst_e, DL.tupD_e, DL.lstD_e, DL.datas_e, DL.datasK_e, DL.kN_e, DL.kB_e, DL.kI_e, DL.kS_e, DL.kT_e, DL.kD0_e, DL.chainI_e, DL.chA_e, DL.chB_e, DL.chI_e, DL.chJ_e, DL.chG_true, DL.chG_false, DL.chY_e, DL.chC_e, DL.sSeq_e, DL.seqSrc_e, DL.asItems_list, DL.asItems_tuple, DL.sRng1_e, DL.rngW_e, DL.rngI_e, DL.sRng2_e, DL.rngK_e, DL.rngWW_e, DL.rngWI_e, DL.rngJ_e, DL.sZip_e, DL.zipK_e, DL.zipW_e, DL.zipA_e, DL.zipD_list, DL.zipD_tuple, DL.sEnum_e, DL.enumW_e, DL.enumV_e, DL.asList_e, DL.enumL_e, DL.ownR_e, DL.lc_e, DL.tYes_e, List.map_cons, List.map_nil, List.nil_append, List.cons_append, List.length_cons, List.length_nil, List.set_cons_zero, List.set_cons_succ, ite_self, reduceIte, noL_none, noL_bool, noL_int, noL_str, noL_list, noL_tuple, noLs_nil, noLs_cons, Bool.true_and, Bool.false_and, Bool.and_true, Bool.and_self, Bool.false_eq_true, Bool.not_true, Bool.not_false, List.replicate_succ, List.replicate_zero, DL.opEq_e, DL.flip_e, DL.opNe_e, DL.opIn_e, DL.opNotIn_e, DL.opLt_e, DL.opAdd_e, DL.opMul_e, DL.opIx_e, DL.opIsN_e, DL.opNotN_e, DL.opNeg_e, DL.opLe_e, DL.opGt_e, DL.opGe_e, DL.opSub_e, DL.vLt_int, DL.vEq_int, DL.vAdd_int, DL.vAdd_list, DL.vAdd_tuple, DL.vLen_tuple, DL.vLen_list, DL.vInt_int, DL.vTuple_list, DL.vTuple_tuple, DL.vList_list, DL.vList_tuple, DL.vRev_list, DL.vRev_tuple, DL.vCut_list, DL.vCut_tuple, DL.f1_e, DL.f2_e, DL.isNon_none, DL.isNon_int, DL.isi_int, DL.isi_bool, DL.isi_tuple, DL.isi_list, DL.isi_str, DL.isi_dict, dp9]
          intro q hq
          have sa : ∀ x : M Fl, small as.length x = x := fun x => small_of (by omega)
          have sb : ∀ x : M Fl, small bs.length x = x := fun x => small_of (by omega)
          cases hq0 : decide ((q : Int) < 2) with
          | true =>
            cases hk : isIn d cs with
            | true =>
              simp (disch := (try simp only [List.length_append, List.length_take, List.length_drop, List.length_reverse, List.length_map, List.length_cons, List.length_nil]); omega) only [DL.sel_true, DL.sel_false, DL.sel_self, DL.okb, DL.excb, DL.badb, DL.pickb, DL.okp, DL.pickp, DL.ddat, DL.down, DL.sdat, DL.sown, DL.sraw, DL.spot, DL.gdat, DL.gown, DL.graw, DL.gpot, DL.asBb, DL.asIi, DL.kBok, DL.noxok, DL.datas0, DL.frz1_own, DL.frz1_dat, DL.frz1_raw, DL.frz1_pot, DL.frz1_none, DL.frz1_nil, DL.frz1_succ, DL.frz_nil, DL.frz_cons, DL.rdv_dat, DL.rdv_raw, DL.rdv_pot, DL.rdv_succ, DL.rtnV_zero, DL.rtnV_succ, DL.ownAt_zero, DL.ownAt_succ, DL.startE_eq, DL.seq_e, DL.seqK_nx, DL.seqK_ret, DL.seqK_brk, DL.seqK_cont, DL.asg_e, DL.asgK_e, DL.rtn_e, DL.rtnK_e, DL.rtnN_e, DL.exs_e, DL.exsK_e, DL.ifs_e, DL.ifsK_true, DL.ifsK_false, DL.skip_e, DL.brkS_e, DL.contS_e, DL.badS_e, DL.body_e, DL.fin_ret, DL.fin_nx, DL.app1_e, DL.app1K_e, DL.app_e, DL.appO_e, DL.appW_e, DL.appD_e, DL.asg2_e, DL.asg2K_e, DL.asg2L_e, DL.unp_e, DL.unpW_e, DL.unpD_e, DL.goOn_some, DL.goOn_none, DL.bT_e, DL.setL_cons, DL.setL_nil, DL.bN_e, DL.sto1_e, DL.sto_e, DL.stoW_e, DL.stoD_e, DL.sto2_e, DL.sto2K_e, DL.sto2W_e, DL.sto2I_e, DL.sto1K_e, DL.atK_e, DL.ali_e, DL.aliK_true, DL.aliK_false, DL.ali1_e, DL.ali1B_e, DL.ali1O_e, DL.ali1W_e, DL.ali1D_e, DL.forS_e, DL.forK_e, DL.loopB_some, DL.loopK_nx, DL.loopK_cont, DL.loopK_brk, DL.loopK_ret, DL.bin2_e, DL.binK_e, DL.binL_e, DL.un1_e, DL.unK_e, DL.tst_e, DL.tand_e, DL.tandK_true, DL.tandK_false, DL.tor_e, DL.torK_true, DL.torK_false, DL.tnot_e, DL.notK_e, DL.vand_e, DL.vandK_e, DL.vandL_true, DL.vandL_false, DL.vor_e, DL.vorK_e, DL.vorL_true, DL.vorL_false, DL.vnot_e, DL.vnotK_e, DL.vnotL_e, DL.vif_e, DL.vifK_true, DL.vifK_false, DL.anil_e, DL.acons_e, DL.aconsK_e, DL.aconsL_e, DL.call_e, DL.ccall_e, DL.ccallK1, DL.ccallK2, DL.ccallK3, DL.ccallK4, DL.sub_e, DL.subK_e, DL.subH_e, DL.cutK_e, DL.cutL_e, DL.oN_e, DL.oS_e, DL.oSK_e, DL.oI_e, DL.rev_e, DL.revK_e, DL.tup_e, DL.lst_e, DL.mkTup_e, DL.mkLst_e, DL.tupD_e, DL.lstD_e, DL.datas_e, DL.datasK_e, DL.kN_e, DL.kB_e, DL.kI_e, DL.kS_e, DL.kT_e, DL.kD0_e, DL.chainI_e, DL.chA_e, DL.chB_e, DL.chI_e, DL.chJ_e, DL.chG_true, DL.chG_false, DL.chY_e, DL.chC_e, DL.sSeq_e, DL.seqSrc_e, DL.asItems_list, DL.asItems_tuple, DL.sRng1_e, DL.rngW_e, DL.rngI_e, DL.sRng2_e, DL.rngK_e, DL.rngWW_e, DL.rngWI_e, DL.rngJ_e, DL.sZip_e, DL.zipK_e, DL.zipW_e, DL.zipA_e, DL.zipD_list, DL.zipD_tuple, DL.sEnum_e, DL.enumW_e, DL.enumV_e, DL.asList_e, DL.enumL_e, DL.ownR_e, DL.lc_e, DL.tYes_e, List.map_cons, List.map_nil, List.nil_append, List.cons_append, List.length_cons, List.length_nil, List.set_cons_zero, List.set_cons_succ, ite_self, reduceIte, noL_none, noL_bool, noL_int, noL_str, noL_list, noL_tuple, noLs_nil, noLs_cons, Bool.true_and, Bool.false_and, Bool.and_true, Bool.and_self, Bool.false_eq_true, Bool.not_true, Bool.not_false, List.replicate_succ, List.replicate_zero, DL.opEq_e, DL.flip_e, DL.opNe_e, DL.opIn_e, DL.opNotIn_e, DL.opLt_e, DL.opAdd_e, DL.opMul_e, DL.opIx_e, DL.opIsN_e, DL.opNotN_e, DL.opNeg_e, DL.opLe_e, DL.opGt_e, DL.opGe_e, DL.opSub_e, DL.vLt_int, DL.vEq_int, DL.vAdd_int, DL.vAdd_list, DL.vAdd_tuple, DL.vLen_tuple, DL.vLen_list, DL.vInt_int, DL.vTuple_list, DL.vTuple_tuple, DL.vList_list, DL.vList_tuple, DL.vRev_list, DL.vRev_tuple, DL.vCut_list, DL.vCut_tuple, DL.f1_e, DL.f2_e, DL.isNon_none, DL.isNon_int, DL.isi_int, DL.isi_bool, DL.isi_tuple, DL.isi_list, DL.isi_str, DL.isi_dict, hin, hk, hnd, ali1_e, sa]
              exact ⟨as ++ [d], bs, _, _, _, rfl, by simp; omega, by omega, up g3, g4, g5'⟩
            | false =>
              simp (disch := (try simp only [List.length_append, List.length_take, List.length_drop, List.length_reverse, List.length_map, List.length_cons, List.length_nil]); omega) only [DL.sel_true, DL.sel_false, DL.sel_self, DL.okb, DL.excb, DL.badb, DL.pickb, DL.okp, DL.pickp, DL.ddat, DL.down, DL.sdat, DL.sown, DL.sraw, DL.spot, DL.gdat, DL.gown, DL.graw, DL.gpot, DL.asBb, DL.asIi, DL.kBok, DL.noxok, DL.datas0, DL.frz1_own, DL.frz1_dat, DL.frz1_raw, DL.frz1_pot, DL.frz1_none, DL.frz1_nil, DL.frz1_succ, DL.frz_nil, DL.frz_cons, DL.rdv_dat, DL.rdv_raw, DL.rdv_pot, DL.rdv_succ, DL.rtnV_zero, DL.rtnV_succ, DL.ownAt_zero, DL.ownAt_succ, DL.startE_eq, DL.seq_e, DL.seqK_nx, DL.seqK_ret, DL.seqK_brk, DL.seqK_cont, DL.asg_e, DL.asgK_e, DL.rtn_e, DL.rtnK_e, DL.rtnN_e, DL.exs_e, DL.exsK_e, DL.ifs_e, DL.ifsK_true, DL.ifsK_false, DL.skip_e, DL.brkS_e, DL.contS_e, DL.badS_e, DL.body_e, DL.fin_ret, DL.fin_nx, DL.app1_e, DL.app1K_e, DL.app_e, DL.appO_e, DL.appW_e, DL.appD_e, DL.asg2_e, DL.asg2K_e, DL.asg2L_e, DL.unp_e, DL.unpW_e, DL.unpD_e, DL.goOn_some, DL.goOn_none, DL.bT_e, DL.setL_cons, DL.setL_nil, DL.bN_e, DL.sto1_e, DL.sto_e, DL.stoW_e, DL.stoD_e, DL.sto2_e, DL.sto2K_e, DL.sto2W_e, DL.sto2I_e, DL.sto1K_e, DL.atK_e, DL.ali_e, DL.aliK_true, DL.aliK_false, DL.ali1_e, DL.ali1B_e, DL.ali1O_e, DL.ali1W_e, DL.ali1D_e, DL.forS_e, DL.forK_e, DL.loopB_some, DL.loopK_nx, DL.loopK_cont, DL.loopK_brk, DL.loopK_ret, DL.bin2_e, DL.binK_e, DL.binL_e, DL.un1_e, DL.unK_e, DL.tst_e, DL.tand_e, DL.tandK_true, DL.tandK_false, DL.tor_e, DL.torK_true, DL.torK_false, DL.tnot_e, DL.notK_e, DL.vand_e, DL.vandK_e, DL.vandL_true, DL.vandL_false, DL.vor_e, DL.vorK_e, DL.vorL_true, DL.vorL_false, DL.vnot_e, DL.vnotK_e, DL.vnotL_e, DL.vif_e, DL.vifK_true, DL.vifK_false, DL.anil_e, DL.acons_e, DL.aconsK_e, DL.aconsL_e, DL.call_e, DL.ccall_e, DL.ccallK1, DL.ccallK2, DL.ccallK3, DL.ccallK4, DL.sub_e, DL.subK_e, DL.subH_e, DL.cutK_e, DL.cutL_e, DL.oN_e, DL.oS_e, DL.oSK_e, DL.oI_e, DL.rev_e, DL.revK_e, DL.tup_e, DL.lst_e, DL.mkTup_e, DL.mkLst_e, DL.tupD_e, DL.lstD_e, DL.datas_e, DL.datasK_e, DL.kN_e, DL.kB_e, DL.kI_e, DL.kS_e, DL.kT_e, DL.kD0_e, DL.chainI_e, DL.chA_e, DL.chB_e, DL.chI_e, DL.chJ_e, DL.chG_true, DL.chG_false, DL.chY_e, DL.chC_e, DL.sSeq_e, DL.seqSrc_e, DL.asItems_list, DL.asItems_tuple, DL.sRng1_e, DL.rngW_e, DL.rngI_e, DL.sRng2_e, DL.rngK_e, DL.rngWW_e, DL.rngWI_e, DL.rngJ_e, DL.sZip_e, DL.zipK_e, DL.zipW_e, DL.zipA_e, DL.zipD_list, DL.zipD_tuple, DL.sEnum_e, DL.enumW_e, DL.enumV_e, DL.asList_e, DL.enumL_e, DL.ownR_e, DL.lc_e, DL.tYes_e, List.map_cons, List.map_nil, List.nil_append, List.cons_append, List.length_cons, List.length_nil, List.set_cons_zero, List.set_cons_succ, ite_self, reduceIte, noL_none, noL_bool, noL_int, noL_str, noL_list, noL_tuple, noLs_nil, noLs_cons, Bool.true_and, Bool.false_and, Bool.and_true, Bool.and_self, Bool.false_eq_true, Bool.not_true, Bool.not_false, List.replicate_succ, List.replicate_zero, DL.opEq_e, DL.flip_e, DL.opNe_e, DL.opIn_e, DL.opNotIn_e, DL.opLt_e, DL.opAdd_e, DL.opMul_e, DL.opIx_e, DL.opIsN_e, DL.opNotN_e, DL.opNeg_e, DL.opLe_e, DL.opGt_e, DL.opGe_e, DL.opSub_e, DL.vLt_int, DL.vEq_int, DL.vAdd_int, DL.vAdd_list, DL.vAdd_tuple, DL.vLen_tuple, DL.vLen_list, DL.vInt_int, DL.vTuple_list, DL.vTuple_tuple, DL.vList_list, DL.vList_tuple, DL.vRev_list, DL.vRev_tuple, DL.vCut_list, DL.vCut_tuple, DL.f1_e, DL.f2_e, DL.isNon_none, DL.isNon_int, DL.isi_int, DL.isi_bool, DL.isi_tuple, DL.isi_list, DL.isi_str, DL.isi_dict, hin, hk, hnd, ali1_e, sb]
              exact ⟨as, bs ++ [d], _, _, _, rfl, by omega, by simp; omega, g3, up g4, g5'⟩
          | false =>
            cases hq1 : decide ((q : Int) = 2) with
            | false =>
              simp only [DL.sel_true, DL.sel_false, DL.sel_self, DL.okb, DL.excb, DL.badb, DL.pickb, DL.okp, DL.pickp, DL.ddat, DL.down, DL.sdat, DL.sown, DL.sraw, DL.spot, DL.gdat, DL.gown, DL.graw, DL.gpot, DL.asBb, DL.asIi, DL.kBok, DL.noxok, DL.datas0, DL.frz1_own, DL.frz1_dat, DL.frz1_raw, DL.frz1_pot, DL.frz1_none, DL.frz1_nil, DL.frz1_succ, DL.frz_nil, DL.frz_cons, DL.rdv_dat, DL.rdv_raw, DL.rdv_pot, DL.rdv_succ, DL.rtnV_zero, DL.rtnV_succ, DL.ownAt_zero, DL.ownAt_succ, DL.startE_eq, DL.seq_e, DL.seqK_nx, DL.seqK_ret, DL.seqK_brk, DL.seqK_cont, DL.asg_e, DL.asgK_e, DL.rtn_e, DL.rtnK_e, DL.rtnN_e, DL.exs_e, DL.exsK_e, DL.ifs_e, DL.ifsK_true, DL.ifsK_false, DL.skip_e, DL.brkS_e, DL.contS_e, DL.badS_e, DL.body_e, DL.fin_ret, DL.fin_nx, DL.app1_e, DL.app1K_e, DL.app_e, DL.appO_e, DL.appW_e, DL.appD_e, DL.asg2_e, DL.asg2K_e, DL.asg2L_e, DL.unp_e, DL.unpW_e, DL.unpD_e, DL.goOn_some, DL.goOn_none, DL.bT_e, DL.setL_cons, DL.setL_nil, DL.bN_e, DL.sto1_e, DL.sto_e, DL.stoW_e, DL.stoD_e, DL.sto2_e, DL.sto2K_e, DL.sto2W_e, DL.sto2I_e, DL.sto1K_e, DL.atK_e, DL.ali_e, DL.aliK_true, DL.aliK_false, DL.ali1_e, DL.ali1B_e, DL.ali1O_e, DL.ali1W_e, DL.ali1D_e, DL.forS_e, DL.forK_e, DL.loopB_some, DL.loopK_nx, DL.loopK_cont, DL.loopK_brk, DL.loopK_ret, DL.bin2_e, DL.binK_e, DL.binL_e, DL.un1_e, DL.unK_e, DL.tst_e, DL.tand_e, DL.tandK_true, DL.tandK_false, DL.tor_e, DL.torK_true, DL.torK_false, DL.tnot_e, DL.notK_e, DL.vand_e, DL.vandK_e, DL.vandL_true, DL.vandL_false, DL.vor_e, DL.vorK_e, DL.vorL_true, DL.vorL_false, DL.vnot_e, DL.vnotK_e, DL.vnotL_e, DL.vif_e, DL.vifK_true, DL.vifK_false, DL.anil_e, DL.acons_e, DL.aconsK_e, DL.aconsL_e, DL.call_e, DL.ccall_e, DL.ccallK1, DL.ccallK2, DL.ccallK3, DL.ccallK4, DL.sub_e, DL.subK_e, DL.subH_e, DL.cutK_e, DL.cutL_e, DL.oN_e, DL.oS_e, DL.oSK_e, DL.oI_e, DL.rev_e, DL.revK_e, DL.tup_e, DL.lst_e, DL.mkTup_e, DL.mkLst_e, DL.tupD_e, DL.lstD_e, DL.datas_e, DL.datasK_e, DL.kN_e, DL.kB_e, DL.kI_e, DL.kS_e, DL.kT_e, DL.kD0_e, DL.chainI_e, DL.chA_e, DL.chB_e, DL.chI_e, DL.chJ_e, DL.chG_true, DL.chG_false, DL.chY_e, DL.chC_e, DL.sSeq_e, DL.seqSrc_e, DL.asItems_list, DL.asItems_tuple, DL.sRng1_e, DL.rngW_e, DL.rngI_e, DL.sRng2_e, DL.rngK_e, DL.rngWW_e, DL.rngWI_e, DL.rngJ_e, DL.sZip_e, DL.zipK_e, DL.zipW_e, DL.zipA_e, DL.zipD_list, DL.zipD_tuple, DL.sEnum_e, DL.enumW_e, DL.enumV_e, DL.asList_e, DL.enumL_e, DL.ownR_e, DL.lc_e, DL.tYes_e, List.map_cons, List.map_nil, List.nil_append, List.cons_append, List.length_cons, List.length_nil, List.set_cons_zero, List.set_cons_succ, ite_self, reduceIte, noL_none, noL_bool, noL_int, noL_str, noL_list, noL_tuple, noLs_nil, noLs_cons, Bool.true_and, Bool.false_and, Bool.and_true, Bool.and_self, Bool.false_eq_true, Bool.not_true, Bool.not_false, List.replicate_succ, List.replicate_zero, DL.opEq_e, DL.flip_e, DL.opNe_e, DL.opIn_e, DL.opNotIn_e, DL.opLt_e, DL.opAdd_e, DL.opMul_e, DL.opIx_e, DL.opIsN_e, DL.opNotN_e, DL.opNeg_e, DL.opLe_e, DL.opGt_e, DL.opGe_e, DL.opSub_e, DL.vLt_int, DL.vEq_int, DL.vAdd_int, DL.vAdd_list, DL.vAdd_tuple, DL.vLen_tuple, DL.vLen_list, DL.vInt_int, DL.vTuple_list, DL.vTuple_tuple, DL.vList_list, DL.vList_tuple, DL.vRev_list, DL.vRev_tuple, DL.vCut_list, DL.vCut_tuple, DL.f1_e, DL.f2_e, DL.isNon_none, DL.isNon_int, DL.isi_int, DL.isi_bool, DL.isi_tuple, DL.isi_list, DL.isi_str, DL.isi_dict, hq1]
              exact ⟨as, bs, _, _, _, rfl, by omega, by omega, g3, g4, g5'⟩
            | true =>
              simp only [DL.sel_true, DL.sel_false, DL.sel_self, DL.okb, DL.excb, DL.badb, DL.pickb, DL.okp, DL.pickp, DL.ddat, DL.down, DL.sdat, DL.sown, DL.sraw, DL.spot, DL.gdat, DL.gown, DL.graw, DL.gpot, DL.asBb, DL.asIi, DL.kBok, DL.noxok, DL.datas0, DL.frz1_own, DL.frz1_dat, DL.frz1_raw, DL.frz1_pot, DL.frz1_none, DL.frz1_nil, DL.frz1_succ, DL.frz_nil, DL.frz_cons, DL.rdv_dat, DL.rdv_raw, DL.rdv_pot, DL.rdv_succ, DL.rtnV_zero, DL.rtnV_succ, DL.ownAt_zero, DL.ownAt_succ, DL.startE_eq, DL.seq_e, DL.seqK_nx, DL.seqK_ret, DL.seqK_brk, DL.seqK_cont, DL.asg_e, DL.asgK_e, DL.rtn_e, DL.rtnK_e, DL.rtnN_e, DL.exs_e, DL.exsK_e, DL.ifs_e, DL.ifsK_true, DL.ifsK_false, DL.skip_e, DL.brkS_e, DL.contS_e, DL.badS_e, DL.body_e, DL.fin_ret, DL.fin_nx, DL.app1_e, DL.app1K_e, DL.app_e, DL.appO_e, DL.appW_e, DL.appD_e, DL.asg2_e, DL.asg2K_e, DL.asg2L_e, DL.unp_e, DL.unpW_e, DL.unpD_e, DL.goOn_some, DL.goOn_none, DL.bT_e, DL.setL_cons, DL.setL_nil, DL.bN_e, DL.sto1_e, DL.sto_e, DL.stoW_e, DL.stoD_e, DL.sto2_e, DL.sto2K_e, DL.sto2W_e, DL.sto2I_e, DL.sto1K_e, DL.atK_e, DL.ali_e, DL.aliK_true, DL.aliK_false, DL.ali1_e, DL.ali1B_e, DL.ali1O_e, DL.ali1W_e, DL.ali1D_e, DL.forS_e, DL.forK_e, DL.loopB_some, DL.loopK_nx, DL.loopK_cont, DL.loopK_brk, DL.loopK_ret, DL.bin2_e, DL.binK_e, DL.binL_e, DL.un1_e, DL.unK_e, DL.tst_e, DL.tand_e, DL.tandK_true, DL.tandK_false, DL.tor_e, DL.torK_true, DL.torK_false, DL.tnot_e, DL.notK_e, DL.vand_e, DL.vandK_e, DL.vandL_true, DL.vandL_false, DL.vor_e, DL.vorK_e, DL.vorL_true, DL.vorL_false, DL.vnot_e, DL.vnotK_e, DL.vnotL_e, DL.vif_e, DL.vifK_true, DL.vifK_false, DL.anil_e, DL.acons_e, DL.aconsK_e, DL.aconsL_e, DL.call_e, DL.ccall_e, DL.ccallK1, DL.ccallK2, DL.ccallK3, DL.ccallK4, DL.sub_e, DL.subK_e, DL.subH_e, DL.cutK_e, DL.cutL_e, DL.oN_e, DL.oS_e, DL.oSK_e, DL.oI_e, DL.rev_e, DL.revK_e, DL.tup_e, DL.lst_e, DL.mkTup_e, DL.mkLst_e, DL.tupD_e, DL.lstD_e, DL.datas_e, DL.datasK_e, DL.kN_e, DL.kB_e, DL.kI_e, DL.kS_e, DL.kT_e, DL.kD0_e, DL.chainI_e, DL.chA_e, DL.chB_e, DL.chI_e, DL.chJ_e, DL.chG_true, DL.chG_false, DL.chY_e, DL.chC_e, DL.sSeq_e, DL.seqSrc_e, DL.asItems_list, DL.asItems_tuple, DL.sRng1_e, DL.rngW_e, DL.rngI_e, DL.sRng2_e, DL.rngK_e, DL.rngWW_e, DL.rngWI_e, DL.rngJ_e, DL.sZip_e, DL.zipK_e, DL.zipW_e, DL.zipA_e, DL.zipD_list, DL.zipD_tuple, DL.sEnum_e, DL.enumW_e, DL.enumV_e, DL.asList_e, DL.enumL_e, DL.ownR_e, DL.lc_e, DL.tYes_e, List.map_cons, List.map_nil, List.nil_append, List.cons_append, List.length_cons, List.length_nil, List.set_cons_zero, List.set_cons_succ, ite_self, reduceIte, noL_none, noL_bool, noL_int, noL_str, noL_list, noL_tuple, noLs_nil, noLs_cons, Bool.true_and, Bool.false_and, Bool.and_true, Bool.and_self, Bool.false_eq_true, Bool.not_true, Bool.not_false, List.replicate_succ, List.replicate_zero, DL.opEq_e, DL.flip_e, DL.opNe_e, DL.opIn_e, DL.opNotIn_e, DL.opLt_e, DL.opAdd_e, DL.opMul_e, DL.opIx_e, DL.opIsN_e, DL.opNotN_e, DL.opNeg_e, DL.opLe_e, DL.opGt_e, DL.opGe_e, DL.opSub_e, DL.vLt_int, DL.vEq_int, DL.vAdd_int, DL.vAdd_list, DL.vAdd_tuple, DL.vLen_tuple, DL.vLen_list, DL.vInt_int, DL.vTuple_list, DL.vTuple_tuple, DL.vList_list, DL.vList_tuple, DL.vRev_list, DL.vRev_tuple, DL.vCut_list, DL.vCut_tuple, DL.f1_e, DL.f2_e, DL.isNon_none, DL.isNon_int, DL.isi_int, DL.isi_bool, DL.isi_tuple, DL.isi_list, DL.isi_str, DL.isi_dict, hq1, dp4]
              intro q' hq'
              cases hq2 : decide ((q' : Int) = 0) with
              | false =>
                simp only [DL.sel_true, DL.sel_false, DL.sel_self, DL.okb, DL.excb, DL.badb, DL.pickb, DL.okp, DL.pickp, DL.ddat, DL.down, DL.sdat, DL.sown, DL.sraw, DL.spot, DL.gdat, DL.gown, DL.graw, DL.gpot, DL.asBb, DL.asIi, DL.kBok, DL.noxok, DL.datas0, DL.frz1_own, DL.frz1_dat, DL.frz1_raw, DL.frz1_pot, DL.frz1_none, DL.frz1_nil, DL.frz1_succ, DL.frz_nil, DL.frz_cons, DL.rdv_dat, DL.rdv_raw, DL.rdv_pot, DL.rdv_succ, DL.rtnV_zero, DL.rtnV_succ, DL.ownAt_zero, DL.ownAt_succ, DL.startE_eq, DL.seq_e, DL.seqK_nx, DL.seqK_ret, DL.seqK_brk, DL.seqK_cont, DL.asg_e, DL.asgK_e, DL.rtn_e, DL.rtnK_e, DL.rtnN_e, DL.exs_e, DL.exsK_e, DL.ifs_e, DL.ifsK_true, DL.ifsK_false, DL.skip_e, DL.brkS_e, DL.contS_e, DL.badS_e, DL.body_e, DL.fin_ret, DL.fin_nx, DL.app1_e, DL.app1K_e, DL.app_e, DL.appO_e, DL.appW_e, DL.appD_e, DL.asg2_e, DL.asg2K_e, DL.asg2L_e, DL.unp_e, DL.unpW_e, DL.unpD_e, DL.goOn_some, DL.goOn_none, DL.bT_e, DL.setL_cons, DL.setL_nil, DL.bN_e, DL.sto1_e, DL.sto_e, DL.stoW_e, DL.stoD_e, DL.sto2_e, DL.sto2K_e, DL.sto2W_e, DL.sto2I_e, DL.sto1K_e, DL.atK_e, DL.ali_e, DL.aliK_true, DL.aliK_false, DL.ali1_e, DL.ali1B_e, DL.ali1O_e, DL.ali1W_e, DL.ali1D_e, DL.forS_e, DL.forK_e, DL.loopB_some, DL.loopK_nx, DL.loopK_cont, DL.loopK_brk, DL.loopK_ret, DL.bin2_e, DL.binK_e, DL.binL_e, DL.un1_e, DL.unK_e, DL.tst_e, DL.tand_e, DL.tandK_true, DL.tandK_false, DL.tor_e, DL.torK_true, DL.torK_false, DL.tnot_e, DL.notK_e, DL.vand_e, DL.vandK_e, DL.vandL_true, DL.vandL_false, DL.vor_e, DL.vorK_e, DL.vorL_true, DL.vorL_false, DL.vnot_e, DL.vnotK_e, DL.vnotL_e, DL.vif_e, DL.vifK_true, DL.vifK_false, DL.anil_e, DL.acons_e, DL.aconsK_e, DL.aconsL_e, DL.call_e, DL.ccall_e, DL.ccallK1, DL.ccallK2, DL.ccallK3, DL.ccallK4, DL.sub_e, DL.subK_e, DL.subH_e, DL.cutK_e, DL.cutL_e, DL.oN_e, DL.oS_e, DL.oSK_e, DL.oI_e, DL.rev_e, DL.revK_e, DL.tup_e, DL.lst_e, DL.mkTup_e, DL.mkLst_e, DL.tupD_e, DL.lstD_e, DL.datas_e, DL.datasK_e, DL.kN_e, DL.kB_e, DL.kI_e, DL.kS_e, DL.kT_e, DL.kD0_e, DL.chainI_e, DL.chA_e, DL.chB_e, DL.chI_e, DL.chJ_e, DL.chG_true, DL.chG_false, DL.chY_e, DL.chC_e, DL.sSeq_e, DL.seqSrc_e, DL.asItems_list, DL.asItems_tuple, DL.sRng1_e, DL.rngW_e, DL.rngI_e, DL.sRng2_e, DL.rngK_e, DL.rngWW_e, DL.rngWI_e, DL.rngJ_e, DL.sZip_e, DL.zipK_e, DL.zipW_e, DL.zipA_e, DL.zipD_list, DL.zipD_tuple, DL.sEnum_e, DL.enumW_e, DL.enumV_e, DL.asList_e, DL.enumL_e, DL.ownR_e, DL.lc_e, DL.tYes_e, List.map_cons, List.map_nil, List.nil_append, List.cons_append, List.length_cons, List.length_nil, List.set_cons_zero, List.set_cons_succ, ite_self, reduceIte, noL_none, noL_bool, noL_int, noL_str, noL_list, noL_tuple, noLs_nil, noLs_cons, Bool.true_and, Bool.false_and, Bool.and_true, Bool.and_self, Bool.false_eq_true, Bool.not_true, Bool.not_false, List.replicate_succ, List.replicate_zero, DL.opEq_e, DL.flip_e, DL.opNe_e, DL.opIn_e, DL.opNotIn_e, DL.opLt_e, DL.opAdd_e, DL.opMul_e, DL.opIx_e, DL.opIsN_e, DL.opNotN_e, DL.opNeg_e, DL.opLe_e, DL.opGt_e, DL.opGe_e, DL.opSub_e, DL.vLt_int, DL.vEq_int, DL.vAdd_int, DL.vAdd_list, DL.vAdd_tuple, DL.vLen_tuple, DL.vLen_list, DL.vInt_int, DL.vTuple_list, DL.vTuple_tuple, DL.vList_list, DL.vList_tuple, DL.vRev_list, DL.vRev_tuple, DL.vCut_list, DL.vCut_tuple, DL.f1_e, DL.f2_e, DL.isNon_none, DL.isNon_int, DL.isi_int, DL.isi_bool, DL.isi_tuple, DL.isi_list, DL.isi_str, DL.isi_dict]
                exact ⟨as, bs, _, _, _, rfl, by omega, by omega, g3, g4, g5'⟩
              | true =>
                cases hk : isIn d cs with
                | true =>
                  simp (disch := (try simp only [List.length_append, List.length_take, List.length_drop, List.length_reverse, List.length_map, List.length_cons, List.length_nil]); omega) only [DL.sel_true, DL.sel_false, DL.sel_self, DL.okb, DL.excb, DL.badb, DL.pickb, DL.okp, DL.pickp, DL.ddat, DL.down, DL.sdat, DL.sown, DL.sraw, DL.spot, DL.gdat, DL.gown, DL.graw, DL.gpot, DL.asBb, DL.asIi, DL.kBok, DL.noxok, DL.datas0, DL.frz1_own, DL.frz1_dat, DL.frz1_raw, DL.frz1_pot, DL.frz1_none, DL.frz1_nil, DL.frz1_succ, DL.frz_nil, DL.frz_cons, DL.rdv_dat, DL.rdv_raw, DL.rdv_pot, DL.rdv_succ, DL.rtnV_zero, DL.rtnV_succ, DL.ownAt_zero, DL.ownAt_succ, DL.startE_eq, DL.seq_e, DL.seqK_nx, DL.seqK_ret, DL.seqK_brk, DL.seqK_cont, DL.asg_e, DL.asgK_e, DL.rtn_e, DL.rtnK_e, DL.rtnN_e, DL.exs_e, DL.exsK_e, DL.ifs_e, DL.ifsK_true, DL.ifsK_false, DL.skip_e, DL.brkS_e, DL.contS_e, DL.badS_e, DL.body_e, DL.fin_ret, DL.fin_nx, DL.app1_e, DL.app1K_e, DL.app_e, DL.appO_e, DL.appW_e, DL.appD_e, DL.asg2_e, DL.asg2K_e, DL.asg2L_e, DL.unp_e, DL.unpW_e, DL.unpD_e, DL.goOn_some, DL.goOn_none, DL.bT_e, DL.setL_cons, DL.setL_nil, DL.bN_e, DL.sto1_e, DL.sto_e, DL.stoW_e, DL.stoD_e, DL.sto2_e, DL.sto2K_e, DL.sto2W_e, DL.sto2I_e, DL.sto1K_e, DL.atK_e, DL.ali_e, DL.aliK_true, DL.aliK_false, DL.ali1_e, DL.ali1B_e, DL.ali1O_e, DL.ali1W_e, DL.ali1D_e, DL.forS_e, DL.forK_e, DL.loopB_some, DL.loopK_nx, DL.loopK_cont, DL.loopK_brk, DL.loopK_ret, DL.bin2_e, DL.binK_e, DL.binL_e, DL.un1_e, DL.unK_e, DL.tst_e, DL.tand_e, DL.tandK_true, DL.tandK_false, DL.tor_e, DL.torK_true, DL.torK_false, DL.tnot_e, DL.notK_e, DL.vand_e, DL.vandK_e, DL.vandL_true, DL.vandL_false, DL.vor_e, DL.vorK_e, DL.vorL_true, DL.vorL_false, DL.vnot_e, DL.vnotK_e, DL.vnotL_e, DL.vif_e, DL.vifK_true, DL.vifK_false, DL.anil_e, DL.acons_e, DL.aconsK_e, DL.aconsL_e, DL.call_e, DL.ccall_e, DL.ccallK1, DL.ccallK2, DL.ccallK3, DL.ccallK4, DL.sub_e, DL.subK_e, DL.subH_e, DL.cutK_e, DL.cutL_e, DL.oN_e, DL.oS_e, DL.oSK_e, DL.oI_e, DL.rev_e, DL.revK_e, DL.tup_e, DL.lst_e, DL.mkTup_e, DL.mkLst_e, DL.tupD_e, DL.lstD_e, DL.datas_e, DL.datasK_e, DL.kN_e, DL.kB_e, DL.kI_e, DL.kS_e, DL.kT_e, DL.kD0_e, DL.chainI_e, DL.chA_e, DL.chB_e, DL.chI_e, DL.chJ_e, DL.chG_true, DL.chG_false, DL.chY_e, DL.chC_e, DL.sSeq_e, DL.seqSrc_e, DL.asItems_list, DL.asItems_tuple, DL.sRng1_e, DL.rngW_e, DL.rngI_e, DL.sRng2_e, DL.rngK_e, DL.rngWW_e, DL.rngWI_e, DL.rngJ_e, DL.sZip_e, DL.zipK_e, DL.zipW_e, DL.zipA_e, DL.zipD_list, DL.zipD_tuple, DL.sEnum_e, DL.enumW_e, DL.enumV_e, DL.asList_e, DL.enumL_e, DL.ownR_e, DL.lc_e, DL.tYes_e, List.map_cons, List.map_nil, List.nil_append, List.cons_append, List.length_cons, List.length_nil, List.set_cons_zero, List.set_cons_succ, ite_self, reduceIte, noL_none, noL_bool, noL_int, noL_str, noL_list, noL_tuple, noLs_nil, noLs_cons, Bool.true_and, Bool.false_and, Bool.and_true, Bool.and_self, Bool.false_eq_true, Bool.not_true, Bool.not_false, List.replicate_succ, List.replicate_zero, DL.opEq_e, DL.flip_e, DL.opNe_e, DL.opIn_e, DL.opNotIn_e, DL.opLt_e, DL.opAdd_e, DL.opMul_e, DL.opIx_e, DL.opIsN_e, DL.opNotN_e, DL.opNeg_e, DL.opLe_e, DL.opGt_e, DL.opGe_e, DL.opSub_e, DL.vLt_int, DL.vEq_int, DL.vAdd_int, DL.vAdd_list, DL.vAdd_tuple, DL.vLen_tuple, DL.vLen_list, DL.vInt_int, DL.vTuple_list, DL.vTuple_tuple, DL.vList_list, DL.vList_tuple, DL.vRev_list, DL.vRev_tuple, DL.vCut_list, DL.vCut_tuple, DL.f1_e, DL.f2_e, DL.isNon_none, DL.isNon_int, DL.isi_int, DL.isi_bool, DL.isi_tuple, DL.isi_list, DL.isi_str, DL.isi_dict, hin, hk, hnd, ali1_e, sb]
                  exact ⟨as, bs ++ [d], _, _, _, rfl, by omega, by simp; omega, g3, up g4, g5'⟩
                | false =>
                  simp (disch := (try simp only [List.length_append, List.length_take, List.length_drop, List.length_reverse, List.length_map, List.length_cons, List.length_nil]); omega) only [DL.sel_true, DL.sel_false, DL.sel_self, DL.okb, DL.excb, DL.badb, DL.pickb, DL.okp, DL.pickp, DL.ddat, DL.down, DL.sdat, DL.sown, DL.sraw, DL.spot, DL.gdat, DL.gown, DL.graw, DL.gpot, DL.asBb, DL.asIi, DL.kBok, DL.noxok, DL.datas0, DL.frz1_own, DL.frz1_dat, DL.frz1_raw, DL.frz1_pot, DL.frz1_none, DL.frz1_nil, DL.frz1_succ, DL.frz_nil, DL.frz_cons, DL.rdv_dat, DL.rdv_raw, DL.rdv_pot, DL.rdv_succ, DL.rtnV_zero, DL.rtnV_succ, DL.ownAt_zero, DL.ownAt_succ, DL.startE_eq, DL.seq_e, DL.seqK_nx, DL.seqK_ret, DL.seqK_brk, DL.seqK_cont, DL.asg_e, DL.asgK_e, DL.rtn_e, DL.rtnK_e, DL.rtnN_e, DL.exs_e, DL.exsK_e, DL.ifs_e, DL.ifsK_true, DL.ifsK_false, DL.skip_e, DL.brkS_e, DL.contS_e, DL.badS_e, DL.body_e, DL.fin_ret, DL.fin_nx, DL.app1_e, DL.app1K_e, DL.app_e, DL.appO_e, DL.appW_e, DL.appD_e, DL.asg2_e, DL.asg2K_e, DL.asg2L_e, DL.unp_e, DL.unpW_e, DL.unpD_e, DL.goOn_some, DL.goOn_none, DL.bT_e, DL.setL_cons, DL.setL_nil, DL.bN_e, DL.sto1_e, DL.sto_e, DL.stoW_e, DL.stoD_e, DL.sto2_e, DL.sto2K_e, DL.sto2W_e, DL.sto2I_e, DL.sto1K_e, DL.atK_e, DL.ali_e, DL.aliK_true, DL.aliK_false, DL.ali1_e, DL.ali1B_e, DL.ali1O_e, DL.ali1W_e, DL.ali1D_e, DL.forS_e, DL.forK_e, DL.loopB_some, DL.loopK_nx, DL.loopK_cont, DL.loopK_brk, DL.loopK_ret, DL.bin2_e, DL.binK_e, DL.binL_e, DL.un1_e, DL.unK_e, DL.tst_e, DL.tand_e, DL.tandK_true, DL.tandK_false, DL.tor_e, DL.torK_true, DL.torK_false, DL.tnot_e, DL.notK_e, DL.vand_e, DL.vandK_e, DL.vandL_true, DL.vandL_false, DL.vor_e, DL.vorK_e, DL.vorL_true, DL.vorL_false, DL.vnot_e, DL.vnotK_e, DL.vnotL_e, DL.vif_e, DL.vifK_true, DL.vifK_false, DL.anil_e, DL.acons_e, DL.aconsK_e, DL.aconsL_e, DL.call_e, DL.ccall_e, DL.ccallK1, DL.ccallK2, DL.ccallK3, DL.ccallK4, DL.sub_e, DL.subK_e, DL.subH_e, DL.cutK_e, DL.cutL_e, DL.oN_e, DL.oS_e, DL.oSK_e, DL.oI_e, DL.rev_e, DL.revK_e, DL.tup_e, DL.lst_e, DL.mkTup_e, DL.mkLst_e, DL.tupD_e, DL.lstD_e, DL.datas_e, DL.datasK_e, DL.kN_e, DL.kB_e, DL.kI_e, DL.kS_e, DL.kT_e, DL.kD0_e, DL.chainI_e, DL.chA_e, DL.chB_e, DL.chI_e, DL.chJ_e, DL.chG_true, DL.chG_false, DL.chY_e, DL.chC_e, DL.sSeq_e, DL.seqSrc_e, DL.asItems_list, DL.asItems_tuple, DL.sRng1_e, DL.rngW_e, DL.rngI_e, DL.sRng2_e, DL.rngK_e, DL.rngWW_e, DL.rngWI_e, DL.rngJ_e, DL.sZip_e, DL.zipK_e, DL.zipW_e, DL.zipA_e, DL.zipD_list, DL.zipD_tuple, DL.sEnum_e, DL.enumW_e, DL.enumV_e, DL.asList_e, DL.enumL_e, DL.ownR_e, DL.lc_e, DL.tYes_e, List.map_cons, List.map_nil, List.nil_append, List.cons_append, List.length_cons, List.length_nil, List.set_cons_zero, List.set_cons_succ, ite_self, reduceIte, noL_none, noL_bool, noL_int, noL_str, noL_list, noL_tuple, noLs_nil, noLs_cons, Bool.true_and, Bool.false_and, Bool.and_true, Bool.and_self, Bool.false_eq_true, Bool.not_true, Bool.not_false, List.replicate_succ, List.replicate_zero, DL.opEq_e, DL.flip_e, DL.opNe_e, DL.opIn_e, DL.opNotIn_e, DL.opLt_e, DL.opAdd_e, DL.opMul_e, DL.opIx_e, DL.opIsN_e, DL.opNotN_e, DL.opNeg_e, DL.opLe_e, DL.opGt_e, DL.opGe_e, DL.opSub_e, DL.vLt_int, DL.vEq_int, DL.vAdd_int, DL.vAdd_list, DL.vAdd_tuple, DL.vLen_tuple, DL.vLen_list, DL.vInt_int, DL.vTuple_list, DL.vTuple_tuple, DL.vList_list, DL.vList_tuple, DL.vRev_list, DL.vRev_tuple, DL.vCut_list, DL.vCut_tuple, DL.f1_e, DL.f2_e, DL.isNon_none, DL.isNon_int, DL.isi_int, DL.isi_bool, DL.isi_tuple, DL.isi_list, DL.isi_str, DL.isi_dict, hin, hk, hnd, ali1_e, sa]
                  exact ⟨as ++ [d], bs, _, _, _, rfl, by simp; omega, by omega, up g3, g4, g5'⟩
        · obtain ⟨as, bs, o5, o10, o11, rfl, g1, g2, g3, g4⟩ := hfl
          (repeat rw [← M.post_bind])
          simp (disch := (try simp only [List.length_append, List.length_take, List.length_drop, List.length_reverse, List.length_map, List.length_cons, List.length_nil]); omega) only [DL.sel_true, DL.sel_false, DL.sel_self, DL.okb, DL.excb, DL.badb, DL.pickb, DL.okp, DL.pickp, DL.ddat, DL.down, DL.sdat, DL.sown, DL.sraw, DL.spot, DL.gdat, DL.gown, DL.graw, DL.gpot, DL.asBb, DL.asIi, DL.kBok, DL.noxok, DL.datas0, DL.frz1_own, DL.frz1_dat, DL.frz1_raw, DL.frz1_pot, DL.frz1_none, DL.frz1_nil, DL.frz1_succ, DL.frz_nil, DL.frz_cons, DL.rdv_dat, DL.rdv_raw, DL.rdv_pot, DL.rdv_succ, DL.rtnV_zero, DL.rtnV_succ, DL.ownAt_zero, DL.ownAt_succ, DL.startE_eq, DL.seq_e, DL.seqK_nx, DL.seqK_ret, DL.seqK_brk, DL.seqK_cont, DL.asg_e, DL.asgK_e, DL.rtn_e, DL.rtnK_e, DL.rtnN_e, DL.exs_e, DL.exsK_e, DL.ifs_e, DL.ifsK_true, DL.ifsK_false, DL.skip_e, DL.brkS_e, DL.contS_e, DL.badS_e, DL.body_e, DL.fin_ret, DL.fin_nx, DL.app1_e, DL.app1K_e, DL.app_e, DL.appO_e, DL.appW_e, DL.appD_e, DL.asg2_e, DL.asg2K_e, DL.asg2L_e, DL.unp_e, DL.unpW_e, DL.unpD_e, DL.goOn_some, DL.goOn_none, DL.bT_e, DL.setL_cons, DL.setL_nil, DL.bN_e, DL.sto1_e, DL.sto_e, DL.stoW_e, DL.stoD_e, DL.sto2_e, DL.sto2K_e, DL.sto2W_e, DL.sto2I_e, DL.sto1K_e, DL.atK_e, DL.ali_e, DL.aliK_true, DL.aliK_false, DL.ali1_e, DL.ali1B_e, DL.ali1O_e, DL.ali1W_e, DL.ali1D_e, DL.forS_e, DL.forK_e, DL.loopB_some, DL.loopK_nx, DL.loopK_cont, DL.loopK_brk, DL.loopK_ret, DL.bin2_e, DL.binK_e, DL.binL_e, DL.un1_e, DL.unK_e, DL.tst_e, DL.tand_e, DL.tandK_true, DL.tandK_false, DL.tor_e, DL.torK_true, DL.torK_false, DL.tnot_e, DL.notK_e, DL.vand_e, DL.vandK_e, DL.vandL_true, DL.vandL_false, DL.vor_e, DL.vorK_e, DL.vorL_true, DL.vorL_false, DL.vnot_e, DL.vnotK_e, DL.vnotL_e, DL.vif_e, DL.vifK_true, DL.vifK_false, DL.anil_e, DL.acons_e, DL.aconsK_e, DL.aconsL_e, DL.call_e, DL.ccall_e, DL.ccallK1, DL.ccallK2, DL.ccallK3, DL.ccallK4, DL.sub_e, DL.subK_e, DL.subH_e, DL.cutK_e, DL.cutL_e, DL.oN_e, DL.oS_e, DL.oSK_e, DL.oI_e, DL.rev_e, DL.revK_e, DL.tup_e, DL.lst_e, DL.mkTup_e, DL.mkLst_e, DL.tupD_e, DL.lstD_e, DL.datas_e, DL.datasK_e, DL.kN_e, DL.kB_e, DL.kI_e, DL.kS_e, DL.kT_e, DL.kD0_e, DL.chainI_e, DL.chA_e, DL.chB_e, DL.chI_e, DL.chJ_e, DL.chG_true, DL.chG_false, DL.chY_e, DL.chC_e, DL.sSeq_e, DL.seqSrc_e, DL.asItems_list, DL.asItems_tuple, DL.sRng1_e, DL.rngW_e, DL.rngI_e, DL.sRng2_e, DL.rngK_e, DL.rngWW_e, DL.rngWI_e, DL.rngJ_e, DL.sZip_e, DL.zipK_e, DL.zipW_e, DL.zipA_e, DL.zipD_list, DL.zipD_tuple, DL.sEnum_e, DL.enumW_e, DL.enumV_e, DL.asList_e, DL.enumL_e, DL.ownR_e, DL.lc_e, DL.tYes_e, List.map_cons, List.map_nil, List.nil_append, List.cons_append, List.length_cons, List.length_nil, List.set_cons_zero, List.set_cons_succ, ite_self, reduceIte, noL_none, noL_bool, noL_int, noL_str, noL_list, noL_tuple, noLs_nil, noLs_cons, Bool.true_and, Bool.false_and, Bool.and_true, Bool.and_self, Bool.false_eq_true, Bool.not_true, Bool.not_false, List.replicate_succ, List.replicate_zero, DL.opEq_e, DL.flip_e, DL.opNe_e, DL.opIn_e, DL.opNotIn_e, DL.opLt_e, DL.opAdd_e, DL.opMul_e, DL.opIx_e, DL.opIsN_e, DL.opNotN_e, DL.opNeg_e, DL.opLe_e, DL.opGt_e, DL.opGe_e, DL.opSub_e, DL.vLt_int, DL.vEq_int, DL.vAdd_int, DL.vAdd_list, DL.vAdd_tuple, DL.vLen_tuple, DL.vLen_list, DL.vInt_int, DL.vTuple_list, DL.vTuple_tuple, DL.vList_list, DL.vList_tuple, DL.vRev_list, DL.vRev_tuple, DL.vCut_list, DL.vCut_tuple, DL.f1_e, DL.f2_e, DL.isNon_none, DL.isNon_int, DL.isi_int, DL.isi_bool, DL.isi_tuple, DL.isi_list, DL.isi_str, DL.isi_dict, small_of]
          have pr : ∀ {x : D}, isPr m x = true → fnB [4, 2] x = true := fun {x} h => by
            obtain ⟨i, j, rfl, a1, a2, a3⟩ := isPr_iff.mp h
            have si : ∀ {k : Int}, 0 ≤ k → k ≤ m → sc (.int k) = true := fun {k} h h' => by
              unfold sc
              rw [decide_eq_true_eq]
              omega
            exact fn_tuple.mpr ⟨by simp, by simp [fn_sc (ns := [2]) (si (k := i) (by omega) (by omega)), fn_sc (ns := [2]) (si (k := j) (by omega) (by omega))]⟩
          exact ⟨ns, as, bs, rfl, ⟨by omega, by omega⟩, fun x hx => fn_sc (h2 x hx), ⟨by omega, fun x hx => pr (g3 x hx)⟩, by omega, fun x hx => pr (g4 x hx)⟩
end Lw

namespace Lw
open PySem (PyData Addr Str)
open DL
theorem pot_ok : PotOk b__law_pot_of := pot_gen 17 60 (by decide)
/-- a party whose shape both readings accept -/
theorem pty_shape {d : D} (h : isPty d = true) : ∃ ns as bs, d = .tuple [.tuple ns, .tuple as, .tuple bs] ∧ 1 ≤ ns.length ∧ ns.length ≤ 8 := by
  unfold isPty at h
  split at h
  · rename_i ns a b
    simp only [Bool.and_eq_true, decide_eq_true_eq] at h
    obtain ⟨as, rfl⟩ : ∃ as, a = .tuple as := by
      have := h.1.1.2
      cases a <;> first | exact ⟨_, rfl⟩ | cases this
    obtain ⟨bs, rfl⟩ : ∃ bs, b = .tuple bs := by
      have := h.1.2
      cases b <;> first | exact ⟨_, rfl⟩ | cases this
    exact ⟨ns, as, bs, rfl, by omega, by omega⟩
  · cases h
abbrev FB : List Nat := [10, 120, 4, 2]
theorem turn_ok {d : D} (h : fnB FB d = true) (o9 : Option Wv) (r : En) (hr : ∃ o0 o2 o3 o4 o5 o6 o7 : Option Wv, r = [o0, some .pot, o2, o3, o4, o5, o6, o7]) (w : D) : True := trivial
theorem law_ok : LawOk b_law 10 := by
  refine ⟨?_⟩
  obtain ⟨turns, r16⟩ : ∃ turns, rngI 16 = .ok turns := ⟨rng 0 16, rngI_e (by decide)⟩
  have h1 := @p_some_party
  have h2 := @p_spoilt
  have h3 := @p_pick
  have h4 := r_is_party
  have h5 := r_law_is_party
  unfold b_law
  generalize g__law_some_party = f1 at h1 ⊢
  generalize g__law_spoilt = f2 at h2 ⊢
  generalize g__law_pick = f3 at h3 ⊢
  generalize g_is_party = f4 at h4 ⊢
  generalize g__law_is_party = f5 at h5 ⊢
  simp only [lawE, DL.sel_true, DL.sel_false, DL.sel_self, DL.okb, DL.excb, DL.badb, DL.pickb, DL.okp, DL.pickp, DL.ddat, DL.down, DL.sdat, DL.sown, DL.sraw, DL.spot, DL.gdat, DL.gown, DL.graw, DL.gpot, DL.asBb, DL.asIi, DL.kBok, DL.noxok, DL.datas0, DL.frz1_own, DL.frz1_dat, DL.frz1_raw, DL.frz1_pot, DL.frz1_none, DL.frz1_nil, DL.frz1_succ, DL.frz_nil, DL.frz_cons, DL.rdv_dat, DL.rdv_raw, DL.rdv_pot, DL.rdv_succ, DL.rtnV_zero, DL.rtnV_succ, DL.ownAt_zero, DL.ownAt_succ, DL.startE_eq, DL.seq_e, DL.seqK_nx, DL.seqK_ret, DL.seqK_brk, DL.seqK_cont, DL.asg_e, DL.asgK_e, DL.rtn_e, DL.rtnK_e, DL.rtnN_e, DL.exs_e, DL.exsK_e, DL.ifs_e, DL.ifsK_true, DL.ifsK_false, DL.skip_e, DL.brkS_e, DL.contS_e, DL.badS_e, DL.body_e, DL.fin_ret, DL.fin_nx, DL.app1_e, DL.app1K_e, DL.app_e, DL.appO_e, DL.appW_e, DL.appD_e, DL.asg2_e, DL.asg2K_e, DL.asg2L_e, DL.unp_e, DL.unpW_e, DL.unpD_e, DL.goOn_some, DL.goOn_none, DL.bT_e, DL.setL_cons, DL.setL_nil, DL.bN_e, DL.sto1_e, DL.sto_e, DL.stoW_e, DL.stoD_e, DL.sto2_e, DL.sto2K_e, DL.sto2W_e, DL.sto2I_e, DL.sto1K_e, DL.atK_e, DL.ali_e, DL.aliK_true, DL.aliK_false, DL.ali1_e, DL.ali1B_e, DL.ali1O_e, DL.ali1W_e, DL.ali1D_e, DL.forS_e, DL.forK_e, DL.loopB_some, DL.loopK_nx, DL.loopK_cont, DL.loopK_brk, DL.loopK_ret, DL.bin2_e, DL.binK_e, DL.binL_e, DL.un1_e, DL.unK_e, DL.tst_e, DL.tand_e, DL.tandK_true, DL.tandK_false, DL.tor_e, DL.torK_true, DL.torK_false, DL.tnot_e, DL.notK_e, DL.vand_e, DL.vandK_e, DL.vandL_true, DL.vandL_false, DL.vor_e, DL.vorK_e, DL.vorL_true, DL.vorL_false, DL.vnot_e, DL.vnotK_e, DL.vnotL_e, DL.vif_e, DL.vifK_true, DL.vifK_false, DL.anil_e, DL.acons_e, DL.aconsK_e, DL.aconsL_e, DL.call_e, DL.ccall_e, DL.ccallK1, DL.ccallK2, DL.ccallK3, DL.ccallK4, DL.sub_e, DL.subK_e, DL.subH_e, DL.cutK_e, DL.cutL_e, DL.oN_e, DL.oS_e, DL.oSK_e, DL.oI_e, DL.rev_e, DL.revK_e, DL.tup_e, DL.lst_e, DL.mkTup_e, DL.mkLst_e, DL.tupD_e, DL.lstD_e, DL.datas_e, DL.datasK_e, DL.kN_e, DL.kB_e, DL.kI_e, DL.kS_e, DL.kT_e, DL.kD0_e, DL.chainI_e, DL.chA_e, DL.chB_e, DL.chI_e, DL.chJ_e, DL.chG_true, DL.chG_false, DL.chY_e, DL.chC_e, DL.sSeq_e, DL.seqSrc_e, DL.asItems_list, DL.asItems_tuple, DL.sRng1_e, DL.rngW_e, DL.sRng2_e, DL.rngK_e, DL.rngWW_e, DL.rngWI_e, DL.rngJ_e, DL.sZip_e, DL.zipK_e, DL.zipW_e, DL.zipA_e, DL.zipD_list, DL.zipD_tuple, DL.sEnum_e, DL.enumW_e, DL.enumV_e, DL.asList_e, DL.enumL_e, DL.ownR_e, DL.lc_e, DL.tYes_e, List.map_cons, List.map_nil, List.nil_append, List.cons_append, List.length_cons, List.length_nil, List.set_cons_zero, List.set_cons_succ, ite_self, reduceIte, noL_none, noL_bool, noL_int, noL_str, noL_list, noL_tuple, noLs_nil, noLs_cons, Bool.true_and, Bool.false_and, Bool.and_true, Bool.and_self, Bool.false_eq_true, Bool.not_true, Bool.not_false, List.replicate_succ, List.replicate_zero, DL.opEq_e, DL.flip_e, DL.opNe_e, DL.opIn_e, DL.opNotIn_e, DL.opLt_e, DL.opAdd_e, DL.opMul_e, DL.opIx_e, DL.opIsN_e, DL.opNotN_e, DL.opNeg_e, DL.opLe_e, DL.opGt_e, DL.opGe_e, DL.opSub_e, DL.vLt_int, DL.vEq_int, DL.vAdd_int, DL.vAdd_list, DL.vAdd_tuple, DL.vLen_tuple, DL.vLen_list, DL.vInt_int, DL.vTuple_list, DL.vTuple_tuple, DL.vList_list, DL.vList_tuple, DL.vRev_list, DL.vRev_tuple, DL.vCut_list, DL.vCut_tuple, DL.f1_e, DL.f2_e, DL.isNon_none, DL.isNon_int, DL.isi_int, DL.isi_bool, DL.isi_tuple, DL.isi_list, DL.isi_str, DL.isi_dict, r16]
  (repeat rw [M.post_bind])
  apply post_use (R := fun fl => ∃ o2 o3 o4 o5 o6 o7 o8 o9, fl = .nx [none, some .pot, o2, o3, o4, o5, o6, o7, o8, o9])
  rotate_left
  · rintro fl ⟨o2, o3, o4, o5, o6, o7, o8, o9, rfl⟩
    (repeat rw [← M.post_bind])
    simp only [DL.sel_true, DL.sel_false, DL.sel_self, DL.okb, DL.excb, DL.badb, DL.pickb, DL.okp, DL.pickp, DL.ddat, DL.down, DL.sdat, DL.sown, DL.sraw, DL.spot, DL.gdat, DL.gown, DL.graw, DL.gpot, DL.asBb, DL.asIi, DL.kBok, DL.noxok, DL.datas0, DL.frz1_own, DL.frz1_dat, DL.frz1_raw, DL.frz1_pot, DL.frz1_none, DL.frz1_nil, DL.frz1_succ, DL.frz_nil, DL.frz_cons, DL.rdv_dat, DL.rdv_raw, DL.rdv_pot, DL.rdv_succ, DL.rtnV_zero, DL.rtnV_succ, DL.ownAt_zero, DL.ownAt_succ, DL.startE_eq, DL.seq_e, DL.seqK_nx, DL.seqK_ret, DL.seqK_brk, DL.seqK_cont, DL.asg_e, DL.asgK_e, DL.rtn_e, DL.rtnK_e, DL.rtnN_e, DL.exs_e, DL.exsK_e, DL.ifs_e, DL.ifsK_true, DL.ifsK_false, DL.skip_e, DL.brkS_e, DL.contS_e, DL.badS_e, DL.body_e, DL.fin_ret, DL.fin_nx, DL.app1_e, DL.app1K_e, DL.app_e, DL.appO_e, DL.appW_e, DL.appD_e, DL.asg2_e, DL.asg2K_e, DL.asg2L_e, DL.unp_e, DL.unpW_e, DL.unpD_e, DL.goOn_some, DL.goOn_none, DL.bT_e, DL.setL_cons, DL.setL_nil, DL.bN_e, DL.sto1_e, DL.sto_e, DL.stoW_e, DL.stoD_e, DL.sto2_e, DL.sto2K_e, DL.sto2W_e, DL.sto2I_e, DL.sto1K_e, DL.atK_e, DL.ali_e, DL.aliK_true, DL.aliK_false, DL.ali1_e, DL.ali1B_e, DL.ali1O_e, DL.ali1W_e, DL.ali1D_e, DL.forS_e, DL.forK_e, DL.loopB_some, DL.loopK_nx, DL.loopK_cont, DL.loopK_brk, DL.loopK_ret, DL.bin2_e, DL.binK_e, DL.binL_e, DL.un1_e, DL.unK_e, DL.tst_e, DL.tand_e, DL.tandK_true, DL.tandK_false, DL.tor_e, DL.torK_true, DL.torK_false, DL.tnot_e, DL.notK_e, DL.vand_e, DL.vandK_e, DL.vandL_true, DL.vandL_false, DL.vor_e, DL.vorK_e, DL.vorL_true, DL.vorL_false, DL.vnot_e, DL.vnotK_e, DL.vnotL_e, DL.vif_e, DL.vifK_true, DL.vifK_false, DL.anil_e, DL.acons_e, DL.aconsK_e, DL.aconsL_e, DL.call_e, DL.ccall_e, DL.ccallK1, DL.ccallK2, DL.ccallK3, DL.ccallK4, DL.sub_e, DL.subK_e, DL.subH_e, DL.cutK_e, DL.cutL_e, DL.oN_e, DL.oS_e, DL.oSK_e, DL.oI_e, DL.rev_e, DL.revK_e, DL.tup_e, DL.lst_e, DL.mkTup_e, DL.mkLst_e, DL.tupD_e, DL.lstD_e, DL.datas_e, DL.datasK_e, DL.kN_e, DL.kB_e, DL.kI_e, DL.kS_e, DL.kT_e, DL.kD0_e, DL.chainI_e, DL.chA_e, DL.chB_e, DL.chI_e, DL.chJ_e, DL.chG_true, DL.chG_false, DL.chY_e, DL.chC_e, DL.sSeq_e, DL.seqSrc_e, DL.asItems_list, DL.asItems_tuple, DL.sRng1_e, DL.rngW_e, DL.rngI_e, DL.sRng2_e, DL.rngK_e, DL.rngWW_e, DL.rngWI_e, DL.rngJ_e, DL.sZip_e, DL.zipK_e, DL.zipW_e, DL.zipA_e, DL.zipD_list, DL.zipD_tuple, DL.sEnum_e, DL.enumW_e, DL.enumV_e, DL.asList_e, DL.enumL_e, DL.ownR_e, DL.lc_e, DL.tYes_e, List.map_cons, List.map_nil, List.nil_append, List.cons_append, List.length_cons, List.length_nil, List.set_cons_zero, List.set_cons_succ, ite_self, reduceIte, noL_none, noL_bool, noL_int, noL_str, noL_list, noL_tuple, noLs_nil, noLs_cons, Bool.true_and, Bool.false_and, Bool.and_true, Bool.and_self, Bool.false_eq_true, Bool.not_true, Bool.not_false, List.replicate_succ, List.replicate_zero, DL.opEq_e, DL.flip_e, DL.opNe_e, DL.opIn_e, DL.opNotIn_e, DL.opLt_e, DL.opAdd_e, DL.opMul_e, DL.opIx_e, DL.opIsN_e, DL.opNotN_e, DL.opNeg_e, DL.opLe_e, DL.opGt_e, DL.opGe_e, DL.opSub_e, DL.vLt_int, DL.vEq_int, DL.vAdd_int, DL.vAdd_list, DL.vAdd_tuple, DL.vLen_tuple, DL.vLen_list, DL.vInt_int, DL.vTuple_list, DL.vTuple_tuple, DL.vList_list, DL.vList_tuple, DL.vRev_list, DL.vRev_tuple, DL.vCut_list, DL.vCut_tuple, DL.f1_e, DL.f2_e, DL.isNon_none, DL.isNon_int, DL.isi_int, DL.isi_bool, DL.isi_tuple, DL.isi_list, DL.isi_str, DL.isi_dict]
  apply loop_pst (fun ds ρ => ∃ o2 o3 o4 o5 o6 o7 o8 o9, ρ = [none, some .pot, o2, o3, o4, o5, o6, o7, o8, o9])
  · exact ⟨_, _, _, _, _, _, _, _, rfl⟩
  · rintro ρ ⟨o2, o3, o4, o5, o6, o7, o8, o9, rfl⟩
    exact ⟨_, _, _, _, _, _, _, _, rfl⟩
  · rintro d ds ρ ⟨o2, o3, o4, o5, o6, o7, o8, o9, rfl⟩
    refine ⟨_, rfl, ?_⟩
    simp only [DL.sel_true, DL.sel_false, DL.sel_self, DL.okb, DL.excb, DL.badb, DL.pickb, DL.okp, DL.pickp, DL.ddat, DL.down, DL.sdat, DL.sown, DL.sraw, DL.spot, DL.gdat, DL.gown, DL.graw, DL.gpot, DL.asBb, DL.asIi, DL.kBok, DL.noxok, DL.datas0, DL.frz1_own, DL.frz1_dat, DL.frz1_raw, DL.frz1_pot, DL.frz1_none, DL.frz1_nil, DL.frz1_succ, DL.frz_nil, DL.frz_cons, DL.rdv_dat, DL.rdv_raw, DL.rdv_pot, DL.rdv_succ, DL.rtnV_zero, DL.rtnV_succ, DL.ownAt_zero, DL.ownAt_succ, DL.startE_eq, DL.seq_e, DL.seqK_nx, DL.seqK_ret, DL.seqK_brk, DL.seqK_cont, DL.asg_e, DL.asgK_e, DL.rtn_e, DL.rtnK_e, DL.rtnN_e, DL.exs_e, DL.exsK_e, DL.ifs_e, DL.ifsK_true, DL.ifsK_false, DL.skip_e, DL.brkS_e, DL.contS_e, DL.badS_e, DL.body_e, DL.fin_ret, DL.fin_nx, DL.app1_e, DL.app1K_e, DL.app_e, DL.appO_e, DL.appW_e, DL.appD_e, DL.asg2_e, DL.asg2K_e, DL.asg2L_e, DL.unp_e, DL.unpW_e, DL.unpD_e, DL.goOn_some, DL.goOn_none, DL.bT_e, DL.setL_cons, DL.setL_nil, DL.bN_e, DL.sto1_e, DL.sto_e, DL.stoW_e, DL.stoD_e, DL.sto2_e, DL.sto2K_e, DL.sto2W_e, DL.sto2I_e, DL.sto1K_e, DL.atK_e, DL.ali_e, DL.aliK_true, DL.aliK_false, DL.ali1_e, DL.ali1B_e, DL.ali1O_e, DL.ali1W_e, DL.ali1D_e, DL.forS_e, DL.forK_e, DL.loopB_some, DL.loopK_nx, DL.loopK_cont, DL.loopK_brk, DL.loopK_ret, DL.bin2_e, DL.binK_e, DL.binL_e, DL.un1_e, DL.unK_e, DL.tst_e, DL.tand_e, DL.tandK_true, DL.tandK_false, DL.tor_e, DL.torK_true, DL.torK_false, DL.tnot_e, DL.notK_e, DL.vand_e, DL.vandK_e, DL.vandL_true, DL.vandL_false, DL.vor_e, DL.vorK_e, DL.vorL_true, DL.vorL_false, DL.vnot_e, DL.vnotK_e, DL.vnotL_e, DL.vif_e, DL.vifK_true, DL.vifK_false, DL.anil_e, DL.acons_e, DL.aconsK_e, DL.aconsL_e, DL.call_e, DL.ccall_e, DL.ccallK1, DL.ccallK2, DL.ccallK3, DL.ccallK4, DL.sub_e, DL.subK_e, DL.subH_e, DL.cutK_e, DL.cutL_e, DL.oN_e, DL.oS_e, DL.oSK_e, DL.oI_e, DL.rev_e, DL.revK_e, DL.tup_e, DL.lst_e, DL.mkTup_e, DL.mkLst_e, DL.tupD_e, DL.lstD_e, DL.datas_e, DL.datasK_e, DL.kN_e, DL.kB_e, DL.kI_e, DL.kS_e, DL.kT_e, DL.kD0_e, DL.chainI_e, DL.chA_e, DL.chB_e, DL.chI_e, DL.chJ_e, DL.chG_true, DL.chG_false, DL.chY_e, DL.chC_e, DL.sSeq_e, DL.seqSrc_e, DL.asItems_list, DL.asItems_tuple, DL.sRng1_e, DL.rngW_e, DL.rngI_e, DL.sRng2_e, DL.rngK_e, DL.rngWW_e, DL.rngWI_e, DL.rngJ_e, DL.sZip_e, DL.zipK_e, DL.zipW_e, DL.zipA_e, DL.zipD_list, DL.zipD_tuple, DL.sEnum_e, DL.enumW_e, DL.enumV_e, DL.asList_e, DL.enumL_e, DL.ownR_e, DL.lc_e, DL.tYes_e, List.map_cons, List.map_nil, List.nil_append, List.cons_append, List.length_cons, List.length_nil, List.set_cons_zero, List.set_cons_succ, ite_self, reduceIte, noL_none, noL_bool, noL_int, noL_str, noL_list, noL_tuple, noLs_nil, noLs_cons, Bool.true_and, Bool.false_and, Bool.and_true, Bool.and_self, Bool.false_eq_true, Bool.not_true, Bool.not_false, List.replicate_succ, List.replicate_zero, DL.opEq_e, DL.flip_e, DL.opNe_e, DL.opIn_e, DL.opNotIn_e, DL.opLt_e, DL.opAdd_e, DL.opMul_e, DL.opIx_e, DL.opIsN_e, DL.opNotN_e, DL.opNeg_e, DL.opLe_e, DL.opGt_e, DL.opGe_e, DL.opSub_e, DL.vLt_int, DL.vEq_int, DL.vAdd_int, DL.vAdd_list, DL.vAdd_tuple, DL.vLen_tuple, DL.vLen_list, DL.vInt_int, DL.vTuple_list, DL.vTuple_tuple, DL.vList_list, DL.vList_tuple, DL.vRev_list, DL.vRev_tuple, DL.vCut_list, DL.vCut_tuple, DL.f1_e, DL.f2_e, DL.isNon_none, DL.isNon_int, DL.isi_int, DL.isi_bool, DL.isi_tuple, DL.isi_list, DL.isi_str, DL.isi_dict]
    (repeat rw [M.post_bind])
    refine post_use h1 fun w hw => ?_
    obtain ⟨ns, as, bs, rfl, hn, q1, q2, q3⟩ := hw
    (repeat rw [← M.post_bind])
    simp (disch := (try simp only [List.length_append, List.length_take, List.length_drop, List.length_reverse, List.length_map, List.length_cons, List.length_nil]); omega) only [DL.sel_true, DL.sel_false, DL.sel_self, DL.okb, DL.excb, DL.badb, DL.pickb, DL.okp, DL.pickp, DL.ddat, DL.down, DL.sdat, DL.sown, DL.sraw, DL.spot, DL.gdat, DL.gown, DL.graw, DL.gpot, DL.asBb, DL.asIi, DL.kBok, DL.noxok, DL.datas0, DL.frz1_own, DL.frz1_dat, DL.frz1_raw, DL.frz1_pot, DL.frz1_none, DL.frz1_nil, DL.frz1_succ, DL.frz_nil, DL.frz_cons, DL.rdv_dat, DL.rdv_raw, DL.rdv_pot, DL.rdv_succ, DL.rtnV_zero, DL.rtnV_succ, DL.ownAt_zero, DL.ownAt_succ, DL.startE_eq, DL.seq_e, DL.seqK_nx, DL.seqK_ret, DL.seqK_brk, DL.seqK_cont, DL.asg_e, DL.asgK_e, DL.rtn_e, DL.rtnK_e, DL.rtnN_e, DL.exs_e, DL.exsK_e, DL.ifs_e, DL.ifsK_true, DL.ifsK_false, DL.skip_e, DL.brkS_e, DL.contS_e, DL.badS_e, DL.body_e, DL.fin_ret, DL.fin_nx, DL.app1_e, DL.app1K_e, DL.app_e, DL.appO_e, DL.appW_e, DL.appD_e, DL.asg2_e, DL.asg2K_e, DL.asg2L_e, DL.unp_e, DL.unpW_e, DL.unpD_e, DL.goOn_some, DL.goOn_none, DL.bT_e, DL.setL_cons, DL.setL_nil, DL.bN_e, DL.sto1_e, DL.sto_e, DL.stoW_e, DL.stoD_e, DL.sto2_e, DL.sto2K_e, DL.sto2W_e, DL.sto2I_e, DL.sto1K_e, DL.atK_e, DL.ali_e, DL.aliK_true, DL.aliK_false, DL.ali1_e, DL.ali1B_e, DL.ali1O_e, DL.ali1W_e, DL.ali1D_e, DL.forS_e, DL.forK_e, DL.loopB_some, DL.loopK_nx, DL.loopK_cont, DL.loopK_brk, DL.loopK_ret, DL.bin2_e, DL.binK_e, DL.binL_e, DL.un1_e, DL.unK_e, DL.tst_e, DL.tand_e, DL.tandK_true, DL.tandK_false, DL.tor_e, DL.torK_true, DL.torK_false, DL.tnot_e, DL.notK_e, DL.vand_e, DL.vandK_e, DL.vandL_true, DL.vandL_false, DL.vor_e, DL.vorK_e, DL.vorL_true, DL.vorL_false, DL.vnot_e, DL.vnotK_e, DL.vnotL_e, DL.vif_e, DL.vifK_true, DL.vifK_false, DL.anil_e, DL.acons_e, DL.aconsK_e, DL.aconsL_e, DL.call_e, DL.ccall_e, DL.ccallK1, DL.ccallK2, DL.ccallK3, DL.ccallK4, DL.sub_e, DL.subK_e, DL.subH_e, DL.cutK_e, DL.cutL_e, DL.oN_e, DL.oS_e, DL.oSK_e, DL.oI_e, DL.rev_e, DL.revK_e, DL.tup_e, DL.lst_e, DL.mkTup_e, DL.mkLst_e, DL.tupD_e, DL.lstD_e, DL.datas_e, DL.datasK_e, DL.kN_e, DL.kB_e, DL.kI_e, DL.kS_e, DL.kT_e, DL.kD0_e, DL.chainI_e, DL.chA_e, DL.chB_e, DL.chI_e, DL.chJ_e, DL.chG_true, DL.chG_false, DL.chY_e, DL.chC_e, DL.sSeq_e, DL.seqSrc_e, DL.asItems_list, DL.asItems_tuple, DL.sRng1_e, DL.rngW_e, DL.rngI_e, DL.sRng2_e, DL.rngK_e, DL.rngWW_e, DL.rngWI_e, DL.rngJ_e, DL.sZip_e, DL.zipK_e, DL.zipW_e, DL.zipA_e, DL.zipD_list, DL.zipD_tuple, DL.sEnum_e, DL.enumW_e, DL.enumV_e, DL.asList_e, DL.enumL_e, DL.ownR_e, DL.lc_e, DL.tYes_e, List.map_cons, List.map_nil, List.nil_append, List.cons_append, List.length_cons, List.length_nil, List.set_cons_zero, List.set_cons_succ, ite_self, reduceIte, noL_none, noL_bool, noL_int, noL_str, noL_list, noL_tuple, noLs_nil, noLs_cons, Bool.true_and, Bool.false_and, Bool.and_true, Bool.and_self, Bool.false_eq_true, Bool.not_true, Bool.not_false, List.replicate_succ, List.replicate_zero, DL.opEq_e, DL.flip_e, DL.opNe_e, DL.opIn_e, DL.opNotIn_e, DL.opLt_e, DL.opAdd_e, DL.opMul_e, DL.opIx_e, DL.opIsN_e, DL.opNotN_e, DL.opNeg_e, DL.opLe_e, DL.opGt_e, DL.opGe_e, DL.opSub_e, DL.vLt_int, DL.vEq_int, DL.vAdd_int, DL.vAdd_list, DL.vAdd_tuple, DL.vLen_tuple, DL.vLen_list, DL.vInt_int, DL.vTuple_list, DL.vTuple_tuple, DL.vList_list, DL.vList_tuple, DL.vRev_list, DL.vRev_tuple, DL.vCut_list, DL.vCut_tuple, DL.f1_e, DL.f2_e, DL.isNon_none, DL.isNon_int, DL.isi_int, DL.isi_bool, DL.isi_tuple, DL.isi_list, DL.isi_str, DL.isi_dict]
    (repeat rw [M.post_bind])
    refine post_use (h2 hn ⟨by decide, by decide⟩ q1 q2 q3) fun w hw => ?_
    obtain ⟨first, rfl, hf⟩ := hw
    (repeat rw [← M.post_bind])
    simp (disch := (try simp only [List.length_append, List.length_take, List.length_drop, List.length_reverse, List.length_map, List.length_cons, List.length_nil]); omega) only [DL.sel_true, DL.sel_false, DL.sel_self, DL.okb, DL.excb, DL.badb, DL.pickb, DL.okp, DL.pickp, DL.ddat, DL.down, DL.sdat, DL.sown, DL.sraw, DL.spot, DL.gdat, DL.gown, DL.graw, DL.gpot, DL.asBb, DL.asIi, DL.kBok, DL.noxok, DL.datas0, DL.frz1_own, DL.frz1_dat, DL.frz1_raw, DL.frz1_pot, DL.frz1_none, DL.frz1_nil, DL.frz1_succ, DL.frz_nil, DL.frz_cons, DL.rdv_dat, DL.rdv_raw, DL.rdv_pot, DL.rdv_succ, DL.rtnV_zero, DL.rtnV_succ, DL.ownAt_zero, DL.ownAt_succ, DL.startE_eq, DL.seq_e, DL.seqK_nx, DL.seqK_ret, DL.seqK_brk, DL.seqK_cont, DL.asg_e, DL.asgK_e, DL.rtn_e, DL.rtnK_e, DL.rtnN_e, DL.exs_e, DL.exsK_e, DL.ifs_e, DL.ifsK_true, DL.ifsK_false, DL.skip_e, DL.brkS_e, DL.contS_e, DL.badS_e, DL.body_e, DL.fin_ret, DL.fin_nx, DL.app1_e, DL.app1K_e, DL.app_e, DL.appO_e, DL.appW_e, DL.appD_e, DL.asg2_e, DL.asg2K_e, DL.asg2L_e, DL.unp_e, DL.unpW_e, DL.unpD_e, DL.goOn_some, DL.goOn_none, DL.bT_e, DL.setL_cons, DL.setL_nil, DL.bN_e, DL.sto1_e, DL.sto_e, DL.stoW_e, DL.stoD_e, DL.sto2_e, DL.sto2K_e, DL.sto2W_e, DL.sto2I_e, DL.sto1K_e, DL.atK_e, DL.ali_e, DL.aliK_true, DL.aliK_false, DL.ali1_e, DL.ali1B_e, DL.ali1O_e, DL.ali1W_e, DL.ali1D_e, DL.forS_e, DL.forK_e, DL.loopB_some, DL.loopK_nx, DL.loopK_cont, DL.loopK_brk, DL.loopK_ret, DL.bin2_e, DL.binK_e, DL.binL_e, DL.un1_e, DL.unK_e, DL.tst_e, DL.tand_e, DL.tandK_true, DL.tandK_false, DL.tor_e, DL.torK_true, DL.torK_false, DL.tnot_e, DL.notK_e, DL.vand_e, DL.vandK_e, DL.vandL_true, DL.vandL_false, DL.vor_e, DL.vorK_e, DL.vorL_true, DL.vorL_false, DL.vnot_e, DL.vnotK_e, DL.vnotL_e, DL.vif_e, DL.vifK_true, DL.vifK_false, DL.anil_e, DL.acons_e, DL.aconsK_e, DL.aconsL_e, DL.call_e, DL.ccall_e, DL.ccallK1, DL.ccallK2, DL.ccallK3, DL.ccallK4, DL.sub_e, DL.subK_e, DL.subH_e, DL.cutK_e, DL.cutL_e, DL.oN_e, DL.oS_e, DL.oSK_e, DL.oI_e, DL.rev_e, DL.revK_e, DL.tup_e, DL.lst_e, DL.mkTup_e, DL.mkLst_e, DL.tupD_e, DL.lstD_e, DL.datas_e, DL.datasK_e, DL.kN_e, DL.kB_e, DL.kI_e, DL.kS_e, DL.kT_e, DL.kD0_e, DL.chainI_e, DL.chA_e, DL.chB_e, DL.chI_e, DL.chJ_e, DL.chG_true, DL.chG_false, DL.chY_e, DL.chC_e, DL.sSeq_e, DL.seqSrc_e, DL.asItems_list, DL.asItems_tuple, DL.sRng1_e, DL.rngW_e, DL.rngI_e, DL.sRng2_e, DL.rngK_e, DL.rngWW_e, DL.rngWI_e, DL.rngJ_e, DL.sZip_e, DL.zipK_e, DL.zipW_e, DL.zipA_e, DL.zipD_list, DL.zipD_tuple, DL.sEnum_e, DL.enumW_e, DL.enumV_e, DL.asList_e, DL.enumL_e, DL.ownR_e, DL.lc_e, DL.tYes_e, List.map_cons, List.map_nil, List.nil_append, List.cons_append, List.length_cons, List.length_nil, List.set_cons_zero, List.set_cons_succ, ite_self, reduceIte, noL_none, noL_bool, noL_int, noL_str, noL_list, noL_tuple, noLs_nil, noLs_cons, Bool.true_and, Bool.false_and, Bool.and_true, Bool.and_self, Bool.false_eq_true, Bool.not_true, Bool.not_false, List.replicate_succ, List.replicate_zero, DL.opEq_e, DL.flip_e, DL.opNe_e, DL.opIn_e, DL.opNotIn_e, DL.opLt_e, DL.opAdd_e, DL.opMul_e, DL.opIx_e, DL.opIsN_e, DL.opNotN_e, DL.opNeg_e, DL.opLe_e, DL.opGt_e, DL.opGe_e, DL.opSub_e, DL.vLt_int, DL.vEq_int, DL.vAdd_int, DL.vAdd_list, DL.vAdd_tuple, DL.vLen_tuple, DL.vLen_list, DL.vInt_int, DL.vTuple_list, DL.vTuple_tuple, DL.vList_list, DL.vList_tuple, DL.vRev_list, DL.vRev_tuple, DL.vCut_list, DL.vCut_tuple, DL.f1_e, DL.f2_e, DL.isNon_none, DL.isNon_int, DL.isi_int, DL.isi_bool, DL.isi_tuple, DL.isi_list, DL.isi_str, DL.isi_dict, h5 first (sz_fn 3 hf (by decide))]
    (repeat rw [M.post_bind])
    refine post_use (R := fun w => ∃ d, w = .dat d ∧ fnB FB d = true) ⟨?_⟩ fun w hw => ?_
    · cases hp : isPty first with
      | false =>
        simp only [DL.sel_true, DL.sel_false, DL.sel_self, DL.okb, DL.excb, DL.badb, DL.pickb, DL.okp, DL.pickp, DL.ddat, DL.down, DL.sdat, DL.sown, DL.sraw, DL.spot, DL.gdat, DL.gown, DL.graw, DL.gpot, DL.asBb, DL.asIi, DL.kBok, DL.noxok, DL.datas0, DL.frz1_own, DL.frz1_dat, DL.frz1_raw, DL.frz1_pot, DL.frz1_none, DL.frz1_nil, DL.frz1_succ, DL.frz_nil, DL.frz_cons, DL.rdv_dat, DL.rdv_raw, DL.rdv_pot, DL.rdv_succ, DL.rtnV_zero, DL.rtnV_succ, DL.ownAt_zero, DL.ownAt_succ, DL.startE_eq, DL.seq_e, DL.seqK_nx, DL.seqK_ret, DL.seqK_brk, DL.seqK_cont, DL.asg_e, DL.asgK_e, DL.rtn_e, DL.rtnK_e, DL.rtnN_e, DL.exs_e, DL.exsK_e, DL.ifs_e, DL.ifsK_true, DL.ifsK_false, DL.skip_e, DL.brkS_e, DL.contS_e, DL.badS_e, DL.body_e, DL.fin_ret, DL.fin_nx, DL.app1_e, DL.app1K_e, DL.app_e, DL.appO_e, DL.appW_e, DL.appD_e, DL.asg2_e, DL.asg2K_e, DL.asg2L_e, DL.unp_e, DL.unpW_e, DL.unpD_e, DL.goOn_some, DL.goOn_none, DL.bT_e, DL.setL_cons, DL.setL_nil, DL.bN_e, DL.sto1_e, DL.sto_e, DL.stoW_e, DL.stoD_e, DL.sto2_e, DL.sto2K_e, DL.sto2W_e, DL.sto2I_e, DL.sto1K_e, DL.atK_e, DL.ali_e, DL.aliK_true, DL.aliK_false, DL.ali1_e, DL.ali1B_e, DL.ali1O_e, DL.ali1W_e, DL.ali1D_e, DL.forS_e, DL.forK_e, DL.loopB_some, DL.loopK_nx, DL.loopK_cont, DL.loopK_brk, DL.loopK_ret, DL.bin2_e, DL.binK_e, DL.binL_e, DL.un1_e, DL.unK_e, DL.tst_e, DL.tand_e, DL.tandK_true, DL.tandK_false, DL.tor_e, DL.torK_true, DL.torK_false, DL.tnot_e, DL.notK_e, DL.vand_e, DL.vandK_e, DL.vandL_true, DL.vandL_false, DL.vor_e, DL.vorK_e, DL.vorL_true, DL.vorL_false, DL.vnot_e, DL.vnotK_e, DL.vnotL_e, DL.vif_e, DL.vifK_true, DL.vifK_false, DL.anil_e, DL.acons_e, DL.aconsK_e, DL.aconsL_e, DL.call_e, DL.ccall_e, DL.ccallK1, DL.ccallK2, DL.ccallK3, DL.ccallK4, DL.sub_e, DL.subK_e, DL.subH_e, DL.cutK_e, DL.cutL_e, DL.oN_e, DL.oS_e, DL.oSK_e, DL.oI_e, DL.rev_e, DL.revK_e, DL.tup_e, DL.lst_e, DL.mkTup_e, DL.mkLst_e, DL.tupD_e, DL.lstD_e, DL.datas_e, DL.datasK_e, DL.kN_e, DL.kB_e, DL.kI_e, DL.kS_e, DL.kT_e, DL.kD0_e, DL.chainI_e, DL.chA_e, DL.chB_e, DL.chI_e, DL.chJ_e, DL.chG_true, DL.chG_false, DL.chY_e, DL.chC_e, DL.sSeq_e, DL.seqSrc_e, DL.asItems_list, DL.asItems_tuple, DL.sRng1_e, DL.rngW_e, DL.rngI_e, DL.sRng2_e, DL.rngK_e, DL.rngWW_e, DL.rngWI_e, DL.rngJ_e, DL.sZip_e, DL.zipK_e, DL.zipW_e, DL.zipA_e, DL.zipD_list, DL.zipD_tuple, DL.sEnum_e, DL.enumW_e, DL.enumV_e, DL.asList_e, DL.enumL_e, DL.ownR_e, DL.lc_e, DL.tYes_e, List.map_cons, List.map_nil, List.nil_append, List.cons_append, List.length_cons, List.length_nil, List.set_cons_zero, List.set_cons_succ, ite_self, reduceIte, noL_none, noL_bool, noL_int, noL_str, noL_list, noL_tuple, noLs_nil, noLs_cons, Bool.true_and, Bool.false_and, Bool.and_true, Bool.and_self, Bool.false_eq_true, Bool.not_true, Bool.not_false, List.replicate_succ, List.replicate_zero, DL.opEq_e, DL.flip_e, DL.opNe_e, DL.opIn_e, DL.opNotIn_e, DL.opLt_e, DL.opAdd_e, DL.opMul_e, DL.opIx_e, DL.opIsN_e, DL.opNotN_e, DL.opNeg_e, DL.opLe_e, DL.opGt_e, DL.opGe_e, DL.opSub_e, DL.vLt_int, DL.vEq_int, DL.vAdd_int, DL.vAdd_list, DL.vAdd_tuple, DL.vLen_tuple, DL.vLen_list, DL.vInt_int, DL.vTuple_list, DL.vTuple_tuple, DL.vList_list, DL.vList_tuple, DL.vRev_list, DL.vRev_tuple, DL.vCut_list, DL.vCut_tuple, DL.f1_e, DL.f2_e, DL.isNon_none, DL.isNon_int, DL.isi_int, DL.isi_bool, DL.isi_tuple, DL.isi_list, DL.isi_str, DL.isi_dict]
        exact ⟨_, rfl, fn_mono (by decide) hf⟩
      | true =>
        obtain ⟨ns', as', bs', rfl, n1, n2⟩ := pty_shape hp
        obtain ⟨_, hf2⟩ := fn_tuple.mp hf
        obtain ⟨_, e1⟩ := fn_tuple.mp (hf2 (.tuple ns') (by simp))
        have e2 := fn_tuple.mp (hf2 (.tuple as') (by simp))
        have e3 := fn_tuple.mp (hf2 (.tuple bs') (by simp))
        simp only [DL.sel_true, DL.sel_false, DL.sel_self, DL.okb, DL.excb, DL.badb, DL.pickb, DL.okp, DL.pickp, DL.ddat, DL.down, DL.sdat, DL.sown, DL.sraw, DL.spot, DL.gdat, DL.gown, DL.graw, DL.gpot, DL.asBb, DL.asIi, DL.kBok, DL.noxok, DL.datas0, DL.frz1_own, DL.frz1_dat, DL.frz1_raw, DL.frz1_pot, DL.frz1_none, DL.frz1_nil, DL.frz1_succ, DL.frz_nil, DL.frz_cons, DL.rdv_dat, DL.rdv_raw, DL.rdv_pot, DL.rdv_succ, DL.rtnV_zero, DL.rtnV_succ, DL.ownAt_zero, DL.ownAt_succ, DL.startE_eq, DL.seq_e, DL.seqK_nx, DL.seqK_ret, DL.seqK_brk, DL.seqK_cont, DL.asg_e, DL.asgK_e, DL.rtn_e, DL.rtnK_e, DL.rtnN_e, DL.exs_e, DL.exsK_e, DL.ifs_e, DL.ifsK_true, DL.ifsK_false, DL.skip_e, DL.brkS_e, DL.contS_e, DL.badS_e, DL.body_e, DL.fin_ret, DL.fin_nx, DL.app1_e, DL.app1K_e, DL.app_e, DL.appO_e, DL.appW_e, DL.appD_e, DL.asg2_e, DL.asg2K_e, DL.asg2L_e, DL.unp_e, DL.unpW_e, DL.unpD_e, DL.goOn_some, DL.goOn_none, DL.bT_e, DL.setL_cons, DL.setL_nil, DL.bN_e, DL.sto1_e, DL.sto_e, DL.stoW_e, DL.stoD_e, DL.sto2_e, DL.sto2K_e, DL.sto2W_e, DL.sto2I_e, DL.sto1K_e, DL.atK_e, DL.ali_e, DL.aliK_true, DL.aliK_false, DL.ali1_e, DL.ali1B_e, DL.ali1O_e, DL.ali1W_e, DL.ali1D_e, DL.forS_e, DL.forK_e, DL.loopB_some, DL.loopK_nx, DL.loopK_cont, DL.loopK_brk, DL.loopK_ret, DL.bin2_e, DL.binK_e, DL.binL_e, DL.un1_e, DL.unK_e, DL.tst_e, DL.tand_e, DL.tandK_true, DL.tandK_false, DL.tor_e, DL.torK_true, DL.torK_false, DL.tnot_e, DL.notK_e, DL.vand_e, DL.vandK_e, DL.vandL_true, DL.vandL_false, DL.vor_e, DL.vorK_e, DL.vorL_true, DL.vorL_false, DL.vnot_e, DL.vnotK_e, DL.vnotL_e, DL.vif_e, DL.vifK_true, DL.vifK_false, DL.anil_e, DL.acons_e, DL.aconsK_e, DL.aconsL_e, DL.call_e, DL.ccall_e, DL.ccallK1, DL.ccallK2, DL.ccallK3, DL.ccallK4, DL.sub_e, DL.subK_e, DL.subH_e, DL.cutK_e, DL.cutL_e, DL.oN_e, DL.oS_e, DL.oSK_e, DL.oI_e, DL.rev_e, DL.revK_e, DL.tup_e, DL.lst_e, DL.mkTup_e, DL.mkLst_e, DL.tupD_e, DL.lstD_e, DL.datas_e, DL.datasK_e, DL.kN_e, DL.kB_e, DL.kI_e, DL.kS_e, DL.kT_e, DL.kD0_e, DL.chainI_e, DL.chA_e, DL.chB_e, DL.chI_e, DL.chJ_e, DL.chG_true, DL.chG_false, DL.chY_e, DL.chC_e, DL.sSeq_e, DL.seqSrc_e, DL.asItems_list, DL.asItems_tuple, DL.sRng1_e, DL.rngW_e, DL.rngI_e, DL.sRng2_e, DL.rngK_e, DL.rngWW_e, DL.rngWI_e, DL.rngJ_e, DL.sZip_e, DL.zipK_e, DL.zipW_e, DL.zipA_e, DL.zipD_list, DL.zipD_tuple, DL.sEnum_e, DL.enumW_e, DL.enumV_e, DL.asList_e, DL.enumL_e, DL.ownR_e, DL.lc_e, DL.tYes_e, List.map_cons, List.map_nil, List.nil_append, List.cons_append, List.length_cons, List.length_nil, List.set_cons_zero, List.set_cons_succ, ite_self, reduceIte, noL_none, noL_bool, noL_int, noL_str, noL_list, noL_tuple, noLs_nil, noLs_cons, Bool.true_and, Bool.false_and, Bool.and_true, Bool.and_self, Bool.false_eq_true, Bool.not_true, Bool.not_false, List.replicate_succ, List.replicate_zero, DL.opEq_e, DL.flip_e, DL.opNe_e, DL.opIn_e, DL.opNotIn_e, DL.opLt_e, DL.opAdd_e, DL.opMul_e, DL.opIx_e, DL.opIsN_e, DL.opNotN_e, DL.opNeg_e, DL.opLe_e, DL.opGt_e, DL.opGe_e, DL.opSub_e, DL.vLt_int, DL.vEq_int, DL.vAdd_int, DL.vAdd_list, DL.vAdd_tuple, DL.vLen_tuple, DL.vLen_list, DL.vInt_int, DL.vTuple_list, DL.vTuple_tuple, DL.vList_list, DL.vList_tuple, DL.vRev_list, DL.vRev_tuple, DL.vCut_list, DL.vCut_tuple, DL.f1_e, DL.f2_e, DL.isNon_none, DL.isNon_int, DL.isi_int, DL.isi_bool, DL.isi_tuple, DL.isi_list, DL.isi_str, DL.isi_dict]
        refine post_use (h2 (L := 73) ⟨n1, n2⟩ ⟨by decide, by decide⟩ e1 e2 e3) fun w hw => ?_
        obtain ⟨d, rfl, h⟩ := hw
        exact ⟨_, rfl, fn_mono (by decide) h⟩
    obtain ⟨second, rfl, hs⟩ := hw
    (repeat rw [← M.post_bind])
    have pw : opPow (.dat (.int 10)) (.dat (.int 6)) = .ok (.dat (.int 1000000)) := by kernel_rfl
    simp (disch := (try simp only [List.length_append, List.length_take, List.length_drop, List.length_reverse, List.length_map, List.length_cons, List.length_nil]); omega) only [DL.sel_true, DL.sel_false, DL.sel_self, DL.okb, DL.excb, DL.badb, DL.pickb, DL.okp, DL.pickp, DL.ddat, DL.down, DL.sdat, DL.sown, DL.sraw, DL.spot, DL.gdat, DL.gown, DL.graw, DL.gpot, DL.asBb, DL.asIi, DL.kBok, DL.noxok, DL.datas0, DL.frz1_own, DL.frz1_dat, DL.frz1_raw, DL.frz1_pot, DL.frz1_none, DL.frz1_nil, DL.frz1_succ, DL.frz_nil, DL.frz_cons, DL.rdv_dat, DL.rdv_raw, DL.rdv_pot, DL.rdv_succ, DL.rtnV_zero, DL.rtnV_succ, DL.ownAt_zero, DL.ownAt_succ, DL.startE_eq, DL.seq_e, DL.seqK_nx, DL.seqK_ret, DL.seqK_brk, DL.seqK_cont, DL.asg_e, DL.asgK_e, DL.rtn_e, DL.rtnK_e, DL.rtnN_e, DL.exs_e, DL.exsK_e, DL.ifs_e, DL.ifsK_true, DL.ifsK_false, DL.skip_e, DL.brkS_e, DL.contS_e, DL.badS_e, DL.body_e, DL.fin_ret, DL.fin_nx, DL.app1_e, DL.app1K_e, DL.app_e, DL.appO_e, DL.appW_e, DL.appD_e, DL.asg2_e, DL.asg2K_e, DL.asg2L_e, DL.unp_e, DL.unpW_e, DL.unpD_e, DL.goOn_some, DL.goOn_none, DL.bT_e, DL.setL_cons, DL.setL_nil, DL.bN_e, DL.sto1_e, DL.sto_e, DL.stoW_e, DL.stoD_e, DL.sto2_e, DL.sto2K_e, DL.sto2W_e, DL.sto2I_e, DL.sto1K_e, DL.atK_e, DL.ali_e, DL.aliK_true, DL.aliK_false, DL.ali1_e, DL.ali1B_e, DL.ali1O_e, DL.ali1W_e, DL.ali1D_e, DL.forS_e, DL.forK_e, DL.loopB_some, DL.loopK_nx, DL.loopK_cont, DL.loopK_brk, DL.loopK_ret, DL.bin2_e, DL.binK_e, DL.binL_e, DL.un1_e, DL.unK_e, DL.tst_e, DL.tand_e, DL.tandK_true, DL.tandK_false, DL.tor_e, DL.torK_true, DL.torK_false, DL.tnot_e, DL.notK_e, DL.vand_e, DL.vandK_e, DL.vandL_true, DL.vandL_false, DL.vor_e, DL.vorK_e, DL.vorL_true, DL.vorL_false, DL.vnot_e, DL.vnotK_e, DL.vnotL_e, DL.vif_e, DL.vifK_true, DL.vifK_false, DL.anil_e, DL.acons_e, DL.aconsK_e, DL.aconsL_e, DL.call_e, DL.ccall_e, DL.ccallK1, DL.ccallK2, DL.ccallK3, DL.ccallK4, DL.sub_e, DL.subK_e, DL.subH_e, DL.cutK_e, DL.cutL_e, DL.oN_e, DL.oS_e, DL.oSK_e, DL.oI_e, DL.rev_e, DL.revK_e, DL.tup_e, DL.lst_e, DL.mkTup_e, DL.mkLst_e, DL.tupD_e, DL.lstD_e, DL.datas_e, DL.datasK_e, DL.kN_e, DL.kB_e, DL.kI_e, DL.kS_e, DL.kT_e, DL.kD0_e, DL.chainI_e, DL.chA_e, DL.chB_e, DL.chI_e, DL.chJ_e, DL.chG_true, DL.chG_false, DL.chY_e, DL.chC_e, DL.sSeq_e, DL.seqSrc_e, DL.asItems_list, DL.asItems_tuple, DL.sRng1_e, DL.rngW_e, DL.rngI_e, DL.sRng2_e, DL.rngK_e, DL.rngWW_e, DL.rngWI_e, DL.rngJ_e, DL.sZip_e, DL.zipK_e, DL.zipW_e, DL.zipA_e, DL.zipD_list, DL.zipD_tuple, DL.sEnum_e, DL.enumW_e, DL.enumV_e, DL.asList_e, DL.enumL_e, DL.ownR_e, DL.lc_e, DL.tYes_e, List.map_cons, List.map_nil, List.nil_append, List.cons_append, List.length_cons, List.length_nil, List.set_cons_zero, List.set_cons_succ, ite_self, reduceIte, noL_none, noL_bool, noL_int, noL_str, noL_list, noL_tuple, noLs_nil, noLs_cons, Bool.true_and, Bool.false_and, Bool.and_true, Bool.and_self, Bool.false_eq_true, Bool.not_true, Bool.not_false, List.replicate_succ, List.replicate_zero, DL.opEq_e, DL.flip_e, DL.opNe_e, DL.opIn_e, DL.opNotIn_e, DL.opLt_e, DL.opAdd_e, DL.opMul_e, DL.opIx_e, DL.opIsN_e, DL.opNotN_e, DL.opNeg_e, DL.opLe_e, DL.opGt_e, DL.opGe_e, DL.opSub_e, DL.vLt_int, DL.vEq_int, DL.vAdd_int, DL.vAdd_list, DL.vAdd_tuple, DL.vLen_tuple, DL.vLen_list, DL.vInt_int, DL.vTuple_list, DL.vTuple_tuple, DL.vList_list, DL.vList_tuple, DL.vRev_list, DL.vRev_tuple, DL.vCut_list, DL.vCut_tuple, DL.f1_e, DL.f2_e, DL.isNon_none, DL.isNon_int, DL.isi_int, DL.isi_bool, DL.isi_tuple, DL.isi_list, DL.isi_str, DL.isi_dict, small_of, pw]
    (repeat rw [M.post_bind])
    refine post_use (h3 (by simp) (by simp)) fun w hw => ?_
    obtain ⟨odd, ho, rfl⟩ := hw
    have so : sc odd = true := by
      simp only [List.mem_cons, List.not_mem_nil, or_false] at ho
      rcases ho with rfl | rfl | rfl | rfl | rfl <;> first | rfl | decide +kernel
    (repeat rw [← M.post_bind])
    have i0 : vIx (.tuple [.tuple ns, .tuple as, .tuple bs]) (.int 0) = .ok (.dat (.tuple ns)) := rfl
    have i1 : vIx (.tuple [.tuple ns, .tuple as, .tuple bs]) (.int 1) = .ok (.dat (.tuple as)) := rfl
    have i2 : vIx (.tuple [.tuple ns, .tuple as, .tuple bs]) (.int 2) = .ok (.dat (.tuple bs)) := rfl
    have m1 : vMul (.tuple [odd]) (.int ns.length) = .ok (.dat (.tuple (List.replicate ns.length odd))) := vMul_one ⟨by omega, by omega⟩
    simp (disch := (try simp only [List.length_append, List.length_take, List.length_drop, List.length_reverse, List.length_map, List.length_cons, List.length_nil]); omega) only [DL.sel_true, DL.sel_false, DL.sel_self, DL.okb, DL.excb, DL.badb, DL.pickb, DL.okp, DL.pickp, DL.ddat, DL.down, DL.sdat, DL.sown, DL.sraw, DL.spot, DL.gdat, DL.gown, DL.graw, DL.gpot, DL.asBb, DL.asIi, DL.kBok, DL.noxok, DL.datas0, DL.frz1_own, DL.frz1_dat, DL.frz1_raw, DL.frz1_pot, DL.frz1_none, DL.frz1_nil, DL.frz1_succ, DL.frz_nil, DL.frz_cons, DL.rdv_dat, DL.rdv_raw, DL.rdv_pot, DL.rdv_succ, DL.rtnV_zero, DL.rtnV_succ, DL.ownAt_zero, DL.ownAt_succ, DL.startE_eq, DL.seq_e, DL.seqK_nx, DL.seqK_ret, DL.seqK_brk, DL.seqK_cont, DL.asg_e, DL.asgK_e, DL.rtn_e, DL.rtnK_e, DL.rtnN_e, DL.exs_e, DL.exsK_e, DL.ifs_e, DL.ifsK_true, DL.ifsK_false, DL.skip_e, DL.brkS_e, DL.contS_e, DL.badS_e, DL.body_e, DL.fin_ret, DL.fin_nx, DL.app1_e, DL.app1K_e, DL.app_e, DL.appO_e, DL.appW_e, DL.appD_e, DL.asg2_e, DL.asg2K_e, DL.asg2L_e, DL.unp_e, DL.unpW_e, DL.unpD_e, DL.goOn_some, DL.goOn_none, DL.bT_e, DL.setL_cons, DL.setL_nil, DL.bN_e, DL.sto1_e, DL.sto_e, DL.stoW_e, DL.stoD_e, DL.sto2_e, DL.sto2K_e, DL.sto2W_e, DL.sto2I_e, DL.sto1K_e, DL.atK_e, DL.ali_e, DL.aliK_true, DL.aliK_false, DL.ali1_e, DL.ali1B_e, DL.ali1O_e, DL.ali1W_e, DL.ali1D_e, DL.forS_e, DL.forK_e, DL.loopB_some, DL.loopK_nx, DL.loopK_cont, DL.loopK_brk, DL.loopK_ret, DL.bin2_e, DL.binK_e, DL.binL_e, DL.un1_e, DL.unK_e, DL.tst_e, DL.tand_e, DL.tandK_true, DL.tandK_false, DL.tor_e, DL.torK_true, DL.torK_false, DL.tnot_e, DL.notK_e, DL.vand_e, DL.vandK_e, DL.vandL_true, DL.vandL_false, DL.vor_e, DL.vorK_e, DL.vorL_true, DL.vorL_false, DL.vnot_e, DL.vnotK_e, DL.vnotL_e, DL.vif_e, DL.vifK_true, DL.vifK_false, DL.anil_e, DL.acons_e, DL.aconsK_e, DL.aconsL_e, DL.call_e, DL.ccall_e, DL.ccallK1, DL.ccallK2, DL.ccallK3, DL.ccallK4, DL.sub_e, DL.subK_e, DL.subH_e, DL.cutK_e, DL.cutL_e, DL.oN_e, DL.oS_e, DL.oSK_e, DL.oI_e, DL.rev_e, DL.revK_e, DL.tup_e, DL.lst_e, DL.mkTup_e, DL.mkLst_e, DL.tupD_e, DL.lstD_e, DL.datas_e, DL.datasK_e, DL.kN_e, DL.kB_e, DL.kI_e, DL.kS_e, DL.kT_e, DL.kD0_e, DL.chainI_e, DL.chA_e, DL.chB_e, DL.chI_e, DL.chJ_e, DL.chG_true, DL.chG_false, DL.chY_e, DL.chC_e, DL.sSeq_e, DL.seqSrc_e, DL.asItems_list, DL.asItems_tuple, DL.sRng1_e, DL.rngW_e, DL.rngI_e, DL.sRng2_e, DL.rngK_e, DL.rngWW_e, DL.rngWI_e, DL.rngJ_e, DL.sZip_e, DL.zipK_e, DL.zipW_e, DL.zipA_e, DL.zipD_list, DL.zipD_tuple, DL.sEnum_e, DL.enumW_e, DL.enumV_e, DL.asList_e, DL.enumL_e, DL.ownR_e, DL.lc_e, DL.tYes_e, List.map_cons, List.map_nil, List.nil_append, List.cons_append, List.length_cons, List.length_nil, List.set_cons_zero, List.set_cons_succ, ite_self, reduceIte, noL_none, noL_bool, noL_int, noL_str, noL_list, noL_tuple, noLs_nil, noLs_cons, Bool.true_and, Bool.false_and, Bool.and_true, Bool.and_self, Bool.false_eq_true, Bool.not_true, Bool.not_false, List.replicate_succ, List.replicate_zero, DL.opEq_e, DL.flip_e, DL.opNe_e, DL.opIn_e, DL.opNotIn_e, DL.opLt_e, DL.opAdd_e, DL.opMul_e, DL.opIx_e, DL.opIsN_e, DL.opNotN_e, DL.opNeg_e, DL.opLe_e, DL.opGt_e, DL.opGe_e, DL.opSub_e, DL.vLt_int, DL.vEq_int, DL.vAdd_int, DL.vAdd_list, DL.vAdd_tuple, DL.vLen_tuple, DL.vLen_list, DL.vInt_int, DL.vTuple_list, DL.vTuple_tuple, DL.vList_list, DL.vList_tuple, DL.vRev_list, DL.vRev_tuple, DL.vCut_list, DL.vCut_tuple, DL.f1_e, DL.f2_e, DL.isNon_none, DL.isNon_int, DL.isi_int, DL.isi_bool, DL.isi_tuple, DL.isi_list, DL.isi_str, DL.isi_dict, small_of, i0, i1, i2, m1]
    (repeat rw [M.post_bind])
    have b1 : fnB [120, 4, 2] (.tuple ns) = true := fn_tuple.mpr ⟨by omega, q1⟩
    have b2 : fnB [120, 4, 2] (.tuple as) = true := fn_tuple.mpr ⟨by omega, q2.2⟩
    have b3 : fnB [120, 4, 2] (.tuple bs) = true := fn_tuple.mpr ⟨by omega, q3.2⟩
    have l2 : fnB [120, 4, 2] (.list as) = true := fn_list.mpr ⟨by omega, q2.2⟩
    have l3 : fnB [120, 4, 2] (.list bs) = true := fn_list.mpr ⟨by omega, q3.2⟩
    have b4 : fnB [120, 4, 2] (.tuple (List.replicate ns.length odd)) = true := fn_tuple.mpr ⟨by simp; omega, fun x hx => by rw [List.eq_of_mem_replicate hx]; exact fn_sc so⟩
    have b5 : fnB [120, 4, 2] (.tuple (as ++ [.none])) = true := fn_tuple.mpr ⟨by simp; omega, fun x hx => by
      rcases List.mem_append.mp hx with hx | hx
      · exact q2.2 x hx
      · have e : x = .none := by simpa using hx
        rw [e]; rfl⟩
    have b6 : fnB [120, 4, 2] (.tuple (bs ++ [.tuple [.int 0]])) = true := fn_tuple.mpr ⟨by simp; omega, fun x hx => by
      rcases List.mem_append.mp hx with hx | hx
      · exact q3.2 x hx
      · have e : x = .tuple [.int 0] := by simpa using hx
        rw [e]; rfl⟩
    have three : ∀ {a b c : D}, fnB [120, 4, 2] a = true → fnB [120, 4, 2] b = true → fnB [120, 4, 2] c = true → fnB FB (.tuple [a, b, c]) = true := fun ha hb hc => fn_tuple.mpr ⟨by simp, by simp [ha, hb, hc]⟩
    apply post_use (loop_pst (P := fun fl => ∃ o2 o3 o4 o5 o6 o7 o8 o9, fl = .nx [none, some .pot, o2, o3, o4, o5, o6, o7, o8, o9]) (fun ds ρ => (∀ d ∈ ds, fnB FB d = true) ∧ ∃ o2 o3 o4 o5 o6 o7 o8 o9, ρ = [none, some .pot, o2, o3, o4, o5, o6, o7, o8, o9]) ?_ ?_ ?_)
    · rintro fl ⟨o2, o3, o4, o5, o6, o7, o8, o9, rfl⟩
      exact ⟨_, _, _, _, _, _, _, _, rfl⟩
    · refine ⟨fun x hx => ?_, _, _, _, _, _, _, _, _, rfl⟩
      simp only [List.mem_append, List.mem_cons, List.not_mem_nil, or_false, List.nil_append, List.cons_append] at hx
      rcases hx with rfl | rfl | rfl | rfl | rfl | rfl | rfl | rfl | rfl | rfl | rfl | rfl | rfl | rfl
      · exact three b4 b2 b3
      · exact three b1 l2 l3
      · exact three b1 b5 b6
      · exact three b1 b2 b3
      · exact fn_mono (by decide) hf
      · exact hs
      all_goals first | rfl | decide +kernel
    · rintro ρ ⟨_, o2, o3, o4, o5, o6, o7, o8, o9, rfl⟩
      exact ⟨_, _, _, _, _, _, _, _, rfl⟩
    · rintro x xs ρ ⟨hx, o2, o3, o4, o5, o6, o7, o8, o9, rfl⟩
      refine ⟨_, rfl, ?_⟩
      have fx := hx x (List.mem_cons_self ..)
      have sx := sz_fn 3 fx (by decide)
      have r1 := vRepr_fn fx
      have r2 : vRepr (.bool (isPty x)) = .ok (.dat (.str (PyData.shown (.bool (isPty x))))) := vRepr_fn (ns := []) rfl
      simp only [DL.sel_true, DL.sel_false, DL.sel_self, DL.okb, DL.excb, DL.badb, DL.pickb, DL.okp, DL.pickp, DL.ddat, DL.down, DL.sdat, DL.sown, DL.sraw, DL.spot, DL.gdat, DL.gown, DL.graw, DL.gpot, DL.asBb, DL.asIi, DL.kBok, DL.noxok, DL.datas0, DL.frz1_own, DL.frz1_dat, DL.frz1_raw, DL.frz1_pot, DL.frz1_none, DL.frz1_nil, DL.frz1_succ, DL.frz_nil, DL.frz_cons, DL.rdv_dat, DL.rdv_raw, DL.rdv_pot, DL.rdv_succ, DL.rtnV_zero, DL.rtnV_succ, DL.ownAt_zero, DL.ownAt_succ, DL.startE_eq, DL.seq_e, DL.seqK_nx, DL.seqK_ret, DL.seqK_brk, DL.seqK_cont, DL.asg_e, DL.asgK_e, DL.rtn_e, DL.rtnK_e, DL.rtnN_e, DL.exs_e, DL.exsK_e, DL.ifs_e, DL.ifsK_true, DL.ifsK_false, DL.skip_e, DL.brkS_e, DL.contS_e, DL.badS_e, DL.body_e, DL.fin_ret, DL.fin_nx, DL.app1_e, DL.app1K_e, DL.app_e, DL.appO_e, DL.appW_e, DL.appD_e, DL.asg2_e, DL.asg2K_e, DL.asg2L_e, DL.unp_e, DL.unpW_e, DL.unpD_e, DL.goOn_some, DL.goOn_none, DL.bT_e, DL.setL_cons, DL.setL_nil, DL.bN_e, DL.sto1_e, DL.sto_e, DL.stoW_e, DL.stoD_e, DL.sto2_e, DL.sto2K_e, DL.sto2W_e, DL.sto2I_e, DL.sto1K_e, DL.atK_e, DL.ali_e, DL.aliK_true, DL.aliK_false, DL.ali1_e, DL.ali1B_e, DL.ali1O_e, DL.ali1W_e, DL.ali1D_e, DL.forS_e, DL.forK_e, DL.loopB_some, DL.loopK_nx, DL.loopK_cont, DL.loopK_brk, DL.loopK_ret, DL.bin2_e, DL.binK_e, DL.binL_e, DL.un1_e, DL.unK_e, DL.tst_e, DL.tand_e, DL.tandK_true, DL.tandK_false, DL.tor_e, DL.torK_true, DL.torK_false, DL.tnot_e, DL.notK_e, DL.vand_e, DL.vandK_e, DL.vandL_true, DL.vandL_false, DL.vor_e, DL.vorK_e, DL.vorL_true, DL.vorL_false, DL.vnot_e, DL.vnotK_e, DL.vnotL_e, DL.vif_e, DL.vifK_true, DL.vifK_false, DL.anil_e, DL.acons_e, DL.aconsK_e, DL.aconsL_e, DL.call_e, DL.ccall_e, DL.ccallK1, DL.ccallK2, DL.ccallK3, DL.ccallK4, DL.sub_e, DL.subK_e, DL.subH_e, DL.cutK_e, DL.cutL_e, DL.oN_e, DL.oS_e, DL.oSK_e, DL.oI_e, DL.rev_e, DL.revK_e, DL.tup_e, DL.lst_e, DL.mkTup_e, DL.mkLst_e, DL.tupD_e, DL.lstD_e, DL.datas_e, DL.datasK_e, DL.kN_e, DL.kB_e, DL.kI_e, DL.kS_e, DL.kT_e, DL.kD0_e, DL.chainI_e, DL.chA_e, DL.chB_e, DL.chI_e, DL.chJ_e, DL.chG_true, DL.chG_false, DL.chY_e, DL.chC_e, DL.sSeq_e, DL.seqSrc_e, DL.asItems_list, DL.asItems_tuple, DL.sRng1_e, DL.rngW_e, DL.rngI_e, DL.sRng2_e, DL.rngK_e, DL.rngWW_e, DL.rngWI_e, DL.rngJ_e, DL.sZip_e, DL.zipK_e, DL.zipW_e, DL.zipA_e, DL.zipD_list, DL.zipD_tuple, DL.sEnum_e, DL.enumW_e, DL.enumV_e, DL.asList_e, DL.enumL_e, DL.ownR_e, DL.lc_e, DL.tYes_e, List.map_cons, List.map_nil, List.nil_append, List.cons_append, List.length_cons, List.length_nil, List.set_cons_zero, List.set_cons_succ, ite_self, reduceIte, noL_none, noL_bool, noL_int, noL_str, noL_list, noL_tuple, noLs_nil, noLs_cons, Bool.true_and, Bool.false_and, Bool.and_true, Bool.and_self, Bool.false_eq_true, Bool.not_true, Bool.not_false, List.replicate_succ, List.replicate_zero, DL.opEq_e, DL.flip_e, DL.opNe_e, DL.opIn_e, DL.opNotIn_e, DL.opLt_e, DL.opAdd_e, DL.opMul_e, DL.opIx_e, DL.opIsN_e, DL.opNotN_e, DL.opNeg_e, DL.opLe_e, DL.opGt_e, DL.opGe_e, DL.opSub_e, DL.vLt_int, DL.vEq_int, DL.vAdd_int, DL.vAdd_list, DL.vAdd_tuple, DL.vLen_tuple, DL.vLen_list, DL.vInt_int, DL.vTuple_list, DL.vTuple_tuple, DL.vList_list, DL.vList_tuple, DL.vRev_list, DL.vRev_tuple, DL.vCut_list, DL.vCut_tuple, DL.f1_e, DL.f2_e, DL.isNon_none, DL.isNon_int, DL.isi_int, DL.isi_bool, DL.isi_tuple, DL.isi_list, DL.isi_str, DL.isi_dict, r1, r2, h4 x sx, h5 x sx, vEq_refl_str]
      exact ⟨fun d hd => hx d (List.mem_cons_of_mem _ hd), _, _, _, _, _, _, _, _, rfl⟩
end Lw


namespace Lw
section
open PySem PySem.Spec PyProof.Rows L2 DL
abbrev R : PySem.W.OpenRow := PySem.W.OpenLaw.row PySem.Challenge.rw_metnumbers_k02_parties_recognized
abbrev hk : PySem.W.Hook := He.hookD 4 fa fn
def ob (s : PySem.W.SharedT) : He.AlD := He.obsDG 4 fa fn (HandSHeadRun.getT s)
theorem ob_eq (s : PySem.W.SharedT) : ob s = hk.obs s.abs := He.obsDG_eq (HandSHeadRun.getT_eq s)
def loose0 : List Str := ["__name__", "is_integer", "is_count", "is_rising", "MAX_PERSONS", "MAX_NUMBER", "is_pair", "are_pairs", "is_number", "is_party", "_law_kneaded", "_law_pot_of", "_law_below", "_law_pick", "_law_pairs", "_law_some_party", "_law_number", "_law_is_pair", "_law_is_row", "_law_is_party", "_law_muddled", "_law_spoilt"]
abbrev loose : List Str := loose0
theorem run (w : World) : HandSHeadRun.RunEq R (PySem.W.view R.prog [24]) hk ob 2000 loose w := by
  intro os
  kernel_rfl
end
end Lw
open PySem PySem.W PySem.Calls PyProof.Rows
theorem PySem.Challenge.cw_metnumbers_k02_parties_recognized_holds : PySem.Challenge.rw_metnumbers_k02_parties_recognized.Holds := by
  w_on; o_law
  refine HandSHeadRun.head_any (r := OpenLaw.row PySem.Challenge.rw_metnumbers_k02_parties_recognized) (q := view (OpenLaw.row PySem.Challenge.rw_metnumbers_k02_parties_recognized).prog [24]) (H := Lw.hk) (ob := Lw.ob) (M := 2000) (loose := Lw.loose) (d := HandSHeadRun.topDef (OpenLaw.row PySem.Challenge.rw_metnumbers_k02_parties_recognized).prog 24) (kwd := []) Lw.ob_eq
    (by kernel_rfl) (fun s => by kernel_rfl) Lw.run (by kernel_rfl) (by kernel_rfl) (by kernel_rfl) (by rfl) (by first | assumption | decide +kernel) (by decide +kernel) ⟨rfl, rfl, rfl, rfl, rfl, by decide +kernel⟩ ?hw ?hc
  case hw => w_witness2
  case hc =>
    exact DL.walk_law (l := PySem.Challenge.rw_metnumbers_k02_parties_recognized) (q := view (OpenLaw.row PySem.Challenge.rw_metnumbers_k02_parties_recognized).prog [24]) (n := 63) (k := 8) (i := 19) (j := 19) (st := Lw.top 24) (fun _ _ y => y) rfl (by decide) (by kernel_rfl) (by kernel_rfl) ⟨rfl, by decide, by decide⟩ (by decide +kernel) rfl rfl
      (fun _ _ _ _ _ _ us hl => match us, hl with | [_], _ => rfl)
      fun w K mg h X G c base sys f fd hf Fx => Lw.law_made (Lw.txt_of X G c) sys Lw.pot_ok Lw.law_ok Fx

