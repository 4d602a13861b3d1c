import PyProof.Rows.All
import Wide.All
import OpenK.AllK
import Wide.FinOn
import HandS.ForMost
import HandS.ForExc
import HandS.Wide
import PyProof.P3In
import PyProof.Rows.InDataRows
import PyProof.EqLayable
import PyProof.ReprRoads
import KE.LtData
import HandS.IsInst
import HandS.TupAny
import HandS.TupMul
import HandS.Dict
import HandS.RaiseMore
import HandS.Zip
import HandS.Iter
import HandS.Style
import HandS.HeadEnd
import HandS.Head0
import HandS.Head1
import HandS.Head2
import HandS.HeadHook1
import HandS.HeadHook2
import HandS.Star
import KE.SortData
import KE.GoesEnum
import KE.GoesMore
import HandS.Conv
import HandS.TupLe
import HandS.TryOnly
import PyProof.P3Eq
import PySem.Challenge.RW_metnumbers_k32_papers_of_one_piece_judge
set_option Elab.async false
set_option autoImplicit false
set_option linter.all false
set_option maxRecDepth 100000
set_option maxHeartbeats 0
namespace DL
open PySem PySem.Spec PyProof.Rows L2

/-! ## data, outcomes -/
abbrev D := PyData
/-- what a slot holds, what an expression gives: data; a list of one's own, new, that nobody else knows; an object by its address; the pot of draws -/
inductive Wv where
  | dat (d : D)
  | own (xs : List D)
  | raw (v : V)
  | pot
structure Ex where
  name : Str
  fs : List (Str × D)
inductive M (α : Type) where
  | ok (a : α)
  | exc (e : Ex)
  | bad
  | pick (n : Nat) (k : Nat → M α)
namespace M
def bnd {α β : Type} : M α → (α → M β) → M β
  | .ok a, f => f a
  | .exc e, _ => .exc e
  | .bad, _ => .bad
  | .pick n k, f => .pick n fun i => bnd (k i) f
instance : Monad M where
  pure := .ok
  bind := bnd
def post {α : Type} : M α → (α → Prop) → (Ex → Prop) → Prop
  | .ok a, Q, _ => Q a
  | .exc e, _, E => E e
  | .bad, _, _ => False
  | .pick n k, Q, E => ∀ i, i < n → post (k i) Q E
section
variable {α β γ : Type}
theorem pure_eq (a : α) : (pure a : M α) = .ok a := rfl
@[simp] theorem ok_bind (a : α) (f : α → M β) : ((M.ok a : M α) >>= f) = f a := rfl
@[simp] theorem exc_bind (e : Ex) (f : α → M β) : ((M.exc e : M α) >>= f) = .exc e := rfl
@[simp] theorem bad_bind (f : α → M β) : ((M.bad : M α) >>= f) = .bad := rfl
@[simp] theorem pick_bind (n : Nat) (k : Nat → M α) (f : α → M β) : ((M.pick n k : M α) >>= f) = .pick n fun i => k i >>= f := rfl
theorem bind_assoc' (m : M α) (f : α → M β) (g : β → M γ) : (m >>= f) >>= g = m >>= fun a => f a >>= g := by
  induction m with
  | ok a => rfl
  | exc e => rfl
  | bad => rfl
  | pick n k ih => simp only [pick_bind]; congr 1; funext i; exact ih i
theorem post_bind {m : M α} {f : α → M β} {Q : β → Prop} {E : Ex → Prop} : (m >>= f).post Q E ↔ m.post (fun a => (f a).post Q E) E := by
  induction m with
  | ok a => exact Iff.rfl
  | exc e => exact Iff.rfl
  | bad => exact Iff.rfl
  | pick n k ih => exact forall_congr' fun i => forall_congr' fun _ => ih i
theorem post_mono {m : M α} {Q Q' : α → Prop} {E E' : Ex → Prop} (h : m.post Q E) (hQ : ∀ a, Q a → Q' a) (hE : ∀ e, E e → E' e) : m.post Q' E' := by
  induction m with
  | ok a => exact hQ a h
  | exc e => exact hE e h
  | bad => exact h
  | pick n k ih => exact fun i hi => ih i (h i hi)
@[simp] theorem post_ok (a : α) (Q : α → Prop) (E : Ex → Prop) : (M.ok a).post Q E = Q a := rfl
@[simp] theorem post_exc (e : Ex) (Q : α → Prop) (E : Ex → Prop) : (M.exc e : M α).post Q E = E e := rfl
@[simp] theorem post_bad (Q : α → Prop) (E : Ex → Prop) : (M.bad : M α).post Q E = False := rfl
@[simp] theorem post_pick (n : Nat) (k : Nat → M α) (Q : α → Prop) (E : Ex → Prop) : (M.pick n k).post Q E = ∀ i, i < n → (k i).post Q E := rfl
end
end M

/-! ## data over an abstract heap (frozen part F) -/
/-- a dict's key as data -/
def keyD : Key → D
  | .inl i => .int i
  | .inr x => .str x
mutual
inductive DR (K : PySem.W.Frag) (F : Hp) : V → D → Prop
  | non : DR K F .non .none
  | bl (b : Bool) : DR K F (.bl b) (.bool b)
  | int (i : Int) : DR K F (.int i) (.int i)
  | str (x : Str) : DR K F (.str x) (.str x)
  | lst {a : Addr} {xs : List V} {ds : List D} : F a = some (.lst xs) → DRs K F xs ds → DR K F (.ref a) (.list ds)
  | tup {a : Addr} {xs : List V} {ds : List D} : SqT K F a xs → DRs K F xs ds → DR K F (.ref a) (.tuple ds)
  | dct {a : Addr} {kvs : List (Key × V)} {es : List (D × D)} : F a = some (.dK kvs) → es.map (·.1) = kvs.map (fun p => keyD p.1) → DRs K F (kvs.map (·.2)) (es.map (·.2)) → DR K F (.ref a) (.dict es)
inductive DRs (K : PySem.W.Frag) (F : Hp) : List V → List D → Prop
  | nil : DRs K F [] []
  | cons {v : V} {vs : List V} {d : D} {ds : List D} : DR K F v d → DRs K F vs ds → DRs K F (v :: vs) (d :: ds)
end
section
variable {K : PySem.W.Frag} {F F' H H' : Hp} {a : Addr}
theorem sq_mono_l (e : Same F F') {xs : List V} (h : SqL K F a xs) : SqL K F' a xs := e.seq h
theorem rd_mono (e : Same F F') {u : HO} (h : Rd F a u) : Rd F' a u := by
  rcases h with h | ⟨o, h⟩
  · exact .inl (e _ _ h)
  · exact .inr ⟨o, e _ _ h⟩
theorem sq_mono_t (e : Same F F') {xs : List V} (h : SqT K F a xs) : SqT K F' a xs := by
  rcases h with h | h
  · exact .inl (rd_mono e h)
  · exact .inr h
mutual
theorem DR.mono (e : Same F F') : ∀ {v : V} {d : D}, DR K F v d → DR K F' v d
  | _, _, .non => .non
  | _, _, .bl b => .bl b
  | _, _, .int i => .int i
  | _, _, .str x => .str x
  | _, _, .lst h hs => .lst (e _ _ h) (DRs.mono e hs)
  | _, _, .tup h hs => .tup (sq_mono_t e h) (DRs.mono e hs)
  | _, _, .dct h hk hs => .dct (e _ _ h) hk (DRs.mono e hs)
theorem DRs.mono (e : Same F F') : ∀ {vs : List V} {ds : List D}, DRs K F vs ds → DRs K F' vs ds
  | _, _, .nil => .nil
  | _, _, .cons h hs => .cons (DR.mono e h) (DRs.mono e hs)
end
theorem DRs.length {vs : List V} {ds : List D} : DRs K F vs ds → vs.length = ds.length
  | .nil => rfl
  | .cons _ t => congrArg (· + 1) (DRs.length t)
theorem DRs.get : ∀ {vs : List V} {ds : List D} {i : Nat} {d : D}, DRs K F vs ds → ds[i]? = some d → ∃ v, vs[i]? = some v ∧ DR K F v d
  | _, _, _, _, .nil, e => by simp at e
  | _, _, 0, _, .cons h _, e => by
    simp only [List.getElem?_cons_zero, Option.some.injEq] at e
    subst e
    exact ⟨_, rfl, h⟩
  | _, _, i + 1, d, .cons _ t, e => by
    simp only [List.getElem?_cons_succ] at e ⊢
    exact DRs.get t e
theorem DRs.getV : ∀ {vs : List V} {ds : List D} {i : Nat} {v : V}, DRs K F vs ds → vs[i]? = some v → ∃ d, ds[i]? = some d ∧ DR K F v d
  | _, _, _, _, .nil, e => by simp at e
  | _, _, 0, _, .cons h _, e => by
    simp only [List.getElem?_cons_zero, Option.some.injEq] at e
    subst e
    exact ⟨_, rfl, h⟩
  | _, _, i + 1, d, .cons _ t, e => by
    simp only [List.getElem?_cons_succ] at e ⊢
    exact DRs.getV t e
theorem DRs.append : ∀ {vs ws : List V} {ds es : List D}, DRs K F vs ds → DRs K F ws es → DRs K F (vs ++ ws) (ds ++ es)
  | _, _, _, _, .nil, t => t
  | _, _, _, _, .cons h s, t => .cons h (DRs.append s t)
theorem DRs.take : ∀ {vs : List V} {ds : List D} (n : Nat), DRs K F vs ds → DRs K F (vs.take n) (ds.take n)
  | _, _, 0, _ => .nil
  | _, _, _ + 1, .nil => .nil
  | _, _, n + 1, .cons h t => .cons h (DRs.take n t)
theorem DRs.drop : ∀ {vs : List V} {ds : List D} (n : Nat), DRs K F vs ds → DRs K F (vs.drop n) (ds.drop n)
  | _, _, 0, t => t
  | _, _, _ + 1, .nil => .nil
  | _, _, n + 1, .cons _ t => DRs.drop n t
theorem DRs.set {v : V} {d : D} (h : DR K F v d) : ∀ {vs : List V} {ds : List D} (i : Nat), DRs K F vs ds → DRs K F (vs.set i v) (ds.set i d)
  | _, _, _, .nil => .nil
  | _, _, 0, .cons _ t => .cons h t
  | _, _, i + 1, .cons g t => .cons g (DRs.set h i t)
theorem DRs.reverse : ∀ {vs : List V} {ds : List D}, DRs K F vs ds → DRs K F vs.reverse ds.reverse
  | _, _, .nil => .nil
  | _, _, .cons h t => by
    simp only [List.reverse_cons]
    exact DRs.append (DRs.reverse t) (.cons h .nil)
end

/-! ## what a piece of a run does: heap H with its frozen part F, then H' with F' -/
/-- the pot's address and that of its cells -/
abbrev Pot := Option (Addr × Addr)
def notPot (pi : Pot) (a : Addr) : Prop := ∀ p c, pi = some (p, c) → a ≠ p
def PotIn (pi : Pot) (H F : Hp) : Prop := ∀ p c, pi = some (p, c) → (∃ n x y : Int, H p = some (.lst [.ref c, .int n, .int x, .int y])) ∧ F p = none ∧ ∃ ns : List Int, H c = some (.lst (ns.map V.int)) ∧ c ≠ p
structure Step (pi : Pot) (H F H' F' : Hp) : Prop where
  mono : Same F F'
  le : Same F' H'
  new : ∀ a o, F' a = some o → F a = some o ∨ H a = none
  same : ∀ a o, notPot pi a → H a = some o → H' a = some o
  pot : PotIn pi H' F'
section
variable {pi : Pot} {H F H' F' H'' F'' : Hp}
theorem Step.refl (l : Same F H) (p : PotIn pi H F) : Step pi H F H F := ⟨Same.refl F, l, fun _ _ h => .inl h, fun _ _ _ h => h, p⟩
theorem Step.there (s : Step pi H F H' F') (hp : PotIn pi H F) {a : Addr} {o : HO} (h : H a = some o) : ∃ o', H' a = some o' := by
  by_cases n : notPot pi a
  · exact ⟨o, s.same a o n h⟩
  · have q : ∃ p c, pi = some (p, c) ∧ a = p := by
      refine Classical.byContradiction fun z => n fun p c e w => z ⟨p, c, e, w⟩
    obtain ⟨p, c, e, rfl⟩ := q
    obtain ⟨⟨i, x, y, r⟩, _⟩ := s.pot a c e
    exact ⟨_, r⟩
theorem Step.none_of (s : Step pi H F H' F') (hp : PotIn pi H F) {a : Addr} (h : H' a = none) : H a = none := by
  cases q : H a with
  | none => rfl
  | some o =>
    obtain ⟨o', r⟩ := s.there hp q
    rw [h] at r
    cases r
theorem Step.trans (s : Step pi H F H' F') (hp : PotIn pi H F) (t : Step pi H' F' H'' F'') : Step pi H F H'' F'' where
  mono := s.mono.trans t.mono
  le := t.le
  new := fun a o h => by
    rcases t.new a o h with q | q
    · exact s.new a o q
    · exact .inr (s.none_of hp q)
  same := fun a o n h => t.same a o n (s.same a o n h)
  pot := t.pot
/-- the new object at p laid into both -/
theorem Step.lay (l : Same F H) (hp : PotIn pi H F) {p : Addr} {o : HO} (h : H p = none) : Step pi H F (upd H p o) (upd F p o) := by
  have hF : F p = none := by
    cases q : F p with
    | none => rfl
    | some o =>
      rw [l p o q] at h
      cases h
  refine ⟨fun a u e => ?_, fun a u e => ?_, fun a u e => ?_, fun a u _ e => ?_, fun q c e => ?_⟩
  · rw [upd_ne (ne_of_none e hF)]; exact e
  · by_cases z : a = p
    · subst z; rw [upd_same] at e ⊢; exact e
    · rw [upd_ne z] at e ⊢; exact l a u e
  · by_cases z : a = p
    · subst z; exact .inr h
    · rw [upd_ne z] at e; exact .inl e
  · rw [upd_ne (ne_of_none e h)]; exact e
  · obtain ⟨⟨i, x, y, r⟩, f, ns, r2, ne⟩ := hp q c e
    refine ⟨⟨i, x, y, ?_⟩, ?_, ns, ?_, ne⟩
    · rw [upd_ne (ne_of_none r h)]; exact r
    · rw [upd_ne (ne_of_none r h)]; exact f
    · rw [upd_ne (ne_of_none r2 h)]; exact r2
/-- .. into H alone -/
theorem Step.layH (l : Same F H) (hp : PotIn pi H F) {p : Addr} {o : HO} (h : H p = none) : Step pi H F (upd H p o) F := by
  refine ⟨Same.refl F, fun a u e => ?_, fun a u e => .inl e, fun a u _ e => ?_, fun q c e => ?_⟩
  · rw [upd_ne (ne_of_none (l a u e) h)]; exact l a u e
  · rw [upd_ne (ne_of_none e h)]; exact e
  · obtain ⟨⟨i, x, y, r⟩, f, ns, r2, ne⟩ := hp q c e
    refine ⟨⟨i, x, y, ?_⟩, f, ns, ?_, ne⟩
    · rw [upd_ne (ne_of_none r h)]; exact r
    · rw [upd_ne (ne_of_none r2 h)]; exact r2
/-- an object of H, unknown to F, frozen -/
theorem Step.freeze (l : Same F H) (hp : PotIn pi H F) {p : Addr} {o : HO} (h : H p = some o) (hF : F p = none) (np : notPot pi p) : Same F (upd F p o) ∧ Same (upd F p o) H ∧ PotIn pi H (upd F p o) := by
  refine ⟨fun a u e => ?_, fun a u e => ?_, fun q c e => ?_⟩
  · rw [upd_ne (ne_of_none e hF)]; exact e
  · by_cases z : a = p
    · subst z; rw [upd_same] at e; rw [h]; exact e
    · rw [upd_ne z] at e; exact l a u e
  · obtain ⟨r, f, r2⟩ := hp q c e
    refine ⟨r, ?_, r2⟩
    rw [upd_ne (fun z => np q c e z.symm)]; exact f
end

/-! ## results -/
/-- an expression's end: v holds w; H0: the heap ahead (a list of one's own is younger) -/
def Res (K : PySem.W.Frag) (pi : Pot) (H0 H F : Hp) (v : V) : Wv → Prop
  | .dat d => DR K F v d
  | .own xs => ∃ a vs, v = .ref a ∧ H a = some (.lst vs) ∧ F a = none ∧ H0 a = none ∧ DRs K F vs xs
  | .raw u => v = u
  | .pot => ∃ p c, pi = some (p, c) ∧ v = .ref p
def Wv.d? : Wv → Option D
  | .dat d => some d
  | .own xs => some (.list xs)
  | _ => none
def Wv.d : Wv → M D
  | .dat d => .ok d
  | .own xs => .ok (.list xs)
  | _ => .bad
@[simp] theorem d_dat (d : D) : Wv.d (.dat d) = .ok d := rfl
@[simp] theorem d_own (xs : List D) : Wv.d (.own xs) = .ok (.list xs) := rfl
@[simp] theorem d_raw (v : V) : Wv.d (.raw v) = .bad := rfl
@[simp] theorem d_pot : Wv.d .pot = .bad := rfl
theorem new_notPot {pi : Pot} {H F : Hp} (hp : PotIn pi H F) {a : Addr} (h : H a = none) : notPot pi a := fun p c e z => by
  obtain ⟨⟨i, x, y, r⟩, _⟩ := hp p c e
  rw [← z, h] at r
  cases r
/-- a result as data: what is one's own is given up -/
theorem Res.give {K : PySem.W.Frag} {pi : Pot} {H0 F0 H F : Hp} {v : V} {w : Wv} {d : D} (r : Res K pi H0 H F v w) (e : w.d? = some d) (p0 : PotIn pi H0 F0) (s : Step pi H0 F0 H F) : ∃ F', Step pi H0 F0 H F' ∧ Same F F' ∧ DR K F' v d := by
  cases w with
  | dat d' =>
    cases e
    exact ⟨F, s, Same.refl F, r⟩
  | own xs =>
    cases e
    obtain ⟨a, vs, rfl, ha, hF, h0, hs⟩ := r
    obtain ⟨m, l, p⟩ := Step.freeze s.le s.pot ha hF (new_notPot p0 h0)
    refine ⟨upd F a (.lst vs), ⟨s.mono.trans m, l, fun b o q => ?_, s.same, p⟩, m, .lst upd_same (hs.mono m)⟩
    by_cases z : b = a
    · subst z; exact .inr h0
    · rw [upd_ne z] at q; exact s.new b o q
  | raw _ => cases e
  | pot => cases e
/-- an exception's end -/
def XRes (K : PySem.W.Frag) (mg : Str → Option Value) (H F : Hp) (cls : Value) (d : Option Addr) (e : Ex) : Prop :=
  ∃ C, mg e.name = some (.ref C) ∧ cls = .ref C ∧ match e.fs with
    | [] => d = none
    | _ => ∃ dd vs, d = some dd ∧ H dd = some (.xd vs) ∧ vs.map (·.1) = e.fs.map (·.1) ∧ DRs K F (vs.map (·.2)) (e.fs.map (·.2))
end DL

namespace DL
open PySem PySem.Spec PyProof.Rows L2

/-! ## data without a list -/
mutual
def noL : D → Bool
  | .list _ => false
  | .tuple xs => noLs xs
  | .dict kvs => noLk kvs
  | _ => true
def noLs : List D → Bool
  | [] => true
  | d :: ds => noL d && noLs ds
def noLk : List (D × D) → Bool
  | [] => true
  | (_, d) :: ds => noL d && noLk ds
end
@[simp] theorem noL_none : noL .none = true := by simp [noL]
@[simp] theorem noL_bool (b : Bool) : noL (.bool b) = true := by simp [noL]
@[simp] theorem noL_int (i : Int) : noL (.int i) = true := by simp [noL]
@[simp] theorem noL_str (x : Str) : noL (.str x) = true := by simp [noL]
@[simp] theorem noL_list (xs : List D) : noL (.list xs) = false := by simp [noL]
@[simp] theorem noL_tuple (xs : List D) : noL (.tuple xs) = noLs xs := by simp [noL]
@[simp] theorem noLs_nil : noLs [] = true := by simp [noLs]
@[simp] theorem noLs_cons (d : D) (ds : List D) : noLs (d :: ds) = (noL d && noLs ds) := by simp [noLs]
theorem noLs_all : ∀ ds : List D, noLs ds = ds.all noL
  | [] => by simp
  | d :: ds => by simp [noLs_all ds]
theorem noLk_map : ∀ es : List (D × D), noLk es = noLs (es.map (·.2))
  | [] => by simp [noLk]
  | (_, d) :: es => by simp [noLk, noLk_map es]
def Wv.still : Wv → Bool
  | .dat d => noL d
  | .own xs => noLs xs
  | _ => true
@[simp] theorem still_dat (d : D) : Wv.still (.dat d) = noL d := rfl
@[simp] theorem still_own (xs : List D) : Wv.still (.own xs) = noLs xs := rfl
@[simp] theorem still_raw (v : V) : Wv.still (.raw v) = true := rfl
@[simp] theorem still_pot : Wv.still .pot = true := rfl
/-- given up: data -/
def Wv.give : Wv → Wv
  | .own xs => .dat (.list xs)
  | w => w
@[simp] theorem give_dat (d : D) : Wv.give (.dat d) = .dat d := rfl
@[simp] theorem give_own (xs : List D) : Wv.give (.own xs) = .dat (.list xs) := rfl
@[simp] theorem give_raw (v : V) : Wv.give (.raw v) = .raw v := rfl
@[simp] theorem give_pot : Wv.give .pot = .pot := rfl
@[simp] theorem give_give (w : Wv) : w.give.give = w.give := by cases w <;> rfl
@[simp] theorem d_give (w : Wv) : w.give.d = w.d := by cases w <;> rfl

section
variable {K : PySem.W.Frag} {F F' : Hp}
mutual
theorem DR.noL_to (h : ∀ a u, (∀ xs, u ≠ .lst xs) → F a = some u → F' a = some u) : ∀ {v : V} {d : D}, DR K F v d → noL d = true → DR K F' v d
  | _, _, .non, _ => .non
  | _, _, .bl b, _ => .bl b
  | _, _, .int i, _ => .int i
  | _, _, .str x, _ => .str x
  | _, _, .lst _ _, e => by simp at e
  | _, _, .tup hs ha, e => .tup (by
      rcases hs with (q | ⟨o, q⟩) | q
      · exact .inl (.inl (h _ _ (fun _ z => by cases z) q))
      · exact .inl (.inr ⟨o, h _ _ (fun _ z => by cases z) q⟩)
      · exact .inr q) (DRs.noL_to h ha (by simpa using e))
  | _, _, .dct (es := es) hs hk ha, e => .dct (by
      exact h _ _ (fun _ z => by cases z) hs) hk (DRs.noL_to h ha (by simpa [noL, noLk_map] using e))
theorem DRs.noL_to (h : ∀ a u, (∀ xs, u ≠ .lst xs) → F a = some u → F' a = some u) : ∀ {vs : List V} {ds : List D}, DRs K F vs ds → noLs ds = true → DRs K F' vs ds
  | _, _, .nil, _ => .nil
  | _, _, .cons h1 h2, e => by
    simp only [noLs_cons, Bool.and_eq_true] at e
    exact .cons (DR.noL_to h h1 e.1) (DRs.noL_to h h2 e.2)
end
end

/-! ## the slots -/
abbrev En := List (Option Wv)
structure Act where
  pi : Pot
  H0 : Hp
  F0 : Hp
structure SR (K : PySem.W.Frag) (c : Act) (σ : L2.St) (H F : Hp) (ρ : En) : Prop where
  len : ρ.length = σ.length
  st : Step c.pi c.H0 c.F0 H F
  p0 : PotIn c.pi c.H0 c.F0
  slot : ∀ (i : Nat) (w : Wv), ρ[i]? = some (some w) → ∃ v, σ[i]? = some (some v) ∧ Res K c.pi c.H0 H F v w
  sep : ∀ (i j : Nat) (xs ys : List D) (v : V), i ≠ j → ρ[i]? = some (some (.own xs)) → ρ[j]? = some (some (.own ys)) → σ[i]? = some (some v) → σ[j]? = some (some v) → False
section
variable {K : PySem.W.Frag} {c : Act} {σ : L2.St} {H F H' F' : Hp} {ρ : En}
theorem Res.step {pi : Pot} {H0 F0 : Hp} {v : V} {w : Wv} (r : Res K pi H0 H F v w) (p0 : PotIn pi H0 F0) (s : Step pi H F H' F') : Res K pi H0 H' F' v w := by
  cases w with
  | dat d => exact DR.mono s.mono r
  | own xs =>
    obtain ⟨a, vs, rfl, ha, hF, h0, hs⟩ := r
    refine ⟨a, vs, rfl, s.same a _ (new_notPot p0 h0) ha, ?_, h0, hs.mono s.mono⟩
    cases q : F' a with
    | none => rfl
    | some o =>
      rcases s.new a o q with z | z
      · rw [hF] at z; cases z
      · rw [ha] at z; cases z
  | raw u => exact r
  | pot => exact r
theorem SR.step (I : SR K c σ H F ρ) (s : Step c.pi H F H' F') : SR K c σ H' F' ρ where
  len := I.len
  st := I.st.trans I.p0 s
  p0 := I.p0
  slot := fun i w e => by
    obtain ⟨v, h1, h2⟩ := I.slot i w e
    exact ⟨v, h1, h2.step I.p0 s⟩
  sep := I.sep
theorem SR.pot (I : SR K c σ H F ρ) : PotIn c.pi H F := I.st.pot
theorem SR.le (I : SR K c σ H F ρ) : Same F H := I.st.le

/-! ### giving up what is one's own -/
def frz1 (i : Nat) (ρ : En) : En := match ρ[i]? with
  | some (some (.own xs)) => ρ.set i (some (.dat (.list xs)))
  | _ => ρ
def frz : List Nat → En → En
  | [], ρ => ρ
  | i :: m, ρ => frz m (frz1 i ρ)
/-- Fp is F with some lists more -/
def More (F Fp : Hp) : Prop := Same F Fp ∧ ∀ a o, Fp a = some o → F a = some o ∨ ∃ xs, o = .lst xs
theorem More.refl (F : Hp) : More F F := ⟨Same.refl F, fun _ _ h => .inl h⟩
theorem More.trans {F G J : Hp} (a : More F G) (b : More G J) : More F J := ⟨a.1.trans b.1, fun x o h => by
  rcases b.2 x o h with q | q
  · exact a.2 x o q
  · exact .inr q⟩
theorem SR.frz1 (I : SR K c σ H F ρ) (i : Nat) : ∃ Fp, SR K c σ H Fp (frz1 i ρ) ∧ More F Fp := by
  unfold DL.frz1
  split
  · rename_i xs e
    obtain ⟨v, hv, a, vs, rfl, ha, hF, h0, hs⟩ := I.slot i _ e
    obtain ⟨m, l, p⟩ := Step.freeze I.le I.pot ha hF (new_notPot I.p0 h0)
    have hi : i < ρ.length := (List.getElem?_eq_some_iff.mp e).1
    refine ⟨upd F a (.lst vs), ⟨by rw [List.length_set]; exact I.len, ⟨I.st.mono.trans m, l, fun b o q => ?_, I.st.same, p⟩, I.p0, fun j w q => ?_, fun j k ys zs u n q1 q2 => ?_⟩, m, fun b o q => ?_⟩
    · by_cases z : b = a
      · subst z; exact .inr h0
      · rw [upd_ne z] at q; exact I.st.new b o q
    · by_cases z : j = i
      · subst z
        rw [List.getElem?_set_self hi] at q
        cases q
        exact ⟨_, hv, .lst upd_same (hs.mono m)⟩
      · rw [List.getElem?_set_ne (Ne.symm z)] at q
        obtain ⟨u, h1, h2⟩ := I.slot j w q
        refine ⟨u, h1, ?_⟩
        cases w with
        | dat d => exact DR.mono m h2
        | own ys =>
          obtain ⟨b, us, rfl, hb, hFb, h0b, hsb⟩ := h2
          have nab : b ≠ a := fun z2 => by
            subst z2
            exact I.sep j i ys xs _ z q e h1 hv
          exact ⟨b, us, rfl, hb, by rw [upd_ne nab]; exact hFb, h0b, hsb.mono m⟩
        | raw _ => exact h2
        | pot => exact h2
    · by_cases z : j = i
      · subst z
        rw [List.getElem?_set_self hi] at q1
        cases q1
      · by_cases z2 : k = i
        · subst z2
          rw [List.getElem?_set_self hi] at q2
          cases q2
        · rw [List.getElem?_set_ne (Ne.symm z)] at q1
          rw [List.getElem?_set_ne (Ne.symm z2)] at q2
          exact I.sep j k ys zs u n q1 q2
    · by_cases z : b = a
      · subst z; rw [upd_same] at q; cases q; exact .inr ⟨_, rfl⟩
      · rw [upd_ne z] at q; exact .inl q
  · exact ⟨F, I, More.refl F⟩
theorem SR.frz : ∀ (m : List Nat) {F : Hp} {ρ : En}, SR K c σ H F ρ → ∃ Fp, SR K c σ H Fp (frz m ρ) ∧ More F Fp
  | [], F, _, I => ⟨F, I, More.refl F⟩
  | i :: m, _, _, I => by
    obtain ⟨Fp, J, a⟩ := I.frz1 i
    obtain ⟨Fq, L, b⟩ := SR.frz m J
    exact ⟨Fq, L, a.trans b⟩
theorem frz1_length (i : Nat) (ρ : En) : (DL.frz1 i ρ).length = ρ.length := by
  unfold DL.frz1
  split
  · rw [List.length_set]
  · rfl
theorem frz_length : ∀ (m : List Nat) (ρ : En), (DL.frz m ρ).length = ρ.length
  | [], _ => rfl
  | i :: m, ρ => (frz_length m _).trans (frz1_length i ρ)

/-- back: what was given up for a while is one's own again -/
def backF (F Fp F' : Hp) : Hp := open Classical in fun a => if Fp a ≠ none ∧ F a = none then none else F' a
theorem SR.back {Fp : Hp} (I : SR K c σ H F ρ) (m : More F Fp) (s : Step c.pi H Fp H' F') : SR K c σ H' (backF F Fp F') ρ ∧ Same F (backF F Fp F') ∧ Same (backF F Fp F') F' ∧
    (∀ a u, (∀ xs, u ≠ .lst xs) → F' a = some u → backF F Fp F' a = some u) := by
  have b1 : Same F (backF F Fp F') := fun a o e => by
    unfold backF
    rw [if_neg (fun z => by rw [e] at z; cases z.2)]
    exact s.mono a o (m.1 a o e)
  have b2 : Same (backF F Fp F') F' := fun a o e => by
    unfold backF at e
    split at e
    · cases e
    · exact e
  refine ⟨⟨I.len, ⟨I.st.mono.trans b1, b2.trans s.le, fun a o e => ?_, fun a o n e => s.same a o n (I.st.same a o n e), fun p q e => ?_⟩, I.p0, fun i w e => ?_, I.sep⟩, b1, b2, fun a u n e => ?_⟩
  · have e' := b2 a o e
    rcases s.new a o e' with z | z
    · have hF : F a = some o := by
        cases q : F a with
        | some o' =>
          have := m.1 a o' q
          rw [z] at this
          exact this.symm
        | none =>
          unfold backF at e
          rw [if_pos ⟨by rw [z]; exact (fun y => nomatch y), q⟩] at e
          cases e
      exact I.st.new a o hF
    · exact .inr (I.st.none_of I.p0 z)
  · obtain ⟨r, f, r2⟩ := s.pot p q e
    refine ⟨r, ?_, r2⟩
    cases z : backF F Fp F' p with
    | none => rfl
    | some o =>
      have := b2 p o z
      rw [f] at this
      cases this
  · obtain ⟨v, h1, h2⟩ := I.slot i w e
    refine ⟨v, h1, ?_⟩
    cases w with
    | dat d => exact DR.mono b1 h2
    | own xs =>
      obtain ⟨a, vs, rfl, ha, hF, h0, hs⟩ := h2
      refine ⟨a, vs, rfl, s.same a _ (new_notPot I.p0 h0) ha, ?_, h0, hs.mono b1⟩
      cases z : backF F Fp F' a with
      | none => rfl
      | some o =>
        have z2 := b2 a o z
        rcases s.new a o z2 with y | y
        · unfold backF at z
          rw [if_pos ⟨by rw [y]; exact (fun x => nomatch x), hF⟩] at z
          cases z
        · rw [ha] at y; cases y
    | raw _ => exact h2
    | pot => exact h2
  · unfold backF
    rw [if_neg]
    · exact e
    · rintro ⟨z1, z2⟩
      cases q : Fp a with
      | none => exact z1 q
      | some o =>
        have e2 := s.mono a o q
        rw [e] at e2
        cases e2
        rcases m.2 a _ q with y | ⟨xs, y⟩
        · rw [z2] at y; cases y
        · exact n xs y
/-- a result that holds no list stands behind it -/
theorem SR.backRes {Fp H0 : Hp} {v : V} {w : Wv} (I : SR K c σ H F ρ) (m : More F Fp) (s : Step c.pi H Fp H' F') (r : Res K c.pi H0 H' F' v w) (h : w.still = true) : Res K c.pi H0 H' (backF F Fp F') v w := by
  obtain ⟨_, _, b2, b3⟩ := I.back m s
  cases w with
  | dat d => exact DR.noL_to b3 r h
  | own xs =>
    obtain ⟨a, vs, rfl, ha, hF, h0, hs⟩ := r
    refine ⟨a, vs, rfl, ha, ?_, h0, DRs.noL_to b3 hs h⟩
    cases z : backF F Fp F' a with
    | none => rfl
    | some o =>
      have := b2 a o z
      rw [hF] at this
      cases this
  | raw _ => exact r
  | pot => exact r
/-- a slot set -/
theorem SR.set {i : Nat} {v : V} {w : Wv} {Hb : Hp} (I : SR K c σ H F ρ) (r : Res K c.pi Hb H F v w) (hb : ∀ a, Hb a = none → c.H0 a = none)
    (hn : ∀ (j : Nat) (ys : List D) (a : Addr), ρ[j]? = some (some (.own ys)) → σ[j]? = some (some (.ref a)) → Hb a ≠ none) : SR K c (σ.set i (some v)) H F (ρ.set i (some w)) where
  len := by rw [List.length_set, List.length_set]; exact I.len
  st := I.st
  p0 := I.p0
  slot := fun j u e => by
    by_cases z : j = i
    · subst z
      have hj : j < ρ.length := by
        by_cases q : j < ρ.length
        · exact q
        · rw [List.getElem?_eq_none (by rw [List.length_set]; omega)] at e; cases e
      rw [List.getElem?_set_self hj] at e
      cases e
      refine ⟨v, List.getElem?_set_self (by rw [← I.len]; exact hj), ?_⟩
      cases w with
      | dat d => exact r
      | own xs =>
        obtain ⟨a, vs, e1, ha, hF, h0, hs⟩ := r
        exact ⟨a, vs, e1, ha, hF, hb a h0, hs⟩
      | raw _ => exact r
      | pot => exact r
    · rw [List.getElem?_set_ne (Ne.symm z)] at e
      obtain ⟨x, h1, h2⟩ := I.slot j u e
      exact ⟨x, by rw [List.getElem?_set_ne (Ne.symm z)]; exact h1, h2⟩
  sep := fun j k xs ys x n e1 e2 g1 g2 => by
    have lenOf : ∀ {l : Nat} {u : Wv}, (ρ.set i (some w))[l]? = some (some u) → l < ρ.length := fun {l u} e => by
      by_cases q : l < ρ.length
      · exact q
      · rw [List.getElem?_eq_none (by rw [List.length_set]; omega)] at e; cases e
    have main : ∀ {l : Nat} {zs us : List D}, l ≠ i → (ρ.set i (some w))[i]? = some (some (.own zs)) → (ρ.set i (some w))[l]? = some (some (.own us)) → (σ.set i (some v))[i]? = some (some x) → (σ.set i (some v))[l]? = some (some x) → False := fun {l zs us} nl f1 f2 k1 k2 => by
      have hi := lenOf f1
      rw [List.getElem?_set_self hi] at f1
      rw [List.getElem?_set_ne (Ne.symm nl)] at f2 k2
      rw [List.getElem?_set_self (by rw [← I.len]; exact hi)] at k1
      cases f1
      cases k1
      obtain ⟨a, vs, e1, ha, hF, h0, hs⟩ := r
      subst e1
      exact hn l us a f2 k2 h0
    by_cases z : j = i
    · subst z
      exact main (l := k) (Ne.symm n) e1 e2 g1 g2
    · by_cases z2 : k = i
      · subst z2
        exact main (l := j) n e2 e1 g2 g1
      · rw [List.getElem?_set_ne (Ne.symm z)] at e1 g1
        rw [List.getElem?_set_ne (Ne.symm z2)] at e2 g2
        exact I.sep j k xs ys x n e1 e2 g1 g2
/-- what one's own slots hold is known to H -/
theorem SR.ownAt (I : SR K c σ H F ρ) {j : Nat} {ys : List D} {a : Addr} (e : ρ[j]? = some (some (.own ys))) (g : σ[j]? = some (some (.ref a))) : H a ≠ none := by
  obtain ⟨v, h1, b, vs, rfl, hb, _⟩ := I.slot j _ e
  rw [h1] at g
  cases g
  rw [hb]
  exact fun z => nomatch z
/-- a slot forgotten -/
theorem SR.drop (I : SR K c σ H F ρ) (i : Nat) (o : Option V) : SR K c (σ.set i o) H F (ρ.set i none) where
  len := by rw [List.length_set, List.length_set]; exact I.len
  st := I.st
  p0 := I.p0
  slot := fun j u e => by
    by_cases z : j = i
    · subst z
      rw [List.getElem?_set] at e
      split at e
      · split at e
        · cases e
        · cases e
      · rename_i q; exact absurd rfl q
    · rw [List.getElem?_set_ne (Ne.symm z)] at e
      obtain ⟨x, h1, h2⟩ := I.slot j u e
      exact ⟨x, by rw [List.getElem?_set_ne (Ne.symm z)]; exact h1, h2⟩
  sep := fun j k xs ys x n e1 e2 g1 g2 => by
    have ne : ∀ {l : Nat} {zs : List D}, (ρ.set i none)[l]? = some (some (.own zs)) → l ≠ i := fun {l zs} e z => by
      subst z
      rw [List.getElem?_set] at e
      split at e
      · split at e
        · cases e
        · cases e
      · rename_i q; exact absurd rfl q
    have n1 := ne e1
    have n2 := ne e2
    rw [List.getElem?_set_ne (Ne.symm n1)] at e1 g1
    rw [List.getElem?_set_ne (Ne.symm n2)] at e2 g2
    exact I.sep j k xs ys x n e1 e2 g1 g2
end
end DL

namespace DL
open PySem PySem.Spec PyProof.Rows L2

/-! ## what is still to come: m from H, F on -/
def Pend {α : Type} (K : PySem.W.Frag) (mg : Str → Option Value) (c : Act) (Wx : WX) (σ : L2.St) (H F : Hp) (m : M α) (S : α → Hp → Hp → Prop) : Prop :=
  m.post (fun a => ∀ H' F', Step c.pi H F H' F' → S a H' F') fun e => ∀ cls d H' F', Step c.pi H F H' F' → XRes K mg H' F' cls d e → Wx cls d σ H'
def Gv (K : PySem.W.Frag) (pi : Pot) (F : Hp) (v : V) : Wv → Prop
  | .dat d => DR K F v d
  | .own _ => False
  | .raw u => v = u
  | .pot => ∃ p c, pi = some (p, c) ∧ v = .ref p
inductive Gvs (K : PySem.W.Frag) (pi : Pot) (F : Hp) : List V → List Wv → Prop
  | nil : Gvs K pi F [] []
  | cons {v : V} {vs : List V} {w : Wv} {ws : List Wv} : Gv K pi F v w → Gvs K pi F vs ws → Gvs K pi F (v :: vs) (w :: ws)
section
variable {α β : Type} {K : PySem.W.Frag} {mg : Str → Option Value} {c : Act} {Wx : WX} {σ : L2.St} {H F H' F' H1 F1 : Hp} {pi : Pot} {ρ : En}
theorem Gv.mono {v : V} {w : Wv} (e : Same F F') (h : Gv K pi F v w) : Gv K pi F' v w := by
  cases w with
  | dat d => exact DR.mono e h
  | own _ => exact h
  | raw _ => exact h
  | pot => exact h
theorem Gvs.mono {vs : List V} {ws : List Wv} (e : Same F F') (h : Gvs K pi F vs ws) : Gvs K pi F' vs ws := by
  induction h with
  | nil => exact .nil
  | cons h _ ih => exact .cons (h.mono e) ih
theorem Gvs.length {vs : List V} {ws : List Wv} (h : Gvs K pi F vs ws) : vs.length = ws.length := by
  induction h with
  | nil => rfl
  | cons _ _ ih => exact congrArg (· + 1) ih
theorem Gv.res {v : V} {w : Wv} {Hs : Hp} (h : Gv K pi F v w) : Res K pi Hs H F v w := by
  cases w with
  | dat d => exact h
  | own _ => exact h.elim
  | raw _ => exact h
  | pot => exact h
theorem Pend.move {m : M α} {S : α → Hp → Hp → Prop} (h : Pend K mg c Wx σ H F m S) (p0 : PotIn c.pi H F) (s : Step c.pi H F H1 F1) : Pend K mg c Wx σ H1 F1 m S :=
  M.post_mono h (fun _ q H' F' t => q H' F' (s.trans p0 t)) fun _ q cls d H' F' t x => q cls d H' F' (s.trans p0 t) x
theorem Pend.imp {m : M α} {S S' : α → Hp → Hp → Prop} (h : Pend K mg c Wx σ H F m S) (hS : ∀ a H' F', Step c.pi H F H' F' → S a H' F' → S' a H' F') : Pend K mg c Wx σ H F m S' :=
  M.post_mono h (fun a q H' F' t => hS a H' F' t (q H' F' t)) fun _ q => q
theorem Pend.bind {m : M α} {k : α → M β} {S : β → Hp → Hp → Prop} (h : Pend K mg c Wx σ H F (m >>= k) S) :
    m.post (fun a => Pend K mg c Wx σ H F (k a) S) fun e => ∀ cls d H' F', Step c.pi H F H' F' → XRes K mg H' F' cls d e → Wx cls d σ H' := M.post_bind.mp h
/-- given up, the result is data -/
theorem Res.gv {H0 F0 : Hp} {v : V} {w : Wv} (r : Res K pi H0 H F v w) (p0 : PotIn pi H0 F0) (s : Step pi H0 F0 H F) : ∃ F', Step pi H0 F0 H F' ∧ Gv K pi F' v w.give := by
  cases w with
  | dat d => exact ⟨F, s, r⟩
  | own xs =>
    obtain ⟨F', s', _, h⟩ := Res.give (d := .list xs) r rfl p0 s
    exact ⟨F', s', h⟩
  | raw _ => exact ⟨F, s, r⟩
  | pot => exact ⟨F, s, r⟩
theorem Res.older {Ha Hb Fa Fb : Hp} {v : V} {w : Wv} (r : Res K pi Hb H F v w) (p0 : PotIn pi Ha Fa) (s : Step pi Ha Fa Hb Fb) : Res K pi Ha H F v w := by
  cases w with
  | dat d => exact r
  | own xs =>
    obtain ⟨a, vs, e, ha, hF, h0, hs⟩ := r
    exact ⟨a, vs, e, ha, hF, s.none_of p0 h0, hs⟩
  | raw _ => exact r
  | pot => exact r
end

/-! ## readings by denotations -/
def SE (K : PySem.W.Frag) (pi : Pot) (Hs : Hp) (Q : VK) : Wv → Hp → Hp → Prop := fun w H' F' => ∀ v, Res K pi Hs H' F' v w → Q v H'
def Ev (K : PySem.W.Frag) (mg : Str → Option Value) (c : Act) (Wx : WX) (f : En → M Wv) : TE := fun σ H Q => ∃ F ρ, SR K c σ H F ρ ∧ Pend K mg c Wx σ H F (f ρ) (SE K c.pi H Q)
def EvT (K : PySem.W.Frag) (mg : Str → Option Value) (c : Act) (Wx : WX) (f : En → M Bool) : TT := fun σ H Q => ∃ F ρ, SR K c σ H F ρ ∧ Pend K mg c Wx σ H F (f ρ) fun b H' _ => Q b H'
def EvA (K : PySem.W.Frag) (mg : Str → Option Value) (c : Act) (Wx : WX) (f : En → M (List Wv)) : TA := fun σ H Q => ∃ F ρ, SR K c σ H F ρ ∧ Pend K mg c Wx σ H F (f ρ) fun ws H' F' => ∀ vs, Gvs K c.pi F' vs ws → Q vs H'
section
variable {α β : Type} {K : PySem.W.Frag} {mg : Str → Option Value} {c : Act} {Wx : WX} {σ : L2.St} {H F H' F' H1 F1 : Hp} {ρ : En}
/-- a part first, then the rest -/
theorem ev_split {f : En → M Wv} {k : Wv → M α} {S : α → Hp → Hp → Prop} {R : VK} (I : SR K c σ H F ρ) (p : Pend K mg c Wx σ H F (f ρ >>= k) S)
    (h : ∀ u x H1 F1, SR K c σ H1 F1 ρ → Step c.pi H F H1 F1 → Gv K c.pi F1 x u.give → Pend K mg c Wx σ H1 F1 (k u) S → R x H1) : Ev K mg c Wx f σ H R := by
  refine ⟨F, ρ, I, M.post_mono p.bind (fun u q H1 F1 s v r => ?_) fun e q => q⟩
  obtain ⟨F2, s2, g⟩ := r.gv I.pot s
  exact h u v H1 F2 (I.step s2) s2 g (Pend.move q I.pot s2)
theorem et_split {f : En → M Bool} {k : Bool → M α} {S : α → Hp → Hp → Prop} {R : Bool → Hp → Prop} (I : SR K c σ H F ρ) (p : Pend K mg c Wx σ H F (f ρ >>= k) S)
    (h : ∀ b H1 F1, SR K c σ H1 F1 ρ → Step c.pi H F H1 F1 → Pend K mg c Wx σ H1 F1 (k b) S → R b H1) : EvT K mg c Wx f σ H R :=
  ⟨F, ρ, I, M.post_mono p.bind (fun b q H1 F1 s => h b H1 F1 (I.step s) s (Pend.move q I.pot s)) fun e q => q⟩
theorem ea_split {f : En → M (List Wv)} {k : List Wv → M α} {S : α → Hp → Hp → Prop} {R : List V → Hp → Prop} (I : SR K c σ H F ρ) (p : Pend K mg c Wx σ H F (f ρ >>= k) S)
    (h : ∀ us xs H1 F1, SR K c σ H1 F1 ρ → Step c.pi H F H1 F1 → Gvs K c.pi F1 xs us → Pend K mg c Wx σ H1 F1 (k us) S → R xs H1) : EvA K mg c Wx f σ H R :=
  ⟨F, ρ, I, M.post_mono p.bind (fun us q H1 F1 s xs g => h us xs H1 F1 (I.step s) s g (Pend.move q I.pot s)) fun e q => q⟩
end

/-! ## the judgements -/
section
variable {X : Cx}
theorem PE.imp {e : Expr} {t t' : TE} (h : PE X e t) (hi : ∀ σ H Q, t' σ H Q → t σ H Q) : PE X e t' := ⟨fun pins s σ H Q I q => h.run pins s σ H Q I (hi _ _ _ q)⟩
theorem PT.imp {e : Expr} {t t' : TT} (h : PT X e t) (hi : ∀ σ H Q, t' σ H Q → t σ H Q) : PT X e t' := ⟨fun pins s σ H Q I q => h.run pins s σ H Q I (hi _ _ _ q)⟩
theorem PW.imp {e : Expr} {t t' : TT} (h : PW X e t) (hi : ∀ σ H Q, t' σ H Q → t σ H Q) : PW X e t' := ⟨fun wh pins s σ H Q I q => h.run wh pins s σ H Q I (hi _ _ _ q)⟩
theorem PA.imp {es : List Expr} {t t' : TA} (h : PA X es t) (hi : ∀ σ H Q, t' σ H Q → t σ H Q) : PA X es t' := ⟨fun pos pins s σ H Q I q => h.run pos pins s σ H Q I (hi _ _ _ q)⟩
theorem PS.imp {st : Stmt} {t t' : TS} (h : PS X st t) (hi : ∀ D σ H, t' D σ H → t D σ H) : PS X st t' := ⟨fun pins s σ H D I q => h.run pins s σ H D I (hi _ _ _ q)⟩
theorem PSs.imp {st : List Stmt} {t t' : TS} (h : PSs X st t) (hi : ∀ D σ H, t' D σ H → t D σ H) : PSs X st t' := ⟨fun pins s σ H D I q => h.run pins s σ H D I (hi _ _ _ q)⟩
end
abbrev DE (X : Cx) (c : Act) (Wx : WX) (e : Expr) (f : En → M Wv) : Prop := PE X e (Ev X.K X.mg c Wx f)
abbrev DT (X : Cx) (c : Act) (Wx : WX) (e : Expr) (f : En → M Bool) : Prop := PT X e (EvT X.K X.mg c Wx f)
abbrev DW (X : Cx) (c : Act) (Wx : WX) (e : Expr) (f : En → M Bool) : Prop := PW X e (EvT X.K X.mg c Wx f)
abbrev DA (X : Cx) (c : Act) (Wx : WX) (es : List Expr) (f : En → M (List Wv)) : Prop := PA X es (EvA X.K X.mg c Wx f)

/-! ## names, constants -/
def rdv (i : Nat) (ρ : En) : M Wv := match ρ[i]? with
  | some (some (.dat d)) => .ok (.dat d)
  | some (some (.raw v)) => .ok (.raw v)
  | some (some .pot) => .ok .pot
  | _ => .bad
section
variable {X : Cx} {c : Act} {Wx : WX}
theorem step_refl {K : PySem.W.Frag} {σ : L2.St} {H F : Hp} {ρ : En} (I : SR K c σ H F ρ) : Step c.pi H F H F := Step.refl I.le I.pot
theorem de_var (i : Nat) {x : Str} {pos : Pos} (hN : X.N[i]? = some x := by rfl) (hv : Vis X.env.scope x := by first | exact Or.inl rfl | exact Or.inr (Or.inl rfl) | exact Or.inr (Or.inr rfl)) (hd : (x == ("__debug__" : Str)) = false := by decide)
    (hcd : (x == ("__classdict__" : Str)) = false := by decide) : DE X c Wx (.Name x pos) (rdv i) := by
  refine PE.imp (pe_var hN hv hd hcd) fun σ H Q ⟨F, ρ, I, p⟩ => ?_
  unfold rdv at p
  split at p
  · rename_i d e
    obtain ⟨v, h1, h2⟩ := I.slot i _ e
    exact ⟨v, h1, p H F (step_refl I) v h2⟩
  · rename_i u e
    obtain ⟨v, h1, h2⟩ := I.slot i _ e
    exact ⟨v, h1, p H F (step_refl I) v h2⟩
  · rename_i e
    obtain ⟨v, h1, h2⟩ := I.slot i _ e
    exact ⟨v, h1, p H F (step_refl I) v h2⟩
  · exact False.elim p
theorem de_c {e : Expr} {v : V} {w : Wv} (h : PE X e (tC v)) (hw : ∀ F, Gv X.K c.pi F v w) : DE X c Wx e (fun _ => .ok w) :=
  PE.imp h fun _ H _ ⟨F, _, I, p⟩ => p H F (step_refl I) v (hw F).res
theorem de_int {i j pos} : DE X c Wx (.Constant (.int i) j pos) (fun _ => .ok (.dat (.int i))) := de_c pe_int fun _ => .int i
theorem de_bl {b j pos} : DE X c Wx (.Constant (.bool b) j pos) (fun _ => .ok (.dat (.bool b))) := de_c pe_bl fun _ => .bl b
theorem de_non {j pos} : DE X c Wx (.Constant .none j pos) (fun _ => .ok (.dat .none)) := de_c pe_non fun _ => .non
theorem de_str {x j pos} : DE X c Wx (.Constant (.str x) j pos) (fun _ => .ok (.dat (.str x))) := de_c pe_str fun _ => .str x
/-- a module's name that holds a scalar -/
theorem de_glob {x : Str} {v : V} {w : Wv} {u : Value} {pos : Pos} (hg : Gl X x) (hm : X.mg x = some u) (r : RelV v u) (hw : ∀ F, Gv X.K c.pi F v w) (hd : (x == ("__debug__" : Str)) = false := by decide) : DE X c Wx (.Name x pos) (fun _ => .ok w) := de_c (pe_glob hg hm r hd) hw
theorem de_globS {x z : Str} {pos : Pos} (hg : Gl X x) (hm : ∃ t, X.mg x = some (.str z t)) (hd : (x == ("__debug__" : Str)) = false := by decide) : DE X c Wx (.Name x pos) (fun _ => .ok (.dat (.str z))) := by
  obtain ⟨t, h⟩ := hm
  exact de_glob (v := .str z) hg h ⟨t, rfl⟩ (fun _ => .str z) hd
theorem de_globI {x : Str} {i : Int} {pos : Pos} (hg : Gl X x) (hm : ∃ t, X.mg x = some (.int i t)) (hd : (x == ("__debug__" : Str)) = false := by decide) : DE X c Wx (.Name x pos) (fun _ => .ok (.dat (.int i))) := by
  obtain ⟨t, h⟩ := hm
  exact de_glob (v := .int i) hg h ⟨t, rfl⟩ (fun _ => .int i) hd

/-! ## operators by values -/
def OpOk (K : PySem.W.Frag) (r : R2) (g : Wv → Wv → M Wv) : Prop := ∀ (pi : Pot) (H F : Hp) (x y : V) (u w : Wv) (Q : VK) (E : Ex → Prop), Same F H → PotIn pi H F → Gv K pi F x u → Gv K pi F y w →
  (g u w).post (fun z => ∀ H' F', Step pi H F H' F' → ∀ v, Res K pi H H' F' v z → Q v H') E → r x y H Q
def UnOk (K : PySem.W.Frag) (r : V → Hp → VK → Prop) (g : Wv → M Wv) : Prop := ∀ (pi : Pot) (H F : Hp) (x : V) (u : Wv) (Q : VK) (E : Ex → Prop), Same F H → PotIn pi H F → Gv K pi F x u →
  (g u).post (fun z => ∀ H' F', Step pi H F H' F' → ∀ v, Res K pi H H' F' v z → Q v H') E → r x H Q
def CbOk (K : PySem.W.Frag) (r : List V → Hp → VK → Prop) (g : List Wv → M Wv) : Prop := ∀ (pi : Pot) (H F : Hp) (xs : List V) (us : List Wv) (Q : VK) (E : Ex → Prop), Same F H → PotIn pi H F → Gvs K pi F xs us →
  (g us).post (fun z => ∀ H' F', Step pi H F H' F' → ∀ v, Res K pi H H' F' v z → Q v H') E → r xs H Q
section
variable {a b : Expr} {fa fb : En → M Wv} {pos : Pos} {g : Wv → Wv → M Wv} {r : R2}
def bin2 (g : Wv → Wv → M Wv) (fa fb : En → M Wv) (ρ : En) : M Wv := fa ρ >>= fun u => fb ρ >>= fun w => g u.give w.give
theorem ev_bin {K : PySem.W.Frag} {mg : Str → Option Value} (hr : OpOk K r g) : ∀ σ H Q, Ev K mg c Wx (bin2 g fa fb) σ H Q → tOp r (Ev K mg c Wx fa) (Ev K mg c Wx fb) σ H Q := fun σ H Q ⟨F, ρ, I, p⟩ => by
  refine ev_split I p fun u x H1 F1 I1 s1 g1 p1 => ?_
  refine ev_split I1 p1 fun w y H2 F2 I2 s2 g2 p2 => ?_
  refine hr c.pi H2 F2 x y u.give w.give Q _ I2.le I2.pot (g1.mono s2.mono) g2 (M.post_mono p2 (fun z q H' F' t v rs => q H' F' t v ?_) fun _ q => q)
  exact (rs.older I1.pot s2).older I.pot s1
theorem de_op {op : Operator} (ho : OpR X (binaryOp op) r) (hr : OpOk X.K r g) (ha : DE X c Wx a fa) (hb : DE X c Wx b fb) : DE X c Wx (.BinOp a op b pos) (bin2 g fa fb) := PE.imp (pe_op ho ha hb) (ev_bin hr)
theorem de_cmp {op : CmpOp} (ho : OpR X (compareOp op) r) (hr : OpOk X.K r g) (ha : DE X c Wx a fa) (hb : DE X c Wx b fb) (hm : behindInMarks op b = false) : DE X c Wx (.Compare a [op] [b] pos) (bin2 g fa fb) := PE.imp (pe_cmpR ho ha hb hm) (ev_bin hr)
def asB : Wv → M Bool
  | .dat (.bool b) => .ok b
  | _ => .bad
@[simp] theorem asB_bool (b : Bool) : asB (.dat (.bool b)) = .ok b := rfl
def tst (f : En → M Wv) (ρ : En) : M Bool := f ρ >>= asB
theorem ev_tst {K : PySem.W.Frag} {mg : Str → Option Value} {f : En → M Wv} : ∀ σ H Q, EvT K mg c Wx (tst f) σ H Q → Ev K mg c Wx f σ H fun x H' => ∃ k, x = .bl k ∧ Q k H' := fun σ H Q ⟨F, ρ, I, p⟩ => by
  refine ⟨F, ρ, I, M.post_mono p.bind (fun w q H' F' s v rs => ?_) fun _ q => q⟩
  unfold asB at q
  split at q
  · rename_i b
    have rs' : DR K F' v (.bool b) := rs
    cases rs'
    exact ⟨b, rfl, q H' F' s⟩
  · exact False.elim q
theorem dt_cmp {op : CmpOp} (ho : OpR X (compareOp op) r) (hr : OpOk X.K r g) (ha : DE X c Wx a fa) (hb : DE X c Wx b fb) (hm : behindInMarks op b = false) : DT X c Wx (.Compare a [op] [b] pos) (tst (bin2 g fa fb)) :=
  PT.imp (pt_cmpR ho ha hb hm) fun σ H Q h => ev_bin hr σ H _ (ev_tst σ H Q h)
theorem dt_val (ha : DE X c Wx a fa) (he : ∀ whole, isTrue a X.env whole = (do let v ← whole; standAt a.pos; holding [v] (truthy v)) := by intro _; rfl) : DT X c Wx a (tst fa) :=
  PT.imp (pt_val ha he) fun σ H Q h => ev_tst σ H Q h

/-! ## and, or, not -/
variable {ta tb : En → M Bool} {rest : List Expr}
def tand (ta tb : En → M Bool) (ρ : En) : M Bool := ta ρ >>= fun x => if x = true then tb ρ else .ok false
def tor (ta tb : En → M Bool) (ρ : En) : M Bool := ta ρ >>= fun x => if x = true then .ok true else tb ρ
def tnot (ta : En → M Bool) (ρ : En) : M Bool := ta ρ >>= fun x => .ok (!x)
theorem dw_and1 (ha : DT X c Wx a ta) : DW X c Wx (.BoolOp .And [a] pos) ta := pw_and1 ha
theorem dw_or1 (ha : DT X c Wx a ta) : DW X c Wx (.BoolOp .Or [a] pos) ta := pw_or1 ha
theorem dw_and (ha : DT X c Wx a ta) (hb : DW X c Wx (.BoolOp .And (b :: rest) pos) tb) : DW X c Wx (.BoolOp .And (a :: b :: rest) pos) (tand ta tb) :=
  PW.imp (pw_and ha hb) fun σ H Q ⟨F, ρ, I, p⟩ => et_split I p fun x H1 F1 I1 s1 p1 => by
    cases x with
    | true => rw [if_pos rfl] at p1 ⊢; exact ⟨F1, ρ, I1, p1⟩
    | false => rw [if_neg Bool.false_ne_true] at p1 ⊢; exact p1 H1 F1 (step_refl I1)
theorem dw_or (ha : DT X c Wx a ta) (hb : DW X c Wx (.BoolOp .Or (b :: rest) pos) tb) : DW X c Wx (.BoolOp .Or (a :: b :: rest) pos) (tor ta tb) :=
  PW.imp (pw_or ha hb) fun σ H Q ⟨F, ρ, I, p⟩ => et_split I p fun x H1 F1 I1 s1 p1 => by
    cases x with
    | true => rw [if_pos rfl] at p1 ⊢; exact p1 H1 F1 (step_refl I1)
    | false => rw [if_neg Bool.false_ne_true] at p1 ⊢; exact ⟨F1, ρ, I1, p1⟩
theorem dt_w {e : Expr} (h : DW X c Wx e ta) : DT X c Wx e ta := PW.pt h
theorem dt_not (ha : DT X c Wx a ta) : DT X c Wx (.UnaryOp .Not a pos) (tnot ta) :=
  PT.imp (pt_not ha) fun σ H Q ⟨F, ρ, I, p⟩ => et_split I p fun x H1 F1 I1 s1 p1 => p1 H1 F1 (step_refl I1)
/-- .. as values: all but the last True or False -/
def vand (fa fb : En → M Wv) (ρ : En) : M Wv := fa ρ >>= fun x => asB x >>= fun k => if k = true then fb ρ else .ok (.dat (.bool false))
def vor (fa fb : En → M Wv) (ρ : En) : M Wv := fa ρ >>= fun x => asB x >>= fun k => if k = true then .ok (.dat (.bool true)) else fb ρ
def vnot (fa : En → M Wv) (ρ : En) : M Wv := fa ρ >>= fun x => asB x >>= fun k => .ok (.dat (.bool !k))
theorem asB_ok {α : Type} {K : PySem.W.Frag} {mg : Str → Option Value} {σ : L2.St} {H F : Hp} {u : Wv} {k : Bool → M α} {S : α → Hp → Hp → Prop} {x : V} (g : Gv K c.pi F x u.give) (p : Pend K mg c Wx σ H F (asB u >>= k) S) : ∃ z, x = .bl z ∧ Pend K mg c Wx σ H F (k z) S := by
  unfold asB at p
  split at p
  · rename_i z
    have g' : DR K F x (.bool z) := g
    cases g'
    exact ⟨z, rfl, p⟩
  · exact False.elim p
theorem de_and1 (ha : DE X c Wx a fa) : DE X c Wx (.BoolOp .And [a] pos) fa := pe_one ha
theorem de_or1 (ha : DE X c Wx a fa) : DE X c Wx (.BoolOp .Or [a] pos) fa := pe_one ha
theorem de_and (ha : DE X c Wx a fa) (hb : DE X c Wx (.BoolOp .And (b :: rest) pos) fb) : DE X c Wx (.BoolOp .And (a :: b :: rest) pos) (vand fa fb) :=
  PE.imp (pe_and ha hb) fun σ H Q ⟨F, ρ, I, p⟩ => ev_split I p fun u x H1 F1 I1 s1 g1 p1 => by
    obtain ⟨z, rfl, p2⟩ := asB_ok g1 p1
    refine ⟨z, rfl, ?_⟩
    cases z with
    | true =>
      rw [if_pos rfl] at p2 ⊢
      exact ⟨F1, ρ, I1, p2.imp fun w H' F' _ q v r => q v (r.older I.pot s1)⟩
    | false =>
      rw [if_neg Bool.false_ne_true] at p2 ⊢
      exact p2 H1 F1 (step_refl I1) (.bl false) (.bl false)
theorem de_or (ha : DE X c Wx a fa) (hb : DE X c Wx (.BoolOp .Or (b :: rest) pos) fb) : DE X c Wx (.BoolOp .Or (a :: b :: rest) pos) (vor fa fb) :=
  PE.imp (pe_or ha hb) fun σ H Q ⟨F, ρ, I, p⟩ => ev_split I p fun u x H1 F1 I1 s1 g1 p1 => by
    obtain ⟨z, rfl, p2⟩ := asB_ok g1 p1
    refine ⟨z, rfl, ?_⟩
    cases z with
    | true =>
      rw [if_pos rfl] at p2 ⊢
      exact p2 H1 F1 (step_refl I1) (.bl true) (.bl true)
    | false =>
      rw [if_neg Bool.false_ne_true] at p2 ⊢
      exact ⟨F1, ρ, I1, p2.imp fun w H' F' _ q v r => q v (r.older I.pot s1)⟩
theorem de_not (ha : DE X c Wx a fa) : DE X c Wx (.UnaryOp .Not a pos) (vnot fa) :=
  PE.imp (pe_not ha) fun σ H Q ⟨F, ρ, I, p⟩ => ev_split I p fun u x H1 F1 I1 s1 g1 p1 => by
    obtain ⟨z, rfl, p2⟩ := asB_ok g1 p1
    exact ⟨z, rfl, p2 H1 F1 (step_refl I1) (.bl !z) (.bl !z)⟩
/-- a if t else b -/
def vif (t : En → M Bool) (fa fb : En → M Wv) (ρ : En) : M Wv := t ρ >>= fun k => if k = true then fa ρ else fb ρ
theorem de_if {t : Expr} (ht : DT X c Wx t ta) (ha : DE X c Wx a fa) (hb : DE X c Wx b fb) : DE X c Wx (.IfExp t a b pos) (vif ta fa fb) :=
  PE.imp (pe_ifExp ht ha hb) fun σ H Q ⟨F, ρ, I, p⟩ => et_split I p fun x H1 F1 I1 s1 p1 => by
    cases x with
    | true =>
      rw [if_pos rfl] at p1 ⊢
      exact ⟨F1, ρ, I1, p1.imp fun w H' F' _ q v r => q v (r.older I.pot s1)⟩
    | false =>
      rw [if_neg Bool.false_ne_true] at p1 ⊢
      exact ⟨F1, ρ, I1, p1.imp fun w H' F' _ q v r => q v (r.older I.pot s1)⟩
theorem de_un {op : UnaryOp} {r : V → Hp → VK → Prop} {g : Wv → M Wv} (ho : UnR X (unaryOp op) r) (hr : UnOk X.K r g) (ha : DE X c Wx a fa) : DE X c Wx (.UnaryOp op a pos) (fun ρ => fa ρ >>= fun u => g u.give) :=
  PE.imp (pe_un ho ha) fun σ H Q ⟨F, ρ, I, p⟩ => ev_split I p fun u x H1 F1 I1 s1 g1 p1 =>
    hr c.pi H1 F1 x u.give Q _ I1.le I1.pot g1 (M.post_mono p1 (fun z q H' F' t v rs => q H' F' t v (rs.older I.pot s1)) fun _ q => q)

/-! ## arguments, displays, calls of builtins -/
variable {es : List Expr} {fs : En → M (List Wv)}
def anil (_ : En) : M (List Wv) := .ok []
def acons (fa : En → M Wv) (fs : En → M (List Wv)) (ρ : En) : M (List Wv) := fa ρ >>= fun u => fs ρ >>= fun us => .ok (u.give :: us)
theorem da_nil : DA X c Wx [] anil := PA.imp pa_nil fun σ H Q ⟨F, ρ, I, p⟩ => p H F (step_refl I) [] .nil
theorem da_cons (ha : DE X c Wx a fa) (hr : DA X c Wx es fs) (hs : starEach (a :: es) X.env = (false, eval a X.env) :: starEach es X.env := by rfl) : DA X c Wx (a :: es) (acons fa fs) :=
  PA.imp (pa_cons ha hr hs) fun σ H Q ⟨F, ρ, I, p⟩ => ev_split I p fun u x H1 F1 I1 s1 g1 p1 => ea_split I1 p1 fun us xs H2 F2 I2 s2 g2 p2 =>
    p2 H2 F2 (step_refl I2) (x :: xs) (.cons (g1.mono s2.mono) g2)
/-- the data of some results -/
def datas : List Wv → M (List D)
  | [] => .ok []
  | .dat d :: ws => datas ws >>= fun ds => .ok (d :: ds)
  | _ :: _ => .bad
@[simp] theorem datas_nil : datas [] = .ok [] := rfl
@[simp] theorem datas_cons (d : D) (ws : List Wv) : datas (.dat d :: ws) = datas ws >>= fun ds => .ok (d :: ds) := rfl
theorem datas_ok {α : Type} {K : PySem.W.Frag} {pi : Pot} {F : Hp} {Q : α → Prop} {E : Ex → Prop} : ∀ {ws : List Wv} {vs : List V} {k : List D → M α}, Gvs K pi F vs ws → (datas ws >>= k).post Q E → ∃ ds, DRs K F vs ds ∧ (k ds).post Q E
  | [], _, k, h, p => by
    cases h
    exact ⟨[], .nil, p⟩
  | w :: ws, _, k, h, p => by
    cases h with
    | cons h1 h2 =>
      cases w with
      | dat d =>
        rw [datas_cons, M.bind_assoc'] at p
        obtain ⟨ds, q1, q2⟩ := datas_ok h2 p
        exact ⟨d :: ds, .cons h1 q1, q2⟩
      | own _ => exact False.elim p
      | raw _ => exact False.elim p
      | pot => exact False.elim p
/-- a size that the machine takes -/
def small {α : Type} (n : Nat) (m : M α) : M α := if n ≤ 1000000 then m else .bad
theorem small_ok {α : Type} {n : Nat} {m : M α} {Q : α → Prop} {E : Ex → Prop} (h : (small n m).post Q E) : n < sizeLine ∧ m.post Q E := by
  unfold small at h
  split at h
  · rename_i q
    exact ⟨Nat.lt_of_le_of_lt q (by rw [sizeLine_eq]; decide), h⟩
  · exact False.elim h
theorem small_of {α : Type} {n : Nat} {m : M α} (h : n ≤ 1000000) : small n m = m := if_pos h
def mkTup (ws : List Wv) : M Wv := datas ws >>= fun ds => small ds.length (.ok (.dat (.tuple ds)))
def mkLst (ws : List Wv) : M Wv := datas ws >>= fun ds => small ds.length (.ok (.own ds))
theorem de_tup {x1} (h : DA X c Wx es fs) : DE X c Wx (.Tuple es x1 pos) (fun ρ => fs ρ >>= mkTup) :=
  PE.imp (pe_tup h) fun σ H Q ⟨F, ρ, I, p⟩ => ea_split I p fun us xs H1 F1 I1 s1 g1 p1 => by
    obtain ⟨ds, hd, p2⟩ := datas_ok g1 p1
    obtain ⟨hz, p3⟩ := small_ok p2
    rw [hd.length]
    refine ⟨Nat.le_of_lt hz, fun q hq => ?_⟩
    have sl := Step.lay (o := .tup xs) I1.le I1.pot hq
    exact p3 _ _ sl (.ref q) (.tup (SqT.of upd_same) (hd.mono sl.mono))
theorem de_lst (h : DA X c Wx es fs) : DE X c Wx (.List es pos) (fun ρ => fs ρ >>= mkLst) :=
  PE.imp (pe_lst h) fun σ H Q ⟨F, ρ, I, p⟩ => ea_split I p fun us xs H1 F1 I1 s1 g1 p1 => by
    obtain ⟨ds, hd, p2⟩ := datas_ok g1 p1
    obtain ⟨hz, p3⟩ := small_ok p2
    rw [hd.length]
    refine ⟨Nat.le_of_lt hz, fun q hq => ?_⟩
    have sl := Step.layH (o := .lst xs) I1.le I1.pot hq
    refine p3 _ _ sl (.ref q) ⟨q, xs, rfl, upd_same, ?_, s1.none_of I.pot hq, hd⟩
    cases z : F1 q with
    | none => rfl
    | some o =>
      have := I1.le q o z
      rw [hq] at this
      cases this
theorem de_callB {r : List V → Hp → VK → Prop} {x : Str} {p : Pos} {id : String} {g : List Wv → M Wv} (hc : CallR X (.builtin id) r) (hr : CbOk X.K r g) (hg : Gl X x) (hm : X.mg x = none) (hv : bootBuiltins x = some (.builtin id)) (ha : DA X c Wx (a :: es) fs)
    (hn : x ≠ "__name__" := by decide) (hdb : (x == ("__debug__" : Str)) = false := by decide) (he : starEach (a :: es) X.env = (false, eval a X.env) :: starEach es X.env := by rfl) (hpl : (backTo pos (starEach es X.env)).any (·.1) = false := by rfl) :
    DE X c Wx (.Call (.Name x p) (a :: es) [] pos) (fun ρ => fs ρ >>= g) :=
  PE.imp (pe_callB hc hg hm hv ha hn hdb he hpl) fun σ H Q ⟨F, ρ, I, p⟩ => ea_split I p fun us xs H1 F1 I1 s1 g1 p1 =>
    hr c.pi H1 F1 xs us Q _ I1.le I1.pot g1 (M.post_mono p1 (fun z q H' F' t v rs => q H' F' t v (rs.older I.pot s1)) fun _ q => q)
theorem de_callTy {r : List V → Hp → VK → Prop} {x : Str} {p : Pos} {T : String} {g : List Wv → M Wv} (hc : CallR X (.type T) r) (hr : CbOk X.K r g) (hg : Gl X x) (hm : X.mg x = none) (hv : bootBuiltins x = some (.type T)) (ha : DA X c Wx (a :: es) fs)
    (hn : x ≠ "__name__" := by decide) (hdb : (x == ("__debug__" : Str)) = false := by decide) (he : starEach (a :: es) X.env = (false, eval a X.env) :: starEach es X.env := by rfl) (hpl : (backTo pos (starEach es X.env)).any (·.1) = false := by rfl) :
    DE X c Wx (.Call (.Name x p) (a :: es) [] pos) (fun ρ => fs ρ >>= g) :=
  PE.imp (pe_callTy hc hg hm hv ha hn hdb he hpl) fun σ H Q ⟨F, ρ, I, p⟩ => ea_split I p fun us xs H1 F1 I1 s1 g1 p1 =>
    hr c.pi H1 F1 xs us Q _ I1.le I1.pot g1 (M.post_mono p1 (fun z q H' F' t v rs => q H' F' t v (rs.older I.pot s1)) fun _ q => q)
end
end
end DL

namespace DL
open PySem PySem.Spec PyProof.Rows L2

/-! ## statements -/
inductive Fl where
  | nx (ρ : En)
  | ret (w : Wv)
  | brk (ρ : En)
  | cont (ρ : En)
def SF (K : PySem.W.Frag) (c : Act) (F : Hp) (D : Ends) : Fl → Prop
  | .nx ρ => ∀ σ' H' F', SR K c σ' H' F' ρ → Same F F' → D.nx σ' H'
  | .brk ρ => ∀ σ' H' F', SR K c σ' H' F' ρ → Same F F' → D.bk σ' H'
  | .cont ρ => ∀ σ' H' F', SR K c σ' H' F' ρ → Same F F' → D.ct σ' H'
  | .ret w => ∀ v H' F', Step c.pi c.H0 c.F0 H' F' → Res K c.pi c.H0 H' F' v w → D.rt v H'
def SX (K : PySem.W.Frag) (mg : Str → Option Value) (c : Act) (Wx : WX) (e : Ex) : Prop := ∀ cls d σ' H' F', Step c.pi c.H0 c.F0 H' F' → XRes K mg H' F' cls d e → Wx cls d σ' H'
def EvS (K : PySem.W.Frag) (mg : Str → Option Value) (c : Act) (Wx : WX) (g : En → M Fl) : TS := fun D σ H => ∃ F ρ, SR K c σ H F ρ ∧ (g ρ).post (SF K c F D) (SX K mg c Wx)
abbrev DS (X : Cx) (c : Act) (Wx : WX) (st : Stmt) (g : En → M Fl) : Prop := PS X st (EvS X.K X.mg c Wx g)
abbrev DSs (X : Cx) (c : Act) (Wx : WX) (st : List Stmt) (g : En → M Fl) : Prop := PSs X st (EvS X.K X.mg c Wx g)
section
variable {K : PySem.W.Frag} {mg : Str → Option Value} {c : Act} {Wx : WX} {σ : L2.St} {H F H' F' : Hp} {ρ : En}
theorem SF.older {D : Ends} {fl : Fl} (h : SF K c F D fl) (e : Same F F') : SF K c F' D fl := by
  cases fl with
  | nx _ => exact fun σ' H' G I m => h σ' H' G I (e.trans m)
  | brk _ => exact fun σ' H' G I m => h σ' H' G I (e.trans m)
  | cont _ => exact fun σ' H' G I m => h σ' H' G I (e.trans m)
  | ret _ => exact h
/-- an expression at the head of a statement: the names m are given up while it is reckoned -/
theorem ev_st {α : Type} {m : List Nat} {f : En → M Wv} {k : Wv → M α} {S : α → Prop} {R : VK} (I : SR K c σ H F ρ) (p : (f (frz m ρ) >>= k).post S (SX K mg c Wx))
    (h : ∀ w v Fp H1 F1, More F Fp → SR K c σ H Fp (frz m ρ) → Step c.pi H Fp H1 F1 → Res K c.pi H H1 F1 v w → (k w).post S (SX K mg c Wx) → R v H1) : Ev K mg c Wx f σ H R := by
  obtain ⟨Fp, J, mo⟩ := I.frz m
  exact ⟨Fp, frz m ρ, J, M.post_mono (M.post_bind.mp p) (fun w q H1 F1 s v r => h w v Fp H1 F1 mo J s r q) fun e q cls d H1 F1 s x => q cls d σ H1 F1 (J.st.trans J.p0 s) x⟩
theorem et_st {α : Type} {m : List Nat} {f : En → M Bool} {k : Bool → M α} {S : α → Prop} {R : Bool → Hp → Prop} (I : SR K c σ H F ρ) (p : (f (frz m ρ) >>= k).post S (SX K mg c Wx))
    (h : ∀ b H1 F1, SR K c σ H1 F1 ρ → Same F F1 → (k b).post S (SX K mg c Wx) → R b H1) : EvT K mg c Wx f σ H R := by
  obtain ⟨Fp, J, mo⟩ := I.frz m
  exact ⟨Fp, frz m ρ, J, M.post_mono (M.post_bind.mp p) (fun b q H1 F1 s => h b H1 _ (I.back mo s).1 (I.back mo s).2.1 q) fun e q cls d H1 F1 s x => q cls d σ H1 F1 (J.st.trans J.p0 s) x⟩
end
section
variable {X : Cx} {c : Act} {Wx : WX} {st : Stmt} {sts : List Stmt} {g g' : En → M Fl} {e : Expr} {f : En → M Wv} {pos : Pos}
def skip (ρ : En) : M Fl := .ok (.nx ρ)
def seq (g g' : En → M Fl) (ρ : En) : M Fl := g ρ >>= fun
  | .nx ρ' => g' ρ'
  | fl => .ok fl
theorem dss_nil : DSs X c Wx [] skip := PSs.imp pss_nil fun D σ H ⟨F, ρ, I, p⟩ => p σ H F I (Same.refl F)
theorem dss_cons (h1 : DS X c Wx st g) (h2 : DSs X c Wx sts g') : DSs X c Wx (st :: sts) (seq g g') :=
  PSs.imp (pss_cons h1 h2) fun D σ H ⟨F, ρ, I, p⟩ => ⟨F, ρ, I, M.post_mono (M.post_bind.mp p) (fun fl q => by
    cases fl with
    | nx ρ' => exact fun σ' H' F' J m => ⟨F', ρ', J, M.post_mono q (fun fl2 z => z.older m) fun _ z => z⟩
    | ret w => exact q
    | brk _ => exact q
    | cont _ => exact q) fun _ z => z⟩
theorem dss_one (h1 : DS X c Wx st g) : DSs X c Wx [st] g := pss_one h1
def asg (m : List Nat) (i : Nat) (f : En → M Wv) (ρ : En) : M Fl := f (frz m ρ) >>= fun w => .ok (.nx ((if w.still = true then ρ else frz m ρ).set i (some w)))
theorem asg_post {K : PySem.W.Frag} {mg : Str → Option Value} {m : List Nat} {i : Nat} {D : Ends} : ∀ σ H, EvS K mg c Wx (asg m i f) D σ H → Ev K mg c Wx f σ H fun x H1 => D.nx (σ.set i (some x)) H1 := fun σ H ⟨F, ρ, I, p⟩ => by
  refine ev_st (m := m) I p fun w v Fp H1 F1 mo J s r q => ?_
  by_cases hs : w.still = true
  · rw [if_pos hs] at q
    obtain ⟨I1, b1, _, _⟩ := I.back mo s
    exact q _ H1 _ (I1.set (I.backRes mo s r hs) (fun a z => I.st.none_of I.p0 z) fun j ys a e1 e2 => I.ownAt e1 e2) b1
  · rw [if_neg hs] at q
    exact q _ H1 _ ((J.step s).set r (fun a z => I.st.none_of I.p0 z) fun j ys a e1 e2 => J.ownAt e1 e2) (mo.1.trans s.mono)
theorem ds_asg (m : List Nat) (i : Nat) {x : Str} {pos' : Pos} (hN : X.N.Nodup) (hi : X.N[i]? = some x) (hx : Loc X.env.scope x) (he : DE X c Wx e f) (hs : swapsWith e (some (.Name x pos')) pos.line X.env = pure false := by rfl)
    (hf : X.fn x = true ∨ X.env.scope.names.lookup x = some .local := by first | exact .inl rfl | exact .inr rfl) : DS X c Wx (.Assign [.Name x pos'] e pos) (asg m i f) :=
  PS.imp (ps_set (hf := hf) hN hi hx he hs) fun D σ H h => asg_post σ H h
def rtn (m : List Nat) (f : En → M Wv) (ρ : En) : M Fl := f (frz m ρ) >>= fun w => .ok (.ret w)
theorem ds_ret (m : List Nat) (he : DE X c Wx e f) : DS X c Wx (.Return (some e) pos) (rtn m f) :=
  PS.imp (ps_ret he) fun D σ H ⟨F, ρ, I, p⟩ => ev_st (m := m) I p fun w v Fp H1 F1 mo J s r q => q v H1 F1 (J.st.trans J.p0 s) (r.older I.p0 I.st)
def rtnN (_ : En) : M Fl := .ok (.ret (.dat .none))
theorem ds_retN : DS X c Wx (.Return none pos) rtnN := PS.imp ps_retN fun D σ H ⟨F, ρ, I, p⟩ => p .non H F I.st .non
/-- return x: what is one's own is handed on -/
def rtnV (i : Nat) (ρ : En) : M Fl := match ρ[i]? with
  | some (some w) => .ok (.ret w)
  | _ => .bad
theorem ds_retV (i : Nat) {x : Str} {pos' : Pos} (hN : X.N[i]? = some x := by rfl) (hv : Vis X.env.scope x := by first | exact Or.inl rfl | exact Or.inr (Or.inl rfl) | exact Or.inr (Or.inr rfl)) (hd : (x == ("__debug__" : Str)) = false := by decide)
    (hcd : (x == ("__classdict__" : Str)) = false := by decide) : DS X c Wx (.Return (some (.Name x pos')) pos) (rtnV i) :=
  PS.imp (ps_ret (pe_var hN hv hd hcd)) fun D σ H ⟨F, ρ, I, p⟩ => by
    unfold rtnV at p
    split at p
    · rename_i w e
      obtain ⟨v, h1, h2⟩ := I.slot i _ e
      exact ⟨v, h1, p v H F I.st h2⟩
    · exact False.elim p
def exs (m : List Nat) (f : En → M Wv) (ρ : En) : M Fl := f (frz m ρ) >>= fun _ => .ok (.nx ρ)
theorem ds_exp (m : List Nat) (he : DE X c Wx e f) (hs : swapsWith e none pos.line X.env = pure false := by rfl) : DS X c Wx (.Expr e pos) (exs m f) :=
  PS.imp (ps_expr he hs) fun D σ H ⟨F, ρ, I, p⟩ => ev_st (m := m) I p fun w v Fp H1 F1 mo J s r q => q σ H1 _ (I.back mo s).1 (I.back mo s).2.1
def ifs (m : List Nat) (t : En → M Bool) (g g' : En → M Fl) (ρ : En) : M Fl := t (frz m ρ) >>= fun b => if b = true then g ρ else g' ρ
theorem ds_if (m : List Nat) {t : En → M Bool} {a b : List Stmt} (ht : DT X c Wx e t) (ha : DSs X c Wx a g) (hb : DSs X c Wx b g') : DS X c Wx (.If e a b pos) (ifs m t g g') :=
  PS.imp (ps_if ht ha hb) fun D σ H ⟨F, ρ, I, p⟩ => et_st (m := m) I p fun k H1 F1 I1 m1 q => by
    cases k with
    | true => rw [if_pos rfl] at q ⊢; exact ⟨F1, ρ, I1, M.post_mono q (fun fl z => z.older m1) fun _ z => z⟩
    | false => rw [if_neg Bool.false_ne_true] at q ⊢; exact ⟨F1, ρ, I1, M.post_mono q (fun fl z => z.older m1) fun _ z => z⟩
theorem ds_pass : DS X c Wx (.Pass pos) skip := PS.imp ps_pass fun D σ H ⟨F, ρ, I, p⟩ => p σ H F I (Same.refl F)
def brkS (ρ : En) : M Fl := .ok (.brk ρ)
def contS (ρ : En) : M Fl := .ok (.cont ρ)
theorem ds_brk : DS X c Wx (.Break pos) brkS := PS.imp ps_break fun D σ H ⟨F, ρ, I, p⟩ => p σ H F I (Same.refl F)
theorem ds_cont : DS X c Wx (.Continue pos) contS := PS.imp ps_continue fun D σ H ⟨F, ρ, I, p⟩ => p σ H F I (Same.refl F)
def badS (_ : En) : M Fl := .bad
theorem ds_never : DS X c Wx st badS := PS.imp ps_never fun D σ H ⟨F, ρ, I, p⟩ => p
theorem dss_never : DSs X c Wx sts badS := PSs.imp pss_never fun D σ H ⟨F, ρ, I, p⟩ => p
end

/-! ## a list of one's own is changed -/
section
variable {K : PySem.W.Frag} {c : Act} {σ : L2.St} {H F : Hp} {ρ : En}
theorem SR.write {i : Nat} {xs ys : List D} {a : Addr} {us : List V} (I : SR K c σ H F ρ) (e : ρ[i]? = some (some (.own xs))) (g : σ[i]? = some (some (.ref a))) (hs : DRs K F us ys) : SR K c σ (upd H a (.lst us)) F (ρ.set i (some (.own ys))) := by
  obtain ⟨v, hv, b, vs, rfl, ha, hF, h0, _⟩ := I.slot i _ e
  rw [g] at hv
  cases hv
  have hi : i < ρ.length := (List.getElem?_eq_some_iff.mp e).1
  refine ⟨by rw [List.length_set]; exact I.len, ⟨I.st.mono, fun x o q => ?_, I.st.new, fun x o n q => ?_, fun p q z => ?_⟩, I.p0, fun j w q => ?_, fun j k zs ws v n e1 e2 g1 g2 => ?_⟩
  · rw [upd_ne (ne_of_none q hF)]; exact I.le x o q
  · rw [upd_ne (ne_of_none q h0)]; exact I.st.same x o n q
  · obtain ⟨⟨l, y, x, r⟩, f, ns, r2, ne⟩ := I.st.pot p q z
    obtain ⟨⟨l0, y0, x0, r0⟩, f0, ns0, r20, ne0⟩ := I.p0 p q z
    refine ⟨⟨l, y, x, ?_⟩, f, ns, ?_, ne⟩
    · rw [upd_ne (ne_of_none r0 h0)]; exact r
    · rw [upd_ne (ne_of_none r20 h0)]; exact r2
  · by_cases z : j = i
    · subst z
      rw [List.getElem?_set_self hi] at q
      cases q
      exact ⟨_, g, a, us, rfl, upd_same, hF, h0, hs⟩
    · rw [List.getElem?_set_ne (Ne.symm z)] at q
      obtain ⟨u, h1, h2⟩ := I.slot j w q
      refine ⟨u, h1, ?_⟩
      cases w with
      | dat d => exact h2
      | own zs =>
        obtain ⟨b, ws, rfl, hb, r⟩ := h2
        have nb : b ≠ a := fun z2 => by
          subst z2
          exact I.sep j i zs xs _ z q e h1 g
        exact ⟨b, ws, rfl, by rw [upd_ne nb]; exact hb, r⟩
      | raw _ => exact h2
      | pot => exact h2
  · have back : ∀ {l : Nat} {us : List D}, (ρ.set i (some (.own ys)))[l]? = some (some (.own us)) → ∃ us', ρ[l]? = some (some (.own us')) := fun {l us} q => by
      by_cases z : l = i
      · subst z; exact ⟨xs, e⟩
      · rw [List.getElem?_set_ne (Ne.symm z)] at q; exact ⟨us, q⟩
    obtain ⟨z1, f1⟩ := back e1
    obtain ⟨z2, f2⟩ := back e2
    exact I.sep j k z1 z2 v n f1 f2 g1 g2
end
/-- xs.append(e) -/
def ownAt (ρ : En) (i : Nat) : M (List D) := match ρ[i]? with
  | some (some (.own xs)) => .ok xs
  | _ => .bad
def app1 (ρ : En) (i : Nat) (d : D) : M Fl := ownAt ρ i >>= fun xs => small xs.length (.ok (.nx (ρ.set i (some (.own (xs ++ [d]))))))
def app (m : List Nat) (i : Nat) (f : En → M Wv) (ρ : En) : M Fl := ownAt ρ i >>= fun _ => f (frz m ρ) >>= fun w => w.d >>= fun d =>
  app1 (if noL d = true then ρ else frz m ρ) i d
section
variable {X : Cx} {c : Act} {Wx : WX} {st : Stmt} {e : Expr} {f : En → M Wv} {pos : Pos}
theorem ownAt_ok {α : Type} {ρ : En} {i : Nat} {k : List D → M α} {Q : α → Prop} {E : Ex → Prop} (h : (ownAt ρ i >>= k).post Q E) : ∃ xs, ρ[i]? = some (some (.own xs)) ∧ (k xs).post Q E := by
  unfold ownAt at h
  split at h
  · rename_i xs e
    exact ⟨xs, e, h⟩
  · exact False.elim h
theorem d_ok {α : Type} {w : Wv} {k : D → M α} {Q : α → Prop} {E : Ex → Prop} (h : (w.d >>= k).post Q E) : ∃ d, w.d? = some d ∧ (k d).post Q E := by
  cases w with
  | dat d => exact ⟨d, rfl, h⟩
  | own xs => exact ⟨.list xs, rfl, h⟩
  | raw _ => exact False.elim h
  | pot => exact False.elim h
theorem still_of {w : Wv} {d : D} (e : w.d? = some d) (h : noL d = true) : w = .dat d := by
  cases w with
  | dat d' => cases e; rfl
  | own xs => cases e; rw [noL_list] at h; cases h
  | raw _ => cases e
  | pot => cases e
theorem ds_app (m : List Nat) (i : Nat) {x : Str} {p1 apos cpos : Pos} (he : DE X c Wx e f) (hN : X.N[i]? = some x := by rfl) (hv : Vis X.env.scope x := by first | exact Or.inl rfl | exact Or.inr (Or.inl rfl) | exact Or.inr (Or.inr rfl)) (hd : (x == ("__debug__" : Str)) = false := by decide)
    (hcd : (x == ("__classdict__" : Str)) = false := by decide) (hb : attributeBase (.Name x p1) "append" X.env (eval (.Name x p1) X.env) = eval (.Name x p1) X.env := by rfl)
    (hfew : ((backTo cpos (starEach [e] X.env)).all (fun x => !x.1) && (backToKw cpos (keywordEach [] X.env)).all (fun x => x.1.isSome) && decide ([e].length + ([] : List Keyword).length + (if ([] : List Keyword).isEmpty then 0 else 1) < 30)) = true := by rfl)
    (hline : (apos.endLine == cpos.line) = true := by rfl) (hs : starEach [e] X.env = (false, eval e X.env) :: starEach [] X.env := by rfl) (hsw : swapsWith (.Call (.Attribute (.Name x p1) "append" apos) [e] [] cpos) none pos.line X.env = pure false := by rfl) :
    DS X c Wx (.Expr (.Call (.Attribute (.Name x p1) "append" apos) [e] [] cpos) pos) (app m i f) := by
  refine PS.imp (ps_expr (pe_bm PySem.F.plainAttrs_list PySem.F.slot_list_append PySem.F.type_list_append mt_append (pe_var hN hv hd hcd) (pa_cons he pa_nil hs) hb hfew hline hs (by rfl)) hsw) fun D σ H ⟨F, ρ, I, p⟩ => ?_
  obtain ⟨xs0, e0, p⟩ := ownAt_ok p
  obtain ⟨v, hv, a, vs0, rfl, ha0, hF0, h00, hs0⟩ := I.slot i _ e0
  refine ⟨_, hv, .inl ⟨rfl, vs0, SqL.of ha0⟩, ?_⟩
  refine ev_st (m := m) I p fun w u Fp H1 F1 mo J s r q => ?_
  obtain ⟨d, hd, q2⟩ := d_ok q
  have fin : ∀ {ρ' : En} {G : Hp}, SR X.K c σ H1 G ρ' → DR X.K G u d → Same F G → (app1 ρ' i d).post (SF X.K c F D) (SX X.K X.mg c Wx) →
      rAppend (.ref a) [u] H1 fun _ H3 => D.nx σ H3 := fun {ρ' G} L rd sm z => by
    obtain ⟨xs, ex, z⟩ := ownAt_ok z
    obtain ⟨hz, z⟩ := small_ok z
    obtain ⟨v2, hv2, b, vs, e2, ha, hF, h0, hs⟩ := L.slot i _ ex
    rw [hv] at hv2
    cases hv2
    cases e2
    refine ⟨a, vs, u, rfl, rfl, ha, by rw [hs.length]; exact hz, ?_⟩
    exact z σ _ G (L.write ex hv (hs.append (.cons rd .nil))) sm
  by_cases hn : noL d = true
  · rw [if_pos hn] at q2
    obtain ⟨I1, b1, _, _⟩ := I.back mo s
    have ew := still_of hd hn
    subst ew
    exact fin I1 (I.backRes mo s r hn) b1 q2
  · rw [if_neg hn] at q2
    obtain ⟨F2, s2, _, rd⟩ := Res.give (F0 := Fp) r hd J.pot s
    exact fin (J.step s2) rd (mo.1.trans s2.mono) q2
end
end DL

namespace DL
open PySem PySem.Spec PyProof.Rows L2

/-! ## what a loop walks -/
def SrcOk (K : PySem.W.Frag) (pi : Pot) (J : It) (F : Hp) (ds : List D) : Prop := ∀ (i : Nat) (H' F' : Hp), Same F F' → Same F' H' → PotIn pi H' F' →
  (∀ d, ds[i]? = some d → J.go i H' ∧ ∀ x H'', J.yld i H' x H'' → ∃ F'', Step pi H' F' H'' F'' ∧ DR K F'' x d) ∧ (i = ds.length → J.stop i H')
def EvI (K : PySem.W.Frag) (mg : Str → Option Value) (c : Act) (Wx : WX) (src : En → M (List D)) : TI := fun σ H R => ∃ F ρ, SR K c σ H F ρ ∧ Pend K mg c Wx σ H F (src ρ) fun ds H' F' => ∀ J, SrcOk K c.pi J F' ds → R J H'
abbrev DI (X : Cx) (c : Act) (Wx : WX) (tg iter : Expr) (src : En → M (List D)) : Prop := PI X tg iter (EvI X.K X.mg c Wx src)
theorem PI.imp {X : Cx} {tg iter : Expr} {t t' : TI} (h : PI X tg iter t) (hi : ∀ σ H R, t' σ H R → t σ H R) : PI X tg iter t' := ⟨fun pins s σ H R I q => h.run pins s σ H R I (hi _ _ _ q)⟩
theorem PG.imp {X : Cx} {tg : Expr} {t t' : TG} (h : PG X tg t) (hi : ∀ v σ H Q, t' v σ H Q → t v σ H Q) : PG X tg t' := ⟨fun pins s σ H x u Q I r q => h.run pins s σ H x u Q I r (hi _ _ _ _ q)⟩
theorem PTs.imp {X : Cx} {es : List Expr} {t t' : TT} (h : PTs X es t) (hi : ∀ σ H Q, t' σ H Q → t σ H Q) : PTs X es t' := ⟨fun pins s σ H Q I q => h.run pins s σ H Q I (hi _ _ _ q)⟩

/-! ## targets -/
theorem wipe_at {σ : L2.St} {j : Nat} : ∀ {vs : List Nat}, (wipe σ vs)[j]? = if j ∈ vs then (σ[j]?.map fun _ => none) else σ[j]?
  | [] => by simp [wipe]
  | v :: vs => by
    unfold wipe
    rw [List.getElem?_set]
    by_cases h : v = j
    · subst h
      simp only [if_true, wipe_length, List.mem_cons, true_or]
      by_cases q : v < σ.length
      · rw [if_pos q]; simp [List.getElem?_eq_getElem q]
      · rw [if_neg q]; simp [List.getElem?_eq_none (Nat.le_of_not_lt q)]
    · rw [if_neg h, wipe_at (vs := vs)]
      have h' : ¬ j = v := fun e => h e.symm
      simp only [List.mem_cons, h', false_or]
theorem wipe_set {σ : L2.St} {i : Nat} {o : Option V} {vs : List Nat} (h : i ∈ vs) : wipe (σ.set i o) vs = wipe σ vs := by
  apply List.ext_getElem?
  intro j
  rw [wipe_at, wipe_at]
  by_cases q : j ∈ vs
  · rw [if_pos q, if_pos q, List.getElem?_set]
    by_cases e : i = j
    · subst e
      by_cases z : i < σ.length
      · simp [z]
      · simp [z, List.getElem?_eq_none (Nat.le_of_not_lt z)]
    · rw [if_neg e]
  · rw [if_neg q, if_neg q, List.getElem?_set_ne (fun e => q (by rw [← e]; exact h))]
def EvG (K : PySem.W.Frag) (c : Act) (is : List Nat) (b : D → En → Option En) : TG := fun v σ H Q => ∃ F ρ d, SR K c σ H F ρ ∧ DR K F v d ∧
  ∃ ρ', b d ρ = some ρ' ∧ ∀ σ', SR K c σ' H F ρ' → (∀ vs, (∀ i ∈ is, i ∈ vs) → wipe σ' vs = wipe σ vs) → Q σ' H
abbrev DG (X : Cx) (c : Act) (tg : Expr) (is : List Nat) (b : D → En → Option En) : Prop := PG X tg (EvG X.K c is b)
def bN (i : Nat) (d : D) (ρ : En) : Option En := some (ρ.set i (some (.dat d)))
def setL : List Nat → List D → En → En
  | i :: is, d :: ds, ρ => setL is ds (ρ.set i (some (.dat d)))
  | _, _, ρ => ρ
def bT (is : List Nat) (d : D) (ρ : En) : Option En := match d with
  | .tuple ds => if ds.length = is.length then some (setL is ds ρ) else none
  | _ => none
section
variable {X : Cx} {c : Act} {Wx : WX}
theorem SR.setD {K : PySem.W.Frag} {σ : L2.St} {H F : Hp} {ρ : En} {i : Nat} {v : V} {d : D} (I : SR K c σ H F ρ) (h : DR K F v d) : SR K c (σ.set i (some v)) H F (ρ.set i (some (.dat d))) :=
  I.set (w := .dat d) (Hb := H) h (fun a z => I.st.none_of I.p0 z) fun j ys a e1 e2 => I.ownAt e1 e2
theorem dg_name (i : Nat) {x : Str} {pos : Pos} (hN : X.N.Nodup) (hi : X.N[i]? = some x) (hx : Loc X.env.scope x) (hf : X.fn x = true ∨ X.env.scope.names.lookup x = some .local := by first | exact .inl rfl | exact .inr rfl) : DG X c (.Name x pos) [i] (bN i) :=
  PG.imp (pg_name hN hi hx hf) fun v σ H Q ⟨F, ρ, d, I, h, ρ', e, p⟩ => by
    cases e
    exact p _ (I.setD h) fun vs hv => wipe_set (hv i (List.mem_singleton.mpr rfl))
/-- the names of a tuple target -/
inductive DGN (X : Cx) : List Expr → List Nat → TGs → Prop
  | nil : DGN X [] [] gNil
  | cons {x : Str} {pos : Pos} {es : List Expr} {i : Nat} {is : List Nat} {t : TGs} : PG X (.Name x pos) (gName i) → DGN X es is t → DGN X (.Name x pos :: es) (i :: is) (gCons (gName i) t)
theorem DGN.len {es : List Expr} {is : List Nat} {t : TGs} (h : DGN X es is t) : es.length = is.length := by
  induction h with
  | nil => rfl
  | cons _ _ ih => exact congrArg (· + 1) ih
theorem DGN.set {es : List Expr} {is : List Nat} {t : TGs} (h : DGN X es is t) : ∀ {K : PySem.W.Frag} {vs : List V} {ds : List D} {σ : L2.St} {H F : Hp} {ρ : En} {Q : L2.St → Hp → Prop}, SR K c σ H F ρ → DRs K F vs ds → ds.length = is.length →
    (∀ σ', SR K c σ' H F (setL is ds ρ) → (∀ ws, (∀ i ∈ is, i ∈ ws) → wipe σ' ws = wipe σ ws) → Q σ' H) → t vs σ H Q := by
  induction h with
  | nil =>
    intro K vs ds σ H F ρ Q I hd hl hq
    cases ds with
    | nil => cases hd; exact ⟨rfl, hq σ I fun _ _ => rfl⟩
    | cons _ _ => simp at hl
  | cons g t ih =>
    intro K vs ds σ H F ρ Q I hd hl hq
    cases hd with
    | nil => simp at hl
    | cons h1 h2 =>
      refine ⟨_, _, rfl, ?_⟩
      refine ih (I.setD h1) h2 (by simpa using hl) fun σ' J hw => hq σ' J fun ws hws => ?_
      rw [hw ws fun i hi => hws i (List.mem_cons_of_mem _ hi)]
      exact wipe_set (hws _ (List.mem_cons_self ..))
theorem dg_tup {es : List Expr} {is : List Nat} {t : TGs} {k : Nat} {pos : Pos} (hc : X.calm = true) (h : DGN X es is t) (h2 : PGs X es t) (hn : (assignEach es X.env).length = es.length := by rfl) (hst : (assignEach es X.env).findIdx? (·.1) = none := by rfl) : DG X c (.Tuple es k pos) is (bT is) :=
  PG.imp (pg_tup (n := es.length) hc h2 hn hst) fun v σ H Q ⟨F, ρ, d, I, hd, ρ', e, p⟩ => by
    unfold bT at e
    split at e
    · rename_i ds
      split at e
      · rename_i hl
        cases e
        cases hd with
        | tup hs ha => exact ⟨_, _, rfl, sq_mono_t I.le hs, by rw [ha.length, hl, h.len], h.set I ha hl p⟩
      · cases e
    · cases e

/-! ## for -/
def loop (b : D → En → Option En) (g : En → M Fl) : List D → En → M Fl
  | [], ρ => .ok (.nx ρ)
  | d :: ds, ρ => match b d ρ with
    | none => .bad
    | some ρ1 => g ρ1 >>= fun
      | .nx ρ2 => loop b g ds ρ2
      | .cont ρ2 => loop b g ds ρ2
      | .brk ρ2 => .ok (.nx ρ2)
      | .ret w => .ok (.ret w)
def forS (m : List Nat) (src : En → M (List D)) (b : D → En → Option En) (g : En → M Fl) (ρ : En) : M Fl := src (frz m ρ) >>= fun ds => loop b g ds (frz m ρ)
theorem drop_at {α : Type} {xs : List α} {i : Nat} (h : i < xs.length) : ∃ x, xs[i]? = some x ∧ xs.drop i = x :: xs.drop (i + 1) := ⟨xs[i], List.getElem?_eq_getElem h, (List.drop_eq_getElem_cons h)⟩
theorem ds_for (m : List Nat) {tg iter : Expr} {body : List Stmt} {src : En → M (List D)} {is : List Nat} {b : D → En → Option En} {g : En → M Fl} {pos : Pos} (hp : PassesOwn (model X.prog X.w) X.A X.env X.xe) (hc : X.calm = true) (hi : DI X c Wx tg iter src) (hg : DG X c tg is b) (hb : DSs X c Wx body g)
    (hs : ∀ x, foldedSetIterable iter X.env x = pure x := by intro _; rfl) : DS X c Wx (.For tg iter body [] pos) (forS m src b g) :=
  PS.imp (ps_for hp hc hi hg hb hs) fun D σ H ⟨F, ρ, I, p⟩ => by
    obtain ⟨Fp, J, mo⟩ := I.frz m
    refine ⟨Fp, frz m ρ, J, M.post_mono (M.post_bind.mp p) (fun ds q H1 F1 s It hI => ?_) fun e q cls d H1 F1 s x => q cls d σ H1 F1 (J.st.trans J.p0 s) x⟩
    have sF : Same F F1 := mo.1.trans s.mono
    refine ⟨fun i n σ' H' => n = ds.length - i ∧ i ≤ ds.length ∧ ∃ F' ρ', SR X.K c σ' H' F' ρ' ∧ Same F1 F' ∧ (loop b g (ds.drop i) ρ').post (SF X.K c F D) (SX X.K X.mg c Wx), ⟨ds.length, by simp, Nat.zero_le _, F1, frz m ρ, J.step s, Same.refl F1, q⟩, ?_⟩
    rintro i n σ' H' ⟨rfl, hle, F', ρ', I', m', q'⟩
    obtain ⟨hgo, hstop⟩ := hI i H' F' m' I'.le I'.pot
    by_cases hlt : i < ds.length
    · obtain ⟨d, e1, e2⟩ := drop_at hlt
      obtain ⟨go, yl⟩ := hgo d e1
      rw [e2] at q'
      refine .inr ⟨go, fun σ2 H2 => ∃ F2 ρ2, SR X.K c σ2 H2 F2 ρ2 ∧ Same F1 F2 ∧ (loop b g (ds.drop (i + 1)) ρ2).post (SF X.K c F D) (SX X.K X.mg c Wx), fun σ2 H2 ⟨F2, ρ2, I2, m2, q2⟩ => ⟨ds.length - (i + 1), by omega, rfl, hlt, F2, ρ2, I2, m2, q2⟩, fun x H2 y => ?_⟩
      obtain ⟨F2, s2, hd⟩ := yl x H2 y
      have m2 := m'.trans s2.mono
      rw [loop] at q'
      split at q'
      · exact False.elim q'
      · rename_i ρ1 eb
        refine ⟨F2, ρ', d, I'.step s2, hd, ρ1, eb, fun σ3 I3 _ => ⟨F2, ρ1, I3, M.post_mono (M.post_bind.mp q') (fun fl z => ?_) fun _ z => z⟩⟩
        cases fl with
        | nx ρ2 => exact fun σ4 H4 F4 I4 m4 => ⟨F4, ρ2, I4, m2.trans m4, z⟩
        | cont ρ2 => exact fun σ4 H4 F4 I4 m4 => ⟨F4, ρ2, I4, m2.trans m4, z⟩
        | brk ρ2 => exact fun σ4 H4 F4 I4 m4 => z σ4 H4 F4 I4 ((sF.trans m2).trans m4)
        | ret w => exact z
    · have e : i = ds.length := by omega
      rw [e, List.drop_length] at q'
      exact .inl ⟨hstop e, q' σ' H' F' I' (sF.trans m')⟩
end
end DL

namespace DL
open PySem PySem.Spec PyProof.Rows L2

/-! ## comprehensions -/
namespace M
def nox {α : Type} : M α → M α
  | .ok a => .ok a
  | .exc _ => .bad
  | .bad => .bad
  | .pick n k => .pick n fun i => nox (k i)
@[simp] theorem nox_ok {α : Type} (a : α) : nox (M.ok a) = .ok a := rfl
@[simp] theorem nox_exc {α : Type} (e : Ex) : nox (M.exc e : M α) = .bad := rfl
@[simp] theorem nox_bad {α : Type} : nox (M.bad : M α) = .bad := rfl
@[simp] theorem nox_pick {α : Type} (n : Nat) (k : Nat → M α) : nox (M.pick n k) = .pick n fun i => nox (k i) := rfl
theorem post_nox {α : Type} {m : M α} {Q : α → Prop} {E : Ex → Prop} : (nox m).post Q E ↔ m.post Q fun _ => False := by
  induction m with
  | ok a => exact Iff.rfl
  | exc e => exact Iff.rfl
  | bad => exact Iff.rfl
  | pick n k ih => exact forall_congr' fun i => forall_congr' fun _ => ih i
end M
def wipeE (ρ : En) : List Nat → En
  | [] => ρ
  | v :: vs => (wipeE ρ vs).set v none
def lcGo (vs : List Nat) (b : D → En → Option En) (t : En → M Bool) (el : En → M Wv) : List D → En → List D → M (List D)
  | [], _, acc => .ok acc
  | d :: ds, ρ, acc => match b d (wipeE ρ vs) with
    | none => .bad
    | some ρ1 => t ρ1 >>= fun k => if k = true then el ρ1 >>= fun w => w.d >>= fun y => lcGo vs b t el ds ρ (acc ++ [y]) else lcGo vs b t el ds ρ acc
def lc (vs : List Nat) (src : En → M (List D)) (b : D → En → Option En) (t : En → M Bool) (el : En → M Wv) (ρ : En) : M Wv := src ρ >>= fun ds => small ds.length (M.nox (lcGo vs b t el ds ρ []) >>= fun ys => .ok (.own ys))
abbrev Wx0 : WX := fun _ _ _ _ => False
section
variable {K : PySem.W.Frag} {mg : Str → Option Value} {c : Act} {Wx : WX} {σ : L2.St} {H F H' F' : Hp} {ρ : En}
theorem SR.wipe (I : SR K c σ H F ρ) : ∀ vs : List Nat, SR K c (L2.wipe σ vs) H F (wipeE ρ vs)
  | [] => I
  | v :: vs => (SR.wipe I vs).drop v none
theorem lc_post {vs is : List Nat} {src : En → M (List D)} {b : D → En → Option En} {t : En → M Bool} {el : En → M Wv} (hv : ∀ i ∈ is, i ∈ vs) : ∀ σ H Q, Ev K mg c Wx (lc vs src b t el) σ H Q →
    tLc (EvI K mg c Wx src) (EvG K c is b) (EvT K mg c Wx0 t) (Ev K mg c Wx0 el) vs σ H Q := fun σ H Q ⟨F, ρ, I, p⟩ => by
  refine ⟨F, ρ, I, M.post_mono p.bind (fun ds q H1 F1 s J hJ Dn hDn => ?_) fun e q => q⟩
  obtain ⟨hz, q⟩ := small_ok q
  have I1 := I.step s
  have sD := Step.layH (o := .lst []) I1.le I1.pot hDn
  have F1D : F1 Dn = none := by
    cases z : F1 Dn with
    | none => rfl
    | some o =>
      have := I1.le Dn o z
      rw [hDn] at this
      cases this
  have q0 := M.post_nox.mp (M.post_bind.mp q)
  refine ⟨fun i n H' => n = ds.length - i ∧ i ≤ ds.length ∧ ∃ F' acc ys, Step c.pi H1 F1 H' F' ∧ H' Dn = some (.lst acc) ∧ F' Dn = none ∧ DRs K F' acc ys ∧ ys.length ≤ i ∧
    (lcGo vs b t el (ds.drop i) ρ ys).post (fun zs => ∀ v H2 F2, Step c.pi H1 F1 H2 F2 → Res K c.pi H H2 F2 v (.own zs) → Q v H2) (fun _ => False),
    ⟨ds.length, by simp, Nat.zero_le _, F1, [], [], sD, upd_same, F1D, .nil, Nat.le_refl _, M.post_mono q0 (fun zs h v H2 F2 s2 r => h H2 F2 (s.trans I.pot s2) v r) fun _ z => z.elim⟩, ?_⟩
  rintro i n H' ⟨rfl, hle, F', acc, ys, s', hD', FD', hr, hl, g⟩
  have I' := I1.step s'
  have npD : notPot c.pi Dn := new_notPot I1.pot hDn
  obtain ⟨hgo, hstop⟩ := hJ i H' F' s'.mono I'.le I'.pot
  by_cases hlt : i < ds.length
  · obtain ⟨d, e1, e2⟩ := drop_at hlt
    obtain ⟨go, yl⟩ := hgo d e1
    rw [e2, lcGo] at g
    -- what a turn is to reach
    refine .inr ⟨go, fun H2 => ∃ F2 acc2 ys2, Step c.pi H1 F1 H2 F2 ∧ H2 Dn = some (.lst acc2) ∧ F2 Dn = none ∧ DRs K F2 acc2 ys2 ∧ ys2.length ≤ i + 1 ∧
      (lcGo vs b t el (ds.drop (i + 1)) ρ ys2).post (fun zs => ∀ v H3 F3, Step c.pi H1 F1 H3 F3 → Res K c.pi H H3 F3 v (.own zs) → Q v H3) (fun _ => False),
      fun H2 ⟨F2, acc2, ys2, r⟩ => ⟨ds.length - (i + 1), by omega, rfl, hlt, F2, acc2, ys2, r⟩, fun x H2 y => ?_⟩
    obtain ⟨F2, s2, hd⟩ := yl x H2 y
    have keepD : ∀ {Ha Fa Hb Fb : Hp}, Step c.pi Ha Fa Hb Fb → Ha Dn = some (.lst acc) → Fa Dn = none → Hb Dn = some (.lst acc) ∧ Fb Dn = none := fun {Ha Fa Hb Fb} st h1 h2 => by
      refine ⟨st.same Dn _ npD h1, ?_⟩
      cases z : Fb Dn with
      | none => rfl
      | some o =>
        rcases st.new Dn o z with w | w
        · rw [h2] at w; cases w
        · rw [h1] at w; cases w
    obtain ⟨hD2, FD2⟩ := keepD s2 hD' FD'
    split at g
    · exact g.elim
    · rename_i ρ1 eb
      have Iw : SR K c (L2.wipe σ vs) H2 F2 (wipeE ρ vs) := (I'.step s2).wipe vs
      refine ⟨F2, wipeE ρ vs, d, Iw, hd, ρ1, eb, fun σ3 I3 hw => ⟨?_, F2, ρ1, I3, M.post_mono (M.post_bind.mp g) (fun k q H3 F3 s3 => ?_) fun _ z => z.elim⟩⟩
      · have e3 : L2.wipe (L2.wipe σ vs) vs = L2.wipe σ vs := by
          apply List.ext_getElem?
          intro j
          rw [wipe_at, wipe_at]
          by_cases q : j ∈ vs
          · rw [if_pos q, if_pos q]; cases σ[j]? <;> rfl
          · rw [if_neg q, if_neg q]
        rw [hw vs hv, e3]
      · have s23 := (s'.trans I1.pot s2).trans I1.pot s3
        obtain ⟨hD3, FD3⟩ := keepD s3 hD2 FD2
        have m3 : Same F' F3 := s2.mono.trans s3.mono
        cases k with
        | false =>
          rw [if_neg Bool.false_ne_true] at q
          exact iteF ⟨F3, acc, ys, s23, hD3, FD3, hr.mono m3, by omega, q⟩
        | true =>
          rw [if_pos rfl] at q
          refine iteT ⟨F3, ρ1, I3.step s3, M.post_mono (M.post_bind.mp q) (fun w q H4 F4 s4 v rv => ?_) fun _ z => z.elim⟩
          obtain ⟨yd, ey, q⟩ := d_ok q
          obtain ⟨F5, s5, m5, rd⟩ := Res.give (F0 := F3) rv ey (I3.step s3).pot s4
          obtain ⟨hD4, FD4⟩ := keepD s5 hD3 FD3
          have s25 := s23.trans I1.pot s5
          refine ⟨acc, hD4, by rw [hr.length]; omega, F5, acc ++ [v], ys ++ [yd], ?_, upd_same, FD4, (hr.mono (m3.trans s5.mono)).append (.cons rd .nil), by simp; omega, q⟩
          · refine ⟨s25.mono, fun a o e => ?_, s25.new, fun a o na e => ?_, fun p q e => ?_⟩
            · rw [upd_ne (ne_of_none e FD4)]; exact s25.le a o e
            · rw [upd_ne (ne_of_none e hDn)]; exact s25.same a o na e
            · obtain ⟨⟨i1, i2, i3, r1⟩, f, ns, r2, ne⟩ := s25.pot p q e
              obtain ⟨⟨j1, j2, j3, r10⟩, f0, ns0, r20, ne0⟩ := I1.pot p q e
              exact ⟨⟨i1, i2, i3, by rw [upd_ne (ne_of_none r10 hDn)]; exact r1⟩, f, ns, by rw [upd_ne (ne_of_none r20 hDn)]; exact r2, ne⟩
  · have e : i = ds.length := by omega
    rw [e, List.drop_length] at g
    have h0 : H Dn = none := s.none_of I.pot hDn
    exact .inl ⟨hstop e, g (.ref Dn) H' F' s' ⟨Dn, acc, rfl, hD', FD', h0, hr⟩⟩
end
end DL

namespace DL
open PySem PySem.Spec PyProof.Rows L2
section
variable {X : Cx} {c : Act} {Wx : WX}
abbrev Bk (X : Cx) (scope : Scope) (s : Shared) (H : Hp) (C : Addr) (cl : List (Str × Addr)) (fp : List Addr) : Cx := X.blk s H scope (compEnvC scope cl C X.env) fp
def tYes (_ : En) : M Bool := .ok true
abbrev DTs (X : Cx) (c : Act) (Wx : WX) (es : List Expr) (f : En → M Bool) : Prop := PTs X es (EvT X.K X.mg c Wx f)
theorem dts_nil : DTs X c Wx [] tYes := PTs.imp pts_nil fun σ H Q ⟨F, ρ, I, p⟩ => p H F (step_refl I)
theorem dts_one {e : Expr} {t : En → M Bool} (h : DT X c Wx e t) : DTs X c Wx [e] t := pts_one h
theorem de_lc {elt tg iter : Expr} {ifs : List Expr} {scope : Scope} {own : List (Str × Nat)} {pos : Pos} {src : En → M (List D)} {is : List Nat} {b : D → En → Option En} {t : En → M Bool} {el : En → M Wv} (hc : X.calm = true) (hN : X.N.Nodup) (ok : BlkOk X.N X.env.scope scope own) (hi : DI X c Wx tg iter src)
    (hg : ∀ s H C cl fp, DG (Bk X scope s H C cl fp) c tg is b) (ht : ∀ s H C cl fp, DTs (Bk X scope s H C cl fp) c Wx0 ifs t) (he : ∀ s H C cl fp, DE (Bk X scope s H C cl fp) c Wx0 elt el) (hv : ∀ i ∈ is, i ∈ own.map (·.2) := by decide)
    (hs : ∀ x, foldedSetIterable iter X.env x = pure x := by intro _; rfl) : DE X c Wx (.ListComp elt [⟨tg, iter, ifs, 0⟩] scope pos) (lc (own.map (·.2)) src b t el) :=
  PE.imp (pe_lc hc hN hi ok hg ht he hs) (lc_post hv)
theorem ds_asgLc (m : List Nat) (i : Nat) {y : Str} {py : Pos} {elt tg iter : Expr} {ifs : List Expr} {scope : Scope} {own : List (Str × Nat)} {pos spos : Pos} {src : En → M (List D)} {is : List Nat} {b : D → En → Option En} {t : En → M Bool} {el : En → M Wv} (hc : X.calm = true) (hN : X.N.Nodup) (hy : X.N[i]? = some y) (hyl : X.env.scope.names.lookup y = some .local)
    (hsw : swapsWith (.ListComp elt [⟨tg, iter, ifs, 0⟩] scope pos) (some (.Name y py)) spos.line X.env = pure true) (ok : BlkOk X.N X.env.scope scope own) (hi : DI X c Wx tg iter src)
    (hg : ∀ s H C cl fp, DG (Bk X scope s H C cl fp) c tg is b) (ht : ∀ s H C cl fp, DTs (Bk X scope s H C cl fp) c Wx0 ifs t) (he : ∀ s H C cl fp, DE (Bk X scope s H C cl fp) c Wx0 elt el) (hv : ∀ i ∈ is, i ∈ own.map (·.2) := by decide)
    (hs : ∀ x, foldedSetIterable iter X.env x = pure x := by intro _; rfl) : DS X c Wx (.Assign [.Name y py] (.ListComp elt [⟨tg, iter, ifs, 0⟩] scope pos) spos) (asg m i (lc (own.map (·.2)) src b t el)) :=
  PS.imp (ps_setLc hc hN hy hyl hsw hi ok hg ht he hs) fun D σ H h => lc_post hv σ H _ (asg_post σ H h)
end

/-! ## two fors -/
def isOwn : Option Wv → Bool
  | some (.own _) => true
  | _ => false
def dropO (ρ : En) : En := ρ.map fun o => if isOwn o = true then none else o
def noOwn (ρ : En) : Prop := ∀ o ∈ ρ, isOwn o = false
theorem noOwn_dropO (ρ : En) : noOwn (dropO ρ) := fun o h => by
  obtain ⟨x, _, rfl⟩ := List.mem_map.mp h
  by_cases q : isOwn x = true
  · rw [if_pos q]; rfl
  · rw [if_neg q]; simpa using q
theorem noOwn.set {ρ : En} (h : noOwn ρ) (i : Nat) {o : Option Wv} (ho : isOwn o = false) : noOwn (ρ.set i o) := fun x hx => by
  rcases List.mem_or_eq_of_mem_set hx with q | q
  · exact h x q
  · rw [q]; exact ho
theorem noOwn.wipe {ρ : En} (h : noOwn ρ) : ∀ vs : List Nat, noOwn (wipeE ρ vs)
  | [] => h
  | v :: vs => (noOwn.wipe h vs).set v rfl
theorem noOwn.setL : ∀ {is : List Nat} {ds : List D} {ρ : En}, noOwn ρ → noOwn (setL is ds ρ)
  | [], _, _, h => h
  | _ :: _, [], _, h => h
  | i :: is, d :: ds, ρ, h => noOwn.setL (is := is) (ds := ds) (ρ := ρ.set i (some (.dat d))) (noOwn.set h i (o := some (.dat d)) rfl)
def Binder (b : D → En → Option En) : Prop := ∀ d ρ ρ', noOwn ρ → b d ρ = some ρ' → noOwn ρ'
theorem binder_N (i : Nat) : Binder (bN i) := fun d ρ ρ' h e => by
  cases e
  exact h.set i rfl
theorem binder_T (is : List Nat) : Binder (bT is) := fun d ρ ρ' h e => by
  unfold bT at e
  split at e
  · split at e
    · cases e; exact h.setL
    · cases e
  · cases e
theorem SR.dropO {K : PySem.W.Frag} {c : Act} {σ : L2.St} {H F : Hp} {ρ : En} (I : SR K c σ H F ρ) : SR K c σ H F (dropO ρ) where
  len := by unfold DL.dropO; rw [List.length_map]; exact I.len
  st := I.st
  p0 := I.p0
  slot := fun i w e => by
    unfold DL.dropO at e
    rw [List.getElem?_map] at e
    cases q : ρ[i]? with
    | none => rw [q] at e; cases e
    | some o =>
      rw [q] at e
      simp only [Option.map_some, Option.some.injEq] at e
      split at e
      · cases e
      · subst e; exact I.slot i w q
  sep := fun i j xs ys v n e => by
    have h := noOwn_dropO ρ _ (List.mem_of_getElem? e)
    cases h
theorem SR.stay {K : PySem.W.Frag} {c : Act} {σ : L2.St} {H F H' F' : Hp} {ρ : En} (I : SR K c σ H F ρ) (n : noOwn ρ) (m : Same F F') (s : Step c.pi c.H0 c.F0 H' F') : SR K c σ H' F' ρ where
  len := I.len
  st := s
  p0 := I.p0
  slot := fun i w e => by
    obtain ⟨v, h1, h2⟩ := I.slot i w e
    refine ⟨v, h1, ?_⟩
    cases w with
    | dat d => exact DR.mono m h2
    | own xs => cases n _ (List.mem_of_getElem? e)
    | raw _ => exact h2
    | pot => exact h2
  sep := fun i j xs ys v _ e => by cases n _ (List.mem_of_getElem? e)
def lcIn (vs1 : List Nat) (b1 : D → En → Option En) (t1 : En → M Bool) (el : En → M Wv) : List D → En → List D → M (List D)
  | [], _, acc => .ok acc
  | d :: ds, ρ, acc => match b1 d (wipeE ρ vs1) with
    | none => .bad
    | some ρ1 => t1 ρ1 >>= fun k => if k = true then el ρ1 >>= fun w => w.d >>= fun y => small acc.length (lcIn vs1 b1 t1 el ds ρ (acc ++ [y])) else lcIn vs1 b1 t1 el ds ρ acc
def lcOut (vs : List Nat) (b : D → En → Option En) (t : En → M Bool) (src1 : En → M (List D)) (vs1 : List Nat) (b1 : D → En → Option En) (t1 : En → M Bool) (el : En → M Wv) : List D → En → List D → M (List D)
  | [], _, acc => .ok acc
  | d :: ds, ρ, acc => match b d (wipeE ρ vs) with
    | none => .bad
    | some ρ1 => t ρ1 >>= fun k => if k = true then src1 ρ1 >>= fun es => lcIn vs1 b1 t1 el es ρ1 acc >>= fun acc' => lcOut vs b t src1 vs1 b1 t1 el ds ρ acc' else lcOut vs b t src1 vs1 b1 t1 el ds ρ acc
def lc2 (vs : List Nat) (src : En → M (List D)) (b : D → En → Option En) (t : En → M Bool) (src1 : En → M (List D)) (vs1 : List Nat) (b1 : D → En → Option En) (t1 : En → M Bool) (el : En → M Wv) (ρ : En) : M Wv := src ρ >>= fun ds => M.nox (lcOut vs b t src1 vs1 b1 t1 el ds (dropO ρ) []) >>= fun ys => .ok (.own ys)
structure Acc (K : PySem.W.Frag) (pi : Pot) (H1 F1 : Hp) (Dn : Addr) (H F : Hp) (acc : List V) (ys : List D) : Prop where
  st : Step pi H1 F1 H F
  at_ : H Dn = some (.lst acc)
  fr : F Dn = none
  it : DRs K F acc ys
section
variable {K : PySem.W.Frag} {mg : Str → Option Value} {pi : Pot} {c : Act} {Wx : WX} {σ : L2.St} {H F H' F' H1 F1 : Hp} {ρ : En} {Dn : Addr} {acc : List V} {ys : List D}
theorem Acc.step (a : Acc K pi H1 F1 Dn H F acc ys) (p1 : PotIn pi H1 F1) (hD : H1 Dn = none) (s : Step pi H F H' F') : Acc K pi H1 F1 Dn H' F' acc ys := by
  refine ⟨a.st.trans p1 s, s.same Dn _ (new_notPot p1 hD) a.at_, ?_, a.it.mono s.mono⟩
  cases z : F' Dn with
  | none => rfl
  | some o =>
    rcases s.new Dn o z with w | w
    · rw [a.fr] at w; cases w
    · rw [a.at_] at w; cases w
theorem Acc.push {v : V} {y : D} (a : Acc K pi H1 F1 Dn H F acc ys) (p1 : PotIn pi H1 F1) (hD : H1 Dn = none) (r : DR K F v y) : Acc K pi H1 F1 Dn (upd H Dn (.lst (acc ++ [v]))) F (acc ++ [v]) (ys ++ [y]) := by
  refine ⟨⟨a.st.mono, fun x o e => ?_, a.st.new, fun x o n e => ?_, fun p q e => ?_⟩, upd_same, a.fr, a.it.append (.cons r .nil)⟩
  · rw [upd_ne (ne_of_none e a.fr)]; exact a.st.le x o e
  · rw [upd_ne (ne_of_none e hD)]; exact a.st.same x o n e
  · obtain ⟨⟨i1, i2, i3, r1⟩, f, ns, r2, ne⟩ := a.st.pot p q e
    obtain ⟨⟨j1, j2, j3, r10⟩, f0, ns0, r20, ne0⟩ := p1 p q e
    exact ⟨⟨i1, i2, i3, by rw [upd_ne (ne_of_none r10 hD)]; exact r1⟩, f, ns, by rw [upd_ne (ne_of_none r20 hD)]; exact r2, ne⟩
theorem wipe_wipe {σ : L2.St} {vs : List Nat} : L2.wipe (L2.wipe σ vs) vs = L2.wipe σ vs := by
  apply List.ext_getElem?
  intro j
  rw [wipe_at, wipe_at]
  by_cases q : j ∈ vs
  · rw [if_pos q, if_pos q]; cases σ[j]? <;> rfl
  · rw [if_neg q, if_neg q]
theorem lc2_post {vs is vs1 is1 : List Nat} {src src1 : En → M (List D)} {b b1 : D → En → Option En} {t t1 : En → M Bool} {el : En → M Wv} (hv : ∀ i ∈ is, i ∈ vs) (hv1 : ∀ i ∈ is1, i ∈ vs1) (hb : Binder b) (hb1 : Binder b1) : ∀ σ H Q, Ev K mg c Wx (lc2 vs src b t src1 vs1 b1 t1 el) σ H Q →
    tLc2 (EvI K mg c Wx src) (EvG K c is b) (EvT K mg c Wx0 t) (EvI K mg c Wx0 src1) (EvG K c is1 b1) (EvT K mg c Wx0 t1) (Ev K mg c Wx0 el) vs vs1 σ H Q := fun σ H Q ⟨F, ρ, I, p⟩ => by
  refine ⟨F, ρ, I, M.post_mono p.bind (fun ds q H1 F1 s J hJ Dn hDn => ?_) fun e q => q⟩
  have I1 := (I.step s).dropO
  have n1 := noOwn_dropO ρ
  have sD := Step.layH (o := .lst []) I1.le I1.pot hDn
  have F1D : F1 Dn = none := by
    cases z : F1 Dn with
    | none => rfl
    | some o =>
      have := I1.le Dn o z
      rw [hDn] at this
      cases this
  have q0 := M.post_nox.mp (M.post_bind.mp q)
  have toTop : ∀ {Hx Fx : Hp} {ac : List V} {zs : List D}, Acc K c.pi H1 F1 Dn Hx Fx ac zs → Step c.pi c.H0 c.F0 Hx Fx := fun A => I1.st.trans I1.p0 A.st
  let G : List D → Prop := fun zs => ∀ v H2 F2, Step c.pi H1 F1 H2 F2 → Res K c.pi H H2 F2 v (.own zs) → Q v H2
  refine ⟨fun i n H' => n = ds.length - i ∧ i ≤ ds.length ∧ ∃ F' acc ys, Acc K c.pi H1 F1 Dn H' F' acc ys ∧ (lcOut vs b t src1 vs1 b1 t1 el (ds.drop i) (DL.dropO ρ) ys).post G fun _ => False,
    ⟨ds.length, by simp, Nat.zero_le _, F1, [], [], ⟨sD, upd_same, F1D, .nil⟩, M.post_mono q0 (fun zs h v H2 F2 s2 r => h H2 F2 (s.trans I.pot s2) v r) fun _ z => z.elim⟩, ?_⟩
  rintro i n H' ⟨rfl, hle, F', acc, ys, A, g⟩
  have I' := I1.step A.st
  obtain ⟨hgo, hstop⟩ := hJ i H' F' A.st.mono I'.le I'.pot
  by_cases hlt : i < ds.length
  · obtain ⟨d, e1, e2⟩ := drop_at hlt
    obtain ⟨go, yl⟩ := hgo d e1
    rw [e2, lcOut] at g
    refine .inr ⟨go, fun H2 => ∃ F2 acc2 ys2, Acc K c.pi H1 F1 Dn H2 F2 acc2 ys2 ∧ (lcOut vs b t src1 vs1 b1 t1 el (ds.drop (i + 1)) (DL.dropO ρ) ys2).post G fun _ => False,
      fun H2 ⟨F2, acc2, ys2, r⟩ => ⟨ds.length - (i + 1), by omega, rfl, hlt, F2, acc2, ys2, r⟩, fun x H2 y => ?_⟩
    obtain ⟨F2, s2, hd⟩ := yl x H2 y
    have A2 := A.step I1.pot hDn s2
    split at g
    · exact g.elim
    · rename_i ρ1 eb
      have nr1 := hb _ _ _ (n1.wipe vs) eb
      refine ⟨F2, wipeE (DL.dropO ρ) vs, d, (I'.step s2).wipe vs, hd, ρ1, eb, fun σ3 I3 hw => ⟨by rw [hw vs hv, wipe_wipe], F2, ρ1, I3, M.post_mono (M.post_bind.mp g) (fun k q H3 F3 s3 => ?_) fun _ z => z.elim⟩⟩
      have A3 := A2.step I1.pot hDn s3
      have I4 := I3.step s3
      cases k with
      | false =>
        rw [if_neg Bool.false_ne_true] at q
        exact iteF ⟨F3, acc, ys, A3, q⟩
      | true =>
        rw [if_pos rfl] at q
        refine iteT ⟨F3, ρ1, I4, M.post_mono (M.post_bind.mp q) (fun es q H4 F4 s4 J1 hJ1 => ?_) fun _ z => z.elim⟩
        have A4 := A3.step I1.pot hDn s4
        have I5 := I4.step s4
        let G1 : List D → Prop := fun acc' => (lcOut vs b t src1 vs1 b1 t1 el (ds.drop (i + 1)) (DL.dropO ρ) acc').post G fun _ => False
        refine ⟨fun j n H' => n = es.length - j ∧ j ≤ es.length ∧ ∃ F' acc ys, Acc K c.pi H1 F1 Dn H' F' acc ys ∧ Same F4 F' ∧ (lcIn vs1 b1 t1 el (es.drop j) ρ1 ys).post G1 fun _ => False,
          ⟨es.length, by simp, Nat.zero_le _, F4, acc, ys, A4, Same.refl F4, M.post_bind.mp q⟩, ?_⟩
        rintro j n Hj ⟨rfl, hlj, Fj, acj, ysj, Aj, mj, gj⟩
        have Ij := I5.stay nr1 mj (toTop Aj)
        obtain ⟨hgo1, hstop1⟩ := hJ1 j Hj Fj mj Ij.le Ij.pot
        by_cases hltj : j < es.length
        · obtain ⟨dj, f1, f2⟩ := drop_at hltj
          obtain ⟨go1, yl1⟩ := hgo1 dj f1
          rw [f2, lcIn] at gj
          refine .inr ⟨go1, fun H2 => ∃ F2 acc2 ys2, Acc K c.pi H1 F1 Dn H2 F2 acc2 ys2 ∧ Same F4 F2 ∧ (lcIn vs1 b1 t1 el (es.drop (j + 1)) ρ1 ys2).post G1 fun _ => False,
            fun H2 ⟨F2, acc2, ys2, r⟩ => ⟨es.length - (j + 1), by omega, rfl, hltj, F2, acc2, ys2, r⟩, fun x5 H5 y5 => ?_⟩
          obtain ⟨F5, s5, hd5⟩ := yl1 x5 H5 y5
          have A5 := Aj.step I1.pot hDn s5
          split at gj
          · exact gj.elim
          · rename_i ρ2 eb2
            refine ⟨F5, wipeE ρ1 vs1, dj, (Ij.step s5).wipe vs1, hd5, ρ2, eb2, fun σ6 I6 hw6 => ⟨by rw [hw6 vs1 hv1, wipe_wipe], F5, ρ2, I6, M.post_mono (M.post_bind.mp gj) (fun k6 q6 H6 F6 s6 => ?_) fun _ z => z.elim⟩⟩
            have A6 := A5.step I1.pot hDn s6
            have m6 : Same F4 F6 := (mj.trans s5.mono).trans s6.mono
            cases k6 with
            | false =>
              rw [if_neg Bool.false_ne_true] at q6
              exact iteF ⟨F6, acj, ysj, A6, m6, q6⟩
            | true =>
              rw [if_pos rfl] at q6
              refine iteT ⟨F6, ρ2, I6.step s6, M.post_mono (M.post_bind.mp q6) (fun w q7 H7 F7 s7 v rv => ?_) fun _ z => z.elim⟩
              obtain ⟨yd, ey, q7⟩ := d_ok q7
              obtain ⟨hz, q7⟩ := small_ok q7
              obtain ⟨F8, s8, m8, rd⟩ := Res.give (F0 := F6) rv ey (I6.step s6).pot s7
              have A8 := A6.step I1.pot hDn s8
              exact ⟨acj, A8.at_, by rw [A8.it.length]; exact hz, F8, acj ++ [v], ysj ++ [yd], A8.push I1.pot hDn rd, m6.trans s8.mono, q7⟩
        · have e : j = es.length := by omega
          rw [e, List.drop_length] at gj
          exact .inl ⟨hstop1 e, Fj, acj, ysj, Aj, gj⟩
  · have e : i = ds.length := by omega
    rw [e, List.drop_length] at g
    exact .inl ⟨hstop e, g (.ref Dn) H' F' A.st ⟨Dn, acc, rfl, A.at_, A.fr, s.none_of I.pot hDn, A.it⟩⟩
end
section
variable {X : Cx} {c : Act} {Wx : WX}
theorem de_lc2 {elt tg iter tg1 iter1 : Expr} {ifs ifs1 : List Expr} {scope : Scope} {own : List (Str × Nat)} {pos : Pos} {src src1 : En → M (List D)} {is is1 : List Nat} {b b1 : D → En → Option En} {t t1 : En → M Bool} {el : En → M Wv} (hc : X.calm = true) (hN : X.N.Nodup) (ok : BlkOk X.N X.env.scope scope own)
    (vs1 : List Nat) (hv1' : ∀ i ∈ vs1, i ∈ own.map (·.2)) (hi : DI X c Wx tg iter src) (hg : ∀ s H C cl fp, DG (Bk X scope s H C cl fp) c tg is b) (ht : ∀ s H C cl fp, DTs (Bk X scope s H C cl fp) c Wx0 ifs t)
    (hi1 : ∀ s H C cl fp, DI (Bk X scope s H C cl fp) c Wx0 tg1 iter1 src1) (hg1 : ∀ s H C cl fp, DG (Bk X scope s H C cl fp) c tg1 is1 b1) (ht1 : ∀ s H C cl fp, DTs (Bk X scope s H C cl fp) c Wx0 ifs1 t1) (he : ∀ s H C cl fp, DE (Bk X scope s H C cl fp) c Wx0 elt el)
    (hb : Binder b) (hb1 : Binder b1) (hv : ∀ i ∈ is, i ∈ own.map (·.2) := by decide) (hv1 : ∀ i ∈ is1, i ∈ vs1 := by decide)
    (hs : ∀ x, foldedSetIterable iter X.env x = pure x := by intro _; rfl) (hs1 : ∀ env x, foldedSetIterable iter1 env x = pure x := by intro _ _; rfl) :
    DE X c Wx (.ListComp elt [⟨tg, iter, ifs, 0⟩, ⟨tg1, iter1, ifs1, 0⟩] scope pos) (lc2 (own.map (·.2)) src b t src1 vs1 b1 t1 el) :=
  PE.imp (pe_lc2 hc hN hi ok hv1' hg ht hi1 hg1 ht1 he hs hs1) (lc2_post hv hv1 hb hb1)
end
end DL

namespace DL
open PySem PySem.Spec PyProof.Rows L2

/-! ## a def's promise, where nothing is being shown -/
structure FnG (P : Program) (w : World) (K : PySem.W.Frag) (mg : Str → Option Value) (base : Heap) (k : Nat) (f : Addr) (fd : FuncData) (ps : List Str) (sp : Sp) : Prop where
  len : ∀ vs H Q E, sp vs H Q E → vs.length = ps.length
  run : ∀ (A : Around) (out : List Env) (s : Shared) (H : Hp) (args : Args) (us : List Value) (vs : List V) (Q : VK) (E : XK), Room k A → A.guards = some [] → Env0 P w K mg base A out s H → BindsTo s fd args (ps.zip us) → Vals vs us → sp vs H Q E →
    codeAny (model P w) A (.call (.ref f) args) (CR (L2.CX P w) out P w H s Q E) s
section
variable {P : Program} {w : World} {K : PySem.W.Frag} {mg : Str → Option Value} {base : Heap} {k : Nat} {f : Addr} {fd : FuncData} {ps : List Str} {sp : Sp}
theorem FnG.of (F : FnOk P w K mg base (L2.CX P w) k f fd ps sp) : FnG P w K mg base k f fd ps sp := ⟨F.len, fun A out s H args us vs Q E hr _ => F.run A out s H args us vs Q E hr⟩
theorem FnG.up {j : Nat} (F : FnG P w K mg base j f fd ps sp) (h : j ≤ k) : FnG P w K mg base k f fd ps sp := ⟨F.len, fun A out s H args us vs Q E hr => F.run A out s H args us vs Q E (hr.mono h)⟩
end
/-- a def by its body, with what stands around told -/
theorem fnG_of {P : Program} {w : World} {K : PySem.W.Frag} {mg : Str → Option Value} {base : Heap} {k : Nat} {x qual : Str} {st : Stmt} {f : Addr} {fd : FuncData} {N ps : List Str} {sp : Sp} (Fx : Fun K x qual st f fd) (S : FnScope N ps (defScope st))
    (len : ∀ vs H Q E, sp vs H Q E → vs.length = ps.length)
    (body : ∀ (cd : Value) (A : Around) (out : List Env) (s : Shared) (H : Hp) (vs : List V) (Q : VK) (E : XK), Room k (A.deeper (envOfC qual (defScope st) s.heap.objs.size f cd)) → A.guards = some [] → sp vs H Q E →
      ∃ t, PSs (cxOf (L2.CX P w) P w K mg base N qual (defScope st) f cd A out s H E) (defBody st) t ∧ t { nx := fun _ H' => Q .non H', rt := Q } (L2.start N vs) H) : FnG P w K mg base (k + 1) f fd ps sp := by
  obtain ⟨oc, od, kV, doc, pm, an, cd, ct, osl, rfl, lk, hcd⟩ := Fx.ex
  refine ⟨len, fun A out s H args us vs Q E room guard e0 bound rel want => ?_⟩
  have nvs := len _ _ _ _ want
  have inK : K.In s.heap := e0.mod.kin.keeps fun b o e => (e0.bs b o e).1
  have nolim : s.heap.NoLimit := e0.mod.nolimit.keeps fun b o e => (e0.bs b o e).1
  have kinds : ∀ y ∈ ps.zip us, (defScope st).names.lookup y.1 = some .local ∨ ((defScope st).names.lookup y.1 = some .cell ∧ ((cellsFrom (s.heap.objs.size + 1) (defScope st).names []).lookup y.1).isSome = true) := by
    rintro ⟨n, v⟩ hy
    exact (S.par n (List.of_mem_zip hy).1).imp id fun q => ⟨q, PySem.W.cellsFrom_some _ _ _ (.inl q)⟩
  refine codeAny_call_function room.depth (inK _ _ lk) rfl S.co S.gen rfl (PySem.W.codeRec_of inK hcd) (bound _ _ _ _ ?_)
  refine wpAny_newFunctionEnv_cells S.kind kinds fun env he s1 x1 => ?_
  subst he
  refine ⟨nolim.keeps x1.toInCall.keep, codeAny_func ?_⟩
  obtain ⟨t, ht, hq⟩ := body cd A out s H vs Q E (room.deeper _) guard want
  have I := inv_start (CX := L2.CX P w) (E := E) S room.hd e0 nvs rel x1
  refine wpAny_mono (ht.run [] s1 (L2.start N vs) H _ I hq) (fun fl s' hs => ?_) fun e s' hs => hs
  cases fl with
  | ret u =>
    obtain ⟨v, σ', H', J, rv, q⟩ := hs
    exact ⟨v, H', J.os, J.bare, J.base, J.hok, rv, q⟩
  | next =>
    obtain ⟨σ', H', J, q⟩ := hs
    exact ⟨.non, H', J.os, J.bare, J.base, J.hok, rfl, q⟩
  | brk =>
    obtain ⟨_, _, _, q⟩ := hs
    exact q.elim
  | cont =>
    obtain ⟨_, _, _, q⟩ := hs
    exact q.elim
/-! a call of such a def -/
section
variable {X : Cx} {k : Nat} {f : Addr} {fd : FuncData} {ps : List Str} {sp : Sp} {Wx : WX} {x : Str} {p pos : Pos} {e : Expr} {es : List Expr} {t : TA}
theorem run_fnG {pins : List (Addr × Obj)} {σ : L2.St} {H : Hp} {s : Shared} {Q : VK} {us : List Value} {vs : List V} (F : FnG X.prog X.w X.K X.mg X.base k f fd ps sp) (room : Room k X.A) (guard : X.A.guards = some []) (hb : Binds X.K fd ps []) (tk : Takes X Wx)
    (I : Inv X pins σ H s) (r : Vals vs us) (h : sp vs H Q (WE Wx σ)) : wpAny (model X.prog X.w) X.A (call (.ref f) us) (EP X pins σ Q) X.xe s := by
  have b := hb s us I.kIn (by rw [List.append_nil, ← r.length]; exact F.len _ _ _ _ h)
  rw [List.append_nil] at b
  refine wpAny_call (codeAny_mono (F.run X.A X.stack s H ⟨us, []⟩ us vs Q _ room guard I.env0 b r h) fun rs s' hq => ?_)
  match rs, hq with
  | .error e, hq => exact passAt tk σ pins H s e s' I hq
  | .ok (.ret u), hq => exact I.after hq
  | .ok .next, hq => exact False.elim hq
  | .ok .brk, hq => exact False.elim hq
  | .ok .cont, hq => exact False.elim hq
theorem pe_callG (F : FnG X.prog X.w X.K X.mg X.base k f fd ps sp) (room : Room k X.A) (guard : X.A.guards = some []) (hg : Gl X x) (hm : X.mg x = some (.ref f)) (hk : PySem.W.keepIn X.K (.ref f) = true) (hb : Binds X.K fd ps []) (tk : Takes X Wx)
    (ha : PA X (e :: es) t) (hdb : (x == ("__debug__" : Str)) = false := by decide) (he : starEach (e :: es) X.env = (false, eval e X.env) :: starEach es X.env := by rfl) (hpl : (backTo pos (starEach es X.env)).any (·.1) = false := by rfl) :
    PE X (.Call (.Name x p) (e :: es) [] pos) (tCallS sp (WE Wx) t) := by
  refine ⟨fun pins s σ H Q I h => wpAny_Call_Name_kw (ld_glob I hg hm ?_ hdb)⟩
  exact PySem.W.callWith_K (h₀ := X.base) I.ok.mod.kin hk (thn (ha.run pos pins s σ H _ I h) fun us s1 ⟨vs, H1, I1, r, q⟩ => ⟨I1.kIn, run_fnG F room guard hb tk I1 r q⟩) he hpl
end

/-! ## a def's promise by its denotation -/
def spD (K : PySem.W.Frag) (mg : Str → Option Value) (n : Nat) (g : List Wv → M Wv) : Sp := fun vs H Q E => vs.length = n ∧ ∃ (pi : Pot) (F : Hp) (ws : List Wv), Same F H ∧ PotIn pi H F ∧ Gvs K pi F vs ws ∧
  (g ws).post (fun w => ∀ H' F', Step pi H F H' F' → ∀ v, Res K pi H H' F' v w → Q v H') fun e => ∀ cls d H' F', Step pi H F H' F' → XRes K mg H' F' cls d e → E cls d H'
structure Den (P : Program) (w : World) (K : PySem.W.Frag) (mg : Str → Option Value) (base : Heap) (k : Nat) (x : Str) (n : Nat) (g : List Wv → M Wv) : Prop where
  ex : ∃ f fd ps, mg x = some (.ref f) ∧ PySem.W.keepIn K (.ref f) = true ∧ Binds K fd ps [] ∧ ps.length = n ∧ FnG P w K mg base k f fd ps (spD K mg n g)
theorem Den.up {P : Program} {w : World} {K : PySem.W.Frag} {mg : Str → Option Value} {base : Heap} {j k : Nat} {x : Str} {n : Nat} {g : List Wv → M Wv} (h : Den P w K mg base j x n g) (l : j ≤ k) : Den P w K mg base k x n g := by
  obtain ⟨f, fd, ps, a, b, c, d, e⟩ := h.ex
  exact ⟨f, fd, ps, a, b, c, d, e.up l⟩
/-- another denotation, as good -/
theorem Den.as {P : Program} {w : World} {K : PySem.W.Frag} {mg : Str → Option Value} {base : Heap} {k : Nat} {x : Str} {n : Nat} {g g' : List Wv → M Wv} (h : Den P w K mg base k x n g) (e : ∀ ws, ws.length = n → g' ws = .bad ∨ g ws = g' ws) : Den P w K mg base k x n g' := by
  obtain ⟨f, fd, ps, a, b, c, d, F⟩ := h.ex
  refine ⟨f, fd, ps, a, b, c, d, ⟨fun vs H Q E z => z.1.trans d.symm, fun A out s H args us vs Q E r1 r2 r3 r4 r5 z => ?_⟩⟩
  obtain ⟨z1, pi, G, ws, z2, z3, z4, z5⟩ := z
  rcases e ws (by rw [← z4.length]; exact z1) with q | q
  · rw [q] at z5; exact z5.elim
  · exact F.run A out s H args us vs Q E r1 r2 r3 r4 r5 ⟨z1, pi, G, ws, z2, z3, z4, by rw [q]; exact z5⟩
section
variable {X : Cx} {c : Act} {Wx : WX} {k : Nat} {x : Str} {p pos : Pos} {e : Expr} {es : List Expr} {fs : En → M (List Wv)} {n : Nat} {g : List Wv → M Wv}
theorem de_call (G : Den X.prog X.w X.K X.mg X.base k x n g) (room : Room k X.A) (guard : X.A.guards = some []) (hg : Gl X x) (tk : Takes X Wx) (ha : DA X c Wx (e :: es) fs) (hn : (e :: es).length = n := by rfl)
    (hdb : (x == ("__debug__" : Str)) = false := by decide) (he : starEach (e :: es) X.env = (false, eval e X.env) :: starEach es X.env := by rfl) (hpl : (backTo pos (starEach es X.env)).any (·.1) = false := by rfl) :
    DE X c Wx (.Call (.Name x p) (e :: es) [] pos) (fun ρ => fs ρ >>= fun ws => if ws.length = n then g ws else .bad) := by
  obtain ⟨f, fd, ps, hm, hk, hb, hl, F⟩ := G.ex
  refine PE.imp (pe_callG (Wx := Wx) F room guard hg hm hk hb tk ha hdb he hpl) fun σ H Q ⟨F0, ρ, I, q⟩ => ea_split I q fun us xs H1 F1 I1 s1 g1 p1 => ?_
  split at p1
  · rename_i h
    exact ⟨g1.length.trans h, c.pi, F1, us, I1.le, I1.pot, g1, M.post_mono p1 (fun w z H' F' s2 v r => z H' F' s2 v (r.older I.pot s1)) fun e z => z⟩
  · exact p1.elim
end
/-- the slots at a def's entry -/
def startE (N : Nat) (ws : List Wv) : En := ws.map some ++ List.replicate (N - ws.length) none
def fin : Fl → M Wv
  | .ret w => .ok w
  | .nx _ => .ok (.dat .none)
  | _ => .bad
def body (N : Nat) (g : En → M Fl) (ws : List Wv) : M Wv := g (startE N ws) >>= fin
def isGiven : Wv → Bool
  | .own _ => false
  | _ => true
section
variable {P : Program} {w : World} {K : PySem.W.Frag} {mg : Str → Option Value} {base : Heap}
theorem Gvs.get {pi : Pot} {F : Hp} : ∀ {vs : List V} {ws : List Wv} {i : Nat} {u : Wv}, Gvs K pi F vs ws → ws[i]? = some u → ∃ v, vs[i]? = some v ∧ Gv K pi F v u
  | _, _, _, _, .nil, e => by simp at e
  | _, _, 0, _, .cons h _, e => by
    simp only [List.getElem?_cons_zero, Option.some.injEq] at e
    subst e
    exact ⟨_, rfl, h⟩
  | _, _, i + 1, _, .cons _ t, e => by
    simp only [List.getElem?_cons_succ] at e ⊢
    exact Gvs.get t e
theorem sr_start {pi : Pot} {H F : Hp} {vs : List V} {ws : List Wv} {N : List Str} (l : Same F H) (p : PotIn pi H F) (g : Gvs K pi F vs ws) : SR K ⟨pi, H, F⟩ (L2.start N vs) H F (startE N.length ws) where
  len := by unfold L2.start startE; simp [g.length]
  st := Step.refl l p
  p0 := p
  slot := fun i u e => by
    unfold startE at e
    by_cases hi : i < ws.length
    · rw [List.getElem?_append_left (by simpa using hi), List.getElem?_map] at e
      cases q : ws[i]? with
      | none => rw [q] at e; cases e
      | some z =>
        rw [q] at e
        cases e
        obtain ⟨v, h1, h2⟩ := g.get q
        refine ⟨v, ?_, h2.res⟩
        unfold L2.start
        rw [List.getElem?_append_left (by rw [List.length_map, g.length]; exact hi), List.getElem?_map, h1]
        rfl
    · rw [List.getElem?_append_right (by simpa using Nat.le_of_not_lt hi), List.getElem?_replicate] at e
      split at e <;> cases e
  sep := fun i j xs ys v _ e => by
    unfold startE at e
    by_cases hi : i < ws.length
    · rw [List.getElem?_append_left (by simpa using hi), List.getElem?_map] at e
      cases q : ws[i]? with
      | none => rw [q] at e; cases e
      | some z =>
        rw [q] at e
        cases e
        obtain ⟨v, h1, h2⟩ := g.get q
        exact h2.elim
    · rw [List.getElem?_append_right (by simpa using Nat.le_of_not_lt hi), List.getElem?_replicate] at e
      split at e <;> cases e
/-- what a def's body may lean on -/
structure At (X : Cx) (Wx : WX) (k : Nat) : Prop where
  room : Room k X.A
  guard : X.A.guards = some []
  tk : Takes X Wx
  own : PassesOwn (model X.prog X.w) X.A X.env X.xe
theorem den_of {k : Nat} {x qual : Str} {st : Stmt} {N ps : List Str} {g : En → M Fl} {f : Addr} {fd : FuncData} (hm : mg x = some (.ref f)) (Fx : Fun K x qual st f fd) (hb : Binds K fd ps []) (S : FnScope N ps (defScope st))
    (h : ∀ (cd : Value) (A : Around) (out : List Env) (s : Shared) (H : Hp) (E : XK) (c : Act), At (cxOf (L2.CX P w) P w K mg base N qual (defScope st) f cd A out s H E) (fun cls d _ H => E cls d H) k →
      DSs (cxOf (L2.CX P w) P w K mg base N qual (defScope st) f cd A out s H E) c (fun cls d _ H => E cls d H) (defBody st) g) : Den P w K mg base (k + 1) x ps.length (body N.length g) := by
  refine ⟨f, fd, ps, hm, Fx.kp, hb, rfl, fnG_of Fx S (fun vs H Q E z => z.1) fun cd A out s H vs Q E room guard z => ?_⟩
  obtain ⟨z1, pi, F, ws, l, p, gv, q⟩ := z
  refine ⟨_, h cd A out s H E ⟨pi, H, F⟩ ⟨room, guard, takes_of rfl rfl rfl rfl, passes_of rfl⟩, ?_⟩
  refine ⟨F, startE N.length ws, sr_start l p gv, M.post_mono (M.post_bind.mp q) (fun fl z => ?_) fun e z cls d σ' H' F' s1 x1 => z cls d H' F' s1 x1⟩
  cases fl with
  | ret w => exact fun v H' F' s1 r => z H' F' s1 v r
  | nx ρ => exact fun σ' H' F' I _ => z H' F' I.st .non .non
  | brk _ => exact z.elim
  | cont _ => exact z.elim
end
end DL

namespace DL
open PySem PySem.Spec PyProof.Rows L2

/-! ## data as the library reads it -/
section
variable {X : Cx} {pins : List (Addr × Obj)} {σ : L2.St} {H F : Hp} {s : Shared}

theorem pairs_read {P : Program} {w : World} : ∀ {en : List DictEntry} {vs : List (Key × Value)} {kvs : List (Key × V)}, Pairs (mixKind P w) en vs → KV kvs vs →
    (∀ h : Heap, ReadsAll h (en.map (·.key)) (kvs.map fun p => keyD p.1) []) ∧ Vals (kvs.map (·.2)) (en.map (·.val))
  | _, _, _, .nil, .nil => ⟨fun _ => .nil, .nil⟩
  | _, _, _, .cons h1 h2 p, .cons q t => by
    obtain ⟨i1, i2⟩ := pairs_read p t
    refine ⟨fun h => ?_, ?_⟩
    · simp only [List.map_cons]
      refine .cons (as := []) (bs := []) ?_ (i1 h)
      rw [q.1]
      rcases keyIs_shape h1 with ⟨i, tk, e1, e2⟩ | ⟨x, tk, e1, e2⟩
      · rw [e1, e2]; exact Reads.int i tk
      · rw [e1, e2]; exact Reads.str x tk
    · simp only [List.map_cons]
      exact .cons (by rw [h2]; exact q.2) i2
mutual
theorem DR.reads (I : Inv X pins σ H s) (l : Same F H) : ∀ {v : V} {d : D}, DR X.K F v d → ∀ (u : Value), RelV v u → ∃ as, Reads s.heap u d as ∧ ∀ a ∈ as, H a ≠ none
  | _, _, .non, _, r => by
    cases r
    exact ⟨_, Reads.none, fun _ h => by cases h⟩
  | _, _, .bl b, _, r => by
    cases r
    exact ⟨_, Reads.bool b, fun _ h => by cases h⟩
  | _, _, .int i, _, r => by
    obtain ⟨t, rfl⟩ := r
    exact ⟨_, Reads.int i t, fun _ h => by cases h⟩
  | _, _, .str x, _, r => by
    obtain ⟨t, rfl⟩ := r
    exact ⟨_, Reads.str x t, fun _ h => by cases h⟩
  | _, _, .lst hs ha, _, r => by
    cases r
    have hH := l _ _ hs
    obtain ⟨its, rv, ⟨o, n, ho, hc, _, hd⟩, _⟩ := I.list (SqL.of hH)
    obtain ⟨as, hr, hn⟩ := DRs.reads I l ha its rv
    refine ⟨_, Reads.list ho hc hd hr, fun a h => ?_⟩
    rcases List.mem_cons.mp h with rfl | h
    · rw [hH]; exact fun z => nomatch z
    · exact hn a h
  | _, _, .tup hs ha, _, r => by
    cases r
    obtain ⟨its, rv, ⟨o, ho, hc, n, hd⟩, _⟩ := I.tuple (sq_mono_t l hs)
    obtain ⟨as, hr, hn⟩ := DRs.reads I l ha its rv
    exact ⟨_, Reads.tuple ho hc hd hr, hn⟩
  | _, _, .dct hs hk ha, _, r => by
    cases r
    have hH := l _ _ hs
    obtain ⟨hz, hsy, vs, kv, o, en, ep, ho, ex, hd, _, pr, _⟩ := I.hok _ _ hH
    obtain ⟨k1, k2⟩ := pairs_read pr kv
    obtain ⟨as, hr, hn⟩ := DRs.reads I l ha _ k2
    refine ⟨_, Reads.dict ho ex.1 hd (by rw [hk]; exact k1 _) hr, fun a h => ?_⟩
    rcases List.mem_cons.mp h with rfl | h
    · rw [hH]; exact fun z => nomatch z
    · exact hn a (by simpa using h)
theorem DRs.reads (I : Inv X pins σ H s) (l : Same F H) : ∀ {vs : List V} {ds : List D}, DRs X.K F vs ds → ∀ (us : List Value), Vals vs us → ∃ as, ReadsAll s.heap us ds as ∧ ∀ a ∈ as, H a ≠ none
  | _, _, .nil, _, r => by
    cases r
    exact ⟨_, ReadsAll.nil, fun _ h => by cases h⟩
  | _, _, .cons h1 h2, _, r => by
    cases r with
    | cons r1 r2 =>
      obtain ⟨as, q1, n1⟩ := DR.reads I l h1 _ r1
      obtain ⟨bs, q2, n2⟩ := DRs.reads I l h2 _ r2
      exact ⟨_, ReadsAll.cons q1 q2, fun a h => (List.mem_append.mp h).elim (n1 a) (n2 a)⟩
end
end
end DL

namespace DL
open PySem PySem.Spec PyProof.Rows L2 SeqAt

/-! ## ==, !=, in, not in, < over data -/
def rEqF (K : PySem.W.Frag) (neg : Bool) : R2 := fun x y H Q => ∃ F d e, Same F H ∧ DR K F x d ∧ DR K F y e ∧ shaped d = true ∧ shaped e = true ∧ Q (.bl (if neg then !PyData.eqv d e else PyData.eqv d e)) H
section
variable {X : Cx}
theorem op_eqF (hu : X.A.units + 64 < cLine) : OpR X (compareOp .Eq) (rEqF X.K false) := by
  intro pins s σ H x y v u Q I rx ry h
  obtain ⟨F, d, e, l, hd, he, sd, se, q⟩ := h
  obtain ⟨as, r1, _⟩ := DR.reads I l hd v rx
  obtain ⟨bs, r2, _⟩ := DR.reads I l he u ry
  exact compareEq_shaped r1 r2 sd se hu ⟨.bl _, H, I, rfl, q⟩
theorem op_neF (hu : X.A.units + 64 < cLine) : OpR X (compareOp .NotEq) (rEqF X.K true) := by
  intro pins s σ H x y v u Q I rx ry h
  obtain ⟨F, d, e, l, hd, he, sd, se, q⟩ := h
  obtain ⟨as, r1, _⟩ := DR.reads I l hd v rx
  obtain ⟨bs, r2, _⟩ := DR.reads I l he u ry
  exact compareNe_shaped r1 r2 sd se hu ⟨.bl _, H, I, rfl, q⟩
def isIn (d : D) (xs : List D) : Bool := xs.any fun y => PyData.eqv y d
def rInF (K : PySem.W.Frag) (neg : Bool) : R2 := fun x y H Q => ∃ F d xs, Same F H ∧ DR K F x d ∧ (DR K F y (.list xs) ∨ DR K F y (.tuple xs)) ∧ shaped d = true ∧ PyData.canLayAll0 xs = true ∧ Q (.bl (if neg then !isIn d xs else isIn d xs)) H
theorem room_in {A : Around} {xs : List D} {d : D} (hd : shaped d = true) (hu : A.units + 65 < cLine) : A.units + 1 + min (PyData.depthAll xs) d.depth < cLine := room_in_shaped hd hu
theorem op_inF (hu : X.A.units + 65 < cLine) : OpR X (compareOp .In) (rInF X.K false) := by
  intro pins s σ H x y v u Q I rx ry h
  obtain ⟨F, d, xs, l, hd, he, sd, se, q⟩ := h
  obtain ⟨as, r1, _⟩ := DR.reads I l hd v rx
  rcases he with he | he
  · obtain ⟨bs, r2, _⟩ := DR.reads I l he u ry
    exact in_list_reads r2 r1 se (canLay_of_shaped sd) (room_in sd hu) ⟨.bl _, H, I, rfl, q⟩
  · obtain ⟨bs, r2, _⟩ := DR.reads I l he u ry
    exact in_tuple_reads r2 r1 se (canLay_of_shaped sd) (room_in sd hu) ⟨.bl _, H, I, rfl, q⟩
theorem op_notInF (hu : X.A.units + 65 < cLine) : OpR X (compareOp .NotIn) (rInF X.K true) := by
  intro pins s σ H x y v u Q I rx ry h
  obtain ⟨F, d, xs, l, hd, he, sd, se, q⟩ := h
  obtain ⟨as, r1, _⟩ := DR.reads I l hd v rx
  rcases he with he | he
  · obtain ⟨bs, r2, _⟩ := DR.reads I l he u ry
    exact notIn_list_reads r2 r1 se (canLay_of_shaped sd) (room_in sd hu) ⟨.bl _, H, I, rfl, q⟩
  · obtain ⟨bs, r2, _⟩ := DR.reads I l he u ry
    exact notIn_tuple_reads r2 r1 se (canLay_of_shaped sd) (room_in sd hu) ⟨.bl _, H, I, rfl, q⟩
def rLtF (K : PySem.W.Frag) : R2 := fun x y H Q => ∃ F d e, Same F H ∧ DR K F x d ∧ DR K F y e ∧ PySem.W.alike d e = true ∧ d ≠ .none ∧ d.depth ≤ 64 ∧ Q (.bl (PySem.W.dataLt d e)) H
theorem op_ltF (hu : X.A.units + 64 < cLine) : OpR X (compareOp .Lt) (rLtF X.K) := by
  intro pins s σ H x y v u Q I rx ry h
  obtain ⟨F, d, e, l, hd, he, al, dn, hz, q⟩ := h
  obtain ⟨as, r1, _⟩ := DR.reads I l hd v rx
  obtain ⟨bs, r2, _⟩ := DR.reads I l he u ry
  have z := PySem.W.rcLt_alike d e X.A s v u as bs r1 r2 al dn (by omega) X.prog X.w X.xe (EP X pins σ Q) ⟨.bl _, H, I, rfl, q⟩
  exact z
end
end DL

namespace DL
open PySem PySem.Spec PyProof.Rows L2 SeqAt
theorem tup_same (l : Addr) (items : Array Value) (n : Nat) (dd : Option Addr) (sl : Array (Option Value)) (x : Int) (u : Tok) (h0 : (decide (x < -(2 ^ 63)) || decide (x ≥ 2 ^ 63)) = false) (h1 : (items.isEmpty || x == 1) = true) :
    Meets (Builtin.«tuple.__mul__» ⟨[.ref l, .int x u], []⟩) (fun _ R s => s.heap.get? l = some { cls := .type "tuple", dict := dd, data := .seq items n, slots := sl } ∧ R (.ok (.ret (Value.ref l))) s) :=
  .of_wp fun prog w A R s h => by
    obtain ⟨hp, g, d, tk, os⟩ := s
    obtain ⟨at_, h⟩ := h
    have ix := AutoSeq1.idx_int
    wp_walk using wpAny_loadPart' at_
    refine wpAny_ite_false (decide_eq_false (by rw [h0]; exact Bool.false_ne_true)) ?_
    wp_walk using wpAny_loadPart' at_
    exact ⟨_, rfl, h⟩
def rRepS (K : PySem.W.Frag) : R2 := fun x y H Q => ∃ l k xs, x = .ref l ∧ y = .int k ∧ SqT K H l xs ∧ (xs = [] ∨ k = 1) ∧ -1000 ≤ k ∧ k ≤ 1000 ∧ Q (.ref l) H
theorem op_repS {X : Cx} : OpR X (binaryOp .Mult) (rRepS X.K) := by
  intro pins s σ H x y v u Q I rx ry h
  obtain ⟨l, k, xs, rfl, rfl, hT, hne, h1, h2, q⟩ := h
  cases rx
  obtain ⟨t, rfl⟩ := ry
  obtain ⟨its, r, ⟨⟨cls, dd, data, sl⟩, ho, hc, n, hd⟩, hs⟩ := I.tuple hT
  simp only at hc hd
  subst hc hd
  have c0 : (decide (k < -(2 ^ 63)) || decide (k ≥ 2 ^ 63)) = false := by
    rw [decide_eq_false (by omega), decide_eq_false (by omega)] <;> rfl
  have c1 : (its.toArray.isEmpty || k == 1) = true := by
    rcases hne with e | e
    · subst e
      have e2 : its = [] := List.eq_nil_of_length_eq_zero (by rw [← r.length]; rfl)
      subst e2
      rfl
    · subst e
      simp
  exact wpAny_binaryOp_repeat_ref (T := "tuple") (U := "int") (by decide) ⟨_, ho, rfl⟩ (fun s' => typeIs_int s' k t) noFill_tuple_mul F.fills_int_mul F.slot_int_rmul repeat_tuple F.slot_int_index.lookup
    (call_meets F.slot_int_rmul (typeIs_int s k t) F.entry_int_rmul (F.args_int_rmul_2 _ _) (int_rmul_tuple k t l its.toArray n dd sl)
      ⟨ho, rfl, ⟨_, ho, rfl⟩, call_meets F.slot_tuple_mul ⟨_, ho, rfl⟩ F.entry_tuple_mul (F.args_tuple_mul_2 _ _) (tup_same l its.toArray n dd sl k t c0 c1) ⟨ho, .ref l, H, I, rfl, q⟩⟩)

/-! ## operators over results -/
section
variable {K : PySem.W.Frag} {pi : Pot} {H F : Hp} {Q : VK} {E : Ex → Prop} {x y : V}
/-- the end's form -/
abbrev Fin (K : PySem.W.Frag) (pi : Pot) (H F : Hp) (Q : VK) (m : M Wv) (E : Ex → Prop) : Prop := m.post (fun z => ∀ H' F', Step pi H F H' F' → ∀ v, Res K pi H H' F' v z → Q v H') E
theorem Fin.val {w : Wv} {v : V} (h : Fin K pi H F Q (.ok w) E) (l : Same F H) (p : PotIn pi H F) (g : Gv K pi F v w) : Q v H := h H F (Step.refl l p) v g.res
theorem Fin.tup {ds : List D} {vs : List V} (h : Fin K pi H F Q (.ok (.dat (.tuple ds))) E) (l : Same F H) (p : PotIn pi H F) (hd : DRs K F vs ds) : ∀ a, H a = none → Q (.ref a) (upd H a (.tup vs)) := fun a ha =>
  h _ _ (Step.lay l p ha) (.ref a) (.tup (SqT.of upd_same) (hd.mono (Step.lay (o := .tup vs) l p ha).mono))
theorem none_F (l : Same F H) {a : Addr} (h : H a = none) : F a = none := by
  cases z : F a with
  | none => rfl
  | some o =>
    have := l a o z
    rw [h] at this
    cases this
theorem Fin.lst {ds : List D} {vs : List V} (h : Fin K pi H F Q (.ok (.own ds)) E) (l : Same F H) (p : PotIn pi H F) (hd : DRs K F vs ds) : ∀ a, H a = none → Q (.ref a) (upd H a (.lst vs)) := fun a ha =>
  h _ _ (Step.layH l p ha) (.ref a) ⟨a, vs, rfl, upd_same, none_F l ha, ha, hd⟩
theorem Gv.dat {d : D} (h : Gv K pi F x (.dat d)) : DR K F x d := h
end
def kB (m : M Bool) : M Wv := m >>= fun k => .ok (.dat (.bool k))
@[simp] theorem kB_ok (b : Bool) : kB (.ok b) = .ok (.dat (.bool b)) := rfl
def isStr : D → Bool
  | .str _ => true
  | _ => false
/-- a == b -/
def vEq (a b : D) : M Bool := if ((isStr a && isStr b) || (shaped a && shaped b)) = true then .ok (PyData.eqv a b) else .bad
theorem vEq_of {a b : D} (ha : shaped a = true) (hb : shaped b = true) : vEq a b = .ok (PyData.eqv a b) := by
  unfold vEq
  rw [if_pos (by simp [ha, hb])]
theorem vEq_str (x y : Str) : vEq (.str x) (.str y) = .ok (x == y) := by
  unfold vEq
  rw [if_pos (by simp [isStr])]
  simp [PyData.eqv]
def opEq (u w : Wv) : M Wv := u.d >>= fun a => w.d >>= fun b => kB (vEq a b)
def opNe (u w : Wv) : M Wv := u.d >>= fun a => w.d >>= fun b => kB (vEq a b >>= fun k => .ok (!k))
section
variable {K : PySem.W.Frag}
theorem gd {pi : Pot} {F : Hp} {x : V} {u : Wv} {α : Type} {k : D → M α} {Q : α → Prop} {E : Ex → Prop} (g : Gv K pi F x u) (h : (u.d >>= k).post Q E) : ∃ d, u = .dat d ∧ DR K F x d ∧ (k d).post Q E := by
  cases u with
  | dat d => exact ⟨d, rfl, g, h⟩
  | own _ => exact g.elim
  | raw _ => exact h.elim
  | pot => exact h.elim
theorem vEq_ok {a b : D} {α : Type} {k : Bool → M α} {Q : α → Prop} {E : Ex → Prop} (h : (vEq a b >>= k).post Q E) : ((∃ x y, a = .str x ∧ b = .str y) ∨ (shaped a = true ∧ shaped b = true)) ∧ (k (PyData.eqv a b)).post Q E := by
  unfold vEq at h
  split at h
  · rename_i c
    refine ⟨?_, h⟩
    rcases Bool.or_eq_true_iff.mp c with c | c
    · obtain ⟨c1, c2⟩ := Bool.and_eq_true_iff.mp c
      cases a <;> first | cases c1 | skip
      cases b <;> first | cases c2 | skip
      exact .inl ⟨_, _, rfl, rfl⟩
    · exact .inr (Bool.and_eq_true_iff.mp c)
  · exact h.elim
theorem ok_opEq : OpOk K (fun x y H Q => rEq x y H Q ∨ rEqF K false x y H Q) opEq := fun pi H F x y u w Q E l p g1 g2 h => by
  obtain ⟨a, rfl, h1, h⟩ := gd g1 h
  obtain ⟨b, rfl, h2, h⟩ := gd g2 h
  unfold kB at h
  obtain ⟨c, h⟩ := vEq_ok h
  have q := Fin.val (v := .bl (PyData.eqv a b)) h l p (.bl _)
  rcases c with ⟨z, z', rfl, rfl⟩ | ⟨c1, c2⟩
  · cases h1
    cases h2
    refine .inl ⟨rfl, ?_⟩
    have e : decide (V.str z = V.str z') = PyData.eqv (.str z) (.str z') := by
      rw [PyData.eqv]
      exact dec_str
    rw [e]
    exact q
  · exact .inr ⟨F, a, b, l, h1, h2, c1, c2, q⟩
theorem ok_opNe : OpOk K (fun x y H Q => rNe x y H Q ∨ rEqF K true x y H Q) opNe := fun pi H F x y u w Q E l p g1 g2 h => by
  obtain ⟨a, rfl, h1, h⟩ := gd g1 h
  obtain ⟨b, rfl, h2, h⟩ := gd g2 h
  unfold kB at h
  rw [M.bind_assoc'] at h
  obtain ⟨c, h⟩ := vEq_ok h
  have q := Fin.val (v := .bl (!PyData.eqv a b)) h l p (.bl _)
  rcases c with ⟨z, z', rfl, rfl⟩ | ⟨c1, c2⟩
  · cases h1
    cases h2
    refine .inl ⟨rfl, ?_⟩
    have e : (!decide (V.str z = V.str z')) = !PyData.eqv (.str z) (.str z') := by
      rw [PyData.eqv, dec_str]
    rw [e]
    exact q
  · exact .inr ⟨F, a, b, l, h1, h2, c1, c2, q⟩
/-- x in c -/
def itemsOf : D → Option (List D)
  | .list xs => some xs
  | .tuple xs => some xs
  | _ => none
def strIn (i j : Str) : Bool := !(Builtin.Str.occurrences j i 0 j.length 1).isEmpty
def vIn (a b : D) : M Bool := match a, b with
  | .str i, .str j => .ok (strIn i j)
  | a, .list xs => if (shaped a && PyData.canLayAll0 xs) = true then .ok (isIn a xs) else .bad
  | a, .tuple xs => if (shaped a && PyData.canLayAll0 xs) = true then .ok (isIn a xs) else .bad
  | _, _ => .bad
def opIn (u w : Wv) : M Wv := u.d >>= fun a => w.d >>= fun b => kB (vIn a b)
def opNotIn (u w : Wv) : M Wv := u.d >>= fun a => w.d >>= fun b => kB (vIn a b >>= fun k => .ok (!k))
theorem vIn_list {a : D} {xs : List D} (ha : shaped a = true) (hx : PyData.canLayAll0 xs = true) : vIn a (.list xs) = .ok (isIn a xs) := by
  unfold vIn
  split <;> simp_all
theorem vIn_tuple {a : D} {xs : List D} (ha : shaped a = true) (hx : PyData.canLayAll0 xs = true) : vIn a (.tuple xs) = .ok (isIn a xs) := by
  unfold vIn
  split <;> simp_all
theorem vIn_str (i j : Str) : vIn (.str i) (.str j) = .ok (strIn i j) := rfl
theorem vIn_ok {a b : D} {α : Type} {k : Bool → M α} {Q : α → Prop} {E : Ex → Prop} (h : (vIn a b >>= k).post Q E) : (∃ i j, a = .str i ∧ b = .str j ∧ (k (strIn i j)).post Q E) ∨
    ∃ xs, (b = .list xs ∨ b = .tuple xs) ∧ shaped a = true ∧ PyData.canLayAll0 xs = true ∧ (k (isIn a xs)).post Q E := by
  unfold vIn at h
  split at h
  · exact .inl ⟨_, _, rfl, rfl, h⟩
  · split at h
    · rename_i c
      obtain ⟨c1, c2⟩ := Bool.and_eq_true_iff.mp c
      exact .inr ⟨_, .inl rfl, c1, c2, h⟩
    · exact h.elim
  · split at h
    · rename_i c
      obtain ⟨c1, c2⟩ := Bool.and_eq_true_iff.mp c
      exact .inr ⟨_, .inr rfl, c1, c2, h⟩
    · exact h.elim
  · exact h.elim
abbrev rInS (neg : Bool) : R2 := fun x y H Q => ∃ i j, x = .str i ∧ y = .str j ∧ Q (.bl (if neg then !strIn i j else strIn i j)) H
theorem ok_opIn : OpOk K (fun x y H Q => rInS false x y H Q ∨ rInF K false x y H Q) opIn := fun pi H F x y u w Q E l p g1 g2 h => by
  obtain ⟨a, rfl, h1, h⟩ := gd g1 h
  obtain ⟨b, rfl, h2, h⟩ := gd g2 h
  unfold kB at h
  rcases vIn_ok h with ⟨i, j, rfl, rfl, h⟩ | ⟨xs, e, c1, c2, h⟩
  · cases h1
    cases h2
    exact .inl ⟨i, j, rfl, rfl, Fin.val h l p (.bl _)⟩
  · exact .inr ⟨F, a, xs, l, h1, e.imp (fun e => by rw [← e]; exact h2) (fun e => by rw [← e]; exact h2), c1, c2, Fin.val h l p (.bl _)⟩
theorem ok_opNotIn : OpOk K (fun x y H Q => rInS true x y H Q ∨ rInF K true x y H Q) opNotIn := fun pi H F x y u w Q E l p g1 g2 h => by
  obtain ⟨a, rfl, h1, h⟩ := gd g1 h
  obtain ⟨b, rfl, h2, h⟩ := gd g2 h
  unfold kB at h
  rw [M.bind_assoc'] at h
  rcases vIn_ok h with ⟨i, j, rfl, rfl, h⟩ | ⟨xs, e, c1, c2, h⟩
  · cases h1
    cases h2
    exact .inl ⟨i, j, rfl, rfl, Fin.val h l p (.bl _)⟩
  · exact .inr ⟨F, a, xs, l, h1, e.imp (fun e => by rw [← e]; exact h2) (fun e => by rw [← e]; exact h2), c1, c2, Fin.val h l p (.bl _)⟩
/-- a < b and its kin -/
def vLt (a b : D) : M Bool := match a, b with
  | .int i, .int j => .ok (decide (i < j))
  | .str i, .str j => .ok (decide (i.cps.toList < j.cps.toList))
  | .tuple xs, .tuple ys => if (PySem.W.alikeAll xs ys && decide ((PyData.tuple xs).depth ≤ 64)) = true then .ok (PySem.W.dataLt (.tuple xs) (.tuple ys)) else .bad
  | .list xs, .list ys => if (PySem.W.alikeAll xs ys && decide ((PyData.list xs).depth ≤ 64)) = true then .ok (PySem.W.dataLt (.list xs) (.list ys)) else .bad
  | _, _ => .bad
def opLt (u w : Wv) : M Wv := u.d >>= fun a => w.d >>= fun b => kB (vLt a b)
theorem ok_opLt : OpOk K (fun x y H Q => rI0 (fun i j => .bl (decide (i < j))) x y H Q ∨ (∃ i j, x = .str i ∧ y = .str j ∧ Q (.bl (decide (i.cps.toList < j.cps.toList))) H) ∨ rLtF K x y H Q) opLt := fun pi H F x y u w Q E l p g1 g2 h => by
  obtain ⟨a, rfl, h1, h⟩ := gd g1 h
  obtain ⟨b, rfl, h2, h⟩ := gd g2 h
  unfold kB vLt at h
  split at h
  · cases h1
    cases h2
    exact .inl ⟨_, _, rfl, rfl, Fin.val h l p (.bl _)⟩
  · cases h1
    cases h2
    exact .inr (.inl ⟨_, _, rfl, rfl, Fin.val h l p (.bl _)⟩)
  · split at h
    · rename_i c
      obtain ⟨c1, c2⟩ := Bool.and_eq_true_iff.mp c
      exact .inr (.inr ⟨F, _, _, l, h1, h2, by rw [PySem.W.alike]; exact c1, (fun z => by cases z), of_decide_eq_true c2, Fin.val h l p (.bl _)⟩)
    · exact h.elim
  · split at h
    · rename_i c
      obtain ⟨c1, c2⟩ := Bool.and_eq_true_iff.mp c
      exact .inr (.inr ⟨F, _, _, l, h1, h2, by rw [PySem.W.alike]; exact c1, (fun z => by cases z), of_decide_eq_true c2, Fin.val h l p (.bl _)⟩)
    · exact h.elim
  · exact h.elim
/-- two ints -/
def i2 (g : Int → Int → M D) (u w : Wv) : M Wv := match u, w with
  | .dat (.int i), .dat (.int j) => g i j >>= fun d => .ok (.dat d)
  | _, _ => .bad
theorem i2_ok {pi : Pot} {F : Hp} {x y : V} {u w : Wv} {g : Int → Int → M D} {Q : Wv → Prop} {E : Ex → Prop} (g1 : Gv K pi F x u) (g2 : Gv K pi F y w) (h : (i2 g u w).post Q E) : ∃ i j, x = .int i ∧ y = .int j ∧ (g i j >>= fun d => .ok (.dat d)).post Q E := by
  unfold i2 at h
  split at h
  · rename_i i j
    have h1 : DR K F x (.int i) := g1
    have h2 : DR K F y (.int j) := g2
    cases h1
    cases h2
    exact ⟨i, j, rfl, rfl, h⟩
  · exact h.elim
abbrev iB (p : Int → Int → Bool) : Wv → Wv → M Wv := i2 fun i j => .ok (.bool (p i j))
abbrev iI (p : Int → Int → Int) : Wv → Wv → M Wv := i2 fun i j => .ok (.int (p i j))
theorem ok_iB {p : Int → Int → Bool} : OpOk K (rI0 fun i j => .bl (p i j)) (iB p) := fun pi H F x y u w Q E l pp g1 g2 h => by
  obtain ⟨i, j, rfl, rfl, h⟩ := i2_ok g1 g2 h
  exact ⟨i, j, rfl, rfl, Fin.val h l pp (.bl _)⟩
theorem ok_iI {p : Int → Int → Int} : OpOk K (rI0 fun i j => .int (p i j)) (iI p) := fun pi H F x y u w Q E l pp g1 g2 h => by
  obtain ⟨i, j, rfl, rfl, h⟩ := i2_ok g1 g2 h
  exact ⟨i, j, rfl, rfl, Fin.val h l pp (.int _)⟩
abbrev opLe : Wv → Wv → M Wv := iB fun i j => decide (i ≤ j)
abbrev opGt : Wv → Wv → M Wv := iB fun i j => decide (j < i)
abbrev opGe : Wv → Wv → M Wv := iB fun i j => decide (j ≤ i)
abbrev opSub : Wv → Wv → M Wv := iI fun i j => i - j
/-- under a condition -/
theorem ok_iC {C : Int → Int → Prop} {g : Int → Int → Int} {f : Int → Int → M D} (hf : ∀ i j (Q : D → Prop) (E : Ex → Prop), (f i j).post Q E → C i j ∧ Q (.int (g i j))) : OpOk K (rI C fun i j => .int (g i j)) (i2 f) := fun pi H F x y u w Q E l pp g1 g2 h => by
  obtain ⟨i, j, rfl, rfl, h⟩ := i2_ok g1 g2 h
  obtain ⟨c, q⟩ := hf i j _ _ (M.post_bind.mp h)
  exact ⟨i, j, rfl, rfl, c, Fin.val (w := .dat (.int (g i j))) q l pp (.int _)⟩
def ckd (c : Bool) (d : D) : M D := if c = true then .ok d else .bad
@[simp] theorem ckd_true (d : D) : ckd true d = .ok d := rfl
theorem ckd_ok {c : Bool} {d : D} {Q : D → Prop} {E : Ex → Prop} (h : (ckd c d).post Q E) : c = true ∧ Q d := by
  unfold ckd at h
  split at h
  · rename_i e; exact ⟨e, h⟩
  · exact h.elim
def opMod : Wv → Wv → M Wv := i2 fun i j => ckd (decide (0 < j)) (.int (i % j))
theorem ok_opMod : OpOk K (rI (fun _ j => 0 < j) fun i j => .int (i % j)) opMod := ok_iC fun i j Q E h => by
  obtain ⟨c, q⟩ := ckd_ok h
  exact ⟨of_decide_eq_true c, q⟩
def opFdiv : Wv → Wv → M Wv := i2 fun i j => ckd (decide (0 < j) && decide (j < 1073741824)) (.int (i / j))
theorem ok_opFdiv : OpOk K (rI CDiv fun i j => .int (i / j)) opFdiv := ok_iC fun i j Q E h => by
  obtain ⟨c, q⟩ := ckd_ok h
  obtain ⟨c1, c2⟩ := Bool.and_eq_true_iff.mp c
  exact ⟨⟨of_decide_eq_true c1, of_decide_eq_true c2⟩, q⟩
def opPow : Wv → Wv → M Wv := i2 fun i j => ckd (decide (0 ≤ j ∧ j ≤ 1000 ∧ i.natAbs < 1000)) (.int (i ^ j.toNat))
theorem ok_opPow : OpOk K (rI CPow fun i j => .int (i ^ j.toNat)) opPow := ok_iC fun i j Q E h => by
  obtain ⟨c, q⟩ := ckd_ok h
  have c := of_decide_eq_true c
  exact ⟨⟨c.1, by omega, by omega⟩, q⟩
def opShl : Wv → Wv → M Wv := i2 fun i j => ckd (decide (0 ≤ j ∧ j ≤ 1000 ∧ i.natAbs < 1000)) (.int (i * 2 ^ j.toNat))
theorem ok_opShl : OpOk K (rI CPow fun i j => .int (i * 2 ^ j.toNat)) opShl := ok_iC fun i j Q E h => by
  obtain ⟨c, q⟩ := ckd_ok h
  have c := of_decide_eq_true c
  exact ⟨⟨c.1, by omega, by omega⟩, q⟩
/-- a + b -/
def vAdd (a b : D) : M Wv := match a, b with
  | .int i, .int j => .ok (.dat (.int (i + j)))
  | .str i, .str j => small (i.length + j.length) (.ok (.dat (.str (i ++ j))))
  | .list xs, .list ys => small (xs.length + ys.length) (.ok (.own (xs ++ ys)))
  | .tuple xs, .tuple ys => small (xs.length + ys.length) (.ok (.dat (.tuple (xs ++ ys))))
  | _, _ => .bad
def opAdd (u w : Wv) : M Wv := u.d >>= fun a => w.d >>= fun b => vAdd a b
abbrev rAddS : R2 := fun x y H Q => ∃ i j, x = .str i ∧ y = .str j ∧ i.length + j.length ≤ sizeLine ∧ Q (.str (i ++ j)) H
theorem DRs.nil_iff {F : Hp} {vs : List V} {ds : List D} (h : DRs K F vs ds) : vs = [] ↔ ds = [] := by cases h <;> simp
theorem ok_opAdd : OpOk K (fun x y H Q => rI0 (fun i j => .int (i + j)) x y H Q ∨ rAddS x y H Q ∨ rCat x y H Q ∨ rCatA K x y H Q) opAdd := fun pi H F x y u w Q E l p g1 g2 h => by
  obtain ⟨a, rfl, h1, h⟩ := gd g1 h
  obtain ⟨b, rfl, h2, h⟩ := gd g2 h
  unfold vAdd at h
  split at h
  · cases h1
    cases h2
    exact .inl ⟨_, _, rfl, rfl, Fin.val h l p (.int _)⟩
  · cases h1
    cases h2
    obtain ⟨hz, h⟩ := small_ok h
    exact .inr (.inl ⟨_, _, rfl, rfl, Nat.le_of_lt hz, Fin.val h l p (.str _)⟩)
  · obtain ⟨hz, h⟩ := small_ok h
    cases h1 with
    | lst s1 r1 =>
      cases h2 with
      | lst s2 r2 => exact .inr (.inr (.inl ⟨_, _, _, _, rfl, rfl, l _ _ s1, l _ _ s2, by rw [r1.length, r2.length]; exact Nat.le_of_lt hz, Fin.lst h l p (r1.append r2)⟩))
  · obtain ⟨hz, h⟩ := small_ok h
    cases h1 with
    | tup s1 r1 =>
      cases h2 with
      | tup s2 r2 =>
        refine .inr (.inr (.inr ⟨_, _, _, _, rfl, rfl, sq_mono_t l s1, sq_mono_t l s2, by rw [r1.length, r2.length]; exact Nat.le_of_lt hz, fun e => ?_, fun _ e => ?_, fun _ _ => Fin.tup h l p (r1.append r2)⟩))
        · have e1 := r1.nil_iff.mp e
          subst e1
          exact Fin.val h l p (.tup s2 r2)
        · have e1 := r2.nil_iff.mp e
          subst e1
          rw [List.append_nil] at h
          exact Fin.val h l p (.tup s1 r1)
  · exact h.elim
/-- a * b -/
def vMul (a b : D) : M Wv := match a, b with
  | .int i, .int j => if (-(2 ^ 64) < i ∧ i < 2 ^ 64) ∨ (-(2 ^ 64) < j ∧ j < 2 ^ 64) then .ok (.dat (.int (i * j))) else .bad
  | .list xs, .int k => if 0 ≤ k ∧ k ≤ 1000 then small (xs.length * k.toNat) (.ok (.own (List.replicate k.toNat xs).flatten)) else .bad
  | .tuple xs, .int k => if 1 ≤ k ∧ k ≤ 1000 ∧ xs.length ≤ 1000 then .ok (.dat (.tuple (List.replicate k.toNat xs).flatten)) else .bad
  | _, _ => .bad
def opMul (u w : Wv) : M Wv := u.d >>= fun a => w.d >>= fun b => vMul a b
theorem DRs.rep {F : Hp} {vs : List V} {ds : List D} (h : DRs K F vs ds) : ∀ n : Nat, DRs K F (List.replicate n vs).flatten (List.replicate n ds).flatten
  | 0 => .nil
  | n + 1 => by
    simp only [List.replicate_succ, List.flatten_cons]
    exact h.append (DRs.rep h n)
theorem ok_opMul : OpOk K (fun x y H Q => (rI CMul (fun i j => .int (i * j)) x y H Q ∨ rRep x y H Q) ∨ rRepT K x y H Q ∨ rRepS K x y H Q) opMul := fun pi H F x y u w Q E l p g1 g2 h => by
  obtain ⟨a, rfl, h1, h⟩ := gd g1 h
  obtain ⟨b, rfl, h2, h⟩ := gd g2 h
  unfold vMul at h
  split at h
  · cases h1
    cases h2
    split at h
    · rename_i c
      exact .inl (.inl ⟨_, _, rfl, rfl, c, Fin.val h l p (.int _)⟩)
    · exact h.elim
  · cases h2
    split at h
    · rename_i c
      obtain ⟨hz, h⟩ := small_ok h
      cases h1 with
      | lst s1 r1 => exact .inl (.inr ⟨_, _, _, rfl, rfl, l _ _ s1, by omega, by omega, by rw [r1.length]; exact Nat.le_of_lt hz, Fin.lst h l p (r1.rep _)⟩)
    · exact h.elim
  · rename_i xs k _ _
    cases h2
    split at h
    · rename_i c
      cases h1 with
      | tup s1 r1 =>
        have s2 := sq_mono_t l s1
        by_cases hk : k = 1
        · subst hk
          refine .inr (.inr ⟨_, _, _, rfl, rfl, s2, .inr rfl, by omega, by omega, ?_⟩)
          refine Fin.val h l p (.tup s1 ?_)
          simpa using r1
        · by_cases hx : xs = []
          · subst hx
            cases r1
            refine .inr (.inr ⟨_, _, _, rfl, rfl, s2, .inl rfl, by omega, by omega, ?_⟩)
            refine Fin.val h l p (.tup s1 ?_)
            rw [show (List.replicate k.toNat ([] : List D)).flatten = [] by simp]
            exact .nil
          · refine .inr (.inl ⟨_, _, _, rfl, rfl, s2, fun e => hx ?_, by omega, by omega, by rw [r1.length]; omega, ?_⟩)
            · subst e
              cases r1
              rfl
            · exact Fin.tup h l p (r1.rep _)
    · exact h.elim
  · exact h.elim
/-- is None -/
def isNon : D → Bool
  | .none => true
  | _ => false
def opIsN (u w : Wv) : M Wv := match w with
  | .dat .none => u.d >>= fun a => .ok (.dat (.bool (isNon a)))
  | _ => .bad
def opNotN (u w : Wv) : M Wv := match w with
  | .dat .none => u.d >>= fun a => .ok (.dat (.bool (!isNon a)))
  | _ => .bad
theorem dr_none {F : Hp} {x : V} {d : D} (h : DR K F x d) : decide (x = .non) = isNon d := by cases h <;> rfl
theorem ok_opIsN : OpOk K (fun x y H Q => y = .non ∧ Q (.bl (decide (x = .non))) H) opIsN := fun pi H F x y u w Q E l p g1 g2 h => by
  unfold opIsN at h
  split at h
  · obtain ⟨a, rfl, h1, h⟩ := gd g1 h
    have g2' : DR K F y .none := g2
    cases g2'
    refine ⟨rfl, ?_⟩
    rw [dr_none h1]
    exact Fin.val h l p (.bl _)
  · exact h.elim
theorem ok_opNotN : OpOk K (fun x y H Q => y = .non ∧ Q (.bl (!decide (x = .non))) H) opNotN := fun pi H F x y u w Q E l p g1 g2 h => by
  unfold opNotN at h
  split at h
  · obtain ⟨a, rfl, h1, h⟩ := gd g1 h
    have g2' : DR K F y .none := g2
    cases g2'
    refine ⟨rfl, ?_⟩
    rw [dr_none h1]
    exact Fin.val h l p (.bl _)
  · exact h.elim
/-- xs[i] -/
def vIx (a b : D) : M Wv := match a, b with
  | .list xs, .int i => (match atI xs i with | some d => .ok (.dat d) | none => .bad)
  | .tuple xs, .int i => (match atI xs i with | some d => .ok (.dat d) | none => .bad)
  | .str z, .int i => small z.length (match atI z.cps.toList i with | some c => .ok (.dat (.str ⟨#[c]⟩)) | none => .bad)
  | _, _ => .bad
def opIx (u w : Wv) : M Wv := u.d >>= fun a => w.d >>= fun b => vIx a b
theorem DRs.atI {F : Hp} {vs : List V} {ds : List D} {i : Int} {d : D} (h : DRs K F vs ds) (e : L2.atI ds i = some d) : ∃ v, L2.atI vs i = some v ∧ DR K F v d := by
  unfold L2.atI at e ⊢
  rw [h.length]
  cases q : ixN ds.length i with
  | none => rw [q] at e; cases e
  | some j =>
    rw [q] at e
    exact h.get e
theorem ok_opIx : OpOk K (rIx K) opIx := fun pi H F x y u w Q E l p g1 g2 h => by
  obtain ⟨a, rfl, h1, h⟩ := gd g1 h
  obtain ⟨b, rfl, h2, h⟩ := gd g2 h
  unfold vIx at h
  split at h
  · cases h2
    split at h
    · rename_i d e
      cases h1 with
      | lst s1 r1 =>
        obtain ⟨v, e2, r⟩ := r1.atI e
        exact .inl ⟨_, _, _, v, rfl, rfl, SqL.of (l _ _ s1), e2, Fin.val (w := .dat d) h l p r⟩
    · exact h.elim
  · cases h2
    split at h
    · rename_i d e
      cases h1 with
      | tup s1 r1 =>
        obtain ⟨v, e2, r⟩ := r1.atI e
        exact .inr (.inl ⟨_, _, _, v, rfl, rfl, sq_mono_t l s1, e2, Fin.val (w := .dat d) h l p r⟩)
    · exact h.elim
  · cases h2
    cases h1
    obtain ⟨hz, h⟩ := small_ok h
    split at h
    · rename_i ch e
      exact .inr (.inr ⟨_, _, ch, rfl, rfl, Nat.le_of_lt hz, e, Fin.val (w := .dat (.str ⟨#[ch]⟩)) h l p (.str _)⟩)
    · exact h.elim
  · exact h.elim
end
end DL

namespace DL
open PySem PySem.Spec PyProof.Rows L2 SeqAt

/-! ## builtins over results -/
def f1 (g : D → M Wv) (ws : List Wv) : M Wv := match ws with
  | [u] => u.d >>= g
  | _ => .bad
def f2 (g : D → D → M Wv) (ws : List Wv) : M Wv := match ws with
  | [u, w] => u.d >>= fun a => w.d >>= fun b => g a b
  | _ => .bad
section
variable {K : PySem.W.Frag} {pi : Pot} {H F : Hp} {Q : VK} {E : Ex → Prop}
theorem f1_ok {g : D → M Wv} {xs : List V} {us : List Wv} {Q : Wv → Prop} (gs : Gvs K pi F xs us) (h : (f1 g us).post Q E) : ∃ x d, xs = [x] ∧ DR K F x d ∧ (g d).post Q E := by
  unfold f1 at h
  split at h
  · cases gs with
    | cons g1 t =>
      cases t
      obtain ⟨d, rfl, hd, h⟩ := gd g1 h
      exact ⟨_, d, rfl, hd, h⟩
  · exact h.elim
theorem f2_ok {g : D → D → M Wv} {xs : List V} {us : List Wv} {Q : Wv → Prop} (gs : Gvs K pi F xs us) (h : (f2 g us).post Q E) : ∃ x y d e, xs = [x, y] ∧ DR K F x d ∧ DR K F y e ∧ (g d e).post Q E := by
  unfold f2 at h
  split at h
  · cases gs with
    | cons g1 t =>
      cases t with
      | cons g2 t =>
        cases t
        obtain ⟨d, rfl, hd, h⟩ := gd g1 h
        obtain ⟨e, rfl, he, h⟩ := gd g2 h
        exact ⟨_, _, d, e, rfl, hd, he, h⟩
  · exact h.elim
/-- len -/
def vLen : D → M Wv
  | .list xs => .ok (.dat (.int xs.length))
  | .tuple xs => .ok (.dat (.int xs.length))
  | .str z => small z.length (.ok (.dat (.int z.length)))
  | _ => .bad
theorem ok_len : CbOk K (fun xs H Q => ∃ x n, xs = [x] ∧ LenV K x H n ∧ Q (.int n) H) (f1 vLen) := fun pi H F xs us Q E l p gs h => by
  obtain ⟨x, d, rfl, hd, h⟩ := f1_ok gs h
  refine ⟨x, ?_⟩
  unfold vLen at h
  split at h
  · cases hd with
    | lst s r => exact ⟨_, rfl, .inl ⟨_, SqL.of (l _ _ s), rfl⟩, by rw [r.length]; exact Fin.val h l p (.int _)⟩
  · cases hd with
    | tup s r => exact ⟨_, rfl, .inr ⟨_, sq_mono_t l s, rfl⟩, by rw [r.length]; exact Fin.val h l p (.int _)⟩
  · cases hd
    obtain ⟨hz, h⟩ := small_ok h
    exact ⟨_, rfl, ⟨Nat.le_of_lt hz, rfl⟩, Fin.val h l p (.int _)⟩
  · exact h.elim
/-- isinstance -/
def tyN : D → String
  | .none => "NoneType"
  | .bool _ => "bool"
  | .int _ => "int"
  | .str _ => "str"
  | .list _ => "list"
  | .tuple _ => "tuple"
  | .dict _ => "dict"
def opIsi (n : String) (ws : List Wv) : M Wv := match ws with
  | [u, .raw (.ty m)] => if m = n then u.d >>= fun d => (match kitB (tyN d) n with | some b => .ok (.dat (.bool b)) | none => .bad) else .bad
  | _ => .bad
theorem dr_ty {x : V} {d : D} (l : Same F H) (h : DR K F x d) : TyX K H x (.type (tyN d)) := by
  cases h with
  | non => exact .base .non
  | bl b => exact .base (.bl b)
  | int i => exact .base (.int i)
  | str x => exact .base (.str x)
  | lst s r => exact .base (.lst (l _ _ s))
  | tup s r =>
    rcases sq_mono_t l s with (q | ⟨o, q⟩) | ⟨o, its, n, q, c, _⟩
    · exact .base (.tup q)
    · exact .fTuple q
    · exact .kTuple q c
  | dct s r => exact .base (.dK (l _ _ s))
theorem ok_isi (n : String) : CbOk K (rIsi K) (opIsi n) := fun pi H F xs us Q E l p gs h => by
  unfold opIsi at h
  split at h
  · split at h
    · rename_i e
      subst e
      cases gs with
      | cons g1 t =>
        cases t with
        | cons g2 t =>
          cases t
          obtain ⟨d, rfl, hd, h⟩ := gd g1 h
          have g2' : _ = V.ty _ := g2
          subst g2'
          split at h
          · rename_i b eb
            exact ⟨_, _, _, _, b, rfl, .ty _, dr_ty l hd, kit_ty eb, Fin.val h l p (.bl _)⟩
          · exact h.elim
    · exact h.elim
  · exact h.elim
/-- all, any of True and False -/
def bools : List D → Option (List Bool)
  | [] => some []
  | .bool b :: ds => (bools ds).map (b :: ·)
  | _ :: _ => none
theorem bools_ok : ∀ {ds : List D} {vs : List V} {bs : List Bool}, DRs K F vs ds → bools ds = some bs → vs = bs.map V.bl
  | [], _, _, h, e => by
    cases h; cases e; rfl
  | d :: ds, _, bs, h, e => by
    cases h with
    | cons h1 h2 =>
      cases d <;> first | (simp only [bools] at e; cases e; done) | skip
      rename_i b
      simp only [bools] at e
      cases q : bools ds with
      | none => rw [q] at e; cases e
      | some cs =>
        rw [q] at e
        cases e
        cases h1
        rw [bools_ok h2 q]
        rfl
def vAll : D → M Wv
  | .list ds => (match bools ds with | some bs => .ok (.dat (.bool (bs.all id))) | none => .bad)
  | _ => .bad
def vAny : D → M Wv
  | .list ds => (match bools ds with | some bs => .ok (.dat (.bool (bs.any id))) | none => .bad)
  | _ => .bad
theorem ok_all : CbOk K (rAll K) (f1 vAll) := fun pi H F xs us Q E l p gs h => by
  obtain ⟨x, d, rfl, hd, h⟩ := f1_ok gs h
  unfold vAll at h
  split at h
  · split at h
    · rename_i bs e
      cases hd with
      | lst s r => exact ⟨_, bs, rfl, SqL.of (by rw [← bools_ok r e]; exact l _ _ s), Fin.val h l p (.bl _)⟩
    · exact h.elim
  · exact h.elim
theorem ok_any : CbOk K (rAny K) (f1 vAny) := fun pi H F xs us Q E l p gs h => by
  obtain ⟨x, d, rfl, hd, h⟩ := f1_ok gs h
  unfold vAny at h
  split at h
  · split at h
    · rename_i bs e
      cases hd with
      | lst s r => exact ⟨_, bs, rfl, SqL.of (by rw [← bools_ok r e]; exact l _ _ s), Fin.val h l p (.bl _)⟩
    · exact h.elim
  · exact h.elim
def intsO : List D → Option (List Int)
  | [] => some []
  | .int b :: ds => (intsO ds).map (b :: ·)
  | _ :: _ => none
theorem intsO_ok : ∀ {ds : List D} {vs : List V} {bs : List Int}, DRs K F vs ds → intsO ds = some bs → vs = bs.map V.int
  | [], _, _, h, e => by
    cases h; cases e; rfl
  | d :: ds, _, bs, h, e => by
    cases h with
    | cons h1 h2 =>
      cases d <;> first | (simp only [intsO] at e; cases e; done) | skip
      rename_i b
      simp only [intsO] at e
      cases q : intsO ds with
      | none => rw [q] at e; cases e
      | some cs =>
        rw [q] at e
        cases e
        cases h1
        rw [intsO_ok h2 q]
        rfl
def vSum : D → M Wv
  | .list ds => (match intsO ds with | some bs => .ok (.dat (.int bs.sum)) | none => .bad)
  | _ => .bad
theorem ok_sum : CbOk K (rSum K) (f1 vSum) := fun pi H F xs us Q E l p gs h => by
  obtain ⟨x, d, rfl, hd, h⟩ := f1_ok gs h
  unfold vSum at h
  split at h
  · split at h
    · rename_i bs e
      cases hd with
      | lst s r => exact ⟨_, bs, rfl, SqL.of (by rw [← intsO_ok r e]; exact l _ _ s), Fin.val h l p (.int _)⟩
    · exact h.elim
  · exact h.elim
def vI2 (g : Int → Int → Int) (a b : D) : M Wv := match a, b with
  | .int i, .int j => .ok (.dat (.int (g i j)))
  | _, _ => .bad
theorem ok_i2 {g : Int → Int → Int} : CbOk K (fun xs H Q => ∃ i j, xs = [.int i, .int j] ∧ Q (.int (g i j)) H) (f2 (vI2 g)) := fun pi H F xs us Q E l p gs h => by
  obtain ⟨x, y, d, e, rfl, hd, he, h⟩ := f2_ok gs h
  unfold vI2 at h
  split at h
  · cases hd
    cases he
    exact ⟨_, _, rfl, Fin.val h l p (.int _)⟩
  · exact h.elim
def vAbs : D → M Wv
  | .int i => .ok (.dat (.int (if i < 0 then -i else i)))
  | _ => .bad
theorem ok_abs : CbOk K (fun xs H Q => ∃ i, xs = [.int i] ∧ Q (.int (if i < 0 then -i else i)) H) (f1 vAbs) := fun pi H F xs us Q E l p gs h => by
  obtain ⟨x, d, rfl, hd, h⟩ := f1_ok gs h
  unfold vAbs at h
  split at h
  · cases hd
    exact ⟨_, rfl, Fin.val h l p (.int _)⟩
  · exact h.elim
/-- int of an int, of a truth value -/
def vInt : D → M Wv
  | .int i => .ok (.dat (.int i))
  | .bool k => .ok (.dat (.int (if k then 1 else 0)))
  | _ => .bad
theorem ok_int1 : CbOk K (fun xs H Q => (∃ i, xs = [.int i] ∧ Q (.int i) H) ∨ ∃ k, xs = [.bl k] ∧ Q (.int (if k then 1 else 0)) H) (f1 vInt) := fun pi H F xs us Q E l p gs h => by
  obtain ⟨x, d, rfl, hd, h⟩ := f1_ok gs h
  unfold vInt at h
  split at h
  · cases hd
    exact .inl ⟨_, rfl, Fin.val h l p (.int _)⟩
  · cases hd
    exact .inr ⟨_, rfl, Fin.val h l p (.int _)⟩
  · exact h.elim
/-- tuple(x), list(x) of a list, a tuple -/
def vTuple : D → M Wv
  | .list xs => .ok (.dat (.tuple xs))
  | .tuple xs => .ok (.dat (.tuple xs))
  | _ => .bad
def vList : D → M Wv
  | .list xs => .ok (.own xs)
  | .tuple xs => .ok (.own xs)
  | _ => .bad
theorem ok_tuple : CbOk K (fun xs H Q => ∃ p ys, xs = [.ref p] ∧ ((SqL K H p ys ∧ ∀ l, H l = none → Q (.ref l) (upd H l (.tup ys))) ∨ (SqT K H p ys ∧ Q (.ref p) H))) (f1 vTuple) := fun pi H F xs us Q E l p gs h => by
  obtain ⟨x, d, rfl, hd, h⟩ := f1_ok gs h
  unfold vTuple at h
  split at h
  · cases hd with
    | lst s r => exact ⟨_, _, rfl, .inl ⟨SqL.of (l _ _ s), Fin.tup h l p r⟩⟩
  · cases hd with
    | tup s r => exact ⟨_, _, rfl, .inr ⟨sq_mono_t l s, Fin.val h l p (.tup s r)⟩⟩
  · exact h.elim
theorem ok_list : CbOk K (fun xs H Q => ∃ p ys, xs = [.ref p] ∧ (SqL K H p ys ∨ SqT K H p ys) ∧ ∀ l, H l = none → Q (.ref l) (upd H l (.lst ys))) (f1 vList) := fun pi H F xs us Q E l p gs h => by
  obtain ⟨x, d, rfl, hd, h⟩ := f1_ok gs h
  unfold vList at h
  split at h
  · cases hd with
    | lst s r => exact ⟨_, _, rfl, .inl (SqL.of (l _ _ s)), Fin.lst h l p r⟩
  · cases hd with
    | tup s r => exact ⟨_, _, rfl, .inr (sq_mono_t l s), Fin.lst h l p r⟩
  · exact h.elim
end

/-! ## repr -/
/-- the machine's own dict of modules is no part of what is made -/
def SysIn (base : Heap) : Prop := ∃ o, base.get? sysModules = some o
def rRepr (K : PySem.W.Frag) : List V → Hp → VK → Prop := fun xs H Q => ∃ F x d, xs = [x] ∧ Same F H ∧ DR K F x d ∧ d.showable = true ∧ d.depth ≤ 64 ∧ d.shown.length ≤ sizeLine ∧ Q (.str d.shown) H
theorem cr_repr {X : Cx} (guard : X.A.guards = some []) (hu : X.A.units + 100 < cLine) (hb : SysIn X.base) : CallR X (.builtin "repr") (rRepr X.K) := by
  intro pins s σ H xs us Q I r h
  obtain ⟨F, x, d, rfl, l, hd, hs, hz, hl, q⟩ := h
  obtain ⟨u, rfl, ru⟩ := vals1 r
  obtain ⟨as, rd, na⟩ := DR.reads I l hd u ru
  have hsm : d.hasDict = true → sysModules ∉ as := fun _ hm => by
    obtain ⟨o, ho⟩ := hb
    exact na _ hm (I.bs _ _ ho).2
  cases rd with
  | none =>
    have e : PyData.shown .none = ("None" : Str) := by rw [PyData.shown]
    rw [e] at q
    exact PySem.P.repr_of_none ⟨.str _, H, I.tok _, ⟨_, rfl⟩, q⟩
  | bool b =>
    have e : PyData.shown (.bool b) = (if b then ("True" : Str) else ("False" : Str)) := by rw [PyData.shown]
    rw [e] at q
    exact PySem.P.repr_of_bool ⟨.str _, H, I.tok _, ⟨_, rfl⟩, q⟩
  | int i t =>
    have e : PyData.shown (.int i) = toString i := by rw [PyData.shown]
    rw [e] at q
    have e2 : i.natAbs.log2 < 1920 := by simpa [PyData.showable] using hs
    exact PySem.P.repr_of_int e2 ⟨.str _, H, I.tok _, ⟨_, rfl⟩, q⟩
  | str z t =>
    have e : PyData.shown (.str z) = reprText z := by rw [PyData.shown]
    rw [e] at q hl
    exact PySem.P.repr_of_str ⟨.str _, H, I.tok _, ⟨_, rfl⟩, q⟩ hl
  | list h1 h2 h3 h4 =>
    exact repr_of_reads' (.list h1 h2 h3 h4) hs hsm guard (by omega) (fun _ _ e => e) (fun h' u tk hk => ⟨.str _, H, (I.kept (t' := tk) hk), ⟨_, rfl⟩, q⟩) hl
  | tuple h1 h2 h3 h4 =>
    exact repr_of_reads' (.tuple h1 h2 h3 h4) hs hsm guard (by omega) (fun _ _ e => e) (fun h' u tk hk => ⟨.str _, H, (I.kept (t' := tk) hk), ⟨_, rfl⟩, q⟩) hl
  | dict h1 h2 h3 h4 h5 =>
    exact repr_of_reads' (.dict h1 h2 h3 h4 h5) hs hsm guard (by omega) (fun _ _ e => e) (fun h' u tk hk => ⟨.str _, H, (I.kept (t' := tk) hk), ⟨_, rfl⟩, q⟩) hl
def vRepr (d : D) : M Wv := if (d.showable && decide (d.depth ≤ 64)) = true then small d.shown.length (.ok (.dat (.str d.shown))) else .bad
theorem ok_repr {K : PySem.W.Frag} : CbOk K (rRepr K) (f1 vRepr) := fun pi H F xs us Q E l p gs h => by
  obtain ⟨x, d, rfl, hd, h⟩ := f1_ok gs h
  unfold vRepr at h
  split at h
  · rename_i c
    obtain ⟨c1, c2⟩ := Bool.and_eq_true_iff.mp c
    obtain ⟨hz, h⟩ := small_ok h
    exact ⟨F, x, d, rfl, l, hd, c1, of_decide_eq_true c2, Nat.le_of_lt hz, Fin.val h l p (.str _)⟩
  · exact h.elim
end DL

namespace DL
open PySem PySem.Spec PyProof.Rows L2 SeqAt HT

/-! ## t[::-1] of a tuple -/
section
variable {prog : Program} {w : World} {A : Around} {E : Value → Shared → Prop} {s : Shared}
theorem adjust_rev (n : Nat) : Builtin.Slice.sliceAdjust none none (-1) (n : Int) = ((n : Int) - 1, -1) := by
  unfold Builtin.Slice.sliceAdjust
  simp
theorem places_rev (n : Nat) : Builtin.Slice.slicePlaces ((n : Int) - 1) (-1) (-1) = n := by
  unfold Builtin.Slice.slicePlaces
  simp
  try split
  all_goals omega
theorem applied_rev {sl : Addr} {vl vu : Value} {t : Tok} {n : Nat} {Q : Int × Int × Nat → Shared → Prop} (hs : s.heap.IsSliceOf sl vl vu (.int (-1) t)) (pl : IsPart vl none) (pu : IsPart vu none)
    (h : Q ((n : Int) - 1, -1, n) s) : wpAny (model prog w) A (Builtin.Slice.sliceApplied (.ref sl) (pure (n : Int))) Q E s := by
  obtain ⟨os, hos, hcs, hds⟩ := id hs
  unfold Builtin.Slice.sliceApplied Builtin.Slice.sliceFields
  refine wpAny_bind (wpAny_bind (wpAny_field hos hds (x := vl) rfl (wpAny_bind (wpAny_field hos hds (x := vu) rfl (wpAny_bind (wpAny_field hos hds (x := .int (-1) t) rfl (wpAny_pure ?_)))))))
  refine wpAny_bind (slicePart_int ?_)
  show wpAny _ _ (if ((-1 : Int) == 0) = true then _ else _) _ _ s
  rw [if_neg (by decide)]
  refine wpAny_bind (slicePart_ pl (wpAny_bind (slicePart_ pu (wpAny_bind (wpAny_pure ?_)))))
  show wpAny _ _ (match Builtin.Slice.sliceAdjust none none (-1) (n : Int) with | (a, b) => pure (a, (-1 : Int), Builtin.Slice.slicePlaces a b (-1))) _ _ s
  rw [adjust_rev]
  show wpAny _ _ (pure ((n : Int) - 1, (-1 : Int), Builtin.Slice.slicePlaces ((n : Int) - 1) (-1) (-1))) _ _ s
  rw [places_rev]
  exact wpAny_pure h
theorem fm_map {α β : Type} {f : α → Option β} {g : α → β} : ∀ l : List α, (∀ m ∈ l, f m = some (g m)) → l.filterMap f = l.map g
  | [], _ => rfl
  | a :: l, h => by
    rw [List.filterMap_cons, h a (List.mem_cons_self ..), List.map_cons]
    exact congrArg _ (fm_map l fun m hm => h m (List.mem_cons_of_mem _ hm))
theorem pick_rev (xs : Array Value) : ((List.range xs.size).filterMap fun (m : Nat) => xs[(((xs.size : Int) - 1) + (m : Int) * (-1)).toNat]?) = xs.toList.reverse := by
  have e : ∀ m ∈ List.range xs.size, xs[(((xs.size : Int) - 1) + (m : Int) * (-1)).toNat]? = some (xs.toList.reverse.getD m .none) := fun m hm => by
    have hl : m < xs.size := List.mem_range.mp hm
    have e1 : (((xs.size : Int) - 1) + (m : Int) * (-1)).toNat = xs.size - 1 - m := by omega
    rw [e1, List.getD_eq_getElem?_getD, List.getElem?_reverse (by simpa using hl)]
    simp only [Array.length_toList]
    rw [List.getElem?_eq_getElem (by simp; omega), Array.getElem?_eq_getElem (by omega)]
    simp
  rw [fm_map _ e]
  apply List.ext_getElem
  · simp
  · intro i h1 h2
    simp at h1 h2 ⊢
    rw [List.getElem?_eq_getElem (by simp; omega)]
    simp
theorem getItem_tuple_rev {t sl : Addr} {items : Array Value} {vl vu : Value} {tk : Tok} {Q : Value → Shared → Prop} (ht : IsTup s.heap t items) (hs : s.heap.IsSliceOf sl vl vu (.int (-1) tk)) (pl : IsPart vl none) (pu : IsPart vu none)
    (h : Q (.ref s.heap.objs.size) { s with heap := s.heap.push { cls := .type "tuple", data := .seq items.toList.reverse.toArray } })
    (hsz : items.size ≤ sizeLine) : wpAny (model prog w) A (getItem (.ref t) (.ref sl)) Q E s := by
  have htake : sizeOk (.seq items.toList.reverse.toArray) := by
    show items.toList.reverse.toArray.size ≤ sizeLine
    simpa using hsz
  obtain ⟨os, hos, hcs, hds⟩ := id hs
  have hTs : s.TypeIs (.ref sl) "slice" := ⟨os, hos, hcs⟩
  unfold getItem
  try with_reducible refine wpAny_holding ?_
  first | refine wpAny_bind (wpAny_pure ?_) | skip
  refine wpAny_bind (wpAny_sequenceKey ht.typeIs (by decide) ?_)
  refine wpAny_bind (wpAny_callSpecial?_slot (name := Str.ofString "__getitem__") ht.typeIs PyProof.Rows.slot_tuple_getitem
    (wpAny_call_entry PyProof.Rows.slot_tuple_getitem ht.typeIs entry_tuple_getitem ?_ (args_tuple_getitem _ _)))
  show wpAny _ _ (Builtin.Tuple.tupleItemsOf (.ref t) >>= _) _ _ s
  refine wpAny_bind (tupleItemsOf_ ht ?_)
  refine wpAny_bind (wpAny_typeOf hTs ?_)
  rw [if_pos (by decide)]
  refine wpAny_bind (applied_rev hs pl pu ?_)
  have hno : ¬ ((((items.size : Int) - 1) == 0 && (-1 : Int) == 1 && items.size == items.size) = true) := by simp
  show wpAny _ _ (if ((((items.size : Int) - 1) == 0 && (-1 : Int) == 1 && items.size == items.size)) = true then _ else _) _ _ s
  rw [if_neg hno, pick_rev]
  first
    | exact wpAny_bind (m := Builtin.Tuple.tupleExact _) (wpAny_newObj_type (wpAny_pure ⟨_, rfl, wpAny_pure h⟩) htake)
    | exact wpAny_bind (m := Builtin.Tuple.tupleExact _) (wpAny_newObj_type (wpAny_bind (wpAny_pure (wpAny_pure ⟨_, rfl, wpAny_pure h⟩))) htake)
    | exact wpAny_bind (wpAny_bind (m := Builtin.Tuple.tupleExact _) (wpAny_newObj_type (wpAny_pure (wpAny_pure ⟨_, rfl, wpAny_pure h⟩)) htake))
    | exact wpAny_bind (wpAny_bind (m := Builtin.Tuple.tupleExact _) (wpAny_newObj_type (wpAny_pure ⟨_, rfl, wpAny_pure h⟩) htake))
end

/-! ## slices -/
def tRev1 (K : PySem.W.Frag) (te : TE) : TE := fun σ H Q => te σ H fun x H1 => ∃ a xs, x = .ref a ∧ ((SqL K H1 a xs ∧ ∀ p, H1 p = none → Q (.ref p) (upd H1 p (.lst xs.reverse))) ∨ (SqT K H1 a xs ∧ ∀ p, H1 p = none → Q (.ref p) (upd H1 p (.tup xs.reverse))))
theorem pe_rev1 {X : Cx} {e : Expr} {te : TE} {k : Nat} {p1 p2 p3 pos : Pos} (he : PE X e te) : PE X (.Subscript e (.Slice none none (some (.UnaryOp .USub (.Constant (.int 1) k p1) p2)) p3) pos) (tRev1 X.K te) := by
  refine ⟨fun pins s σ H Q I h => ?_⟩
  refine Subscript_ (thn (he.run pins s σ H _ I h) fun v s1 ⟨x, H1, I1, r1, q1⟩ => ?_)
  obtain ⟨a, xs, ex, q⟩ := q1
  subst ex
  cases r1
  have hst : PO X (some (.UnaryOp .USub (.Constant (.int 1) k p1) p2)) (tPart (tUn (rU fun i => .int (-i)) (tC (.int 1)))) := po_some (pe_un un_neg pe_int)
  refine wpAny_Slice (thn (po_none.run pins s1 σ H1 (fun o H2 => o = none ∧ H2 = H1) I1 ⟨rfl, rfl⟩) fun vl s2 ⟨l, H2, I2, pl, el, e2⟩ => ?_)
  subst el e2
  refine thn (po_none.run pins s2 σ H2 (fun o H3 => o = none ∧ H3 = H2) I2 ⟨rfl, rfl⟩) fun vu s3 ⟨u, H3, I3, pu, eu, e3⟩ => ?_
  subst eu e3
  refine thn (hst.run pins s3 σ H3 (fun o H4 => o = some (-1) ∧ H4 = H3) I3 ⟨1, rfl, -1, rfl, rfl, rfl⟩) fun vs s4 ⟨o, H4, I4, ps, eo, e4⟩ => ?_
  subst eo e4
  have I5 : Inv X pins σ H4 { s4 with heap := s4.heap.push { cls := .type "slice", data := .fields #[vl, vu, vs] } } := I4.kept (t' := s4.toks) fun b ob q => Heap.get?_push_of_some _ q
  show wpAny (model X.prog X.w) X.A (subscriptTail e (.Slice none none (some (.UnaryOp .USub (.Constant (.int 1) k p1) p2)) p3) (.ref a) (.ref s4.heap.objs.size)) (EP X pins σ Q) X.xe { s4 with heap := s4.heap.push { cls := .type "slice", data := .fields #[vl, vu, vs] } }
  rcases q with ⟨hx, q⟩ | ⟨hx, q⟩
  · obtain ⟨its, r, ht, hz⟩ := I5.list hx
    have hlen := r.length
    refine tail_any (ops := [.ref a, .ref s4.heap.objs.size]) ht.isList.typeIs (PySem.slot_list_getitem.lookup) ?_ (by with_unfolding_all rfl)
    refine wpAny_getItem_list_slice ht.isList (Heap.IsSliceOf.new _ vl vu vs) pl pu ps (by decide) ?_ (by rw [List.size_toArray]; omega)
    rw [PySem.W.krv_pick]
    refine ⟨.ref _, _, I5.laid (t' := s4.toks) (o := .lst xs.reverse) (fun b ob q => Heap.get?_push_of_some _ q) (Nat.le_refl _) ?_, rfl, q _ (I5.hok.fresh (Nat.le_refl _))⟩
    exact ⟨by rw [List.length_reverse]; exact hz, _, 0, r.reverse, Heap.get?_push_size _ rfl⟩
  · obtain ⟨its, r, ht, hz⟩ := I5.tuple hx
    have hlen := r.length
    refine tail_any (ops := [.ref a, .ref s4.heap.objs.size]) ht.typeIs (PyProof.Rows.slot_tuple_getitem.lookup) ?_ (by with_unfolding_all rfl)
    cases ps
    refine getItem_tuple_rev ht (Heap.IsSliceOf.new _ vl vu _) pl pu ?_ (by rw [List.size_toArray]; omega)
    refine ⟨.ref _, _, I5.laid (t' := s4.toks) (o := .tup xs.reverse) (fun b ob q => Heap.get?_push_of_some _ q) (Nat.le_refl _) ?_, rfl, q _ (I5.hok.fresh (Nat.le_refl _))⟩
    refine ⟨by rw [List.length_reverse]; exact hz, _, r.reverse, ?_⟩
    have e : its.toArray.toList.reverse.toArray = its.reverse.toArray := by simp
    rw [e]
    exact IsTup.new _ _
def vRev : D → M Wv
  | .list xs => .ok (.own xs.reverse)
  | .tuple xs => .ok (.dat (.tuple xs.reverse))
  | _ => .bad
section
variable {X : Cx} {c : Act} {Wx : WX} {e : Expr} {f : En → M Wv}
theorem de_rev {k : Nat} {p1 p2 p3 pos : Pos} (he : DE X c Wx e f) : DE X c Wx (.Subscript e (.Slice none none (some (.UnaryOp .USub (.Constant (.int 1) k p1) p2)) p3) pos) (fun ρ => f ρ >>= fun u => u.give.d >>= vRev) :=
  PE.imp (pe_rev1 he) fun σ H Q ⟨F, ρ, I, p⟩ => ev_split I p fun u x H1 F1 I1 s1 g1 p1 => by
    obtain ⟨d, e, hd, p1⟩ := gd g1 p1
    have p2 := M.post_mono (Q' := fun z => ∀ H' F', Step c.pi H1 F1 H' F' → ∀ v, Res X.K c.pi H1 H' F' v z → Q v H') p1 (fun z q H' F' t v r => q H' F' t v (r.older I.pot s1)) fun _ z => z
    unfold vRev at p2
    split at p2
    · cases hd with
      | lst s r => exact ⟨_, _, rfl, .inl ⟨SqL.of (I1.le _ _ s), Fin.lst p2 I1.le I1.pot r.reverse⟩⟩
    · cases hd with
      | tup s r => exact ⟨_, _, rfl, .inr ⟨sq_mono_t I1.le s, Fin.tup p2 I1.le I1.pot r.reverse⟩⟩
    · exact p2.elim
/-- a part of a slice -/
def EvO (K : PySem.W.Frag) (mg : Str → Option Value) (c : Act) (Wx : WX) (f : En → M (Option Int)) : TO := fun σ H Q => ∃ F ρ, SR K c σ H F ρ ∧ Pend K mg c Wx σ H F (f ρ) fun o H' _ => Q o H'
abbrev DO (X : Cx) (c : Act) (Wx : WX) (e : Option Expr) (f : En → M (Option Int)) : Prop := PO X e (EvO X.K X.mg c Wx f)
theorem PO.imp {X : Cx} {e : Option Expr} {t t' : TO} (h : PO X e t) (hi : ∀ σ H Q, t' σ H Q → t σ H Q) : PO X e t' := ⟨fun pins s σ H Q I q => h.run pins s σ H Q I (hi _ _ _ q)⟩
def oN (_ : En) : M (Option Int) := .ok none
def asI : Wv → M Int
  | .dat (.int i) => .ok i
  | _ => .bad
@[simp] theorem asI_int (i : Int) : asI (.dat (.int i)) = .ok i := rfl
def oS (f : En → M Wv) (ρ : En) : M (Option Int) := f ρ >>= fun u => asI u >>= fun i => .ok (some i)
theorem asI_ok {α : Type} {K : PySem.W.Frag} {pi : Pot} {F : Hp} {u : Wv} {k : Int → M α} {x : V} {Q : α → Prop} {E : Ex → Prop} (g : Gv K pi F x u.give) (p : (asI u >>= k).post Q E) : ∃ i, x = .int i ∧ (k i).post Q E := by
  unfold asI at p
  split at p
  · rename_i i
    have g' : DR K F x (.int i) := g
    cases g'
    exact ⟨i, rfl, p⟩
  · exact False.elim p
theorem do_none : DO X c Wx none oN := PO.imp po_none fun σ H Q ⟨F, ρ, I, p⟩ => p H F (step_refl I)
theorem do_some (h : DE X c Wx e f) : DO X c Wx (some e) (oS f) := PO.imp (po_some h) fun σ H Q ⟨F, ρ, I, p⟩ => ev_split I p fun u x H1 F1 I1 s1 g1 p1 => by
  obtain ⟨i, rfl, p1⟩ := asI_ok g1 p1
  exact ⟨i, rfl, p1 H1 F1 (step_refl I1)⟩
theorem eo_split {α : Type} {K : PySem.W.Frag} {mg : Str → Option Value} {σ : L2.St} {H F : Hp} {ρ : En} {f : En → M (Option Int)} {k : Option Int → M α} {S : α → Hp → Hp → Prop} {R : Option Int → Hp → Prop} (I : SR K c σ H F ρ) (p : Pend K mg c Wx σ H F (f ρ >>= k) S)
    (h : ∀ b H1 F1, SR K c σ H1 F1 ρ → Step c.pi H F H1 F1 → Pend K mg c Wx σ H1 F1 (k b) S → R b H1) : EvO K mg c Wx f σ H R :=
  ⟨F, ρ, I, M.post_mono p.bind (fun b q H1 F1 s => h b H1 F1 (I.step s) s (Pend.move q I.pot s)) fun e q => q⟩
def cutD (xs : List D) (lo hi : Option Int) : List D := (xs.drop (HT.sIx xs.length 0 lo)).take (HT.sIx xs.length xs.length hi - HT.sIx xs.length 0 lo)
theorem DRs.cut {K : PySem.W.Frag} {F : Hp} {vs : List V} {ds : List D} (h : DRs K F vs ds) (lo hi : Option Int) : DRs K F (cutV vs lo hi) (cutD ds lo hi) := by
  unfold cutV cutD
  rw [h.length]
  exact (h.drop _).take _
def vCut (d : D) (lo hi : Option Int) : M Wv := match d with
  | .list xs => .ok (.own (cutD xs lo hi))
  | .tuple xs => .ok (.dat (.tuple (cutD xs lo hi)))
  | .str z => small z.length (.ok (.dat (.str (cutS z lo hi))))
  | _ => .bad
theorem cutD_all {xs : List D} {lo hi : Option Int} (h : HT.sIx xs.length 0 lo = 0 ∧ HT.sIx xs.length xs.length hi = xs.length) : cutD xs lo hi = xs := by
  unfold cutD
  rw [h.1, h.2]
  simp
theorem de_cut {lo hi : Option Expr} {fl fh : En → M (Option Int)} {pos p2 : Pos} (he : DE X c Wx e f) (hl : DO X c Wx lo fl) (hh : DO X c Wx hi fh) : DE X c Wx (.Subscript e (.Slice lo hi none p2) pos) (fun ρ => f ρ >>= fun u => fl ρ >>= fun l => fh ρ >>= fun h => u.give.d >>= fun d => vCut d l h) :=
  PE.imp (pe_slice (sl_list.or (sl_tupA.or sl_str)) he hl hh) fun σ H Q ⟨F, ρ, I, p⟩ => ev_split I p fun u x H1 F1 I1 s1 g1 p1 => eo_split I1 p1 fun l H2 F2 I2 s2 p2 => eo_split I2 p2 fun h H3 F3 I3 s3 p3 => by
    have g3 := g1.mono (s2.mono.trans s3.mono)
    obtain ⟨d, e, hd, p3⟩ := gd g3 p3
    have p4 := M.post_mono (Q' := fun z => ∀ H' F', Step c.pi H3 F3 H' F' → ∀ v, Res X.K c.pi H3 H' F' v z → Q v H') p3 (fun z q H' F' t v r => q H' F' t v (((r.older I2.pot s3).older I1.pot s2).older I.pot s1)) fun _ z => z
    unfold vCut at p4
    split at p4
    · cases hd with
      | lst s r => exact .inl ⟨_, _, rfl, SqL.of (I3.le _ _ s), Fin.lst p4 I3.le I3.pot (r.cut l h)⟩
    · cases hd with
      | tup s r =>
        refine .inr (.inl ⟨_, _, rfl, sq_mono_t I3.le s, fun q => ?_, fun _ => Fin.tup p4 I3.le I3.pot (r.cut l h)⟩)
        rw [r.length] at q
        rw [cutD_all q] at p4
        exact Fin.val p4 I3.le I3.pot (.tup s r)
    · cases hd
      obtain ⟨hz, p4⟩ := small_ok p4
      exact .inr (.inr ⟨_, rfl, Nat.le_of_lt hz, Fin.val p4 I3.le I3.pot (.str _)⟩)
    · exact p4.elim

/-! ## a < b < c -/
def chain (g g' : Wv → Wv → M Wv) (fa fb fc : En → M Wv) (ρ : En) : M Wv := fa ρ >>= fun u => fb ρ >>= fun w => g u.give w.give >>= fun z => asB z >>= fun k => if k = true then fc ρ >>= fun y => g' w.give y.give else .ok (.dat (.bool false))
end
end DL

namespace DL
open PySem PySem.Spec PyProof.Rows L2 SeqAt HT

/-! ## a < b < c of ints -/
def chainI (p p' : Int → Int → Bool) (fa fb fc : En → M Wv) (ρ : En) : M Wv := fa ρ >>= fun u => fb ρ >>= fun w => asI u >>= fun i => asI w >>= fun j =>
  if p i j = true then fc ρ >>= fun y => asI y >>= fun k => .ok (.dat (.bool (p' j k))) else .ok (.dat (.bool false))
section
variable {X : Cx} {c : Act} {Wx : WX} {e a b d : Expr} {f fa fb fc : En → M Wv} {pos : Pos}
theorem chain_post {p p' : Int → Int → Bool} {K : PySem.W.Frag} {mg : Str → Option Value} : ∀ σ H Q, Ev K mg c Wx (chainI p p' fa fb fc) σ H Q → tChain (rI0 fun i j => .bl (p i j)) (rI0 fun i j => .bl (p' i j)) (Ev K mg c Wx fa) (Ev K mg c Wx fb) (Ev K mg c Wx fc) σ H Q := fun σ H Q ⟨F, ρ, I, h⟩ =>
  ev_split I h fun u x H1 F1 I1 s1 g1 h1 => ev_split I1 h1 fun w y H2 F2 I2 s2 g2 h2 => by
    obtain ⟨i, rfl, h2⟩ := asI_ok (g1.mono s2.mono) h2
    obtain ⟨j, rfl, h2⟩ := asI_ok g2 h2
    refine ⟨i, j, rfl, rfl, p i j, rfl, ?_⟩
    cases q : p i j with
    | false =>
      rw [q, if_neg Bool.false_ne_true] at h2
      exact iteF (h2 H2 F2 (step_refl I2) (.bl false) (.bl false))
    | true =>
      rw [q, if_pos rfl] at h2
      refine iteT (ev_split I2 h2 fun z v H3 F3 I3 s3 g3 h3 => ?_)
      obtain ⟨k, rfl, h3⟩ := asI_ok g3 h3
      exact ⟨j, k, rfl, rfl, h3 H3 F3 (step_refl I3) (.bl _) (.bl _)⟩
theorem de_chain {op op' : CmpOp} {p p' : Int → Int → Bool} (ho : OpR X (compareOp op) (rI0 fun i j => .bl (p i j))) (ho' : OpR X (compareOp op') (rI0 fun i j => .bl (p' i j))) (ha : DE X c Wx a fa) (hb : DE X c Wx b fb) (hc : DE X c Wx d fc)
    (hm : lastMarks [op, op'] [b, d] = false := by with_unfolding_all rfl) : DE X c Wx (.Compare a [op, op'] [b, d] pos) (chainI p p' fa fb fc) := PE.imp (pe_chain ho ho' ha hb hc hm) chain_post
theorem dt_chain {op op' : CmpOp} {p p' : Int → Int → Bool} (ho : OpR X (compareOp op) (rI0 fun i j => .bl (p i j))) (ho' : OpR X (compareOp op') (rI0 fun i j => .bl (p' i j))) (ha : DE X c Wx a fa) (hb : DE X c Wx b fb) (hc : DE X c Wx d fc)
    (hm : lastMarks [op, op'] [b, d] = false := by with_unfolding_all rfl) : DT X c Wx (.Compare a [op, op'] [b, d] pos) (tst (chainI p p' fa fb fc)) :=
  PT.imp (pt_chain ho ho' ha hb hc hm) fun σ H Q h => chain_post σ H _ (ev_tst σ H Q h)
end

/-! ## sources -/
def asItems : D → M (List D)
  | .list xs => .ok xs
  | .tuple xs => .ok xs
  | .str z => .ok (z.cps.toList.map fun ch => .str ⟨#[ch]⟩)
  | _ => .bad
def sSeq (f : En → M Wv) (ρ : En) : M (List D) := f ρ >>= fun u => u.give.d >>= asItems
def iSeq (K : PySem.W.Frag) (te : TE) : TI := fun σ H R => te σ H fun x H1 => (∃ a, x = .ref a ∧ ((∃ xs, SqL K H1 a xs ∧ R (Itl K a) H1) ∨ (∃ xs, SqT K H1 a xs ∧ R (Itt K a) H1))) ∨ ∃ z, x = .str z ∧ R (Its z) H1
theorem pi_seq {X : Cx} {tg l : Expr} {tl : TE} (hl : PE X l tl) : PI X tg l (iSeq X.K tl) := by
  refine ⟨fun pins s σ H R I h => ?_⟩
  refine thn (hl.run pins s σ H _ I h) fun v s1 ⟨x, H1, I1, r1, q1⟩ => ?_
  rcases q1 with ⟨a, e, q1⟩ | ⟨z, e, q⟩
  · subst e
    cases r1
    rcases q1 with ⟨xs, hq, q⟩ | ⟨xs, hq, q⟩
    · obtain ⟨its, rv, p, hz⟩ := I1.list hq
      refine wpAny_pyIter_list p.isList ?_
      refine ⟨s1.heap.objs.size, [s1.heap.objs.size], _, _, H1, rfl, I1.kept (t' := s1.toks) fun b o e => Heap.get?_push_of_some _ e, turn_list a _, ⟨_, Heap.get?_push_size _ rfl, rfl, rfl⟩, fun b hb => ?_, q⟩
      have e : b = s1.heap.objs.size := by simpa using hb
      subst e
      exact I1.fpOk (Nat.le_refl _) (I1.hok.fresh (Nat.le_refl _))
    · obtain ⟨its, rv, p, hz⟩ := I1.tuple hq
      refine wpAny_pyIter_tuple (show s1.heap.IsTuple a its.toArray from p) ?_
      refine ⟨s1.heap.objs.size, [s1.heap.objs.size], _, _, H1, rfl, I1.kept (t' := s1.toks) fun b o e => Heap.get?_push_of_some _ e, turn_tuple a _, ⟨_, Heap.get?_push_size _ rfl, rfl, rfl⟩, fun b hb => ?_, q⟩
      have e : b = s1.heap.objs.size := by simpa using hb
      subst e
      exact I1.fpOk (Nat.le_refl _) (I1.hok.fresh (Nat.le_refl _))
  · subst e
    obtain ⟨t, rfl⟩ := r1
    cases ha : z.cps.all (· < 128)
    · exact wpAny_pyIter_wide ha (pi_one (tk := s1.toks) I1 _ (turn_str _ z t "str_iterator" (.inr rfl)) ⟨_, Heap.get?_push_size _ rfl, rfl, rfl⟩ q)
    · exact wpAny_pyIter_ascii ha (pi_one (tk := s1.toks) I1 _ (turn_str _ z t "str_ascii_iterator" (.inl rfl)) ⟨_, Heap.get?_push_size _ rfl, rfl, rfl⟩ q)
section
variable {K : PySem.W.Frag} {pi : Pot} {F : Hp}
theorem src_list {a : Addr} {vs : List V} {ds : List D} (h : F a = some (.lst vs)) (r : DRs K F vs ds) : SrcOk K pi (Itl K a) F ds := fun i H' F' m l p => by
  have hs : SqL K H' a vs := SqL.of (l _ _ (m _ _ h))
  refine ⟨fun d e => ?_, fun e => ⟨vs, hs, by rw [r.length, e]; exact Nat.le_refl _⟩⟩
  obtain ⟨v, hv, hd⟩ := r.get e
  refine ⟨⟨vs, v, hs, hv⟩, fun x H'' ⟨e1, y⟩ => ?_⟩
  subst e1
  have e2 := y vs hs
  rw [hv] at e2
  cases e2
  exact ⟨F', Step.refl l p, hd.mono m⟩
theorem src_tup {a : Addr} {vs : List V} {ds : List D} (h : SqT K F a vs) (r : DRs K F vs ds) : SrcOk K pi (Itt K a) F ds := fun i H' F' m l p => by
  have hs : SqT K H' a vs := sq_mono_t (m.trans l) h
  refine ⟨fun d e => ?_, fun e => ⟨vs, hs, by rw [r.length, e]; exact Nat.le_refl _⟩⟩
  obtain ⟨v, hv, hd⟩ := r.get e
  refine ⟨⟨vs, v, hs, hv⟩, fun x H'' ⟨e1, y⟩ => ?_⟩
  subst e1
  have e2 := y vs hs
  rw [hv] at e2
  cases e2
  exact ⟨F', Step.refl l p, hd.mono m⟩
theorem src_str {z : Str} : SrcOk K pi (Its z) F (z.cps.toList.map fun ch => .str ⟨#[ch]⟩) := fun i H' F' m l p => by
  refine ⟨fun d e => ?_, fun e => by show z.cps.size ≤ i; rw [e]; simp⟩
  rw [List.getElem?_map] at e
  cases q : z.cps.toList[i]? with
  | none => rw [q] at e; cases e
  | some ch =>
    rw [q] at e
    cases e
    refine ⟨by
      have := (List.getElem?_eq_some_iff.mp q).1
      show i < z.cps.size
      simpa using this, fun x H'' ⟨e1, ch', e2, e3⟩ => ?_⟩
    subst e1 e3
    rw [← Array.getElem?_toList, q] at e2
    cases e2
    exact ⟨F', Step.refl l p, .str _⟩
/-- lo, lo + 1, .. -/
def rng (lo : Int) (n : Nat) : List D := (List.range n).map fun (i : Nat) => .int (lo + (i : Int))
theorem src_rng {lo : Int} {n : Nat} : SrcOk K pi (Itr lo n) F (rng lo n) := fun i H' F' m l p => by
  unfold rng
  refine ⟨fun d e => ?_, fun e => by show n ≤ i; rw [e]; simp⟩
  rw [List.getElem?_map] at e
  cases q : (List.range n)[i]? with
  | none => rw [q] at e; cases e
  | some k =>
    rw [q] at e
    cases e
    obtain ⟨h1, h2⟩ := List.getElem?_eq_some_iff.mp q
    rw [List.getElem_range] at h2
    subst h2
    refine ⟨by show i < n; simpa using h1, fun x H'' ⟨e1, e2⟩ => ?_⟩
    subst e1 e2
    exact ⟨F', Step.refl l p, .int _⟩
def pairD (a b : D) : D := .tuple [a, b]
theorem lay2 {H' F' : Hp} {T : Addr} {x y : V} {a b : D} (l : Same F' H') (p : PotIn pi H' F') (hT : H' T = none) (ha : DR K F' x a) (hb : DR K F' y b) :
    ∃ F'', Step pi H' F' (upd H' T (.tup [x, y])) F'' ∧ DR K F'' (.ref T) (pairD a b) := by
  have sl := Step.lay (o := .tup [x, y]) l p hT
  exact ⟨_, sl, .tup (SqT.of upd_same) (.cons (ha.mono sl.mono) (.cons (hb.mono sl.mono) .nil))⟩
theorem src_zipL {a b : Addr} {vs ws : List V} {ds es : List D} (h1 : F a = some (.lst vs)) (r1 : DRs K F vs ds) (h2 : F b = some (.lst ws)) (r2 : DRs K F ws es) : SrcOk K pi (Itz K a b) F (List.zipWith pairD ds es) := fun i H' F' m l p => by
  have s1 : SqL K H' a vs := SqL.of (l _ _ (m _ _ h1))
  have s2 : SqL K H' b ws := SqL.of (l _ _ (m _ _ h2))
  refine ⟨fun d e => ?_, fun e => ⟨vs, ws, s1, s2, by rw [r1.length, r2.length]; rw [List.length_zipWith] at e; omega⟩⟩
  rw [List.getElem?_zipWith] at e
  cases q1 : ds[i]? with
  | none => rw [q1] at e; cases e
  | some d1 =>
    cases q2 : es[i]? with
    | none => rw [q1, q2] at e; cases e
    | some d2 =>
      rw [q1, q2] at e
      cases e
      obtain ⟨v1, hv1, hd1⟩ := r1.get q1
      obtain ⟨v2, hv2, hd2⟩ := r2.get q2
      refine ⟨⟨vs, ws, v1, v2, s1, s2, hv1, hv2⟩, ?_⟩
      rintro x H'' ⟨T, x1, x2, rfl, hT, rfl, y1, y2⟩
      have e1 := y1 vs s1
      rw [hv1] at e1
      cases e1
      have e2 := y2 ws s2
      rw [hv2] at e2
      cases e2
      exact lay2 l p hT (hd1.mono m) (hd2.mono m)
theorem src_zipT {a b : Addr} {vs ws : List V} {ds es : List D} (h1 : SqT K F a vs) (r1 : DRs K F vs ds) (h2 : SqT K F b ws) (r2 : DRs K F ws es) : SrcOk K pi (RZ.ItzT K a b) F (List.zipWith pairD ds es) := fun i H' F' m l p => by
  have s1 : SqT K H' a vs := sq_mono_t (m.trans l) h1
  have s2 : SqT K H' b ws := sq_mono_t (m.trans l) h2
  refine ⟨fun d e => ?_, fun e => ⟨vs, ws, s1, s2, by rw [r1.length, r2.length]; rw [List.length_zipWith] at e; omega⟩⟩
  rw [List.getElem?_zipWith] at e
  cases q1 : ds[i]? with
  | none => rw [q1] at e; cases e
  | some d1 =>
    cases q2 : es[i]? with
    | none => rw [q1, q2] at e; cases e
    | some d2 =>
      rw [q1, q2] at e
      cases e
      obtain ⟨v1, hv1, hd1⟩ := r1.get q1
      obtain ⟨v2, hv2, hd2⟩ := r2.get q2
      refine ⟨⟨vs, ws, v1, v2, s1, s2, hv1, hv2⟩, ?_⟩
      rintro x H'' ⟨T, x1, x2, rfl, hT, rfl, y1, y2⟩
      have e1 := y1 vs s1
      rw [hv1] at e1
      cases e1
      have e2 := y2 ws s2
      rw [hv2] at e2
      cases e2
      exact lay2 l p hT (hd1.mono m) (hd2.mono m)
def enumD (k : Nat) : List D → List D
  | [] => []
  | d :: ds => pairD (.int k) d :: enumD (k + 1) ds
theorem enumD_at : ∀ (ds : List D) (k i : Nat), (enumD k ds)[i]? = ds[i]?.map fun d => pairD (.int ((k + i : Nat) : Int)) d
  | [], k, i => by simp [enumD]
  | d :: ds, k, 0 => by simp [enumD]
  | d :: ds, k, i + 1 => by
    simp only [enumD, List.getElem?_cons_succ, enumD_at ds (k + 1) i]
    have e : k + 1 + i = k + (i + 1) := by omega
    rw [e]
theorem enumD_length : ∀ (ds : List D) (k : Nat), (enumD k ds).length = ds.length
  | [], _ => rfl
  | d :: ds, k => by simp [enumD, enumD_length ds (k + 1)]
theorem src_enum {a : Addr} {vs : List V} {ds : List D} (h : F a = some (.lst vs)) (r : DRs K F vs ds) : SrcOk K pi (Ite K a) F (enumD 0 ds) := fun i H' F' m l p => by
  have hs : SqL K H' a vs := SqL.of (l _ _ (m _ _ h))
  refine ⟨fun d e => ?_, fun e => ⟨vs, hs, by rw [r.length, e, enumD_length]; exact Nat.le_refl _⟩⟩
  rw [enumD_at] at e
  cases q : ds[i]? with
  | none => rw [q] at e; cases e
  | some d1 =>
    rw [q] at e
    cases e
    obtain ⟨v, hv, hd⟩ := r.get q
    refine ⟨⟨vs, v, hs, hv⟩, ?_⟩
    rintro x H'' ⟨T, x1, rfl, hT, rfl, y⟩
    have e2 := y vs hs
    rw [hv] at e2
    cases e2
    have e3 : ((0 + i : Nat) : Int) = (i : Int) := by omega
    rw [e3]
    exact lay2 l p hT (.int _) (hd.mono m)
end
section
variable {X : Cx} {c : Act} {Wx : WX} {tg e a b : Expr} {f fa fb : En → M Wv} {pos p : Pos}
theorem di_seq (he : DE X c Wx e f) : DI X c Wx tg e (sSeq f) := PI.imp (pi_seq he) fun σ H R ⟨F, ρ, I, q⟩ => ev_split I q fun u x H1 F1 I1 s1 g1 p1 => by
  obtain ⟨d, e, hd, p1⟩ := gd g1 p1
  unfold asItems at p1
  split at p1
  · cases hd with
    | lst s r => exact .inl ⟨_, rfl, .inl ⟨_, SqL.of (I1.le _ _ s), p1 H1 F1 (step_refl I1) _ (src_list s r)⟩⟩
  · cases hd with
    | tup s r => exact .inl ⟨_, rfl, .inr ⟨_, sq_mono_t I1.le s, p1 H1 F1 (step_refl I1) _ (src_tup s r)⟩⟩
  · cases hd
    exact .inr ⟨_, rfl, p1 H1 F1 (step_refl I1) _ src_str⟩
  · exact p1.elim
def inR (i : Int) : Bool := decide (-(2 ^ 62) ≤ i) && decide (i < 2 ^ 62)
def sRng1 (f : En → M Wv) (ρ : En) : M (List D) := f ρ >>= fun u => asI u >>= fun j => if inR j = true then .ok (rng 0 j.toNat) else .bad
def sRng2 (fa fb : En → M Wv) (ρ : En) : M (List D) := fa ρ >>= fun u => fb ρ >>= fun w => asI u >>= fun i => asI w >>= fun j => if (inR i && inR j) = true then .ok (rng i (j - i).toNat) else .bad
theorem inR_ok {i : Int} (h : inR i = true) : -(2 ^ 62) ≤ i ∧ i < 2 ^ 62 := by
  obtain ⟨a, b⟩ := Bool.and_eq_true_iff.mp h
  exact ⟨of_decide_eq_true a, of_decide_eq_true b⟩
theorem di_rng1 {p' : Pos} (hg : Gl X "range") (hm : X.mg "range" = none) (he : DE X c Wx e f) (hs : starEach [e] X.env = [(false, eval e X.env)] := by rfl) : DI X c Wx tg (.Call (.Name "range" p') [e] [] pos) (sRng1 f) :=
  PI.imp (pi_range1 hg hm (pa_cons he pa_nil (by rw [hs]; rfl)) hs) fun σ H R ⟨F, ρ, I, q⟩ => ev_split I q fun u x H1 F1 I1 s1 g1 p1 => by
    obtain ⟨j, rfl, p1⟩ := asI_ok g1 p1
    split at p1
    · rename_i hj
      exact ⟨j, rfl, (inR_ok hj).1, (inR_ok hj).2, p1 H1 F1 (step_refl I1) _ src_rng⟩
    · exact p1.elim
theorem di_rng2 {p' : Pos} (hg : Gl X "range") (hm : X.mg "range" = none) (ha : DE X c Wx a fa) (hb : DE X c Wx b fb) (hs : starEach [a, b] X.env = [(false, eval a X.env), (false, eval b X.env)] := by rfl) (hs2 : starEach [b] X.env = [(false, eval b X.env)] := by rfl) : DI X c Wx tg (.Call (.Name "range" p') [a, b] [] pos) (sRng2 fa fb) :=
  PI.imp (pi_range2 hg hm (pa_cons ha (pa_cons hb pa_nil (by rw [hs2]; rfl)) (by rw [hs, hs2])) hs hs2) fun σ H R ⟨F, ρ, I, q⟩ => ev_split I q fun u x H1 F1 I1 s1 g1 p1 => ev_split I1 p1 fun w y H2 F2 I2 s2 g2 p2 => by
    obtain ⟨i, rfl, p2⟩ := asI_ok (g1.mono s2.mono) p2
    obtain ⟨j, rfl, p2⟩ := asI_ok g2 p2
    split at p2
    · rename_i hj
      obtain ⟨h1, h2⟩ := Bool.and_eq_true_iff.mp hj
      exact ⟨i, j, rfl, ⟨(inR_ok h1).1, (inR_ok h1).2, (inR_ok h2).1, (inR_ok h2).2⟩, p2 H2 F2 (step_refl I2) _ src_rng⟩
    · exact p2.elim
def vZip (a b : D) : M (List D) := match a, b with
  | .list xs, .list ys => .ok (List.zipWith pairD xs ys)
  | .tuple xs, .tuple ys => .ok (List.zipWith pairD xs ys)
  | _, _ => .bad
def sZip (fa fb : En → M Wv) (ρ : En) : M (List D) := fa ρ >>= fun u => fb ρ >>= fun w => u.give.d >>= fun a => w.give.d >>= fun b => vZip a b
theorem di_zip {p' tpos : Pos} {elts : List Expr} {kk : Nat} (hg : Gl X "zip") (hm : X.mg "zip" = none) (ha : DE X c Wx a fa) (hb : DE X c Wx b fb) (hs : starEach [a, b] X.env = (false, eval a X.env) :: starEach [b] X.env := by rfl) (hs2 : starEach [b] X.env = (false, eval b X.env) :: starEach [] X.env := by rfl)
    (hpl : (backTo pos (starEach [b] X.env)).any (·.1) = false := by rfl) : DI X c Wx (.Tuple elts kk tpos) (.Call (.Name "zip" p') [a, b] [] pos) (sZip fa fb) :=
  PI.imp (RZ.pi_zipA hg hm (pa_cons ha (pa_cons hb pa_nil hs2) hs) hs hpl) fun σ H R ⟨F, ρ, I, q⟩ => ev_split I q fun u x H1 F1 I1 s1 g1 p1 => ev_split I1 p1 fun w y H2 F2 I2 s2 g2 p2 => by
    obtain ⟨d1, _, h1, p2⟩ := gd (g1.mono s2.mono) p2
    obtain ⟨d2, _, h2, p2⟩ := gd g2 p2
    unfold vZip at p2
    split at p2
    · cases h1 with
      | lst t1 r1 =>
        cases h2 with
        | lst t2 r2 => exact ⟨_, _, _, _, rfl, .inl ⟨SqL.of (I2.le _ _ t1), SqL.of (I2.le _ _ t2), p2 H2 F2 (step_refl I2) _ (src_zipL t1 r1 t2 r2)⟩⟩
    · cases h1 with
      | tup t1 r1 =>
        cases h2 with
        | tup t2 r2 => exact ⟨_, _, _, _, rfl, .inr ⟨sq_mono_t I2.le t1, sq_mono_t I2.le t2, p2 H2 F2 (step_refl I2) _ (src_zipT t1 r1 t2 r2)⟩⟩
    · exact p2.elim
def asList : D → M (List D)
  | .list xs => .ok xs
  | _ => .bad
def sEnum (f : En → M Wv) (ρ : En) : M (List D) := f ρ >>= fun u => u.give.d >>= fun d => asList d >>= fun xs => .ok (enumD 0 xs)
theorem di_enum {p' tpos : Pos} {elts : List Expr} {kk : Nat} (hg : Gl X "enumerate") (hm : X.mg "enumerate" = none) (he : DE X c Wx e f) (hs : starEach [e] X.env = [(false, eval e X.env)] := by rfl) : DI X c Wx (.Tuple elts kk tpos) (.Call (.Name "enumerate" p') [e] [] pos) (sEnum f) :=
  PI.imp (pi_enum hg hm (pa_cons he pa_nil (by rw [hs]; rfl)) hs) fun σ H R ⟨F, ρ, I, q⟩ => ev_split I q fun u x H1 F1 I1 s1 g1 p1 => by
    obtain ⟨d, _, hd, p1⟩ := gd g1 p1
    unfold asList at p1
    split at p1
    · cases hd with
      | lst s r => exact ⟨_, _, rfl, SqL.of (I1.le _ _ s), p1 H1 F1 (step_refl I1) _ (src_enum s r)⟩
    · exact p1.elim
end
end DL

namespace DL
open PySem PySem.Spec PyProof.Rows L2 SeqAt HT
section
variable {X : Cx} {c : Act} {Wx : WX} {e a b d : Expr} {f fa fb fd : En → M Wv} {pos : Pos}
/-! ## a, b = e1, e2 -/
def asg2 (m : List Nat) (i j : Nat) (fa fb : En → M Wv) (ρ : En) : M Fl := fa (frz m ρ) >>= fun u => fb (frz m ρ) >>= fun w =>
  .ok (.nx (((if (u.still && w.still) = true then ρ else frz m ρ).set i (some u)).set j (some w)))
theorem Res.later {K : PySem.W.Frag} {pi : Pot} {H0 F0 H F H' F' : Hp} {v : V} {w : Wv} (r : Res K pi H0 H F v w) (p0 : PotIn pi H0 F0) (s : Step pi H F H' F') : Res K pi H0 H' F' v w := r.step p0 s
theorem ds_par (m : List Nat) (i j : Nat) {x y : Str} {px py pt : Pos} {kt k2 : Nat} {pt2 : Pos} (hc : X.calm = true) (hN : X.N.Nodup) (hi : X.N[i]? = some x) (hj : X.N[j]? = some y) (hij : i ≠ j)
    (hx : X.env.scope.names.lookup x = some .local) (hy : X.env.scope.names.lookup y = some .local) (ha : DE X c Wx a fa) (hb : DE X c Wx b fb)
    (hw : swappedStores [.Tuple [.Name x px, .Name y py] kt pt] (.Tuple [a, b] k2 pt2) X.env = pure (some [x, y]))
    (hs : swapsWithSole [.Tuple [.Name x px, .Name y py] kt pt] (.Tuple [a, b] k2 pt2) pos.line X.env = pure false := by rfl)
    (h1 : starEach [a, b] X.env = (false, eval a X.env) :: starEach [b] X.env := by rfl) (h2 : starEach [b] X.env = (false, eval b X.env) :: starEach [] X.env := by rfl) :
    DS X c Wx (.Assign [.Tuple [.Name x px, .Name y py] kt pt] (.Tuple [a, b] k2 pt2) pos) (asg2 m i j fa fb) :=
  PS.imp (ps_par hc hN hi hj hij hx hy (pa_cons ha (pa_cons hb pa_nil h2) h1) hw hs) fun D σ H ⟨F, ρ, I, p⟩ => by
    refine ev_st (m := m) I p fun u v1 Fp H1 F1 mo J s1 r1 q => ?_
    refine ⟨F1, frz m ρ, J.step s1, M.post_mono (M.post_bind.mp q) (fun w q H2 F2 s2 v2 r2 => ?_) fun e q cls d H2 F2 s2 x => q cls d σ H2 F2 ((J.step s1).st.trans J.p0 s2) x⟩
    refine ⟨v1, v2, rfl, ?_⟩
    have s12 := s1.trans J.pot s2
    have r1' : Res X.K c.pi H H2 F2 v1 u := Res.later r1 J.pot s2
    have n1 : ∀ {x : Addr}, H1 x = none → c.H0 x = none := fun z => (J.step s1).st.none_of J.p0 z
    have up : ∀ {ρ' : En} {G : Hp}, SR X.K c σ H2 G ρ' → (∀ (j : Nat) (ys : List DL.D) (a : Addr), ρ'[j]? = some (some (.own ys)) → σ[j]? = some (some (.ref a)) → H a ≠ none) → Res X.K c.pi H H2 G v1 u → Res X.K c.pi H1 H2 G v2 w → SR X.K c ((σ.set i (some v1)).set j (some v2)) H2 G ((ρ'.set i (some u)).set j (some w)) := fun {ρ' G} L hn t1 t2 => by
      have L1 := L.set (i := i) t1 (fun a z => I.st.none_of I.p0 z) hn
      refine L1.set (i := j) t2 (fun a z => n1 z) fun k ys a e1 e2 => ?_
      by_cases z : k = i
      · subst z
        have hk : k < ρ'.length := by
          by_cases q : k < ρ'.length
          · exact q
          · rw [List.getElem?_eq_none (by rw [List.length_set]; omega)] at e1; cases e1
        rw [List.getElem?_set_self hk] at e1
        rw [List.getElem?_set_self (by rw [← L.len]; exact hk)] at e2
        cases e1
        cases e2
        obtain ⟨a', vs, e3, ha, _⟩ := r1
        cases e3
        rw [ha]
        exact fun z => nomatch z
      · rw [List.getElem?_set_ne (Ne.symm z)] at e1 e2
        have h3 := hn k ys a e1 e2
        intro h4
        exact h3 (s1.none_of J.pot h4)
    by_cases hs : (u.still && w.still) = true
    · rw [if_pos hs] at q
      obtain ⟨hu, hw⟩ := Bool.and_eq_true_iff.mp hs
      obtain ⟨I1, b1, _, _⟩ := I.back mo s12
      exact q _ H2 _ (up I1 (fun j ys a e1 e2 => I.ownAt e1 e2) (I.backRes mo s12 r1' hu) (I.backRes mo s12 r2 hw)) b1
    · rw [if_neg hs] at q
      exact q _ H2 _ (up (J.step s12) (fun j ys a e1 e2 => J.ownAt e1 e2) r1' r2) (mo.1.trans s12.mono)
/-! ## a, b, .. = e -/
def unp (m : List Nat) (is : List Nat) (f : En → M Wv) (ρ : En) : M Fl := f (frz m ρ) >>= fun w => w.d >>= fun d => match bT is d (if noL d = true then ρ else frz m ρ) with
  | some ρ' => .ok (.nx ρ')
  | none => .bad
theorem ds_unp (m : List Nat) {tg : Expr} {is : List Nat} (he : DE X c Wx e f) (hg : DG X c tg is (bT is)) (hs : swapsWithSole [tg] e pos.line X.env = pure false := by rfl) (hw : swappedStores [tg] e X.env = pure none := by rfl) (h1 : (assignEach [tg] X.env).map (·.2) = [assign tg X.env] := by rfl) : DS X c Wx (.Assign [tg] e pos) (unp m is f) :=
  PS.imp (ps_asg he hg hs hw h1) fun D σ H ⟨F, ρ, I, p⟩ => by
    refine ev_st (m := m) I p fun w v Fp H1 F1 mo J s r q => ?_
    obtain ⟨d, hd, q2⟩ := d_ok q
    have fin : ∀ {ρ' : En} {G : Hp}, SR X.K c σ H1 G ρ' → DR X.K G v d → Same F G → (match bT is d ρ' with | some ρ' => (.ok (.nx ρ') : M Fl) | none => .bad).post (SF X.K c F D) (SX X.K X.mg c Wx) →
        EvG X.K c is (bT is) v σ H1 D.nx := fun {ρ' G} L rd sm z => by
      split at z
      · rename_i ρ2 eb
        exact ⟨G, ρ', d, L, rd, ρ2, eb, fun σ' L' _ => z σ' H1 G L' sm⟩
      · exact z.elim
    by_cases hn : noL d = true
    · rw [if_pos hn] at q2
      obtain ⟨I1, b1, _, _⟩ := I.back mo s
      have ew := still_of hd hn
      subst ew
      exact fin I1 (I.backRes mo s r hn) b1 q2
    · rw [if_neg hn] at q2
      obtain ⟨F2, s2, _, rd⟩ := Res.give (F0 := Fp) r hd J.pot s
      exact fin (J.step s2) rd (mo.1.trans s2.mono) q2
/-! ## xs[i] = e -/
def sto1 (i : Nat) (d : D) (j : Int) (ρ : En) : M Fl := ownAt ρ i >>= fun xs => match ixN xs.length j with
  | some k => .ok (.nx (ρ.set i (some (.own (xs.set k d)))))
  | none => .bad
def sto2 (n : List Nat) (i : Nat) (d : D) (fi : En → M Wv) (ρ : En) : M Fl := ownAt ρ i >>= fun _ => fi (frz n ρ) >>= fun u => asI u >>= fun j => sto1 i d j ρ
def sto (m n : List Nat) (i : Nat) (f fi : En → M Wv) (ρ : En) : M Fl := f (frz m ρ) >>= fun w => w.d >>= fun d => sto2 n i d fi (if noL d = true then ρ else frz m ρ)
theorem ds_sto (m n : List Nat) (i : Nat) {x : Str} {p1 tpos : Pos} {ie : Expr} {fi : En → M Wv} (he : DE X c Wx e f) (hi : DE X c Wx ie fi)
    (ha : ∀ v, assign (.Subscript (.Name x p1) ie tpos) X.env v = (do
      let ov ← holding [v] (eval (.Name x p1) X.env)
      let iv ← holding [v, ov] (eval ie X.env)
      standAt tpos
      holding [v, ov, iv] (setItem ov iv v)
      release [v, ov, iv] []) := by intro _; rfl)
    (hN : X.N[i]? = some x := by rfl) (hv : Vis X.env.scope x := by first | exact Or.inl rfl | exact Or.inr (Or.inl rfl) | exact Or.inr (Or.inr rfl)) (hd : (x == ("__debug__" : Str)) = false := by decide)
    (hcd : (x == ("__classdict__" : Str)) = false := by decide) (hs : swapsWithSole [.Subscript (.Name x p1) ie tpos] e pos.line X.env = pure false := by rfl) (hw : swappedStores [.Subscript (.Name x p1) ie tpos] e X.env = pure none := by rfl)
    (h1 : (assignEach [.Subscript (.Name x p1) ie tpos] X.env).map (·.2) = [assign (.Subscript (.Name x p1) ie tpos) X.env] := by rfl) : DS X c Wx (.Assign [.Subscript (.Name x p1) ie tpos] e pos) (sto m n i f fi) :=
  PS.imp (ps_asg he (pg_sub (pe_var hN hv hd hcd) hi set_list ha) hs hw h1) fun D σ H ⟨F, ρ, I, p⟩ => by
    refine ev_st (m := m) I p fun w v Fp H1 F1 mo J s r q => ?_
    obtain ⟨d, hd, q2⟩ := d_ok q
    have fin : ∀ {ρ' : En} {G : Hp}, SR X.K c σ H1 G ρ' → DR X.K G v d → Same F G → (sto2 n i d fi ρ').post (SF X.K c F D) (SX X.K X.mg c Wx) →
        gSub (tVar i) (Ev X.K X.mg c Wx fi) rSetL v σ H1 D.nx := fun {ρ' G} L rd sm z => by
      obtain ⟨xs, ex, z⟩ := ownAt_ok z
      obtain ⟨v2, hv2, a, vs, e2, ha, hF, h0, hs⟩ := L.slot i _ ex
      subst e2
      refine ⟨_, hv2, ev_st (m := n) L z fun u y Gp H2 G2 mo2 J2 s2 r2 q3 => ?_⟩
      obtain ⟨L2, b2, _, _⟩ := L.back mo2 s2
      have g2 : Gv X.K c.pi G2 y u.give ∨ True := .inr trivial
      unfold asI at q3
      split at q3
      · rename_i j
        have r2' : DR X.K G2 y (.int j) := r2
        cases r2'
        obtain ⟨xs', ex', z2⟩ := ownAt_ok q3
        obtain ⟨v3, hv3, a', vs', e3, ha', hF', h0', hs'⟩ := L2.slot i _ ex'
        rw [hv2] at hv3
        cases hv3
        cases e3
        split at z2
        · rename_i k ek
          refine ⟨a, vs', j, k, rfl, rfl, ha', by rw [hs'.length]; exact ek, ?_⟩
          exact z2 σ _ _ (L2.write ex' hv2 (DRs.set (rd.mono b2) k hs')) (sm.trans b2)
        · exact z2.elim
      · exact q3.elim
    by_cases hn : noL d = true
    · rw [if_pos hn] at q2
      obtain ⟨I1, b1, _, _⟩ := I.back mo s
      have ew := still_of hd hn
      subst ew
      exact fin I1 (I.backRes mo s r hn) b1 q2
    · rw [if_neg hn] at q2
      obtain ⟨F2, s2, _, rd⟩ := Res.give (F0 := Fp) r hd J.pot s
      exact fin (J.step s2) rd (mo.1.trans s2.mono) q2
/-! ## {} -/
theorem de_dict0 : DE X c Wx (.Dict [] [] pos) (fun _ => .ok (.dat (.dict []))) := PE.imp pe_dnewK fun σ H Q ⟨F, ρ, I, p⟩ q hq => by
  have sl := Step.lay (o := .dK []) I.le I.pot hq
  exact p _ _ sl (.ref q) (.dct (kvs := []) upd_same rfl .nil)
/-! ## x = a if t else b; x.append(e): one of two lists of one's own grows -/
def ali (m n : List Nat) (i ia ib : Nat) (t : En → M Bool) (f : En → M Wv) (ρ : En) : M Fl := t (frz m ρ) >>= fun k => ali1 n i (if k = true then ia else ib) f ρ
where ali1 (n : List Nat) (i j : Nat) (f : En → M Wv) (ρ : En) : M Fl := if i < ρ.length then ownAt (ρ.set i none) j >>= fun _ => f (frz n (ρ.set i none)) >>= fun w => w.d >>= fun d => if noL d = true then app1 (ρ.set i none) j d else .bad else .bad
theorem dss_ali (m n : List Nat) (i ia ib : Nat) {t : Expr} {ft : En → M Bool} {x xa xb : Str} {px pa pb p1 pos2 ipos apos cpos : Pos} {sts : List Stmt} {g : En → M Fl} (hNd : X.N.Nodup) (hl : Loc X.env.scope x) (ht : DT X c Wx t ft) (he : DE X c Wx e f) (hr : DSs X c Wx sts g) (nia : ia ≠ i) (nib : ib ≠ i)
    (hN : X.N[i]? = some x := by rfl) (hNa : X.N[ia]? = some xa := by rfl) (hNb : X.N[ib]? = some xb := by rfl)
    (hv : Vis X.env.scope x := by first | exact Or.inl rfl | exact Or.inr (Or.inl rfl) | exact Or.inr (Or.inr rfl)) (hva : Vis X.env.scope xa := by first | exact Or.inl rfl | exact Or.inr (Or.inl rfl) | exact Or.inr (Or.inr rfl)) (hvb : Vis X.env.scope xb := by first | exact Or.inl rfl | exact Or.inr (Or.inl rfl) | exact Or.inr (Or.inr rfl))
    (hd : (x == ("__debug__" : Str)) = false := by decide) (hda : (xa == ("__debug__" : Str)) = false := by decide) (hdb : (xb == ("__debug__" : Str)) = false := by decide)
    (hcd : (x == ("__classdict__" : Str)) = false := by decide) (hca : (xa == ("__classdict__" : Str)) = false := by decide) (hcb : (xb == ("__classdict__" : Str)) = false := by decide)
    (hs0 : swapsWith (.IfExp t (.Name xa pa) (.Name xb pb) ipos) (some (.Name x px)) pos.line X.env = pure false := by rfl) (hf : X.fn x = true ∨ X.env.scope.names.lookup x = some .local := by first | exact .inl rfl | exact .inr rfl)
    (hb : attributeBase (.Name x p1) "append" X.env (eval (.Name x p1) X.env) = eval (.Name x p1) X.env := by rfl)
    (hfew : ((backTo cpos (starEach [e] X.env)).all (fun x => !x.1) && (backToKw cpos (keywordEach [] X.env)).all (fun x => x.1.isSome) && decide ([e].length + ([] : List Keyword).length + (if ([] : List Keyword).isEmpty then 0 else 1) < 30)) = true := by rfl)
    (hline : (apos.endLine == cpos.line) = true := by rfl) (hs : starEach [e] X.env = (false, eval e X.env) :: starEach [] X.env := by rfl) (hsw : swapsWith (.Call (.Attribute (.Name x p1) "append" apos) [e] [] cpos) none pos2.line X.env = pure false := by rfl) :
    DSs X c Wx (.Assign [.Name x px] (.IfExp t (.Name xa pa) (.Name xb pb) ipos) pos :: .Expr (.Call (.Attribute (.Name x p1) "append" apos) [e] [] cpos) pos2 :: sts) (seq (ali m n i ia ib ft f) g) := by
  refine PSs.imp (pss_cons (ps_set (hf := hf) hNd hN hl (pe_ifExp ht (pe_var hNa hva hda hca) (pe_var hNb hvb hdb hcb)) hs0)
    (pss_cons (ps_expr (pe_bm PySem.F.plainAttrs_list PySem.F.slot_list_append PySem.F.type_list_append mt_append (pe_var hN hv hd hcd) (pa_cons he pa_nil hs) hb hfew hline hs (by rfl)) hsw) hr)) fun D σ H ⟨F, ρ, I, p⟩ => ?_
  unfold seq ali at p
  rw [M.bind_assoc'] at p
  have main : ∀ (j : Nat) (H1 F1 : Hp), j ≠ i → SR X.K c σ H1 F1 ρ → Same F F1 → (ali.ali1 n i j f ρ >>= fun | .nx ρ' => g ρ' | fl => .ok fl).post (SF X.K c F D) (SX X.K X.mg c Wx) →
      ∃ v, σ[j]? = some (some v) ∧ tDrop (tBM X.K "list" rAppend (tVar i) (tCons (Ev X.K X.mg c Wx f) tNil)) { D with nx := EvS X.K X.mg c Wx g D } (σ.set i (some v)) H1 := fun j H1 F1 hj I1 sm q => by
    unfold ali.ali1 at q
    split at q
    · rename_i hi
      rw [M.bind_assoc'] at q
      obtain ⟨xs, ex, q⟩ := ownAt_ok q
      have ex0 : ρ[j]? = some (some (.own xs)) := by rw [List.getElem?_set_ne (Ne.symm hj)] at ex; exact ex
      obtain ⟨v, hv, a, vs, rfl, ha, hF, h0, hs⟩ := I1.slot j _ ex0
      have Id : SR X.K c (σ.set i (some (.ref a))) H1 F1 (ρ.set i none) := I1.drop i _
      have hx : (σ.set i (some (V.ref a)))[i]? = some (some (.ref a)) := List.getElem?_set_self (by rw [← I1.len]; exact hi)
      refine ⟨_, hv, _, hx, .inl ⟨rfl, vs, SqL.of ha⟩, ?_⟩
      rw [M.bind_assoc'] at q
      refine ev_st (m := n) Id q fun w y Gp H2 G2 mo J s r q2 => ?_
      rw [M.bind_assoc'] at q2
      obtain ⟨d, hd, q3⟩ := d_ok q2
      split at q3
      · rename_i hn
        obtain ⟨L, b1, _, _⟩ := Id.back mo s
        have ew := still_of hd hn
        subst ew
        have rd := Id.backRes mo s r hn
        unfold app1 at q3
        rw [M.bind_assoc'] at q3
        obtain ⟨xs2, ex2, q4⟩ := ownAt_ok q3
        obtain ⟨v2, hv2, a2, vs2, e2, ha2, hF2, h02, hs2⟩ := L.slot j _ ex2
        rw [List.getElem?_set_ne (Ne.symm hj), hv] at hv2
        cases hv2
        cases e2
        have hz : xs2.length ≤ 1000000 := by
          by_cases z : xs2.length ≤ 1000000
          · exact z
          · unfold small at q4
            rw [if_neg z] at q4
            exact q4.elim
        rw [small_of hz] at q4
        refine ⟨a, vs2, y, rfl, rfl, ha2, ?_, ?_⟩
        · rw [hs2.length]
          exact Nat.lt_of_le_of_lt hz (by rw [sizeLine_eq]; decide)
        · have W := L.write ex2 (by rw [List.getElem?_set_ne (Ne.symm hj)]; exact hv) (hs2.append (.cons rd .nil))
          exact ⟨_, _, W, M.post_mono q4 (fun fl z => z.older (sm.trans b1)) fun _ z => z⟩
      · exact q3.elim
    · exact q.elim
  refine et_st (m := m) I p fun k H1 F1 I1 sm q => ?_
  cases k with
  | true => exact iteT (main ia H1 F1 nia I1 sm q)
  | false => exact iteF (main ib H1 F1 nib I1 sm q)
end
end DL

namespace DL
open PySem PySem.Spec PyProof.Rows L2 SeqAt HT
/-! ## the rules in short -/
section
variable {X : Cx} {c : Act} {Wx : WX} {a b d : Expr} {es : List Expr} {f fa fb fd : En → M Wv} {fs : En → M (List Wv)} {pos p : Pos} {k : Nat}
theorem Room.u65 {A : Around} (r : Room k A) : A.units + 65 < cLine := by have := r.un; omega
theorem Room.u100 {A : Around} (r : Room k A) : A.units + 100 < cLine := by have := r.un; omega
theorem de_add (ha : DE X c Wx a fa) (hb : DE X c Wx b fb) : DE X c Wx (.BinOp a .Add b pos) (bin2 opAdd fa fb) := de_op (op_add.or (op_add_str.or (op_cat.or op_catA))) ok_opAdd ha hb
theorem de_sub (ha : DE X c Wx a fa) (hb : DE X c Wx b fb) : DE X c Wx (.BinOp a .Sub b pos) (bin2 opSub fa fb) := de_op op_sub ok_iI ha hb
theorem de_mul (ha : DE X c Wx a fa) (hb : DE X c Wx b fb) : DE X c Wx (.BinOp a .Mult b pos) (bin2 opMul fa fb) := de_op ((op_mul.or op_rep).or (op_repT.or op_repS)) ok_opMul ha hb
theorem de_mod (ha : DE X c Wx a fa) (hb : DE X c Wx b fb) : DE X c Wx (.BinOp a .Mod b pos) (bin2 opMod fa fb) := de_op op_mod ok_opMod ha hb
theorem de_fdiv (ha : DE X c Wx a fa) (hb : DE X c Wx b fb) : DE X c Wx (.BinOp a .FloorDiv b pos) (bin2 opFdiv fa fb) := de_op op_fdiv ok_opFdiv ha hb
theorem de_pow (ha : DE X c Wx a fa) (hb : DE X c Wx b fb) : DE X c Wx (.BinOp a .Pow b pos) (bin2 opPow fa fb) := de_op op_pow ok_opPow ha hb
theorem de_shl (ha : DE X c Wx a fa) (hb : DE X c Wx b fb) : DE X c Wx (.BinOp a .LShift b pos) (bin2 opShl fa fb) := de_op op_shl ok_opShl ha hb
theorem de_eq (r : Room k X.A) (ha : DE X c Wx a fa) (hb : DE X c Wx b fb) : DE X c Wx (.Compare a [.Eq] [b] pos) (bin2 opEq fa fb) := de_cmp (op_eq.or (op_eqF r.units)) ok_opEq ha hb (nomark _)
theorem de_ne (r : Room k X.A) (ha : DE X c Wx a fa) (hb : DE X c Wx b fb) : DE X c Wx (.Compare a [.NotEq] [b] pos) (bin2 opNe fa fb) := de_cmp (op_ne.or (op_neF r.units)) ok_opNe ha hb (nomark _)
theorem dt_eq (r : Room k X.A) (ha : DE X c Wx a fa) (hb : DE X c Wx b fb) : DT X c Wx (.Compare a [.Eq] [b] pos) (tst (bin2 opEq fa fb)) := dt_cmp (op_eq.or (op_eqF r.units)) ok_opEq ha hb (nomark _)
theorem dt_ne (r : Room k X.A) (ha : DE X c Wx a fa) (hb : DE X c Wx b fb) : DT X c Wx (.Compare a [.NotEq] [b] pos) (tst (bin2 opNe fa fb)) := dt_cmp (op_ne.or (op_neF r.units)) ok_opNe ha hb (nomark _)
theorem de_in (r : Room k X.A) (ha : DE X c Wx a fa) (hb : DE X c Wx b fb) (hm : behindInMarks .In b = false := by rfl) : DE X c Wx (.Compare a [.In] [b] pos) (bin2 opIn fa fb) := de_cmp (op_in_str.or (op_inF (Room.u65 r))) ok_opIn ha hb hm
theorem dt_in (r : Room k X.A) (ha : DE X c Wx a fa) (hb : DE X c Wx b fb) (hm : behindInMarks .In b = false := by rfl) : DT X c Wx (.Compare a [.In] [b] pos) (tst (bin2 opIn fa fb)) := dt_cmp (op_in_str.or (op_inF (Room.u65 r))) ok_opIn ha hb hm
theorem de_notin (r : Room k X.A) (ha : DE X c Wx a fa) (hb : DE X c Wx b fb) (hm : behindInMarks .NotIn b = false := by rfl) : DE X c Wx (.Compare a [.NotIn] [b] pos) (bin2 opNotIn fa fb) := de_cmp (op_notin_str.or (op_notInF (Room.u65 r))) ok_opNotIn ha hb hm
theorem dt_notin (r : Room k X.A) (ha : DE X c Wx a fa) (hb : DE X c Wx b fb) (hm : behindInMarks .NotIn b = false := by rfl) : DT X c Wx (.Compare a [.NotIn] [b] pos) (tst (bin2 opNotIn fa fb)) := dt_cmp (op_notin_str.or (op_notInF (Room.u65 r))) ok_opNotIn ha hb hm
theorem de_lt (r : Room k X.A) (ha : DE X c Wx a fa) (hb : DE X c Wx b fb) : DE X c Wx (.Compare a [.Lt] [b] pos) (bin2 opLt fa fb) := de_cmp (op_lt.or (op_lt_str.or (op_ltF r.units))) ok_opLt ha hb (nomark _)
theorem dt_lt (r : Room k X.A) (ha : DE X c Wx a fa) (hb : DE X c Wx b fb) : DT X c Wx (.Compare a [.Lt] [b] pos) (tst (bin2 opLt fa fb)) := dt_cmp (op_lt.or (op_lt_str.or (op_ltF r.units))) ok_opLt ha hb (nomark _)
theorem de_le (ha : DE X c Wx a fa) (hb : DE X c Wx b fb) : DE X c Wx (.Compare a [.LtE] [b] pos) (bin2 opLe fa fb) := de_cmp op_le ok_iB ha hb (nomark _)
theorem dt_le (ha : DE X c Wx a fa) (hb : DE X c Wx b fb) : DT X c Wx (.Compare a [.LtE] [b] pos) (tst (bin2 opLe fa fb)) := dt_cmp op_le ok_iB ha hb (nomark _)
theorem de_gt (ha : DE X c Wx a fa) (hb : DE X c Wx b fb) : DE X c Wx (.Compare a [.Gt] [b] pos) (bin2 opGt fa fb) := de_cmp op_gt ok_iB ha hb (nomark _)
theorem dt_gt (ha : DE X c Wx a fa) (hb : DE X c Wx b fb) : DT X c Wx (.Compare a [.Gt] [b] pos) (tst (bin2 opGt fa fb)) := dt_cmp op_gt ok_iB ha hb (nomark _)
theorem de_ge (ha : DE X c Wx a fa) (hb : DE X c Wx b fb) : DE X c Wx (.Compare a [.GtE] [b] pos) (bin2 opGe fa fb) := de_cmp op_ge ok_iB ha hb (nomark _)
theorem dt_ge (ha : DE X c Wx a fa) (hb : DE X c Wx b fb) : DT X c Wx (.Compare a [.GtE] [b] pos) (tst (bin2 opGe fa fb)) := dt_cmp op_ge ok_iB ha hb (nomark _)
theorem de_is (ha : DE X c Wx a fa) (hb : DE X c Wx b fb) : DE X c Wx (.Compare a [.Is] [b] pos) (bin2 opIsN fa fb) := de_cmp op_isN ok_opIsN ha hb (nomark _)
theorem dt_is (ha : DE X c Wx a fa) (hb : DE X c Wx b fb) : DT X c Wx (.Compare a [.Is] [b] pos) (tst (bin2 opIsN fa fb)) := dt_cmp op_isN ok_opIsN ha hb (nomark _)
theorem de_isnot (ha : DE X c Wx a fa) (hb : DE X c Wx b fb) : DE X c Wx (.Compare a [.IsNot] [b] pos) (bin2 opNotN fa fb) := de_cmp op_notN ok_opNotN ha hb (nomark _)
theorem dt_isnot (ha : DE X c Wx a fa) (hb : DE X c Wx b fb) : DT X c Wx (.Compare a [.IsNot] [b] pos) (tst (bin2 opNotN fa fb)) := dt_cmp op_notN ok_opNotN ha hb (nomark _)
def vNeg : D → M Wv
  | .int i => .ok (.dat (.int (-i)))
  | _ => .bad
def opNeg (u : Wv) : M Wv := u.d >>= vNeg
def un1 (g : Wv → M Wv) (fa : En → M Wv) (ρ : En) : M Wv := fa ρ >>= fun u => g u.give
theorem ok_neg {K : PySem.W.Frag} : UnOk K (rU fun i => .int (-i)) opNeg := fun pi H F x u Q E l p g h => by
  obtain ⟨d, rfl, hd, h⟩ := gd g h
  unfold vNeg at h
  split at h
  · cases hd
    exact ⟨_, rfl, Fin.val h l p (.int _)⟩
  · exact h.elim
theorem de_neg (ha : DE X c Wx a fa) : DE X c Wx (.UnaryOp .USub a pos) (un1 opNeg fa) := de_un un_neg ok_neg ha
theorem de_ix (ha : DE X c Wx a fa) (hb : DE X c Wx b fb) (hs : PlainIx b := by exact fun _ _ => rfl) : DE X c Wx (.Subscript a b pos) (bin2 opIx fa fb) := PE.imp (pe_ix ix_seq ha hb hs) (ev_bin ok_opIx)
def call (g : List Wv → M Wv) (fs : En → M (List Wv)) (ρ : En) : M Wv := fs ρ >>= g
def sub (lo hi : En → M (Option Int)) (f : En → M Wv) (ρ : En) : M Wv := f ρ >>= fun u => lo ρ >>= fun l => hi ρ >>= fun h => u.give.d >>= fun d => vCut d l h
theorem de_sl {lo hi : Option Expr} {fl fh : En → M (Option Int)} {p2 : Pos} (he : DE X c Wx a f) (hl : DO X c Wx lo fl) (hh : DO X c Wx hi fh) : DE X c Wx (.Subscript a (.Slice lo hi none p2) pos) (sub fl fh f) := de_cut he hl hh
def rev (f : En → M Wv) (ρ : En) : M Wv := f ρ >>= fun u => u.give.d >>= vRev
theorem de_rv {k : Nat} {p1 p2 p3 : Pos} (he : DE X c Wx a f) : DE X c Wx (.Subscript a (.Slice none none (some (.UnaryOp .USub (.Constant (.int 1) k p1) p2)) p3) pos) (rev f) := de_rev he
def tup (fs : En → M (List Wv)) (ρ : En) : M Wv := fs ρ >>= mkTup
def lst (fs : En → M (List Wv)) (ρ : En) : M Wv := fs ρ >>= mkLst
theorem de_tp {x1} (h : DA X c Wx es fs) : DE X c Wx (.Tuple es x1 pos) (tup fs) := de_tup h
theorem de_ls (h : DA X c Wx es fs) : DE X c Wx (.List es pos) (lst fs) := de_lst h
def kN : En → M Wv := fun _ => .ok (.dat .none)
def kB' (b : Bool) : En → M Wv := fun _ => .ok (.dat (.bool b))
def kI (i : Int) : En → M Wv := fun _ => .ok (.dat (.int i))
def kS (x : Str) : En → M Wv := fun _ => .ok (.dat (.str x))
def kT (n : String) : En → M Wv := fun _ => .ok (.raw (.ty n))
def kD0 : En → M Wv := fun _ => .ok (.dat (.dict []))
theorem dk_N {j pos} : DE X c Wx (.Constant .none j pos) kN := de_non
theorem dk_B {b j pos} : DE X c Wx (.Constant (.bool b) j pos) (kB' b) := de_bl
theorem dk_I {i j pos} : DE X c Wx (.Constant (.int i) j pos) (kI i) := de_int
theorem dk_S {x j pos} : DE X c Wx (.Constant (.str x) j pos) (kS x) := de_str
theorem dk_gS {x z : Str} (hg : Gl X x) (hm : ∃ t, X.mg x = some (.str z t)) (hd : (x == ("__debug__" : Str)) = false := by decide) : DE X c Wx (.Name x pos) (kS z) := de_globS hg hm hd
theorem dk_gI {x : Str} {i : Int} (hg : Gl X x) (hm : ∃ t, X.mg x = some (.int i t)) (hd : (x == ("__debug__" : Str)) = false := by decide) : DE X c Wx (.Name x pos) (kI i) := de_globI hg hm hd
theorem dk_T {x : Str} {n : String} (hg : Gl X x) (hm : X.mg x = none) (hv : bootBuiltins x = some (.type n)) (hn : x ≠ "__name__" := by decide) (hd : (x == ("__debug__" : Str)) = false := by decide) : DE X c Wx (.Name x pos) (kT n) :=
  de_c (v := .ty n) (pe_bltn hg hm hv rfl hn hd) fun _ => rfl
theorem dk_D0 : DE X c Wx (.Dict [] [] pos) kD0 := de_dict0
/-! calls of builtins: hm says that the module has no such name -/
variable {st1 : starEach (a :: es) X.env = (false, eval a X.env) :: starEach es X.env} {st2 : (backTo pos (starEach es X.env)).any (·.1) = false}
theorem dc_len (hm : X.mg "len" = none) (hg : Gl X "len") (ha : DA X c Wx (a :: es) fs) (he : starEach (a :: es) X.env = (false, eval a X.env) :: starEach es X.env := by rfl) (hpl : (backTo pos (starEach es X.env)).any (·.1) = false := by rfl) : DE X c Wx (.Call (.Name "len" p) (a :: es) [] pos) (call (f1 vLen) fs) :=
  de_callB call_len ok_len hg hm boot_len ha (by decide) (by decide) he hpl
theorem dc_isi (n : String) (hm : X.mg "isinstance" = none) (hg : Gl X "isinstance") (ha : DA X c Wx (a :: es) fs) (he : starEach (a :: es) X.env = (false, eval a X.env) :: starEach es X.env := by rfl) (hpl : (backTo pos (starEach es X.env)).any (·.1) = false := by rfl) : DE X c Wx (.Call (.Name "isinstance" p) (a :: es) [] pos) (call (opIsi n) fs) :=
  de_callB call_isi (ok_isi n) hg hm boot_isinstance ha (by decide) (by decide) he hpl
theorem dc_all (hc : X.calm = true) (hm : X.mg "all" = none) (hg : Gl X "all") (ha : DA X c Wx (a :: es) fs) (he : starEach (a :: es) X.env = (false, eval a X.env) :: starEach es X.env := by rfl) (hpl : (backTo pos (starEach es X.env)).any (·.1) = false := by rfl) : DE X c Wx (.Call (.Name "all" p) (a :: es) [] pos) (call (f1 vAll) fs) :=
  de_callB (cr_all hc) ok_all hg hm boot_all ha (by decide) (by decide) he hpl
theorem dc_any (hc : X.calm = true) (hm : X.mg "any" = none) (hg : Gl X "any") (ha : DA X c Wx (a :: es) fs) (he : starEach (a :: es) X.env = (false, eval a X.env) :: starEach es X.env := by rfl) (hpl : (backTo pos (starEach es X.env)).any (·.1) = false := by rfl) : DE X c Wx (.Call (.Name "any" p) (a :: es) [] pos) (call (f1 vAny) fs) :=
  de_callB (cr_any hc) ok_any hg hm boot_any ha (by decide) (by decide) he hpl
theorem dc_sum (hc : X.calm = true) (hm : X.mg "sum" = none) (hg : Gl X "sum") (ha : DA X c Wx (a :: es) fs) (he : starEach (a :: es) X.env = (false, eval a X.env) :: starEach es X.env := by rfl) (hpl : (backTo pos (starEach es X.env)).any (·.1) = false := by rfl) : DE X c Wx (.Call (.Name "sum" p) (a :: es) [] pos) (call (f1 vSum) fs) :=
  de_callB (cr_sum hc) ok_sum hg hm boot_sum ha (by decide) (by decide) he hpl
theorem dc_max2 (hc : X.calm = true) (hm : X.mg "max" = none) (hg : Gl X "max") (ha : DA X c Wx (a :: es) fs) (he : starEach (a :: es) X.env = (false, eval a X.env) :: starEach es X.env := by rfl) (hpl : (backTo pos (starEach es X.env)).any (·.1) = false := by rfl) : DE X c Wx (.Call (.Name "max" p) (a :: es) [] pos) (call (f2 (vI2 fun i j => if j > i then j else i)) fs) :=
  de_callB (call_max2 hc) ok_i2 hg hm boot_max ha (by decide) (by decide) he hpl
theorem dc_min2 (hc : X.calm = true) (hm : X.mg "min" = none) (hg : Gl X "min") (ha : DA X c Wx (a :: es) fs) (he : starEach (a :: es) X.env = (false, eval a X.env) :: starEach es X.env := by rfl) (hpl : (backTo pos (starEach es X.env)).any (·.1) = false := by rfl) : DE X c Wx (.Call (.Name "min" p) (a :: es) [] pos) (call (f2 (vI2 fun i j => if j < i then j else i)) fs) :=
  de_callB (call_min2 hc) ok_i2 hg hm boot_min ha (by decide) (by decide) he hpl
theorem dc_abs (hm : X.mg "abs" = none) (hg : Gl X "abs") (ha : DA X c Wx (a :: es) fs) (he : starEach (a :: es) X.env = (false, eval a X.env) :: starEach es X.env := by rfl) (hpl : (backTo pos (starEach es X.env)).any (·.1) = false := by rfl) : DE X c Wx (.Call (.Name "abs" p) (a :: es) [] pos) (call (f1 vAbs) fs) :=
  de_callB call_abs ok_abs hg hm boot_abs ha (by decide) (by decide) he hpl
theorem dc_int (hm : X.mg "int" = none) (hg : Gl X "int") (ha : DA X c Wx (a :: es) fs) (he : starEach (a :: es) X.env = (false, eval a X.env) :: starEach es X.env := by rfl) (hpl : (backTo pos (starEach es X.env)).any (·.1) = false := by rfl) : DE X c Wx (.Call (.Name "int" p) (a :: es) [] pos) (call (f1 vInt) fs) :=
  de_callTy call_int1 ok_int1 hg hm boot_int ha (by decide) (by decide) he hpl
theorem dc_tuple (hm : X.mg "tuple" = none) (hg : Gl X "tuple") (ha : DA X c Wx (a :: es) fs) (he : starEach (a :: es) X.env = (false, eval a X.env) :: starEach es X.env := by rfl) (hpl : (backTo pos (starEach es X.env)).any (·.1) = false := by rfl) : DE X c Wx (.Call (.Name "tuple" p) (a :: es) [] pos) (call (f1 vTuple) fs) :=
  de_callTy call_tuple_of ok_tuple hg hm boot_tuple ha (by decide) (by decide) he hpl
theorem dc_list (hm : X.mg "list" = none) (hg : Gl X "list") (ha : DA X c Wx (a :: es) fs) (he : starEach (a :: es) X.env = (false, eval a X.env) :: starEach es X.env := by rfl) (hpl : (backTo pos (starEach es X.env)).any (·.1) = false := by rfl) : DE X c Wx (.Call (.Name "list" p) (a :: es) [] pos) (call (f1 vList) fs) :=
  de_callTy call_list_of ok_list hg hm boot_list ha (by decide) (by decide) he hpl
theorem dc_repr (r : Room k X.A) (gd : X.A.guards = some []) (sy : SysIn X.base) (hm : X.mg "repr" = none) (hg : Gl X "repr") (ha : DA X c Wx (a :: es) fs) (he : starEach (a :: es) X.env = (false, eval a X.env) :: starEach es X.env := by rfl) (hpl : (backTo pos (starEach es X.env)).any (·.1) = false := by rfl) : DE X c Wx (.Call (.Name "repr" p) (a :: es) [] pos) (call (f1 vRepr) fs) :=
  de_callB (cr_repr gd (Room.u100 r) sy) ok_repr hg hm boot_repr ha (by decide) (by decide) he hpl
def ccall (n : Nat) (g : List Wv → M Wv) (fs : En → M (List Wv)) (ρ : En) : M Wv := fs ρ >>= fun ws => if ws.length = n then g ws else .bad
theorem dc_own {x : Str} {n : Nat} {g : List Wv → M Wv} (G : Den X.prog X.w X.K X.mg X.base k x n g) (room : Room k X.A) (guard : X.A.guards = some []) (tk : Takes X Wx) (hg : Gl X x) (ha : DA X c Wx (a :: es) fs) (hn : (a :: es).length = n := by rfl)
    (hdb : (x == ("__debug__" : Str)) = false := by decide) (he : starEach (a :: es) X.env = (false, eval a X.env) :: starEach es X.env := by rfl) (hpl : (backTo pos (starEach es X.env)).any (·.1) = false := by rfl) :
    DE X c Wx (.Call (.Name x p) (a :: es) [] pos) (ccall n g fs) := de_call G room guard hg tk ha hn hdb he hpl
end
/-! ## a def of the text -/
def Has (K : PySem.W.Frag) (mg : Str → Option Value) (x : Str) (st : Stmt) (ps : List Str) : Prop := ∃ f fd, mg x = some (.ref f) ∧ Fun K x x st f fd ∧ Binds K fd ps []
structure Sys (K : PySem.W.Frag) (mg : Str → Option Value) (base : Heap) : Prop where
  sys : SysIn base
structure Ar (X : Cx) (Wx : WX) (k : Nat) : Prop where
  at_ : At X Wx k
  sys : SysIn X.base
theorem Ar.room {X : Cx} {Wx : WX} {k : Nat} (a : Ar X Wx k) : Room k X.A := a.at_.room
theorem Ar.guard {X : Cx} {Wx : WX} {k : Nat} (a : Ar X Wx k) : X.A.guards = some [] := a.at_.guard
theorem Ar.tk {X : Cx} {Wx : WX} {k : Nat} (a : Ar X Wx k) : Takes X Wx := a.at_.tk
theorem Ar.own {X : Cx} {Wx : WX} {k : Nat} (a : Ar X Wx k) : PassesOwn (model X.prog X.w) X.A X.env X.xe := a.at_.own
theorem has_den {P : Program} {w : World} {K : PySem.W.Frag} {mg : Str → Option Value} {base : Heap} {k : Nat} {x : Str} {st : Stmt} {N ps : List Str} {g : En → M Fl} (sy : SysIn base) (T : Has K mg x st ps) (S : FnScope N ps (defScope st))
    (h : ∀ (f : Addr) (cd : Value) (A : Around) (out : List Env) (s : Shared) (H : Hp) (E : XK) (c : Act), Ar (cxOf (L2.CX P w) P w K mg base N x (defScope st) f cd A out s H E) (fun cls d _ H => E cls d H) k →
      DSs (cxOf (L2.CX P w) P w K mg base N x (defScope st) f cd A out s H E) c (fun cls d _ H => E cls d H) (defBody st) g) : Den P w K mg base (k + 1) x ps.length (body N.length g) := by
  obtain ⟨f, fd, hm, F, hb⟩ := T
  exact den_of hm F hb S fun cd A out s H E c a => h f cd A out s H E c ⟨a, sy⟩
end DL

namespace DL
open PySem PySem.Spec PyProof.Rows L2 SeqAt HT
/-! ## the drawing of numbers -/
theorem shaped_ints (ns : List Int) : shaped (.list (ns.map PyData.int)) = true := by
  have h1 : PyData.canLayAll0 (ns.map PyData.int) = true := by
    induction ns with
    | nil => rfl
    | cons n ns ih =>
      simp only [List.map_cons]
      unfold PyData.canLayAll0 PyData.canLay0
      simpa using ih
  have h2 : PyData.depthAll (ns.map PyData.int) ≤ 1 := by
    induction ns with
    | nil => decide
    | cons n ns ih =>
      simp only [List.map_cons]
      unfold PyData.depthAll PyData.depth
      have := ih (by simpa [PyData.canLayAll0, PyData.canLay0] using h1)
      omega
  unfold shaped PyData.canLay0 PyData.depth
  simp only [h1, Bool.true_and, decide_eq_true_eq]
  omega
theorem drs_ints {K : PySem.W.Frag} {F : Hp} : ∀ ns : List Int, DRs K F (ns.map V.int) (ns.map PyData.int)
  | [] => .nil
  | n :: ns => .cons (.int n) (drs_ints ns)
theorem Step.potset {H F : Hp} {p c : Addr} (l : Same F H) (hp : PotIn (some (p, c)) H F) (n x y : Int) : Step (some (p, c)) H F (upd H p (.lst [.ref c, .int n, .int x, .int y])) F := by
  obtain ⟨⟨i, x', y', r⟩, f, ns, r2, ne⟩ := hp p c rfl
  refine ⟨Same.refl F, fun a u e => ?_, fun a u e => .inl e, fun a u q e => ?_, fun q c' e => ?_⟩
  · have z : a ≠ p := fun z => by subst z; rw [f] at e; cases e
    rw [upd_ne z]; exact l a u e
  · rw [upd_ne (q p c rfl)]; exact e
  · cases e
    exact ⟨⟨n, x, y, upd_same⟩, f, ns, by rw [upd_ne ne]; exact r2, ne⟩
section
variable {K : PySem.W.Frag} {H F : Hp} {σ : L2.St} {Q : VK} {p c : Addr}
theorem ix_pot {i : Nat} {k : Int} {xs : List V} {v : V} (hσ : σ[i]? = some (some (.ref p))) (hp : H p = some (.lst xs)) (hi : atI xs k = some v) (q : Q v H) : tOp (rIx K) (tVar i) (tC (.int k)) σ H Q :=
  ⟨.ref p, hσ, .inl ⟨p, xs, k, v, rfl, rfl, .inl (.inl hp), hi, q⟩⟩
theorem set_pot {i : Nat} {k : Int} {xs : List V} {v : V} {R : L2.St → Hp → Prop} {j : Nat} (hσ : σ[i]? = some (some (.ref p))) (hp : H p = some (.lst xs)) (hi : ixN xs.length k = some j) (q : R σ (upd H p (.lst (xs.set j v)))) : gSub (tVar i) (tC (.int k)) rSetL v σ H R :=
  ⟨.ref p, hσ, p, xs, k, j, rfl, rfl, hp, hi, q⟩
end
theorem ifT {P Q : Prop} {b : Bool} (h : b = true) (p : P) : if b = true then P else Q := by rw [if_pos h]; exact p
theorem ifF {P Q : Prop} {b : Bool} (h : b = false) (q : Q) : if b = true then P else Q := by rw [if_neg (by rw [h]; exact Bool.false_ne_true)]; exact q
abbrev rInt : List V → Hp → VK → Prop := fun xs H Q => (∃ i, xs = [V.int i] ∧ Q (V.int i) H) ∨ ∃ k, xs = [V.bl k] ∧ Q (V.int (if k = true then 1 else 0)) H
abbrev rLen (K : PySem.W.Frag) : List V → Hp → VK → Prop := fun xs H Q => ∃ x n, xs = [x] ∧ LenV K x H n ∧ Q (V.int ↑n) H
abbrev cPlace : TE := tVar 4
abbrev iPlace : TE := tCB rInt (tCons (tVar 4) tNil)
/-- what _law_below does, with the place as tp tells it -/
def tDraw (K : PySem.W.Frag) (tp : TE) (kn : TA → TE) (big : Int) : TS :=
  tSeq (tIfS (tTest (tOp (rI0 fun i j => V.bl (decide (i < j))) (tOp (rIx K) (tVar 0) (tC (V.int 3))) (tVar 1)))
    (tSeq (tPar 3 4 (tCons (tOp (rIx K) (tVar 0) (tC (V.int 0))) (tCons (tOp (rIx K) (tVar 0) (tC (V.int 1))) tNil)))
    (tSeq (tAsg (tIf (tTest (tOp (rEqF K true) (tVar 3) (tLst tNil))) (tOp (rIx K) (tVar 3) (tOp (rI (fun x j => 0 < j) fun i j => V.int (i % j)) tp (tCB (rLen K) (tCons (tVar 3) tNil)))) (tC (V.int 0))) (gName 2))
    (tSeq (tIfS (tOr (tTest (tOp (rI0 fun i j => V.bl (decide (j ≤ i))) (tVar 4) (tCB (rLen K) (tCons (tVar 3) tNil)))) (tTest (tOp (rI0 fun i j => V.bl (decide (i < j))) (tVar 2) (tOp (rI CPow fun i j => V.int (i ^ j.toNat)) (tC (V.int 10)) (tC (V.int 16))))))
        (tSeq (tAsg (kn (tCons (tOp (rI (fun x j => 0 < j) fun i j => V.int (i % j)) (tCB rInt (tCons (tVar 2) tNil)) (tC (V.int big))) (tCons (tVar 4) tNil))) (gName 2)) tNext) tNext)
    (tSeq (tAsg (tOp (rI0 fun i j => V.int (i + j)) (tVar 4) (tC (V.int 1))) (gSub (tVar 0) (tC (V.int 1)) rSetL))
    (tSeq (tAsg (tVar 2) (gSub (tVar 0) (tC (V.int 2)) rSetL))
    (tSeq (tAsg (tVar 2) (gSub (tVar 0) (tC (V.int 3)) rSetL)) tNext)))))) tNext)
  (tSeq (tAsg (tOp (rI (fun x j => 0 < j) fun i j => V.int (i % j)) (tCB rInt (tCons (tOp (rIx K) (tVar 0) (tC (V.int 2))) tNil)) (tVar 1)) (gName 5))
  (tSeq (tAsg (tOp (rI CDivW fun i j => V.int (i / j)) (tOp (rIx K) (tVar 0) (tC (V.int 2))) (tVar 1)) (gSub (tVar 0) (tC (V.int 2)) rSetL))
  (tSeq (tAsg (tOp (rI CDivW fun i j => V.int (i / j)) (tOp (rIx K) (tVar 0) (tC (V.int 3))) (tVar 1)) (gSub (tVar 0) (tC (V.int 3)) rSetL))
  (tSeq (tRet (tVar 5)) tNext))))
def dPot : List Wv → M Wv
  | [.pot, .dat (.int b)] => if 0 < b ∧ b.natAbs.log2 < 9000 then .pick b.toNat fun r => .ok (.dat (.int r)) else .bad
  | _ => .bad
/-- what a call of the mixing function does -/
def Kneads (kn : TA → TE) : Prop := ∀ (pi : Pot) (t : TA) (σ : L2.St) (H F : Hp) (Q : VK) (a b : Int), Same F H → PotIn pi H F → (∀ R : List V → Hp → Prop, R [.int a, .int b] H → t σ H R) → (∀ H' F', Step pi H F H' F' → ∀ i : Int, Q (.int i) H') → kn t σ H Q
theorem atI_nat {α : Type} {xs : List α} {i : Int} (h0 : 0 ≤ i) (h1 : i < xs.length) : ∃ v, atI xs i = some v := by
  unfold atI ixN
  rw [if_pos h0, if_pos h1]
  exact ⟨xs[i.toNat]'(by omega), by simp⟩
theorem draw_ok {K : PySem.W.Frag} {tp : TE} {kn : TA → TE} {big : Int} (hbig : 0 < big) (hkn : Kneads kn)
    (htp : ∀ (σ : L2.St) (H : Hp) (Q : VK) (i : Int), σ[4]? = some (some (.int i)) → Q (.int i) H → tp σ H Q)
    {H F : Hp} {p c : Addr} {b : Int} {Q : VK} {D : Ends} (l : Same F H) (hp : PotIn (some (p, c)) H F) (hb : 0 < b ∧ b.natAbs.log2 < 9000)
    (q : ∀ H' F', Step (some (p, c)) H F H' F' → ∀ r : Nat, r < b.toNat → D.rt (.int r) H') (s2 s3 s4 s5 : Option V) : tDraw K tp kn big D [some (.ref p), some (.int b), s2, s3, s4, s5] H := by
  have tail : ∀ (H' F' : Hp) (s2 s3 s4 s5 : Option V), Step (some (p, c)) H F H' F' → tSeq (tAsg (tOp (rI (fun x j => 0 < j) fun i j => V.int (i % j)) (tCB rInt (tCons (tOp (rIx K) (tVar 0) (tC (V.int 2))) tNil)) (tVar 1)) (gName 5))
      (tSeq (tAsg (tOp (rI CDivW fun i j => V.int (i / j)) (tOp (rIx K) (tVar 0) (tC (V.int 2))) (tVar 1)) (gSub (tVar 0) (tC (V.int 2)) rSetL))
      (tSeq (tAsg (tOp (rI CDivW fun i j => V.int (i / j)) (tOp (rIx K) (tVar 0) (tC (V.int 3))) (tVar 1)) (gSub (tVar 0) (tC (V.int 3)) rSetL))
      (tSeq (tRet (tVar 5)) tNext))) D [some (.ref p), some (.int b), s2, s3, s4, s5] H' := by
    intro H' F' s2 s3 s4 s5 st
    obtain ⟨⟨n, x, y, r⟩, f, ns, r2, ne⟩ := st.pot p c rfl
    refine ix_pot rfl r rfl (.inl ⟨x, rfl, .int b, rfl, x, b, rfl, rfl, hb.1, ?_⟩)
    refine ix_pot (p := p) rfl r rfl ⟨.int b, rfl, x, b, rfl, rfl, hb, set_pot (p := p) (j := 2) rfl r rfl ?_⟩
    refine ix_pot (p := p) rfl upd_same rfl ⟨.int b, rfl, y, b, rfl, rfl, hb, set_pot (p := p) (j := 3) rfl upd_same rfl ?_⟩
    refine ⟨_, rfl, ?_⟩
    have st2 := st.trans hp (Step.potset st.le st.pot n (x / b) y)
    have st3 := st2.trans hp (Step.potset st2.le st2.pot n (x / b) (y / b))
    have h0 : 0 ≤ x % b := Int.emod_nonneg x (by omega)
    have h1 : x % b < b := Int.emod_lt_of_pos x hb.1
    have h2 : x % b = ((x % b).toNat : Int) := by omega
    have q' := q _ _ st3 (x % b).toNat (by omega)
    rw [← h2] at q'
    exact q'
  obtain ⟨⟨n, x, y, r⟩, f, ns, r2, ne⟩ := hp p c rfl
  refine ix_pot rfl r rfl ⟨.int b, rfl, y, b, rfl, rfl, _, rfl, ?_⟩
  by_cases hlt : y < b
  · refine ifT (by simpa using hlt) ?_
    refine ix_pot (p := p) rfl r rfl (ix_pot (p := p) rfl r rfl ⟨_, _, rfl, ?_⟩)
    have rest : ∀ (H' F' : Hp) (amount : Int), Step (some (p, c)) H F H' F' → tSeq (tAsg (tOp (rI0 fun i j => V.int (i + j)) (tVar 4) (tC (V.int 1))) (gSub (tVar 0) (tC (V.int 1)) rSetL))
        (tSeq (tAsg (tVar 2) (gSub (tVar 0) (tC (V.int 2)) rSetL)) (tSeq (tAsg (tVar 2) (gSub (tVar 0) (tC (V.int 3)) rSetL)) tNext))
        { nx := (tSeq (tAsg (tOp (rI (fun x j => 0 < j) fun i j => V.int (i % j)) (tCB rInt (tCons (tOp (rIx K) (tVar 0) (tC (V.int 2))) tNil)) (tVar 1)) (gName 5))
      (tSeq (tAsg (tOp (rI CDivW fun i j => V.int (i / j)) (tOp (rIx K) (tVar 0) (tC (V.int 2))) (tVar 1)) (gSub (tVar 0) (tC (V.int 2)) rSetL))
      (tSeq (tAsg (tOp (rI CDivW fun i j => V.int (i / j)) (tOp (rIx K) (tVar 0) (tC (V.int 3))) (tVar 1)) (gSub (tVar 0) (tC (V.int 3)) rSetL))
      (tSeq (tRet (tVar 5)) tNext)))) D, rt := D.rt, bk := D.bk, ct := D.ct } [some (.ref p), some (.int b), some (.int amount), some (.ref c), some (.int n), s5] H' := by
      intro H' F' amount st
      obtain ⟨⟨n', x', y', r'⟩, f', ns', r2', ne'⟩ := st.pot p c rfl
      refine ⟨.int n, rfl, n, 1, rfl, rfl, set_pot (p := p) (j := 1) rfl r' rfl ?_⟩
      refine ⟨.int amount, rfl, set_pot (p := p) (j := 2) rfl upd_same rfl ?_⟩
      refine ⟨.int amount, rfl, set_pot (p := p) (j := 3) rfl upd_same rfl ?_⟩
      have st1 := st.trans hp (Step.potset st.le st.pot (n + 1) x' y')
      have st2 := st1.trans hp (Step.potset st1.le st1.pot (n + 1) amount y')
      have st3 := st2.trans hp (Step.potset st2.le st2.pot (n + 1) amount amount)
      exact tail _ _ _ _ _ _ st3
    have mid : ∀ (H' F' : Hp) (amount : Int) (R : Ends), Step (some (p, c)) H F H' F' → (∀ (H'' F'' : Hp) (am : Int), Step (some (p, c)) H F H'' F'' → R.nx [some (.ref p), some (.int b), some (.int am), some (.ref c), some (.int n), s5] H'') →
        tIfS (tOr (tTest (tOp (rI0 fun i j => V.bl (decide (j ≤ i))) (tVar 4) (tCB (rLen K) (tCons (tVar 3) tNil)))) (tTest (tOp (rI0 fun i j => V.bl (decide (i < j))) (tVar 2) (tOp (rI CPow fun i j => V.int (i ^ j.toNat)) (tC (V.int 10)) (tC (V.int 16))))))
        (tSeq (tAsg (kn (tCons (tOp (rI (fun x j => 0 < j) fun i j => V.int (i % j)) (tCB rInt (tCons (tVar 2) tNil)) (tC (V.int big))) (tCons (tVar 4) tNil))) (gName 2)) tNext) tNext R [some (.ref p), some (.int b), some (.int amount), some (.ref c), some (.int n), s5] H' := by
      intro H' F' amount R st go
      obtain ⟨⟨n', x', y', r'⟩, f', ns', r2', ne'⟩ := st.pot p c rfl
      have doit : tSeq (tAsg (kn (tCons (tOp (rI (fun x j => 0 < j) fun i j => V.int (i % j)) (tCB rInt (tCons (tVar 2) tNil)) (tC (V.int big))) (tCons (tVar 4) tNil))) (gName 2)) tNext R [some (.ref p), some (.int b), some (.int amount), some (.ref c), some (.int n), s5] H' := by
        refine hkn (some (p, c)) _ _ _ F' _ (amount % big) n st.le st.pot (fun R' hR => ?_) fun H'' F'' st2 i => go H'' F'' i (st.trans hp st2)
        exact ⟨.int amount, rfl, .inl ⟨amount, rfl, amount, big, rfl, rfl, hbig, .int n, rfl, hR⟩⟩
      refine ⟨.int n, rfl, .ref c, rfl, .ref c, ns'.length, rfl, .inl ⟨_, .inl (.inl r2'), by rw [List.length_map]⟩, n, _, rfl, rfl, _, rfl, ?_⟩
      by_cases h1 : (ns'.length : Int) ≤ n
      · exact ifT (by simpa using h1) (ifT rfl doit)
      · refine ifF (by simpa using h1) ⟨.int amount, rfl, 10, 16, rfl, rfl, ⟨by decide, by decide, by decide⟩, amount, _, rfl, rfl, _, rfl, ?_⟩
        by_cases h2 : decide (amount < (10 : Int) ^ (16 : Int).toNat) = true
        · exact ifT h2 doit
        · exact ifF (by simpa using h2) (go H' F' amount st)
    have dr : ∀ {G : Hp}, Same H G → DR K G (.ref c) (.list (ns.map PyData.int)) := fun m => .lst (m _ _ r2) (drs_ints ns)
    refine ⟨.ref c, rfl, by show (0:Nat) ≤ _; omega, fun a ha => ⟨upd H a (.lst []), .list (ns.map .int), .list [], Same.refl _, dr (fun x o e => by rw [upd_ne (ne_of_none e ha)]; exact e), .lst upd_same .nil, shaped_ints ns, rfl, _, rfl, ?_⟩⟩
    have stA : Step (some (p, c)) H F (upd H a (.lst [])) F := Step.layH l hp ha
    obtain ⟨⟨nA, xA, yA, rA⟩, fA, nsA, r2A, neA⟩ := stA.pot p c rfl
    have r2A' : upd H a (.lst []) c = some (.lst (ns.map V.int)) := by rw [upd_ne (ne_of_none r2 ha)]; exact r2
    cases ns with
    | nil =>
      refine ifF (by decide) ?_
      exact mid _ _ 0 _ stA fun H'' F'' am st => rest H'' F'' am st
    | cons n0 ns0 =>
      refine ifT (by rfl) ⟨.ref c, rfl, htp _ _ _ n rfl ⟨.ref c, rfl, .ref c, (n0 :: ns0).length, rfl, .inl ⟨_, .inl (.inl r2A'), by rw [List.length_map]⟩, n, _, rfl, rfl, by simp only [List.length_cons]; omega, ?_⟩⟩
      have h0 : 0 ≤ n % ((n0 :: ns0).length : Int) := Int.emod_nonneg n (by simp only [List.length_cons]; omega)
      have h1 : n % ((n0 :: ns0).length : Int) < ((n0 :: ns0).length : Int) := Int.emod_lt_of_pos n (by simp only [List.length_cons]; omega)
      obtain ⟨v, hv⟩ := atI_nat (xs := (n0 :: ns0).map V.int) h0 (by rw [List.length_map]; exact h1)
      have hv2 : ∃ am : Int, v = .int am := by
        unfold atI at hv
        rw [Option.bind_eq_some_iff] at hv
        obtain ⟨j, _, hj⟩ := hv
        rw [List.getElem?_map, Option.map_eq_some_iff] at hj
        obtain ⟨am, _, e⟩ := hj
        exact ⟨am, e.symm⟩
      obtain ⟨am, rfl⟩ := hv2
      refine .inl ⟨c, _, _, _, rfl, rfl, .inl (.inl r2A'), hv, ?_⟩
      exact mid _ _ am _ stA fun H'' F'' am st => rest H'' F'' am st
  · exact ifF (by simpa using hlt) (tail H F s2 s3 s4 s5 (Step.refl l hp))
theorem kneads_of {K : PySem.W.Frag} {mg : Str → Option Value} {g : List Wv → M Wv} {E : L2.St → XK} (h : ∀ a b : Int, ∃ i : Int, g [.dat (.int a), .dat (.int b)] = .ok (.dat (.int i))) : Kneads (tCallS (spD K mg 2 g) E) := fun pi t σ H F Q a b l hp ht q => by
  refine ht _ ⟨rfl, pi, F, [.dat (.int a), .dat (.int b)], l, hp, .cons (.int a) (.cons (.int b) .nil), ?_⟩
  obtain ⟨i, e⟩ := h a b
  rw [e]
  intro H' F' st v r
  cases r
  exact q H' F' st i
/-- a draw's promise from what its def does -/
theorem draw_den {K : PySem.W.Frag} {mg : Str → Option Value} {tp : TE} {kn : TA → TE} {big : Int} {N0 N1 N2 N3 N4 N5 : Str} (hbig : 0 < big) (hkn : Kneads kn)
    (htp : ∀ (σ : L2.St) (H : Hp) (Q : VK) (i : Int), σ[4]? = some (some (.int i)) → Q (.int i) H → tp σ H Q) {vs : List V} {H : Hp} {Q : VK} {E : XK} (z : spD K mg 2 dPot vs H Q E) :
    tDraw K tp kn big { nx := fun _ H' => Q .non H', rt := Q } (L2.start [N0, N1, N2, N3, N4, N5] vs) H := by
  obtain ⟨z1, pi, F, ws, l, hp, gv, q⟩ := z
  cases gv with
  | nil => cases z1
  | cons g1 gr =>
    cases gr with
    | nil => cases z1
    | cons g2 gr2 =>
      cases gr2 with
      | cons _ _ => cases z1
      | nil =>
        unfold dPot at q
        split at q
        · rename_i b e
          cases e
          obtain ⟨p, c, rfl, rfl⟩ := g1
          cases g2
          split at q
          · rename_i hb
            exact draw_ok hbig hkn htp (Q := Q) l hp hb (fun H' F' st r hr => q r hr H' F' st (.int r) (.int r)) _ _ _ _
          · exact q.elim
        · exact q.elim
end DL

namespace DL
open PySem (PyData)
/-! ## reckoning: each rule steps once, what follows waits under a name -/
section
variable {α β : Type} {m n vs : List Nat} {i j : Nat} {f fa fb fc : En → M Wv} {g g' : En → M Fl} {t ta tb : En → M Bool} {fs : En → M (List Wv)} {ρ : En} {w u : Wv} {o : Option Wv} {d : D} {ds xs ys : List D} {k : Bool}
def sel {α : Type} (b : Bool) (x y : α) : α := match b with
  | true => x
  | false => y
theorem sel_true {x y : α} : sel true x y = x := id rfl
theorem sel_false {x y : α} : sel false x y = y := id rfl
theorem sel_self {b : Bool} {x : α} : sel b x x = x := by cases b <;> rfl
theorem okb {f : α → M β} {a : α} : ((M.ok a : M α) >>= f) = f a := id rfl
theorem excb {e : Ex} {f : α → M β} : ((M.exc e : M α) >>= f) = .exc e := id rfl
theorem badb {f : α → M β} : ((M.bad : M α) >>= f) = .bad := id rfl
theorem pickb {f : α → M β} {n : Nat} {h : Nat → M α} : ((M.pick n h : M α) >>= f) = .pick n fun i => h i >>= f := id rfl
theorem okp {a : α} {Q : α → Prop} {E : Ex → Prop} : (M.ok a).post Q E = Q a := id rfl
theorem pickp {n : Nat} {h : Nat → M α} {Q : α → Prop} {E : Ex → Prop} : (M.pick n h).post Q E = ∀ i, i < n → (h i).post Q E := id rfl
theorem ddat : Wv.d (.dat d) = .ok d := id rfl
theorem down : Wv.d (.own xs) = .ok (.list xs) := id rfl
theorem sdat : Wv.still (.dat d) = noL d := id rfl
theorem sown : Wv.still (.own xs) = noLs xs := id rfl
theorem sraw {v : L2.V} : Wv.still (.raw v) = true := id rfl
theorem spot : Wv.still .pot = true := id rfl
theorem gdat : Wv.give (.dat d) = .dat d := id rfl
theorem gown : Wv.give (.own xs) = .dat (.list xs) := id rfl
theorem graw {v : L2.V} : Wv.give (.raw v) = .raw v := id rfl
theorem gpot : Wv.give .pot = .pot := id rfl
theorem asBb {b : Bool} : asB (.dat (.bool b)) = .ok b := id rfl
theorem asIi {z : Int} : asI (.dat (.int z)) = .ok z := id rfl
theorem kBok {b : Bool} : kB (.ok b) = .ok (.dat (.bool b)) := id rfl
theorem noxok {a : α} : M.nox (M.ok a) = .ok a := id rfl
theorem datas0 : datas [] = .ok [] := id rfl
/-! slots -/
theorem frz1_own : frz1 0 (some (.own xs) :: ρ) = some (.dat (.list xs)) :: ρ := id rfl
theorem frz1_dat : frz1 0 (some (.dat d) :: ρ) = some (.dat d) :: ρ := id rfl
theorem frz1_raw {v : L2.V} : frz1 0 (some (.raw v) :: ρ) = some (.raw v) :: ρ := id rfl
theorem frz1_pot : frz1 0 (some .pot :: ρ) = some .pot :: ρ := id rfl
theorem frz1_none : frz1 0 (none :: ρ) = none :: ρ := id rfl
theorem frz1_nil : frz1 i [] = [] := by cases i <;> rfl
theorem frz1_succ : frz1 (i + 1) (o :: ρ) = o :: frz1 i ρ := by
  unfold frz1
  rw [List.getElem?_cons_succ]
  cases ρ[i]? with
  | none => rfl
  | some z => cases z with
    | none => rfl
    | some z => cases z <;> rfl
theorem frz_nil : frz [] ρ = ρ := id rfl
theorem frz_cons : frz (i :: m) ρ = frz m (frz1 i ρ) := id rfl
theorem rdv_dat : rdv 0 (some (.dat d) :: ρ) = .ok (.dat d) := id rfl
theorem rdv_raw {v : L2.V} : rdv 0 (some (.raw v) :: ρ) = .ok (.raw v) := id rfl
theorem rdv_pot : rdv 0 (some .pot :: ρ) = .ok .pot := id rfl
theorem rdv_succ : rdv (i + 1) (o :: ρ) = rdv i ρ := id rfl
theorem rtnV_zero : rtnV 0 (some w :: ρ) = .ok (.ret w) := id rfl
theorem rtnV_succ : rtnV (i + 1) (o :: ρ) = rtnV i ρ := id rfl
theorem ownAt_zero : ownAt (some (.own xs) :: ρ) 0 = .ok xs := id rfl
theorem ownAt_succ : ownAt (o :: ρ) (i + 1) = ownAt ρ i := id rfl
theorem startE_eq {N : Nat} {ws : List Wv} : startE N ws = ws.map some ++ List.replicate (N - ws.length) none := id rfl
/-! statements -/
def seqK (g' : En → M Fl) : Fl → M Fl
  | .nx ρ' => g' ρ'
  | fl => .ok fl
theorem seq_e : seq g g' ρ = g ρ >>= seqK g' := by unfold seq; congr 1
theorem seqK_nx : seqK g' (.nx ρ) = g' ρ := id rfl
theorem seqK_ret : seqK g' (.ret w) = .ok (.ret w) := id rfl
theorem seqK_brk : seqK g' (.brk ρ) = .ok (.brk ρ) := id rfl
theorem seqK_cont : seqK g' (.cont ρ) = .ok (.cont ρ) := id rfl
def asgK (m : List Nat) (i : Nat) (ρ : En) (w : Wv) : M Fl := .ok (.nx ((if w.still = true then ρ else frz m ρ).set i (some w)))
theorem asg_e : asg m i f ρ = f (frz m ρ) >>= asgK m i ρ := id rfl
theorem asgK_e : asgK m i ρ w = .ok (.nx (sel w.still (ρ.set i (some w)) ((frz m ρ).set i (some w)))) := by
  unfold asgK
  cases w.still <;> rfl
def rtnK (w : Wv) : M Fl := .ok (.ret w)
theorem rtn_e : rtn m f ρ = f (frz m ρ) >>= rtnK := id rfl
theorem rtnK_e : rtnK w = .ok (.ret w) := id rfl
theorem rtnN_e : rtnN ρ = .ok (.ret (.dat .none)) := id rfl
def exsK (ρ : En) (_ : Wv) : M Fl := .ok (.nx ρ)
theorem exs_e : exs m f ρ = f (frz m ρ) >>= exsK ρ := id rfl
theorem exsK_e : exsK ρ w = .ok (.nx ρ) := id rfl
def ifsK (g g' : En → M Fl) (ρ : En) (b : Bool) : M Fl := if b = true then g ρ else g' ρ
theorem ifs_e : ifs m t g g' ρ = t (frz m ρ) >>= ifsK g g' ρ := id rfl
theorem ifsK_true : ifsK g g' ρ true = g ρ := id rfl
theorem ifsK_false : ifsK g g' ρ false = g' ρ := id rfl
theorem skip_e : skip ρ = .ok (.nx ρ) := id rfl
theorem brkS_e : brkS ρ = .ok (.brk ρ) := id rfl
theorem contS_e : contS ρ = .ok (.cont ρ) := id rfl
theorem badS_e : badS ρ = .bad := id rfl
theorem body_e {N : Nat} {ws : List Wv} : body N g ws = g (startE N ws) >>= fin := id rfl
theorem fin_ret : fin (.ret w) = .ok w := id rfl
theorem fin_nx : fin (.nx ρ) = .ok (.dat .none) := id rfl
def app1K (ρ : En) (i : Nat) (d : D) (xs : List D) : M Fl := small xs.length (.ok (.nx (ρ.set i (some (.own (xs ++ [d]))))))
theorem app1_e : app1 ρ i d = ownAt ρ i >>= app1K ρ i d := id rfl
theorem app1K_e : app1K ρ i d xs = small xs.length (.ok (.nx (ρ.set i (some (.own (xs ++ [d])))))) := id rfl
def appD (m : List Nat) (i : Nat) (ρ : En) (d : D) : M Fl := app1 (if noL d = true then ρ else frz m ρ) i d
def appW (m : List Nat) (i : Nat) (ρ : En) (w : Wv) : M Fl := w.d >>= appD m i ρ
def appO (m : List Nat) (i : Nat) (f : En → M Wv) (ρ : En) (_ : List D) : M Fl := f (frz m ρ) >>= appW m i ρ
theorem app_e : app m i f ρ = ownAt ρ i >>= appO m i f ρ := id rfl
theorem appO_e : appO m i f ρ xs = f (frz m ρ) >>= appW m i ρ := id rfl
theorem appW_e : appW m i ρ w = w.d >>= appD m i ρ := id rfl
theorem appD_e : appD m i ρ d = app1 (sel (noL d) ρ (frz m ρ)) i d := by
  unfold appD
  cases noL d <;> rfl
def asg2L (m : List Nat) (i j : Nat) (ρ : En) (u w : Wv) : M Fl := .ok (.nx (((if (u.still && w.still) = true then ρ else frz m ρ).set i (some u)).set j (some w)))
def asg2K (m : List Nat) (i j : Nat) (fb : En → M Wv) (ρ : En) (u : Wv) : M Fl := fb (frz m ρ) >>= asg2L m i j ρ u
theorem asg2_e : asg2 m i j fa fb ρ = fa (frz m ρ) >>= asg2K m i j fb ρ := id rfl
theorem asg2K_e : asg2K m i j fb ρ u = fb (frz m ρ) >>= asg2L m i j ρ u := id rfl
theorem asg2L_e : asg2L m i j ρ u w = .ok (.nx (sel (u.still && w.still) ((ρ.set i (some u)).set j (some w)) (((frz m ρ).set i (some u)).set j (some w)))) := by
  unfold asg2L
  cases (u.still && w.still) <;> rfl
def goOn : Option En → M Fl
  | some ρ => .ok (.nx ρ)
  | none => .bad
def unpD (m is : List Nat) (ρ : En) (d : D) : M Fl := goOn (bT is d (if noL d = true then ρ else frz m ρ))
def unpW (m is : List Nat) (ρ : En) (w : Wv) : M Fl := w.d >>= unpD m is ρ
theorem unp_e {is : List Nat} : unp m is f ρ = f (frz m ρ) >>= unpW m is ρ := by
  unfold unp
  congr 1
theorem unpW_e {is : List Nat} : unpW m is ρ w = w.d >>= unpD m is ρ := id rfl
theorem unpD_e {is : List Nat} : unpD m is ρ d = goOn (bT is d (sel (noL d) ρ (frz m ρ))) := by
  unfold unpD
  cases noL d <;> rfl
theorem goOn_some : goOn (some ρ) = .ok (.nx ρ) := id rfl
theorem goOn_none : goOn none = .bad := id rfl
theorem bT_e {is : List Nat} (h : ds.length = is.length) : bT is (.tuple ds) ρ = some (setL is ds ρ) := if_pos h
theorem setL_cons {is : List Nat} : setL (i :: is) (d :: ds) ρ = setL is ds (ρ.set i (some (.dat d))) := id rfl
theorem setL_nil : setL [] ds ρ = ρ := id rfl
theorem bN_e : bN i d ρ = some (ρ.set i (some (.dat d))) := id rfl
def atK (i : Nat) (d : D) (ρ : En) (xs : List D) (j : Int) : M Fl := goOn ((L2.ixN xs.length j).map fun k => ρ.set i (some (.own (xs.set k d))))
def sto1K (i : Nat) (d : D) (j : Int) (ρ : En) (xs : List D) : M Fl := atK i d ρ xs j
theorem sto1_e {z : Int} : sto1 i d z ρ = ownAt ρ i >>= sto1K i d z ρ := by
  unfold sto1
  congr 1
  funext xs
  unfold sto1K atK goOn
  cases L2.ixN xs.length z <;> rfl
def sto2I (i : Nat) (d : D) (ρ : En) (j : Int) : M Fl := sto1 i d j ρ
def sto2W (i : Nat) (d : D) (ρ : En) (u : Wv) : M Fl := asI u >>= sto2I i d ρ
def sto2K (n : List Nat) (i : Nat) (d : D) (fi : En → M Wv) (ρ : En) (_ : List D) : M Fl := fi (frz n ρ) >>= sto2W i d ρ
def stoD (m n : List Nat) (i : Nat) (fi : En → M Wv) (ρ : En) (d : D) : M Fl := sto2 n i d fi (if noL d = true then ρ else frz m ρ)
def stoW (m n : List Nat) (i : Nat) (fi : En → M Wv) (ρ : En) (w : Wv) : M Fl := w.d >>= stoD m n i fi ρ
theorem sto_e : sto m n i f fa ρ = f (frz m ρ) >>= stoW m n i fa ρ := id rfl
theorem stoW_e : stoW m n i fa ρ w = w.d >>= stoD m n i fa ρ := id rfl
theorem stoD_e : stoD m n i fa ρ d = sto2 n i d fa (sel (noL d) ρ (frz m ρ)) := by
  unfold stoD
  cases noL d <;> rfl
theorem sto2_e : sto2 n i d fa ρ = ownAt ρ i >>= sto2K n i d fa ρ := id rfl
theorem sto2K_e : sto2K n i d fa ρ xs = fa (frz n ρ) >>= sto2W i d ρ := id rfl
theorem sto2W_e : sto2W i d ρ u = asI u >>= sto2I i d ρ := id rfl
theorem sto2I_e {z : Int} : sto2I i d ρ z = sto1 i d z ρ := id rfl
theorem sto1K_e {z : Int} : sto1K i d z ρ xs = atK i d ρ xs z := id rfl
theorem atK_e {z : Int} : atK i d ρ xs z = goOn ((L2.ixN xs.length z).map fun k => ρ.set i (some (.own (xs.set k d)))) := id rfl
def ali1D (i j : Nat) (ρ : En) (d : D) : M Fl := if noL d = true then app1 (ρ.set i none) j d else .bad
def ali1W (i j : Nat) (ρ : En) (w : Wv) : M Fl := w.d >>= ali1D i j ρ
def ali1O (n : List Nat) (i j : Nat) (f : En → M Wv) (ρ : En) (_ : List D) : M Fl := f (frz n (ρ.set i none)) >>= ali1W i j ρ
def ali1B (n : List Nat) (i j : Nat) (f : En → M Wv) (ρ : En) : M Fl := ownAt (ρ.set i none) j >>= ali1O n i j f ρ
def aliK (n : List Nat) (i ia ib : Nat) (f : En → M Wv) (ρ : En) (k : Bool) : M Fl := ali.ali1 n i (if k = true then ia else ib) f ρ
section
variable {ia ib : Nat}
theorem ali_e : ali m n i ia ib t f ρ = t (frz m ρ) >>= aliK n i ia ib f ρ := id rfl
theorem aliK_true : aliK n i ia ib f ρ true = ali.ali1 n i ia f ρ := id rfl
theorem aliK_false : aliK n i ia ib f ρ false = ali.ali1 n i ib f ρ := id rfl
theorem ali1_e (h : i < ρ.length) : ali.ali1 n i j f ρ = ali1B n i j f ρ := if_pos h
theorem ali1B_e : ali1B n i j f ρ = ownAt (ρ.set i none) j >>= ali1O n i j f ρ := id rfl
theorem ali1O_e : ali1O n i j f ρ xs = f (frz n (ρ.set i none)) >>= ali1W i j ρ := id rfl
theorem ali1W_e : ali1W i j ρ w = w.d >>= ali1D i j ρ := id rfl
theorem ali1D_e : ali1D i j ρ d = sel (noL d) (app1 (ρ.set i none) j d) .bad := by
  unfold ali1D
  cases noL d <;> rfl
end
/-! loops -/
def forK (b : D → En → Option En) (g : En → M Fl) (ρ : En) (ds : List D) : M Fl := loop b g ds ρ
theorem forS_e {src : En → M (List D)} {b : D → En → Option En} : forS m src b g ρ = src (frz m ρ) >>= forK b g (frz m ρ) := id rfl
theorem forK_e {b : D → En → Option En} : forK b g ρ ds = loop b g ds ρ := id rfl
def loopK (b : D → En → Option En) (g : En → M Fl) (ds : List D) : Fl → M Fl
  | .nx ρ2 => loop b g ds ρ2
  | .cont ρ2 => loop b g ds ρ2
  | .brk ρ2 => .ok (.nx ρ2)
  | .ret w => .ok (.ret w)
def loopB (b : D → En → Option En) (g : En → M Fl) (ds : List D) : Option En → M Fl
  | none => .bad
  | some ρ1 => g ρ1 >>= loopK b g ds
theorem loop_nil {b : D → En → Option En} : loop b g [] ρ = .ok (.nx ρ) := id rfl
theorem loop_cons {b : D → En → Option En} : loop b g (d :: ds) ρ = loopB b g ds (b d ρ) := by
  unfold loop loopB
  cases b d ρ with
  | none => rfl
  | some ρ1 =>
    show (g ρ1 >>= _) = (g ρ1 >>= _)
    congr 1
theorem loopB_some {b : D → En → Option En} {ρ1 : En} : loopB b g ds (some ρ1) = g ρ1 >>= loopK b g ds := id rfl
theorem loopK_nx {b : D → En → Option En} : loopK b g ds (.nx ρ) = loop b g ds ρ := id rfl
theorem loopK_cont {b : D → En → Option En} : loopK b g ds (.cont ρ) = loop b g ds ρ := id rfl
theorem loopK_brk {b : D → En → Option En} : loopK b g ds (.brk ρ) = .ok (.nx ρ) := id rfl
theorem loopK_ret {b : D → En → Option En} : loopK b g ds (.ret w) = .ok (.ret w) := id rfl
/-! expressions -/
def binL (g : Wv → Wv → M Wv) (u w : Wv) : M Wv := g u.give w.give
def binK (g : Wv → Wv → M Wv) (fb : En → M Wv) (ρ : En) (u : Wv) : M Wv := fb ρ >>= binL g u
theorem bin2_e {g : Wv → Wv → M Wv} : bin2 g fa fb ρ = fa ρ >>= binK g fb ρ := id rfl
theorem binK_e {g : Wv → Wv → M Wv} : binK g fb ρ u = fb ρ >>= binL g u := id rfl
theorem binL_e {g : Wv → Wv → M Wv} : binL g u w = g u.give w.give := id rfl
def unK (g : Wv → M Wv) (u : Wv) : M Wv := g u.give
theorem un1_e {g : Wv → M Wv} : un1 g fa ρ = fa ρ >>= unK g := id rfl
theorem unK_e {g : Wv → M Wv} : unK g u = g u.give := id rfl
theorem tst_e : tst f ρ = f ρ >>= asB := id rfl
def tandK (tb : En → M Bool) (ρ : En) (x : Bool) : M Bool := if x = true then tb ρ else .ok false
def torK (tb : En → M Bool) (ρ : En) (x : Bool) : M Bool := if x = true then .ok true else tb ρ
def notK (x : Bool) : M Bool := .ok (!x)
theorem tand_e : tand ta tb ρ = ta ρ >>= tandK tb ρ := id rfl
theorem tandK_true : tandK tb ρ true = tb ρ := id rfl
theorem tandK_false : tandK tb ρ false = .ok false := id rfl
theorem tor_e : tor ta tb ρ = ta ρ >>= torK tb ρ := id rfl
theorem torK_true : torK tb ρ true = .ok true := id rfl
theorem torK_false : torK tb ρ false = tb ρ := id rfl
theorem tnot_e : tnot ta ρ = ta ρ >>= notK := id rfl
theorem notK_e : notK k = .ok (!k) := id rfl
def vandL (fb : En → M Wv) (ρ : En) (k : Bool) : M Wv := if k = true then fb ρ else .ok (.dat (.bool false))
def vandK (fb : En → M Wv) (ρ : En) (x : Wv) : M Wv := asB x >>= vandL fb ρ
def vorL (fb : En → M Wv) (ρ : En) (k : Bool) : M Wv := if k = true then .ok (.dat (.bool true)) else fb ρ
def vorK (fb : En → M Wv) (ρ : En) (x : Wv) : M Wv := asB x >>= vorL fb ρ
def vnotL (k : Bool) : M Wv := .ok (.dat (.bool !k))
def vnotK (x : Wv) : M Wv := asB x >>= vnotL
theorem vand_e : vand fa fb ρ = fa ρ >>= vandK fb ρ := id rfl
theorem vandK_e : vandK fb ρ w = asB w >>= vandL fb ρ := id rfl
theorem vandL_true : vandL fb ρ true = fb ρ := id rfl
theorem vandL_false : vandL fb ρ false = .ok (.dat (.bool false)) := id rfl
theorem vor_e : vor fa fb ρ = fa ρ >>= vorK fb ρ := id rfl
theorem vorK_e : vorK fb ρ w = asB w >>= vorL fb ρ := id rfl
theorem vorL_true : vorL fb ρ true = .ok (.dat (.bool true)) := id rfl
theorem vorL_false : vorL fb ρ false = fb ρ := id rfl
theorem vnot_e : vnot fa ρ = fa ρ >>= vnotK := id rfl
theorem vnotK_e : vnotK w = asB w >>= vnotL := id rfl
theorem vnotL_e : vnotL k = .ok (.dat (.bool !k)) := id rfl
def vifK (fa fb : En → M Wv) (ρ : En) (k : Bool) : M Wv := if k = true then fa ρ else fb ρ
theorem vif_e : vif t fa fb ρ = t ρ >>= vifK fa fb ρ := id rfl
theorem vifK_true : vifK fa fb ρ true = fa ρ := id rfl
theorem vifK_false : vifK fa fb ρ false = fb ρ := id rfl
theorem anil_e : anil ρ = .ok [] := id rfl
def aconsL (u : Wv) (us : List Wv) : M (List Wv) := .ok (u.give :: us)
def aconsK (fs : En → M (List Wv)) (ρ : En) (u : Wv) : M (List Wv) := fs ρ >>= aconsL u
theorem acons_e : acons fa fs ρ = fa ρ >>= aconsK fs ρ := id rfl
theorem aconsK_e : aconsK fs ρ u = fs ρ >>= aconsL u := id rfl
theorem aconsL_e {us : List Wv} : aconsL u us = .ok (u.give :: us) := id rfl
theorem call_e {g : List Wv → M Wv} : call g fs ρ = fs ρ >>= g := id rfl
def ccallK (n : Nat) (g : List Wv → M Wv) (ws : List Wv) : M Wv := if ws.length = n then g ws else .bad
theorem ccall_e {g : List Wv → M Wv} {z : Nat} : ccall z g fs ρ = fs ρ >>= ccallK z g := id rfl
theorem ccallK1 {g : List Wv → M Wv} {a : Wv} : ccallK 1 g [a] = g [a] := id rfl
theorem ccallK2 {g : List Wv → M Wv} {a b : Wv} : ccallK 2 g [a, b] = g [a, b] := id rfl
theorem ccallK3 {g : List Wv → M Wv} {a b c : Wv} : ccallK 3 g [a, b, c] = g [a, b, c] := id rfl
theorem ccallK4 {g : List Wv → M Wv} {a b c d : Wv} : ccallK 4 g [a, b, c, d] = g [a, b, c, d] := id rfl
def cutL (l h : Option Int) (d : D) : M Wv := vCut d l h
def cutK (u : Wv) (l h : Option Int) : M Wv := u.give.d >>= cutL l h
def subH (hi : En → M (Option Int)) (ρ : En) (u : Wv) (l : Option Int) : M Wv := hi ρ >>= cutK u l
def subK (lo hi : En → M (Option Int)) (ρ : En) (u : Wv) : M Wv := lo ρ >>= subH hi ρ u
theorem sub_e {lo hi : En → M (Option Int)} : sub lo hi f ρ = f ρ >>= subK lo hi ρ := id rfl
theorem subK_e {lo hi : En → M (Option Int)} : subK lo hi ρ u = lo ρ >>= subH hi ρ u := id rfl
theorem subH_e {hi : En → M (Option Int)} {l : Option Int} : subH hi ρ u l = hi ρ >>= cutK u l := id rfl
theorem cutK_e {l h : Option Int} : cutK u l h = u.give.d >>= cutL l h := id rfl
theorem cutL_e {l h : Option Int} : cutL l h d = vCut d l h := id rfl
theorem oN_e : oN ρ = .ok none := id rfl
def oI (i : Int) : M (Option Int) := .ok (some i)
def oSK (u : Wv) : M (Option Int) := asI u >>= oI
theorem oS_e : oS f ρ = f ρ >>= oSK := id rfl
theorem oSK_e : oSK u = asI u >>= oI := id rfl
theorem oI_e {z : Int} : oI z = .ok (some z) := id rfl
def revK (u : Wv) : M Wv := u.give.d >>= vRev
theorem rev_e : rev f ρ = f ρ >>= revK := id rfl
theorem revK_e : revK u = u.give.d >>= vRev := id rfl
def tupD (ds : List D) : M Wv := small ds.length (.ok (.dat (.tuple ds)))
def lstD (ds : List D) : M Wv := small ds.length (.ok (.own ds))
theorem tup_e : tup fs ρ = fs ρ >>= mkTup := id rfl
theorem lst_e : lst fs ρ = fs ρ >>= mkLst := id rfl
theorem mkTup_e {ws : List Wv} : mkTup ws = datas ws >>= tupD := id rfl
theorem mkLst_e {ws : List Wv} : mkLst ws = datas ws >>= lstD := id rfl
theorem tupD_e : tupD ds = small ds.length (.ok (.dat (.tuple ds))) := id rfl
theorem lstD_e : lstD ds = small ds.length (.ok (.own ds)) := id rfl
def datasK (d : D) (ds : List D) : M (List D) := .ok (d :: ds)
theorem datas_e {ws : List Wv} : datas (.dat d :: ws) = datas ws >>= datasK d := id rfl
theorem datasK_e : datasK d ds = .ok (d :: ds) := id rfl
theorem kN_e : kN ρ = .ok (.dat .none) := id rfl
theorem kB_e {b : Bool} : kB' b ρ = .ok (.dat (.bool b)) := id rfl
theorem kI_e {z : Int} : kI z ρ = .ok (.dat (.int z)) := id rfl
theorem kS_e {z : PySem.Str} : kS z ρ = .ok (.dat (.str z)) := id rfl
theorem kT_e {z : String} : kT z ρ = .ok (.raw (.ty z)) := id rfl
theorem kD0_e : kD0 ρ = .ok (.dat (.dict [])) := id rfl
def chC (p' : Int → Int → Bool) (j k : Int) : M Wv := .ok (.dat (.bool (p' j k)))
def chY (p' : Int → Int → Bool) (j : Int) (y : Wv) : M Wv := asI y >>= chC p' j
def chG (p' : Int → Int → Bool) (fc : En → M Wv) (ρ : En) (j : Int) (b : Bool) : M Wv := if b = true then fc ρ >>= chY p' j else .ok (.dat (.bool false))
def chJ (p p' : Int → Int → Bool) (fc : En → M Wv) (ρ : En) (i j : Int) : M Wv := chG p' fc ρ j (p i j)
def chI (p p' : Int → Int → Bool) (fc : En → M Wv) (ρ : En) (w : Wv) (i : Int) : M Wv := asI w >>= chJ p p' fc ρ i
def chB (p p' : Int → Int → Bool) (fc : En → M Wv) (ρ : En) (u w : Wv) : M Wv := asI u >>= chI p p' fc ρ w
def chA (p p' : Int → Int → Bool) (fb fc : En → M Wv) (ρ : En) (u : Wv) : M Wv := fb ρ >>= chB p p' fc ρ u
section
variable {p p' : Int → Int → Bool} {y z : Int}
theorem chainI_e : chainI p p' fa fb fc ρ = fa ρ >>= chA p p' fb fc ρ := id rfl
theorem chA_e : chA p p' fb fc ρ u = fb ρ >>= chB p p' fc ρ u := id rfl
theorem chB_e : chB p p' fc ρ u w = asI u >>= chI p p' fc ρ w := id rfl
theorem chI_e : chI p p' fc ρ w y = asI w >>= chJ p p' fc ρ y := id rfl
theorem chJ_e : chJ p p' fc ρ y z = chG p' fc ρ z (p y z) := id rfl
theorem chG_true : chG p' fc ρ z true = fc ρ >>= chY p' z := id rfl
theorem chG_false : chG p' fc ρ z false = .ok (.dat (.bool false)) := id rfl
theorem chY_e : chY p' z w = asI w >>= chC p' z := id rfl
theorem chC_e : chC p' y z = .ok (.dat (.bool (p' y z))) := id rfl
end
/-! sources -/
def seqSrc (u : Wv) : M (List D) := u.give.d >>= asItems
theorem sSeq_e : sSeq f ρ = f ρ >>= seqSrc := id rfl
theorem seqSrc_e : seqSrc u = u.give.d >>= asItems := id rfl
theorem asItems_list : asItems (.list xs) = .ok xs := id rfl
theorem asItems_tuple : asItems (.tuple xs) = .ok xs := id rfl
def rngI (j : Int) : M (List D) := if inR j = true then .ok (rng 0 j.toNat) else .bad
def rngW (u : Wv) : M (List D) := asI u >>= rngI
theorem sRng1_e : sRng1 f ρ = f ρ >>= rngW := id rfl
theorem rngW_e : rngW u = asI u >>= rngI := id rfl
theorem rngI_e {z : Int} (h : inR z = true) : rngI z = .ok (rng 0 z.toNat) := if_pos h
def rngJ (i j : Int) : M (List D) := if (inR i && inR j) = true then .ok (rng i (j - i).toNat) else .bad
def rngWI (w : Wv) (i : Int) : M (List D) := asI w >>= rngJ i
def rngWW (u w : Wv) : M (List D) := asI u >>= rngWI w
def rngK (fb : En → M Wv) (ρ : En) (u : Wv) : M (List D) := fb ρ >>= rngWW u
theorem sRng2_e : sRng2 fa fb ρ = fa ρ >>= rngK fb ρ := id rfl
theorem rngK_e : rngK fb ρ u = fb ρ >>= rngWW u := id rfl
theorem rngWW_e : rngWW u w = asI u >>= rngWI w := id rfl
theorem rngWI_e {z : Int} : rngWI w z = asI w >>= rngJ z := id rfl
theorem rngJ_e {y z : Int} (h : inR y = true) (h' : inR z = true) : rngJ y z = .ok (rng y (z - y).toNat) := by unfold rngJ; rw [h, h']; rfl
def zipD (a b : D) : M (List D) := vZip a b
def zipA (w : Wv) (a : D) : M (List D) := w.give.d >>= zipD a
def zipW (u w : Wv) : M (List D) := u.give.d >>= zipA w
def zipK (fb : En → M Wv) (ρ : En) (u : Wv) : M (List D) := fb ρ >>= zipW u
theorem sZip_e : sZip fa fb ρ = fa ρ >>= zipK fb ρ := id rfl
theorem zipK_e : zipK fb ρ u = fb ρ >>= zipW u := id rfl
theorem zipW_e : zipW u w = u.give.d >>= zipA w := id rfl
theorem zipA_e : zipA w d = w.give.d >>= zipD d := id rfl
theorem zipD_list : zipD (.list xs) (.list ys) = .ok (List.zipWith pairD xs ys) := id rfl
theorem zipD_tuple : zipD (.tuple xs) (.tuple ys) = .ok (List.zipWith pairD xs ys) := id rfl
def enumL (xs : List D) : M (List D) := .ok (enumD 0 xs)
def enumV (d : D) : M (List D) := asList d >>= enumL
def enumW (u : Wv) : M (List D) := u.give.d >>= enumV
theorem sEnum_e : sEnum f ρ = f ρ >>= enumW := id rfl
theorem enumW_e : enumW u = u.give.d >>= enumV := id rfl
theorem enumV_e : enumV d = asList d >>= enumL := id rfl
theorem asList_e : asList (.list xs) = .ok xs := id rfl
theorem enumL_e : enumL xs = .ok (enumD 0 xs) := id rfl
/-! comprehensions -/
def ownR (ys : List D) : M Wv := .ok (.own ys)
theorem ownR_e : ownR ys = .ok (.own ys) := id rfl
def lcK (vs : List Nat) (b : D → En → Option En) (t : En → M Bool) (el : En → M Wv) (ρ : En) (ds : List D) : M Wv := small ds.length (M.nox (lcGo vs b t el ds ρ []) >>= ownR)
theorem lc_e {src : En → M (List D)} {b : D → En → Option En} {el : En → M Wv} : lc vs src b t el ρ = src ρ >>= lcK vs b t el ρ := id rfl
theorem lcK_e {b : D → En → Option En} {el : En → M Wv} : lcK vs b t el ρ ds = small ds.length (M.nox (lcGo vs b t el ds ρ []) >>= ownR) := id rfl
theorem tYes_e : tYes ρ = .ok true := id rfl
/-- each turn one datum or none -/
theorem lcGo_ok {b : D → En → Option En} {el : En → M Wv} {p : D → Bool} {q : D → D} : ∀ (ds : List D) (ρ : En) (acc : List D),
    (∀ d ∈ ds, ∃ ρ1, b d (wipeE ρ vs) = some ρ1 ∧ t ρ1 = .ok (p d) ∧ (p d = true → ∃ w, el ρ1 = .ok w ∧ w.d = .ok (q d))) → lcGo vs b t el ds ρ acc = .ok (acc ++ (ds.filter p).map q)
  | [], ρ, acc, _ => by simp [lcGo]
  | d :: ds, ρ, acc, h => by
    obtain ⟨ρ1, h1, h2, h3⟩ := h d (List.mem_cons_self ..)
    have ih := fun acc => lcGo_ok (p := p) (q := q) ds ρ acc fun d hd => h d (List.mem_cons_of_mem _ hd)
    unfold lcGo
    rw [h1]
    simp only [h2, M.ok_bind]
    cases hp : p d with
    | true =>
      obtain ⟨w, h4, h5⟩ := h3 hp
      simp only [if_pos, h4, M.ok_bind, h5]
      rw [ih]
      simp [hp]
    | false =>
      simp only [Bool.false_eq_true, if_false]
      rw [ih]
      simp [hp]
theorem lcK_ok {b : D → En → Option En} {el : En → M Wv} (p : D → Bool) (q : D → D) (hz : ds.length ≤ 1000000)
    (h : ∀ d ∈ ds, ∃ ρ1, b d (wipeE ρ vs) = some ρ1 ∧ t ρ1 = .ok (p d) ∧ (p d = true → ∃ w, el ρ1 = .ok w ∧ w.d = .ok (q d))) : lcK vs b t el ρ ds = .ok (.own ((ds.filter p).map q)) := by
  unfold lcK
  rw [small_of hz, lcGo_ok (p := p) (q := q) ds ρ [] h]
  rfl
/-- .. with draws in it -/
theorem lcGo_post {b : D → En → Option En} {el : En → M Wv} {P : List D → Prop} {E : Ex → Prop} (I : List D → List D → Prop) : ∀ (ds : List D) (ρ : En) (acc : List D), I ds acc → (∀ acc, I [] acc → P acc) →
    (∀ d ds acc, I (d :: ds) acc → ∃ ρ1, b d (wipeE ρ vs) = some ρ1 ∧ (t ρ1).post (fun k => if k = true then (el ρ1).post (fun w => ∃ y, w.d = .ok y ∧ I ds (acc ++ [y])) E else I ds acc) E) → (lcGo vs b t el ds ρ acc).post P E
  | [], ρ, acc, h, h0, _ => h0 _ h
  | d :: ds, ρ, acc, h, h0, hs => by
    obtain ⟨ρ1, h1, h2⟩ := hs d ds acc h
    unfold lcGo
    rw [h1]
    refine M.post_bind.mpr (M.post_mono h2 (fun k z => ?_) fun _ z => z)
    cases k with
    | true =>
      rw [if_pos rfl] at z ⊢
      refine M.post_bind.mpr (M.post_mono z (fun w ⟨y, z1, z2⟩ => ?_) fun _ z => z)
      rw [z1]
      exact lcGo_post I ds ρ _ z2 h0 hs
    | false =>
      rw [if_neg Bool.false_ne_true] at z ⊢
      exact lcGo_post I ds ρ _ z h0 hs
theorem lcK_post {b : D → En → Option En} {el : En → M Wv} {P : Wv → Prop} {E : Ex → Prop} (I : List D → List D → Prop) (hz : ds.length ≤ 1000000) (h0 : I ds []) (h1 : ∀ acc, I [] acc → P (.own acc))
    (h : ∀ d ds acc, I (d :: ds) acc → ∃ ρ1, b d (wipeE ρ vs) = some ρ1 ∧ (t ρ1).post (fun k => if k = true then (el ρ1).post (fun w => ∃ y, w.d = .ok y ∧ I ds (acc ++ [y])) (fun _ => False) else I ds acc) (fun _ => False)) : (lcK vs b t el ρ ds).post P E := by
  unfold lcK
  rw [small_of hz]
  refine M.post_bind.mpr (M.post_mono (M.post_nox.mpr (lcGo_post I ds ρ [] h0 (P := fun acc => P (.own acc)) h1 h)) (fun _ z => z) fun _ z => False.elim z)
/-- a loop by its invariant -/
theorem loop_post {b : D → En → Option En} {P : Fl → Prop} {E : Ex → Prop} (I : List D → En → Prop) : ∀ (ds : List D) (ρ : En), I ds ρ → (∀ ρ, I [] ρ → P (.nx ρ)) →
    (∀ d ds ρ, I (d :: ds) ρ → ∃ ρ1, b d ρ = some ρ1 ∧ (g ρ1).post (fun fl => match fl with | .nx ρ2 => I ds ρ2 | .cont ρ2 => I ds ρ2 | .brk ρ2 => P (.nx ρ2) | .ret w => P (.ret w)) E) → (loop b g ds ρ).post P E
  | [], ρ, h, h0, _ => h0 _ h
  | d :: ds, ρ, h, h0, hs => by
    obtain ⟨ρ1, h1, h2⟩ := hs d ds ρ h
    rw [loop_cons, h1, loopB_some]
    refine M.post_bind.mpr (M.post_mono h2 (fun fl z => ?_) fun _ z => z)
    cases fl with
    | nx ρ2 => exact loop_post I ds ρ2 z h0 hs
    | cont ρ2 => exact loop_post I ds ρ2 z h0 hs
    | brk ρ2 => exact z
    | ret w => exact z
/-- a loop of turns that all go on, or one that ends it -/
theorem loop_find {b : D → En → Option En} (p : D → Bool) (r : D → Wv) (e : D → En → En) : ∀ (ds : List D) (ρ : En),
    (∀ ρ d, d ∈ ds → ∃ ρ1, b d ρ = some ρ1 ∧ g ρ1 = .ok (if p d = true then .ret (r d) else .nx (e d ρ))) →
    loop b g ds ρ = .ok (match ds.find? p with | some d => .ret (r d) | none => .nx (ds.foldl (fun ρ d => e d ρ) ρ))
  | [], ρ, _ => rfl
  | d :: ds, ρ, h => by
    obtain ⟨ρ1, h1, h2⟩ := h ρ d (List.mem_cons_self ..)
    rw [loop_cons, h1, loopB_some, h2, M.ok_bind]
    cases hp : p d with
    | true => rw [if_pos rfl, loopK_ret]; simp [List.find?_cons, hp]
    | false =>
      rw [if_neg Bool.false_ne_true, loopK_nx, loop_find p r e ds _ fun ρ x hx => h ρ x (List.mem_cons_of_mem _ hx)]
      simp [List.find?_cons, hp]
end
end DL

namespace DL
open PySem (PyData)
section
variable {a b d : D} {i j : Int} {x y : PySem.Str} {xs ys : List D} {u w : Wv} {k : Bool} {n : Nat}
theorem opEq_e : opEq (.dat a) (.dat b) = kB (vEq a b) := id rfl
def flip (k : Bool) : M Bool := .ok (!k)
theorem flip_e : flip k = .ok (!k) := id rfl
theorem opNe_e : opNe (.dat a) (.dat b) = kB (vEq a b >>= flip) := id rfl
theorem opIn_e : opIn (.dat a) (.dat b) = kB (vIn a b) := id rfl
theorem opNotIn_e : opNotIn (.dat a) (.dat b) = kB (vIn a b >>= flip) := id rfl
theorem opLt_e : opLt (.dat a) (.dat b) = kB (vLt a b) := id rfl
theorem opAdd_e : opAdd (.dat a) (.dat b) = vAdd a b := id rfl
theorem opMul_e : opMul (.dat a) (.dat b) = vMul a b := id rfl
theorem opIx_e : opIx (.dat a) (.dat b) = vIx a b := id rfl
theorem opIsN_e : opIsN (.dat a) (.dat .none) = .ok (.dat (.bool (isNon a))) := id rfl
theorem opNotN_e : opNotN (.dat a) (.dat .none) = .ok (.dat (.bool (!isNon a))) := id rfl
theorem opNeg_e : opNeg (.dat (.int i)) = .ok (.dat (.int (-i))) := id rfl
theorem opLe_e : opLe (.dat (.int i)) (.dat (.int j)) = .ok (.dat (.bool (decide (i ≤ j)))) := id rfl
theorem opGt_e : opGt (.dat (.int i)) (.dat (.int j)) = .ok (.dat (.bool (decide (j < i)))) := id rfl
theorem opGe_e : opGe (.dat (.int i)) (.dat (.int j)) = .ok (.dat (.bool (decide (j ≤ i)))) := id rfl
theorem opSub_e : opSub (.dat (.int i)) (.dat (.int j)) = .ok (.dat (.int (i - j))) := id rfl
theorem opMod_e (h : 0 < j) : opMod (.dat (.int i)) (.dat (.int j)) = .ok (.dat (.int (i % j))) := by
  unfold opMod i2 ckd
  simp [h]
theorem opFdiv_e (h : 0 < j) (h' : j < 1073741824) : opFdiv (.dat (.int i)) (.dat (.int j)) = .ok (.dat (.int (i / j))) := by
  unfold opFdiv i2 ckd
  simp [h, h']
theorem opPow_e {m : Nat} (h : m ≤ 1000) (h' : i.natAbs < 1000) : opPow (.dat (.int i)) (.dat (.int m)) = .ok (.dat (.int (i ^ m))) := by
  unfold opPow i2 ckd
  have : (m : Int) ≤ 1000 ∧ i.natAbs < 1000 := by omega
  simp [this]
theorem vLt_int : vLt (.int i) (.int j) = .ok (decide (i < j)) := by simp [vLt]
theorem vEq_int : vEq (.int i) (.int j) = .ok (decide (i = j)) := by
  rw [vEq_of (by rfl) (by rfl)]
  simp only [PyData.eqv]
  by_cases e : i = j <;> simp [e]
theorem vAdd_int : vAdd (.int i) (.int j) = .ok (.dat (.int (i + j))) := id rfl
theorem vAdd_list : vAdd (.list xs) (.list ys) = small (xs.length + ys.length) (.ok (.own (xs ++ ys))) := id rfl
theorem vAdd_tuple : vAdd (.tuple xs) (.tuple ys) = small (xs.length + ys.length) (.ok (.dat (.tuple (xs ++ ys)))) := id rfl
theorem vMul_int (h : (-18446744073709551616 < i ∧ i < 18446744073709551616) ∨ (-18446744073709551616 < j ∧ j < 18446744073709551616)) : vMul (.int i) (.int j) = .ok (.dat (.int (i * j))) := if_pos h
theorem vIx_tuple (h : L2.atI xs i = some d) : vIx (.tuple xs) (.int i) = .ok (.dat d) := by simp [vIx, h]
theorem vIx_list (h : L2.atI xs i = some d) : vIx (.list xs) (.int i) = .ok (.dat d) := by simp [vIx, h]
theorem vLen_tuple : vLen (.tuple xs) = .ok (.dat (.int xs.length)) := id rfl
theorem vLen_list : vLen (.list xs) = .ok (.dat (.int xs.length)) := id rfl
theorem vInt_int : vInt (.int i) = .ok (.dat (.int i)) := id rfl
theorem vTuple_list : vTuple (.list xs) = .ok (.dat (.tuple xs)) := id rfl
theorem vTuple_tuple : vTuple (.tuple xs) = .ok (.dat (.tuple xs)) := id rfl
theorem vList_list : vList (.list xs) = .ok (.own xs) := id rfl
theorem vList_tuple : vList (.tuple xs) = .ok (.own xs) := id rfl
theorem vRev_list : vRev (.list xs) = .ok (.own xs.reverse) := id rfl
theorem vRev_tuple : vRev (.tuple xs) = .ok (.dat (.tuple xs.reverse)) := id rfl
theorem vCut_list {lo hi : Option Int} : vCut (.list xs) lo hi = .ok (.own (cutD xs lo hi)) := id rfl
theorem vCut_tuple {lo hi : Option Int} : vCut (.tuple xs) lo hi = .ok (.dat (.tuple (cutD xs lo hi))) := id rfl
theorem f1_e {g : D → M Wv} : f1 g [.dat d] = g d := id rfl
theorem f2_e {g : D → D → M Wv} : f2 g [.dat a, .dat b] = g a b := id rfl
theorem isNon_none : isNon .none = true := id rfl
theorem isNon_int : isNon (.int i) = false := id rfl
/-- the kind of a datum -/
def isI : D → Bool
  | .int _ => true
  | .bool _ => true
  | _ => false
def isB : D → Bool
  | .bool _ => true
  | _ => false
def isT : D → Bool
  | .tuple _ => true
  | _ => false
def isL : D → Bool
  | .list _ => true
  | _ => false
def isDct : D → Bool
  | .dict _ => true
  | _ => false
theorem isi_int : opIsi "int" [.dat d, .raw (.ty "int")] = .ok (.dat (.bool (isI d))) := by cases d <;> rfl
theorem isi_bool : opIsi "bool" [.dat d, .raw (.ty "bool")] = .ok (.dat (.bool (isB d))) := by cases d <;> rfl
theorem isi_tuple : opIsi "tuple" [.dat d, .raw (.ty "tuple")] = .ok (.dat (.bool (isT d))) := by cases d <;> rfl
theorem isi_list : opIsi "list" [.dat d, .raw (.ty "list")] = .ok (.dat (.bool (isL d))) := by cases d <;> rfl
theorem isi_str : opIsi "str" [.dat d, .raw (.ty "str")] = .ok (.dat (.bool (isStr d))) := by cases d <;> rfl
theorem isi_dict : opIsi "dict" [.dat d, .raw (.ty "dict")] = .ok (.dat (.bool (isDct d))) := by cases d <;> rfl
theorem small_ok' {α : Type} {m : M α} (h : n ≤ 1000000) : small n m = m := if_pos h
theorem vAll_bools {bs : List Bool} : vAll (.list (bs.map PyData.bool)) = .ok (.dat (.bool (bs.all id))) := by
  have : bools (bs.map PyData.bool) = some bs := by
    induction bs with
    | nil => rfl
    | cons b bs ih => simp [bools, ih]
  simp [vAll, this]
theorem vAny_bools {bs : List Bool} : vAny (.list (bs.map PyData.bool)) = .ok (.dat (.bool (bs.any id))) := by
  have : bools (bs.map PyData.bool) = some bs := by
    induction bs with
    | nil => rfl
    | cons b bs ih => simp [bools, ih]
  simp [vAny, this]
theorem vSum_ints {ns : List Int} : vSum (.list (ns.map PyData.int)) = .ok (.dat (.int ns.sum)) := by
  have : intsO (ns.map PyData.int) = some ns := by
    induction ns with
    | nil => rfl
    | cons b bs ih => simp [intsO, ih]
  simp [vSum, this]
end
end DL

namespace DL
open PySem PySem.Spec PyProof.Rows L2 SeqAt HT
/-! ## the script, which stays as it is -/
theorem sql_step {K : PySem.W.Frag} {pi : Pot} {H F H' F' : Hp} {a : Addr} {vs : List V} (h : SqL K H a vs) (n : notPot pi a) (s : Step pi H F H' F') : SqL K H' a vs := by
  rcases h with (h | ⟨o, h⟩) | h
  · exact .inl (.inl (s.same a _ n h))
  · exact .inl (.inr ⟨o, s.same a _ n h⟩)
  · exact .inr h
def isAt (a : Addr) : Wv → M Unit
  | .raw (.ref b) => if b = a then .ok () else .bad
  | _ => .bad
def cutR (a : Addr) (xs : List D) (lo hi : En → M (Option Int)) (f : En → M Wv) (ρ : En) : M Wv := f ρ >>= fun u => lo ρ >>= fun l => hi ρ >>= fun h => isAt a u.give >>= fun _ => .ok (.own (cutD xs l h))
section
variable {X : Cx} {c : Act} {Wx : WX} {e : Expr} {f : En → M Wv} {pos p2 : Pos} {lo hi : Option Expr} {fl fh : En → M (Option Int)} {a : Addr} {ns : List Int}
theorem de_cutR (hS : SqL X.K c.H0 a (ns.map V.int)) (np : notPot c.pi a) (he : DE X c Wx e f) (hl : DO X c Wx lo fl) (hh : DO X c Wx hi fh) : DE X c Wx (.Subscript e (.Slice lo hi none p2) pos) (cutR a (ns.map .int) fl fh f) :=
  PE.imp (pe_slice sl_list he hl hh) fun σ H Q ⟨F, ρ, I, p⟩ => ev_split I p fun u x H1 F1 I1 s1 g1 p1 => eo_split I1 p1 fun l H2 F2 I2 s2 p2 => eo_split I2 p2 fun h H3 F3 I3 s3 p3 => by
    have g3 := g1.mono (s2.mono.trans s3.mono)
    unfold isAt at p3
    split at p3
    · rename_i b eu
      rw [eu] at g3
      have g3' : x = .ref b := g3
      subst g3'
      split at p3
      · rename_i hb
        subst hb
        have p4 := M.post_mono (Q' := fun z => ∀ H' F', Step c.pi H3 F3 H' F' → ∀ v, Res X.K c.pi H3 H' F' v z → Q v H') p3 (fun z q H' F' t v r => q H' F' t v (((r.older I2.pot s3).older I1.pot s2).older I.pot s1)) fun _ z => z
        exact ⟨_, _, rfl, sql_step hS np I3.st, Fin.lst p4 I3.le I3.pot ((drs_ints ns).cut l h)⟩
      · exact p3.elim
    · exact p3.elim
end
/-- what a def that makes the pot of a script promises -/
def spPot (K : PySem.W.Frag) : Sp := fun vs H Q _ => ∃ (a : Addr) (ns : List Int), vs = [.ref a] ∧ SqL K H a (ns.map V.int) ∧ ∀ H' F' p c, Step none H (fun _ => none) H' F' → PotIn (some (p, c)) H' F' → Q (.ref p) H'
theorem pot_post {K : PySem.W.Frag} {mg : Str → Option Value} {Wx : WX} {N : List Str} {H : Hp} {Q : VK} {g : En → M Fl} {a : Addr}
    (q : ∀ H' F' p c, Step none H (fun _ => none) H' F' → PotIn (some (p, c)) H' F' → Q (.ref p) H') (h0 : 0 < N.length)
    (h : (g (some (.raw (.ref a)) :: List.replicate (N.length - 1) none)).post (fun fl => ∃ cs : List Int, fl = .ret (.own [.list (cs.map .int), .int 0, .int 0, .int 0])) (fun _ => False)) :
    EvS K mg ⟨none, H, fun _ => none⟩ Wx g { nx := fun _ H' => Q .non H', rt := Q } (L2.start N [.ref a]) H := by
  have hpi : PotIn none H (fun _ => none) := fun p c e => nomatch e
  have hle : Same (fun _ => none) H := fun b o e => nomatch (show (none : Option HO) = some o from e)
  refine ⟨fun _ => none, _, ⟨?_, Step.refl hle hpi, hpi, ?_, ?_⟩, M.post_mono h (fun fl z => ?_) fun _ z => z.elim⟩
  · unfold L2.start
    simp only [List.length_cons, List.length_replicate, List.length_append, List.length_map, List.length_nil]
    omega
  · intro i u e
    cases i with
    | zero =>
      rw [List.getElem?_cons_zero] at e
      cases e
      exact ⟨.ref a, rfl, rfl⟩
    | succ i =>
      rw [List.getElem?_cons_succ, List.getElem?_replicate] at e
      split at e <;> cases e
  · intro i j xs ys v _ e
    cases i with
    | zero =>
      rw [List.getElem?_cons_zero] at e
      cases e
    | succ i =>
      rw [List.getElem?_cons_succ, List.getElem?_replicate] at e
      split at e <;> cases e
  · obtain ⟨cs, rfl⟩ := z
    intro v H' F' st ⟨p, vs, e1, e2, e3, e4, e5⟩
    subst e1
    cases e5 with
    | cons d0 r0 =>
      cases r0 with
      | cons d1 r1 =>
        cases r1 with
        | cons d2 r2 =>
          cases r2 with
          | cons d3 r3 =>
            cases r3
            cases d1
            cases d2
            cases d3
            cases d0 with
            | lst hc rs =>
              rename_i k xs
              have hints : ∀ {vs : List V} {cs : List Int}, DRs K F' vs (cs.map .int) → vs = cs.map V.int := by
                intro vs cs h
                induction cs generalizing vs with
                | nil => cases h; rfl
                | cons n cs ih =>
                  cases h with
                  | cons h1 h2 =>
                    cases h1
                    rw [ih h2]
                    rfl
              have exs := hints rs
              subst exs
              refine q H' F' p k st fun p' c' e => ?_
              cases e
              exact ⟨⟨0, 0, 0, e2⟩, e3, cs, st.le _ _ hc, fun z => by subst z; rw [e3] at hc; cases hc⟩
/-! ## the law -/
def spLaw (K : PySem.W.Frag) : Sp := fun vs H Q _ => ∃ (a : Addr) (ns : List Int), vs = [.ref a] ∧ SqL K H a (ns.map V.int) ∧ ∀ H', Q (.bl true) H'
/-- what follows, whatever stands around -/
theorem pss_ex {X : Cx} {Wx : WX} {sts : List Stmt} {g : En → M Fl} (h : ∀ c : Act, DSs X c Wx sts g) : PSs X sts (fun D σ H => ∃ c, EvS X.K X.mg c Wx g D σ H) :=
  ⟨fun pins s σ H D I z => z.elim fun c z => (h c).run pins s σ H D I z⟩
/-- the slots behind the first statement: the pot in slot 1 -/
def lawE (N : Nat) : En := none :: some .pot :: List.replicate (N - 2) none
/-- the law's claim, in plain words -/
structure LawOk (g : En → M Fl) (n : Nat) : Prop where
  run : (g (lawE n) >>= fin).post (fun w => w = .dat (.bool true)) (fun _ => False)
/-- .. and that of the pot -/
structure PotOk (g : Addr → List D → En → M Fl) : Prop where
  run : ∀ (raw : Addr) (ns : List Int), (g raw (ns.map .int) [some (.raw (.ref raw)), none, none, none]).post (fun fl => ∃ cs : List Int, fl = .ret (.own [.list (cs.map .int), .int 0, .int 0, .int 0])) (fun _ => False)
theorem law_post {K : PySem.W.Frag} {mg : Str → Option Value} {Wx : WX} {E : L2.St → XK} {N : List Str} {vs : List V} {H : Hp} {Q : VK} {E0 : XK} {g : En → M Fl} {n : Nat} (hn : N.length = n) (hN : 2 ≤ n) (z : spLaw K vs H Q E0)
    (h : LawOk g n) :
    tSeq (tAsg (tCallS (spPot K) E (tCons (tVar 0) tNil)) (gName 1)) (fun D σ H => ∃ c, EvS K mg c Wx g D σ H) { nx := fun _ H' => Q .non H', rt := Q } (L2.start N vs) H := by
  subst hn
  obtain ⟨a, ns, rfl, hS, q⟩ := z
  refine ⟨.ref a, rfl, a, ns, rfl, hS, fun H' F' p c st pin => ⟨⟨some (p, c), H', F'⟩, F', lawE N.length, ⟨?_, Step.refl st.le pin, pin, ?_, ?_⟩, M.post_mono (M.post_bind.mp h.run) (fun fl z => ?_) fun _ z => z.elim⟩⟩
  · unfold lawE L2.start
    simp only [List.length_cons, List.length_replicate, List.length_append, List.length_map, List.length_nil, List.length_set]
    omega
  · intro i u e
    unfold lawE at e
    match i, e with
    | 0, e => cases e
    | 1, e =>
      have e' : Wv.pot = u := by simpa using e
      subst e'
      refine ⟨.ref p, ?_, p, c, rfl, rfl⟩
      rw [List.getElem?_set_self]
      unfold L2.start
      simp only [List.length_cons, List.length_replicate, List.length_append, List.length_map, List.length_nil]
      omega
    | i + 2, e =>
      rw [List.getElem?_cons_succ, List.getElem?_cons_succ, List.getElem?_replicate] at e
      split at e <;> cases e
  · intro i j xs ys v _ e
    unfold lawE at e
    match i, e with
    | 0, e => cases e
    | 1, e => cases e
    | i + 2, e =>
      rw [List.getElem?_cons_succ, List.getElem?_cons_succ, List.getElem?_replicate] at e
      split at e <;> cases e
  · have fin1 : ∀ {w : Wv} {v : V} {G G' : Hp}, w = .dat (.bool true) → Res K (some (p, c)) H' G G' v w → Q v G := fun e r => by
      subst e
      cases r
      exact q _
    cases fl with
    | ret w =>
      have z' : w = .dat (.bool true) := z
      exact fun v H2 F2 s2 r => fin1 z' r
    | nx ρ =>
      have z' : Wv.dat .none = .dat (.bool true) := z
      cases z'
    | brk _ => exact z.elim
    | cont _ => exact z.elim
/-! ## from the head to the law's promise -/
def scr (a : Addr) (o : Obj) (ns : List Int) : Hp := fun b => if b = a then some (.frz o (.lst (ns.map V.int))) else none
theorem ints_vals {vs : List Value} {ns : List Int} (h : IntsAre vs ns) : Vals (ns.map V.int) vs := by
  induction h with
  | nil => exact .nil
  | cons n t _ ih => exact .cons ⟨t, rfl⟩ ih
section
variable {P : Program} {w : World} {K : PySem.W.Frag} {mg mb : Str → Option Value} {k : Nat} {f a : Addr} {fd : FuncData} {s : Shared} {vs : List Value} {ns : List Int}
/-- the run, from a heap of which nothing but the script may be tracked -/
theorem law_from {H : Hp} (kin : K.In s.heap) (top : s.heap.Ns mainGlobals mg) (blt : s.heap.Ns builtinsNs mb) (boot : ∀ x : Str, x ≠ "__name__" → mb x = bootBuiltins x) (lim : s.heap.NoLimit) (see : s.heap.NoSeer) (gens : s.gens = #[])
    (obj : s.heap.get? a = some { cls := .type "list", data := .seq vs.toArray }) (room : Room k callerA)
    (F : ∀ base : Heap, SysIn base → FnG P w K mg base k f fd ["script"] (spLaw K)) (bnd : ∀ u : Value, BindsTo s fd ⟨[u], []⟩ [("script", u)])
    (one : ∀ b u, H b = some u → b = a ∧ K.lookup a = none ∧ ∃ o xs, u = .frz o (.lst xs)) (seq : SqL K H a (ns.map V.int)) (ok : HOk P w H s.heap) :
    codeAny (model P w) callerA (.call (.ref f) ⟨[.ref a], []⟩) (fun r s' => r = .ok (.ret (.bool true)) ∧ OldK s.heap s'.heap ∧ s'.os = s.os ∧ AllBare s'.gens) s := by
  have other : ∀ {b : Addr} {o : Obj}, s.heap.get? b = some o → (b = a → K.lookup a = none → False) → H b = none := fun {b o} e n => by
    cases q : H b with
    | none => rfl
    | some u => exact (n (one b u q).1 (one b u q).2.1).elim
  have ns_ : ∀ {b : Addr} {m : Str → Option Value}, s.heap.Ns b m → (hidT s.heap H).Ns b m := fun {b m} ⟨o, es, ep, e, d, r⟩ => ⟨o, es, ep, hidT_get e (other e fun z _ => by
    subst z
    have e2 := obj.symm.trans e
    cases e2
    cases d), d, r⟩
  have kin2 : K.In (hidT s.heap H) := fun b o e => hidT_get (kin b o e) (other (kin b o e) fun z h => by
    subst z
    rw [h] at e
    cases e)
  have env : Env0 P w K mg (hidT s.heap H) callerA [] s H := by
    refine ⟨rfl, ⟨kin2, ns_ top, ⟨mb, ns_ blt, boot⟩, ?_⟩, fun b o e => of_hidT e, Nat.le_of_eq (hidT_size _ _), trivial, fun b hb => absurd (show b ∈ ([] : List Addr) from hb) (by simp), ok, .of_eq gens⟩
    obtain ⟨mc, h1, h2⟩ := lim
    exact ⟨mc, ns_ h1, h2⟩
  have sys : SysIn (hidT s.heap H) := by
    obtain ⟨mm, h1, _⟩ := see.mods
    obtain ⟨o, _, _, e, _⟩ := ns_ h1
    exact ⟨o, e⟩
  refine codeAny_mono ((F _ sys).run callerA [] s H ⟨[.ref a], []⟩ [.ref a] [.ref a] (fun v _ => v = .bl true) (fun _ _ _ => False) room rfl env (bnd (.ref a)) (.cons rfl .nil) ⟨a, ns, rfl, seq, fun _ => rfl⟩) fun r s' h => ?_
  match r, h with
  | .error e, h =>
    obtain ⟨_, _, _, _, _, _, _, _, _, _, _, _, z⟩ := h
    exact z.elim
  | .ok (.ret u), h =>
    obtain ⟨v, H2, os, bare, un, ok2, rv, q⟩ := h
    have q2 : v = .bl true := q
    subst q2
    have hu : u = Value.bool true := rv
    subst hu
    refine ⟨rfl, OldK.of_keep fun b o e => ?_, os, bare⟩
    cases q : H b with
    | none => exact un.keep b o e q (fun z => absurd (show b ∈ ([] : List Addr) from z) (by simp)) (by simp)
    | some u =>
      obtain ⟨rfl, _, ob, xs, rfl⟩ := one b u q
      obtain ⟨e1, _⟩ := ok b _ q
      obtain ⟨e2, _⟩ := ok2 b _ (un.frzs b ob _ q)
      rw [e] at e1
      cases e1
      exact e2
  | .ok .next, h => exact h.elim
  | .ok .brk, h => exact h.elim
  | .ok .cont, h => exact h.elim
theorem law_run (kin : K.In s.heap) (top : s.heap.Ns mainGlobals mg) (blt : s.heap.Ns builtinsNs mb) (boot : ∀ x : Str, x ≠ "__name__" → mb x = bootBuiltins x) (lim : s.heap.NoLimit) (see : s.heap.NoSeer) (gens : s.gens = #[])
    (obj : s.heap.get? a = some { cls := .type "list", data := .seq vs.toArray }) (hnt : IntsAre vs ns) (len : ns.length ≤ sizeLine) (room : Room k callerA)
    (F : ∀ base : Heap, SysIn base → FnG P w K mg base k f fd ["script"] (spLaw K)) (bnd : ∀ u : Value, BindsTo s fd ⟨[u], []⟩ [("script", u)]) :
    codeAny (model P w) callerA (.call (.ref f) ⟨[.ref a], []⟩) (fun r s' => r = .ok (.ret (.bool true)) ∧ OldK s.heap s'.heap ∧ s'.os = s.os ∧ AllBare s'.gens) s := by
  cases hk : K.lookup a with
  | none =>
    refine law_from (H := scr a { cls := .type "list", data := .seq vs.toArray } ns) kin top blt boot lim see gens obj room F bnd (fun b u e => ?_) (.inl (.inr ⟨_, if_pos rfl⟩)) fun b u e => ?_
    · unfold scr at e
      split at e
      · rename_i hb
        cases e
        exact ⟨hb, hk, _, _, rfl⟩
      · cases e
    · unfold scr at e
      split at e
      · rename_i hb
        cases e
        subst hb
        exact ⟨obj, by rw [List.length_map]; exact len, vs, _, ints_vals hnt, obj⟩
      · cases e
  | some o =>
    have e := kin a o hk
    rw [obj] at e
    cases e
    refine law_from (H := fun _ => none) kin top blt boot lim see gens obj room F bnd (fun b u e => nomatch (show (none : Option HO) = some u from e)) (.inr ⟨_, vs.toArray, _, hk, rfl, rfl, rfl, ?_, ints_vals hnt⟩) fun b u e => nomatch (show (none : Option HO) = some u from e)
    rw [List.size_toArray, hnt.length]
    exact len
end
/-- a def by its facts -/
theorem has_of {K : PySem.W.Frag} {h : Heap} {mg : Str → Option Value} {fa : List He.Fa} {fn : List He.DefD} {x : Str} {st : Stmt} {ps : List Str} (X : K.In h) (G : h.Ns mainGlobals mg) (c : He.SaysD fa fn K) (i j : Nat) (hi : fa[i]? = some (.glo x)) (hj : fn[j]? = some ⟨(x, none), x, x, defArgs st, defBody st, defScope st, [], []⟩)
    (hb : ∀ (kV doc pm : Value) (an : Option Addr) (cdv ct : Value) (us : List Value), us.length = ps.length → bindArgs (PySem.W.fnOf x x (defArgs st) (defBody st) (defScope st) .none kV doc pm an cdv ct) ⟨us, []⟩ = pure (ps.zip us)) : Has K mg x st ps := by
  obtain ⟨fd, F⟩ := c.def_ j hj
  refine ⟨_, fd, He.glo_ok X G (c.fact i hi), ?_, fun s us _ hl => ?_⟩
  · obtain ⟨oc, od, dV, kV, doc, pm, an, cdv, ct, osl, e1, e2, e3, e4, _⟩ := F.ex
    have dn : dV = .none := by
      rcases e4 with ⟨_, z⟩ | ⟨z, _⟩
      · exact z
      · exact absurd rfl z
    subst dn
    exact ⟨⟨oc, od, kV, doc, pm, an, cdv, ct, osl, e1, e2, e3⟩, F.kp⟩
  · rw [List.append_nil] at hl ⊢
    exact FunD.bindsA F hb s us hl
/-- the end: what the walk of a law wants, from the def's promise -/
theorem walk_law {l : PySem.W.OpenLaw} {n k : Nat} {q : Program} {loose : List Str} {d : DefRec} {fa : List He.Fa} {fn : List He.DefD} {i j : Nat} {st : Stmt} {XP : (Str → Option Value) → Heap → Prop} {YP : World → Heap → Prop} (hY : ∀ w h, YP w h → ∃ K : PySem.W.Frag, K.In h ∧ He.SaysD fa fn K)
    (hn : l.most = some n) (hn2 : n ≤ sizeLine) (hdf : d.params.defaults = []) (hd : d.name = ("law" : Str)) (room : Room k callerA) (imp : importsNone q = true) (hi : fa[i]? = some (.glo "law")) (hj : fn[j]? = some ⟨("law", none), "law", "law", defArgs st, defBody st, defScope st, [], []⟩)
    (hb : ∀ (kV doc pm : Value) (an : Option Addr) (cdv ct : Value) (us : List Value), us.length = 1 → bindArgs (PySem.W.fnOf "law" "law" (defArgs st) (defBody st) (defScope st) .none kV doc pm an cdv ct) ⟨us, []⟩ = pure ((["script"] : List Str).zip us))
    (F : ∀ (w : World) (K : PySem.W.Frag) (mg : Str → Option Value) (h : Heap), K.In h → h.Ns mainGlobals mg → He.SaysD fa fn K → ∀ (base : Heap), SysIn base → ∀ f fd, mg "law" = some (.ref f) → L2.Fun K "law" "law" st f fd → FnG l.prog w K mg base k f fd ["script"] (spLaw K)) :
    PySem.W.WalkO q loose XP YP l.row.toRowW d [] (fun f vs => PySem.call f vs) := by
  refine Att.attach_call hn hdf fun w s₀ s₁ mg mb f o pm cd doc a vs ns G Y ho hod hcd hmg hobj hints hlen hg => ?_
  obtain ⟨K, kin, c⟩ := hY _ _ Y
  rw [hd] at hmg
  obtain ⟨f', fd, h1, h2, h3⟩ := has_of (ps := ["script"]) kin G.T.g c i j hi hj hb
  cases hmg.symm.trans h1
  exact law_run kin G.T.g G.T.b G.T.builtins G.T.nolimit (G.T.seer imp) hg hobj hints (Nat.le_trans hlen hn2) room (fun base sys => F w K mg _ kin G.T.g c base sys f fd h1 h2) fun u => h3 s₁ [u] kin rfl
end DL

namespace DL
open PySem (PyData Addr Str)
/-! ## plain facts: cuts, places -/
section
variable {α : Type}
def cutL' (xs : List α) (lo hi : Option Int) : List α := (xs.drop (HT.sIx xs.length 0 lo)).take (HT.sIx xs.length xs.length hi - HT.sIx xs.length 0 lo)
theorem sIx_none {n d : Nat} : HT.sIx n d none = d := rfl
theorem sIx_nat {n d k : Nat} : HT.sIx n d (some (k : Int)) = min k n := by
  unfold HT.sIx
  simp only
  rw [if_neg (by omega)]
  simp
theorem sIx_neg1 {n d : Nat} : HT.sIx n d (some (-1)) = n - 1 := by
  unfold HT.sIx
  simp only
  rw [if_pos (by omega)]
  omega
theorem cutD_to {xs : List D} {k : Nat} : cutD xs none (some (k : Int)) = xs.take k := by
  unfold cutD
  rw [sIx_none, sIx_nat]
  simp only [List.drop_zero, Nat.sub_zero]
  rw [← List.take_take, List.take_length]
theorem cutD_from {xs : List D} {k : Nat} : cutD xs (some (k : Int)) none = xs.drop k := by
  unfold cutD
  rw [sIx_none, sIx_nat]
  by_cases h : k ≤ xs.length
  · rw [Nat.min_eq_left h, List.take_of_length_le (by rw [List.length_drop]; omega)]
  · rw [Nat.min_eq_right (by omega), List.drop_eq_nil_of_le (Nat.le_refl _), List.drop_eq_nil_of_le (by omega), List.take_nil]
theorem cutD_mid {xs : List D} {j k : Nat} : cutD xs (some (j : Int)) (some (k : Int)) = (xs.take k).drop j := by
  unfold cutD
  rw [sIx_nat, sIx_nat, List.drop_take]
  by_cases h : j ≤ xs.length
  · rw [Nat.min_eq_left h, List.take_eq_take_iff, List.length_drop]
    omega
  · have e : min j xs.length = xs.length := by omega
    rw [e, List.drop_eq_nil_of_le (Nat.le_refl _), List.drop_eq_nil_of_le (by omega)]
    simp
theorem cutD_init {xs : List D} : cutD xs none (some (-1)) = xs.take (xs.length - 1) := by
  unfold cutD
  rw [sIx_none, sIx_neg1]
  simp
theorem atI_nat' {xs : List α} {k : Nat} : L2.atI xs (k : Int) = xs[k]? := by
  unfold L2.atI L2.ixN
  rw [if_pos (by omega)]
  by_cases h : k < xs.length
  · rw [if_pos (by omega)]
    simp
  · rw [if_neg (by omega)]
    simp [List.getElem?_eq_none (Nat.le_of_not_lt h)]
theorem ixN_nat {n k : Nat} (h : k < n) : L2.ixN n (k : Int) = some k := by
  unfold L2.ixN
  rw [if_pos (by omega), if_pos (by omega)]
  simp
end
/-! ## the pot of a script -/
def bPot (n m : Int) (raw : Addr) (items : List DL.D) : En → M Fl := (seq (asg [0, 2] 1 (lc [2] (sSeq (cutR raw items oN (oS (kI n)) (rdv 0))) (bN 2) tYes (call (f1 vAbs) (acons (rdv 2) anil))))
  (seq (forS [0] (sEnum (cutR raw items (oS (kI n)) (oS (kI m)) (rdv 0))) (bT [3, 2]) (sto [1, 2, 3] [3] 1 (bin2 opAdd (bin2 opIx (rdv 1) (bin2 opMod (rdv 3) (kI n))) (call (f1 vAbs) (acons (rdv 2) anil))) (bin2 opMod (rdv 3) (kI n))))
  (rtn [1] (lst (acons (rdv 1) (acons (kI 0) (acons (kI 0) (acons (kI 0) anil))))))))
def absD : D → D
  | .int i => .int (if i < 0 then -i else i)
  | d => d
theorem cutR_to {raw : Addr} {items : List D} {k : Int} {ρ : En} : cutR raw items oN (oS (kI k)) (rdv 0) (some (.raw (.ref raw)) :: ρ) = .ok (.own (cutD items none (some k))) := by
  simp only [cutR, DL.sel_true, DL.sel_false, DL.sel_self, DL.okb, DL.excb, DL.badb, DL.pickb, DL.okp, DL.pickp, DL.ddat, DL.down, DL.sdat, DL.sown, DL.sraw, DL.spot, DL.gdat, DL.gown, DL.graw, DL.gpot, DL.asBb, DL.asIi, DL.kBok, DL.noxok, DL.datas0, DL.frz1_own, DL.frz1_dat, DL.frz1_raw, DL.frz1_pot, DL.frz1_none, DL.frz1_nil, DL.frz1_succ, DL.frz_nil, DL.frz_cons, DL.rdv_dat, DL.rdv_raw, DL.rdv_pot, DL.rdv_succ, DL.rtnV_zero, DL.rtnV_succ, DL.ownAt_zero, DL.ownAt_succ, DL.startE_eq, DL.seq_e, DL.seqK_nx, DL.seqK_ret, DL.seqK_brk, DL.seqK_cont, DL.asg_e, DL.asgK_e, DL.rtn_e, DL.rtnK_e, DL.rtnN_e, DL.exs_e, DL.exsK_e, DL.ifs_e, DL.ifsK_true, DL.ifsK_false, DL.skip_e, DL.brkS_e, DL.contS_e, DL.badS_e, DL.body_e, DL.fin_ret, DL.fin_nx, DL.app1_e, DL.app1K_e, DL.app_e, DL.appO_e, DL.appW_e, DL.appD_e, DL.asg2_e, DL.asg2K_e, DL.asg2L_e, DL.unp_e, DL.unpW_e, DL.unpD_e, DL.goOn_some, DL.goOn_none, DL.bT_e, DL.setL_cons, DL.setL_nil, DL.bN_e, DL.sto1_e, DL.sto_e, DL.stoW_e, DL.stoD_e, DL.sto2_e, DL.sto2K_e, DL.sto2W_e, DL.sto2I_e, DL.sto1K_e, DL.atK_e, DL.ali_e, DL.aliK_true, DL.aliK_false, DL.ali1_e, DL.ali1B_e, DL.ali1O_e, DL.ali1W_e, DL.ali1D_e, DL.forS_e, DL.forK_e, DL.loopB_some, DL.loopK_nx, DL.loopK_cont, DL.loopK_brk, DL.loopK_ret, DL.bin2_e, DL.binK_e, DL.binL_e, DL.un1_e, DL.unK_e, DL.tst_e, DL.tand_e, DL.tandK_true, DL.tandK_false, DL.tor_e, DL.torK_true, DL.torK_false, DL.tnot_e, DL.notK_e, DL.vand_e, DL.vandK_e, DL.vandL_true, DL.vandL_false, DL.vor_e, DL.vorK_e, DL.vorL_true, DL.vorL_false, DL.vnot_e, DL.vnotK_e, DL.vnotL_e, DL.vif_e, DL.vifK_true, DL.vifK_false, DL.anil_e, DL.acons_e, DL.aconsK_e, DL.aconsL_e, DL.call_e, DL.ccall_e, DL.ccallK1, DL.ccallK2, DL.ccallK3, DL.ccallK4, DL.sub_e, DL.subK_e, DL.subH_e, DL.cutK_e, DL.cutL_e, DL.oN_e, DL.oS_e, DL.oSK_e, DL.oI_e, DL.rev_e, DL.revK_e, DL.tup_e, DL.lst_e, DL.mkTup_e, DL.mkLst_e, DL.tupD_e, DL.lstD_e, DL.datas_e, DL.datasK_e, DL.kN_e, DL.kB_e, DL.kI_e, DL.kS_e, DL.kT_e, DL.kD0_e, DL.chainI_e, DL.chA_e, DL.chB_e, DL.chI_e, DL.chJ_e, DL.chG_true, DL.chG_false, DL.chY_e, DL.chC_e, DL.sSeq_e, DL.seqSrc_e, DL.asItems_list, DL.asItems_tuple, DL.sRng1_e, DL.rngW_e, DL.rngI_e, DL.sRng2_e, DL.rngK_e, DL.rngWW_e, DL.rngWI_e, DL.rngJ_e, DL.sZip_e, DL.zipK_e, DL.zipW_e, DL.zipA_e, DL.zipD_list, DL.zipD_tuple, DL.sEnum_e, DL.enumW_e, DL.enumV_e, DL.asList_e, DL.enumL_e, DL.ownR_e, DL.lc_e, DL.tYes_e, List.map_cons, List.map_nil, List.nil_append, List.cons_append, List.length_cons, List.length_nil, List.set_cons_zero, List.set_cons_succ, ite_self, reduceIte, noL_none, noL_bool, noL_int, noL_str, noL_list, noL_tuple, noLs_nil, noLs_cons, Bool.true_and, Bool.false_and, Bool.and_true, Bool.and_self, Bool.false_eq_true, Bool.not_true, Bool.not_false, List.replicate_succ, List.replicate_zero, DL.opEq_e, DL.flip_e, DL.opNe_e, DL.opIn_e, DL.opNotIn_e, DL.opLt_e, DL.opAdd_e, DL.opMul_e, DL.opIx_e, DL.opIsN_e, DL.opNotN_e, DL.opNeg_e, DL.opLe_e, DL.opGt_e, DL.opGe_e, DL.opSub_e, DL.vLt_int, DL.vEq_int, DL.vAdd_int, DL.vAdd_list, DL.vAdd_tuple, DL.vLen_tuple, DL.vLen_list, DL.vInt_int, DL.vTuple_list, DL.vTuple_tuple, DL.vList_list, DL.vList_tuple, DL.vRev_list, DL.vRev_tuple, DL.vCut_list, DL.vCut_tuple, DL.f1_e, DL.f2_e, DL.isNon_none, DL.isNon_int, DL.isi_int, DL.isi_bool, DL.isi_tuple, DL.isi_list, DL.isi_str, DL.isi_dict, isAt, if_true]
theorem cutR_mid {raw : Addr} {items : List D} {j k : Int} {ρ : En} : cutR raw items (oS (kI j)) (oS (kI k)) (rdv 0) (some (.raw (.ref raw)) :: ρ) = .ok (.own (cutD items (some j) (some k))) := by
  simp only [cutR, DL.sel_true, DL.sel_false, DL.sel_self, DL.okb, DL.excb, DL.badb, DL.pickb, DL.okp, DL.pickp, DL.ddat, DL.down, DL.sdat, DL.sown, DL.sraw, DL.spot, DL.gdat, DL.gown, DL.graw, DL.gpot, DL.asBb, DL.asIi, DL.kBok, DL.noxok, DL.datas0, DL.frz1_own, DL.frz1_dat, DL.frz1_raw, DL.frz1_pot, DL.frz1_none, DL.frz1_nil, DL.frz1_succ, DL.frz_nil, DL.frz_cons, DL.rdv_dat, DL.rdv_raw, DL.rdv_pot, DL.rdv_succ, DL.rtnV_zero, DL.rtnV_succ, DL.ownAt_zero, DL.ownAt_succ, DL.startE_eq, DL.seq_e, DL.seqK_nx, DL.seqK_ret, DL.seqK_brk, DL.seqK_cont, DL.asg_e, DL.asgK_e, DL.rtn_e, DL.rtnK_e, DL.rtnN_e, DL.exs_e, DL.exsK_e, DL.ifs_e, DL.ifsK_true, DL.ifsK_false, DL.skip_e, DL.brkS_e, DL.contS_e, DL.badS_e, DL.body_e, DL.fin_ret, DL.fin_nx, DL.app1_e, DL.app1K_e, DL.app_e, DL.appO_e, DL.appW_e, DL.appD_e, DL.asg2_e, DL.asg2K_e, DL.asg2L_e, DL.unp_e, DL.unpW_e, DL.unpD_e, DL.goOn_some, DL.goOn_none, DL.bT_e, DL.setL_cons, DL.setL_nil, DL.bN_e, DL.sto1_e, DL.sto_e, DL.stoW_e, DL.stoD_e, DL.sto2_e, DL.sto2K_e, DL.sto2W_e, DL.sto2I_e, DL.sto1K_e, DL.atK_e, DL.ali_e, DL.aliK_true, DL.aliK_false, DL.ali1_e, DL.ali1B_e, DL.ali1O_e, DL.ali1W_e, DL.ali1D_e, DL.forS_e, DL.forK_e, DL.loopB_some, DL.loopK_nx, DL.loopK_cont, DL.loopK_brk, DL.loopK_ret, DL.bin2_e, DL.binK_e, DL.binL_e, DL.un1_e, DL.unK_e, DL.tst_e, DL.tand_e, DL.tandK_true, DL.tandK_false, DL.tor_e, DL.torK_true, DL.torK_false, DL.tnot_e, DL.notK_e, DL.vand_e, DL.vandK_e, DL.vandL_true, DL.vandL_false, DL.vor_e, DL.vorK_e, DL.vorL_true, DL.vorL_false, DL.vnot_e, DL.vnotK_e, DL.vnotL_e, DL.vif_e, DL.vifK_true, DL.vifK_false, DL.anil_e, DL.acons_e, DL.aconsK_e, DL.aconsL_e, DL.call_e, DL.ccall_e, DL.ccallK1, DL.ccallK2, DL.ccallK3, DL.ccallK4, DL.sub_e, DL.subK_e, DL.subH_e, DL.cutK_e, DL.cutL_e, DL.oN_e, DL.oS_e, DL.oSK_e, DL.oI_e, DL.rev_e, DL.revK_e, DL.tup_e, DL.lst_e, DL.mkTup_e, DL.mkLst_e, DL.tupD_e, DL.lstD_e, DL.datas_e, DL.datasK_e, DL.kN_e, DL.kB_e, DL.kI_e, DL.kS_e, DL.kT_e, DL.kD0_e, DL.chainI_e, DL.chA_e, DL.chB_e, DL.chI_e, DL.chJ_e, DL.chG_true, DL.chG_false, DL.chY_e, DL.chC_e, DL.sSeq_e, DL.seqSrc_e, DL.asItems_list, DL.asItems_tuple, DL.sRng1_e, DL.rngW_e, DL.rngI_e, DL.sRng2_e, DL.rngK_e, DL.rngWW_e, DL.rngWI_e, DL.rngJ_e, DL.sZip_e, DL.zipK_e, DL.zipW_e, DL.zipA_e, DL.zipD_list, DL.zipD_tuple, DL.sEnum_e, DL.enumW_e, DL.enumV_e, DL.asList_e, DL.enumL_e, DL.ownR_e, DL.lc_e, DL.tYes_e, List.map_cons, List.map_nil, List.nil_append, List.cons_append, List.length_cons, List.length_nil, List.set_cons_zero, List.set_cons_succ, ite_self, reduceIte, noL_none, noL_bool, noL_int, noL_str, noL_list, noL_tuple, noLs_nil, noLs_cons, Bool.true_and, Bool.false_and, Bool.and_true, Bool.and_self, Bool.false_eq_true, Bool.not_true, Bool.not_false, List.replicate_succ, List.replicate_zero, DL.opEq_e, DL.flip_e, DL.opNe_e, DL.opIn_e, DL.opNotIn_e, DL.opLt_e, DL.opAdd_e, DL.opMul_e, DL.opIx_e, DL.opIsN_e, DL.opNotN_e, DL.opNeg_e, DL.opLe_e, DL.opGt_e, DL.opGe_e, DL.opSub_e, DL.vLt_int, DL.vEq_int, DL.vAdd_int, DL.vAdd_list, DL.vAdd_tuple, DL.vLen_tuple, DL.vLen_list, DL.vInt_int, DL.vTuple_list, DL.vTuple_tuple, DL.vList_list, DL.vList_tuple, DL.vRev_list, DL.vRev_tuple, DL.vCut_list, DL.vCut_tuple, DL.f1_e, DL.f2_e, DL.isNon_none, DL.isNon_int, DL.isi_int, DL.isi_bool, DL.isi_tuple, DL.isi_list, DL.isi_str, DL.isi_dict, isAt, if_true]
theorem enumD_mem {k : Nat} {d : D} : ∀ {ds : List D}, d ∈ enumD k ds → ∃ (j : Nat) (x : D), k ≤ j ∧ x ∈ ds ∧ d = pairD (.int j) x
  | [], h => by cases h
  | x :: ds, h => by
    unfold enumD at h
    rcases List.mem_cons.mp h with e | h
    · exact ⟨k, x, Nat.le_refl _, List.mem_cons_self .., e⟩
    · obtain ⟨j, y, h1, h2, h3⟩ := enumD_mem h
      exact ⟨j, y, by omega, List.mem_cons_of_mem _ h2, h3⟩
theorem pot_gen (n m : Nat) (hn : 0 < n ∧ n < 1000) : PotOk (bPot n m) := by
  refine ⟨fun raw ns => ?_⟩
  have c1 : (∀ k : Int, cutR raw (ns.map PyData.int) oN (oS (kI k)) (rdv 0) [some (.raw (.ref raw)), none, none, none] = .ok (.own (cutD (ns.map PyData.int) none (some k)))) := fun k => cutR_to
  have l1 : ∀ ρ : En, ρ = [some (.raw (.ref raw)), none, none, none] → lcK [2] (bN 2) tYes (DL.call (f1 vAbs) (acons (rdv 2) anil)) ρ (cutD (ns.map PyData.int) none (some (n : Int))) = .ok (.own (((cutD (ns.map PyData.int) none (some (n : Int))).filter fun _ => true).map absD)) := by
    intro ρ eρ
    subst eρ
    rw [cutD_to]
    refine lcK_ok _ _ (by rw [List.length_take]; omega) fun d hd => ?_
    obtain ⟨z, _, rfl⟩ := List.mem_map.mp (List.mem_of_mem_take hd)
    refine ⟨_, rfl, rfl, fun _ => ⟨.dat (absD (.int z)), ?_, rfl⟩⟩
    simp only [wipeE, DL.sel_true, DL.sel_false, DL.sel_self, DL.okb, DL.excb, DL.badb, DL.pickb, DL.okp, DL.pickp, DL.ddat, DL.down, DL.sdat, DL.sown, DL.sraw, DL.spot, DL.gdat, DL.gown, DL.graw, DL.gpot, DL.asBb, DL.asIi, DL.kBok, DL.noxok, DL.datas0, DL.frz1_own, DL.frz1_dat, DL.frz1_raw, DL.frz1_pot, DL.frz1_none, DL.frz1_nil, DL.frz1_succ, DL.frz_nil, DL.frz_cons, DL.rdv_dat, DL.rdv_raw, DL.rdv_pot, DL.rdv_succ, DL.rtnV_zero, DL.rtnV_succ, DL.ownAt_zero, DL.ownAt_succ, DL.startE_eq, DL.seq_e, DL.seqK_nx, DL.seqK_ret, DL.seqK_brk, DL.seqK_cont, DL.asg_e, DL.asgK_e, DL.rtn_e, DL.rtnK_e, DL.rtnN_e, DL.exs_e, DL.exsK_e, DL.ifs_e, DL.ifsK_true, DL.ifsK_false, DL.skip_e, DL.brkS_e, DL.contS_e, DL.badS_e, DL.body_e, DL.fin_ret, DL.fin_nx, DL.app1_e, DL.app1K_e, DL.app_e, DL.appO_e, DL.appW_e, DL.appD_e, DL.asg2_e, DL.asg2K_e, DL.asg2L_e, DL.unp_e, DL.unpW_e, DL.unpD_e, DL.goOn_some, DL.goOn_none, DL.bT_e, DL.setL_cons, DL.setL_nil, DL.bN_e, DL.sto1_e, DL.sto_e, DL.stoW_e, DL.stoD_e, DL.sto2_e, DL.sto2K_e, DL.sto2W_e, DL.sto2I_e, DL.sto1K_e, DL.atK_e, DL.ali_e, DL.aliK_true, DL.aliK_false, DL.ali1_e, DL.ali1B_e, DL.ali1O_e, DL.ali1W_e, DL.ali1D_e, DL.forS_e, DL.forK_e, DL.loopB_some, DL.loopK_nx, DL.loopK_cont, DL.loopK_brk, DL.loopK_ret, DL.bin2_e, DL.binK_e, DL.binL_e, DL.un1_e, DL.unK_e, DL.tst_e, DL.tand_e, DL.tandK_true, DL.tandK_false, DL.tor_e, DL.torK_true, DL.torK_false, DL.tnot_e, DL.notK_e, DL.vand_e, DL.vandK_e, DL.vandL_true, DL.vandL_false, DL.vor_e, DL.vorK_e, DL.vorL_true, DL.vorL_false, DL.vnot_e, DL.vnotK_e, DL.vnotL_e, DL.vif_e, DL.vifK_true, DL.vifK_false, DL.anil_e, DL.acons_e, DL.aconsK_e, DL.aconsL_e, DL.call_e, DL.ccall_e, DL.ccallK1, DL.ccallK2, DL.ccallK3, DL.ccallK4, DL.sub_e, DL.subK_e, DL.subH_e, DL.cutK_e, DL.cutL_e, DL.oN_e, DL.oS_e, DL.oSK_e, DL.oI_e, DL.rev_e, DL.revK_e, DL.tup_e, DL.lst_e, DL.mkTup_e, DL.mkLst_e, DL.tupD_e, DL.lstD_e, DL.datas_e, DL.datasK_e, DL.kN_e, DL.kB_e, DL.kI_e, DL.kS_e, DL.kT_e, DL.kD0_e, DL.chainI_e, DL.chA_e, DL.chB_e, DL.chI_e, DL.chJ_e, DL.chG_true, DL.chG_false, DL.chY_e, DL.chC_e, DL.sSeq_e, DL.seqSrc_e, DL.asItems_list, DL.asItems_tuple, DL.sRng1_e, DL.rngW_e, DL.rngI_e, DL.sRng2_e, DL.rngK_e, DL.rngWW_e, DL.rngWI_e, DL.rngJ_e, DL.sZip_e, DL.zipK_e, DL.zipW_e, DL.zipA_e, DL.zipD_list, DL.zipD_tuple, DL.sEnum_e, DL.enumW_e, DL.enumV_e, DL.asList_e, DL.enumL_e, DL.ownR_e, DL.lc_e, DL.tYes_e, List.map_cons, List.map_nil, List.nil_append, List.cons_append, List.length_cons, List.length_nil, List.set_cons_zero, List.set_cons_succ, ite_self, reduceIte, noL_none, noL_bool, noL_int, noL_str, noL_list, noL_tuple, noLs_nil, noLs_cons, Bool.true_and, Bool.false_and, Bool.and_true, Bool.and_self, Bool.false_eq_true, Bool.not_true, Bool.not_false, List.replicate_succ, List.replicate_zero, DL.opEq_e, DL.flip_e, DL.opNe_e, DL.opIn_e, DL.opNotIn_e, DL.opLt_e, DL.opAdd_e, DL.opMul_e, DL.opIx_e, DL.opIsN_e, DL.opNotN_e, DL.opNeg_e, DL.opLe_e, DL.opGt_e, DL.opGe_e, DL.opSub_e, DL.vLt_int, DL.vEq_int, DL.vAdd_int, DL.vAdd_list, DL.vAdd_tuple, DL.vLen_tuple, DL.vLen_list, DL.vInt_int, DL.vTuple_list, DL.vTuple_tuple, DL.vList_list, DL.vList_tuple, DL.vRev_list, DL.vRev_tuple, DL.vCut_list, DL.vCut_tuple, DL.f1_e, DL.f2_e, DL.isNon_none, DL.isNon_int, DL.isi_int, DL.isi_bool, DL.isi_tuple, DL.isi_list, DL.isi_str, DL.isi_dict, vAbs, absD]
  have e1 : ((cutD (ns.map PyData.int) none (some (n : Int))).filter fun _ => true).map absD = ((ns.take n).map fun z : Int => if z < 0 then -z else z).map PyData.int := by
    rw [cutD_to, List.filter_eq_self.mpr (fun _ _ => rfl), ← List.map_take, List.map_map, List.map_map]
    rfl
  have c2 : ∀ ρ : En, cutR raw (ns.map PyData.int) (oS (kI n)) (oS (kI m)) (rdv 0) (some (.raw (.ref raw)) :: ρ) = .ok (.own (cutD (ns.map PyData.int) (some (n : Int)) (some (m : Int)))) := fun ρ => cutR_mid
  simp only [bPot, DL.sel_true, DL.sel_false, DL.sel_self, DL.okb, DL.excb, DL.badb, DL.pickb, DL.okp, DL.pickp, DL.ddat, DL.down, DL.sdat, DL.sown, DL.sraw, DL.spot, DL.gdat, DL.gown, DL.graw, DL.gpot, DL.asBb, DL.asIi, DL.kBok, DL.noxok, DL.datas0, DL.frz1_own, DL.frz1_dat, DL.frz1_raw, DL.frz1_pot, DL.frz1_none, DL.frz1_nil, DL.frz1_succ, DL.frz_nil, DL.frz_cons, DL.rdv_dat, DL.rdv_raw, DL.rdv_pot, DL.rdv_succ, DL.rtnV_zero, DL.rtnV_succ, DL.ownAt_zero, DL.ownAt_succ, DL.startE_eq, DL.seq_e, DL.seqK_nx, DL.seqK_ret, DL.seqK_brk, DL.seqK_cont, DL.asg_e, DL.asgK_e, DL.rtn_e, DL.rtnK_e, DL.rtnN_e, DL.exs_e, DL.exsK_e, DL.ifs_e, DL.ifsK_true, DL.ifsK_false, DL.skip_e, DL.brkS_e, DL.contS_e, DL.badS_e, DL.body_e, DL.fin_ret, DL.fin_nx, DL.app1_e, DL.app1K_e, DL.app_e, DL.appO_e, DL.appW_e, DL.appD_e, DL.asg2_e, DL.asg2K_e, DL.asg2L_e, DL.unp_e, DL.unpW_e, DL.unpD_e, DL.goOn_some, DL.goOn_none, DL.bT_e, DL.setL_cons, DL.setL_nil, DL.bN_e, DL.sto1_e, DL.sto_e, DL.stoW_e, DL.stoD_e, DL.sto2_e, DL.sto2K_e, DL.sto2W_e, DL.sto2I_e, DL.sto1K_e, DL.atK_e, DL.ali_e, DL.aliK_true, DL.aliK_false, DL.ali1_e, DL.ali1B_e, DL.ali1O_e, DL.ali1W_e, DL.ali1D_e, DL.forS_e, DL.forK_e, DL.loopB_some, DL.loopK_nx, DL.loopK_cont, DL.loopK_brk, DL.loopK_ret, DL.bin2_e, DL.binK_e, DL.binL_e, DL.un1_e, DL.unK_e, DL.tst_e, DL.tand_e, DL.tandK_true, DL.tandK_false, DL.tor_e, DL.torK_true, DL.torK_false, DL.tnot_e, DL.notK_e, DL.vand_e, DL.vandK_e, DL.vandL_true, DL.vandL_false, DL.vor_e, DL.vorK_e, DL.vorL_true, DL.vorL_false, DL.vnot_e, DL.vnotK_e, DL.vnotL_e, DL.vif_e, DL.vifK_true, DL.vifK_false, DL.anil_e, DL.acons_e, DL.aconsK_e, DL.aconsL_e, DL.call_e, DL.ccall_e, DL.ccallK1, DL.ccallK2, DL.ccallK3, DL.ccallK4, DL.sub_e, DL.subK_e, DL.subH_e, DL.cutK_e, DL.cutL_e, DL.oN_e, DL.oS_e, DL.oSK_e, DL.oI_e, DL.rev_e, DL.revK_e, DL.tup_e, DL.lst_e, DL.mkTup_e, DL.mkLst_e, DL.tupD_e, DL.lstD_e, DL.datas_e, DL.datasK_e, DL.kN_e, DL.kB_e, DL.kI_e, DL.kS_e, DL.kT_e, DL.kD0_e, DL.chainI_e, DL.chA_e, DL.chB_e, DL.chI_e, DL.chJ_e, DL.chG_true, DL.chG_false, DL.chY_e, DL.chC_e, DL.sSeq_e, DL.seqSrc_e, DL.asItems_list, DL.asItems_tuple, DL.sRng1_e, DL.rngW_e, DL.rngI_e, DL.sRng2_e, DL.rngK_e, DL.rngWW_e, DL.rngWI_e, DL.rngJ_e, DL.sZip_e, DL.zipK_e, DL.zipW_e, DL.zipA_e, DL.zipD_list, DL.zipD_tuple, DL.sEnum_e, DL.enumW_e, DL.enumV_e, DL.asList_e, DL.enumL_e, DL.ownR_e, DL.lc_e, DL.tYes_e, List.map_cons, List.map_nil, List.nil_append, List.cons_append, List.length_cons, List.length_nil, List.set_cons_zero, List.set_cons_succ, ite_self, reduceIte, noL_none, noL_bool, noL_int, noL_str, noL_list, noL_tuple, noLs_nil, noLs_cons, Bool.true_and, Bool.false_and, Bool.and_true, Bool.and_self, Bool.false_eq_true, Bool.not_true, Bool.not_false, List.replicate_succ, List.replicate_zero, DL.opEq_e, DL.flip_e, DL.opNe_e, DL.opIn_e, DL.opNotIn_e, DL.opLt_e, DL.opAdd_e, DL.opMul_e, DL.opIx_e, DL.opIsN_e, DL.opNotN_e, DL.opNeg_e, DL.opLe_e, DL.opGt_e, DL.opGe_e, DL.opSub_e, DL.vLt_int, DL.vEq_int, DL.vAdd_int, DL.vAdd_list, DL.vAdd_tuple, DL.vLen_tuple, DL.vLen_list, DL.vInt_int, DL.vTuple_list, DL.vTuple_tuple, DL.vList_list, DL.vList_tuple, DL.vRev_list, DL.vRev_tuple, DL.vCut_list, DL.vCut_tuple, DL.f1_e, DL.f2_e, DL.isNon_none, DL.isNon_int, DL.isi_int, DL.isi_bool, DL.isi_tuple, DL.isi_list, DL.isi_str, DL.isi_dict, c1, l1, c2, noLs, e1]
  refine M.post_bind.mpr (loop_post (P := fun fl => M.post (seqK _ fl) _ _) (fun ds ρ => ∃ (cs : List Int) (o2 o3 : Option Wv), ρ = [some (.raw (.ref raw)), some (.own (cs.map PyData.int)), o2, o3] ∧ (o2 = none ∨ ∃ z, o2 = some (.dat (.int z))) ∧ (o3 = none ∨ ∃ z, o3 = some (.dat (.int z))) ∧
      ∀ d ∈ ds, cs.length = n ∧ ∃ (j : Nat) (z : Int), d = pairD (.int j) (.int z)) _ _ ?_ ?_ ?_)
  · refine ⟨(ns.take n).map fun z => if z < 0 then -z else z, none, none, rfl, .inl rfl, .inl rfl, fun d hd => ?_⟩
    · obtain ⟨j, x, _, hx, rfl⟩ := enumD_mem hd
      rw [cutD_mid] at hx
      have hx2 := List.mem_of_mem_drop hx
      obtain ⟨z, _, rfl⟩ := List.mem_map.mp (List.mem_of_mem_take hx2)
      refine ⟨?_, j, z, rfl⟩
      rw [List.length_map, List.length_take]
      have : 0 < ((List.take m (ns.map PyData.int)).drop n).length := List.length_pos_of_mem hx
      rw [List.length_drop, List.length_take, List.length_map] at this
      omega
  · rintro ρ ⟨cs, o2, o3, rfl, _, _, _⟩
    have sm : ∀ x : M Wv, small 4 x = x := fun x => if_pos (by decide)
    simp only [DL.sel_true, DL.sel_false, DL.sel_self, DL.okb, DL.excb, DL.badb, DL.pickb, DL.okp, DL.pickp, DL.ddat, DL.down, DL.sdat, DL.sown, DL.sraw, DL.spot, DL.gdat, DL.gown, DL.graw, DL.gpot, DL.asBb, DL.asIi, DL.kBok, DL.noxok, DL.datas0, DL.frz1_own, DL.frz1_dat, DL.frz1_raw, DL.frz1_pot, DL.frz1_none, DL.frz1_nil, DL.frz1_succ, DL.frz_nil, DL.frz_cons, DL.rdv_dat, DL.rdv_raw, DL.rdv_pot, DL.rdv_succ, DL.rtnV_zero, DL.rtnV_succ, DL.ownAt_zero, DL.ownAt_succ, DL.startE_eq, DL.seq_e, DL.seqK_nx, DL.seqK_ret, DL.seqK_brk, DL.seqK_cont, DL.asg_e, DL.asgK_e, DL.rtn_e, DL.rtnK_e, DL.rtnN_e, DL.exs_e, DL.exsK_e, DL.ifs_e, DL.ifsK_true, DL.ifsK_false, DL.skip_e, DL.brkS_e, DL.contS_e, DL.badS_e, DL.body_e, DL.fin_ret, DL.fin_nx, DL.app1_e, DL.app1K_e, DL.app_e, DL.appO_e, DL.appW_e, DL.appD_e, DL.asg2_e, DL.asg2K_e, DL.asg2L_e, DL.unp_e, DL.unpW_e, DL.unpD_e, DL.goOn_some, DL.goOn_none, DL.bT_e, DL.setL_cons, DL.setL_nil, DL.bN_e, DL.sto1_e, DL.sto_e, DL.stoW_e, DL.stoD_e, DL.sto2_e, DL.sto2K_e, DL.sto2W_e, DL.sto2I_e, DL.sto1K_e, DL.atK_e, DL.ali_e, DL.aliK_true, DL.aliK_false, DL.ali1_e, DL.ali1B_e, DL.ali1O_e, DL.ali1W_e, DL.ali1D_e, DL.forS_e, DL.forK_e, DL.loopB_some, DL.loopK_nx, DL.loopK_cont, DL.loopK_brk, DL.loopK_ret, DL.bin2_e, DL.binK_e, DL.binL_e, DL.un1_e, DL.unK_e, DL.tst_e, DL.tand_e, DL.tandK_true, DL.tandK_false, DL.tor_e, DL.torK_true, DL.torK_false, DL.tnot_e, DL.notK_e, DL.vand_e, DL.vandK_e, DL.vandL_true, DL.vandL_false, DL.vor_e, DL.vorK_e, DL.vorL_true, DL.vorL_false, DL.vnot_e, DL.vnotK_e, DL.vnotL_e, DL.vif_e, DL.vifK_true, DL.vifK_false, DL.anil_e, DL.acons_e, DL.aconsK_e, DL.aconsL_e, DL.call_e, DL.ccall_e, DL.ccallK1, DL.ccallK2, DL.ccallK3, DL.ccallK4, DL.sub_e, DL.subK_e, DL.subH_e, DL.cutK_e, DL.cutL_e, DL.oN_e, DL.oS_e, DL.oSK_e, DL.oI_e, DL.rev_e, DL.revK_e, DL.tup_e, DL.lst_e, DL.mkTup_e, DL.mkLst_e, DL.tupD_e, DL.lstD_e, DL.datas_e, DL.datasK_e, DL.kN_e, DL.kB_e, DL.kI_e, DL.kS_e, DL.kT_e, DL.kD0_e, DL.chainI_e, DL.chA_e, DL.chB_e, DL.chI_e, DL.chJ_e, DL.chG_true, DL.chG_false, DL.chY_e, DL.chC_e, DL.sSeq_e, DL.seqSrc_e, DL.asItems_list, DL.asItems_tuple, DL.sRng1_e, DL.rngW_e, DL.rngI_e, DL.sRng2_e, DL.rngK_e, DL.rngWW_e, DL.rngWI_e, DL.rngJ_e, DL.sZip_e, DL.zipK_e, DL.zipW_e, DL.zipA_e, DL.zipD_list, DL.zipD_tuple, DL.sEnum_e, DL.enumW_e, DL.enumV_e, DL.asList_e, DL.enumL_e, DL.ownR_e, DL.lc_e, DL.tYes_e, List.map_cons, List.map_nil, List.nil_append, List.cons_append, List.length_cons, List.length_nil, List.set_cons_zero, List.set_cons_succ, ite_self, reduceIte, noL_none, noL_bool, noL_int, noL_str, noL_list, noL_tuple, noLs_nil, noLs_cons, Bool.true_and, Bool.false_and, Bool.and_true, Bool.and_self, Bool.false_eq_true, Bool.not_true, Bool.not_false, List.replicate_succ, List.replicate_zero, DL.opEq_e, DL.flip_e, DL.opNe_e, DL.opIn_e, DL.opNotIn_e, DL.opLt_e, DL.opAdd_e, DL.opMul_e, DL.opIx_e, DL.opIsN_e, DL.opNotN_e, DL.opNeg_e, DL.opLe_e, DL.opGt_e, DL.opGe_e, DL.opSub_e, DL.vLt_int, DL.vEq_int, DL.vAdd_int, DL.vAdd_list, DL.vAdd_tuple, DL.vLen_tuple, DL.vLen_list, DL.vInt_int, DL.vTuple_list, DL.vTuple_tuple, DL.vList_list, DL.vList_tuple, DL.vRev_list, DL.vRev_tuple, DL.vCut_list, DL.vCut_tuple, DL.f1_e, DL.f2_e, DL.isNon_none, DL.isNon_int, DL.isi_int, DL.isi_bool, DL.isi_tuple, DL.isi_list, DL.isi_str, DL.isi_dict, sm]
    exact ⟨cs, rfl⟩
  · rintro d ds ρ ⟨cs, o2, o3, rfl, h2, h3, hd⟩
    obtain ⟨hl, j, z, rfl⟩ := hd d (List.mem_cons_self ..)
    refine ⟨_, rfl, ?_⟩
    have hn' : (0 : Int) < (n : Int) := by omega
    have md : opMod (.dat (.int (j : Int))) (.dat (.int (n : Int))) = .ok (.dat (.int ((j % n : Nat) : Int))) := by
      rw [opMod_e hn']
      rfl
    have hj : j % n < cs.length := by rw [hl]; exact Nat.mod_lt _ hn.1
    have ix : vIx (.list (cs.map PyData.int)) (.int ((j % n : Nat) : Int)) = .ok (.dat (.int cs[j % n])) := vIx_list (by rw [atI_nat', List.getElem?_map, List.getElem?_eq_getElem hj]; rfl)
    have ix2 : L2.ixN (cs.map PyData.int).length ((j % n : Nat) : Int) = some (j % n) := ixN_nat (by rw [List.length_map]; exact hj)
    have st : [some (.raw (.ref raw)), some (.own (cs.map PyData.int)), o2, o3].set 3 (some (.dat (.int (j : Int)))) = [some (.raw (.ref raw)), some (.own (cs.map PyData.int)), o2, some (.dat (.int (j : Int)))] := rfl
    simp only [pairD, DL.sel_true, DL.sel_false, DL.sel_self, DL.okb, DL.excb, DL.badb, DL.pickb, DL.okp, DL.pickp, DL.ddat, DL.down, DL.sdat, DL.sown, DL.sraw, DL.spot, DL.gdat, DL.gown, DL.graw, DL.gpot, DL.asBb, DL.asIi, DL.kBok, DL.noxok, DL.datas0, DL.frz1_own, DL.frz1_dat, DL.frz1_raw, DL.frz1_pot, DL.frz1_none, DL.frz1_nil, DL.frz1_succ, DL.frz_nil, DL.frz_cons, DL.rdv_dat, DL.rdv_raw, DL.rdv_pot, DL.rdv_succ, DL.rtnV_zero, DL.rtnV_succ, DL.ownAt_zero, DL.ownAt_succ, DL.startE_eq, DL.seq_e, DL.seqK_nx, DL.seqK_ret, DL.seqK_brk, DL.seqK_cont, DL.asg_e, DL.asgK_e, DL.rtn_e, DL.rtnK_e, DL.rtnN_e, DL.exs_e, DL.exsK_e, DL.ifs_e, DL.ifsK_true, DL.ifsK_false, DL.skip_e, DL.brkS_e, DL.contS_e, DL.badS_e, DL.body_e, DL.fin_ret, DL.fin_nx, DL.app1_e, DL.app1K_e, DL.app_e, DL.appO_e, DL.appW_e, DL.appD_e, DL.asg2_e, DL.asg2K_e, DL.asg2L_e, DL.unp_e, DL.unpW_e, DL.unpD_e, DL.goOn_some, DL.goOn_none, DL.bT_e, DL.setL_cons, DL.setL_nil, DL.bN_e, DL.sto1_e, DL.sto_e, DL.stoW_e, DL.stoD_e, DL.sto2_e, DL.sto2K_e, DL.sto2W_e, DL.sto2I_e, DL.sto1K_e, DL.atK_e, DL.ali_e, DL.aliK_true, DL.aliK_false, DL.ali1_e, DL.ali1B_e, DL.ali1O_e, DL.ali1W_e, DL.ali1D_e, DL.forS_e, DL.forK_e, DL.loopB_some, DL.loopK_nx, DL.loopK_cont, DL.loopK_brk, DL.loopK_ret, DL.bin2_e, DL.binK_e, DL.binL_e, DL.un1_e, DL.unK_e, DL.tst_e, DL.tand_e, DL.tandK_true, DL.tandK_false, DL.tor_e, DL.torK_true, DL.torK_false, DL.tnot_e, DL.notK_e, DL.vand_e, DL.vandK_e, DL.vandL_true, DL.vandL_false, DL.vor_e, DL.vorK_e, DL.vorL_true, DL.vorL_false, DL.vnot_e, DL.vnotK_e, DL.vnotL_e, DL.vif_e, DL.vifK_true, DL.vifK_false, DL.anil_e, DL.acons_e, DL.aconsK_e, DL.aconsL_e, DL.call_e, DL.ccall_e, DL.ccallK1, DL.ccallK2, DL.ccallK3, DL.ccallK4, DL.sub_e, DL.subK_e, DL.subH_e, DL.cutK_e, DL.cutL_e, DL.oN_e, DL.oS_e, DL.oSK_e, DL.oI_e, DL.rev_e, DL.revK_e, DL.tup_e, DL.lst_e, DL.mkTup_e, DL.mkLst_e, DL.tupD_e, DL.lstD_e, DL.datas_e, DL.datasK_e, DL.kN_e, DL.kB_e, DL.kI_e, DL.kS_e, DL.kT_e, DL.kD0_e, DL.chainI_e, DL.chA_e, DL.chB_e, DL.chI_e, DL.chJ_e, DL.chG_true, DL.chG_false, DL.chY_e, DL.chC_e, DL.sSeq_e, DL.seqSrc_e, DL.asItems_list, DL.asItems_tuple, DL.sRng1_e, DL.rngW_e, DL.rngI_e, DL.sRng2_e, DL.rngK_e, DL.rngWW_e, DL.rngWI_e, DL.rngJ_e, DL.sZip_e, DL.zipK_e, DL.zipW_e, DL.zipA_e, DL.zipD_list, DL.zipD_tuple, DL.sEnum_e, DL.enumW_e, DL.enumV_e, DL.asList_e, DL.enumL_e, DL.ownR_e, DL.lc_e, DL.tYes_e, List.map_cons, List.map_nil, List.nil_append, List.cons_append, List.length_cons, List.length_nil, List.set_cons_zero, List.set_cons_succ, ite_self, reduceIte, noL_none, noL_bool, noL_int, noL_str, noL_list, noL_tuple, noLs_nil, noLs_cons, Bool.true_and, Bool.false_and, Bool.and_true, Bool.and_self, Bool.false_eq_true, Bool.not_true, Bool.not_false, List.replicate_succ, List.replicate_zero, DL.opEq_e, DL.flip_e, DL.opNe_e, DL.opIn_e, DL.opNotIn_e, DL.opLt_e, DL.opAdd_e, DL.opMul_e, DL.opIx_e, DL.opIsN_e, DL.opNotN_e, DL.opNeg_e, DL.opLe_e, DL.opGt_e, DL.opGe_e, DL.opSub_e, DL.vLt_int, DL.vEq_int, DL.vAdd_int, DL.vAdd_list, DL.vAdd_tuple, DL.vLen_tuple, DL.vLen_list, DL.vInt_int, DL.vTuple_list, DL.vTuple_tuple, DL.vList_list, DL.vList_tuple, DL.vRev_list, DL.vRev_tuple, DL.vCut_list, DL.vCut_tuple, DL.f1_e, DL.f2_e, DL.isNon_none, DL.isNon_int, DL.isi_int, DL.isi_bool, DL.isi_tuple, DL.isi_list, DL.isi_str, DL.isi_dict, md, ix, ix2, vAbs, Option.map_some, M.post_ok]
    refine ⟨cs.set (j % n) (cs[j % n] + if z < 0 then -z else z), _, _, ?_, .inr ⟨z, rfl⟩, .inr ⟨j, rfl⟩, fun d hd' => ?_⟩
    · rw [List.map_set]
    · obtain ⟨q1, q2⟩ := hd d (List.mem_cons_of_mem _ hd')
      exact ⟨by rw [List.length_set]; exact q1, q2⟩
end DL

namespace DL
open PySem (PyData Addr Str)
/-! ## plain words for data -/
def isInt : D → Bool
  | .int _ => true
  | _ => false
def isCnt : D → Bool
  | .int i => decide (0 ≤ i)
  | _ => false
def isNm : D → Bool
  | .none => true
  | .int i => decide (0 ≤ i) && decide (i ≤ 20)
  | _ => false
def isPr (m : Int) : D → Bool
  | .tuple [.int i, .int j] => decide (0 ≤ i) && decide (i < j) && decide (j < m)
  | _ => false
def ltD (a b : D) : Bool := match vLt a b with
  | .ok k => k
  | _ => false
def adj (xs : List D) : Bool := (List.zipWith ltD xs (xs.drop 1)).all id
def isRis : D → Bool
  | .tuple xs => xs.all isCnt && adj xs
  | _ => false
def isRow (m : Int) : D → Bool
  | .tuple xs => xs.all (isPr m) && adj xs
  | _ => false
def itm : D → List D
  | .tuple xs => xs
  | _ => []
def isPty : D → Bool
  | .tuple [.tuple ns, a, b] => decide ((1 : Int) ≤ ns.length) && decide ((ns.length : Int) ≤ 8) && ns.all isNm && isRow ns.length a && isRow ns.length b && !(itm a).any fun p => isIn p (itm b)
  | _ => false
theorem vLt_ok {a b : D} (h : ∃ k, vLt a b = .ok k) : vLt a b = .ok (ltD a b) := by
  obtain ⟨k, e⟩ := h
  unfold ltD
  rw [e]
theorem isPr_iff {m : Int} {d : D} : isPr m d = true ↔ ∃ i j : Int, d = .tuple [.int i, .int j] ∧ 0 ≤ i ∧ i < j ∧ j < m := by
  constructor
  · intro h
    unfold isPr at h
    split at h
    · simp only [Bool.and_eq_true, decide_eq_true_eq] at h
      exact ⟨_, _, rfl, h.1.1, h.1.2, h.2⟩
    · cases h
  · rintro ⟨i, j, rfl, h1, h2, h3⟩
    simp [isPr, h1, h2, h3]
theorem vLt_pairs {i j k l : Int} : ∃ b, vLt (.tuple [.int i, .int j]) (.tuple [.int k, .int l]) = .ok b := by
  refine ⟨PySem.W.dataLt (.tuple [.int i, .int j]) (.tuple [.int k, .int l]), ?_⟩
  unfold vLt
  exact if_pos (by rfl)
/-- a tuple of pairs is fit for in -/
theorem isCnt_iff {d : D} : isCnt d = true ↔ ∃ i : Int, d = .int i ∧ 0 ≤ i := by
  cases d <;> simp [isCnt]
theorem isRis2 {x y : D} : isRis (.tuple [x, y]) = true ↔ ∃ i j : Int, x = .int i ∧ y = .int j ∧ 0 ≤ i ∧ i < j := by
  constructor
  · intro h
    unfold isRis at h
    simp only [List.all_cons, List.all_nil, Bool.and_true, Bool.and_eq_true, adj, List.drop_succ_cons, List.drop_zero, List.zipWith_cons_cons, List.zipWith_nil_right, id_eq] at h
    obtain ⟨⟨h1, h2⟩, h3⟩ := h
    obtain ⟨i, rfl, p1⟩ := isCnt_iff.mp h1
    obtain ⟨j, rfl, p2⟩ := isCnt_iff.mp h2
    exact ⟨i, j, rfl, rfl, p1, by simpa [ltD, vLt] using h3⟩
  · rintro ⟨i, j, rfl, rfl, h1, h2⟩
    simp only [isRis, List.all_cons, List.all_nil, Bool.and_true, Bool.and_eq_true, adj, List.drop_succ_cons, List.drop_zero, List.zipWith_cons_cons, List.zipWith_nil_right, id_eq, isCnt, decide_eq_true_eq]
    exact ⟨⟨h1, by omega⟩, by simpa [ltD, vLt] using h2⟩
theorem isPr_len {m : Int} {xs : List D} (h : xs.length ≠ 2) : isPr m (.tuple xs) = false := by
  cases e : isPr m (.tuple xs) with
  | false => rfl
  | true =>
    obtain ⟨i, j, e2, _⟩ := isPr_iff.mp e
    cases e2
    exact absurd rfl h
theorem two_of {xs : List D} (h : xs.length = 2) : ∃ x y, xs = [x, y] := by
  match xs, h with
  | [x, y], _ => exact ⟨x, y, rfl⟩
theorem canLay_pairs {m : Int} : ∀ {xs : List D}, xs.all (isPr m) = true → PyData.canLayAll0 xs = true
  | [], _ => rfl
  | x :: xs, h => by
    simp only [List.all_cons, Bool.and_eq_true] at h
    obtain ⟨i, j, rfl, _⟩ := isPr_iff.mp h.1
    unfold PyData.canLayAll0
    rw [canLay_pairs h.2]
    rfl
theorem shaped_pair {m : Int} {d : D} (h : isPr m d = true) : PySem.SeqAt.shaped d = true := by
  obtain ⟨i, j, rfl, _⟩ := isPr_iff.mp h
  rfl
/-! comprehensions over data that all hold, all fail -/
theorem all_bools {xs : List D} {p : D → Bool} : vAll (.list (xs.map fun d => .bool (p d))) = .ok (.dat (.bool (xs.all p))) := by
  have := vAll_bools (bs := xs.map p)
  rw [List.map_map] at this
  rw [show (xs.map fun d => PyData.bool (p d)) = List.map (PyData.bool ∘ p) xs from rfl, this, List.all_map]
  rfl
theorem any_bools {xs : List D} {p : D → Bool} : vAny (.list (xs.map fun d => .bool (p d))) = .ok (.dat (.bool (xs.any p))) := by
  have := vAny_bools (bs := xs.map p)
  rw [List.map_map] at this
  rw [show (xs.map fun d => PyData.bool (p d)) = List.map (PyData.bool ∘ p) xs from rfl, this, List.any_map]
  rfl
/-- .. every turn gives one datum -/
theorem lcK_map {vs : List Nat} {b : D → En → Option En} {t : En → M Bool} {el : En → M Wv} {ρ : En} {ds : List D} (q : D → D) (hz : ds.length ≤ 1000000)
    (h : ∀ d ∈ ds, ∃ ρ1, b d (wipeE ρ vs) = some ρ1 ∧ t ρ1 = .ok true ∧ el ρ1 = .ok (.dat (q d))) : lcK vs b t el ρ ds = .ok (.own (ds.map q)) := by
  rw [lcK_ok (fun _ => true) q hz fun d hd => ?_, List.filter_eq_self.mpr fun _ _ => rfl]
  obtain ⟨ρ1, h1, h2, h3⟩ := h d hd
  exact ⟨ρ1, h1, h2, fun _ => ⟨_, h3, rfl⟩⟩
def fst' : D → D
  | .tuple [a, _] => a
  | d => d
def snd' : D → D
  | .tuple [_, b] => b
  | d => d
theorem zip_init (xs : List D) : List.zipWith pairD (xs.take (xs.length - 1)) (xs.drop 1) = List.zipWith pairD xs (xs.drop 1) := by
  cases xs with
  | nil => rfl
  | cons x xs =>
    simp only [List.length_cons, Nat.add_sub_cancel, List.drop_succ_cons, List.drop_zero]
    induction xs generalizing x with
    | nil => rfl
    | cons y xs ih =>
      simp only [List.length_cons, List.take_succ_cons, List.zipWith_cons_cons]
      rw [ih]
theorem zip_adj (xs : List D) : (List.zipWith pairD xs (xs.drop 1)).map (fun d => PyData.bool (ltD (fst' d) (snd' d))) = (List.zipWith ltD xs (xs.drop 1)).map PyData.bool := by
  generalize xs.drop 1 = ys
  induction xs generalizing ys with
  | nil => rfl
  | cons x xs ih =>
    cases ys with
    | nil => rfl
    | cons y ys =>
      simp only [List.zipWith_cons_cons, List.map_cons]
      rw [ih]
      rfl
theorem zip_mem {xs ys : List D} {d : D} (h : d ∈ List.zipWith pairD xs ys) : ∃ a b, a ∈ xs ∧ b ∈ ys ∧ d = pairD a b := by
  induction xs generalizing ys with
  | nil => simp at h
  | cons x xs ih =>
    cases ys with
    | nil => simp at h
    | cons y ys =>
      simp only [List.zipWith_cons_cons, List.mem_cons] at h
      rcases h with e | h
      · exact ⟨x, y, List.mem_cons_self .., List.mem_cons_self .., e⟩
      · obtain ⟨a, b, h1, h2, h3⟩ := ih h
        exact ⟨a, b, List.mem_cons_of_mem _ h1, List.mem_cons_of_mem _ h2, h3⟩
/-- sizes that the machine takes, k levels deep -/
def Sz : Nat → D → Prop
  | 0, _ => True
  | k + 1, d => (itm d).length ≤ 1000000 ∧ ∀ x ∈ itm d, Sz k x
theorem three_of {xs : List D} (h : xs.length = 3) : ∃ x y z, xs = [x, y, z] := by
  match xs, h with
  | [x, y, z], _ => exact ⟨x, y, z, rfl⟩
theorem isPty_len {xs : List D} (h : xs.length ≠ 3) : isPty (.tuple xs) = false := by
  unfold isPty
  split
  · rename_i e
    cases e
    exact absurd rfl h
  · rfl
theorem isNon_ne {d : D} (h : d ≠ .none) : isNon d = false := by
  cases d <;> first | rfl | exact absurd rfl h
def isNum (a b : Int) : D → Bool
  | .int i => decide (a ≤ i) && decide (i ≤ b)
  | _ => false
theorem isNum_nm {d : D} (h : d ≠ .none) : isNum 0 20 d = isNm d := by
  cases d <;> first | rfl | exact absurd rfl h
theorem eqv_nil {xs : List D} : PyData.eqv (.list xs) (.list []) = xs.isEmpty := by
  cases xs <;> simp [PyData.eqv, PyData.eqvAll]
theorem vEq_nil {xs : List D} (h : PySem.SeqAt.shaped (.list xs) = true) : vEq (.list xs) (.list []) = .ok xs.isEmpty := by
  rw [vEq_of h (by rfl), eqv_nil]
theorem depth_pairs {m : Int} : ∀ {xs : List D}, (∀ x ∈ xs, isPr m x = true) → PyData.depthAll xs ≤ 2
  | [], _ => by unfold PyData.depthAll; omega
  | x :: xs, h => by
    obtain ⟨i, j, rfl, _⟩ := isPr_iff.mp (h x (List.mem_cons_self ..))
    have := depth_pairs fun y hy => h y (List.mem_cons_of_mem _ hy)
    unfold PyData.depthAll
    have e : (PyData.tuple [.int i, .int j]).depth ≤ 2 := by
      simp [PyData.depth, PyData.depthAll]
    omega
theorem shaped_pairs {m : Int} {xs : List D} (h : ∀ x ∈ xs, isPr m x = true) : PySem.SeqAt.shaped (.list xs) = true := by
  have h1 := canLay_pairs (m := m) (xs := xs) (List.all_eq_true.mpr h)
  have h2 := depth_pairs h
  unfold PySem.SeqAt.shaped PyData.canLay0 PyData.depth
  simp only [h1, Bool.true_and, decide_eq_true_eq]
  omega
/-- slot i behind a loop that stores there -/
theorem fold1 {a o : Option Wv} {r : En} : ∀ ds : List D, ∃ o', ds.foldl (fun ρ d => ρ.set 1 (some (.dat d))) (a :: o :: r) = a :: o' :: r ∧ (o' = o ∨ ∃ z, o' = some (.dat z))
  | [] => ⟨o, rfl, .inl rfl⟩
  | d :: ds => by
    obtain ⟨o', h1, h2⟩ := fold1 (a := a) (o := some (.dat d)) (r := r) ds
    refine ⟨o', h1, .inr ?_⟩
    rcases h2 with e | e
    · exact ⟨d, e⟩
    · exact e
theorem fold2 {a b o : Option Wv} {r : En} : ∀ ds : List D, ∃ o', ds.foldl (fun ρ d => ρ.set 2 (some (.dat d))) (a :: b :: o :: r) = a :: b :: o' :: r ∧ (o' = o ∨ ∃ z, o' = some (.dat z))
  | [] => ⟨o, rfl, .inl rfl⟩
  | d :: ds => by
    obtain ⟨o', h1, h2⟩ := fold2 (a := a) (b := b) (o := some (.dat d)) (r := r) ds
    refine ⟨o', h1, .inr ?_⟩
    rcases h2 with e | e
    · exact ⟨d, e⟩
    · exact e
theorem find_not {p : D → Bool} {ds : List D} (h : ds.all p = true) : ds.find? (fun d => !p d) = none := by
  rw [List.find?_eq_none]
  intro x hx
  simp [List.all_eq_true.mp h x hx]
theorem find_some {p : D → Bool} {ds : List D} (h : ds.all p = false) : ∃ d, ds.find? (fun d => !p d) = some d := by
  cases e : ds.find? (fun d => !p d) with
  | some d => exact ⟨d, rfl⟩
  | none =>
    rw [List.find?_eq_none] at e
    have : ds.all p = true := List.all_eq_true.mpr fun x hx => by simpa using e x hx
    rw [this] at h
    cases h
theorem adj_not {xs : List D} : ((List.zipWith pairD xs (xs.drop 1)).filter fun d => !ltD (fst' d) (snd' d)).isEmpty = adj xs := by
  unfold adj
  generalize xs.drop 1 = ys
  induction xs generalizing ys with
  | nil => rfl
  | cons x xs ih =>
    cases ys with
    | nil => rfl
    | cons y ys =>
      simp only [List.zipWith_cons_cons, List.filter_cons, List.all_cons, id_eq]
      have := ih ys
      cases h : ltD x y with
      | true =>
        rw [show (!ltD (fst' (pairD x y)) (snd' (pairD x y))) = !ltD x y from rfl, h]
        simpa using this
      | false =>
        rw [show (!ltD (fst' (pairD x y)) (snd' (pairD x y))) = !ltD x y from rfl, h]
        simp
/-- a loop whose turns end it or go on, in slots that keep their form -/
theorem loop_inv {b : D → En → Option En} {g : En → M Fl} (p : D → Bool) (r : D → Wv) (Inv : En → Prop) : ∀ (ds : List D) (ρ : En), Inv ρ →
    (∀ ρ, Inv ρ → ∀ d ∈ ds, ∃ ρ1, b d ρ = some ρ1 ∧ ((p d = true ∧ g ρ1 = .ok (.ret (r d))) ∨ (p d = false ∧ ∃ ρ2, g ρ1 = .ok (.nx ρ2) ∧ Inv ρ2))) →
    ∃ ρ', Inv ρ' ∧ loop b g ds ρ = .ok (match ds.find? p with | some d => .ret (r d) | none => .nx ρ')
  | [], ρ, i, _ => ⟨ρ, i, rfl⟩
  | d :: ds, ρ, i, h => by
    obtain ⟨ρ1, h1, h2⟩ := h ρ i d (List.mem_cons_self ..)
    rcases h2 with ⟨hp, h2⟩ | ⟨hp, ρ2, h2, i2⟩
    · refine ⟨ρ, i, ?_⟩
      rw [loop_cons, h1, loopB_some, h2, M.ok_bind, loopK_ret]
      simp [List.find?_cons, hp]
    · obtain ⟨ρ', i3, h3⟩ := loop_inv p r Inv ds ρ2 i2 fun ρ i x hx => h ρ i x (List.mem_cons_of_mem _ hx)
      refine ⟨ρ', i3, ?_⟩
      rw [loop_cons, h1, loopB_some, h2, M.ok_bind, loopK_nx, h3]
      simp [List.find?_cons, hp]
theorem noLs_pairs {m : Int} : ∀ {xs : List D}, (∀ x ∈ xs, isPr m x = true) → noLs xs = true
  | [], _ => by simp
  | x :: xs, h => by
    obtain ⟨i, j, rfl, _⟩ := isPr_iff.mp (h x (List.mem_cons_self ..))
    rw [noLs_cons, noLs_pairs fun y hy => h y (List.mem_cons_of_mem _ hy)]
    simp
end DL

namespace DL
open PySem (PyData Addr Str)
/-! ## draws -/
theorem dPot_e {b : Int} (h : 0 < b) (h' : b < 1000000000000) : dPot [.pot, .dat (.int b)] = .pick b.toNat fun r => .ok (.dat (.int r)) := by
  refine if_pos ⟨h, ?_⟩
  have h2 : b.natAbs < 2 ^ 41 := by
    have : (2 : Nat) ^ 41 = 2199023255552 := by decide
    omega
  by_cases h0 : b.natAbs = 0
  · rw [h0]; decide
  · have := (Nat.log2_lt h0).mpr h2
    omega
/-- a def's promise, kept from being reckoned -/
structure Pst {α : Type} (m : M α) (R : α → Prop) : Prop where
  run : m.post R (fun _ => False)
theorem post_use {α : Type} {m : M α} {R Q : α → Prop} {E : Ex → Prop} (h : Pst m R) (h2 : ∀ a, R a → Q a) : m.post Q E := M.post_mono h.run h2 fun _ z => z.elim
theorem lcK_pst {vs : List Nat} {t : En → M Bool} {ρ : En} {ds : List D} {b : D → En → Option En} {el : En → M Wv} {P : Wv → Prop} (I : List D → List D → Prop) (hz : ds.length ≤ 1000000) (h0 : I ds []) (h1 : ∀ acc, I [] acc → P (.own acc))
    (h : ∀ d ds acc, I (d :: ds) acc → ∃ ρ1, b d (wipeE ρ vs) = some ρ1 ∧ (t ρ1).post (fun k => if k = true then (el ρ1).post (fun w => ∃ y, w.d = .ok y ∧ I ds (acc ++ [y])) (fun _ => False) else I ds acc) (fun _ => False)) : Pst (lcK vs b t el ρ ds) P := ⟨lcK_post I hz h0 h1 h⟩
theorem loop_pst {b : D → En → Option En} {g : En → M Fl} {P : Fl → Prop} (I : List D → En → Prop) {ds : List D} {ρ : En} (h : I ds ρ) (h0 : ∀ ρ, I [] ρ → P (.nx ρ))
    (hs : ∀ d ds ρ, I (d :: ds) ρ → ∃ ρ1, b d ρ = some ρ1 ∧ (g ρ1).post (fun fl => match fl with | .nx ρ2 => I ds ρ2 | .cont ρ2 => I ds ρ2 | .brk ρ2 => P (.nx ρ2) | .ret w => P (.ret w)) (fun _ => False)) : Pst (loop b g ds ρ) P := ⟨loop_post I ds ρ h h0 hs⟩
theorem post_seq {g g' : En → M Fl} {ρ : En} {Q : Fl → Prop} {E : Ex → Prop} (R : En → Prop) (h : (g ρ).post (fun fl => match fl with | .nx ρ' => R ρ' | fl => Q fl) E) (h' : ∀ ρ', R ρ' → (g' ρ').post Q E) : (seq g g' ρ).post Q E := by
  rw [seq_e]
  refine M.post_bind.mpr (M.post_mono h (fun fl z => ?_) fun _ z => z)
  cases fl with
  | nx ρ' => exact h' ρ' z
  | ret w => exact z
  | brk _ => exact z
  | cont _ => exact z
theorem post_asg {m : List Nat} {i : Nat} {f : En → M Wv} {ρ : En} {Q : Fl → Prop} {E : Ex → Prop} (h : (f (frz m ρ)).post (fun w => Q (.nx (sel w.still (ρ.set i (some w)) ((frz m ρ).set i (some w))))) E) : (asg m i f ρ).post Q E := by
  rw [asg_e]
  refine M.post_bind.mpr (M.post_mono h (fun w z => ?_) fun _ z => z)
  rw [asgK_e]
  exact z
theorem post_rtn {m : List Nat} {f : En → M Wv} {ρ : En} {Q : Fl → Prop} {E : Ex → Prop} (h : (f (frz m ρ)).post (fun w => Q (.ret w)) E) : (rtn m f ρ).post Q E := by
  rw [rtn_e]
  exact M.post_bind.mpr h
theorem post_for {m : List Nat} {src : En → M (List D)} {b : D → En → Option En} {g : En → M Fl} {ρ : En} {ds : List D} {P : Fl → Prop} {E : Ex → Prop} (hs : src (frz m ρ) = .ok ds) (I : List D → En → Prop) (h : I ds (frz m ρ)) (h0 : ∀ ρ, I [] ρ → P (.nx ρ))
    (ht : ∀ d ds ρ, I (d :: ds) ρ → ∃ ρ1, b d ρ = some ρ1 ∧ (g ρ1).post (fun fl => match fl with | .nx ρ2 => I ds ρ2 | .cont ρ2 => I ds ρ2 | .brk ρ2 => P (.nx ρ2) | .ret w => P (.ret w)) E) : (forS m src b g ρ).post P E := by
  rw [forS_e, hs, M.ok_bind, forK_e]
  exact loop_post I ds _ h h0 ht
theorem post_ifs {m : List Nat} {t : En → M Bool} {g g' : En → M Fl} {ρ : En} {Q : Fl → Prop} {E : Ex → Prop} (h : (t (frz m ρ)).post (fun b => if b = true then (g ρ).post Q E else (g' ρ).post Q E) E) : (ifs m t g g' ρ).post Q E := by
  rw [ifs_e]
  refine M.post_bind.mpr (M.post_mono h (fun b z => ?_) fun _ z => z)
  cases b with
  | true => rw [if_pos rfl] at z; exact z
  | false => rw [if_neg Bool.false_ne_true] at z; exact z
theorem post_body {N : Nat} {g : En → M Fl} {ws : List Wv} {Q : Wv → Prop} {E : Ex → Prop} (h : (g (startE N ws)).post (fun fl => match fl with | .ret w => Q w | .nx _ => Q (.dat .none) | _ => False) E) : (body N g ws).post Q E := by
  rw [body_e]
  refine M.post_bind.mpr (M.post_mono h (fun fl z => ?_) fun _ z => z)
  cases fl <;> exact z
theorem post_pick' {α : Type} {n : Nat} {k : Nat → M α} {Q : α → Prop} {E : Ex → Prop} (h : ∀ i, i < n → (k i).post Q E) : (M.pick n k).post Q E := h
/-! ## data of a bounded form: lists within lists, so many at each depth; what is shown of them is short -/
def sc : D → Bool
  | .none => true
  | .bool _ => true
  | .int i => decide (i.natAbs ≤ 1000000)
  | .str s => decide ((PySem.PyData.shown (.str s)).length ≤ 10)
  | _ => false
def fnB : List Nat → D → Bool
  | [], d => sc d
  | n :: ns, d => sc d || match d with
    | .dict kvs => kvs.isEmpty
    | .list xs => decide (xs.length ≤ n) && xs.all (fnB ns)
    | .tuple xs => decide (xs.length ≤ n) && xs.all (fnB ns)
    | _ => false
theorem fn_sc {ns : List Nat} {d : D} (h : sc d = true) : fnB ns d = true := by
  cases ns <;> simp [fnB, h]
theorem fn_tuple {n : Nat} {ns : List Nat} {xs : List D} : fnB (n :: ns) (.tuple xs) = true ↔ xs.length ≤ n ∧ ∀ x ∈ xs, fnB ns x = true := by
  simp [fnB, sc]
theorem fn_list {n : Nat} {ns : List Nat} {xs : List D} : fnB (n :: ns) (.list xs) = true ↔ xs.length ≤ n ∧ ∀ x ∈ xs, fnB ns x = true := by
  simp [fnB, sc]
def leL : List Nat → List Nat → Bool
  | [], _ => true
  | a :: as, b :: bs => decide (a ≤ b) && leL as bs
  | _ :: _, [] => false
theorem fn_mono : ∀ {ns ms : List Nat} {d : D}, leL ns ms = true → fnB ns d = true → fnB ms d = true
  | [], _, _, _, h => fn_sc h
  | n :: ns, [], _, l, _ => by cases l
  | n :: ns, m :: ms, d, l, h => by
    simp only [leL, Bool.and_eq_true, decide_eq_true_eq] at l
    cases d with
    | tuple xs =>
      obtain ⟨h1, h2⟩ := fn_tuple.mp h
      exact fn_tuple.mpr ⟨by omega, fun x hx => fn_mono l.2 (h2 x hx)⟩
    | list xs =>
      obtain ⟨h1, h2⟩ := fn_list.mp h
      exact fn_list.mpr ⟨by omega, fun x hx => fn_mono l.2 (h2 x hx)⟩
    | dict kvs => simpa [fnB, sc] using h
    | none => exact fn_sc rfl
    | bool b => exact fn_sc rfl
    | int i => exact fn_sc (by simpa [fnB] using h)
    | str s => exact fn_sc (by simpa [fnB] using h)
def wB : List Nat → Nat
  | [] => 10
  | n :: ns => 10 + n * (wB ns + 2)
theorem sum_le {xs : List Nat} {k : Nat} (h : ∀ x ∈ xs, x ≤ k) : xs.sum ≤ xs.length * k := by
  induction xs with
  | nil => simp
  | cons x xs ih =>
    have := ih fun y hy => h y (List.mem_cons_of_mem _ hy)
    have := h x (List.mem_cons_self ..)
    simp only [List.sum_cons, List.length_cons, Nat.succ_mul]
    omega
theorem shown_sc {d : D} (h : sc d = true) : (PySem.PyData.shown d).length ≤ 10 := by
  cases d with
  | none => decide
  | bool b => cases b <;> decide
  | int i =>
    have h' : i.natAbs ≤ 1000000 := by simpa [sc] using h
    have := PySem.int_text_length_le10 (a := i) (k := 7) (by decide) (by
      have : (10 : Nat) ^ 7 = 10000000 := by decide
      omega)
    have e : PySem.PyData.shown (.int i) = Str.ofString (toString i) := by simp [PySem.PyData.shown]
    rw [e, PySem.ofString_length]
    omega
  | str s => simpa [sc] using h
  | _ => cases h
theorem shownAll_len : ∀ xs : List D, (PySem.PyData.shownAll xs).map (·.length) = xs.map fun d => (PySem.PyData.shown d).length
  | [] => rfl
  | x :: xs => by
    unfold PySem.PyData.shownAll
    simp only [List.map_cons]
    rw [shownAll_len xs]
theorem shown_le : ∀ {ns : List Nat} {d : D}, fnB ns d = true → (PySem.PyData.shown d).length ≤ wB ns
  | [], d, h => shown_sc h
  | n :: ns, d, h => by
    have seq : ∀ xs : List D, xs.length ≤ n → (∀ x ∈ xs, fnB ns x = true) → ((PySem.PyData.shownAll xs).map (·.length)).sum + 2 * (PySem.PyData.shownAll xs).length + 3 ≤ wB (n :: ns) := by
      intro xs h1 h2
      have e : (PySem.PyData.shownAll xs).length = xs.length := by
        have := congrArg List.length (shownAll_len xs)
        simpa using this
      rw [shownAll_len, e]
      have s := sum_le (xs := xs.map fun d => (PySem.PyData.shown d).length) (k := wB ns) fun y hy => by
        obtain ⟨x, hx, rfl⟩ := List.mem_map.mp hy
        exact shown_le (h2 x hx)
      rw [List.length_map] at s
      have := Nat.mul_le_mul_right (wB ns + 2) h1
      unfold wB
      rw [Nat.mul_add] at this
      omega
    cases d with
    | tuple xs =>
      obtain ⟨h1, h2⟩ := fn_tuple.mp h
      exact Nat.le_trans (by unfold PySem.PyData.shown; exact PySem.tupleText_len_le _) (seq xs h1 h2)
    | list xs =>
      obtain ⟨h1, h2⟩ := fn_list.mp h
      exact Nat.le_trans (by unfold PySem.PyData.shown; exact PySem.listText_len_le _) (seq xs h1 h2)
    | dict kvs =>
      have : kvs = [] := by simpa [fnB, sc] using h
      subst this
      have : (PySem.PyData.shown (.dict [])).length ≤ 10 := by decide
      unfold wB
      omega
    | none => have := shown_sc (d := .none) rfl; unfold wB; omega
    | bool b => have := shown_sc (d := .bool b) rfl; unfold wB; omega
    | int i => have := shown_sc (d := .int i) (by simpa [fnB] using h); unfold wB; omega
    | str s => have := shown_sc (d := .str s) (by simpa [fnB] using h); unfold wB; omega
theorem showable_fn : ∀ {ns : List Nat} {d : D}, fnB ns d = true → d.showable = true
  | ns, .none, _ => by simp [PyData.showable]
  | ns, .bool b, _ => by simp [PyData.showable]
  | ns, .str s, _ => by simp [PyData.showable]
  | ns, .int i, h => by
    have h' : i.natAbs ≤ 1000000 := by cases ns <;> simpa [fnB, sc] using h
    unfold PyData.showable
    rw [decide_eq_true_eq]
    by_cases h0 : i.natAbs = 0
    · rw [h0]; decide
    · have := (Nat.log2_lt (k := 20) h0).mpr (by
        have : (2 : Nat) ^ 20 = 1048576 := by decide
        omega)
      omega
  | [], .tuple xs, h => by cases h
  | [], .list xs, h => by cases h
  | [], .dict kvs, h => by cases h
  | n :: ns, .dict kvs, h => by
    have : kvs = [] := by simpa [fnB, sc] using h
    subst this
    rfl
  | n :: ns, .tuple xs, h => by
    obtain ⟨_, h2⟩ := fn_tuple.mp h
    unfold PyData.showable
    exact all h2
  | n :: ns, .list xs, h => by
    obtain ⟨_, h2⟩ := fn_list.mp h
    unfold PyData.showable
    exact all h2
where
  all {ns : List Nat} : ∀ {xs : List D}, (∀ x ∈ xs, fnB ns x = true) → PyData.showableAll xs = true
    | [], _ => by simp [PyData.showableAll]
    | x :: xs, h => by
      unfold PyData.showableAll
      rw [showable_fn (h x (List.mem_cons_self ..)), all fun y hy => h y (List.mem_cons_of_mem _ hy)]
      rfl
theorem depth_fn : ∀ {ns : List Nat} {d : D}, fnB ns d = true → d.depth ≤ ns.length + 1
  | ns, .none, _ => by simp [PyData.depth]
  | ns, .bool b, _ => by simp [PyData.depth]
  | ns, .str s, _ => by simp [PyData.depth]
  | ns, .int i, _ => by simp [PyData.depth]
  | [], .tuple xs, h => by cases h
  | [], .list xs, h => by cases h
  | [], .dict kvs, h => by cases h
  | n :: ns, .dict kvs, h => by
    have : kvs = [] := by simpa [fnB, sc] using h
    subst this
    simp [PyData.depth, PyData.depthKv]
  | n :: ns, .tuple xs, h => by
    obtain ⟨_, h2⟩ := fn_tuple.mp h
    have := all h2
    unfold PyData.depth
    simp only [List.length_cons]
    omega
  | n :: ns, .list xs, h => by
    obtain ⟨_, h2⟩ := fn_list.mp h
    have := all h2
    unfold PyData.depth
    simp only [List.length_cons]
    omega
where
  all {ns : List Nat} : ∀ {xs : List D}, (∀ x ∈ xs, fnB ns x = true) → PyData.depthAll xs ≤ ns.length + 1
    | [], _ => by simp [PyData.depthAll]
    | x :: xs, h => by
      have h1 := depth_fn (h x (List.mem_cons_self ..))
      have h2 := all fun y hy => h y (List.mem_cons_of_mem _ hy)
      unfold PyData.depthAll
      omega
theorem vRepr_fn {ns : List Nat} {d : D} (h : fnB ns d = true) (hl : ns.length < 60 := by decide) (hw : wB ns ≤ 1000000 := by decide) : vRepr d = .ok (.dat (.str d.shown)) := by
  unfold vRepr
  have h1 := showable_fn h
  have h2 := depth_fn h
  have h3 := shown_le h
  rw [if_pos (by rw [h1, Bool.true_and, decide_eq_true_eq]; omega), small_of (by omega)]
theorem sz_fn : ∀ {ns : List Nat} {d : D} (k : Nat), fnB ns d = true → (∀ n ∈ ns, n ≤ 1000000) → Sz k d
  | _, _, 0, _, _ => trivial
  | [], d, k + 1, h, _ => by
    cases d with
    | tuple xs => cases h
    | _ => exact ⟨by simp [itm], by simp [itm]⟩
  | n :: ns, d, k + 1, h, hn => by
    cases d with
    | tuple xs =>
      obtain ⟨h1, h2⟩ := fn_tuple.mp h
      exact ⟨Nat.le_trans h1 (hn n (List.mem_cons_self ..)), fun x hx => sz_fn k (h2 x hx) fun m hm => hn m (List.mem_cons_of_mem _ hm)⟩
    | _ => exact ⟨by simp [itm], by simp [itm]⟩
theorem vEq_refl_str {x : Str} : vEq (.str x) (.str x) = .ok true := by
  unfold vEq
  have e : PyData.eqv (.str x) (.str x) = true := by simp [PyData.eqv]
  rw [e]
  rfl
theorem vMul_one {d : D} {n : Nat} (h : 1 ≤ n ∧ n ≤ 1000) : vMul (.tuple [d]) (.int (n : Int)) = .ok (.dat (.tuple (List.replicate n d))) := by
  have e1 : vMul (.tuple [d]) (.int (n : Int)) = .ok (.dat (.tuple (List.replicate ((n : Int)).toNat [d]).flatten)) := if_pos ⟨by omega, by omega, by simp⟩
  rw [e1, Int.toNat_natCast]
  congr 3
  induction n with
  | zero => rfl
  | succ n ih =>
    cases n with
    | zero => rfl
    | succ n =>
      rw [List.replicate_succ, List.flatten_cons, ih ⟨by omega, by omega⟩ (if_pos ⟨by omega, by omega, by simp⟩), List.replicate_succ (n := n + 1)]
      rfl
end DL

namespace DL
open PySem PySem.Spec PyProof.Rows L2 SeqAt HT StX
/-! ## *e among displayed items, arguments -/
def starK (ds : List D) (us : List Wv) : M (List Wv) := .ok (ds.map Wv.dat ++ us)
def starL (fs : En → M (List Wv)) (ρ : En) (ds : List D) : M (List Wv) := fs ρ >>= starK ds
def starI : D → M (List D)
  | .list xs => .ok xs
  | .tuple xs => .ok xs
  | _ => .bad
def starW (fs : En → M (List Wv)) (ρ : En) (d : D) : M (List Wv) := starI d >>= starL fs ρ
def starU (fs : En → M (List Wv)) (ρ : En) (u : Wv) : M (List Wv) := u.give.d >>= starW fs ρ
def astar (f : En → M Wv) (fs : En → M (List Wv)) (ρ : En) : M (List Wv) := f ρ >>= starU fs ρ
theorem DRs.gvs {K : PySem.W.Frag} {pi : Pot} {F : Hp} {vs : List V} {ds : List D} (h : DRs K F vs ds) {ws : List V} {us : List Wv} (g : Gvs K pi F ws us) : Gvs K pi F (vs ++ ws) (ds.map Wv.dat ++ us) := by
  induction ds generalizing vs with
  | nil => cases h; exact g
  | cons d ds ih =>
    cases h with
    | cons h1 h2 => exact .cons h1 (ih h2)
section
variable {X : Cx} {c : Act} {Wx : WX} {e : Expr} {es : List Expr} {f : En → M Wv} {fs : En → M (List Wv)} {p : Pos}
theorem da_star (ha : DE X c Wx e f) (hr : DA X c Wx es fs) (hs : starEach (.Starred e p :: es) X.env = (true, eval e X.env) :: starEach es X.env := by rfl) : DA X c Wx (.Starred e p :: es) (astar f fs) :=
  PA.imp (pa_star ha hr hs) fun σ H Q ⟨F, ρ, I, q⟩ => ev_split I q fun u x H1 F1 I1 s1 g1 p1 => by
    obtain ⟨d, _, hd, p1⟩ := gd g1 p1
    have fin : ∀ {xs : List V} {ds : List D}, DRs X.K F1 xs ds → Pend X.K X.mg c Wx σ H1 F1 (starL fs ρ ds) (fun us H' F' => ∀ vs, Gvs X.K c.pi F' vs us → Q vs H') → EvA X.K X.mg c Wx fs σ H1 fun ys H2 => Q (xs ++ ys) H2 := fun {xs ds} r p2 =>
      ea_split I1 p2 fun us ys H2 F2 I2 s2 g2 p3 => p3 H2 F2 (step_refl I2) _ ((r.mono s2.mono).gvs g2)
    unfold starW starI at p1
    split at p1
    · cases hd with
      | lst s r => exact ⟨_, _, rfl, .inr (SqL.of (I1.le _ _ s)), fin r p1⟩
    · cases hd with
      | tup s r => exact ⟨_, _, rfl, .inl (sq_mono_t I1.le s), fin r p1⟩
    · exact p1.elim
end
end DL

namespace DL
open PySem PySem.Spec PyProof.Rows L2 SeqAt HT
/-! ## sorted(xs) of a list of alike data -/
def srt (ds : List D) : List D := ds.mergeSort (PySem.W.dataLe false id)
def rSortD (K : PySem.W.Frag) : List V → Hp → VK → Prop := fun xs H Q => ∃ F x ds, xs = [x] ∧ Same F H ∧ DR K F x (.list ds) ∧ PySem.W.AllAlike ds ∧ PySem.W.Sortable ds ∧ (∀ d ∈ ds, d.depth ≤ 60) ∧ ds.length ≤ sizeLine ∧
  ∀ p ys, H p = none → DRs K F ys (srt ds) → Q (.ref p) (upd H p (.lst ys))
theorem each_zip {K : PySem.W.Frag} {F : Hp} : ∀ {vs : List V} {us : List Value} {ds : List D}, Vals vs us → DRs K F vs ds → PySem.W.EachIs (fun (u : Value) (b : V × D) => RelV b.1 u ∧ DR K F b.1 b.2) us (vs.zip ds)
  | _, _, _, .nil, .nil => .nil
  | _, _, _, .cons r rs, .cons h hs => .cons ⟨r, h⟩ (each_zip rs hs)
theorem zip_fst {K : PySem.W.Frag} {F : Hp} : ∀ {vs : List V} {ds : List D}, DRs K F vs ds → (vs.zip ds).map (·.2) = ds
  | _, _, .nil => rfl
  | _, _, .cons _ hs => by simp [zip_fst hs]
theorem each_back {K : PySem.W.Frag} {F : Hp} : ∀ {us : List Value} {bs : List (V × D)}, PySem.W.EachIs (fun (u : Value) (b : V × D) => RelV b.1 u ∧ DR K F b.1 b.2) us bs → Vals (bs.map (·.1)) us ∧ DRs K F (bs.map (·.1)) (bs.map (·.2))
  | _, _, .nil => ⟨.nil, .nil⟩
  | _, _, .cons ⟨h1, h2⟩ hs => ⟨.cons h1 (each_back hs).1, .cons h2 (each_back hs).2⟩
theorem cr_sortD {X : Cx} (hu : X.A.units + 65 < cLine) : CallR X (.builtin "sorted") (rSortD X.K) := by
  intro pins s σ H xs us Q I r h
  obtain ⟨F, x, ds, rfl, l, hd, al, so, dp, sz, q⟩ := h
  obtain ⟨u, rfl, ru⟩ := vals1 r
  cases hd with
  | lst hF hs =>
    rename_i a vs
    obtain rfl : u = Value.ref a := ru
    obtain ⟨its, rv, pl, hz⟩ := I.list (SqL.of (l _ _ hF))
    have e := each_zip rv hs
    have em : (vs.zip ds).map (fun b => b.2) = ds := zip_fst hs
    have lz : (vs.zip ds).length = ds.length := by
      have := congrArg List.length em
      rw [List.length_map] at this
      exact this
    have er : PySem.W.EachIs (fun (u : Value) (b : V × D) => ∃ as, Reads s.heap u b.2 as) its (vs.zip ds) := e.mono fun u b ⟨h1, h2⟩ => by
      obtain ⟨as, r1, _⟩ := DR.reads I l h2 u h1
      exact ⟨as, r1⟩
    have dz : ∀ b ∈ vs.zip ds, X.A.units + 2 + PyData.depth b.2 < cLine := fun b hb => by
      have := dp b.2 (by rw [← em]; exact List.mem_map.mpr ⟨b, hb, rfl⟩)
      omega
    have e3 : ((vs.zip ds).mergeSort (PySem.W.dataLe false fun b : V × D => b.2)).map (fun b => b.2) = srt ds := by
      rw [List.map_mergeSort (r := PySem.W.dataLe false fun b : V × D => b.2) (s := PySem.W.dataLe false id) (f := fun b : V × D => b.2) (fun _ _ _ _ => rfl), em]
      rfl
    refine PySem.W.sorted_data (enc := fun b : V × D => b.2) pl.isList e er (by rw [em]; exact al) (by rw [em]; exact so) (by rw [lz]; exact sz) dz fun out ho hout => ?_
    obtain ⟨h1, h2⟩ := each_back hout
    rw [e3] at h2
    obtain ⟨ep, he⟩ := PyProof.Rows.sortedAll_at s.heap its out.toArray
    refine ⟨.ref _, upd H (s.heap.objs.size + 1) (.lst (((vs.zip ds).mergeSort (PySem.W.dataLe false fun b => b.2)).map (·.1))), I.laid (t' := s.toks) (fun _ _ => PyProof.Rows.sortedAll_old) (Nat.le_succ _) ⟨?_, out, ep, h1, he⟩, rfl, q _ _ (I.hok.fresh (Nat.le_succ _)) h2⟩
    rw [List.length_map, List.length_mergeSort, lz]
    exact sz
def alikes (ds : List D) : Bool := ds.all fun a => ds.all fun b => PySem.W.alike a b
def isT1 : D → Bool
  | .tuple (_ :: _) => true
  | _ => false
def isNT : D → Bool
  | .none => false
  | .tuple _ => false
  | _ => true
def canSort (ds : List D) : Bool := alikes ds && (ds.all isT1 || ds.all isNT) && ds.all fun d => decide (d.depth ≤ 60)
def vSorted : D → M Wv
  | .list ds => if canSort ds = true then small ds.length (.ok (.own (srt ds))) else .bad
  | _ => .bad
theorem ok_sorted {K : PySem.W.Frag} : CbOk K (rSortD K) (f1 vSorted) := fun pi H F xs us Q E l p gs h => by
  obtain ⟨x, d, rfl, hd, h⟩ := f1_ok gs h
  unfold vSorted at h
  split at h
  · split at h
    · rename_i hc
      obtain ⟨hz, h⟩ := small_ok h
      simp only [canSort, alikes, Bool.and_eq_true, Bool.or_eq_true, List.all_eq_true, decide_eq_true_eq] at hc
      refine ⟨F, x, _, rfl, l, hd, fun a ha b hb => hc.1.1 a ha b hb, ?_, hc.2, Nat.le_of_lt hz, fun q ys hq hy => ?_⟩
      · rcases hc.1.2 with z | z
        · refine .inl fun d hd => ?_
          have := z d hd
          unfold isT1 at this
          split at this
          · exact ⟨_, _, rfl⟩
          · cases this
        · refine .inr fun d hd => ?_
          have := z d hd
          unfold isNT at this
          split at this
          · cases this
          · cases this
          · rename_i n1 n2
            exact ⟨fun e => n1 e, fun xs e => n2 xs e⟩
      · exact Fin.lst h l p hy q hq
    · exact h.elim
  · exact h.elim
end DL

/-! ## enumerate over a tuple -/
namespace DL
open PySem PySem.Spec PyProof.Rows L2 SeqAt HT
open AutoSeq1 (wpAny_loadPart')
theorem enum_new (l : Addr) (items : Array Value) (n : Nat) (dd : Option Addr) (sl : Array (Option Value)) :
    Meets (Builtin.«enumerate.__new__» ⟨[.type "enumerate", .ref l], []⟩) (fun _ R s => s.heap.get? l = some { cls := .type "tuple", dict := dd, data := .seq items n, slots := sl } ∧
      R (.ok (.ret (.ref (s.heap.push { cls := .type "tuple_iterator", data := .fields #[.ref l, .int 0 0] }).objs.size)))
        { s with heap := (s.heap.push { cls := .type "tuple_iterator", data := .fields #[.ref l, .int 0 0] }).push { cls := .type "enumerate", data := .fields #[.none, .bool false, .ref s.heap.objs.size, rawInt 0, .none, .none] } }) :=
  .of_wp fun prog w A R s h => by
    obtain ⟨hp, g, d, tk, os⟩ := s
    obtain ⟨at_, h⟩ := h
    have su := sub_enumerate
    have tp : Heap.IsTuple (Shared.heap ⟨hp, g, d, tk, os⟩) l items := ⟨_, at_, rfl, n, rfl⟩
    wp_walk using wpAny_loadPart' at_
    refine wpAny_stack_any fun st => wpAny_pure ?_
    split
    · rename_i c _ _ _ _ _
      cases (c == Value.type "enumerate") <;> (wp_walk using wpAny_loadPart' at_, wpAny_pyIter_tuple tp; exact ⟨_, rfl, h⟩)
    · wp_walk using wpAny_loadPart' at_, wpAny_pyIter_tuple tp
      exact ⟨_, rfl, h⟩
theorem enum_tup {prog : Program} {w : World} {A : Around} {E : Value → Shared → Prop} {s : Shared} {l : Addr} {items : Array Value} {Q : Value → Shared → Prop} (tp : s.heap.IsTuple l items)
    (h : ∀ h', IsEnum h' (s.heap.objs.size + 1) s.heap.objs.size 0 .none → h'.IsTupleIter s.heap.objs.size l 0 → (∀ b o, s.heap.get? b = some o → h'.get? b = some o) → Q (.ref (s.heap.objs.size + 1)) { s with heap := h' }) :
    wpAny (model prog w) A (PySem.call (.type "enumerate") [.ref l]) Q E s := by
  obtain ⟨⟨c, dd, dt, sl⟩, at_, hc, n, hd⟩ := tp
  replace hc : c = .type "tuple" := hc
  replace hd : dt = .seq items n := hd
  subst hc hd
  refine callType_new F.called_enumerate (by decide) (F.typeCall_enumerate_1 _) (F.newCall_enumerate_1 _) (fun obj => F.args_object_init_2 obj _) F.entry_enumerate_new (enum_new l items n dd sl) ⟨at_, ?_⟩
  have sz : (s.heap.push { cls := .type "tuple_iterator", data := .fields #[.ref l, .int 0 0] }).objs.size = s.heap.objs.size + 1 := Heap.size_push ..
  show _ ∧ _
  rw [sz]
  have en : IsEnum ((s.heap.push { cls := .type "tuple_iterator", data := .fields #[.ref l, .int 0 0] }).push { cls := .type "enumerate", data := .fields #[.none, .bool false, .ref s.heap.objs.size, rawInt 0, .none, .none] }) (s.heap.objs.size + 1) s.heap.objs.size 0 .none := by
    have q := Heap.get?_push_size (s.heap.push { cls := .type "tuple_iterator", data := .fields #[.ref l, .int 0 0] }) (o := { cls := .type "enumerate", data := .fields #[.none, .bool false, .ref s.heap.objs.size, rawInt 0, .none, .none] }) rfl
    rw [sz] at q
    exact q
  exact ⟨⟨_, en, rfl⟩, h _ en ⟨_, Heap.get?_push_of_some _ (Heap.get?_push_size _ rfl), rfl, rfl⟩ fun b o x => Heap.get?_push_of_some _ (Heap.get?_push_of_some _ x)⟩
def Itu (K : PySem.W.Frag) (a : Addr) : It :=
  ⟨fun i H => ∃ (xs : List V) (x : V), SqT K H a xs ∧ xs[i]? = some x, fun i H v H' => ∃ T x, v = .ref T ∧ H T = none ∧ H' = upd H T (.tup [.int (i : Nat), x]) ∧ ∀ xs, SqT K H a xs → xs[i]? = some x, fun i H => ∃ xs : List V, SqT K H a xs ∧ xs.length ≤ i⟩
theorem tup_one {X : Cx} {pins : List (Addr × Obj)} {σ : L2.St} {H : Hp} {s : Shared} {a : Addr} {xs ys : List V} (I : Inv X pins σ H s) (h : SqT X.K H a xs) (h' : SqT X.K H a ys) : xs = ys := by
  obtain ⟨its, r, p, _⟩ := I.tuple h
  obtain ⟨its', r', p', _⟩ := I.tuple h'
  have p : s.heap.IsTuple a its.toArray := p
  have p' : s.heap.IsTuple a its'.toArray := p'
  obtain ⟨o, ho, _, n, hd⟩ := p
  obtain ⟨o', ho', _, n', hd'⟩ := p'
  rw [ho] at ho'
  cases ho'
  rw [hd] at hd'
  have e : its.toArray = its'.toArray := by injection hd'
  have e2 : its = its' := by simpa using congrArg Array.toList e
  subst e2
  exact Vals.inj r r'
theorem enum_stop {prog : Program} {w : World} {A : Around} {E : Value → Shared → Prop} {s : Shared} {e it l : Addr} {i : Nat} {its : Array Value} {old : Value} {Q : Option Value → Shared → Prop} (h0 : A.handled = none) (en : IsEnum s.heap e it i old) (ti : s.heap.IsTupleIter it l i) (tp : s.heap.IsTuple l its) (past : its[i]? = none)
    (q : ∀ h', Heap.ExtBut it s.heap h' → Q none { s with heap := h' }) : wpAny (model prog w) A (pyNext (.ref e)) Q E s := by
  have ty : s.TypeIs (.ref e) "enumerate" := ⟨_, en, rfl⟩
  unfold pyNext
  refine wpAny_bind (wpAny_attempt (wpAny_callSpecial?_slot (name := Str.ofString "__next__") ty F.slot_enumerate_next (wpAny_call_entry F.slot_enumerate_next ty F.entry_enumerate_next ?_ (F.args_enumerate_next_1 _))))
  show wpAny _ _ (field (.ref e) 2 >>= _) _ _ s
  refine wpAny_bind (wpAny_field en rfl (x := .ref it) rfl (wpAny_bind (wpAny_nextOf_tuple_end h0 ti tp past fun h' x ex hx => ?_)))
  obtain ⟨o, ho, hc⟩ := hx
  exact wpAny_bind (wpAny_isInstance (T := "StopIteration") (b := true) ⟨o, ho, hc⟩ isSubtype_stop (wpAny_pure (q _ ex)))
theorem turn_enumT {P : Program} {w : World} {K : PySem.W.Frag} {elts : List Expr} {kk : Nat} {tpos : Pos} (a e it : Addr) (hat : a ≠ it) (hea : e ≠ a) :
    Turn P w K (.Tuple elts kk tpos) (Itu K a) [e, it] e (fun i h => (∃ old, IsEnum h e it ((i : Nat) : Int) old) ∧ h.IsTupleIter it a i ∧ e ≠ it) where
  mem := by simp
  obj := fun i h st b hb => by
    obtain ⟨⟨old, he⟩, ⟨o, ho, hc, hd⟩, _⟩ := st
    have e' : b = e ∨ b = it := by simpa using hb
    rcases e' with z | z
    · subst z; exact ⟨_, he, fun v q => nomatch q⟩
    · subst z; exact ⟨o, ho, fun v q => by rw [hd] at q; cases q⟩
  keep := fun i h h' st k => by
    obtain ⟨⟨old, he⟩, hi, hne⟩ := st
    exact ⟨⟨old, k e (by simp) _ he⟩, hi.at fun o q => k it (by simp) o q, hne⟩
  item := by
    intro X hP hw hK hc i pins s σ H E I hf st hg
    subst hP hw hK
    obtain ⟨⟨old, he⟩, hit, hne⟩ := st
    obtain ⟨xs, x, hq, hx⟩ := hg
    obtain ⟨its, rv, tp, hz⟩ := I.tuple hq
    obtain ⟨u, hu, ru⟩ := rv.get hx
    have hel : e < s.heap.objs.size := Heap.lt_size he
    have hil : it < s.heap.objs.size := by obtain ⟨_, q, _⟩ := hit; exact Heap.lt_size q
    have hh : X.A.in1.handled = none := I.ok.hd hc
    have hu' : its.toArray[i]? = some u := by simpa using hu
    have hi : i < its.toArray.size := by
      by_cases z : i < its.toArray.size
      · exact z
      · rw [Array.getElem?_eq_none (Nat.le_of_not_lt z)] at hu'; cases hu'
    refine wpAny_pyNext_enum_itemC (Draws.tuple hh it a hat its.toArray) he ⟨hit, tp⟩ hi hne (by simp [hne, hea]) fun y h' tk hy ho st' hT hsz hk => ?_
    have ey : y = u := by
      have hy' : its.toArray[i]? = some y := hy
      rw [hu'] at hy'
      cases hy'
      rfl
    subst ey
    refine ⟨_, rfl, wpAny_letOwnedTupleGo_enum (s := { s with heap := h', toks := tk + 1 }) ho fun h'' he' sb => ?_⟩
    have hT2 : h''.get? s.heap.objs.size = some { cls := .type "tuple", data := .seq #[.int i tk, y] } := (sb.2 _ (Nat.ne_of_gt hel)).trans hT
    have new : ObjOk X.prog X.w (upd H s.heap.objs.size (.tup [.int (i : Nat), x])) h'' s.heap.objs.size (.tup [.int (i : Nat), x]) :=
      ⟨by show 2 ≤ sizeLine; decide, [.int i tk, y], .cons ⟨_, rfl⟩ (.cons ru .nil), ⟨_, hT2, rfl, _, rfl⟩⟩
    have I1 : Inv X pins σ (upd H s.heap.objs.size (.tup [.int (i : Nat), x])) { s with heap := h'', toks := tk + 1 } :=
      I.turnedNew (ch := [e, it]) (fun b ob hb q => (sb.2 b (fun z => hb (by simp [z]))).trans (hk b ob (fun z => hb (by simp [z])) (fun z => hb (by simp [z])) q)) hf (Nat.le_refl _) new
    refine ⟨.ref s.heap.objs.size, _, I1, rfl, ⟨_, x, rfl, I.hok.fresh (Nat.le_refl _), rfl, fun ys hy => by rw [tup_one I hy hq]; exact hx⟩, ⟨⟨y, ?_⟩, st'.1.at fun o q => (sb.2 it (Ne.symm hne)).trans q, hne⟩, fun b hb => ?_⟩
    · have e1 : ((i + 1 : Nat) : Int) = (i : Int) + 1 := by omega
      rw [e1]
      exact he'
    · have lt : b < s.heap.objs.size := by
        have e' : b = e ∨ b = it := by simpa using hb
        rcases e' with z | z
        · subst z; exact hel
        · subst z; exact hil
      rw [upd_ne (Nat.ne_of_lt lt)]
      exact (hf b hb).1
  done := by
    intro X hP hw hK hc i pins s σ H E I hf st hg
    subst hP hw hK
    obtain ⟨⟨old, he⟩, hit, hne⟩ := st
    obtain ⟨xs, hq, hx⟩ := hg
    obtain ⟨its, rv, tp, hz⟩ := I.tuple hq
    obtain ⟨f0, f1, f2, f3, f4, f5⟩ := hf it (by simp)
    have hl := rv.length
    exact enum_stop (I.ok.hd hc) he hit tp (by simp; omega) fun h' eb => ⟨rfl, I.turned (t' := s.toks) (fun b o hb q => eb b o hb q) f0 f1 f3 f4 f5⟩
  self := fun A i s Q E st h => by
    obtain ⟨⟨_, he⟩, _⟩ := st
    exact wpAny_pyIter_enum he h
def iEnumT (K : PySem.W.Frag) (ta : TA) : TI := fun σ H R => ta σ H fun vs H1 => ∃ a, vs = [.ref a] ∧ ((∃ xs, SqL K H1 a xs ∧ R (Ite K a) H1) ∨ ∃ xs, SqT K H1 a xs ∧ R (Itu K a) H1)
theorem pi_enumT {X : Cx} {e : Expr} {ta : TA} {p pos tpos : Pos} {elts : List Expr} {kk : Nat} (hg : Gl X "enumerate") (hm : X.mg "enumerate" = none) (ha : PA X [e] ta) (hs : starEach [e] X.env = [(false, eval e X.env)] := by rfl) :
    PI X (.Tuple elts kk tpos) (.Call (.Name "enumerate" p) [e] [] pos) (iEnumT X.K ta) := by
  refine ⟨fun pins s σ H R I h => Call_ (ld_blt I hg hm boot_enumerate (PyProof.Rows.callWith_type1 (thn (ha.run pos pins s σ H _ I h) fun us s1 ⟨vs, H1, I1, r1, q1⟩ => ?_) hs rfl))⟩
  obtain ⟨a, ex, q1⟩ := q1
  subst ex
  cases r1 with
  | cons r rr =>
    cases rr
    cases r
    have big : ∀ {b : Addr}, b ∈ [s1.heap.objs.size + 1, s1.heap.objs.size] → s1.heap.objs.size ≤ b := fun {b} hb => by
      rcases (show b = s1.heap.objs.size + 1 ∨ b = s1.heap.objs.size by simpa using hb) with z | z
      · rw [z]; exact Nat.le_succ _
      · rw [z]; exact Nat.le_refl _
    rcases q1 with ⟨xs, hq, q⟩ | ⟨xs, hq, q⟩
    · obtain ⟨its, rv, pl, hz⟩ := I1.list hq
      refine call_enumerate_list pl.isList fun h' he hit hsz hk => wpAny_pyIter_enum he ?_
      exact ⟨s1.heap.objs.size + 1, [s1.heap.objs.size + 1, s1.heap.objs.size], _, _, H1, rfl, I1.kept (t' := s1.toks) hk, turn_enum a (s1.heap.objs.size + 1) s1.heap.objs.size, ⟨⟨.none, he⟩, hit, Nat.succ_ne_self _⟩, fun b hb => I1.fpOk (big hb) (I1.hok.fresh (big hb)), q⟩
    · obtain ⟨its, rv, tp, hz⟩ := I1.tuple hq
      have lt : a < s1.heap.objs.size := by
        have tp : s1.heap.IsTuple a its.toArray := tp
        obtain ⟨o, ho, _⟩ := tp
        exact Heap.lt_size ho
      refine enum_tup tp fun h' he hit hk => wpAny_pyIter_enum he ?_
      exact ⟨s1.heap.objs.size + 1, [s1.heap.objs.size + 1, s1.heap.objs.size], _, _, H1, rfl, I1.kept (t' := s1.toks) hk, turn_enumT a (s1.heap.objs.size + 1) s1.heap.objs.size (Nat.ne_of_lt lt) (Nat.ne_of_gt (Nat.lt_succ_of_lt lt)), ⟨⟨.none, he⟩, hit, Nat.succ_ne_self _⟩, fun b hb => I1.fpOk (big hb) (I1.hok.fresh (big hb)), q⟩
section
variable {K : PySem.W.Frag} {pi : Pot} {F : Hp}
theorem src_enumT {a : Addr} {vs : List V} {ds : List D} (h : SqT K F a vs) (r : DRs K F vs ds) : SrcOk K pi (Itu K a) F (enumD 0 ds) := fun i H' F' m l p => by
  have hs : SqT K H' a vs := sq_mono_t l (sq_mono_t m h)
  refine ⟨fun d e => ?_, fun e => ⟨vs, hs, by rw [r.length, e, enumD_length]; exact Nat.le_refl _⟩⟩
  rw [enumD_at] at e
  cases q : ds[i]? with
  | none => rw [q] at e; cases e
  | some d1 =>
    rw [q] at e
    cases e
    obtain ⟨v, hv, hd⟩ := r.get q
    refine ⟨⟨vs, v, hs, hv⟩, ?_⟩
    rintro x H'' ⟨T, x1, rfl, hT, rfl, y⟩
    have e2 := y vs hs
    rw [hv] at e2
    cases e2
    have e3 : ((0 + i : Nat) : Int) = (i : Int) := by omega
    rw [e3]
    exact lay2 l p hT (.int _) (hd.mono m)
end
def asSeq : D → M (List D)
  | .list xs => .ok xs
  | .tuple xs => .ok xs
  | _ => .bad
def enumL2 (xs : List D) : M (List D) := .ok (enumD 0 xs)
def enumV2 (d : D) : M (List D) := asSeq d >>= enumL2
def enumW2 (u : Wv) : M (List D) := u.give.d >>= enumV2
def sEnumT (f : En → M Wv) (ρ : En) : M (List D) := f ρ >>= enumW2
theorem di_enumT {X : Cx} {c : Act} {Wx : WX} {e : Expr} {f : En → M Wv} {pos p' tpos : Pos} {elts : List Expr} {kk : Nat} (hg : Gl X "enumerate") (hm : X.mg "enumerate" = none) (he : DE X c Wx e f) (hs : starEach [e] X.env = [(false, eval e X.env)] := by rfl) : DI X c Wx (.Tuple elts kk tpos) (.Call (.Name "enumerate" p') [e] [] pos) (sEnumT f) :=
  PI.imp (pi_enumT hg hm (pa_cons he pa_nil (by rw [hs]; rfl)) hs) fun σ H R ⟨F, ρ, I, q⟩ => ev_split I q fun u x H1 F1 I1 s1 g1 p1 => by
    obtain ⟨d, _, hd, p1⟩ := gd g1 p1
    unfold enumV2 asSeq at p1
    split at p1
    · cases hd with
      | lst s r => exact ⟨_, rfl, .inl ⟨_, SqL.of (I1.le _ _ s), p1 H1 F1 (step_refl I1) _ (src_enum s r)⟩⟩
    · cases hd with
      | tup s r => exact ⟨_, rfl, .inr ⟨_, sq_mono_t I1.le s, p1 H1 F1 (step_refl I1) _ (src_enumT s r)⟩⟩
    · exact p1.elim
end DL

namespace DL
open PySem PySem.Spec PyProof.Rows L2 SeqAt HT
section
variable {X : Cx} {c : Act} {Wx : WX} {a : Expr} {es : List Expr} {fs : En → M (List Wv)} {pos p : Pos} {k : Nat}
theorem dc_sorted (r : Room k X.A) (hm : X.mg "sorted" = none) (hg : Gl X "sorted") (ha : DA X c Wx (a :: es) fs) (he : starEach (a :: es) X.env = (false, eval a X.env) :: starEach es X.env := by rfl) (hpl : (backTo pos (starEach es X.env)).any (·.1) = false := by rfl) : DE X c Wx (.Call (.Name "sorted" p) (a :: es) [] pos) (call (f1 vSorted) fs) :=
  de_callB (cr_sortD (Room.u65 r)) ok_sorted hg hm boot_sorted ha (by decide) (by decide) he hpl
/-! max, min of a list of ints -/
def topOf : List Int → Int
  | [] => 0
  | n :: ns => ns.foldl (fun a b => if b > a then b else a) n
def lowOf : List Int → Int
  | [] => 0
  | n :: ns => ns.foldl (fun a b => if b < a then b else a) n
theorem top_fold : ∀ (ns : List Int) (n : Int), (ns.foldl (fun a b => if b > a then b else a) n ∈ n :: ns) ∧ ∀ y ∈ n :: ns, y ≤ ns.foldl (fun a b => if b > a then b else a) n
  | [], n => ⟨by simp, by simp⟩
  | m :: ns, n => by
    obtain ⟨h1, h2⟩ := top_fold ns (if m > n then m else n)
    refine ⟨?_, fun y hy => ?_⟩
    · rcases List.mem_cons.mp h1 with h | h
      · rw [List.foldl_cons, h]
        split <;> simp
      · exact List.mem_cons_of_mem _ (List.mem_cons_of_mem _ h)
    · rw [List.foldl_cons]
      have h3 := h2 _ (List.mem_cons_self ..)
      rcases List.mem_cons.mp hy with rfl | hy
      · split at h3 <;> split <;> omega
      · rcases List.mem_cons.mp hy with rfl | hy
        · split at h3 <;> split <;> omega
        · exact h2 y (List.mem_cons_of_mem _ hy)
theorem low_fold : ∀ (ns : List Int) (n : Int), (ns.foldl (fun a b => if b < a then b else a) n ∈ n :: ns) ∧ ∀ y ∈ n :: ns, ns.foldl (fun a b => if b < a then b else a) n ≤ y
  | [], n => ⟨by simp, by simp⟩
  | m :: ns, n => by
    obtain ⟨h1, h2⟩ := low_fold ns (if m < n then m else n)
    refine ⟨?_, fun y hy => ?_⟩
    · rcases List.mem_cons.mp h1 with h | h
      · rw [List.foldl_cons, h]
        split <;> simp
      · exact List.mem_cons_of_mem _ (List.mem_cons_of_mem _ h)
    · rw [List.foldl_cons]
      have h3 := h2 _ (List.mem_cons_self ..)
      rcases List.mem_cons.mp hy with rfl | hy
      · split at h3 <;> split <;> omega
      · rcases List.mem_cons.mp hy with rfl | hy
        · split at h3 <;> split <;> omega
        · exact h2 y (List.mem_cons_of_mem _ hy)
def vTop (pickOf : List Int → Int) : D → M Wv
  | .list ds => (match intsO ds with | some (n :: ns) => .ok (.dat (.int (pickOf (n :: ns)))) | _ => .bad)
  | _ => .bad
theorem ok_top {K : PySem.W.Frag} : CbOk K (rMax K) (f1 (vTop topOf)) := fun pi H F xs us Q E l p gs h => by
  obtain ⟨x, d, rfl, hd, h⟩ := f1_ok gs h
  unfold vTop at h
  split at h
  · split at h
    · rename_i n ns e
      cases hd with
      | lst s r =>
        have ev := intsO_ok r e
        subst ev
        obtain ⟨t1, t2⟩ := top_fold ns n
        refine ⟨_, n :: ns, rfl, SqL.of (l _ _ s), by simp, fun m hm hle => ?_⟩
        have e2 : m = topOf (n :: ns) := Int.le_antisymm (t2 m hm) (hle _ t1)
        rw [e2]
        exact Fin.val h l p (.int _)
    · exact h.elim
  · exact h.elim
theorem ok_low {K : PySem.W.Frag} : CbOk K (rMin K) (f1 (vTop lowOf)) := fun pi H F xs us Q E l p gs h => by
  obtain ⟨x, d, rfl, hd, h⟩ := f1_ok gs h
  unfold vTop at h
  split at h
  · split at h
    · rename_i n ns e
      cases hd with
      | lst s r =>
        have ev := intsO_ok r e
        subst ev
        obtain ⟨t1, t2⟩ := low_fold ns n
        refine ⟨_, n :: ns, rfl, SqL.of (l _ _ s), by simp, fun m hm hle => ?_⟩
        have e2 : m = lowOf (n :: ns) := Int.le_antisymm (hle _ t1) (t2 m hm)
        rw [e2]
        exact Fin.val h l p (.int _)
    · exact h.elim
  · exact h.elim
theorem dc_maxL (hc : X.calm = true) (hm : X.mg "max" = none) (hg : Gl X "max") (ha : DA X c Wx (a :: es) fs) (he : starEach (a :: es) X.env = (false, eval a X.env) :: starEach es X.env := by rfl) (hpl : (backTo pos (starEach es X.env)).any (·.1) = false := by rfl) : DE X c Wx (.Call (.Name "max" p) (a :: es) [] pos) (call (f1 (vTop topOf)) fs) :=
  de_callB (cr_max hc) ok_top hg hm boot_max ha (by decide) (by decide) he hpl
theorem dc_minL (hc : X.calm = true) (hm : X.mg "min" = none) (hg : Gl X "min") (ha : DA X c Wx (a :: es) fs) (he : starEach (a :: es) X.env = (false, eval a X.env) :: starEach es X.env := by rfl) (hpl : (backTo pos (starEach es X.env)).any (·.1) = false := by rfl) : DE X c Wx (.Call (.Name "min" p) (a :: es) [] pos) (call (f1 (vTop lowOf)) fs) :=
  de_callB (cr_min hc) ok_low hg hm boot_min ha (by decide) (by decide) he hpl
end
end DL

namespace DL
open PySem PySem.Spec PyProof.Rows L2 SeqAt HT
/-! ## x op= e of ints -/
def rdI (ρ : En) (i : Nat) : M Int := match ρ[i]? with
  | some (some (.dat (.int a))) => .ok a
  | _ => .bad
theorem rdI_ok {α : Type} {ρ : En} {i : Nat} {k : Int → M α} {Q : α → Prop} {E : Ex → Prop} (h : (rdI ρ i >>= k).post Q E) : ∃ a, ρ[i]? = some (some (.dat (.int a))) ∧ (k a).post Q E := by
  unfold rdI at h
  split at h
  · rename_i a e
    exact ⟨a, e, h⟩
  · exact h.elim
def augI (m : List Nat) (i : Nat) (g : Int → Int → Int) (f : En → M Wv) (ρ : En) : M Fl := rdI ρ i >>= fun a => f (frz m ρ) >>= fun w => asI w >>= fun b => .ok (.nx (ρ.set i (some (.dat (.int (g a b))))))
section
variable {X : Cx} {c : Act} {Wx : WX} {e : Expr} {f : En → M Wv} {pos : Pos}
theorem ds_augI (m : List Nat) (i : Nat) (g : Int → Int → Int) {x : Str} {op : Operator} {pos' : Pos} (hN : X.N.Nodup) (hi : X.N[i]? = some x) (hx : Loc X.env.scope x) (he : DE X c Wx e f) (ho : PIp X op (ipI g)) (hf : X.fn x = true ∨ X.env.scope.names.lookup x = some .local := by first | exact .inl rfl | exact .inr rfl) :
    DS X c Wx (.AugAssign (.Name x pos') op e pos) (augI m i g f) :=
  PS.imp (ps_aug hN hi hx he ho hf) fun D σ H ⟨F, ρ, I, p⟩ => by
    obtain ⟨a, ea, p⟩ := rdI_ok p
    obtain ⟨v0, hv, hd⟩ := I.slot i _ ea
    have hd' : DR X.K F v0 (.int a) := hd
    cases hd'
    refine ⟨_, hv, ev_st (m := m) I p fun w v Fp H1 F1 mo J s r q => ?_⟩
    unfold asI at q
    split at q
    · rename_i b
      have r' : DR X.K F1 v (.int b) := r
      cases r'
      obtain ⟨L, b2, _, _⟩ := I.back mo s
      exact ⟨a, b, rfl, rfl, q _ H1 _ (L.setD (.int (g a b))) b2⟩
    · exact q.elim
/-- a list's item, by values -/
theorem get_list : PGet X (rIxL X.K) := by
  intro pins s σ H x y v u Q I rx ry h
  obtain ⟨p, xs, i, z, rfl, rfl, hq, he, q⟩ := h
  cases rx
  obtain ⟨t, rfl⟩ := ry
  obtain ⟨its, r, pl, hz⟩ := I.list hq
  obtain ⟨j, a1, a2, a3, a4, a5⟩ := atI_get he
  obtain ⟨w, ew, rw'⟩ := r.get a2
  have hl := r.length
  have hn := line63
  have fin : EP X pins σ Q w s := ⟨z, H, I, rw', q⟩
  by_cases h0 : 0 ≤ i
  · have hj : i.toNat = j := by
      rw [seqIndex_of h0 a5] at a1
      exact Option.some.inj a1
    exact wpAny_getItem_list pl.isList h0 (by omega) (by rw [hj]; simpa using ew) fin
  · have hj : (i + (its.toArray.size : Int)).toNat = j := by
      rw [seqIndex_neg (by omega) a4] at a1
      rw [List.size_toArray, ← hl]
      exact Option.some.inj a1
    exact wpAny_getItem_list_neg pl.isList (by omega) (by rw [List.size_toArray]; omega) (by omega) (by rw [hj]; simpa using ew) fin
/-- xs[i] op= e, xs a list of one's own -/
def intAt (xs : List D) (j : Int) : M Int := match L2.atI xs j with
  | some (.int a) => .ok a
  | _ => .bad
theorem intAt_ok {α : Type} {xs : List D} {j : Int} {k : Int → M α} {Q : α → Prop} {E : Ex → Prop} (h : (intAt xs j >>= k).post Q E) : ∃ a, L2.atI xs j = some (.int a) ∧ (k a).post Q E := by
  unfold intAt at h
  split at h
  · rename_i a e
    exact ⟨a, e, h⟩
  · exact h.elim
def augS3 (i : Nat) (g : Int → Int → Int) (j a b : Int) (ρ : En) : M Fl := sto1 i (.int (g a b)) j ρ
def augS (m n : List Nat) (i : Nat) (g : Int → Int → Int) (fi f : En → M Wv) (ρ : En) : M Fl := ownAt ρ i >>= fun xs => fi (frz n ρ) >>= fun u => asI u >>= fun j => intAt xs j >>= fun a => f (frz m ρ) >>= fun w => asI w >>= fun b => augS3 i g j a b ρ
theorem ds_augS (m n : List Nat) (i : Nat) (g : Int → Int → Int) {x : Str} {op : Operator} {p1 tpos : Pos} {ie : Expr} {fi : En → M Wv} (hi : DE X c Wx ie fi) (he : DE X c Wx e f) (ho : PIp X op (ipI g))
    (ha : ∀ ov iv new, augStore ie ov iv new = (do holding [new, ov, iv] (setItem ov iv new); release [new, ov, iv] []; pure .next) := by intros; rfl)
    (hN : X.N[i]? = some x := by rfl) (hv : Vis X.env.scope x := by first | exact Or.inl rfl | exact Or.inr (Or.inl rfl) | exact Or.inr (Or.inr rfl)) (hd : (x == ("__debug__" : Str)) = false := by decide)
    (hcd : (x == ("__classdict__" : Str)) = false := by decide) : DS X c Wx (.AugAssign (.Subscript (.Name x p1) ie tpos) op e pos) (augS m n i g fi f) :=
  PS.imp (ps_augS (pe_var hN hv hd hcd) hi get_list he ho set_list ha) fun D σ H ⟨F, ρ, I, p⟩ => by
    obtain ⟨xs, ex, p⟩ := ownAt_ok p
    obtain ⟨v0, hv0, a0, vs, e0, ha0, hF, h0, hs⟩ := I.slot i _ ex
    subst e0
    refine ⟨_, hv0, ev_st (m := n) I p fun u y Gp H1 G1 mo1 J1 s1 r1 q1 => ?_⟩
    obtain ⟨L1, b1, _, _⟩ := I.back mo1 s1
    unfold asI at q1
    split at q1
    · rename_i j
      have r1' : DR X.K G1 y (.int j) := r1
      cases r1'
      obtain ⟨a, ea, q1⟩ := intAt_ok q1
      obtain ⟨v1, hv1, a1, vs1, e1, ha1, hF1, h01, hs1⟩ := L1.slot i _ ex
      rw [hv0] at hv1
      cases hv1
      cases e1
      obtain ⟨w1, hw1, hd1⟩ := hs1.atI ea
      cases hd1
      refine ⟨a0, vs1, j, _, rfl, rfl, .inl (.inl ha1), hw1, ?_⟩
      refine ev_st (m := m) L1 q1 fun u2 y2 Gp2 H2 G2 mo2 J2 s2 r2 q2 => ?_
      obtain ⟨L2', b2, _, _⟩ := L1.back mo2 s2
      unfold asI at q2
      split at q2
      · rename_i b
        have r2' : DR X.K G2 y2 (.int b) := r2
        cases r2'
        unfold augS3 sto1 at q2
        obtain ⟨xs', ex', z2⟩ := ownAt_ok q2
        rw [ex] at ex'
        cases ex'
        obtain ⟨v3, hv3, a', vs', e3, ha', hF', h0', hs'⟩ := L2'.slot i _ ex
        rw [hv0] at hv3
        cases hv3
        cases e3
        split at z2
        · rename_i k ek
          refine ⟨a, b, rfl, rfl, a0, vs', j, k, rfl, rfl, ha', by rw [hs'.length]; exact ek, ?_⟩
          exact z2 σ _ _ (L2'.write ex hv0 (DRs.set (.int (g a b)) k hs')) (b1.trans b2)
        · exact z2.elim
      · exact q2.elim
    · exact q1.elim
end
end DL

namespace DL
open PySem (PyData)
/-! ## reckoning: the later rules -/
section
variable {m n : List Nat} {i : Nat} {f fi : En → M Wv} {fs : En → M (List Wv)} {ρ : En} {w u : Wv} {o : Option Wv} {d : D} {ds xs : List D} {us : List Wv} {g : Int → Int → Int} {a b j : Int}
theorem astar_e : astar f fs ρ = f ρ >>= starU fs ρ := id rfl
theorem starU_e : starU fs ρ u = u.give.d >>= starW fs ρ := id rfl
theorem starW_list : starW fs ρ (.list xs) = starL fs ρ xs := id rfl
theorem starW_tuple : starW fs ρ (.tuple xs) = starL fs ρ xs := id rfl
theorem starL_e : starL fs ρ ds = fs ρ >>= starK ds := id rfl
theorem starK_e : starK ds us = .ok (ds.map Wv.dat ++ us) := id rfl
theorem sEnumT_e : sEnumT f ρ = f ρ >>= enumW2 := id rfl
theorem enumW2_e : enumW2 u = u.give.d >>= enumV2 := id rfl
theorem enumV2_list : enumV2 (.list xs) = .ok (enumD 0 xs) := id rfl
theorem enumV2_tuple : enumV2 (.tuple xs) = .ok (enumD 0 xs) := id rfl
theorem rdI_zero : rdI (some (.dat (.int a)) :: ρ) 0 = .ok a := id rfl
theorem rdI_succ : rdI (o :: ρ) (i + 1) = rdI ρ i := id rfl
def augIB (i : Nat) (g : Int → Int → Int) (ρ : En) (a b : Int) : M Fl := .ok (.nx (ρ.set i (some (.dat (.int (g a b))))))
def augIW (i : Nat) (g : Int → Int → Int) (ρ : En) (a : Int) (w : Wv) : M Fl := asI w >>= augIB i g ρ a
def augIK (m : List Nat) (i : Nat) (g : Int → Int → Int) (f : En → M Wv) (ρ : En) (a : Int) : M Fl := f (frz m ρ) >>= augIW i g ρ a
theorem augI_e : augI m i g f ρ = rdI ρ i >>= augIK m i g f ρ := id rfl
theorem augIK_e : augIK m i g f ρ a = f (frz m ρ) >>= augIW i g ρ a := id rfl
theorem augIW_e : augIW i g ρ a w = asI w >>= augIB i g ρ a := id rfl
theorem augIB_e : augIB i g ρ a b = .ok (.nx (ρ.set i (some (.dat (.int (g a b)))))) := id rfl
def augSB (i : Nat) (g : Int → Int → Int) (ρ : En) (j a b : Int) : M Fl := augS3 i g j a b ρ
def augSW (i : Nat) (g : Int → Int → Int) (ρ : En) (j a : Int) (w : Wv) : M Fl := asI w >>= augSB i g ρ j a
def augSA (m : List Nat) (i : Nat) (g : Int → Int → Int) (f : En → M Wv) (ρ : En) (j a : Int) : M Fl := f (frz m ρ) >>= augSW i g ρ j a
def augSJ (m : List Nat) (i : Nat) (g : Int → Int → Int) (f : En → M Wv) (ρ : En) (xs : List D) (j : Int) : M Fl := intAt xs j >>= augSA m i g f ρ j
def augSU (m : List Nat) (i : Nat) (g : Int → Int → Int) (f : En → M Wv) (ρ : En) (xs : List D) (u : Wv) : M Fl := asI u >>= augSJ m i g f ρ xs
def augSK (m n : List Nat) (i : Nat) (g : Int → Int → Int) (fi f : En → M Wv) (ρ : En) (xs : List D) : M Fl := fi (frz n ρ) >>= augSU m i g f ρ xs
theorem augS_e : augS m n i g fi f ρ = ownAt ρ i >>= augSK m n i g fi f ρ := id rfl
theorem augSK_e : augSK m n i g fi f ρ xs = fi (frz n ρ) >>= augSU m i g f ρ xs := id rfl
theorem augSU_e : augSU m i g f ρ xs u = asI u >>= augSJ m i g f ρ xs := id rfl
theorem augSJ_e : augSJ m i g f ρ xs j = intAt xs j >>= augSA m i g f ρ j := id rfl
theorem augSA_e : augSA m i g f ρ j a = f (frz m ρ) >>= augSW i g ρ j a := id rfl
theorem augSW_e : augSW i g ρ j a w = asI w >>= augSB i g ρ j a := id rfl
theorem augSB_e : augSB i g ρ j a b = sto1 i (.int (g a b)) j ρ := id rfl
end
end DL

namespace DL
open PySem PySem.Spec PyProof.Rows L2 SeqAt HT
/-! ## f(x).append(e): a new list grows and is let go -/
def appCV (ρ : En) (_ : Wv) : M Fl := .ok (.nx ρ)
def appCW (m : List Nat) (g : En → M Wv) (ρ : En) : Wv → M Fl
  | .own xs => small xs.length (g (frz m ρ) >>= appCV ρ)
  | _ => .bad
def appC (m : List Nat) (f g : En → M Wv) (ρ : En) : M Fl := f (frz m ρ) >>= appCW m g ρ
section
variable {X : Cx} {c : Act} {Wx : WX} {e o : Expr} {f g : En → M Wv} {pos : Pos}
theorem step_own {pi : Pot} {H F H2 F2 : Hp} {a : Addr} {u : HO} (p0 : PotIn pi H F) (s : Step pi H F H2 F2) (ha : H a = none) (hF : F2 a = none) : Step pi H F (upd H2 a u) F2 := by
  refine ⟨s.mono, fun x w e => ?_, s.new, fun x w n e => ?_, fun p k e => ?_⟩
  · have z : x ≠ a := fun z => by subst z; rw [hF] at e; cases e
    rw [upd_ne z]; exact s.le x w e
  · have z : x ≠ a := fun z => by subst z; rw [ha] at e; cases e
    rw [upd_ne z]; exact s.same x w n e
  · obtain ⟨⟨_, _, _, h1⟩, _, _, h2, _⟩ := p0 p k e
    obtain ⟨⟨i, y, w, r⟩, f, ns, r2, ne⟩ := s.pot p k e
    have z1 : p ≠ a := fun z => by subst z; rw [ha] at h1; cases h1
    have z2 : k ≠ a := fun z => by subst z; rw [ha] at h2; cases h2
    exact ⟨⟨i, y, w, by rw [upd_ne z1]; exact r⟩, f, ns, by rw [upd_ne z2]; exact r2, ne⟩
theorem ds_appC (m : List Nat) {apos cpos : Pos} (ho : DE X c Wx o f) (he : DE X c Wx e g) (hb : attributeBase o "append" X.env (eval o X.env) = eval o X.env := by rfl)
    (hfew : ((backTo cpos (starEach [e] X.env)).all (fun x => !x.1) && (backToKw cpos (keywordEach [] X.env)).all (fun x => x.1.isSome) && decide ([e].length + ([] : List Keyword).length + (if ([] : List Keyword).isEmpty then 0 else 1) < 30)) = true := by rfl)
    (hline : (apos.endLine == cpos.line) = true := by rfl) (hs : starEach [e] X.env = (false, eval e X.env) :: starEach [] X.env := by rfl) (hsw : swapsWith (.Call (.Attribute o "append" apos) [e] [] cpos) none pos.line X.env = pure false := by rfl) :
    DS X c Wx (.Expr (.Call (.Attribute o "append" apos) [e] [] cpos) pos) (appC m f g) := by
  refine PS.imp (ps_expr (pe_bm PySem.F.plainAttrs_list PySem.F.slot_list_append PySem.F.type_list_append mt_append ho (pa_cons he pa_nil hs) hb hfew hline hs (by rfl)) hsw) fun D σ H ⟨F, ρ, I, p⟩ => ?_
  refine ev_st (m := m) I p fun w v Fp H1 F1 mo J s r q => ?_
  unfold appCW at q
  split at q
  · rename_i xs
    obtain ⟨hz, q⟩ := small_ok q
    obtain ⟨a, vs, rfl, ha, hF, h0, hds⟩ := r
    refine ⟨.inl ⟨rfl, vs, SqL.of ha⟩, ?_⟩
    refine ⟨F1, frz m ρ, J.step s, M.post_mono (M.post_bind.mp q) (fun u q2 H2 F2 s2 y r2 => ?_) fun e q cls d H2 F2 s2 x => q cls d σ H2 F2 ((J.step s).st.trans J.p0 s2) x⟩
    have hF2 : F2 a = none := by
      cases z : F2 a with
      | none => rfl
      | some t =>
        rcases s2.new a t z with k | k
        · rw [hF] at k; cases k
        · rw [ha] at k; cases k
    have ha2 : H2 a = some (.lst vs) := s2.same a _ (new_notPot J.pot h0) ha
    refine ⟨a, vs, y, rfl, rfl, ha2, by rw [hds.length]; exact hz, ?_⟩
    have s12 := s.trans J.pot s2
    have s3 := step_own (u := .lst (vs ++ [y])) J.pot s12 h0 hF2
    obtain ⟨L, b1, _, _⟩ := I.back mo s3
    exact q2 σ _ _ L b1
  · exact q.elim
theorem appC_e {m : List Nat} {ρ : En} : appC m f g ρ = f (frz m ρ) >>= appCW m g ρ := id rfl
theorem appCW_own {m : List Nat} {ρ : En} {xs : List D} : appCW m g ρ (.own xs) = small xs.length (g (frz m ρ) >>= appCV ρ) := id rfl
theorem appCV_e {ρ : En} {u : Wv} : appCV ρ u = .ok (.nx ρ) := id rfl
end
end DL

namespace DL
open PySem PySem.Spec PyProof.Rows L2 SeqAt HT
section
variable {X : Cx} {c : Act} {Wx : WX} {a b : Expr} {fa fb : En → M Wv} {pos : Pos}
/-! ## a, b = e1, e2 by way of a tuple (a name is a cell) -/
theorem ds_parT (m : List Nat) (i j : Nat) {x y : Str} {px py pt : Pos} {kt k2 : Nat} {pt2 : Pos} (hc : X.calm = true) (hN : X.N.Nodup) (hi : X.N[i]? = some x) (hj : X.N[j]? = some y)
    (hx : Loc X.env.scope x) (hy : Loc X.env.scope y) (fx : X.fn x = true ∨ X.env.scope.names.lookup x = some .local) (fy : X.fn y = true ∨ X.env.scope.names.lookup y = some .local)
    (ha : DE X c Wx a fa) (hb : DE X c Wx b fb)
    (hw : swappedStores [.Tuple [.Name x px, .Name y py] kt pt] (.Tuple [a, b] k2 pt2) X.env = pure none)
    (hs : swapsWithSole [.Tuple [.Name x px, .Name y py] kt pt] (.Tuple [a, b] k2 pt2) pos.line X.env = pure false := by rfl)
    (h1 : starEach [a, b] X.env = (false, eval a X.env) :: starEach [b] X.env := by rfl) (h2 : starEach [b] X.env = (false, eval b X.env) :: starEach [] X.env := by rfl)
    (h3 : (assignEach [.Tuple [.Name x px, .Name y py] kt pt] X.env).map (·.2) = [assign (.Tuple [.Name x px, .Name y py] kt pt) X.env] := by rfl)
    (hn : (assignEach [.Name x px, .Name y py] X.env).length = 2 := by rfl) (hst : (assignEach [.Name x px, .Name y py] X.env).findIdx? (·.1) = none := by rfl)
    (g1 : (assignEach [.Name x px, .Name y py] X.env).map (·.2) = assign (.Name x px) X.env :: (assignEach [.Name y py] X.env).map (·.2) := by rfl)
    (g2 : (assignEach [.Name y py] X.env).map (·.2) = assign (.Name y py) X.env :: (assignEach [] X.env).map (·.2) := by rfl) :
    DS X c Wx (.Assign [.Tuple [.Name x px, .Name y py] kt pt] (.Tuple [a, b] k2 pt2) pos) (asg2 m i j fa fb) :=
  PS.imp (ps_asg (pe_tup (pa_cons ha (pa_cons hb pa_nil h2) h1)) (pg_tup (n := 2) hc (pgs_cons (pg_name hN hi hx fx) (pgs_cons (pg_name hN hj hy fy) pgs_nil g2) g1) hn hst) hs hw h3) fun D σ H ⟨F, ρ, I, p⟩ => by
    refine ev_st (m := m) I p fun u v1 Fp H1 F1 mo J s1 r1 q => ?_
    refine ⟨F1, frz m ρ, J.step s1, M.post_mono (M.post_bind.mp q) (fun w q H2 F2 s2 v2 r2 => ?_) fun e q cls d H2 F2 s2 x => q cls d σ H2 F2 ((J.step s1).st.trans J.p0 s2) x⟩
    refine ⟨by rw [sizeLine_eq]; simp, fun t ht => ⟨t, [v1, v2], rfl, SqT.of upd_same, rfl, v1, [v2], rfl, v2, [], rfl, rfl, ?_⟩⟩
    have s12 := s1.trans J.pot s2
    have Jz := J.step s12
    have sl : Step c.pi H2 F2 (upd H2 t (.tup [v1, v2])) F2 := Step.layH Jz.le Jz.pot ht
    have s13 := s12.trans J.pot sl
    have r1' : Res X.K c.pi H (upd H2 t (.tup [v1, v2])) F2 v1 u := Res.later r1 J.pot (s2.trans (J.step s1).pot sl)
    have r2' : Res X.K c.pi H1 (upd H2 t (.tup [v1, v2])) F2 v2 w := Res.later r2 (J.step s1).pot sl
    have n1 : ∀ {x : Addr}, H1 x = none → c.H0 x = none := fun z => (J.step s1).st.none_of J.p0 z
    have up : ∀ {ρ' : En} {G : Hp}, SR X.K c σ (upd H2 t (.tup [v1, v2])) G ρ' → (∀ (j : Nat) (ys : List DL.D) (a : Addr), ρ'[j]? = some (some (.own ys)) → σ[j]? = some (some (.ref a)) → H a ≠ none) → Res X.K c.pi H (upd H2 t (.tup [v1, v2])) G v1 u → Res X.K c.pi H1 (upd H2 t (.tup [v1, v2])) G v2 w → SR X.K c ((σ.set i (some v1)).set j (some v2)) (upd H2 t (.tup [v1, v2])) G ((ρ'.set i (some u)).set j (some w)) := fun {ρ' G} L hn t1 t2 => by
      have L1 := L.set (i := i) t1 (fun a z => I.st.none_of I.p0 z) hn
      refine L1.set (i := j) t2 (fun a z => n1 z) fun k ys a e1 e2 => ?_
      by_cases z : k = i
      · subst z
        have hk : k < ρ'.length := by
          by_cases q : k < ρ'.length
          · exact q
          · rw [List.getElem?_eq_none (by rw [List.length_set]; omega)] at e1; cases e1
        rw [List.getElem?_set_self hk] at e1
        rw [List.getElem?_set_self (by rw [← L.len]; exact hk)] at e2
        cases e1
        cases e2
        obtain ⟨a', vs, e3, ha, _⟩ := r1
        cases e3
        rw [ha]
        exact fun z => nomatch z
      · rw [List.getElem?_set_ne (Ne.symm z)] at e1 e2
        have h3 := hn k ys a e1 e2
        intro h4
        exact h3 (s1.none_of J.pot h4)
    by_cases hs : (u.still && w.still) = true
    · rw [if_pos hs] at q
      obtain ⟨hu, hw⟩ := Bool.and_eq_true_iff.mp hs
      obtain ⟨I1, b1, _, _⟩ := I.back mo s13
      exact q _ _ _ (up I1 (fun j ys a e1 e2 => I.ownAt e1 e2) (I.backRes mo s13 r1' hu) (I.backRes mo s13 r2' hw)) b1
    · rw [if_neg hs] at q
      exact q _ _ _ (up (J.step s13) (fun j ys a e1 e2 => J.ownAt e1 e2) r1' r2') (mo.1.trans s13.mono)
end
end DL

namespace DL
open PySem PySem.Spec PyProof.Rows L2 SeqAt HT
section
variable {X : Cx} {c : Act} {Wx : WX} {a b e : Expr} {fa fb f f1 f2 : En → M Wv} {pos : Pos}
/-! ## list(range(n)) -/
def lstRk (j : Int) : M Wv := if (decide (0 ≤ j) && decide (j ≤ 1000000)) = true then .ok (.own (rng 0 j.toNat)) else .bad
def lstRw (u : Wv) : M Wv := asI u >>= lstRk
def lstR (f : En → M Wv) (ρ : En) : M Wv := f ρ >>= lstRw
theorem de_listR {p p' pos' : Pos} (hc : X.calm = true) (hg : Gl X "list") (hm : X.mg "list" = none) (hg' : Gl X "range") (hm' : X.mg "range" = none) (he : DE X c Wx e f)
    (na : starEach [e] X.env = (false, eval e X.env) :: starEach [] X.env := by rfl) (nb : starEach [.Call (.Name "range" p') [e] [] pos'] X.env = (false, eval (.Call (.Name "range" p') [e] [] pos') X.env) :: starEach [] X.env := by rfl) :
    DE X c Wx (.Call (.Name "list" p) [.Call (.Name "range" p') [e] [] pos'] [] pos) (lstR f) :=
  PE.imp (pe_listRg hc hg hm (prg_1 hg' hm' he na) nb) fun σ H Q ⟨F, ρ, I, p⟩ => ev_split I p fun u x H1 F1 I1 s1 g1 p1 => by
    obtain ⟨j, rfl, p2⟩ := asI_ok g1 p1
    unfold lstRk at p2
    split at p2
    · rename_i hj
      obtain ⟨h1, h2⟩ := Bool.and_eq_true_iff.mp hj
      have h1 := of_decide_eq_true h1
      have h2 := of_decide_eq_true h2
      refine ⟨j, rfl, RgOk.of_le (by omega) (by omega) (by omega) h1, fun q hq => ?_⟩
      have sl := Step.layH (o := .lst (rgV 0 j)) I1.le I1.pot hq
      refine p2 _ _ sl (.ref q) ⟨q, _, rfl, upd_same, ?_, s1.none_of I.pot hq, ?_⟩
      · cases z : F1 q with
        | none => rfl
        | some o =>
          have := I1.le q o z
          rw [hq] at this
          cases this
      · have := drs_ints (K := X.K) (F := F1) ((List.range j.toNat).map fun i => ((0 : Int) + (i : Nat)))
        rw [List.map_map, List.map_map] at this
        unfold rgV rng
        rw [Int.sub_zero]
        exact this
    · exact p2.elim
/-! ## xs[i], xs[j] = a, b -/
def parS2 (n2 : List Nat) (i : Nat) (d2 : DL.D) (f2 : En → M Wv) : Fl → M Fl
  | .nx ρ => sto2 n2 i d2 f2 ρ
  | _ => .bad
def parSD (n1 n2 : List Nat) (i : Nat) (f1 f2 : En → M Wv) (ρ : En) (d1 d2 : DL.D) : M Fl := if (noL d1 && noL d2) = true then sto2 n1 i d1 f1 ρ >>= parS2 n2 i d2 f2 else .bad
def parSW (n1 n2 : List Nat) (i : Nat) (f1 f2 : En → M Wv) (ρ : En) (u w : Wv) : M Fl := u.d >>= fun d1 => w.d >>= parSD n1 n2 i f1 f2 ρ d1
def parSK (m n1 n2 : List Nat) (i : Nat) (fb f1 f2 : En → M Wv) (ρ : En) (u : Wv) : M Fl := fb (frz m ρ) >>= parSW n1 n2 i f1 f2 ρ u
def parS (m n1 n2 : List Nat) (i : Nat) (fa fb f1 f2 : En → M Wv) (ρ : En) : M Fl := fa (frz m ρ) >>= parSK m n1 n2 i fb f1 f2 ρ
theorem sto_g {n : List Nat} {i : Nat} {fi : En → M Wv} {d : DL.D} {v : V} {Q : L2.St → Hp → Prop} {σ : L2.St} {H G : Hp} {ρ : En} {S : Fl → Prop} (L : SR X.K c σ H G ρ) (rd : DR X.K G v d) (z : (sto2 n i d fi ρ).post S (SX X.K X.mg c Wx))
    (k : ∀ ρ2 H2 G2, SR X.K c σ H2 G2 ρ2 → Same G G2 → S (.nx ρ2) → Q σ H2) : gSub (tVar i) (Ev X.K X.mg c Wx fi) rSetL v σ H Q := by
  obtain ⟨xs, ex, z⟩ := ownAt_ok z
  obtain ⟨v2, hv2, a, vs, e2, ha, hF, h0, hs⟩ := L.slot i _ ex
  subst e2
  refine ⟨_, hv2, ev_st (m := n) L z fun u y Gp H2 G2 mo2 J2 s2 r2 q3 => ?_⟩
  obtain ⟨L2, b2, _, _⟩ := L.back mo2 s2
  unfold asI at q3
  split at q3
  · rename_i j
    have r2' : DR X.K G2 y (.int j) := r2
    cases r2'
    obtain ⟨xs', ex', z2⟩ := ownAt_ok q3
    obtain ⟨v3, hv3, a', vs', e3, ha', hF', h0', hs'⟩ := L2.slot i _ ex'
    rw [hv2] at hv3
    cases hv3
    cases e3
    split at z2
    · rename_i k' ek
      refine ⟨a, vs', j, k', rfl, rfl, ha', by rw [hs'.length]; exact ek, ?_⟩
      exact k _ _ _ (L2.write ex' hv2 (DRs.set (rd.mono b2) k' hs')) b2 z2
    · exact z2.elim
  · exact q3.elim
theorem ds_parS (m n1 n2 : List Nat) (i : Nat) {x : Str} {p1 p2 q1 q2 pt : Pos} {i1 i2 : Expr} {kt k2 : Nat} {pt2 : Pos} (hc : X.calm = true) (ha : DE X c Wx a fa) (hb : DE X c Wx b fb) (h1i : DE X c Wx i1 f1) (h2i : DE X c Wx i2 f2)
    (hN : X.N[i]? = some x := by rfl) (hv : Vis X.env.scope x := by first | exact Or.inl rfl | exact Or.inr (Or.inl rfl) | exact Or.inr (Or.inr rfl)) (hd : (x == ("__debug__" : Str)) = false := by decide)
    (hcd : (x == ("__classdict__" : Str)) = false := by decide)
    (hw : swappedStores [.Tuple [.Subscript (.Name x p1) i1 q1, .Subscript (.Name x p2) i2 q2] kt pt] (.Tuple [a, b] k2 pt2) X.env = pure none := by rfl)
    (hs : swapsWithSole [.Tuple [.Subscript (.Name x p1) i1 q1, .Subscript (.Name x p2) i2 q2] kt pt] (.Tuple [a, b] k2 pt2) pos.line X.env = pure false := by rfl)
    (h1 : starEach [a, b] X.env = (false, eval a X.env) :: starEach [b] X.env := by rfl) (h2 : starEach [b] X.env = (false, eval b X.env) :: starEach [] X.env := by rfl)
    (h3 : (assignEach [.Tuple [.Subscript (.Name x p1) i1 q1, .Subscript (.Name x p2) i2 q2] kt pt] X.env).map (·.2) = [assign (.Tuple [.Subscript (.Name x p1) i1 q1, .Subscript (.Name x p2) i2 q2] kt pt) X.env] := by rfl)
    (hn : (assignEach [.Subscript (.Name x p1) i1 q1, .Subscript (.Name x p2) i2 q2] X.env).length = 2 := by rfl) (hst : (assignEach [.Subscript (.Name x p1) i1 q1, .Subscript (.Name x p2) i2 q2] X.env).findIdx? (·.1) = none := by rfl)
    (g1 : (assignEach [.Subscript (.Name x p1) i1 q1, .Subscript (.Name x p2) i2 q2] X.env).map (·.2) = assign (.Subscript (.Name x p1) i1 q1) X.env :: (assignEach [.Subscript (.Name x p2) i2 q2] X.env).map (·.2) := by rfl)
    (g2 : (assignEach [.Subscript (.Name x p2) i2 q2] X.env).map (·.2) = assign (.Subscript (.Name x p2) i2 q2) X.env :: (assignEach [] X.env).map (·.2) := by rfl)
    (e1 : ∀ v, assign (.Subscript (.Name x p1) i1 q1) X.env v = (do
      let ov ← holding [v] (eval (.Name x p1) X.env)
      let iv ← holding [v, ov] (eval i1 X.env)
      standAt q1
      holding [v, ov, iv] (setItem ov iv v)
      release [v, ov, iv] []) := by intro _; rfl)
    (e2 : ∀ v, assign (.Subscript (.Name x p2) i2 q2) X.env v = (do
      let ov ← holding [v] (eval (.Name x p2) X.env)
      let iv ← holding [v, ov] (eval i2 X.env)
      standAt q2
      holding [v, ov, iv] (setItem ov iv v)
      release [v, ov, iv] []) := by intro _; rfl) :
    DS X c Wx (.Assign [.Tuple [.Subscript (.Name x p1) i1 q1, .Subscript (.Name x p2) i2 q2] kt pt] (.Tuple [a, b] k2 pt2) pos) (parS m n1 n2 i fa fb f1 f2) :=
  PS.imp (ps_asg (pe_tup (pa_cons ha (pa_cons hb pa_nil h2) h1)) (pg_tup (n := 2) hc (pgs_cons (pg_sub (pe_var hN hv hd hcd) h1i set_list e1) (pgs_cons (pg_sub (pe_var hN hv hd hcd) h2i set_list e2) pgs_nil g2) g1) hn hst) hs hw h3) fun D σ H ⟨F, ρ, I, p⟩ => by
    refine ev_st (m := m) I p fun u v1 Fp H1 F1 mo J s1 r1 q => ?_
    refine ⟨F1, frz m ρ, J.step s1, M.post_mono (M.post_bind.mp q) (fun w q H2 F2 s2 v2 r2 => ?_) fun e q cls d H2 F2 s2 x => q cls d σ H2 F2 ((J.step s1).st.trans J.p0 s2) x⟩
    refine ⟨by rw [sizeLine_eq]; simp, fun t ht => ⟨t, [v1, v2], rfl, SqT.of upd_same, rfl, v1, [v2], rfl, ?_⟩⟩
    unfold parSW at q
    obtain ⟨d1, hd1, y1⟩ := d_ok q
    obtain ⟨d2, hd2, y2⟩ := d_ok y1
    unfold parSD at y2
    by_cases hno : (noL d1 && noL d2) = true
    · rw [if_pos hno] at y2
      obtain ⟨n1', n2'⟩ := Bool.and_eq_true_iff.mp hno
      have w1 := still_of hd1 n1'
      have w2 := still_of hd2 n2'
      subst w1
      subst w2
      have s12 := s1.trans J.pot s2
      have Jz := J.step s12
      have sl : Step c.pi H2 F2 (upd H2 t (.tup [v1, v2])) F2 := Step.layH Jz.le Jz.pot ht
      have s13 := s12.trans J.pot sl
      have r1' : Res X.K c.pi H (upd H2 t (.tup [v1, v2])) F2 v1 (.dat d1) := Res.later r1 J.pot (s2.trans (J.step s1).pot sl)
      have r2' : Res X.K c.pi H1 (upd H2 t (.tup [v1, v2])) F2 v2 (.dat d2) := Res.later r2 (J.step s1).pot sl
      obtain ⟨I1, b1, _, _⟩ := I.back mo s13
      have rd1 := I.backRes mo s13 r1' n1'
      have rd2 := I.backRes mo s13 r2' n2'
      refine sto_g I1 rd1 (M.post_bind.mp y2) fun ρ2 H4 G4 L4 m4 z4 => ⟨v2, [], rfl, ?_⟩
      exact sto_g L4 (DR.mono m4 rd2) z4 fun ρ5 H5 G5 L5 m5 z5 => ⟨rfl, z5 σ H5 G5 L5 ((b1.trans m4).trans m5)⟩
    · rw [if_neg hno] at y2
      exact y2.elim
/-! ## y = [e for .. for ..] -/
theorem ds_asgLc2 (m : List Nat) (i : Nat) {y : Str} {py : Pos} {elt tg iter tg1 iter1 : Expr} {ifs ifs1 : List Expr} {scope : Scope} {own : List (Str × Nat)} {pos spos : Pos} {src src1 : En → M (List DL.D)} {is is1 : List Nat} {b b1 : DL.D → En → Option En} {t t1 : En → M Bool} {el : En → M Wv} (hc : X.calm = true) (hN : X.N.Nodup) (hy : X.N[i]? = some y) (hyl : X.env.scope.names.lookup y = some .local)
    (hsw : swapsWith (.ListComp elt [⟨tg, iter, ifs, 0⟩, ⟨tg1, iter1, ifs1, 0⟩] scope pos) (some (.Name y py)) spos.line X.env = pure true) (ok : BlkOk X.N X.env.scope scope own)
    (vs1 : List Nat) (hv1' : ∀ i ∈ vs1, i ∈ own.map (·.2)) (hi : DI X c Wx tg iter src) (hg : ∀ s H C cl fp, DG (Bk X scope s H C cl fp) c tg is b) (ht : ∀ s H C cl fp, DTs (Bk X scope s H C cl fp) c Wx0 ifs t)
    (hi1 : ∀ s H C cl fp, DI (Bk X scope s H C cl fp) c Wx0 tg1 iter1 src1) (hg1 : ∀ s H C cl fp, DG (Bk X scope s H C cl fp) c tg1 is1 b1) (ht1 : ∀ s H C cl fp, DTs (Bk X scope s H C cl fp) c Wx0 ifs1 t1) (he : ∀ s H C cl fp, DE (Bk X scope s H C cl fp) c Wx0 elt el)
    (hb : Binder b) (hb1 : Binder b1) (hv : ∀ i ∈ is, i ∈ own.map (·.2) := by decide) (hv1 : ∀ i ∈ is1, i ∈ vs1 := by decide)
    (hs : ∀ x, foldedSetIterable iter X.env x = pure x := by intro _; rfl) (hs1 : ∀ env x, foldedSetIterable iter1 env x = pure x := by intro _ _; rfl) :
    DS X c Wx (.Assign [.Name y py] (.ListComp elt [⟨tg, iter, ifs, 0⟩, ⟨tg1, iter1, ifs1, 0⟩] scope pos) spos) (asg m i (lc2 (own.map (·.2)) src b t src1 vs1 b1 t1 el)) :=
  PS.imp (ps_setLc2 hc hN hy hyl hsw hi ok hv1' hg ht hi1 hg1 ht1 he hs hs1) fun D σ H h => lc2_post hv hv1 hb hb1 σ H _ (asg_post σ H h)
end
end DL

namespace DL
open PySem (PyData)
/-! ## reckoning: rules of DL36 -/
section
variable {m n1 n2 : List Nat} {i : Nat} {f fa fb f1 f2 : En → M Wv} {ρ : En} {w u : Wv} {d1 d2 : D} {j : Int}
theorem lstR_e : lstR f ρ = f ρ >>= lstRw := id rfl
theorem lstRw_e : lstRw u = asI u >>= lstRk := id rfl
theorem lstRk_e (h0 : 0 ≤ j) (h : j ≤ 1000000) : lstRk j = .ok (.own (rng 0 j.toNat)) := by
  unfold lstRk
  rw [if_pos (by rw [Bool.and_eq_true]; exact ⟨decide_eq_true h0, decide_eq_true h⟩)]
theorem parS_e : parS m n1 n2 i fa fb f1 f2 ρ = fa (frz m ρ) >>= parSK m n1 n2 i fb f1 f2 ρ := id rfl
theorem parSK_e : parSK m n1 n2 i fb f1 f2 ρ u = fb (frz m ρ) >>= parSW n1 n2 i f1 f2 ρ u := id rfl
theorem parSW_e : parSW n1 n2 i f1 f2 ρ (.dat d1) (.dat d2) = parSD n1 n2 i f1 f2 ρ d1 d2 := id rfl
theorem parSD_e : parSD n1 n2 i f1 f2 ρ d1 d2 = sel (noL d1 && noL d2) (sto2 n1 i d1 f1 ρ >>= parS2 n2 i d2 f2) .bad := by
  unfold parSD
  cases noL d1 && noL d2 <;> rfl
theorem parS2_e : parS2 n2 i d2 f2 (.nx ρ) = sto2 n2 i d2 f2 ρ := id rfl
end
end DL

namespace DL
open PySem PySem.Spec PyProof.Rows L2 SeqAt HT
/-! ## x is True, x is not True, of truth values -/
def opIsB (u w : Wv) : M Wv := match u, w with
  | .dat (.bool a), .dat (.bool b) => .ok (.dat (.bool (decide (a = b))))
  | _, _ => .bad
def opNotB (u w : Wv) : M Wv := match u, w with
  | .dat (.bool a), .dat (.bool b) => .ok (.dat (.bool (!decide (a = b))))
  | _, _ => .bad
section
variable {X : Cx} {c : Act} {Wx : WX} {a b : Expr} {fa fb : En → M Wv} {pos : Pos} {K : PySem.W.Frag}
theorem ok_opIsB : OpOk K (fun x y H Q => ∃ a b, x = .bl a ∧ y = .bl b ∧ Q (.bl (decide (a = b))) H) opIsB := fun pi H F x y u w Q E l p g1 g2 h => by
  unfold opIsB at h
  split at h
  · rename_i a b
    have g1' : DR K F x (.bool a) := g1
    have g2' : DR K F y (.bool b) := g2
    cases g1'
    cases g2'
    exact ⟨a, b, rfl, rfl, Fin.val h l p (.bl _)⟩
  · exact h.elim
theorem ok_opNotB : OpOk K (fun x y H Q => ∃ a b, x = .bl a ∧ y = .bl b ∧ Q (.bl (!decide (a = b))) H) opNotB := fun pi H F x y u w Q E l p g1 g2 h => by
  unfold opNotB at h
  split at h
  · rename_i a b
    have g1' : DR K F x (.bool a) := g1
    have g2' : DR K F y (.bool b) := g2
    cases g1'
    cases g2'
    exact ⟨a, b, rfl, rfl, Fin.val h l p (.bl _)⟩
  · exact h.elim
theorem de_isB (ha : DE X c Wx a fa) (hb : DE X c Wx b fb) : DE X c Wx (.Compare a [.Is] [b] pos) (bin2 opIsB fa fb) := de_cmp op_is_bl ok_opIsB ha hb (nomark _)
theorem dt_isB (ha : DE X c Wx a fa) (hb : DE X c Wx b fb) : DT X c Wx (.Compare a [.Is] [b] pos) (tst (bin2 opIsB fa fb)) := dt_cmp op_is_bl ok_opIsB ha hb (nomark _)
theorem de_isnotB (ha : DE X c Wx a fa) (hb : DE X c Wx b fb) : DE X c Wx (.Compare a [.IsNot] [b] pos) (bin2 opNotB fa fb) := de_cmp op_isnot_bl ok_opNotB ha hb (nomark _)
theorem dt_isnotB (ha : DE X c Wx a fa) (hb : DE X c Wx b fb) : DT X c Wx (.Compare a [.IsNot] [b] pos) (tst (bin2 opNotB fa fb)) := dt_cmp op_isnot_bl ok_opNotB ha hb (nomark _)
theorem opIsB_e {a b : Bool} : opIsB (.dat (.bool a)) (.dat (.bool b)) = .ok (.dat (.bool (decide (a = b)))) := id rfl
theorem opNotB_e {a b : Bool} : opNotB (.dat (.bool a)) (.dat (.bool b)) = .ok (.dat (.bool (!decide (a = b)))) := id rfl
end
end DL

namespace DL
open PySem PySem.Spec PyProof.Rows L2 SeqAt HT
/-! ## a tuple of two growing lists, x = ([], []), while a loop runs: x[int(t)].append(e) -/
structure Duo0 (K : PySem.W.Frag) (c : Act) (σ : L2.St) (H F : Hp) (ρ : En) (k : Nat) (t a b : Addr) (va vb : List V) (A B : List DL.D) : Prop where
  kn : ρ[k]? = some none
  sk : σ[k]? = some (some (.ref t))
  ht : H t = some (.tup [.ref a, .ref b])
  ha : H a = some (.lst va)
  hb : H b = some (.lst vb)
  ft : F t = none
  fa : F a = none
  fb : F b = none
  t0 : c.H0 t = none
  a0 : c.H0 a = none
  b0 : c.H0 b = none
  ne : a ≠ b
  da : DRs K F va A
  db : DRs K F vb B
  sep : ∀ (i : Nat) (xs : List DL.D) (x : Addr), ρ[i]? = some (some (Wv.own xs)) → σ[i]? = some (some (V.ref x)) → x ≠ a ∧ x ≠ b
def Duo (K : PySem.W.Frag) (c : Act) (σ : L2.St) (H F : Hp) (ρ : En) (k : Nat) (A B : List DL.D) : Prop := ∃ t a b va vb, Duo0 K c σ H F ρ k t a b va vb A B
section
variable {K : PySem.W.Frag} {mg : Str → Option Value} {c : Act} {Wx : WX} {σ : L2.St} {H F H1 F1 Fp : Hp} {ρ : En} {k : Nat} {A B : List DL.D}
theorem backF_none {x : Addr} {o : HO} (hF : F x = none) (hH : H x = some o) (s : Step c.pi H Fp H1 F1) : backF F Fp F1 x = none := by
  unfold backF
  by_cases q : Fp x ≠ none ∧ F x = none
  · rw [if_pos q]
  · rw [if_neg q]
    have hp : Fp x = none := Classical.byContradiction fun z => q ⟨z, hF⟩
    cases e : F1 x with
    | none => rfl
    | some o' =>
      rcases s.new x o' e with z | z
      · rw [hp] at z; cases z
      · rw [hH] at z; cases z
theorem Duo.back (I : SR K c σ H F ρ) (d : Duo K c σ H F ρ k A B) (m : More F Fp) (s : Step c.pi H Fp H1 F1) : Duo K c σ H1 (backF F Fp F1) ρ k A B := by
  obtain ⟨t, a, b, va, vb, d⟩ := d
  have sm := (I.back m s).2.1
  exact ⟨t, a, b, va, vb, d.kn, d.sk, s.same _ _ (new_notPot I.p0 d.t0) d.ht, s.same _ _ (new_notPot I.p0 d.a0) d.ha, s.same _ _ (new_notPot I.p0 d.b0) d.hb,
    backF_none d.ft d.ht s, backF_none d.fa d.ha s, backF_none d.fb d.hb s, d.t0, d.a0, d.b0, d.ne, d.da.mono sm, d.db.mono sm, d.sep⟩
theorem Duo.step (I : SR K c σ H F ρ) (d : Duo K c σ H F ρ k A B) (s : Step c.pi H F H1 F1) : Duo K c σ H1 F1 ρ k A B := by
  obtain ⟨t, a, b, va, vb, d⟩ := d
  have fn : ∀ {x : Addr} {o : HO}, F x = none → H x = some o → F1 x = none := fun {x o} hF hH => by
    cases e : F1 x with
    | none => rfl
    | some o' =>
      rcases s.new x o' e with z | z
      · rw [hF] at z; cases z
      · rw [hH] at z; cases z
  exact ⟨t, a, b, va, vb, d.kn, d.sk, s.same _ _ (new_notPot I.p0 d.t0) d.ht, s.same _ _ (new_notPot I.p0 d.a0) d.ha, s.same _ _ (new_notPot I.p0 d.b0) d.hb,
    fn d.ft d.ht, fn d.fa d.ha, fn d.fb d.hb, d.t0, d.a0, d.b0, d.ne, d.da.mono s.mono, d.db.mono s.mono, d.sep⟩
abbrev E2 := En × List DL.D × List DL.D
def SF2 (K : PySem.W.Frag) (c : Act) (F : Hp) (k : Nat) (D : Ends) (x : E2) : Prop := ∀ σ' H' F', SR K c σ' H' F' x.1 → Duo K c σ' H' F' x.1 k x.2.1 x.2.2 → Same F F' → D.nx σ' H'
def EvS2 (K : PySem.W.Frag) (mg : Str → Option Value) (c : Act) (Wx : WX) (k : Nat) (g : E2 → M E2) : TS := fun D σ H => ∃ F x, SR K c σ H F x.1 ∧ Duo K c σ H F x.1 k x.2.1 x.2.2 ∧ (g x).post (SF2 K c F k D) (SX K mg c Wx)
theorem et_st2 {α : Type} {m : List Nat} {f : En → M Bool} {kk : Bool → M α} {S : α → Prop} {R : Bool → Hp → Prop} (I : SR K c σ H F ρ) (du : Duo K c σ H F ρ k A B) (p : (f (frz m ρ) >>= kk).post S (SX K mg c Wx))
    (h : ∀ b H1 F1, SR K c σ H1 F1 ρ → Duo K c σ H1 F1 ρ k A B → Same F F1 → (kk b).post S (SX K mg c Wx) → R b H1) : EvT K mg c Wx f σ H R := by
  obtain ⟨Fp, J, mo⟩ := I.frz m
  exact ⟨Fp, frz m ρ, J, M.post_mono (M.post_bind.mp p) (fun b q H1 F1 s => h b H1 _ (I.back mo s).1 (du.back I mo s) (I.back mo s).2.1 q) fun e q cls d H1 F1 s x => q cls d σ H1 F1 (J.st.trans J.p0 s) x⟩
end
section
variable {X : Cx} {c : Act} {Wx : WX} {st : Stmt} {sts : List Stmt} {g g' : E2 → M E2} {e ie : Expr} {f fi : En → M Wv} {pos : Pos} {k : Nat}
abbrev DS2 (X : Cx) (c : Act) (Wx : WX) (k : Nat) (st : Stmt) (g : E2 → M E2) : Prop := PS X st (EvS2 X.K X.mg c Wx k g)
abbrev DSs2 (X : Cx) (c : Act) (Wx : WX) (k : Nat) (st : List Stmt) (g : E2 → M E2) : Prop := PSs X st (EvS2 X.K X.mg c Wx k g)
def skip2 (x : E2) : M E2 := .ok x
def seq2 (g g' : E2 → M E2) (x : E2) : M E2 := g x >>= g'
theorem dss2_nil : DSs2 X c Wx k [] skip2 := PSs.imp pss_nil fun D σ H ⟨F, x, I, d, p⟩ => p σ H F I d (Same.refl F)
theorem dss2_cons (h1 : DS2 X c Wx k st g) (h2 : DSs2 X c Wx k sts g') : DSs2 X c Wx k (st :: sts) (seq2 g g') :=
  PSs.imp (pss_cons h1 h2) fun D σ H ⟨F, x, I, d, p⟩ => ⟨F, x, I, d, M.post_mono (M.post_bind.mp p) (fun y q σ' H' F' J du m =>
    ⟨F', y, J, du, M.post_mono q (fun z w σ2 H2 F2 I2 d2 m2 => w σ2 H2 F2 I2 d2 (m.trans m2)) fun _ z => z⟩) fun _ z => z⟩
theorem dss2_one (h1 : DS2 X c Wx k st g) : DSs2 X c Wx k [st] g := pss_one h1
def ifs2K (g g' : E2 → M E2) (x : E2) (b : Bool) : M E2 := if b = true then g x else g' x
def ifs2 (m : List Nat) (t : En → M Bool) (g g' : E2 → M E2) (x : E2) : M E2 := t (frz m x.1) >>= ifs2K g g' x
theorem ds2_if (m : List Nat) {t : En → M Bool} {a b : List Stmt} (ht : DT X c Wx e t) (ha : DSs2 X c Wx k a g) (hb : DSs2 X c Wx k b g') : DS2 X c Wx k (.If e a b pos) (ifs2 m t g g') :=
  PS.imp (ps_if ht ha hb) fun D σ H ⟨F, x, I, d, p⟩ => et_st2 (m := m) I d p fun v H1 F1 I1 d1 m1 q => by
    have old : ∀ {g : E2 → M E2}, (g x).post (SF2 X.K c F k D) (SX X.K X.mg c Wx) → (g x).post (SF2 X.K c F1 k D) (SX X.K X.mg c Wx) := fun q => M.post_mono q (fun y z σ' H' F' J du mm => z σ' H' F' J du (m1.trans mm)) fun _ z => z
    unfold ifs2K at q
    cases v with
    | true => rw [if_pos rfl] at q ⊢; exact ⟨F1, x, I1, d1, old q⟩
    | false => rw [if_neg Bool.false_ne_true] at q ⊢; exact ⟨F1, x, I1, d1, old q⟩
/-! xs.append(e) of one's own list -/
def app2L (i : Nat) (d : DL.D) (x : E2) (xs : List DL.D) : M E2 := small xs.length (.ok (x.1.set i (some (.own (xs ++ [d]))), x.2))
def app2D (i : Nat) (x : E2) (d : DL.D) : M E2 := if noL d = true then ownAt x.1 i >>= app2L i d x else .bad
def app2W (i : Nat) (x : E2) (w : Wv) : M E2 := w.d >>= app2D i x
def app2O (m : List Nat) (i : Nat) (f : En → M Wv) (x : E2) (_ : List DL.D) : M E2 := f (frz m x.1) >>= app2W i x
def app2 (m : List Nat) (i : Nat) (f : En → M Wv) (x : E2) : M E2 := ownAt x.1 i >>= app2O m i f x
theorem ds2_app (m : List Nat) (i : Nat) {x : Str} {p1 apos cpos : Pos} (he : DE X c Wx e f) (hN : X.N[i]? = some x := by rfl) (hv : Vis X.env.scope x := by first | exact Or.inl rfl | exact Or.inr (Or.inl rfl) | exact Or.inr (Or.inr rfl)) (hd : (x == ("__debug__" : Str)) = false := by decide)
    (hcd : (x == ("__classdict__" : Str)) = false := by decide) (hb : attributeBase (.Name x p1) "append" X.env (eval (.Name x p1) X.env) = eval (.Name x p1) X.env := by rfl)
    (hfew : ((backTo cpos (starEach [e] X.env)).all (fun x => !x.1) && (backToKw cpos (keywordEach [] X.env)).all (fun x => x.1.isSome) && decide ([e].length + ([] : List Keyword).length + (if ([] : List Keyword).isEmpty then 0 else 1) < 30)) = true := by rfl)
    (hline : (apos.endLine == cpos.line) = true := by rfl) (hs : starEach [e] X.env = (false, eval e X.env) :: starEach [] X.env := by rfl) (hsw : swapsWith (.Call (.Attribute (.Name x p1) "append" apos) [e] [] cpos) none pos.line X.env = pure false := by rfl) :
    DS2 X c Wx k (.Expr (.Call (.Attribute (.Name x p1) "append" apos) [e] [] cpos) pos) (app2 m i f) := by
  refine PS.imp (ps_expr (pe_bm PySem.F.plainAttrs_list PySem.F.slot_list_append PySem.F.type_list_append mt_append (pe_var hN hv hd hcd) (pa_cons he pa_nil hs) hb hfew hline hs (by rfl)) hsw) fun D σ H ⟨F, y, I, du, p⟩ => ?_
  obtain ⟨xs0, e0, p⟩ := ownAt_ok p
  obtain ⟨v, hv, a, vs0, rfl, ha0, hF0, h00, hs0⟩ := I.slot i _ e0
  refine ⟨_, hv, .inl ⟨rfl, vs0, SqL.of ha0⟩, ?_⟩
  refine ev_st (m := m) I p fun w u Fp H1 F1 mo J s r q => ?_
  obtain ⟨d, hd, q2⟩ := d_ok q
  unfold app2D at q2
  by_cases hn : noL d = true
  · rw [if_pos hn] at q2
    obtain ⟨I1, b1, _, _⟩ := I.back mo s
    have du1 := du.back I mo s
    have ew := still_of hd hn
    subst ew
    have rd := I.backRes mo s r hn
    obtain ⟨xs, ex, z⟩ := ownAt_ok q2
    obtain ⟨hz, z⟩ := small_ok z
    obtain ⟨v2, hv2, b, vs, e2, ha, hF, h0, hs⟩ := I1.slot i _ ex
    rw [hv] at hv2
    cases hv2
    cases e2
    refine ⟨a, vs, u, rfl, rfl, ha, by rw [hs.length]; exact hz, ?_⟩
    refine z σ _ _ (I1.write ex hv (hs.append (.cons rd .nil))) ?_ b1
    obtain ⟨t, p, q, va, vb, du⟩ := du1
    obtain ⟨n1, n2⟩ := du.sep i xs a ex hv
    have nt : t ≠ a := fun z => by subst z; have := du.ht; rw [ha] at this; cases this
    have hi : i < y.1.length := (List.getElem?_eq_some_iff.mp ex).1
    have ki : i ≠ k := fun z => by subst z; have := du.kn; rw [ex] at this; cases this
    refine ⟨t, p, q, va, vb, by rw [List.getElem?_set_ne ki]; exact du.kn, du.sk, by rw [upd_ne nt]; exact du.ht, by rw [upd_ne (Ne.symm n1)]; exact du.ha, by rw [upd_ne (Ne.symm n2)]; exact du.hb, du.ft, du.fa, du.fb, du.t0, du.a0, du.b0, du.ne, du.da, du.db, fun j ys y' h1 h2 => ?_⟩
    by_cases zz : j = i
    · subst zz
      rw [hv] at h2
      cases h2
      exact ⟨n1, n2⟩
    · rw [List.getElem?_set_ne (Ne.symm zz)] at h1
      exact du.sep j ys y' h1 h2
  · rw [if_neg hn] at q2
    exact q2.elim
/-! x[int(..)].append(e) -/
def dappL (d : DL.D) (x : E2) (j : Int) : M E2 := if j = 0 then small x.2.1.length (.ok (x.1, x.2.1 ++ [d], x.2.2)) else if j = 1 then small x.2.2.length (.ok (x.1, x.2.1, x.2.2 ++ [d])) else .bad
def dappD (x : E2) (j : Int) (d : DL.D) : M E2 := if noL d = true then dappL d x j else .bad
def dappW (x : E2) (j : Int) (w : Wv) : M E2 := w.d >>= dappD x j
def dappJ (m : List Nat) (f : En → M Wv) (x : E2) (j : Int) : M E2 := if j = 0 ∨ j = 1 then f (frz m x.1) >>= dappW x j else .bad
def dappU (m : List Nat) (f : En → M Wv) (x : E2) (u : Wv) : M E2 := asI u >>= dappJ m f x
def dapp (m n : List Nat) (fi f : En → M Wv) (x : E2) : M E2 := fi (frz n x.1) >>= dappU m f x
theorem ds2_dapp (m n : List Nat) {x : Str} {p1 ip apos cpos : Pos} (hi : DE X c Wx ie fi) (he : DE X c Wx e f) (hpx : PlainIx ie := by exact fun _ _ => rfl) (hN : X.N[k]? = some x := by rfl) (hv : Vis X.env.scope x := by first | exact Or.inl rfl | exact Or.inr (Or.inl rfl) | exact Or.inr (Or.inr rfl)) (hd : (x == ("__debug__" : Str)) = false := by decide)
    (hcd : (x == ("__classdict__" : Str)) = false := by decide) (hb : attributeBase (.Subscript (.Name x p1) ie ip) "append" X.env (eval (.Subscript (.Name x p1) ie ip) X.env) = eval (.Subscript (.Name x p1) ie ip) X.env := by rfl)
    (hfew : ((backTo cpos (starEach [e] X.env)).all (fun x => !x.1) && (backToKw cpos (keywordEach [] X.env)).all (fun x => x.1.isSome) && decide ([e].length + ([] : List Keyword).length + (if ([] : List Keyword).isEmpty then 0 else 1) < 30)) = true := by rfl)
    (hline : (apos.endLine == cpos.line) = true := by rfl) (hs : starEach [e] X.env = (false, eval e X.env) :: starEach [] X.env := by rfl) (hsw : swapsWith (.Call (.Attribute (.Subscript (.Name x p1) ie ip) "append" apos) [e] [] cpos) none pos.line X.env = pure false := by rfl) :
    DS2 X c Wx k (.Expr (.Call (.Attribute (.Subscript (.Name x p1) ie ip) "append" apos) [e] [] cpos) pos) (dapp m n fi f) := by
  refine PS.imp (ps_expr (pe_bm PySem.F.plainAttrs_list PySem.F.slot_list_append PySem.F.type_list_append mt_append (pe_ix ix_tup (pe_var hN hv hd hcd) hi hpx) (pa_cons he pa_nil hs) hb hfew hline hs (by rfl)) hsw) fun D σ H ⟨F, y, I, du, p⟩ => ?_
  obtain ⟨t, a, b, va, vb, d0⟩ := id du
  refine ⟨_, d0.sk, ?_⟩
  refine ev_st (m := n) I p fun u w Fp H1 F1 mo J s r q => ?_
  obtain ⟨I1, b1, _, _⟩ := I.back mo s
  have du1 := du.back I mo s
  unfold dappU asI at q
  split at q
  · rename_i j
    have r' : DR X.K F1 w (.int j) := r
    cases r'
    unfold dappJ at q
    have hj : j = 0 ∨ j = 1 := Classical.byContradiction fun z => by
      rw [M.ok_bind, if_neg z] at q; exact q.elim
    rw [M.ok_bind, if_pos hj] at q
    obtain ⟨t', a', b', va', vb', d1⟩ := id du1
    have et : t' = t := by have := d1.sk; rw [d0.sk] at this; cases this; rfl
    subst et
    -- the list that the index chooses
    obtain ⟨l, vl, hl, hat⟩ : ∃ l vl, H1 l = some (.lst vl) ∧ atI [V.ref a', V.ref b'] j = some (.ref l) := by
      rcases hj with rfl | rfl
      · exact ⟨a', va', d1.ha, rfl⟩
      · exact ⟨b', vb', d1.hb, rfl⟩
    refine ⟨_, _, j, _, rfl, rfl, SqT.of d1.ht, hat, .inl ⟨rfl, vl, SqL.of hl⟩, ?_⟩
    refine ev_st (m := m) I1 q fun w2 u2 Fp2 H2 F2 mo2 J2 s2 r2 q2 => ?_
    obtain ⟨d, hd, q3⟩ := d_ok q2
    unfold dappD at q3
    by_cases hn : noL d = true
    · rw [if_pos hn] at q3
      obtain ⟨I2, b2, _, _⟩ := I1.back mo2 s2
      have du2 := du1.back I1 mo2 s2
      have ew := still_of hd hn
      subst ew
      have rd := I1.backRes mo2 s2 r2 hn
      obtain ⟨t2, a2, b2', va2, vb2, d2⟩ := id du2
      have et : t2 = t' := by have := d2.sk; rw [d1.sk] at this; cases this; rfl
      subst et
      have e3 : H2 t2 = some (.tup [.ref a', .ref b']) := s2.same _ _ (new_notPot I1.p0 d1.t0) d1.ht
      have ea : a2 = a' ∧ b2' = b' := by
        have := d2.ht
        rw [e3] at this
        simp only [Option.some.injEq, HO.tup.injEq, List.cons.injEq, V.ref.injEq, and_true] at this
        exact ⟨this.1.symm, this.2.symm⟩
      obtain ⟨rfl, rfl⟩ := ea
      have nta : t2 ≠ a2 := fun z => by subst z; have := d2.ht; rw [d2.ha] at this; cases this
      have ntb : t2 ≠ b2' := fun z => by subst z; have := d2.ht; rw [d2.hb] at this; cases this
      unfold dappL at q3
      -- the heap behind it, and who stands there
      have own : ∀ {l : Addr} {vl : List V}, H2 l = some (.lst vl) → c.H0 l = none → (∀ (i : Nat) (xs : List DL.D) (x : Addr), y.1[i]? = some (some (Wv.own xs)) → σ[i]? = some (some (V.ref x)) → x ≠ l) → _root_.DL.backF (backF F Fp F1) Fp2 F2 l = none → SR X.K c σ (upd H2 l (.lst (vl ++ [u2]))) (backF (backF F Fp F1) Fp2 F2) y.1 := fun {l vl} h1 h2 h3 h4 => by
        refine ⟨I2.len, ⟨I2.st.mono, fun x o ho => ?_, I2.st.new, fun x o np ho => ?_, fun pp cc he => ?_⟩, I2.p0, fun i w hw => ?_, I2.sep⟩
        · have nx : x ≠ l := fun z => by subst z; rw [h4] at ho; cases ho
          rw [upd_ne nx]; exact I2.le x o ho
        · have nx : x ≠ l := fun z => by subst z; rw [h2] at ho; cases ho
          rw [upd_ne nx]; exact I2.st.same x o np ho
        · obtain ⟨⟨_, _, _, g1⟩, _, _, g2, _⟩ := I2.p0 pp cc he
          obtain ⟨⟨i1, x1, y1, r1⟩, f1, ns1, r2', ne1⟩ := I2.pot pp cc he
          have z1 : pp ≠ l := fun z => by subst z; rw [h2] at g1; cases g1
          have z2 : cc ≠ l := fun z => by subst z; rw [h2] at g2; cases g2
          exact ⟨⟨i1, x1, y1, by rw [upd_ne z1]; exact r1⟩, f1, ns1, by rw [upd_ne z2]; exact r2', ne1⟩
        · obtain ⟨v, k1, k2⟩ := I2.slot i w hw
          refine ⟨v, k1, ?_⟩
          cases w with
          | dat _ => exact k2
          | raw _ => exact k2
          | pot => exact k2
          | own xs =>
            obtain ⟨x, vs, rfl, g1, g2, g3, g4⟩ := k2
            exact ⟨x, vs, rfl, by rw [upd_ne (h3 i xs x hw k1)]; exact g1, g2, g3, g4⟩
      rcases hj with rfl | rfl
      · rw [if_pos rfl] at q3
        obtain ⟨hz, q3⟩ := small_ok q3
        have el : l = a2 := by
          have : (some (V.ref a2) : Option V) = some (.ref l) := hat
          cases this; rfl
        subst el
        refine ⟨l, va2, u2, rfl, rfl, d2.ha, by rw [d2.da.length]; exact hz, ?_⟩
        refine q3 σ _ _ (own d2.ha d2.a0 (fun i xs x h1 h2 => (d2.sep i xs x h1 h2).1) d2.fa) ?_ (b1.trans b2)
        exact ⟨t2, l, b2', va2 ++ [u2], vb2, d2.kn, d2.sk, by rw [upd_ne nta]; exact d2.ht, upd_same, by rw [upd_ne (Ne.symm d2.ne)]; exact d2.hb, d2.ft, d2.fa, d2.fb, d2.t0, d2.a0, d2.b0, d2.ne, d2.da.append (.cons rd .nil), d2.db, d2.sep⟩
      · rw [if_neg (by decide), if_pos rfl] at q3
        obtain ⟨hz, q3⟩ := small_ok q3
        have el : l = b2' := by
          have : (some (V.ref b2') : Option V) = some (.ref l) := hat
          cases this; rfl
        subst el
        refine ⟨l, vb2, u2, rfl, rfl, d2.hb, by rw [d2.db.length]; exact hz, ?_⟩
        refine q3 σ _ _ (own d2.hb d2.b0 (fun i xs x h1 h2 => (d2.sep i xs x h1 h2).2) d2.fb) ?_ (b1.trans b2)
        exact ⟨t2, a2, l, va2, vb2 ++ [u2], d2.kn, d2.sk, by rw [upd_ne ntb]; exact d2.ht, by rw [upd_ne d2.ne]; exact d2.ha, upd_same, d2.ft, d2.fa, d2.fb, d2.t0, d2.a0, d2.b0, d2.ne, d2.da, d2.db.append (.cons rd .nil), d2.sep⟩
    · rw [if_neg hn] at q3
      exact q3.elim
  · exact q.elim
end
end DL

namespace DL
open PySem PySem.Spec PyProof.Rows L2 SeqAt HT
/-! ## the loop that lets two lists in a tuple grow -/
def loop2 (b : DL.D → En → Option En) (g : E2 → M E2) : List DL.D → E2 → M E2
  | [], x => .ok x
  | d :: ds, x => match b d x.1 with
    | none => .bad
    | some ρ1 => g (ρ1, x.2) >>= loop2 b g ds
def for2K (b : DL.D → En → Option En) (g : E2 → M E2) (x : E2) (ds : List DL.D) : M E2 := loop2 b g ds x
def for2 (src : En → M (List DL.D)) (b : DL.D → En → Option En) (g : E2 → M E2) (x : E2) : M E2 := src x.1 >>= for2K b g x
section
variable {X : Cx} {c : Act} {Wx : WX} {sts : List Stmt} {g : E2 → M E2} {g' : En → M Fl} {e1 e2 : Expr} {f1 f2 : En → M Wv} {pos : Pos} {k : Nat}
theorem ds2_for {iter : Expr} {body : List Stmt} {src : En → M (List DL.D)} {i : Nat} {y : Str} {py : Pos} (hp : PassesOwn (model X.prog X.w) X.A X.env X.xe) (hc : X.calm = true) (hi : DI X c Wx (.Name y py) iter src) (hg : DG X c (.Name y py) [i] (bN i)) (hik : i ≠ k) (hb : DSs2 X c Wx k body g)
    (hs : ∀ x, foldedSetIterable iter X.env x = pure x := by intro _; rfl) : DS2 X c Wx k (.For (.Name y py) iter body [] pos) (for2 src (bN i) g) :=
  PS.imp (ps_for hp hc hi hg hb hs) fun D σ H ⟨F, x, I, du, p⟩ => by
    refine ⟨F, x.1, I, M.post_mono (M.post_bind.mp p) (fun ds q H1 F1 s It hI => ?_) fun e q cls d H1 F1 s x => q cls d σ H1 F1 (I.st.trans I.p0 s) x⟩
    have sF : Same F F1 := s.mono
    refine ⟨fun n r σ' H' => r = ds.length - n ∧ n ≤ ds.length ∧ ∃ F' x', SR X.K c σ' H' F' x'.1 ∧ Duo X.K c σ' H' F' x'.1 k x'.2.1 x'.2.2 ∧ Same F1 F' ∧ (loop2 (bN i) g (ds.drop n) x').post (SF2 X.K c F k D) (SX X.K X.mg c Wx), ⟨ds.length, by simp, Nat.zero_le _, F1, x, I.step s, du.step I s, Same.refl F1, q⟩, ?_⟩
    rintro n r σ' H' ⟨rfl, hle, F', x', I', du', m', q'⟩
    obtain ⟨hgo, hstop⟩ := hI n H' F' m' I'.le I'.pot
    by_cases hlt : n < ds.length
    · obtain ⟨d, e1, e2⟩ := drop_at hlt
      obtain ⟨go, yl⟩ := hgo d e1
      rw [e2] at q'
      refine .inr ⟨go, fun σ2 H2 => ∃ F2 x2, SR X.K c σ2 H2 F2 x2.1 ∧ Duo X.K c σ2 H2 F2 x2.1 k x2.2.1 x2.2.2 ∧ Same F1 F2 ∧ (loop2 (bN i) g (ds.drop (n + 1)) x2).post (SF2 X.K c F k D) (SX X.K X.mg c Wx), fun σ2 H2 ⟨F2, x2, I2, d2, m2, q2⟩ => ⟨ds.length - (n + 1), by omega, rfl, hlt, F2, x2, I2, d2, m2, q2⟩, fun v H2 y => ?_⟩
      obtain ⟨F2, s2, hd⟩ := yl v H2 y
      have m2 := m'.trans s2.mono
      have dus := du'.step I' s2
      rw [loop2] at q'
      refine ⟨F2, x'.1, d, I'.step s2, hd, x'.1.set i (some (.dat d)), rfl, fun σ3 I3 hw => ⟨F2, (x'.1.set i (some (.dat d)), x'.2), I3, ?_, M.post_mono (M.post_bind.mp q') (fun x2 z σ4 H4 F4 I4 d4 m4 => ⟨F4, x2, I4, d4, m2.trans m4, z⟩) fun _ z => z⟩⟩
      have hσ : ∀ j, j ≠ i → σ3[j]? = σ'[j]? := fun j hj => by
        have e := hw [i] (fun _ h => h)
        have a1 := wipe_at (σ := σ3) (j := j) (vs := [i])
        have a2 := wipe_at (σ := σ') (j := j) (vs := [i])
        rw [if_neg (by simpa using hj)] at a1 a2
        rw [← a1, ← a2, e]
      obtain ⟨t, a, b, va, vb, D0⟩ := dus
      refine ⟨t, a, b, va, vb, by rw [List.getElem?_set_ne hik]; exact D0.kn, by rw [hσ k (Ne.symm hik)]; exact D0.sk, D0.ht, D0.ha, D0.hb, D0.ft, D0.fa, D0.fb, D0.t0, D0.a0, D0.b0, D0.ne, D0.da, D0.db, fun j xs z h1 h2 => ?_⟩
      by_cases zz : j = i
      · subst zz
        have hl : j < x'.1.length := by
          by_cases q : j < x'.1.length
          · exact q
          · rw [List.getElem?_eq_none (by rw [List.length_set]; omega)] at h1; cases h1
        rw [List.getElem?_set_self hl] at h1
        cases h1
      · rw [List.getElem?_set_ne (Ne.symm zz)] at h1
        rw [hσ j zz] at h2
        exact D0.sep j xs z h1 h2
    · have e : n = ds.length := by omega
      rw [e, List.drop_length] at q'
      exact .inl ⟨hstop e, q' σ' H' F' I' du' (sF.trans m')⟩
/-- one more object is frozen -/
theorem SR.more {K : PySem.W.Frag} {σ : L2.St} {H F : Hp} {ρ : En} {x : Addr} {o : HO} (I : SR K c σ H F ρ) (hx : H x = some o) (hF : F x = none) (h0 : c.H0 x = none)
    (hs : ∀ (i : Nat) (xs : List DL.D) (y : Addr), ρ[i]? = some (some (Wv.own xs)) → σ[i]? = some (some (V.ref y)) → y ≠ x) : SR K c σ H (upd F x o) ρ ∧ Same F (upd F x o) := by
  obtain ⟨m, l, p⟩ := Step.freeze I.le I.pot hx hF (new_notPot I.p0 h0)
  refine ⟨⟨I.len, ⟨I.st.mono.trans m, l, fun b o q => ?_, I.st.same, p⟩, I.p0, fun j w q => ?_, I.sep⟩, m⟩
  · by_cases z : b = x
    · subst z; exact .inr h0
    · rw [upd_ne z] at q; exact I.st.new b o q
  · obtain ⟨u, h1, h2⟩ := I.slot j w q
    refine ⟨u, h1, ?_⟩
    cases w with
    | dat d => exact DR.mono m h2
    | own ys =>
      obtain ⟨b, us, rfl, hb, hFb, h0b, hsb⟩ := h2
      exact ⟨b, us, rfl, hb, by rw [upd_ne (hs j ys b q h1)]; exact hFb, h0b, hsb.mono m⟩
    | raw _ => exact h2
    | pot => exact h2
/-- behind the loop the tuple and its lists are data -/
theorem Duo.fix {K : PySem.W.Frag} {σ : L2.St} {H F : Hp} {ρ : En} {A B : List DL.D} (I : SR K c σ H F ρ) (du : Duo K c σ H F ρ k A B) : ∃ G, SR K c σ H G (ρ.set k (some (.dat (.tuple [.list A, .list B])))) ∧ Same F G := by
  obtain ⟨t, a, b, va, vb, D⟩ := du
  have nta : t ≠ a := fun z => by subst z; have := D.ht; rw [D.ha] at this; cases this
  have ntb : t ≠ b := fun z => by subst z; have := D.ht; rw [D.hb] at this; cases this
  obtain ⟨I1, m1⟩ := I.more D.ha D.fa D.a0 fun i xs y h1 h2 => (D.sep i xs y h1 h2).1
  obtain ⟨I2, m2⟩ := I1.more D.hb (by rw [upd_ne (Ne.symm D.ne)]; exact D.fb) D.b0 fun i xs y h1 h2 => (D.sep i xs y h1 h2).2
  obtain ⟨I3, m3⟩ := I2.more D.ht (by rw [upd_ne ntb, upd_ne nta]; exact D.ft) D.t0 fun i xs y h1 h2 z => by
    subst z
    obtain ⟨v, k1, x, vs, rfl, g1, _⟩ := I.slot i _ h1
    rw [k1] at h2
    cases h2
    rw [D.ht] at g1; cases g1
  have M := (m1.trans m2).trans m3
  refine ⟨_, ?_, M⟩
  have dt : DR K (upd (upd (upd F a (.lst va)) b (.lst vb)) t (.tup [.ref a, .ref b])) (.ref t) (.tuple [.list A, .list B]) := by
    refine .tup (SqT.of upd_same) (.cons (.lst ?_ (D.da.mono M)) (.cons (.lst ?_ (D.db.mono M)) .nil))
    · rw [upd_ne (Ne.symm nta), upd_ne D.ne, upd_same]
    · rw [upd_ne (Ne.symm ntb), upd_same]
  have := I3.setD (i := k) dt
  have e : σ.set k (some (.ref t)) = σ := by
    apply List.ext_getElem?
    intro j
    by_cases z : k = j
    · subst z
      have hl : k < σ.length := (List.getElem?_eq_some_iff.mp D.sk).1
      rw [List.getElem?_set_self hl, D.sk]
    · rw [List.getElem?_set_ne z]
  rw [e] at this
  exact this
/-! the whole: x, y, z = e1, e2, ([], []); for v in ..: .. -/
def duoE (k : Nat) (x : E2) : M Fl := .ok (.nx (x.1.set k (some (.dat (.tuple [.list x.2.1, .list x.2.2])))))
def duoW (m : List Nat) (i1 i2 k : Nat) (g : E2 → M E2) (ρ : En) (d1 : DL.D) (w : Wv) : M Fl := if k < ρ.length then g ((((frz m ρ).set i1 (some (.dat d1))).set i2 (some w)).set k none, [], []) >>= duoE k else .bad
def duoD (m : List Nat) (i1 i2 k : Nat) (f2 : En → M Wv) (g : E2 → M E2) (ρ : En) (d1 : DL.D) : M Fl := f2 (frz m ρ) >>= duoW m i1 i2 k g ρ d1
def duoU (m : List Nat) (i1 i2 k : Nat) (f2 : En → M Wv) (g : E2 → M E2) (ρ : En) (u : Wv) : M Fl := u.d >>= duoD m i1 i2 k f2 g ρ
def duoS (m : List Nat) (i1 i2 k : Nat) (f1 f2 : En → M Wv) (g : E2 → M E2) (ρ : En) : M Fl := f1 (frz m ρ) >>= duoU m i1 i2 k f2 g ρ
theorem dss_duo (m : List Nat) (i1 i2 : Nat) {x1 x2 x3 : Str} {q1 q2 q3 pt p3 p4 p5 : Pos} {kt k2 k3 : Nat} {pt2 : Pos} {st2 : Stmt} (hc : X.calm = true) (hN : X.N.Nodup) (n1 : X.N[i1]? = some x1) (n2 : X.N[i2]? = some x2) (n3 : X.N[k]? = some x3) (h12 : i1 ≠ i2) (h1k : i1 ≠ k) (h2k : i2 ≠ k)
    (l1 : Loc X.env.scope x1) (l2 : Loc X.env.scope x2) (l3 : Loc X.env.scope x3)
    (fx1 : X.fn x1 = true ∨ X.env.scope.names.lookup x1 = some .local) (fx2 : X.fn x2 = true ∨ X.env.scope.names.lookup x2 = some .local) (fx3 : X.fn x3 = true ∨ X.env.scope.names.lookup x3 = some .local)
    (h1 : DE X c Wx e1 f1) (h2 : DE X c Wx e2 f2) (hf : DS2 X c Wx k st2 g) (hr : DSs X c Wx sts g')
    (hw : swappedStores [.Tuple [.Name x1 q1, .Name x2 q2, .Name x3 q3] kt pt] (.Tuple [e1, e2, .Tuple [.List [] p3, .List [] p4] k3 p5] k2 pt2) X.env = pure none)
    (hs : swapsWithSole [.Tuple [.Name x1 q1, .Name x2 q2, .Name x3 q3] kt pt] (.Tuple [e1, e2, .Tuple [.List [] p3, .List [] p4] k3 p5] k2 pt2) pos.line X.env = pure false := by rfl)
    (s1 : starEach [e1, e2, .Tuple [.List [] p3, .List [] p4] k3 p5] X.env = (false, eval e1 X.env) :: starEach [e2, .Tuple [.List [] p3, .List [] p4] k3 p5] X.env := by rfl)
    (s2 : starEach [e2, .Tuple [.List [] p3, .List [] p4] k3 p5] X.env = (false, eval e2 X.env) :: starEach [.Tuple [.List [] p3, .List [] p4] k3 p5] X.env := by rfl)
    (s3 : starEach [.Tuple [.List [] p3, .List [] p4] k3 p5] X.env = (false, eval (.Tuple [.List [] p3, .List [] p4] k3 p5) X.env) :: starEach [] X.env := by rfl)
    (s4 : starEach [.List [] p3, .List [] p4] X.env = (false, eval (.List [] p3) X.env) :: starEach [.List [] p4] X.env := by rfl)
    (s5 : starEach [.List [] p4] X.env = (false, eval (.List [] p4) X.env) :: starEach [] X.env := by rfl)
    (h3 : (assignEach [.Tuple [.Name x1 q1, .Name x2 q2, .Name x3 q3] kt pt] X.env).map (·.2) = [assign (.Tuple [.Name x1 q1, .Name x2 q2, .Name x3 q3] kt pt) X.env] := by rfl)
    (hn : (assignEach [.Name x1 q1, .Name x2 q2, .Name x3 q3] X.env).length = 3 := by rfl) (hst : (assignEach [.Name x1 q1, .Name x2 q2, .Name x3 q3] X.env).findIdx? (·.1) = none := by rfl)
    (g1 : (assignEach [.Name x1 q1, .Name x2 q2, .Name x3 q3] X.env).map (·.2) = assign (.Name x1 q1) X.env :: (assignEach [.Name x2 q2, .Name x3 q3] X.env).map (·.2) := by rfl)
    (g2 : (assignEach [.Name x2 q2, .Name x3 q3] X.env).map (·.2) = assign (.Name x2 q2) X.env :: (assignEach [.Name x3 q3] X.env).map (·.2) := by rfl)
    (g3 : (assignEach [.Name x3 q3] X.env).map (·.2) = assign (.Name x3 q3) X.env :: (assignEach [] X.env).map (·.2) := by rfl) :
    DSs X c Wx (.Assign [.Tuple [.Name x1 q1, .Name x2 q2, .Name x3 q3] kt pt] (.Tuple [e1, e2, .Tuple [.List [] p3, .List [] p4] k3 p5] k2 pt2) pos :: st2 :: sts) (seq (duoS m i1 i2 k f1 f2 g) g') :=
  PSs.imp (pss_cons (ps_asg (pe_tup (pa_cons h1 (pa_cons h2 (pa_cons (pe_tup (pa_cons (pe_lst pa_nil) (pa_cons (pe_lst pa_nil) pa_nil s5) s4)) pa_nil s3) s2) s1)) (pg_tup (n := 3) hc (pgs_cons (pg_name hN n1 l1 fx1) (pgs_cons (pg_name hN n2 l2 fx2) (pgs_cons (pg_name hN n3 l3 fx3) pgs_nil g3) g2) g1) hn hst) hs hw h3) (pss_cons hf hr)) fun D σ H ⟨F, ρ, I, p⟩ => by
    unfold seq duoS at p
    rw [M.bind_assoc'] at p
    refine ev_st (m := m) I p fun u v1 Fp H1 F1 mo J sA r1 q => ?_
    unfold duoU at q
    rw [M.bind_assoc'] at q
    obtain ⟨d1, hd1, q⟩ := d_ok q
    obtain ⟨F1', sA', _, rd1⟩ := Res.give (F0 := Fp) r1 hd1 J.pot sA
    unfold duoD at q
    rw [M.bind_assoc'] at q
    refine ⟨F1', frz m ρ, J.step sA', M.post_mono (M.post_bind.mp q) (fun w q H2 F2 sB v2 r2 => ?_) fun e q cls d H2 F2 s2 x => q cls d σ H2 F2 ((J.step sA').st.trans J.p0 s2) x⟩
    unfold duoW at q
    by_cases hk : k < ρ.length
    · rw [if_pos hk] at q
      refine ⟨by rw [sizeLine_eq]; simp, fun a ha => ⟨by rw [sizeLine_eq]; simp, fun b hb => ⟨by rw [sizeLine_eq]; simp, fun t ht => ⟨by rw [sizeLine_eq]; simp, fun t5 ht5 => ⟨t5, [v1, v2, .ref t], rfl, SqT.of upd_same, rfl, v1, [v2, .ref t], rfl, v2, [.ref t], rfl, .ref t, [], rfl, rfl, ?_⟩⟩⟩⟩⟩
      have sAB := sA'.trans J.pot sB
      have J2 := J.step sAB
      have c1 := Step.layH (o := .lst []) J2.le J2.pot ha
      have J3 := J2.step c1
      have c2 := Step.layH (o := .lst []) J3.le J3.pot hb
      have J4 := J3.step c2
      have c3 := Step.layH (o := .tup [.ref a, .ref b]) J4.le J4.pot ht
      have J5 := J4.step c3
      have c4 := Step.layH (o := .tup [v1, v2, .ref t]) J5.le J5.pot ht5
      have J6 := J5.step c4
      have c34 := c3.trans J4.pot c4
      have c234 := c2.trans J3.pot c34
      have cc := c1.trans J2.pot c234
      have r2' := Res.later r2 (J.step sA').pot cc
      have rd1' : DR X.K F2 v1 d1 := rd1.mono sB.mono
      -- fresh addresses
      have nab : a ≠ b := fun z => by subst z; rw [upd_same] at hb; cases hb
      have hb2 : H2 b = none := by rw [upd_ne (Ne.symm nab)] at hb; exact hb
      have nta : t ≠ a := fun z => by subst z; rw [upd_ne nab, upd_same] at ht; cases ht
      have ntb : t ≠ b := fun z => by subst z; rw [upd_same] at ht; cases ht
      have ht2 : H2 t = none := by rw [upd_ne ntb, upd_ne nta] at ht; exact ht
      have n5a : t5 ≠ a := fun z => by subst z; rw [upd_ne (Ne.symm nta), upd_ne nab, upd_same] at ht5; cases ht5
      have n5b : t5 ≠ b := fun z => by subst z; rw [upd_ne (Ne.symm ntb), upd_same] at ht5; cases ht5
      have n5t : t5 ≠ t := fun z => by subst z; rw [upd_same] at ht5; cases ht5
      have fnone : ∀ {x : Addr}, H2 x = none → F2 x = none := fun {x} hx => by
        cases e : F2 x with
        | none => rfl
        | some o => have := J2.le x o e; rw [hx] at this; cases this
      have none0 : ∀ {x : Addr}, H2 x = none → c.H0 x = none := fun {x} hx => J2.st.none_of J2.p0 hx
      -- the slots
      have S1 := J6.setD (i := i1) rd1'
      have n0 : ∀ x, H1 x = none → c.H0 x = none := fun x z => (J.step sA').st.none_of J.p0 z
      have own1 : ∀ (j : Nat) (ys : List DL.D) (x : Addr), ((frz m ρ).set i1 (some (.dat d1)))[j]? = some (some (.own ys)) → (σ.set i1 (some v1))[j]? = some (some (.ref x)) → H1 x ≠ none := fun j ys x e1 e2 => by
        by_cases z : j = i1
        · subst z
          have hl : j < (frz m ρ).length := by
            by_cases q : j < (frz m ρ).length
            · exact q
            · rw [List.getElem?_eq_none (by rw [List.length_set]; omega)] at e1; cases e1
          rw [List.getElem?_set_self hl] at e1; cases e1
        · rw [List.getElem?_set_ne (Ne.symm z)] at e1 e2
          exact fun z => J.ownAt e1 e2 (sA'.none_of J.pot z)
      have S2 := S1.set (i := i2) r2' n0 own1
      have S3 := S2.drop k (some (.ref t))
      have kl : k < (((frz m ρ).set i1 (some (.dat d1))).set i2 (some w)).length := by rw [List.length_set, List.length_set, frz_length]; exact hk
      have ks : k < ((σ.set i1 (some v1)).set i2 (some v2)).length := by rw [← S2.len]; exact kl
      have du : Duo X.K c (((σ.set i1 (some v1)).set i2 (some v2)).set k (some (.ref t))) (upd (upd (upd (upd H2 a (.lst [])) b (.lst [])) t (.tup [.ref a, .ref b])) t5 (.tup [v1, v2, .ref t])) F2 ((((frz m ρ).set i1 (some (.dat d1))).set i2 (some w)).set k none) k [] [] := by
        refine ⟨t, a, b, [], [], by rw [List.getElem?_set_self kl], by rw [List.getElem?_set_self ks], by rw [upd_ne (Ne.symm n5t), upd_same], by rw [upd_ne (Ne.symm n5a), upd_ne (Ne.symm nta), upd_ne nab, upd_same], by rw [upd_ne (Ne.symm n5b), upd_ne (Ne.symm ntb), upd_same], fnone ht2, fnone ha, fnone hb2, none0 ht2, none0 ha, none0 hb2, nab, .nil, .nil, fun j xs x e1 e2 => ?_⟩
        -- an own list of a slot is older than the two, or the second value
        have hx : H2 x ≠ none := by
          by_cases zk : j = k
          · subst zk
            rw [List.getElem?_set_self kl] at e1; cases e1
          · rw [List.getElem?_set_ne (Ne.symm zk)] at e1 e2
            by_cases z2 : j = i2
            · subst z2
              have hl : j < ((frz m ρ).set i1 (some (.dat d1))).length := by
                by_cases q : j < ((frz m ρ).set i1 (some (.dat d1))).length
                · exact q
                · rw [List.getElem?_eq_none (by rw [List.length_set]; omega)] at e1; cases e1
              rw [List.getElem?_set_self hl] at e1
              have hl2 : j < (σ.set i1 (some v1)).length := by rw [← S1.len]; exact hl
              rw [List.getElem?_set_self hl2] at e2
              cases e1
              cases e2
              obtain ⟨x2, vs, e3, g1, _⟩ := r2
              cases e3
              rw [g1]; exact fun z => nomatch z
            · rw [List.getElem?_set_ne (Ne.symm z2)] at e1 e2
              have := own1 j xs x e1 e2
              exact fun z => this (sB.none_of (J.step sA').pot z)
        exact ⟨fun z => by subst z; exact hx ha, fun z => by subst z; exact hx hb2⟩
      have sF : Same F F2 := mo.1.trans sAB.mono
      rw [M.bind_assoc'] at q
      refine ⟨F2, (_, [], []), S3, du, M.post_mono (M.post_bind.mp q) (fun x z σ' H' F' I' du' m' => ?_) fun _ z => z⟩
      obtain ⟨G, I7, m7⟩ := du'.fix I'
      refine ⟨G, _, I7, M.post_mono z (fun fl y => y.older ((sF.trans m').trans m7)) fun _ z => z⟩
    · rw [if_neg hk] at q
      exact q.elim
end
end DL

namespace DL
open PySem PySem.Spec PyProof.Rows L2 SeqAt HT
section
variable {X : Cx} {c : Act} {Wx : WX} {e : Expr} {f : En → M Wv} {pos : Pos}
/-! ## xs.extend(e), xs.clear(), a, b = a list -/
def ext1 (i : Nat) (ys : List DL.D) (ρ : En) (xs : List DL.D) : M Fl := small (xs.length + ys.length) (.ok (.nx (ρ.set i (some (.own (xs ++ ys))))))
def extW (i : Nat) (ρ : En) : Wv → M Fl
  | .own ys => if noLs ys = true then ownAt ρ i >>= ext1 i ys ρ else .bad
  | _ => .bad
def extO (m : List Nat) (i : Nat) (f : En → M Wv) (ρ : En) (_ : List DL.D) : M Fl := f (frz m ρ) >>= extW i ρ
def ext (m : List Nat) (i : Nat) (f : En → M Wv) (ρ : En) : M Fl := ownAt ρ i >>= extO m i f ρ
theorem ds_ext (m : List Nat) (i : Nat) {x : Str} {p1 apos cpos : Pos} (he : DE X c Wx e f) (hN : X.N[i]? = some x := by rfl) (hv : Vis X.env.scope x := by first | exact Or.inl rfl | exact Or.inr (Or.inl rfl) | exact Or.inr (Or.inr rfl)) (hd : (x == ("__debug__" : Str)) = false := by decide)
    (hcd : (x == ("__classdict__" : Str)) = false := by decide) (hb : attributeBase (.Name x p1) "extend" X.env (eval (.Name x p1) X.env) = eval (.Name x p1) X.env := by rfl)
    (hfew : ((backTo cpos (starEach [e] X.env)).all (fun x => !x.1) && (backToKw cpos (keywordEach [] X.env)).all (fun x => x.1.isSome) && decide ([e].length + ([] : List Keyword).length + (if ([] : List Keyword).isEmpty then 0 else 1) < 30)) = true := by rfl)
    (hline : (apos.endLine == cpos.line) = true := by rfl) (hs : starEach [e] X.env = (false, eval e X.env) :: starEach [] X.env := by rfl) (hsw : swapsWith (.Call (.Attribute (.Name x p1) "extend" apos) [e] [] cpos) none pos.line X.env = pure false := by rfl) :
    DS X c Wx (.Expr (.Call (.Attribute (.Name x p1) "extend" apos) [e] [] cpos) pos) (ext m i f) := by
  refine PS.imp (ps_expr (pe_bm PySem.F.plainAttrs_list PySem.F.slot_list_extend PySem.F.type_list_extend mt_extend (pe_var hN hv hd hcd) (pa_cons he pa_nil hs) hb hfew hline hs (by rfl)) hsw) fun D σ H ⟨F, ρ, I, p⟩ => ?_
  obtain ⟨xs0, e0, p⟩ := ownAt_ok p
  obtain ⟨v, hv, a, vs0, rfl, ha0, hF0, h00, hs0⟩ := I.slot i _ e0
  refine ⟨_, hv, .inl ⟨rfl, vs0, SqL.of ha0⟩, ?_⟩
  refine ev_st (m := m) I p fun w u Fp H1 F1 mo J s r q => ?_
  unfold extW at q
  split at q
  · rename_i ys
    by_cases hn : noLs ys = true
    · rw [if_pos hn] at q
      obtain ⟨I1, b1, _, _⟩ := I.back mo s
      obtain ⟨b, us, rfl, hB, _, hb0, hd⟩ := I.backRes mo s r hn
      obtain ⟨xs, ex, z⟩ := ownAt_ok q
      obtain ⟨hz, z⟩ := small_ok z
      obtain ⟨v2, hv2, a2, vs, e2, ha, hF, h0, hs⟩ := I1.slot i _ ex
      rw [hv] at hv2
      cases hv2
      cases e2
      refine ⟨a, b, vs, us, rfl, rfl, ha, hB, by rw [hs.length, hd.length]; exact Nat.le_of_lt hz, ?_⟩
      exact z σ _ _ (I1.write ex hv (hs.append hd)) b1
    · rw [if_neg hn] at q
      exact q.elim
  · exact q.elim
def clr1 (i : Nat) (ρ : En) (_ : List DL.D) : M Fl := .ok (.nx (ρ.set i (some (.own []))))
def clr (i : Nat) (ρ : En) : M Fl := ownAt ρ i >>= clr1 i ρ
theorem ds_clr (i : Nat) {x : Str} {p1 apos cpos : Pos} (hN : X.N[i]? = some x := by rfl) (hv : Vis X.env.scope x := by first | exact Or.inl rfl | exact Or.inr (Or.inl rfl) | exact Or.inr (Or.inr rfl)) (hd : (x == ("__debug__" : Str)) = false := by decide)
    (hcd : (x == ("__classdict__" : Str)) = false := by decide) (hb : attributeBase (.Name x p1) "clear" X.env (eval (.Name x p1) X.env) = eval (.Name x p1) X.env := by rfl)
    (hline : (apos.endLine == cpos.line) = true := by rfl) (hsw : swapsWith (.Call (.Attribute (.Name x p1) "clear" apos) [] [] cpos) none pos.line X.env = pure false := by rfl) :
    DS X c Wx (.Expr (.Call (.Attribute (.Name x p1) "clear" apos) [] [] cpos) pos) (clr i) := by
  refine PS.imp (ps_expr (pe_bm0 PySem.F.plainAttrs_list PySem.F.slot_list_clear PySem.F.type_list_clear mt_clear (pe_var hN hv hd hcd) hb hline) hsw) fun D σ H ⟨F, ρ, I, p⟩ => ?_
  obtain ⟨xs0, e0, p⟩ := ownAt_ok p
  obtain ⟨v, hv, a, vs0, rfl, ha0, hF0, h00, hs0⟩ := I.slot i _ e0
  refine ⟨_, hv, .inl ⟨rfl, vs0, SqL.of ha0⟩, a, vs0, rfl, rfl, ha0, ?_⟩
  exact p σ _ _ (I.write e0 hv .nil) (Same.refl F)
def bL (is : List Nat) (d : DL.D) (ρ : En) : Option En := match d with
  | .list ds => if ds.length = is.length then some (setL is ds ρ) else none
  | _ => none
theorem dg_lst {es : List Expr} {is : List Nat} {t : TGs} {k : Nat} {pos : Pos} (hc : X.calm = true) (h : DGN X es is t) (h2 : PGs X es t) (hn : (assignEach es X.env).length = es.length := by rfl) (hst : (assignEach es X.env).findIdx? (·.1) = none := by rfl) : DG X c (.Tuple es k pos) is (bL is) :=
  PG.imp (pg_lst (n := es.length) hc h2 hn hst) fun v σ H Q ⟨F, ρ, d, I, hd, ρ', e, p⟩ => by
    unfold bL at e
    split at e
    · rename_i ds
      split at e
      · rename_i hl
        cases e
        cases hd with
        | lst hs ha => exact ⟨_, _, rfl, SqL.of (I.le _ _ hs), by rw [ha.length, hl, h.len], h.set I ha hl p⟩
      · cases e
    · cases e
def unlD (m is : List Nat) (ρ : En) (d : DL.D) : M Fl := match bL is d (frz m ρ) with
  | some ρ' => .ok (.nx ρ')
  | none => .bad
def unlW (m is : List Nat) (ρ : En) (w : Wv) : M Fl := w.d >>= unlD m is ρ
def unl (m is : List Nat) (f : En → M Wv) (ρ : En) : M Fl := f (frz m ρ) >>= unlW m is ρ
theorem ds_unl (m : List Nat) {tg : Expr} {is : List Nat} (he : DE X c Wx e f) (hg : DG X c tg is (bL is)) (hs : swapsWithSole [tg] e pos.line X.env = pure false := by rfl) (hw : swappedStores [tg] e X.env = pure none := by rfl) (h1 : (assignEach [tg] X.env).map (·.2) = [assign tg X.env] := by rfl) : DS X c Wx (.Assign [tg] e pos) (unl m is f) :=
  PS.imp (ps_asg he hg hs hw h1) fun D σ H ⟨F, ρ, I, p⟩ => by
    refine ev_st (m := m) I p fun w v Fp H1 F1 mo J s r q => ?_
    obtain ⟨d, hd, q2⟩ := d_ok q
    obtain ⟨F2, s2, _, rd⟩ := Res.give (F0 := Fp) r hd J.pot s
    have L := J.step s2
    have sm := mo.1.trans s2.mono
    unfold unlD at q2
    split at q2
    · rename_i ρ2 eb
      exact ⟨F2, _, d, L, rd, ρ2, eb, fun σ' L' _ => q2 σ' H1 F2 L' sm⟩
    · exact q2.elim
end
section
variable {m n vs : List Nat} {i i1 i2 j k : Nat} {f fi f1 f2 : En → M Wv} {g g' : E2 → M E2} {t : En → M Bool} {ρ : En} {x : E2} {w u : Wv} {d d1 : DL.D} {ds xs ys : List DL.D} {b : DL.D → En → Option En} {src : En → M (List DL.D)} {is : List Nat}
/-! reckoning rules -/
theorem seq2_e : seq2 g g' x = g x >>= g' := id rfl
theorem skip2_e : skip2 x = .ok x := id rfl
theorem ifs2_e : ifs2 m t g g' x = t (frz m x.1) >>= ifs2K g g' x := id rfl
theorem ifs2K_true : ifs2K g g' x true = g x := id rfl
theorem ifs2K_false : ifs2K g g' x false = g' x := id rfl
theorem app2_e : app2 m i f x = ownAt x.1 i >>= app2O m i f x := id rfl
theorem app2O_e : app2O m i f x xs = f (frz m x.1) >>= app2W i x := id rfl
theorem app2W_e : app2W i x w = w.d >>= app2D i x := id rfl
theorem app2D_e : app2D i x d = sel (noL d) (ownAt x.1 i >>= app2L i d x) .bad := by
  unfold app2D
  cases noL d <;> rfl
theorem app2L_e : app2L i d x xs = small xs.length (.ok (x.1.set i (some (.own (xs ++ [d]))), x.2)) := id rfl
theorem dapp_e : dapp m n fi f x = fi (frz n x.1) >>= dappU m f x := id rfl
theorem dappU_e : dappU m f x u = asI u >>= dappJ m f x := id rfl
theorem dappJ0 : dappJ m f x 0 = f (frz m x.1) >>= dappW x 0 := if_pos (.inl rfl)
theorem dappJ1 : dappJ m f x 1 = f (frz m x.1) >>= dappW x 1 := if_pos (.inr rfl)
theorem dappW_e {z : Int} : dappW x z w = w.d >>= dappD x z := id rfl
theorem dappD_e {z : Int} : dappD x z d = sel (noL d) (dappL d x z) .bad := by
  unfold dappD
  cases noL d <;> rfl
theorem dappL0 : dappL d x 0 = small x.2.1.length (.ok (x.1, x.2.1 ++ [d], x.2.2)) := if_pos rfl
theorem dappL1 : dappL d x 1 = small x.2.2.length (.ok (x.1, x.2.1, x.2.2 ++ [d])) := by unfold dappL; rw [if_neg (by decide), if_pos rfl]
theorem for2_e : for2 src b g x = src x.1 >>= for2K b g x := id rfl
theorem for2K_e : for2K b g x ds = loop2 b g ds x := id rfl
theorem duoS_e : duoS m i1 i2 k f1 f2 g ρ = f1 (frz m ρ) >>= duoU m i1 i2 k f2 g ρ := id rfl
theorem duoU_e : duoU m i1 i2 k f2 g ρ u = u.d >>= duoD m i1 i2 k f2 g ρ := id rfl
theorem duoD_e : duoD m i1 i2 k f2 g ρ d1 = f2 (frz m ρ) >>= duoW m i1 i2 k g ρ d1 := id rfl
theorem duoW_e (h : k < ρ.length) : duoW m i1 i2 k g ρ d1 w = g ((((frz m ρ).set i1 (some (.dat d1))).set i2 (some w)).set k none, [], []) >>= duoE k := if_pos h
theorem duoE_e : duoE k x = .ok (.nx (x.1.set k (some (.dat (.tuple [.list x.2.1, .list x.2.2]))))) := id rfl
theorem ext_e : ext m i f ρ = ownAt ρ i >>= extO m i f ρ := id rfl
theorem extO_e : extO m i f ρ xs = f (frz m ρ) >>= extW i ρ := id rfl
theorem extW_e : extW i ρ (.own ys) = sel (noLs ys) (ownAt ρ i >>= ext1 i ys ρ) .bad := by
  show (if noLs ys = true then ownAt ρ i >>= ext1 i ys ρ else M.bad) = _
  cases noLs ys <;> rfl
theorem ext1_e : ext1 i ys ρ xs = small (xs.length + ys.length) (.ok (.nx (ρ.set i (some (.own (xs ++ ys)))))) := id rfl
theorem clr_e : clr i ρ = ownAt ρ i >>= clr1 i ρ := id rfl
theorem clr1_e : clr1 i ρ xs = .ok (.nx (ρ.set i (some (.own [])))) := id rfl
theorem unl_e : unl m is f ρ = f (frz m ρ) >>= unlW m is ρ := id rfl
theorem unlW_e : unlW m is ρ w = w.d >>= unlD m is ρ := id rfl
theorem unlD_e (h : ds.length = is.length) : unlD m is ρ (.list ds) = .ok (.nx (setL is ds (frz m ρ))) := by
  unfold unlD bL
  simp [h]
/-- a loop with draws that lets two lists grow -/
theorem loop2P {P : E2 → Prop} (I : List DL.D → E2 → Prop) : ∀ {ds : List DL.D} {x : E2}, I ds x → (∀ x, I [] x → P x) →
    (∀ d ds x, I (d :: ds) x → ∃ ρ1, b d x.1 = some ρ1 ∧ (g (ρ1, x.2)).post (fun y => I ds y) (fun _ => False)) → (loop2 b g ds x).post P (fun _ => False)
  | [], x, h, h0, _ => h0 x h
  | d :: ds, x, h, h0, hs => by
    obtain ⟨ρ1, h1, h2⟩ := hs d ds x h
    unfold loop2
    rw [h1]
    exact M.post_bind.mpr (M.post_mono h2 (fun y z => loop2P I z h0 hs) fun _ z => z.elim)
end
end DL

namespace DL
open PySem PySem.Spec PyProof.Rows L2 SeqAt HT
section
variable {X : Cx} {c : Act} {Wx : WX} {e1 e2 e3 : Expr} {fa fb fd : En → M Wv} {pos : Pos}
/-! ## a, b, c = e1, e2, e3 -/
def asg3F (m : List Nat) (i j l : Nat) (u w y : Wv) (ρ : En) : M Fl := .ok (.nx ((((if (u.still && (w.still && y.still)) = true then ρ else frz m ρ).set i (some u)).set j (some w)).set l (some y)))
def asg3L (m : List Nat) (i j l : Nat) (fd : En → M Wv) (ρ : En) (u w : Wv) : M Fl := fd (frz m ρ) >>= fun y => asg3F m i j l u w y ρ
def asg3K (m : List Nat) (i j l : Nat) (fb fd : En → M Wv) (ρ : En) (u : Wv) : M Fl := fb (frz m ρ) >>= asg3L m i j l fd ρ u
def asg3 (m : List Nat) (i j l : Nat) (fa fb fd : En → M Wv) (ρ : En) : M Fl := fa (frz m ρ) >>= asg3K m i j l fb fd ρ
theorem own_set {K : PySem.W.Frag} {pi : Pot} {H H1 : Hp} {F1 : Hp} {σ : List (Option V)} {ρ : En} {i : Nat} {v : V} {u : Wv} (hl : σ.length = ρ.length) (r : Res K pi H H1 F1 v u)
    (b : ∀ (k : Nat) (ys : List DL.D) (a : Addr), ρ[k]? = some (some (.own ys)) → σ[k]? = some (some (.ref a)) → H1 a ≠ none) :
    ∀ (k : Nat) (ys : List DL.D) (a : Addr), (ρ.set i (some u))[k]? = some (some (.own ys)) → (σ.set i (some v))[k]? = some (some (.ref a)) → H1 a ≠ none := by
  intro k ys a e1 e2
  by_cases z : k = i
  · subst z
    have hk : k < ρ.length := by
      by_cases q : k < ρ.length
      · exact q
      · rw [List.getElem?_eq_none (by rw [List.length_set]; omega)] at e1; cases e1
    rw [List.getElem?_set_self hk] at e1
    rw [List.getElem?_set_self (by rw [hl]; exact hk)] at e2
    cases e1
    cases e2
    obtain ⟨a', vs, e3, ha, _⟩ := r
    cases e3
    rw [ha]
    exact fun z => nomatch z
  · rw [List.getElem?_set_ne (Ne.symm z)] at e1 e2
    exact b k ys a e1 e2
theorem ds_par3 (m : List Nat) (i j l : Nat) {x y z : Str} {px py pz pt : Pos} {kt k2 : Nat} {pt2 : Pos} (hc : X.calm = true) (hN : X.N.Nodup) (hi : X.N[i]? = some x) (hj : X.N[j]? = some y) (hl : X.N[l]? = some z) (hij : i ≠ j) (hil : i ≠ l) (hjl : j ≠ l)
    (hx : X.env.scope.names.lookup x = some .local) (hy : X.env.scope.names.lookup y = some .local) (hz : X.env.scope.names.lookup z = some .local) (ha : DE X c Wx e1 fa) (hb : DE X c Wx e2 fb) (hd : DE X c Wx e3 fd)
    (hw : swappedStores [.Tuple [.Name x px, .Name y py, .Name z pz] kt pt] (.Tuple [e1, e2, e3] k2 pt2) X.env = pure (some [x, y, z]))
    (hs : swapsWithSole [.Tuple [.Name x px, .Name y py, .Name z pz] kt pt] (.Tuple [e1, e2, e3] k2 pt2) pos.line X.env = pure false := by rfl)
    (h1 : starEach [e1, e2, e3] X.env = (false, eval e1 X.env) :: starEach [e2, e3] X.env := by rfl) (h2 : starEach [e2, e3] X.env = (false, eval e2 X.env) :: starEach [e3] X.env := by rfl) (h3 : starEach [e3] X.env = (false, eval e3 X.env) :: starEach [] X.env := by rfl) :
    DS X c Wx (.Assign [.Tuple [.Name x px, .Name y py, .Name z pz] kt pt] (.Tuple [e1, e2, e3] k2 pt2) pos) (asg3 m i j l fa fb fd) :=
  PS.imp (ps_par3 hc hN hi hj hl hij hil hjl hx hy hz (pa_cons ha (pa_cons hb (pa_cons hd pa_nil h3) h2) h1) hw hs) fun D σ H ⟨F, ρ, I, p⟩ => by
    refine ev_st (m := m) I p fun u v1 Fp H1 F1 mo J s1 r1 q => ?_
    refine ⟨F1, frz m ρ, J.step s1, M.post_mono (M.post_bind.mp q) (fun w q H2 F2 s2 v2 r2 => ?_) fun e q cls d H2 F2 s2 x => q cls d σ H2 F2 ((J.step s1).st.trans J.p0 s2) x⟩
    have s12 := s1.trans J.pot s2
    have J2 := J.step s12
    refine ⟨F2, frz m ρ, J2, M.post_mono (M.post_bind.mp q) (fun y q H3 F3 s3 v3 r3 => ?_) fun e q cls d H3 F3 s3 x => q cls d σ H3 F3 (J2.st.trans J.p0 s3) x⟩
    refine ⟨v1, v2, v3, rfl, ?_⟩
    have s13 := s12.trans J.pot s3
    have s23 := s2.trans (J.step s1).pot s3
    have r1' : Res X.K c.pi H H3 F3 v1 u := Res.later r1 J.pot s23
    have r2' : Res X.K c.pi H1 H3 F3 v2 w := Res.later r2 (J.step s1).pot s3
    have n1 : ∀ {x : Addr}, H1 x = none → c.H0 x = none := fun z => (J.step s1).st.none_of J.p0 z
    have n2 : ∀ {x : Addr}, H2 x = none → c.H0 x = none := fun z => J2.st.none_of J.p0 z
    have up : ∀ {ρ' : En} {G : Hp}, SR X.K c σ H3 G ρ' → (∀ (j : Nat) (ys : List DL.D) (a : Addr), ρ'[j]? = some (some (.own ys)) → σ[j]? = some (some (.ref a)) → H a ≠ none) → Res X.K c.pi H H3 G v1 u → Res X.K c.pi H1 H3 G v2 w → Res X.K c.pi H2 H3 G v3 y →
        SR X.K c (((σ.set i (some v1)).set j (some v2)).set l (some v3)) H3 G (((ρ'.set i (some u)).set j (some w)).set l (some y)) := fun {ρ' G} L hn t1 t2 t3 => by
      have L1 := L.set (i := i) t1 (fun a z => I.st.none_of I.p0 z) hn
      have b1 := own_set (i := i) L.len.symm r1 fun k ys a e1 e2 h4 => hn k ys a e1 e2 (s1.none_of J.pot h4)
      have L2 := L1.set (i := j) t2 (fun a z => n1 z) b1
      have b2 := own_set (i := j) L1.len.symm r2 fun k ys a e1 e2 h4 => b1 k ys a e1 e2 (s2.none_of (J.step s1).pot h4)
      exact L2.set (i := l) t3 (fun a z => n2 z) b2
    unfold asg3F at q
    by_cases hs : (u.still && (w.still && y.still)) = true
    · rw [if_pos hs] at q
      obtain ⟨hu, hw⟩ := Bool.and_eq_true_iff.mp hs
      obtain ⟨hw, hy⟩ := Bool.and_eq_true_iff.mp hw
      obtain ⟨I1, b1, _, _⟩ := I.back mo s13
      exact q _ H3 _ (up I1 (fun j ys a e1 e2 => I.ownAt e1 e2) (I.backRes mo s13 r1' hu) (I.backRes mo s13 r2' hw) (I.backRes mo s13 r3 hy)) b1
    · rw [if_neg hs] at q
      exact q _ H3 _ (up (J.step s13) (fun j ys a e1 e2 => J.ownAt e1 e2) r1' r2' r3) (mo.1.trans s13.mono)
end
section
variable {m : List Nat} {i j l : Nat} {fa fb fd : En → M Wv} {ρ : En} {u w y : Wv}
theorem asg3_e : asg3 m i j l fa fb fd ρ = fa (frz m ρ) >>= asg3K m i j l fb fd ρ := id rfl
theorem asg3K_e : asg3K m i j l fb fd ρ u = fb (frz m ρ) >>= asg3L m i j l fd ρ u := id rfl
theorem asg3L_e : asg3L m i j l fd ρ u w = fd (frz m ρ) >>= fun y => asg3F m i j l u w y ρ := id rfl
theorem asg3F_e : asg3F m i j l u w y ρ = .ok (.nx (sel (u.still && (w.still && y.still)) (((ρ.set i (some u)).set j (some w)).set l (some y)) ((((frz m ρ).set i (some u)).set j (some w)).set l (some y)))) := by
  unfold asg3F
  cases (u.still && (w.still && y.still)) <;> rfl
end
end DL

namespace Lw
section
open PySem PySem.Spec PyProof.Rows L2 DL
def top (i : Nat) : Stmt := PySem.Challenge.pw_metnumbers_k32_papers_of_one_piece_judge.main.body.getD i (.Pass ⟨0, 0, 0, 0⟩)
theorem sc_is_integer : FnScope ["thing"] ["thing"] (defScope (top 4)) := ⟨rfl, rfl, rfl, by decide +kernel, rfl, by decide +kernel, by decide +kernel⟩
theorem sc_is_count : FnScope ["thing"] ["thing"] (defScope (top 5)) := ⟨rfl, rfl, rfl, by decide +kernel, rfl, by decide +kernel, by decide +kernel⟩
theorem sc_is_rising : FnScope ["thing", "one", "other"] ["thing"] (defScope (top 6)) := ⟨rfl, rfl, rfl, by decide +kernel, rfl, by decide +kernel, by decide +kernel⟩
theorem sc_is_pair : FnScope ["thing", "many"] ["thing", "many"] (defScope (top 10)) := ⟨rfl, rfl, rfl, by decide +kernel, rfl, by decide +kernel, by decide +kernel⟩
theorem sc_are_pairs : FnScope ["thing", "many", "pair", "one", "other"] ["thing", "many"] (defScope (top 11)) := ⟨rfl, rfl, rfl, by decide +kernel, rfl, by decide +kernel, by decide +kernel⟩
theorem sc_is_number : FnScope ["thing"] ["thing"] (defScope (top 12)) := ⟨rfl, rfl, rfl, by decide +kernel, rfl, by decide +kernel, by decide +kernel⟩
theorem sc_is_party : FnScope ["thing", "number", "pair"] ["thing"] (defScope (top 13)) := ⟨rfl, rfl, rfl, by decide +kernel, rfl, by decide +kernel, by decide +kernel⟩
theorem sc_need_party : FnScope ["party"] ["party"] (defScope (top 14)) := ⟨rfl, rfl, rfl, by decide +kernel, rfl, by decide +kernel, by decide +kernel⟩
theorem sc_all_pairs : FnScope ["many", "one", "other"] ["many"] (defScope (top 15)) := ⟨rfl, rfl, rfl, by decide +kernel, rfl, by decide +kernel, by decide +kernel⟩
theorem sc_free_of : FnScope ["party", "pair"] ["party"] (defScope (top 16)) := ⟨rfl, rfl, rfl, by decide +kernel, rfl, by decide +kernel, by decide +kernel⟩
theorem sc_known_met : FnScope ["party", "person", "pair"] ["party", "person"] (defScope (top 17)) := ⟨rfl, rfl, rfl, by decide +kernel, rfl, by decide +kernel, by decide +kernel⟩
theorem sc_needs_of : FnScope ["party", "person", "number"] ["party"] (defScope (top 18)) := ⟨rfl, rfl, rfl, by decide +kernel, rfl, by decide +kernel, by decide +kernel⟩
theorem sc_put_in : FnScope ["pairs", "some"] ["pairs", "some"] (defScope (top 19)) := ⟨rfl, rfl, rfl, by decide +kernel, rfl, by decide +kernel, by decide +kernel⟩
theorem sc_with_facts : FnScope ["party", "met", "apart"] ["party", "met", "apart"] (defScope (top 21)) := ⟨rfl, rfl, rfl, by decide +kernel, rfl, by decide +kernel, by decide +kernel⟩
theorem sc_is_side : FnScope ["thing", "many", "person"] ["thing", "many"] (defScope (top 23)) := ⟨rfl, rfl, rfl, by decide +kernel, rfl, by decide +kernel, by decide +kernel⟩
theorem sc_is_bar_of : FnScope ["party", "thing", "side", "person"] ["party", "thing"] (defScope (top 24)) := ⟨rfl, rfl, rfl, by decide +kernel, rfl, by decide +kernel, by decide +kernel⟩
theorem sc_lots : FnScope ["needs", "free", "bar", "found", "person", "pair", "some", "lot"] ["needs", "free", "bar"] (defScope (top 25)) := ⟨rfl, rfl, rfl, by decide +kernel, rfl, by decide +kernel, by decide +kernel⟩
theorem sc_is_between : FnScope ["pair", "some", "others"] ["pair", "some", "others"] (defScope (top 26)) := ⟨rfl, rfl, rfl, by decide +kernel, rfl, by decide +kernel, by decide +kernel⟩
theorem sc_inner_pairs : FnScope ["free", "bar", "pair", "person", "side"] ["free", "bar"] (defScope (top 27)) := ⟨rfl, rfl, rfl, by decide +kernel, rfl, by decide +kernel, by decide +kernel⟩
theorem sc_odd_by : FnScope ["needs", "free", "bar", "found", "lot", "row", "person", "pair"] ["needs", "free", "bar"] (defScope (top 28)) := ⟨rfl, rfl, rfl, by decide +kernel, rfl, by decide +kernel, by decide +kernel⟩
theorem sc_slack_by : FnScope ["needs", "free", "bar", "found", "person", "pair", "outer"] ["needs", "free", "bar"] (defScope (top 29)) := ⟨rfl, rfl, rfl, by decide +kernel, rfl, by decide +kernel, by decide +kernel⟩
theorem sc_slack_of : FnScope ["party", "bar"] ["party", "bar"] (defScope (top 30)) := ⟨rfl, rfl, rfl, by decide +kernel, rfl, by decide +kernel, by decide +kernel⟩
theorem sc_bars_it : FnScope ["party", "thing"] ["party", "thing"] (defScope (top 31)) := ⟨rfl, rfl, rfl, by decide +kernel, rfl, by decide +kernel, by decide +kernel⟩
theorem sc_all_partings : FnScope ["many", "found", "person", "row", "some"] ["many"] (defScope (top 33)) := ⟨rfl, rfl, rfl, by decide +kernel, rfl, by decide +kernel, by decide +kernel⟩
theorem sc_is_parting : FnScope ["party", "thing"] ["party", "thing"] (defScope (top 34)) := ⟨rfl, rfl, rfl, by decide +kernel, rfl, by decide +kernel, by decide +kernel⟩
theorem sc_crosses : FnScope ["pair", "parting"] ["pair", "parting"] (defScope (top 35)) := ⟨rfl, rfl, rfl, by decide +kernel, rfl, by decide +kernel, by decide +kernel⟩
theorem sc_cut_by : FnScope ["party", "parting", "pair"] ["party", "parting"] (defScope (top 36)) := ⟨rfl, rfl, rfl, by decide +kernel, rfl, by decide +kernel, by decide +kernel⟩
theorem sc_shows_crossed : FnScope ["party", "parting", "thing"] ["party", "parting", "thing"] (defScope (top 37)) := ⟨rfl, rfl, rfl, by decide +kernel, rfl, by decide +kernel, by decide +kernel⟩
theorem sc_shows_one : FnScope ["party", "thing", "order", "parting", "told"] ["party", "thing"] (defScope (top 38)) := ⟨rfl, rfl, rfl, by decide +kernel, rfl, by decide +kernel, by decide +kernel⟩
theorem sc__law_mixed : FnScope ["number", "lap", "prime", "found", "again"] ["number", "lap"] (defScope (top 40)) := ⟨rfl, rfl, rfl, by decide +kernel, rfl, by decide +kernel, by decide +kernel⟩
theorem sc__law_deck_of : FnScope ["script", "cells", "cell", "place"] ["script"] (defScope (top 41)) := ⟨rfl, rfl, rfl, by decide +kernel, rfl, by decide +kernel, by decide +kernel⟩
theorem sc__law_below : FnScope ["deck", "bound", "amount", "cells", "place", "found"] ["deck", "bound"] (defScope (top 42)) := ⟨rfl, rfl, rfl, by decide +kernel, rfl, by decide +kernel, by decide +kernel⟩
theorem sc__law_pick : FnScope ["deck", "some"] ["deck", "some"] (defScope (top 43)) := ⟨rfl, rfl, rfl, by decide +kernel, rfl, by decide +kernel, by decide +kernel⟩
theorem sc__law_all_pairs : FnScope ["many", "found", "one", "other"] ["many"] (defScope (top 44)) := ⟨rfl, rfl, rfl, by decide +kernel, rfl, by decide +kernel, by decide +kernel⟩
theorem sc__law_count : FnScope ["row", "person", "pair"] ["row", "person"] (defScope (top 45)) := ⟨rfl, rfl, rfl, by decide +kernel, rfl, by decide +kernel, by decide +kernel⟩
theorem sc__law_right_party : FnScope ["deck", "most", "many", "sort", "pairs", "meeting", "facts", "pair", "numbers", "person"] ["deck", "most"] (defScope (top 46)) := ⟨rfl, rfl, rfl, by decide +kernel, rfl, by decide +kernel, by decide +kernel⟩
theorem sc__law_any_party : FnScope ["deck", "most", "party", "meeting", "numbers", "met", "apart", "kind", "at", "pair", "some"] ["deck", "most"] (defScope (top 47)) := ⟨rfl, rfl, rfl, by decide +kernel, rfl, by decide +kernel, by decide +kernel⟩
theorem sc__law_free : FnScope ["party", "pair"] ["party"] (defScope (top 48)) := ⟨rfl, rfl, rfl, by decide +kernel, rfl, by decide +kernel, by decide +kernel⟩
theorem sc__law_pieces : FnScope ["crowd", "pairs", "found", "person", "near", "joined", "piece", "one"] ["crowd", "pairs"] (defScope (top 49)) := ⟨rfl, rfl, rfl, by decide +kernel, rfl, by decide +kernel, by decide +kernel⟩
theorem sc__law_slack : FnScope ["party", "bar", "free", "found", "lacks", "at", "number", "person", "lack", "left", "pair", "inner", "lot", "some", "across"] ["party", "bar"] (defScope (top 50)) := ⟨rfl, rfl, rfl, by decide +kernel, rfl, by decide +kernel, by decide +kernel⟩
theorem sc__law_is_side : FnScope ["thing", "many", "person", "one", "other"] ["thing", "many"] (defScope (top 51)) := ⟨rfl, rfl, rfl, by decide +kernel, rfl, by decide +kernel, by decide +kernel⟩
theorem sc__law_bars : FnScope ["party", "thing", "many", "person"] ["party", "thing"] (defScope (top 52)) := ⟨rfl, rfl, rfl, by decide +kernel, rfl, by decide +kernel, by decide +kernel⟩
theorem sc__law_is_pair : FnScope ["thing", "many"] ["thing", "many"] (defScope (top 53)) := ⟨rfl, rfl, rfl, by decide +kernel, rfl, by decide +kernel, by decide +kernel⟩
theorem sc__law_told : FnScope ["party", "met", "apart"] ["party", "met", "apart"] (defScope (top 54)) := ⟨rfl, rfl, rfl, by decide +kernel, rfl, by decide +kernel, by decide +kernel⟩
theorem sc__law_partings : FnScope ["many", "grid", "person", "row"] ["many"] (defScope (top 55)) := ⟨rfl, rfl, rfl, by decide +kernel, rfl, by decide +kernel, by decide +kernel⟩
theorem sc__law_crosses : FnScope ["pair", "parting"] ["pair", "parting"] (defScope (top 56)) := ⟨rfl, rfl, rfl, by decide +kernel, rfl, by decide +kernel, by decide +kernel⟩
theorem sc__law_cut : FnScope ["party", "parting", "pair"] ["party", "parting"] (defScope (top 57)) := ⟨rfl, rfl, rfl, by decide +kernel, rfl, by decide +kernel, by decide +kernel⟩
theorem sc__law_is_reason : FnScope ["party", "parting", "thing"] ["party", "parting", "thing"] (defScope (top 58)) := ⟨rfl, rfl, rfl, by decide +kernel, rfl, by decide +kernel, by decide +kernel⟩
theorem sc__law_all_bars : FnScope ["many", "grid", "person", "longer", "some", "rest"] ["many"] (defScope (top 59)) := ⟨rfl, rfl, rfl, by decide +kernel, rfl, by decide +kernel, by decide +kernel⟩
theorem sc__law_find : FnScope ["party", "bar"] ["party"] (defScope (top 60)) := ⟨rfl, rfl, rfl, by decide +kernel, rfl, by decide +kernel, by decide +kernel⟩
theorem sc__law_some_bar : FnScope ["deck", "many", "sides", "person", "first"] ["deck", "many"] (defScope (top 61)) := ⟨rfl, rfl, rfl, by decide +kernel, rfl, by decide +kernel, by decide +kernel⟩
theorem sc__law_bent_bar : FnScope ["deck", "bar", "many", "odd", "side", "some"] ["deck", "bar", "many"] (defScope (top 62)) := ⟨rfl, rfl, rfl, by decide +kernel, rfl, by decide +kernel, by decide +kernel⟩
theorem sc__law_meets : FnScope ["pair", "some"] ["pair", "some"] (defScope (top 63)) := ⟨rfl, rfl, rfl, by decide +kernel, rfl, by decide +kernel, by decide +kernel⟩
theorem sc__law_is_paper : FnScope ["party", "thing", "order", "parting", "row"] ["party", "thing"] (defScope (top 64)) := ⟨rfl, rfl, rfl, by decide +kernel, rfl, by decide +kernel, by decide +kernel⟩
theorem sc__law_reasons : FnScope ["deck", "party", "found", "parting", "across", "bar", "pair"] ["deck", "party"] (defScope (top 65)) := ⟨rfl, rfl, rfl, by decide +kernel, rfl, by decide +kernel, by decide +kernel⟩
theorem sc__law_bent_row : FnScope ["deck", "party", "row", "many", "kind", "parting", "pair", "bar", "person", "some"] ["deck", "party", "row"] (defScope (top 66)) := ⟨rfl, rfl, rfl, by decide +kernel, rfl, by decide +kernel, by decide +kernel⟩
theorem sc__law_bent : FnScope ["deck", "party", "grid", "kind", "at"] ["deck", "party", "grid"] (defScope (top 67)) := ⟨rfl, rfl, rfl, by decide +kernel, rfl, by decide +kernel, by decide +kernel⟩
theorem sc__law_wide : FnScope ["deck", "many", "party", "grid", "parting", "at", "thing"] ["deck"] (defScope (top 68)) := ⟨rfl, rfl, rfl, by decide +kernel, rfl, by decide +kernel, by decide +kernel⟩
theorem sc_law : FnScope ["script", "deck", "party", "grid", "lap", "thing", "before", "due"] ["script"] (defScope (top 69)) := ⟨rfl, rfl, rfl, by decide +kernel, rfl, by decide +kernel, by decide +kernel⟩
structure Txt (K : PySem.W.Frag) (mg : Str → Option Value) : Prop where
  f_is_integer : Has K mg "is_integer" (top 4) ["thing"]
  f_is_count : Has K mg "is_count" (top 5) ["thing"]
  f_is_rising : Has K mg "is_rising" (top 6) ["thing"]
  f_is_pair : Has K mg "is_pair" (top 10) ["thing", "many"]
  f_are_pairs : Has K mg "are_pairs" (top 11) ["thing", "many"]
  f_is_number : Has K mg "is_number" (top 12) ["thing"]
  f_is_party : Has K mg "is_party" (top 13) ["thing"]
  f_need_party : Has K mg "need_party" (top 14) ["party"]
  f_all_pairs : Has K mg "all_pairs" (top 15) ["many"]
  f_free_of : Has K mg "free_of" (top 16) ["party"]
  f_known_met : Has K mg "known_met" (top 17) ["party", "person"]
  f_needs_of : Has K mg "needs_of" (top 18) ["party"]
  f_put_in : Has K mg "put_in" (top 19) ["pairs", "some"]
  f_with_facts : Has K mg "with_facts" (top 21) ["party", "met", "apart"]
  f_is_side : Has K mg "is_side" (top 23) ["thing", "many"]
  f_is_bar_of : Has K mg "is_bar_of" (top 24) ["party", "thing"]
  f_lots : Has K mg "lots" (top 25) ["needs", "free", "bar"]
  f_is_between : Has K mg "is_between" (top 26) ["pair", "some", "others"]
  f_inner_pairs : Has K mg "inner_pairs" (top 27) ["free", "bar"]
  f_odd_by : Has K mg "odd_by" (top 28) ["needs", "free", "bar"]
  f_slack_by : Has K mg "slack_by" (top 29) ["needs", "free", "bar"]
  f_slack_of : Has K mg "slack_of" (top 30) ["party", "bar"]
  f_bars_it : Has K mg "bars_it" (top 31) ["party", "thing"]
  f_all_partings : Has K mg "all_partings" (top 33) ["many"]
  f_is_parting : Has K mg "is_parting" (top 34) ["party", "thing"]
  f_crosses : Has K mg "crosses" (top 35) ["pair", "parting"]
  f_cut_by : Has K mg "cut_by" (top 36) ["party", "parting"]
  f_shows_crossed : Has K mg "shows_crossed" (top 37) ["party", "parting", "thing"]
  f_shows_one : Has K mg "shows_one" (top 38) ["party", "thing"]
  f__law_mixed : Has K mg "_law_mixed" (top 40) ["number", "lap"]
  f__law_deck_of : Has K mg "_law_deck_of" (top 41) ["script"]
  f__law_below : Has K mg "_law_below" (top 42) ["deck", "bound"]
  f__law_pick : Has K mg "_law_pick" (top 43) ["deck", "some"]
  f__law_all_pairs : Has K mg "_law_all_pairs" (top 44) ["many"]
  f__law_count : Has K mg "_law_count" (top 45) ["row", "person"]
  f__law_right_party : Has K mg "_law_right_party" (top 46) ["deck", "most"]
  f__law_any_party : Has K mg "_law_any_party" (top 47) ["deck", "most"]
  f__law_free : Has K mg "_law_free" (top 48) ["party"]
  f__law_pieces : Has K mg "_law_pieces" (top 49) ["crowd", "pairs"]
  f__law_slack : Has K mg "_law_slack" (top 50) ["party", "bar"]
  f__law_is_side : Has K mg "_law_is_side" (top 51) ["thing", "many"]
  f__law_bars : Has K mg "_law_bars" (top 52) ["party", "thing"]
  f__law_is_pair : Has K mg "_law_is_pair" (top 53) ["thing", "many"]
  f__law_told : Has K mg "_law_told" (top 54) ["party", "met", "apart"]
  f__law_partings : Has K mg "_law_partings" (top 55) ["many"]
  f__law_crosses : Has K mg "_law_crosses" (top 56) ["pair", "parting"]
  f__law_cut : Has K mg "_law_cut" (top 57) ["party", "parting"]
  f__law_is_reason : Has K mg "_law_is_reason" (top 58) ["party", "parting", "thing"]
  f__law_all_bars : Has K mg "_law_all_bars" (top 59) ["many"]
  f__law_find : Has K mg "_law_find" (top 60) ["party"]
  f__law_some_bar : Has K mg "_law_some_bar" (top 61) ["deck", "many"]
  f__law_bent_bar : Has K mg "_law_bent_bar" (top 62) ["deck", "bar", "many"]
  f__law_meets : Has K mg "_law_meets" (top 63) ["pair", "some"]
  f__law_is_paper : Has K mg "_law_is_paper" (top 64) ["party", "thing"]
  f__law_reasons : Has K mg "_law_reasons" (top 65) ["deck", "party"]
  f__law_bent_row : Has K mg "_law_bent_row" (top 66) ["deck", "party", "row"]
  f__law_bent : Has K mg "_law_bent" (top 67) ["deck", "party", "grid"]
  f__law_wide : Has K mg "_law_wide" (top 68) ["deck"]
  f_law : Has K mg "law" (top 69) ["script"]
  n_abs : mg "abs" = none
  n_all : mg "all" = none
  n_any : mg "any" = none
  n_bool : mg "bool" = none
  n_enumerate : mg "enumerate" = none
  n_int : mg "int" = none
  n_isinstance : mg "isinstance" = none
  n_len : mg "len" = none
  n_list : mg "list" = none
  n_range : mg "range" = none
  n_repr : mg "repr" = none
  n_sorted : mg "sorted" = none
  n_sum : mg "sum" = none
  n_tuple : mg "tuple" = none
  n_zip : mg "zip" = none
  v_MAX_NUMBER : ∃ t, mg "MAX_NUMBER" = some (.int 20 t)
  v_MAX_PERSONS : ∃ t, mg "MAX_PERSONS" = some (.int 8 t)
abbrev g__law_below : List Wv → M Wv := dPot
def b__law_deck_of (raw : Addr) (items : List DL.D) : En → M Fl := (seq (asg [0, 2] 1 (lc [2] (sSeq (cutR raw items oN (oS (kI 16)) (rdv 0))) (bN 2) tYes (call (f1 vAbs) (acons (rdv 2) anil))))
  (seq (forS [0] (sEnum (cutR raw items (oS (kI 16)) (oS (kI 63)) (rdv 0))) (bT [3, 2]) (sto [1, 2, 3] [3] 1 (bin2 opAdd (bin2 opIx (rdv 1) (bin2 opMod (rdv 3) (kI 16))) (call (f1 vAbs) (acons (rdv 2) anil))) (bin2 opMod (rdv 3) (kI 16))))
  (rtn [1] (lst (acons (rdv 1) (acons (kI 0) (acons (kI 0) (acons (kI 0) anil))))))))
def b_is_integer : En → M Fl := (rtn [0] (vand (call (opIsi "int") (acons (rdv 0) (acons (kT "int") anil))) (vnot (call (opIsi "bool") (acons (rdv 0) (acons (kT "bool") anil))))))
def g_is_integer : List Wv → M Wv := body 1 b_is_integer
def b_all_pairs : En → M Fl := (rtn [0, 1, 2] (lc2 [1, 2] (sRng1 (rdv 0)) (bN 1) tYes (sRng2 (bin2 opAdd (rdv 1) (kI 1)) (rdv 0)) [2] (bN 2) tYes (tup (acons (rdv 1) (acons (rdv 2) anil)))))
def g_all_pairs : List Wv → M Wv := body 3 b_all_pairs
def b_known_met : En → M Fl := (rtn [0, 1, 2] (call (f1 vLen) (acons (lc [2] (sSeq (bin2 opIx (rdv 0) (kI 1))) (bN 2) (tst (bin2 opIn (rdv 1) (rdv 2))) (rdv 2)) anil)))
def g_known_met : List Wv → M Wv := body 3 b_known_met
def b_put_in : En → M Fl := (rtn [0, 1] (call (f1 vTuple) (acons (call (f1 vSorted) (acons (lst (astar (rdv 0) (astar (rdv 1) anil))) anil)) anil)))
def g_put_in : List Wv → M Wv := body 2 b_put_in
def b_lots : En → M Fl := (seq (asg [0, 2, 4] 3 (lc [4] (sRng1 (call (f1 vLen) (acons (rdv 0) anil))) (bN 4) (tand (tst (bin2 opNotIn (rdv 4) (bin2 opIx (rdv 2) (kI 0)))) (tst (bin2 opNotIn (rdv 4) (bin2 opIx (rdv 2) (kI 1))))) (lst (acons (rdv 4) anil))))
  (seq (forS [1] (sSeq (rdv 1)) (bN 5) (seq (asg [3, 5, 7] 6 (lc [7] (sSeq (rdv 3)) (bN 7) (tor (tst (bin2 opIn (bin2 opIx (rdv 5) (kI 0)) (rdv 7))) (tst (bin2 opIn (bin2 opIx (rdv 5) (kI 1)) (rdv 7)))) (rdv 7)))
  (ifs [6] (tst (bin2 opEq (call (f1 vLen) (acons (rdv 6) anil)) (kI 2))) (asg [3, 6, 7] 3 (lst (astar (lc [7] (sSeq (rdv 3)) (bN 7) (tst (bin2 opNotIn (rdv 7) (rdv 6))) (rdv 7)) (acons (lst (astar (bin2 opIx (rdv 6) (kI 0)) (astar (bin2 opIx (rdv 6) (kI 1)) anil))) anil)))) skip)))
  (rtn [3, 7] (lc [7] (sSeq (rdv 3)) (bN 7) tYes (call (f1 vTuple) (acons (call (f1 vSorted) (acons (rdv 7) anil)) anil))))))
def g_lots : List Wv → M Wv := body 8 b_lots
def b_is_between : En → M Fl := (rtn [0, 1, 2] (vor (vand (bin2 opIn (bin2 opIx (rdv 0) (kI 0)) (rdv 1)) (bin2 opIn (bin2 opIx (rdv 0) (kI 1)) (rdv 2))) (vand (bin2 opIn (bin2 opIx (rdv 0) (kI 1)) (rdv 1)) (bin2 opIn (bin2 opIx (rdv 0) (kI 0)) (rdv 2)))))
def g_is_between : List Wv → M Wv := body 3 b_is_between
def b_inner_pairs : En → M Fl := (rtn [0, 1, 2, 3, 4] (lc [2] (sSeq (rdv 0)) (bN 2) (tnot (tst (call (f1 vAny) (acons (lc2 [3, 4] (sSeq (rdv 2)) (bN 3) tYes (sSeq (rdv 1)) [4] (bN 4) tYes (bin2 opIn (rdv 3) (rdv 4))) anil)))) (rdv 2)))
def g_inner_pairs : List Wv → M Wv := body 5 b_inner_pairs
def b_all_partings : En → M Fl := (seq (asg [] 1 (lst (acons (tup (acons (kI 0) anil)) anil)))
  (seq (forS [0] (sRng2 (kI 1) (rdv 0)) (bN 2) (asg [1, 2, 3, 4] 1 (lc2 [3, 4] (sSeq (rdv 1)) (bN 3) tYes (sSeq (tup (acons (rdv 3) (acons (tup (astar (rdv 3) (acons (rdv 2) anil))) anil)))) [4] (bN 4) tYes (rdv 4))))
  (rtn [0, 1, 3] (call (f1 vSorted) (acons (lc [3] (sSeq (rdv 1)) (bN 3) (tst (bin2 opLt (call (f1 vLen) (acons (rdv 3) anil)) (rdv 0))) (rdv 3)) anil)))))
def g_all_partings : List Wv → M Wv := body 5 b_all_partings
def b_crosses : En → M Fl := (rtn [0, 1] (bin2 opNe (bin2 opIn (bin2 opIx (rdv 0) (kI 0)) (rdv 1)) (bin2 opIn (bin2 opIx (rdv 0) (kI 1)) (rdv 1))))
def g_crosses : List Wv → M Wv := body 2 b_crosses
def b__law_mixed : En → M Fl := (seq (asg [] 2 (kI 2305843009213693951))
  (seq (asg [0, 1, 2] 3 (bin2 opMod (call (f1 vInt) (acons (bin2 opAdd (bin2 opAdd (bin2 opMul (rdv 0) (kI 1181783497276652981)) (bin2 opMul (rdv 1) (kI 2685821657736338717))) (kI 41)) anil)) (rdv 2)))
  (seq (forS [] (sRng1 (kI 4)) (bN 4) (asg [1, 2, 3, 4] 3 (bin2 opMod (call (f1 vInt) (acons (bin2 opAdd (bin2 opAdd (bin2 opAdd (bin2 opMul (rdv 3) (rdv 3)) (bin2 opMul (kI 29) (rdv 3))) (bin2 opMul (kI 4001) (rdv 4))) (rdv 1)) anil)) (rdv 2))))
  (rtn [1, 2, 3] (bin2 opAdd (bin2 opMul (rdv 3) (rdv 2)) (bin2 opMod (call (f1 vInt) (acons (bin2 opAdd (bin2 opMul (rdv 3) (kI 48271)) (rdv 1)) anil)) (rdv 2)))))))
def g__law_mixed : List Wv → M Wv := body 5 b__law_mixed
def b__law_all_pairs : En → M Fl := (seq (asg [] 1 (lst anil))
  (seq (forS [0] (sRng1 (rdv 0)) (bN 2) (ext [0, 2, 3] 1 (lc [3] (sRng2 (bin2 opAdd (rdv 2) (kI 1)) (rdv 0)) (bN 3) tYes (tup (acons (rdv 2) (acons (rdv 3) anil))))))
  (rtnV 1)))
def g__law_all_pairs : List Wv → M Wv := body 4 b__law_all_pairs
def b__law_count : En → M Fl := (rtn [0, 1, 2] (call (f1 vLen) (acons (lc [2] (sSeq (rdv 0)) (bN 2) (tst (bin2 opIn (rdv 1) (rdv 2))) (rdv 2)) anil)))
def g__law_count : List Wv → M Wv := body 3 b__law_count
def b__law_pieces : En → M Fl := (seq (asg [] 2 (lst anil))
  (seq (forS [0] (sSeq (rdv 0)) (bN 3) (seq (asg [1, 2, 3, 6, 7] 4 (lc [6] (sSeq (rdv 2)) (bN 6) (tst (bin2 opNe (lc [7] (sSeq (rdv 6)) (bN 7) (tst (bin2 opIn (tup (acons (rdv 7) (acons (rdv 3) anil))) (rdv 1))) (rdv 7)) (lst anil))) (rdv 6)))
  (seq (asg [3] 5 (lst (acons (rdv 3) anil)))
  (seq (forS [4] (sSeq (rdv 4)) (bN 6) (ext [6] 5 (call (f1 vList) (acons (rdv 6) anil))))
  (asg [2, 4, 5, 6] 2 (bin2 opAdd (lc [6] (sSeq (rdv 2)) (bN 6) (tst (bin2 opNotIn (rdv 6) (rdv 4))) (rdv 6)) (lst (acons (call (f1 vTuple) (acons (call (f1 vSorted) (acons (rdv 5) anil)) anil)) anil))))))))
  (rtn [2] (call (f1 vSorted) (acons (rdv 2) anil)))))
def g__law_pieces : List Wv → M Wv := body 8 b__law_pieces
def b__law_is_side : En → M Fl := (seq (ifs [0] (tnot (tst (call (opIsi "tuple") (acons (rdv 0) (acons (kT "tuple") anil))))) (rtn [] (kB' false)) skip)
  (seq (forS [0] (sSeq (rdv 0)) (bN 2) (ifs [1, 2] (tor (tnot (tst (call (opIsi "int") (acons (rdv 2) (acons (kT "int") anil))))) (tor (tst (call (opIsi "bool") (acons (rdv 2) (acons (kT "bool") anil)))) (tnot (tst (chainI (fun i j => decide (i ≤ j)) (fun i j => decide (i < j)) (kI 0) (rdv 2) (rdv 1)))))) (rtn [] (kB' false)) skip))
  (rtn [0, 3, 4] (bin2 opEq (lc [3, 4] (sZip (rdv 0) (sub (oS (kI 1)) oN (rdv 0))) (bT [3, 4]) (tst (bin2 opGe (rdv 3) (rdv 4))) (kI 1)) (lst anil)))))
def g__law_is_side : List Wv → M Wv := body 5 b__law_is_side
def b__law_told : En → M Fl := (rtn [0, 1, 2] (tup (acons (bin2 opIx (rdv 0) (kI 0)) (acons (call (f1 vTuple) (acons (call (f1 vSorted) (acons (bin2 opAdd (call (f1 vList) (acons (bin2 opIx (rdv 0) (kI 1)) anil)) (rdv 1)) anil)) anil)) (acons (call (f1 vTuple) (acons (call (f1 vSorted) (acons (bin2 opAdd (call (f1 vList) (acons (bin2 opIx (rdv 0) (kI 2)) anil)) (rdv 2)) anil)) anil)) anil)))))
def g__law_told : List Wv → M Wv := body 3 b__law_told
def b__law_partings : En → M Fl := (seq (asg [] 1 (lst (acons (tup (acons (kI 0) anil)) anil)))
  (seq (forS [0] (sRng2 (kI 1) (rdv 0)) (bN 2) (asg [1, 2, 3] 1 (bin2 opAdd (rdv 1) (lc [3] (sSeq (rdv 1)) (bN 3) tYes (bin2 opAdd (rdv 3) (tup (acons (rdv 2) anil)))))))
  (rtn [0, 1, 3] (call (f1 vSorted) (acons (lc [3] (sSeq (rdv 1)) (bN 3) (tst (bin2 opLt (call (f1 vLen) (acons (rdv 3) anil)) (rdv 0))) (rdv 3)) anil)))))
def g__law_partings : List Wv → M Wv := body 4 b__law_partings
def b__law_crosses : En → M Fl := (rtn [0, 1] (bin2 opNe (bin2 opIn (bin2 opIx (rdv 0) (kI 0)) (rdv 1)) (bin2 opIn (bin2 opIx (rdv 0) (kI 1)) (rdv 1))))
def g__law_crosses : List Wv → M Wv := body 2 b__law_crosses
def b__law_all_bars : En → M Fl := (seq (asg [] 1 (lst (acons (tup (acons (tup anil) (acons (tup anil) anil))) anil)))
  (seq (forS [0] (sRng1 (rdv 0)) (bN 2) (seq (asg [1, 2, 4, 5] 3 (lc [4, 5] (sSeq (rdv 1)) (bT [4, 5]) tYes (tup (acons (bin2 opAdd (rdv 4) (tup (acons (rdv 2) anil))) (acons (rdv 5) anil)))))
  (asg [1, 2, 3, 4, 5] 1 (bin2 opAdd (bin2 opAdd (rdv 1) (rdv 3)) (lc [4, 5] (sSeq (rdv 1)) (bT [4, 5]) tYes (tup (acons (rdv 4) (acons (bin2 opAdd (rdv 5) (tup (acons (rdv 2) anil))) anil))))))))
  (rtnV 1)))
def g__law_all_bars : List Wv → M Wv := body 6 b__law_all_bars
def b__law_meets : En → M Fl := (rtn [0, 1] (vor (bin2 opIn (bin2 opIx (rdv 0) (kI 0)) (rdv 1)) (bin2 opIn (bin2 opIx (rdv 0) (kI 1)) (rdv 1))))
def g__law_meets : List Wv → M Wv := body 2 b__law_meets
def b_is_count : En → M Fl := (rtn [0] (vand (ccall 1 g_is_integer (acons (rdv 0) anil)) (bin2 opGe (rdv 0) (kI 0))))
def g_is_count : List Wv → M Wv := body 1 b_is_count
def b_free_of : En → M Fl := (rtn [0, 1] (lc [1] (sSeq (ccall 1 g_all_pairs (acons (call (f1 vLen) (acons (bin2 opIx (rdv 0) (kI 0)) anil)) anil))) (bN 1) (tand (tst (bin2 opNotIn (rdv 1) (bin2 opIx (rdv 0) (kI 1)))) (tst (bin2 opNotIn (rdv 1) (bin2 opIx (rdv 0) (kI 2))))) (rdv 1)))
def g_free_of : List Wv → M Wv := body 2 b_free_of
def b_needs_of : En → M Fl := (rtn [0, 1, 2] (lc [1, 2] (sEnumT (bin2 opIx (rdv 0) (kI 0))) (bT [1, 2]) tYes (vif (tst (bin2 opIsN (rdv 2) kN)) kN (bin2 opSub (rdv 2) (ccall 2 g_known_met (acons (rdv 0) (acons (rdv 1) anil)))))))
def g_needs_of : List Wv → M Wv := body 3 b_needs_of
def b_with_facts : En → M Fl := (rtn [0, 1, 2] (tup (acons (bin2 opIx (rdv 0) (kI 0)) (acons (ccall 2 g_put_in (acons (bin2 opIx (rdv 0) (kI 1)) (acons (rdv 1) anil))) (acons (ccall 2 g_put_in (acons (bin2 opIx (rdv 0) (kI 2)) (acons (rdv 2) anil))) anil)))))
def g_with_facts : List Wv → M Wv := body 3 b_with_facts
def b_odd_by : En → M Fl := (seq (asg [] 3 (lst anil))
  (seq (forS [0, 1, 2] (sSeq (ccall 3 g_lots (acons (rdv 0) (acons (ccall 2 g_inner_pairs (acons (rdv 1) (acons (rdv 2) anil))) (acons (rdv 2) anil))))) (bN 4) (seq (asg [0, 4, 6] 5 (lc [6] (sSeq (rdv 4)) (bN 6) tYes (bin2 opIx (rdv 0) (rdv 6))))
  (ifs [1, 2, 4, 5, 7] (tand (tst (bin2 opNotIn kN (rdv 5))) (tst (bin2 opEq (bin2 opMod (bin2 opAdd (call (f1 vSum) (acons (rdv 5) anil)) (call (f1 vLen) (acons (lc [7] (sSeq (rdv 1)) (bN 7) (tst (ccall 3 g_is_between (acons (rdv 7) (acons (rdv 4) (acons (bin2 opIx (rdv 2) (kI 1)) anil))))) (rdv 7)) anil))) (kI 2)) (kI 1)))) (app [4] 3 (rdv 4)) skip)))
  (rtn [3] (call (f1 vSorted) (acons (rdv 3) anil)))))
def g_odd_by : List Wv → M Wv := body 8 b_odd_by
def b__law_free : En → M Fl := (rtn [0, 1] (lc [1] (sSeq (ccall 1 g__law_all_pairs (acons (call (f1 vLen) (acons (bin2 opIx (rdv 0) (kI 0)) anil)) anil))) (bN 1) (tand (tst (bin2 opNotIn (rdv 1) (bin2 opIx (rdv 0) (kI 1)))) (tst (bin2 opNotIn (rdv 1) (bin2 opIx (rdv 0) (kI 2))))) (rdv 1)))
def g__law_free : List Wv → M Wv := body 2 b__law_free
def b__law_is_pair : En → M Fl := (rtn [0, 1] (vand (ccall 2 g__law_is_side (acons (rdv 0) (acons (rdv 1) anil))) (bin2 opEq (call (f1 vLen) (acons (rdv 0) anil)) (kI 2))))
def g__law_is_pair : List Wv → M Wv := body 2 b__law_is_pair
def b_is_rising : En → M Fl := (seq (ifs [0, 1] (tor (tnot (tst (call (opIsi "tuple") (acons (rdv 0) (acons (kT "tuple") anil))))) (tnot (tst (call (f1 vAll) (acons (lc [1] (sSeq (rdv 0)) (bN 1) tYes (ccall 1 g_is_count (acons (rdv 1) anil))) anil))))) (rtn [] (kB' false)) skip)
  (rtn [0, 1, 2] (call (f1 vAll) (acons (lc [1, 2] (sZip (sub oN (oS (un1 opNeg (kI 1))) (rdv 0)) (sub (oS (kI 1)) oN (rdv 0))) (bT [1, 2]) tYes (bin2 opLt (rdv 1) (rdv 2))) anil))))
def g_is_rising : List Wv → M Wv := body 3 b_is_rising
def b_is_number : En → M Fl := (rtn [0] (vor (bin2 opIsN (rdv 0) kN) (vand (ccall 1 g_is_count (acons (rdv 0) anil)) (bin2 opLe (rdv 0) (kI 20)))))
def g_is_number : List Wv → M Wv := body 1 b_is_number
def b_slack_by : En → M Fl := (seq (asg [] 3 (kI 0))
  (seq (forS [2] (sSeq (bin2 opIx (rdv 2) (kI 0))) (bN 4) (augI [0, 1, 4, 5] 3 (fun i j => i + j) (vif (tst (bin2 opIsN (bin2 opIx (rdv 0) (rdv 4)) kN)) (call (f1 vLen) (acons (lc [5] (sSeq (rdv 1)) (bN 5) (tst (bin2 opIn (rdv 4) (rdv 5))) (rdv 5)) anil)) (bin2 opIx (rdv 0) (rdv 4)))))
  (seq (asg [1, 2, 5] 6 (lc [5] (sSeq (rdv 1)) (bN 5) (tand (tst (bin2 opNotIn (bin2 opIx (rdv 5) (kI 0)) (bin2 opIx (rdv 2) (kI 0)))) (tst (bin2 opNotIn (bin2 opIx (rdv 5) (kI 1)) (bin2 opIx (rdv 2) (kI 0))))) (rdv 5)))
  (seq (forS [2] (sSeq (bin2 opIx (rdv 2) (kI 1))) (bN 4) (seq (augI [4, 5, 6] 3 (fun i j => i + j) (call (f1 vLen) (acons (lc [5] (sSeq (rdv 6)) (bN 5) (tst (bin2 opIn (rdv 4) (rdv 5))) (rdv 5)) anil)))
  (augI [0, 4] 3 (fun i j => i - j) (vif (tst (bin2 opIsN (bin2 opIx (rdv 0) (rdv 4)) kN)) (kI 0) (bin2 opIx (rdv 0) (rdv 4))))))
  (rtn [0, 1, 2, 3] (bin2 opSub (rdv 3) (call (f1 vLen) (acons (ccall 3 g_odd_by (acons (rdv 0) (acons (rdv 1) (acons (rdv 2) anil)))) anil))))))))
def g_slack_by : List Wv → M Wv := body 7 b_slack_by
def b_cut_by : En → M Fl := (rtn [0, 1, 2] (ccall 3 g_with_facts (acons (rdv 0) (acons (lst anil) (acons (lc [2] (sSeq (ccall 1 g_free_of (acons (rdv 0) anil))) (bN 2) (tst (ccall 2 g_crosses (acons (rdv 2) (acons (rdv 1) anil)))) (rdv 2)) anil)))))
def g_cut_by : List Wv → M Wv := body 3 b_cut_by
def b__law_pick : En → M Fl := (rtn [0, 1] (bin2 opIx (rdv 1) (ccall 2 g__law_below (acons (rdv 0) (acons (call (f1 vLen) (acons (rdv 1) anil)) anil)))))
def g__law_pick : List Wv → M Wv := body 2 b__law_pick
def b__law_slack : En → M Fl := (seq (asg2 [0] 2 3 (ccall 1 g__law_free (acons (rdv 0) anil)) (kI 0))
  (seq (asg [] 4 (lst anil))
  (seq (forS [0] (sEnumT (bin2 opIx (rdv 0) (kI 0))) (bT [5, 6]) (app [0, 5, 6] 4 (vif (tst (bin2 opIsN (rdv 6) kN)) kN (bin2 opSub (rdv 6) (ccall 2 g__law_count (acons (bin2 opIx (rdv 0) (kI 1)) (acons (rdv 5) anil)))))))
  (seq (forS [1] (sSeq (bin2 opIx (rdv 1) (kI 0))) (bN 7) (seq (asg [4, 7] 8 (bin2 opIx (rdv 4) (rdv 7)))
  (asg [2, 3, 7, 8] 3 (bin2 opAdd (rdv 3) (vif (tst (bin2 opIsN (rdv 8) kN)) (ccall 2 g__law_count (acons (rdv 2) (acons (rdv 7) anil))) (rdv 8))))))
  (seq (asg [1, 2, 10] 9 (lc [10] (sSeq (rdv 2)) (bN 10) (tnot (tst (ccall 2 g__law_meets (acons (rdv 10) (acons (bin2 opIx (rdv 1) (kI 0)) anil))))) (rdv 10)))
  (seq (forS [1] (sSeq (bin2 opIx (rdv 1) (kI 1))) (bN 7) (seq (asg [4, 7] 8 (bin2 opIx (rdv 4) (rdv 7)))
  (asg [3, 7, 8, 9] 3 (bin2 opSub (bin2 opAdd (rdv 3) (ccall 2 g__law_count (acons (rdv 9) (acons (rdv 7) anil)))) (vif (tst (bin2 opIsN (rdv 8) kN)) (kI 0) (rdv 8))))))
  (seq (asg [1, 4, 7] 11 (lc [7] (sRng1 (call (f1 vLen) (acons (rdv 4) anil))) (bN 7) (tst (bin2 opNotIn (rdv 7) (bin2 opAdd (bin2 opIx (rdv 1) (kI 0)) (bin2 opIx (rdv 1) (kI 1))))) (rdv 7)))
  (seq (forS [2, 11] (sSeq (ccall 2 g__law_pieces (acons (rdv 11) (acons (rdv 2) anil)))) (bN 12) (seq (asg [4, 7, 12] 13 (lc [7] (sSeq (rdv 12)) (bN 7) tYes (bin2 opIx (rdv 4) (rdv 7))))
  (seq (asg [9, 10, 12] 14 (lc [10] (sSeq (rdv 9)) (bN 10) (tst (ccall 2 g__law_crosses (acons (rdv 10) (acons (rdv 12) anil)))) (rdv 10)))
  (seq (asg [1, 10, 14] 14 (lc [10] (sSeq (rdv 14)) (bN 10) (tst (ccall 2 g__law_meets (acons (rdv 10) (acons (bin2 opIx (rdv 1) (kI 1)) anil)))) (rdv 10)))
  (ifs [13] (tst (bin2 opNotIn kN (rdv 13))) (asg [3, 13, 14] 3 (bin2 opSub (rdv 3) (bin2 opMod (call (f1 vInt) (acons (bin2 opAdd (call (f1 vSum) (acons (rdv 13) anil)) (call (f1 vLen) (acons (rdv 14) anil))) anil)) (kI 2)))) skip)))))
  (rtnV 3)))))))))
def g__law_slack : List Wv → M Wv := body 15 b__law_slack
def b__law_cut : En → M Fl := (rtn [0, 1, 2] (ccall 3 g__law_told (acons (rdv 0) (acons (lst anil) (acons (lc [2] (sSeq (ccall 1 g__law_free (acons (rdv 0) anil))) (bN 2) (tst (ccall 2 g__law_crosses (acons (rdv 2) (acons (rdv 1) anil)))) (rdv 2)) anil)))))
def g__law_cut : List Wv → M Wv := body 3 b__law_cut
def b__law_some_bar : En → M Fl := (seq (asg [0, 1, 3] 2 (lc [3] (sRng1 (rdv 1)) (bN 3) tYes (ccall 2 g__law_below (acons (rdv 0) (acons (kI 3) anil)))))
  (seq (asg [1, 2, 3] 4 (call (f1 vTuple) (acons (lc [3] (sRng1 (rdv 1)) (bN 3) (tst (bin2 opEq (bin2 opIx (rdv 2) (rdv 3)) (kI 1))) (rdv 3)) anil)))
  (rtn [1, 2, 3, 4] (tup (acons (rdv 4) (acons (call (f1 vTuple) (acons (lc [3] (sRng1 (rdv 1)) (bN 3) (tst (bin2 opEq (bin2 opIx (rdv 2) (rdv 3)) (kI 2))) (rdv 3)) anil)) anil))))))
def g__law_some_bar : List Wv → M Wv := body 5 b__law_some_bar
def b_is_pair : En → M Fl := (rtn [0, 1] (vand (call (opIsi "tuple") (acons (rdv 0) (acons (kT "tuple") anil))) (vand (bin2 opEq (call (f1 vLen) (acons (rdv 0) anil)) (kI 2)) (vand (ccall 1 g_is_rising (acons (rdv 0) anil)) (bin2 opLt (bin2 opIx (rdv 0) (kI 1)) (rdv 1))))))
def g_is_pair : List Wv → M Wv := body 2 b_is_pair
def b_is_side : En → M Fl := (rtn [0, 1, 2] (vand (ccall 1 g_is_rising (acons (rdv 0) anil)) (call (f1 vAll) (acons (lc [2] (sSeq (rdv 0)) (bN 2) tYes (bin2 opLt (rdv 2) (rdv 1))) anil))))
def g_is_side : List Wv → M Wv := body 3 b_is_side
def b_slack_of : En → M Fl := (rtn [0, 1] (ccall 3 g_slack_by (acons (ccall 1 g_needs_of (acons (rdv 0) anil)) (acons (ccall 1 g_free_of (acons (rdv 0) anil)) (acons (rdv 1) anil)))))
def g_slack_of : List Wv → M Wv := body 2 b_slack_of
def b_is_parting : En → M Fl := (seq (ifs [1] (tor (tnot (tst (ccall 1 g_is_rising (acons (rdv 1) anil)))) (tst (bin2 opNe (sub oN (oS (kI 1)) (rdv 1)) (tup (acons (kI 0) anil))))) (rtn [] (kB' false)) skip)
  (rtn [0, 1] (vand (bin2 opLt (call (f1 vLen) (acons (rdv 1) anil)) (call (f1 vLen) (acons (bin2 opIx (rdv 0) (kI 0)) anil))) (bin2 opLt (bin2 opIx (rdv 1) (un1 opNeg (kI 1))) (call (f1 vLen) (acons (bin2 opIx (rdv 0) (kI 0)) anil))))))
def g_is_parting : List Wv → M Wv := body 2 b_is_parting
def b__law_right_party : En → M Fl := (seq (asg2 [0, 1] 2 3 (bin2 opAdd (kI 1) (ccall 2 g__law_below (acons (rdv 0) (acons (rdv 1) anil)))) (ccall 2 g__law_below (acons (rdv 0) (acons (kI 4) anil))))
  (seq (duoS [2] 4 5 6 (ccall 1 g__law_all_pairs (acons (rdv 2) anil)) (lst anil) (for2 (sSeq (rdv 4)) (bN 7) (seq2 (ifs2 [0, 3] (tst (bin2 opLt (ccall 2 g__law_below (acons (rdv 0) (acons (bin2 opIx (lst (acons (kI 2) (acons (kI 3) (acons (kI 2) (acons (kI 4) anil))))) (rdv 3)) anil))) (bin2 opIx (lst (acons (kI 1) (acons (kI 1) (acons (kI 1) (acons (kI 3) anil))))) (rdv 3)))) (app2 [7] 5 (rdv 7)) skip2) (ifs2 [0, 3] (tand (tst (bin2 opEq (ccall 2 g__law_below (acons (rdv 0) (acons (kI 5) anil))) (kI 0))) (tst (bin2 opLt (rdv 3) (kI 3)))) (dapp [7] [5, 7] (call (f1 vInt) (acons (bin2 opNotIn (rdv 7) (rdv 5)) anil)) (rdv 7)) skip2))))
  (seq (asg [2, 5, 9] 8 (lc [9] (sRng1 (rdv 2)) (bN 9) tYes (ccall 2 g__law_count (acons (rdv 5) (acons (rdv 9) anil)))))
  (seq (forS [0] (sRng1 (ccall 2 g__law_pick (acons (rdv 0) (acons (lst (acons (kI 0) (acons (kI 0) (acons (kI 1) (acons (kI 2) anil))))) anil)))) (bN 9) (sto [] [0, 2] 8 kN (ccall 2 g__law_below (acons (rdv 0) (acons (rdv 2) anil)))))
  (rtn [5, 6, 8] (lst (acons (tup (acons (call (f1 vTuple) (acons (rdv 8) anil)) (acons (call (f1 vTuple) (acons (bin2 opIx (rdv 6) (kI 0)) anil)) (acons (call (f1 vTuple) (acons (bin2 opIx (rdv 6) (kI 1)) anil)) anil)))) (acons (call (f1 vTuple) (acons (rdv 5) anil)) anil))))))))
def g__law_right_party : List Wv → M Wv := body 10 b__law_right_party
def b__law_bars : En → M Fl := (seq (asg [0] 2 (call (f1 vLen) (acons (bin2 opIx (rdv 0) (kI 0)) anil)))
  (seq (ifs [1] (tor (tnot (tst (call (opIsi "tuple") (acons (rdv 1) (acons (kT "tuple") anil))))) (tst (bin2 opNe (call (f1 vLen) (acons (rdv 1) anil)) (kI 2)))) (rtn [] (kB' false)) skip)
  (seq (ifs [1, 2] (tor (tnot (tst (ccall 2 g__law_is_side (acons (bin2 opIx (rdv 1) (kI 0)) (acons (rdv 2) anil))))) (tnot (tst (ccall 2 g__law_is_side (acons (bin2 opIx (rdv 1) (kI 1)) (acons (rdv 2) anil)))))) (rtn [] (kB' false)) skip)
  (rtn [0, 1, 3] (vand (bin2 opEq (lc [3] (sSeq (bin2 opIx (rdv 1) (kI 0))) (bN 3) (tst (bin2 opIn (rdv 3) (bin2 opIx (rdv 1) (kI 1)))) (rdv 3)) (lst anil)) (bin2 opLt (ccall 2 g__law_slack (acons (rdv 0) (acons (rdv 1) anil))) (kI 0)))))))
def g__law_bars : List Wv → M Wv := body 4 b__law_bars
def b__law_find : En → M Fl := (seq (forS [0] (sSeq (ccall 1 g__law_all_bars (acons (call (f1 vLen) (acons (bin2 opIx (rdv 0) (kI 0)) anil)) anil))) (bN 1) (ifs [0, 1] (tst (bin2 opLt (ccall 2 g__law_slack (acons (rdv 0) (acons (rdv 1) anil))) (kI 0))) (rtnV 1) skip))
  (rtn [] kN))
def g__law_find : List Wv → M Wv := body 2 b__law_find
def b__law_bent_bar : En → M Fl := (seq (asg [0, 2] 3 (ccall 2 g__law_pick (acons (rdv 0) (acons (lst (acons (rdv 2) (acons (bin2 opSub (kI 0) (kI 1)) (acons (kB' true) (acons kN (acons (kS "0") (acons (kI 0) (acons (bin2 opSub (rdv 2) (kI 1)) anil)))))))) anil))))
  (seq (asg [1] 4 (bin2 opIx (rdv 1) (kI 1)))
  (seq (asg [1, 3, 4] 5 (lst (acons (rdv 1) (acons (rev (rdv 1)) (acons (call (f1 vList) (acons (rdv 1) anil)) (acons (sub oN (oS (kI 1)) (rdv 1)) (acons (bin2 opAdd (rdv 1) (tup (acons (tup anil) anil))) (acons (tup (acons (bin2 opIx (rdv 1) (kI 0)) (acons (call (f1 vList) (acons (rdv 4) anil)) anil))) (acons (tup (acons (bin2 opIx (rdv 1) (kI 0)) (acons (bin2 opAdd (rdv 4) (tup (acons (rdv 3) anil))) anil))) anil)))))))))
  (seq (asg [1, 3, 4, 5] 5 (bin2 opAdd (rdv 5) (lst (acons (tup (acons (bin2 opAdd (bin2 opIx (rdv 1) (kI 0)) (tup (acons (rdv 3) anil))) (acons (rdv 4) anil))) (acons (tup (acons (rdv 4) (acons (rdv 4) anil))) (acons (tup (acons (bin2 opIx (rdv 1) (kI 0)) (acons (sub (oS (kI 1)) oN (rdv 4)) anil))) (acons (tup (acons (sub oN (oS (bin2 opSub (kI 0) (kI 1))) (bin2 opIx (rdv 1) (kI 0))) (acons (rdv 4) anil))) (acons (tup (acons (kI 0) (acons (kI 0) anil))) (acons kN anil)))))))))
  (rtn [0, 1, 2, 3, 4, 5] (ccall 2 g__law_pick (acons (rdv 0) (acons (bin2 opAdd (rdv 5) (lst (acons (tup (acons (bin2 opIx (rdv 1) (kI 0)) (acons (bin2 opAdd (tup (acons (rdv 3) anil)) (rdv 4)) anil))) (acons (ccall 2 g__law_some_bar (acons (rdv 0) (acons (rdv 2) anil))) (acons (ccall 2 g__law_some_bar (acons (rdv 0) (acons (rdv 2) anil))) anil))))) anil))))))))
def g__law_bent_bar : List Wv → M Wv := body 6 b__law_bent_bar
def b_are_pairs : En → M Fl := (seq (ifs [0, 1, 2] (tor (tnot (tst (call (opIsi "tuple") (acons (rdv 0) (acons (kT "tuple") anil))))) (tnot (tst (call (f1 vAll) (acons (lc [2] (sSeq (rdv 0)) (bN 2) tYes (ccall 2 g_is_pair (acons (rdv 2) (acons (rdv 1) anil)))) anil))))) (rtn [] (kB' false)) skip)
  (rtn [0, 3, 4] (call (f1 vAll) (acons (lc [3, 4] (sZip (sub oN (oS (un1 opNeg (kI 1))) (rdv 0)) (sub (oS (kI 1)) oN (rdv 0))) (bT [3, 4]) tYes (bin2 opLt (rdv 3) (rdv 4))) anil))))
def g_are_pairs : List Wv → M Wv := body 5 b_are_pairs
def b_is_bar_of : En → M Fl := (seq (ifs [0, 1, 2] (tor (tnot (tst (call (opIsi "tuple") (acons (rdv 1) (acons (kT "tuple") anil))))) (tor (tst (bin2 opNe (call (f1 vLen) (acons (rdv 1) anil)) (kI 2))) (tnot (tst (call (f1 vAll) (acons (lc [2] (sSeq (rdv 1)) (bN 2) tYes (ccall 2 g_is_side (acons (rdv 2) (acons (call (f1 vLen) (acons (bin2 opIx (rdv 0) (kI 0)) anil)) anil)))) anil)))))) (rtn [] (kB' false)) skip)
  (rtn [1, 3] (vnot (call (f1 vAny) (acons (lc [3] (sSeq (bin2 opIx (rdv 1) (kI 0))) (bN 3) tYes (bin2 opIn (rdv 3) (bin2 opIx (rdv 1) (kI 1)))) anil)))))
def g_is_bar_of : List Wv → M Wv := body 4 b_is_bar_of
def b__law_any_party : En → M Fl := (seq (unl [0, 1] [2, 3] (ccall 2 g__law_right_party (acons (rdv 0) (acons (rdv 1) anil))))
  (seq (asg3 [2] 4 5 6 (call (f1 vList) (acons (bin2 opIx (rdv 2) (kI 0)) anil)) (call (f1 vList) (acons (bin2 opIx (rdv 2) (kI 1)) anil)) (call (f1 vList) (acons (bin2 opIx (rdv 2) (kI 2)) anil)))
  (seq (asg [0] 7 (ccall 2 g__law_below (acons (rdv 0) (acons (kI 4) anil))))
  (seq (ifs [7] (tst (bin2 opLt (rdv 7) (kI 2))) (seq (asg [0, 4] 8 (ccall 2 g__law_below (acons (rdv 0) (acons (call (f1 vLen) (acons (rdv 4) anil)) anil))))
  (sto [0, 4] [8] 4 (ccall 2 g__law_pick (acons (rdv 0) (acons (lst (acons (kI 0) (acons (kI 1) (acons (kI 2) (acons (kI 3) (acons (bin2 opSub (call (f1 vLen) (acons (rdv 4) anil)) (kI 1)) (acons (call (f1 vLen) (acons (rdv 4) anil)) (acons (kI 20) anil)))))))) anil))) (rdv 8))) (ifs [7] (tst (bin2 opEq (rdv 7) (kI 2))) (forS [4] (sSeq (ccall 1 g__law_all_pairs (acons (call (f1 vLen) (acons (rdv 4) anil)) anil))) (bN 9) (ifs [0, 5, 6, 9] (tand (tst (bin2 opNotIn (rdv 9) (rdv 5))) (tand (tst (bin2 opNotIn (rdv 9) (rdv 6))) (tst (bin2 opEq (ccall 2 g__law_below (acons (rdv 0) (acons (kI 4) anil))) (kI 0))))) (seq (ali [3, 9] [9] 10 6 5 (tst (bin2 opIn (rdv 9) (rdv 3))) (rdv 9)) skip) skip)) skip))
  (rtn [4, 5, 6] (tup (acons (call (f1 vTuple) (acons (rdv 4) anil)) (acons (call (f1 vTuple) (acons (call (f1 vSorted) (acons (rdv 5) anil)) anil)) (acons (call (f1 vTuple) (acons (call (f1 vSorted) (acons (rdv 6) anil)) anil)) anil)))))))))
def g__law_any_party : List Wv → M Wv := body 11 b__law_any_party
def b__law_is_reason : En → M Fl := (seq (ifs [0, 2] (tst (ccall 2 g__law_is_pair (acons (rdv 2) (acons (call (f1 vLen) (acons (bin2 opIx (rdv 0) (kI 0)) anil)) anil)))) (rtn [0, 1, 2] (vand (bin2 opIn (rdv 2) (bin2 opIx (rdv 0) (kI 1))) (ccall 2 g__law_crosses (acons (rdv 2) (acons (rdv 1) anil))))) skip)
  (rtn [0, 1, 2] (ccall 2 g__law_bars (acons (ccall 2 g__law_cut (acons (rdv 0) (acons (rdv 1) anil))) (acons (rdv 2) anil)))))
def g__law_is_reason : List Wv → M Wv := body 3 b__law_is_reason
def b__law_reasons : En → M Fl := (seq (asg [] 2 (lst anil))
  (seq (forS [1] (sSeq (ccall 1 g__law_partings (acons (call (f1 vLen) (acons (bin2 opIx (rdv 1) (kI 0)) anil)) anil))) (bN 3) (seq (asg [1, 3, 6] 4 (lc [6] (sSeq (bin2 opIx (rdv 1) (kI 1))) (bN 6) (tst (ccall 2 g__law_crosses (acons (rdv 6) (acons (rdv 3) anil)))) (rdv 6)))
  (seq (asg [1, 3] 5 (ccall 1 g__law_find (acons (ccall 2 g__law_cut (acons (rdv 1) (acons (rdv 3) anil))) anil)))
  (ifs [0, 4, 5] (tand (tst (bin2 opNe (rdv 4) (lst anil))) (tor (tst (bin2 opIsN (rdv 5) kN)) (tst (bin2 opGt (ccall 2 g__law_below (acons (rdv 0) (acons (kI 3) anil))) (kI 0))))) (app [0, 3, 4] 2 (tup (acons (rdv 3) (acons (ccall 2 g__law_pick (acons (rdv 0) (acons (rdv 4) anil))) anil)))) (app [0, 1, 3, 5] 2 (tup (acons (rdv 3) (acons (vif (tst (bin2 opIsN (rdv 5) kN)) (ccall 2 g__law_some_bar (acons (rdv 0) (acons (call (f1 vLen) (acons (bin2 opIx (rdv 1) (kI 0)) anil)) anil))) (rdv 5)) anil))))))))
  (rtnV 2)))
def g__law_reasons : List Wv → M Wv := body 7 b__law_reasons
def b__law_bent_row : En → M Fl := (seq (asg3 [0, 1, 2] 3 4 5 (call (f1 vLen) (acons (bin2 opIx (rdv 1) (kI 0)) anil)) (ccall 2 g__law_below (acons (rdv 0) (acons (kI 8) anil))) (bin2 opIx (rdv 2) (kI 0)))
  (seq (asg [0, 3] 6 (ccall 2 g__law_pick (acons (rdv 0) (acons (bin2 opAdd (ccall 1 g__law_all_pairs (acons (rdv 3) anil)) (lst (acons (tup (acons (kI 0) (acons (kI 0) anil))) (acons (tup (acons (kI 1) (acons (kI 0) anil))) (acons (tup (acons (kB' false) (acons (kB' true) anil))) (acons (tup (acons (kI 0) (acons (rdv 3) anil))) anil)))))) anil))))
  (seq (asg [2, 5, 8] 7 (vif (tst (call (opIsi "int") (acons (bin2 opIx (bin2 opIx (rdv 2) (kI 1)) (kI 0)) (acons (kT "int") anil)))) (tup (acons (tup anil) (acons (call (f1 vTuple) (acons (lc [8] (sSeq (rdv 5)) (bN 8) (tst (bin2 opGt (rdv 8) (kI 0))) (rdv 8)) anil)) anil))) (bin2 opIx (rdv 2) (kI 1))))
  (seq (ifs [4] (tst (bin2 opLt (rdv 4) (kI 2))) (rtn [5, 6] (tup (acons (rdv 5) (acons (rdv 6) anil)))) skip)
  (seq (ifs [4] (tst (bin2 opLt (rdv 4) (kI 5))) (rtn [0, 3, 5, 7] (tup (acons (rdv 5) (acons (ccall 3 g__law_bent_bar (acons (rdv 0) (acons (rdv 7) (acons (rdv 3) anil)))) anil)))) skip)
  (seq (asg [2, 3, 5] 9 (lst (acons (call (f1 vList) (acons (rdv 2) anil)) (acons (tup (acons (call (f1 vList) (acons (rdv 5) anil)) (acons (bin2 opIx (rdv 2) (kI 1)) anil))) (acons (tup (acons (sub (oS (kI 1)) oN (rdv 5)) (acons (bin2 opIx (rdv 2) (kI 1)) anil))) (acons (tup (acons (bin2 opAdd (rdv 5) (tup (acons (rdv 3) anil))) (acons (bin2 opIx (rdv 2) (kI 1)) anil))) (acons (bin2 opAdd (rdv 2) (tup (acons (kI 0) anil))) (acons (rdv 5) anil))))))))
  (rtn [0, 2, 5, 9] (ccall 2 g__law_pick (acons (rdv 0) (acons (bin2 opAdd (rdv 9) (lst (acons (tup (acons (bin2 opAdd (tup (acons (kB' false) anil)) (sub (oS (kI 1)) oN (rdv 5))) (acons (bin2 opIx (rdv 2) (kI 1)) anil))) (acons (tup (acons (rdv 5) (acons (call (f1 vList) (acons (bin2 opIx (rdv 2) (kI 1)) anil)) anil))) (acons (tup (acons (bin2 opIx (rdv 2) (kI 1)) (acons (rdv 5) anil))) (acons kN anil)))))) anil))))))))))
def g__law_bent_row : List Wv → M Wv := body 10 b__law_bent_row
def b_is_party : En → M Fl := (seq (ifs [0] (tor (tnot (tst (call (opIsi "tuple") (acons (rdv 0) (acons (kT "tuple") anil))))) (tor (tst (bin2 opNe (call (f1 vLen) (acons (rdv 0) anil)) (kI 3))) (tnot (tst (call (opIsi "tuple") (acons (bin2 opIx (rdv 0) (kI 0)) (acons (kT "tuple") anil))))))) (rtn [] (kB' false)) skip)
  (seq (ifs [0, 1] (tor (tnot (tst (chainI (fun i j => decide (i ≤ j)) (fun i j => decide (i ≤ j)) (kI 1) (call (f1 vLen) (acons (bin2 opIx (rdv 0) (kI 0)) anil)) (kI 8)))) (tnot (tst (call (f1 vAll) (acons (lc [1] (sSeq (bin2 opIx (rdv 0) (kI 0))) (bN 1) tYes (ccall 1 g_is_number (acons (rdv 1) anil))) anil))))) (rtn [] (kB' false)) skip)
  (seq (ifs [0] (tor (tnot (tst (ccall 2 g_are_pairs (acons (bin2 opIx (rdv 0) (kI 1)) (acons (call (f1 vLen) (acons (bin2 opIx (rdv 0) (kI 0)) anil)) anil))))) (tnot (tst (ccall 2 g_are_pairs (acons (bin2 opIx (rdv 0) (kI 2)) (acons (call (f1 vLen) (acons (bin2 opIx (rdv 0) (kI 0)) anil)) anil)))))) (rtn [] (kB' false)) skip)
  (rtn [0, 2] (vnot (call (f1 vAny) (acons (lc [2] (sSeq (bin2 opIx (rdv 0) (kI 1))) (bN 2) tYes (bin2 opIn (rdv 2) (bin2 opIx (rdv 0) (kI 2)))) anil)))))))
def g_is_party : List Wv → M Wv := body 3 b_is_party
def b__law_is_paper : En → M Fl := (seq (asg [0] 2 (ccall 1 g__law_partings (acons (call (f1 vLen) (acons (bin2 opIx (rdv 0) (kI 0)) anil)) anil)))
  (seq (ifs [1, 2] (tor (tnot (tst (call (opIsi "list") (acons (rdv 1) (acons (kT "list") anil))))) (tst (bin2 opNe (call (f1 vLen) (acons (rdv 1) anil)) (call (f1 vLen) (acons (rdv 2) anil))))) (rtn [] (kB' false)) skip)
  (seq (forS [1, 2] (sZip (rdv 2) (rdv 1)) (bT [3, 4]) (seq (ifs [3, 4] (tor (tnot (tst (call (opIsi "tuple") (acons (rdv 4) (acons (kT "tuple") anil))))) (tor (tst (bin2 opNe (call (f1 vLen) (acons (rdv 4) anil)) (kI 2))) (tst (bin2 opNe (call (f1 vRepr) (acons (bin2 opIx (rdv 4) (kI 0)) anil)) (call (f1 vRepr) (acons (rdv 3) anil)))))) (rtn [] (kB' false)) skip)
  (ifs [0, 3, 4] (tnot (tst (ccall 3 g__law_is_reason (acons (rdv 0) (acons (rdv 3) (acons (bin2 opIx (rdv 4) (kI 1)) anil)))))) (rtn [] (kB' false)) skip)))
  (rtn [] (kB' true)))))
def g__law_is_paper : List Wv → M Wv := body 5 b__law_is_paper
def b__law_bent : En → M Fl := (seq (asg [0] 3 (ccall 2 g__law_below (acons (rdv 0) (acons (kI 6) anil))))
  (seq (ifs [2, 3] (tor (tst (bin2 opEq (rdv 2) (lst anil))) (tst (bin2 opEq (rdv 3) (kI 0)))) (rtn [0, 2] (ccall 2 g__law_pick (acons (rdv 0) (acons (lst (acons (rdv 2) (acons (call (f1 vTuple) (acons (rdv 2) anil)) (acons (bin2 opAdd (rdv 2) (lst (acons (tup (acons (tup (acons (kI 0) anil)) (acons (tup (acons (tup anil) (acons (tup anil) anil))) anil))) anil))) (acons (sub oN (oS (bin2 opSub (kI 0) (kI 1))) (rdv 2)) (acons (rev (rdv 2)) (acons kN (acons kD0 (acons (tup anil) anil))))))))) anil)))) skip)
  (seq (asg [0, 2] 4 (ccall 2 g__law_below (acons (rdv 0) (acons (call (f1 vLen) (acons (rdv 2) anil)) anil))))
  (seq (ifs [3] (tst (bin2 opLt (rdv 3) (kI 5))) (rtn [0, 1, 2, 4] (bin2 opAdd (bin2 opAdd (sub oN (oS (rdv 4)) (rdv 2)) (lst (acons (ccall 3 g__law_bent_row (acons (rdv 0) (acons (rdv 1) (acons (bin2 opIx (rdv 2) (rdv 4)) anil)))) anil))) (sub (oS (bin2 opAdd (rdv 4) (kI 1))) oN (rdv 2)))) skip)
  (rtn [0, 2, 4] (ccall 2 g__law_pick (acons (rdv 0) (acons (lst (acons (rdv 2) (acons (bin2 opAdd (sub oN (oS (rdv 4)) (rdv 2)) (sub (oS (bin2 opAdd (rdv 4) (kI 1))) oN (rdv 2))) (acons (bin2 opAdd (sub (oS (rdv 4)) oN (rdv 2)) (sub oN (oS (rdv 4)) (rdv 2))) (acons (bin2 opAdd (rdv 2) (sub (oS (rdv 4)) oN (rdv 2))) (acons (rdv 2) anil)))))) anil))))))))
def g__law_bent : List Wv → M Wv := body 5 b__law_bent
def b_need_party : En → M Fl := (ifs [0] (tnot (tst (ccall 1 g_is_party (acons (rdv 0) anil)))) badS skip)
def g_need_party : List Wv → M Wv := body 1 b_need_party
def b_bars_it : En → M Fl := (seq (exs [0] (ccall 1 g_need_party (acons (rdv 0) anil)))
  (rtn [0, 1] (vand (ccall 2 g_is_bar_of (acons (rdv 0) (acons (rdv 1) anil))) (bin2 opLt (ccall 2 g_slack_of (acons (rdv 0) (acons (rdv 1) anil))) (kI 0)))))
def g_bars_it : List Wv → M Wv := body 2 b_bars_it
def b_shows_crossed : En → M Fl := (seq (ifs [0, 2] (tst (ccall 2 g_is_pair (acons (rdv 2) (acons (call (f1 vLen) (acons (bin2 opIx (rdv 0) (kI 0)) anil)) anil)))) (rtn [0, 1, 2] (vand (bin2 opIn (rdv 2) (bin2 opIx (rdv 0) (kI 1))) (ccall 2 g_crosses (acons (rdv 2) (acons (rdv 1) anil))))) skip)
  (rtn [0, 1, 2] (ccall 2 g_bars_it (acons (ccall 2 g_cut_by (acons (rdv 0) (acons (rdv 1) anil))) (acons (rdv 2) anil)))))
def g_shows_crossed : List Wv → M Wv := body 3 b_shows_crossed
def b_shows_one : En → M Fl := (seq (exs [0] (ccall 1 g_need_party (acons (rdv 0) anil)))
  (seq (asg [0] 2 (ccall 1 g_all_partings (acons (call (f1 vLen) (acons (bin2 opIx (rdv 0) (kI 0)) anil)) anil)))
  (seq (ifs [1, 2] (tor (tnot (tst (call (opIsi "list") (acons (rdv 1) (acons (kT "list") anil))))) (tst (bin2 opNe (call (f1 vLen) (acons (rdv 1) anil)) (call (f1 vLen) (acons (rdv 2) anil))))) (rtn [] (kB' false)) skip)
  (seq (forS [1, 2] (sZip (rdv 2) (rdv 1)) (bT [3, 4]) (seq (ifs [0, 3, 4] (tor (tnot (tst (call (opIsi "tuple") (acons (rdv 4) (acons (kT "tuple") anil))))) (tor (tst (bin2 opNe (call (f1 vLen) (acons (rdv 4) anil)) (kI 2))) (tor (tnot (tst (ccall 2 g_is_parting (acons (rdv 0) (acons (bin2 opIx (rdv 4) (kI 0)) anil))))) (tst (bin2 opNe (bin2 opIx (rdv 4) (kI 0)) (rdv 3)))))) (rtn [] (kB' false)) skip)
  (ifs [0, 3, 4] (tnot (tst (ccall 3 g_shows_crossed (acons (rdv 0) (acons (rdv 3) (acons (bin2 opIx (rdv 4) (kI 1)) anil)))))) (rtn [] (kB' false)) skip)))
  (rtn [] (kB' true))))))
def g_shows_one : List Wv → M Wv := body 5 b_shows_one
def b__law_wide : En → M Fl := (seq (asg [0] 1 (bin2 opAdd (kI 7) (ccall 2 g__law_below (acons (rdv 0) (acons (kI 2) anil)))))
  (seq (asg [1] 2 (tup (acons (bin2 opMul (tup (acons (bin2 opSub (rdv 1) (kI 1)) anil)) (rdv 1)) (acons (tup anil) (acons (tup anil) anil)))))
  (seq (asg [1, 4] 3 (lc [4] (sSeq (ccall 1 g__law_partings (acons (rdv 1) anil))) (bN 4) tYes (tup (acons (rdv 4) (acons (tup (acons (tup anil) (acons (tup (acons (kI 0) anil)) anil))) anil)))))
  (seq (ifs [2, 3] (tst (bin2 opNotB (ccall 2 g_shows_one (acons (rdv 2) (acons (call (f1 vList) (acons (rdv 3) anil)) anil))) (kB' true))) (rtn [] (kB' false)) skip)
  (seq (asg [0, 3] 5 (ccall 2 g__law_below (acons (rdv 0) (acons (call (f1 vLen) (acons (rdv 3) anil)) anil))))
  (seq (asg [0, 2, 3, 5] 6 (bin2 opAdd (bin2 opAdd (sub oN (oS (rdv 5)) (rdv 3)) (lst (acons (ccall 3 g__law_bent_row (acons (rdv 0) (acons (rdv 2) (acons (bin2 opIx (rdv 3) (rdv 5)) anil)))) anil))) (sub (oS (bin2 opAdd (rdv 5) (kI 1))) oN (rdv 3))))
  (rtn [2, 6] (bin2 opEq (call (f1 vRepr) (acons (ccall 2 g_shows_one (acons (rdv 2) (acons (rdv 6) anil))) anil)) (call (f1 vRepr) (acons (ccall 2 g__law_is_paper (acons (rdv 2) (acons (rdv 6) anil))) anil))))))))))
def g__law_wide : List Wv → M Wv := body 7 b__law_wide
def b_law : En → M Fl := (seq (asg [1] 2 (ccall 2 g__law_any_party (acons (rdv 1) (acons (kI 4) anil))))
  (seq (asg [1, 2] 3 (ccall 2 g__law_reasons (acons (rdv 1) (acons (rdv 2) anil))))
  (seq (ifs [2, 3] (tst (bin2 opNe (call (f1 vRepr) (acons (ccall 2 g_shows_one (acons (rdv 2) (acons (call (f1 vList) (acons (rdv 3) anil)) anil))) anil)) (call (f1 vRepr) (acons (ccall 2 g__law_is_paper (acons (rdv 2) (acons (rdv 3) anil))) anil)))) (rtn [] (kB' false)) skip)
  (seq (forS [] (sRng1 (kI 6)) (bN 4) (seq (asg [1, 2, 3] 5 (ccall 3 g__law_bent (acons (rdv 1) (acons (rdv 2) (acons (rdv 3) anil)))))
  (seq (asg2 [2, 5] 6 7 (call (f1 vRepr) (acons (rdv 5) anil)) (ccall 2 g__law_is_paper (acons (rdv 2) (acons (rdv 5) anil))))
  (ifs [2, 5, 6, 7] (tor (tst (bin2 opNe (call (f1 vRepr) (acons (ccall 2 g_shows_one (acons (rdv 2) (acons (rdv 5) anil))) anil)) (call (f1 vRepr) (acons (rdv 7) anil)))) (tst (bin2 opNe (call (f1 vRepr) (acons (rdv 5) anil)) (rdv 6)))) (rtn [] (kB' false)) skip))))
  (rtn [1] (ccall 1 g__law_wide (acons (rdv 1) anil)))))))
end
section
open PySem (PyData)
open DL
theorem kn_step (a b x y : Int) (h : 0 ≤ x ∧ x < 2305843009213693951) : ∃ z : Int, (0 ≤ z ∧ z < 2305843009213693951) ∧ (asg [1, 2, 3, 4] 3 (bin2 opMod (DL.call (f1 DL.vInt) (acons (bin2 opAdd (bin2 opAdd (bin2 opAdd (bin2 opMul (rdv 3) (rdv 3)) (bin2 opMul (kI 29) (rdv 3))) (bin2 opMul (kI 4001) (rdv 4))) (rdv 1)) anil)) (rdv 2)))
   [some (.dat (.int a)), some (.dat (.int b)), some (.dat (.int 2305843009213693951)), some (.dat (.int x)), some (.dat (.int y))] = .ok (.nx [some (.dat (.int a)), some (.dat (.int b)), some (.dat (.int 2305843009213693951)), some (.dat (.int z)), some (.dat (.int y))]) := by
  refine ⟨(x * x + 29 * x + 4001 * y + b) % 2305843009213693951, ⟨Int.emod_nonneg _ (by decide), Int.emod_lt_of_pos _ (by decide)⟩, ?_⟩
  have e1 : vMul (.int x) (.int x) = .ok (.dat (.int (x * x))) := vMul_int (by omega)
  have e2 : vMul (.int 29) (.int x) = .ok (.dat (.int (29 * x))) := vMul_int (by omega)
  have e3 : vMul (.int 4001) (.int y) = .ok (.dat (.int (4001 * y))) := vMul_int (by omega)
  have e4 : ∀ z : Int, opMod (.dat (.int z)) (.dat (.int 2305843009213693951)) = .ok (.dat (.int (z % 2305843009213693951))) := fun z => opMod_e (by decide)
  simp only [DL.sel_true, DL.sel_false, DL.sel_self, DL.okb, DL.excb, DL.badb, DL.pickb, DL.okp, DL.pickp, DL.ddat, DL.down, DL.sdat, DL.sown, DL.sraw, DL.spot, DL.gdat, DL.gown, DL.graw, DL.gpot, DL.asBb, DL.asIi, DL.kBok, DL.noxok, DL.datas0, DL.frz1_own, DL.frz1_dat, DL.frz1_raw, DL.frz1_pot, DL.frz1_none, DL.frz1_nil, DL.frz1_succ, DL.frz_nil, DL.frz_cons, DL.rdv_dat, DL.rdv_raw, DL.rdv_pot, DL.rdv_succ, DL.rtnV_zero, DL.rtnV_succ, DL.ownAt_zero, DL.ownAt_succ, DL.startE_eq, DL.seq_e, DL.seqK_nx, DL.seqK_ret, DL.seqK_brk, DL.seqK_cont, DL.asg_e, DL.asgK_e, DL.rtn_e, DL.rtnK_e, DL.rtnN_e, DL.exs_e, DL.exsK_e, DL.ifs_e, DL.ifsK_true, DL.ifsK_false, DL.skip_e, DL.brkS_e, DL.contS_e, DL.badS_e, DL.body_e, DL.fin_ret, DL.fin_nx, DL.app1_e, DL.app1K_e, DL.app_e, DL.appO_e, DL.appW_e, DL.appD_e, DL.asg2_e, DL.asg2K_e, DL.asg2L_e, DL.unp_e, DL.unpW_e, DL.unpD_e, DL.goOn_some, DL.goOn_none, DL.bT_e, DL.setL_cons, DL.setL_nil, DL.bN_e, DL.sto1_e, DL.sto_e, DL.stoW_e, DL.stoD_e, DL.sto2_e, DL.sto2K_e, DL.sto2W_e, DL.sto2I_e, DL.sto1K_e, DL.atK_e, DL.ali_e, DL.aliK_true, DL.aliK_false, DL.ali1_e, DL.ali1B_e, DL.ali1O_e, DL.ali1W_e, DL.ali1D_e, DL.forS_e, DL.forK_e, DL.loopB_some, DL.loopK_nx, DL.loopK_cont, DL.loopK_brk, DL.loopK_ret, DL.bin2_e, DL.binK_e, DL.binL_e, DL.un1_e, DL.unK_e, DL.tst_e, DL.tand_e, DL.tandK_true, DL.tandK_false, DL.tor_e, DL.torK_true, DL.torK_false, DL.tnot_e, DL.notK_e, DL.vand_e, DL.vandK_e, DL.vandL_true, DL.vandL_false, DL.vor_e, DL.vorK_e, DL.vorL_true, DL.vorL_false, DL.vnot_e, DL.vnotK_e, DL.vnotL_e, DL.vif_e, DL.vifK_true, DL.vifK_false, DL.anil_e, DL.acons_e, DL.aconsK_e, DL.aconsL_e, DL.call_e, DL.ccall_e, DL.ccallK1, DL.ccallK2, DL.ccallK3, DL.ccallK4, DL.sub_e, DL.subK_e, DL.subH_e, DL.cutK_e, DL.cutL_e, DL.oN_e, DL.oS_e, DL.oSK_e, DL.oI_e, DL.rev_e, DL.revK_e, DL.tup_e, DL.lst_e, DL.mkTup_e, DL.mkLst_e, DL.tupD_e, DL.lstD_e, DL.datas_e, DL.datasK_e, DL.kN_e, DL.kB_e, DL.kI_e, DL.kS_e, DL.kT_e, DL.kD0_e, DL.chainI_e, DL.chA_e, DL.chB_e, DL.chI_e, DL.chJ_e, DL.chG_true, DL.chG_false, DL.chY_e, DL.chC_e, DL.sSeq_e, DL.seqSrc_e, DL.asItems_list, DL.asItems_tuple, DL.sRng1_e, DL.rngW_e, DL.rngI_e, DL.sRng2_e, DL.rngK_e, DL.rngWW_e, DL.rngWI_e, DL.rngJ_e, DL.sZip_e, DL.zipK_e, DL.zipW_e, DL.zipA_e, DL.zipD_list, DL.zipD_tuple, DL.sEnum_e, DL.enumW_e, DL.enumV_e, DL.asList_e, DL.enumL_e, DL.ownR_e, DL.lc_e, DL.tYes_e, List.map_cons, List.map_nil, List.nil_append, List.cons_append, List.length_cons, List.length_nil, List.set_cons_zero, List.set_cons_succ, ite_self, reduceIte, noL_none, noL_bool, noL_int, noL_str, noL_list, noL_tuple, noLs_nil, noLs_cons, Bool.true_and, Bool.false_and, Bool.and_true, Bool.and_self, Bool.false_eq_true, Bool.not_true, Bool.not_false, List.replicate_succ, List.replicate_zero, DL.opEq_e, DL.flip_e, DL.opNe_e, DL.opIn_e, DL.opNotIn_e, DL.opLt_e, DL.opAdd_e, DL.opMul_e, DL.opIx_e, DL.opIsN_e, DL.opNotN_e, DL.opNeg_e, DL.opLe_e, DL.opGt_e, DL.opGe_e, DL.opSub_e, DL.vLt_int, DL.vEq_int, DL.vAdd_int, DL.vAdd_list, DL.vAdd_tuple, DL.vLen_tuple, DL.vLen_list, DL.vInt_int, DL.vTuple_list, DL.vTuple_tuple, DL.vList_list, DL.vList_tuple, DL.vRev_list, DL.vRev_tuple, DL.vCut_list, DL.vCut_tuple, DL.f1_e, DL.f2_e, DL.isNon_none, DL.isNon_int, DL.isi_int, DL.isi_bool, DL.isi_tuple, DL.isi_list, DL.isi_str, DL.isi_dict, e1, e2, e3, e4]
theorem kn_ok (a b : Int) : ∃ i : Int, g__law_mixed [.dat (.int a), .dat (.int b)] = .ok (.dat (.int i)) := by
  have e1 : vMul (.int a) (.int 1181783497276652981) = .ok (.dat (.int (a * 1181783497276652981))) := vMul_int (by omega)
  have e2 : vMul (.int b) (.int 2685821657736338717) = .ok (.dat (.int (b * 2685821657736338717))) := vMul_int (by omega)
  have e4 : ∀ z : Int, opMod (.dat (.int z)) (.dat (.int 2305843009213693951)) = .ok (.dat (.int (z % 2305843009213693951))) := fun z => opMod_e (by decide)
  have e5 : rngI 4 = .ok [.int 0, .int 1, .int 2, .int 3] := rngI_e (by decide)
  have e6 : startE 5 [.dat (.int a), .dat (.int b)] = [some (.dat (.int a)), some (.dat (.int b)), none, none, none] := rfl
  have st := kn_step a b
  obtain ⟨z1, b1, s1⟩ := st ((a * 1181783497276652981 + b * 2685821657736338717 + 41) % 2305843009213693951) 0 ⟨Int.emod_nonneg _ (by decide), Int.emod_lt_of_pos _ (by decide)⟩
  obtain ⟨z2, b2, s2⟩ := st z1 1 b1
  obtain ⟨z3, b3, s3⟩ := st z2 2 b2
  obtain ⟨z4, b4, s4⟩ := st z3 3 b3
  have m1 : vMul (.int z4) (.int 2305843009213693951) = .ok (.dat (.int (z4 * 2305843009213693951))) := vMul_int (by omega)
  have m2 : vMul (.int z4) (.int 48271) = .ok (.dat (.int (z4 * 48271))) := vMul_int (by omega)
  have lp : loop (bN 4) (asg [1, 2, 3, 4] 3 (bin2 opMod (DL.call (f1 DL.vInt) (acons (bin2 opAdd (bin2 opAdd (bin2 opAdd (bin2 opMul (rdv 3) (rdv 3)) (bin2 opMul (kI 29) (rdv 3))) (bin2 opMul (kI 4001) (rdv 4))) (rdv 1)) anil)) (rdv 2))) [.int 0, .int 1, .int 2, .int 3] [some (.dat (.int a)), some (.dat (.int b)), some (.dat (.int 2305843009213693951)), some (.dat (.int ((a * 1181783497276652981 + b * 2685821657736338717 + 41) % 2305843009213693951))), none] = .ok (.nx [some (.dat (.int a)), some (.dat (.int b)), some (.dat (.int 2305843009213693951)), some (.dat (.int z4)), some (.dat (.int 3))]) := by
    simp only [loop_cons, loop_nil, DL.bN_e, List.set_cons_zero, List.set_cons_succ, loopB_some, s1, s2, s3, s4, M.ok_bind, loopK_nx]
  refine ⟨z4 * 2305843009213693951 + (z4 * 48271 + b) % 2305843009213693951, ?_⟩
  simp only [g__law_mixed, b__law_mixed, DL.sel_true, DL.sel_false, DL.sel_self, DL.okb, DL.excb, DL.badb, DL.pickb, DL.okp, DL.pickp, DL.ddat, DL.down, DL.sdat, DL.sown, DL.sraw, DL.spot, DL.gdat, DL.gown, DL.graw, DL.gpot, DL.asBb, DL.asIi, DL.kBok, DL.noxok, DL.datas0, DL.frz1_own, DL.frz1_dat, DL.frz1_raw, DL.frz1_pot, DL.frz1_none, DL.frz1_nil, DL.frz1_succ, DL.frz_nil, DL.frz_cons, DL.rdv_dat, DL.rdv_raw, DL.rdv_pot, DL.rdv_succ, DL.rtnV_zero, DL.rtnV_succ, DL.ownAt_zero, DL.ownAt_succ, DL.startE_eq, DL.seq_e, DL.seqK_nx, DL.seqK_ret, DL.seqK_brk, DL.seqK_cont, DL.asg_e, DL.asgK_e, DL.rtn_e, DL.rtnK_e, DL.rtnN_e, DL.exs_e, DL.exsK_e, DL.ifs_e, DL.ifsK_true, DL.ifsK_false, DL.skip_e, DL.brkS_e, DL.contS_e, DL.badS_e, DL.body_e, DL.fin_ret, DL.fin_nx, DL.app1_e, DL.app1K_e, DL.app_e, DL.appO_e, DL.appW_e, DL.appD_e, DL.asg2_e, DL.asg2K_e, DL.asg2L_e, DL.unp_e, DL.unpW_e, DL.unpD_e, DL.goOn_some, DL.goOn_none, DL.bT_e, DL.setL_cons, DL.setL_nil, DL.bN_e, DL.sto1_e, DL.sto_e, DL.stoW_e, DL.stoD_e, DL.sto2_e, DL.sto2K_e, DL.sto2W_e, DL.sto2I_e, DL.sto1K_e, DL.atK_e, DL.ali_e, DL.aliK_true, DL.aliK_false, DL.ali1_e, DL.ali1B_e, DL.ali1O_e, DL.ali1W_e, DL.ali1D_e, DL.forS_e, DL.forK_e, DL.loopB_some, DL.loopK_nx, DL.loopK_cont, DL.loopK_brk, DL.loopK_ret, DL.bin2_e, DL.binK_e, DL.binL_e, DL.un1_e, DL.unK_e, DL.tst_e, DL.tand_e, DL.tandK_true, DL.tandK_false, DL.tor_e, DL.torK_true, DL.torK_false, DL.tnot_e, DL.notK_e, DL.vand_e, DL.vandK_e, DL.vandL_true, DL.vandL_false, DL.vor_e, DL.vorK_e, DL.vorL_true, DL.vorL_false, DL.vnot_e, DL.vnotK_e, DL.vnotL_e, DL.vif_e, DL.vifK_true, DL.vifK_false, DL.anil_e, DL.acons_e, DL.aconsK_e, DL.aconsL_e, DL.call_e, DL.ccall_e, DL.ccallK1, DL.ccallK2, DL.ccallK3, DL.ccallK4, DL.sub_e, DL.subK_e, DL.subH_e, DL.cutK_e, DL.cutL_e, DL.oN_e, DL.oS_e, DL.oSK_e, DL.oI_e, DL.rev_e, DL.revK_e, DL.tup_e, DL.lst_e, DL.mkTup_e, DL.mkLst_e, DL.tupD_e, DL.lstD_e, DL.datas_e, DL.datasK_e, DL.kN_e, DL.kB_e, DL.kI_e, DL.kS_e, DL.kT_e, DL.kD0_e, DL.chainI_e, DL.chA_e, DL.chB_e, DL.chI_e, DL.chJ_e, DL.chG_true, DL.chG_false, DL.chY_e, DL.chC_e, DL.sSeq_e, DL.seqSrc_e, DL.asItems_list, DL.asItems_tuple, DL.sRng1_e, DL.rngW_e, DL.rngI_e, DL.sRng2_e, DL.rngK_e, DL.rngWW_e, DL.rngWI_e, DL.rngJ_e, DL.sZip_e, DL.zipK_e, DL.zipW_e, DL.zipA_e, DL.zipD_list, DL.zipD_tuple, DL.sEnum_e, DL.enumW_e, DL.enumV_e, DL.asList_e, DL.enumL_e, DL.ownR_e, DL.lc_e, DL.tYes_e, List.map_cons, List.map_nil, List.nil_append, List.cons_append, List.length_cons, List.length_nil, List.set_cons_zero, List.set_cons_succ, ite_self, reduceIte, noL_none, noL_bool, noL_int, noL_str, noL_list, noL_tuple, noLs_nil, noLs_cons, Bool.true_and, Bool.false_and, Bool.and_true, Bool.and_self, Bool.false_eq_true, Bool.not_true, Bool.not_false, List.replicate_succ, List.replicate_zero, DL.opEq_e, DL.flip_e, DL.opNe_e, DL.opIn_e, DL.opNotIn_e, DL.opLt_e, DL.opAdd_e, DL.opMul_e, DL.opIx_e, DL.opIsN_e, DL.opNotN_e, DL.opNeg_e, DL.opLe_e, DL.opGt_e, DL.opGe_e, DL.opSub_e, DL.vLt_int, DL.vEq_int, DL.vAdd_int, DL.vAdd_list, DL.vAdd_tuple, DL.vLen_tuple, DL.vLen_list, DL.vInt_int, DL.vTuple_list, DL.vTuple_tuple, DL.vList_list, DL.vList_tuple, DL.vRev_list, DL.vRev_tuple, DL.vCut_list, DL.vCut_tuple, DL.f1_e, DL.f2_e, DL.isNon_none, DL.isNon_int, DL.isi_int, DL.isi_bool, DL.isi_tuple, DL.isi_list, DL.isi_str, DL.isi_dict, e1, e2, e4, e5, e6, lp, m1, m2]
end
section
open PySem PySem.Spec PyProof.Rows L2 DL
variable {P : Program} {w : World} {K : PySem.W.Frag} {mg : Str → Option Value} {base : Heap}
theorem d_is_integer (T : Txt K mg) (sy : SysIn base) : Den P w K mg base 1 "is_integer" 1 g_is_integer :=
  has_den (N := ["thing"]) (ps := ["thing"]) sy T.f_is_integer sc_is_integer fun f cd A0 ou s H E c A =>
    (dss_one (ds_ret [0] (de_and (dc_isi "int" T.n_isinstance rfl (da_cons (de_var 0) (da_cons (dk_T rfl T.n_int boot_int) da_nil))) (de_and1 (de_not (dc_isi "bool" T.n_isinstance rfl (da_cons (de_var 0) (da_cons (dk_T rfl T.n_bool boot_bool) da_nil))))))))
theorem d_all_pairs (T : Txt K mg) (sy : SysIn base) : Den P w K mg base 1 "all_pairs" 1 g_all_pairs :=
  has_den (N := ["many", "one", "other"]) (ps := ["many"]) sy T.f_all_pairs sc_all_pairs fun f cd A0 ou s H E c A =>
    (dss_one (ds_ret [0, 1, 2] (de_lc2 (own := [("one", 1), ("other", 2)]) rfl sc_all_pairs.nd (by exact blkOk_by (N := ["many", "one", "other"]) (sc := defScope (top 15)) (own := [("one", 1), ("other", 2)]) (by decide +kernel)) [2] (by decide) (di_rng1 rfl T.n_range (de_var 0)) (fun _ _ _ _ _ => (dg_name 1 sc_all_pairs.nd rfl (Or.inl rfl))) (fun _ _ _ _ _ => dts_nil) (fun _ _ _ _ _ => (di_rng2 rfl T.n_range (de_add (de_var 1) dk_I) (de_var 0))) (fun _ _ _ _ _ => (dg_name 2 sc_all_pairs.nd rfl (Or.inl rfl))) (fun _ _ _ _ _ => dts_nil) (fun _ _ _ _ _ => (de_tp (da_cons (de_var 1) (da_cons (de_var 2) da_nil)))) (binder_N _) (binder_N _))))
theorem d_known_met (T : Txt K mg) (sy : SysIn base) : Den P w K mg base 1 "known_met" 2 g_known_met :=
  has_den (N := ["party", "person", "pair"]) (ps := ["party", "person"]) sy T.f_known_met sc_known_met fun f cd A0 ou s H E c A =>
    (dss_one (ds_ret [0, 1, 2] (dc_len T.n_len rfl (da_cons (de_lc (own := [("pair", 2)]) rfl sc_known_met.nd (by exact blkOk_by (N := ["party", "person", "pair"]) (sc := defScope (top 17)) (own := [("pair", 2)]) (by decide +kernel)) (di_seq (de_ix (de_var 0) dk_I)) (fun _ _ _ _ _ => (dg_name 2 sc_known_met.nd rfl (Or.inl rfl))) (fun _ _ _ _ _ => (dts_one (dt_in A.room (de_var 1) (de_var 2)))) (fun _ _ _ _ _ => (de_var 2))) da_nil))))
theorem d_put_in (T : Txt K mg) (sy : SysIn base) : Den P w K mg base 1 "put_in" 2 g_put_in :=
  has_den (N := ["pairs", "some"]) (ps := ["pairs", "some"]) sy T.f_put_in sc_put_in fun f cd A0 ou s H E c A =>
    (dss_one (ds_ret [0, 1] (dc_tuple T.n_tuple rfl (da_cons (dc_sorted A.room T.n_sorted rfl (da_cons (de_ls (da_star (de_var 0) (da_star (de_var 1) da_nil))) da_nil)) da_nil))))
theorem d_lots (T : Txt K mg) (sy : SysIn base) : Den P w K mg base 1 "lots" 3 g_lots :=
  has_den (N := ["needs", "free", "bar", "found", "person", "pair", "some", "lot"]) (ps := ["needs", "free", "bar"]) sy T.f_lots sc_lots fun f cd A0 ou s H E c A =>
    (dss_cons (ds_asgLc (own := [("person", 4)]) [0, 2, 4] 3 rfl sc_lots.nd rfl rfl (sw_true rfl rfl rfl (by decide +kernel)) (by exact blkOk_by (N := ["needs", "free", "bar", "found", "person", "pair", "some", "lot"]) (sc := defScope (top 25)) (own := [("person", 4)]) (by decide +kernel)) (di_rng1 rfl T.n_range (dc_len T.n_len rfl (da_cons (de_var 0) da_nil))) (fun _ _ _ _ _ => (dg_name 4 sc_lots.nd rfl (Or.inl rfl))) (fun _ _ _ _ _ => (dts_one (dt_w (dw_and (dt_notin A.room (de_var 4) (de_ix (de_var 2) dk_I)) (dw_and1 (dt_notin A.room (de_var 4) (de_ix (de_var 2) dk_I))))))) (fun _ _ _ _ _ => (de_ls (da_cons (de_var 4) da_nil))))
    (dss_cons (ds_for [1] A.own rfl (di_seq (de_var 1)) (dg_name 5 sc_lots.nd rfl (Or.inr rfl)) (dss_cons (ds_asg [3, 5, 7] 6 sc_lots.nd rfl (Or.inr rfl) (de_lc (own := [("lot", 7)]) rfl sc_lots.nd (by exact blkOk_by (N := ["needs", "free", "bar", "found", "person", "pair", "some", "lot"]) (sc := defScope (top 25)) (own := [("lot", 7)]) (by decide +kernel)) (di_seq (de_var 3)) (fun _ _ _ _ _ => (dg_name 7 sc_lots.nd rfl (Or.inl rfl))) (fun _ _ _ _ _ => (dts_one (dt_w (dw_or (dt_in A.room (de_ix (de_var 5) dk_I) (de_var 7)) (dw_or1 (dt_in A.room (de_ix (de_var 5) dk_I) (de_var 7))))))) (fun _ _ _ _ _ => (de_var 7))))
    (dss_one (ds_if [6] (dt_eq A.room (dc_len T.n_len rfl (da_cons (de_var 6) da_nil)) dk_I) (dss_one (ds_asg [3, 6, 7] 3 sc_lots.nd rfl (Or.inl rfl) (de_ls (da_star (de_lc (own := [("lot", 7)]) rfl sc_lots.nd (by exact blkOk_by (N := ["needs", "free", "bar", "found", "person", "pair", "some", "lot"]) (sc := defScope (top 25)) (own := [("lot", 7)]) (by decide +kernel)) (di_seq (de_var 3)) (fun _ _ _ _ _ => (dg_name 7 sc_lots.nd rfl (Or.inl rfl))) (fun _ _ _ _ _ => (dts_one (dt_notin A.room (de_var 7) (de_var 6)))) (fun _ _ _ _ _ => (de_var 7))) (da_cons (de_ls (da_star (de_ix (de_var 6) dk_I) (da_star (de_ix (de_var 6) dk_I) da_nil))) da_nil))))) dss_nil))))
    (dss_one (ds_ret [3, 7] (de_lc (own := [("lot", 7)]) rfl sc_lots.nd (by exact blkOk_by (N := ["needs", "free", "bar", "found", "person", "pair", "some", "lot"]) (sc := defScope (top 25)) (own := [("lot", 7)]) (by decide +kernel)) (di_seq (de_var 3)) (fun _ _ _ _ _ => (dg_name 7 sc_lots.nd rfl (Or.inl rfl))) (fun _ _ _ _ _ => dts_nil) (fun _ _ _ _ _ => (dc_tuple T.n_tuple rfl (da_cons (dc_sorted A.room T.n_sorted rfl (da_cons (de_var 7) da_nil)) da_nil))))))))
theorem d_is_between (T : Txt K mg) (sy : SysIn base) : Den P w K mg base 1 "is_between" 3 g_is_between :=
  has_den (N := ["pair", "some", "others"]) (ps := ["pair", "some", "others"]) sy T.f_is_between sc_is_between fun f cd A0 ou s H E c A =>
    (dss_one (ds_ret [0, 1, 2] (de_or (de_and (de_in A.room (de_ix (de_var 0) dk_I) (de_var 1)) (de_and1 (de_in A.room (de_ix (de_var 0) dk_I) (de_var 2)))) (de_or1 (de_and (de_in A.room (de_ix (de_var 0) dk_I) (de_var 1)) (de_and1 (de_in A.room (de_ix (de_var 0) dk_I) (de_var 2))))))))
theorem d_inner_pairs (T : Txt K mg) (sy : SysIn base) : Den P w K mg base 1 "inner_pairs" 2 g_inner_pairs :=
  has_den (N := ["free", "bar", "pair", "person", "side"]) (ps := ["free", "bar"]) sy T.f_inner_pairs sc_inner_pairs fun f cd A0 ou s H E c A =>
    (dss_one (ds_ret [0, 1, 2, 3, 4] (de_lc (own := [("pair", 2)]) rfl sc_inner_pairs.nd (by exact blkOk_by (N := ["free", "bar", "pair", "person", "side"]) (sc := defScope (top 27)) (own := [("pair", 2)]) (by decide +kernel)) (di_seq (de_var 0)) (fun _ _ _ _ _ => (dg_name 2 sc_inner_pairs.nd rfl (Or.inl rfl))) (fun _ _ _ _ _ => (dts_one (dt_not (dt_val (dc_any rfl T.n_any rfl (da_cons (de_lc2 (own := [("person", 3), ("side", 4)]) rfl sc_inner_pairs.nd (by exact blkOk_by (N := ["free", "bar", "pair", "person", "side"]) (own := [("person", 3), ("side", 4)]) (by rfl)) [4] (by decide) (di_seq (de_var 2)) (fun _ _ _ _ _ => (dg_name 3 sc_inner_pairs.nd rfl (Or.inl rfl))) (fun _ _ _ _ _ => dts_nil) (fun _ _ _ _ _ => (di_seq (de_var 1))) (fun _ _ _ _ _ => (dg_name 4 sc_inner_pairs.nd rfl (Or.inl rfl))) (fun _ _ _ _ _ => dts_nil) (fun _ _ _ _ _ => (de_in A.room (de_var 3) (de_var 4))) (binder_N _) (binder_N _)) da_nil)))))) (fun _ _ _ _ _ => (de_var 2)))))
theorem d_all_partings (T : Txt K mg) (sy : SysIn base) : Den P w K mg base 1 "all_partings" 1 g_all_partings :=
  has_den (N := ["many", "found", "person", "row", "some"]) (ps := ["many"]) sy T.f_all_partings sc_all_partings fun f cd A0 ou s H E c A =>
    (dss_cons (ds_asg [] 1 sc_all_partings.nd rfl (Or.inl rfl) (de_ls (da_cons (de_tp (da_cons dk_I da_nil)) da_nil)))
    (dss_cons (ds_for [0] A.own rfl (di_rng2 rfl T.n_range dk_I (de_var 0)) (dg_name 2 sc_all_partings.nd rfl (Or.inr rfl)) (dss_one (ds_asgLc2 (own := [("row", 3), ("some", 4)]) [1, 2, 3, 4] 1 rfl sc_all_partings.nd rfl rfl (sw_true rfl rfl rfl (by decide +kernel)) (by exact blkOk_by (N := ["many", "found", "person", "row", "some"]) (sc := defScope (top 33)) (own := [("row", 3), ("some", 4)]) (by decide +kernel)) [4] (by decide) (di_seq (de_var 1)) (fun _ _ _ _ _ => (dg_name 3 sc_all_partings.nd rfl (Or.inl rfl))) (fun _ _ _ _ _ => dts_nil) (fun _ _ _ _ _ => (di_seq (de_tp (da_cons (de_var 3) (da_cons (de_tp (da_star (de_var 3) (da_cons (de_var 2) da_nil))) da_nil))))) (fun _ _ _ _ _ => (dg_name 4 sc_all_partings.nd rfl (Or.inl rfl))) (fun _ _ _ _ _ => dts_nil) (fun _ _ _ _ _ => (de_var 4)) (binder_N _) (binder_N _))))
    (dss_one (ds_ret [0, 1, 3] (dc_sorted A.room T.n_sorted rfl (da_cons (de_lc (own := [("row", 3)]) rfl sc_all_partings.nd (by exact blkOk_by (N := ["many", "found", "person", "row", "some"]) (sc := defScope (top 33)) (own := [("row", 3)]) (by decide +kernel)) (di_seq (de_var 1)) (fun _ _ _ _ _ => (dg_name 3 sc_all_partings.nd rfl (Or.inl rfl))) (fun _ _ _ _ _ => (dts_one (dt_lt A.room (dc_len T.n_len rfl (da_cons (de_var 3) da_nil)) (de_var 0)))) (fun _ _ _ _ _ => (de_var 3))) da_nil))))))
theorem d_crosses (T : Txt K mg) (sy : SysIn base) : Den P w K mg base 1 "crosses" 2 g_crosses :=
  has_den (N := ["pair", "parting"]) (ps := ["pair", "parting"]) sy T.f_crosses sc_crosses fun f cd A0 ou s H E c A =>
    (dss_one (ds_ret [0, 1] (de_ne A.room (de_in A.room (de_ix (de_var 0) dk_I) (de_var 1)) (de_in A.room (de_ix (de_var 0) dk_I) (de_var 1)))))
theorem d__law_mixed (T : Txt K mg) (sy : SysIn base) : Den P w K mg base 1 "_law_mixed" 2 g__law_mixed :=
  has_den (N := ["number", "lap", "prime", "found", "again"]) (ps := ["number", "lap"]) sy T.f__law_mixed sc__law_mixed fun f cd A0 ou s H E c A =>
    (dss_cons (ds_asg [] 2 sc__law_mixed.nd rfl (Or.inl rfl) dk_I)
    (dss_cons (ds_asg [0, 1, 2] 3 sc__law_mixed.nd rfl (Or.inl rfl) (de_mod (dc_int T.n_int rfl (da_cons (de_add (de_add (de_mul (de_var 0) dk_I) (de_mul (de_var 1) dk_I)) dk_I) da_nil)) (de_var 2)))
    (dss_cons (ds_for [] A.own rfl (di_rng1 rfl T.n_range dk_I) (dg_name 4 sc__law_mixed.nd rfl (Or.inl rfl)) (dss_one (ds_asg [1, 2, 3, 4] 3 sc__law_mixed.nd rfl (Or.inl rfl) (de_mod (dc_int T.n_int rfl (da_cons (de_add (de_add (de_add (de_mul (de_var 3) (de_var 3)) (de_mul dk_I (de_var 3))) (de_mul dk_I (de_var 4))) (de_var 1)) da_nil)) (de_var 2)))))
    (dss_one (ds_ret [1, 2, 3] (de_add (de_mul (de_var 3) (de_var 2)) (de_mod (dc_int T.n_int rfl (da_cons (de_add (de_mul (de_var 3) dk_I) (de_var 1)) da_nil)) (de_var 2))))))))
theorem d__law_all_pairs (T : Txt K mg) (sy : SysIn base) : Den P w K mg base 1 "_law_all_pairs" 1 g__law_all_pairs :=
  has_den (N := ["many", "found", "one", "other"]) (ps := ["many"]) sy T.f__law_all_pairs sc__law_all_pairs fun f cd A0 ou s H E c A =>
    (dss_cons (ds_asg [] 1 sc__law_all_pairs.nd rfl (Or.inl rfl) (de_ls da_nil))
    (dss_cons (ds_for [0] A.own rfl (di_rng1 rfl T.n_range (de_var 0)) (dg_name 2 sc__law_all_pairs.nd rfl (Or.inr rfl)) (dss_one (ds_ext [0, 2, 3] 1 (de_lc (own := [("other", 3)]) rfl sc__law_all_pairs.nd (by exact blkOk_by (N := ["many", "found", "one", "other"]) (sc := defScope (top 44)) (own := [("other", 3)]) (by decide +kernel)) (di_rng2 rfl T.n_range (de_add (de_var 2) dk_I) (de_var 0)) (fun _ _ _ _ _ => (dg_name 3 sc__law_all_pairs.nd rfl (Or.inl rfl))) (fun _ _ _ _ _ => dts_nil) (fun _ _ _ _ _ => (de_tp (da_cons (de_var 2) (da_cons (de_var 3) da_nil))))))))
    (dss_one (ds_retV 1))))
theorem d__law_count (T : Txt K mg) (sy : SysIn base) : Den P w K mg base 1 "_law_count" 2 g__law_count :=
  has_den (N := ["row", "person", "pair"]) (ps := ["row", "person"]) sy T.f__law_count sc__law_count fun f cd A0 ou s H E c A =>
    (dss_one (ds_ret [0, 1, 2] (dc_len T.n_len rfl (da_cons (de_lc (own := [("pair", 2)]) rfl sc__law_count.nd (by exact blkOk_by (N := ["row", "person", "pair"]) (sc := defScope (top 45)) (own := [("pair", 2)]) (by decide +kernel)) (di_seq (de_var 0)) (fun _ _ _ _ _ => (dg_name 2 sc__law_count.nd rfl (Or.inl rfl))) (fun _ _ _ _ _ => (dts_one (dt_in A.room (de_var 1) (de_var 2)))) (fun _ _ _ _ _ => (de_var 2))) da_nil))))
theorem d__law_pieces (T : Txt K mg) (sy : SysIn base) : Den P w K mg base 1 "_law_pieces" 2 g__law_pieces :=
  has_den (N := ["crowd", "pairs", "found", "person", "near", "joined", "piece", "one"]) (ps := ["crowd", "pairs"]) sy T.f__law_pieces sc__law_pieces fun f cd A0 ou s H E c A =>
    (dss_cons (ds_asg [] 2 sc__law_pieces.nd rfl (Or.inl rfl) (de_ls da_nil))
    (dss_cons (ds_for [0] A.own rfl (di_seq (de_var 0)) (dg_name 3 sc__law_pieces.nd rfl (Or.inr rfl)) (dss_cons (ds_asg [1, 2, 3, 6, 7] 4 sc__law_pieces.nd rfl (Or.inr rfl) (de_lc (own := [("piece", 6)]) rfl sc__law_pieces.nd (by exact blkOk_by (N := ["crowd", "pairs", "found", "person", "near", "joined", "piece", "one"]) (sc := defScope (top 49)) (own := [("piece", 6)]) (by decide +kernel)) (di_seq (de_var 2)) (fun _ _ _ _ _ => (dg_name 6 sc__law_pieces.nd rfl (Or.inl rfl))) (fun _ _ _ _ _ => (dts_one (dt_ne A.room (de_lc (own := [("one", 7)]) rfl sc__law_pieces.nd (by exact blkOk_by (N := ["crowd", "pairs", "found", "person", "near", "joined", "piece", "one"]) (own := [("one", 7)]) (by rfl)) (di_seq (de_var 6)) (fun _ _ _ _ _ => (dg_name 7 sc__law_pieces.nd rfl (Or.inl rfl))) (fun _ _ _ _ _ => (dts_one (dt_in A.room (de_tp (da_cons (de_var 7) (da_cons (de_var 3) da_nil))) (de_var 1)))) (fun _ _ _ _ _ => (de_var 7))) (de_ls da_nil)))) (fun _ _ _ _ _ => (de_var 6))))
    (dss_cons (ds_asg [3] 5 sc__law_pieces.nd rfl (Or.inl rfl) (de_ls (da_cons (de_var 3) da_nil)))
    (dss_cons (ds_for [4] A.own rfl (di_seq (de_var 4)) (dg_name 6 sc__law_pieces.nd rfl (Or.inl rfl)) (dss_one (ds_ext [6] 5 (dc_list T.n_list rfl (da_cons (de_var 6) da_nil)))))
    (dss_one (ds_asg [2, 4, 5, 6] 2 sc__law_pieces.nd rfl (Or.inl rfl) (de_add (de_lc (own := [("piece", 6)]) rfl sc__law_pieces.nd (by exact blkOk_by (N := ["crowd", "pairs", "found", "person", "near", "joined", "piece", "one"]) (sc := defScope (top 49)) (own := [("piece", 6)]) (by decide +kernel)) (di_seq (de_var 2)) (fun _ _ _ _ _ => (dg_name 6 sc__law_pieces.nd rfl (Or.inl rfl))) (fun _ _ _ _ _ => (dts_one (dt_notin A.room (de_var 6) (de_var 4)))) (fun _ _ _ _ _ => (de_var 6))) (de_ls (da_cons (dc_tuple T.n_tuple rfl (da_cons (dc_sorted A.room T.n_sorted rfl (da_cons (de_var 5) da_nil)) da_nil)) da_nil)))))))))
    (dss_one (ds_ret [2] (dc_sorted A.room T.n_sorted rfl (da_cons (de_var 2) da_nil))))))
theorem d__law_is_side (T : Txt K mg) (sy : SysIn base) : Den P w K mg base 1 "_law_is_side" 2 g__law_is_side :=
  has_den (N := ["thing", "many", "person", "one", "other"]) (ps := ["thing", "many"]) sy T.f__law_is_side sc__law_is_side fun f cd A0 ou s H E c A =>
    (dss_cons (ds_if [0] (dt_not (dt_val (dc_isi "tuple" T.n_isinstance rfl (da_cons (de_var 0) (da_cons (dk_T rfl T.n_tuple boot_tuple) da_nil))))) (dss_one (ds_ret [] dk_B)) dss_nil)
    (dss_cons (ds_for [0] A.own rfl (di_seq (de_var 0)) (dg_name 2 sc__law_is_side.nd rfl (Or.inl rfl)) (dss_one (ds_if [1, 2] (dt_w (dw_or (dt_not (dt_val (dc_isi "int" T.n_isinstance rfl (da_cons (de_var 2) (da_cons (dk_T rfl T.n_int boot_int) da_nil))))) (dw_or (dt_val (dc_isi "bool" T.n_isinstance rfl (da_cons (de_var 2) (da_cons (dk_T rfl T.n_bool boot_bool) da_nil)))) (dw_or1 (dt_not (dt_chain op_le op_lt dk_I (de_var 2) (de_var 1))))))) (dss_one (ds_ret [] dk_B)) dss_nil)))
    (dss_one (ds_ret [0, 3, 4] (de_eq A.room (de_lc (own := [("one", 3), ("other", 4)]) rfl sc__law_is_side.nd (by exact blkOk_by (N := ["thing", "many", "person", "one", "other"]) (sc := defScope (top 51)) (own := [("one", 3), ("other", 4)]) (by decide +kernel)) (di_zip rfl T.n_zip (de_var 0) (de_sl (de_var 0) (do_some dk_I) do_none)) (fun _ _ _ _ _ => (dg_tup rfl (.cons (pg_name (i := 3) sc__law_is_side.nd rfl (Or.inl rfl)) (.cons (pg_name (i := 4) sc__law_is_side.nd rfl (Or.inl rfl)) DGN.nil)) (pgs_cons (pg_name (i := 3) sc__law_is_side.nd rfl (Or.inl rfl)) (pgs_cons (pg_name (i := 4) sc__law_is_side.nd rfl (Or.inl rfl)) pgs_nil)))) (fun _ _ _ _ _ => (dts_one (dt_ge (de_var 3) (de_var 4)))) (fun _ _ _ _ _ => dk_I)) (de_ls da_nil))))))
theorem d__law_told (T : Txt K mg) (sy : SysIn base) : Den P w K mg base 1 "_law_told" 3 g__law_told :=
  has_den (N := ["party", "met", "apart"]) (ps := ["party", "met", "apart"]) sy T.f__law_told sc__law_told fun f cd A0 ou s H E c A =>
    (dss_one (ds_ret [0, 1, 2] (de_tp (da_cons (de_ix (de_var 0) dk_I) (da_cons (dc_tuple T.n_tuple rfl (da_cons (dc_sorted A.room T.n_sorted rfl (da_cons (de_add (dc_list T.n_list rfl (da_cons (de_ix (de_var 0) dk_I) da_nil)) (de_var 1)) da_nil)) da_nil)) (da_cons (dc_tuple T.n_tuple rfl (da_cons (dc_sorted A.room T.n_sorted rfl (da_cons (de_add (dc_list T.n_list rfl (da_cons (de_ix (de_var 0) dk_I) da_nil)) (de_var 2)) da_nil)) da_nil)) da_nil))))))
theorem d__law_partings (T : Txt K mg) (sy : SysIn base) : Den P w K mg base 1 "_law_partings" 1 g__law_partings :=
  has_den (N := ["many", "grid", "person", "row"]) (ps := ["many"]) sy T.f__law_partings sc__law_partings fun f cd A0 ou s H E c A =>
    (dss_cons (ds_asg [] 1 sc__law_partings.nd rfl (Or.inl rfl) (de_ls (da_cons (de_tp (da_cons dk_I da_nil)) da_nil)))
    (dss_cons (ds_for [0] A.own rfl (di_rng2 rfl T.n_range dk_I (de_var 0)) (dg_name 2 sc__law_partings.nd rfl (Or.inr rfl)) (dss_one (ds_asg [1, 2, 3] 1 sc__law_partings.nd rfl (Or.inl rfl) (de_add (de_var 1) (de_lc (own := [("row", 3)]) rfl sc__law_partings.nd (by exact blkOk_by (N := ["many", "grid", "person", "row"]) (sc := defScope (top 55)) (own := [("row", 3)]) (by decide +kernel)) (di_seq (de_var 1)) (fun _ _ _ _ _ => (dg_name 3 sc__law_partings.nd rfl (Or.inl rfl))) (fun _ _ _ _ _ => dts_nil) (fun _ _ _ _ _ => (de_add (de_var 3) (de_tp (da_cons (de_var 2) da_nil)))))))))
    (dss_one (ds_ret [0, 1, 3] (dc_sorted A.room T.n_sorted rfl (da_cons (de_lc (own := [("row", 3)]) rfl sc__law_partings.nd (by exact blkOk_by (N := ["many", "grid", "person", "row"]) (sc := defScope (top 55)) (own := [("row", 3)]) (by decide +kernel)) (di_seq (de_var 1)) (fun _ _ _ _ _ => (dg_name 3 sc__law_partings.nd rfl (Or.inl rfl))) (fun _ _ _ _ _ => (dts_one (dt_lt A.room (dc_len T.n_len rfl (da_cons (de_var 3) da_nil)) (de_var 0)))) (fun _ _ _ _ _ => (de_var 3))) da_nil))))))
theorem d__law_crosses (T : Txt K mg) (sy : SysIn base) : Den P w K mg base 1 "_law_crosses" 2 g__law_crosses :=
  has_den (N := ["pair", "parting"]) (ps := ["pair", "parting"]) sy T.f__law_crosses sc__law_crosses fun f cd A0 ou s H E c A =>
    (dss_one (ds_ret [0, 1] (de_ne A.room (de_in A.room (de_ix (de_var 0) dk_I) (de_var 1)) (de_in A.room (de_ix (de_var 0) dk_I) (de_var 1)))))
theorem d__law_all_bars (T : Txt K mg) (sy : SysIn base) : Den P w K mg base 1 "_law_all_bars" 1 g__law_all_bars :=
  has_den (N := ["many", "grid", "person", "longer", "some", "rest"]) (ps := ["many"]) sy T.f__law_all_bars sc__law_all_bars fun f cd A0 ou s H E c A =>
    (dss_cons (ds_asg [] 1 sc__law_all_bars.nd rfl (Or.inl rfl) (de_ls (da_cons (de_tp (da_cons (de_tp da_nil) (da_cons (de_tp da_nil) da_nil))) da_nil)))
    (dss_cons (ds_for [0] A.own rfl (di_rng1 rfl T.n_range (de_var 0)) (dg_name 2 sc__law_all_bars.nd rfl (Or.inr rfl)) (dss_cons (ds_asgLc (own := [("some", 4), ("rest", 5)]) [1, 2, 4, 5] 3 rfl sc__law_all_bars.nd rfl rfl (sw_true rfl rfl rfl (by decide +kernel)) (by exact blkOk_by (N := ["many", "grid", "person", "longer", "some", "rest"]) (sc := defScope (top 59)) (own := [("some", 4), ("rest", 5)]) (by decide +kernel)) (di_seq (de_var 1)) (fun _ _ _ _ _ => (dg_tup rfl (.cons (pg_name (i := 4) sc__law_all_bars.nd rfl (Or.inl rfl)) (.cons (pg_name (i := 5) sc__law_all_bars.nd rfl (Or.inl rfl)) DGN.nil)) (pgs_cons (pg_name (i := 4) sc__law_all_bars.nd rfl (Or.inl rfl)) (pgs_cons (pg_name (i := 5) sc__law_all_bars.nd rfl (Or.inl rfl)) pgs_nil)))) (fun _ _ _ _ _ => dts_nil) (fun _ _ _ _ _ => (de_tp (da_cons (de_add (de_var 4) (de_tp (da_cons (de_var 2) da_nil))) (da_cons (de_var 5) da_nil)))))
    (dss_one (ds_asg [1, 2, 3, 4, 5] 1 sc__law_all_bars.nd rfl (Or.inl rfl) (de_add (de_add (de_var 1) (de_var 3)) (de_lc (own := [("some", 4), ("rest", 5)]) rfl sc__law_all_bars.nd (by exact blkOk_by (N := ["many", "grid", "person", "longer", "some", "rest"]) (sc := defScope (top 59)) (own := [("some", 4), ("rest", 5)]) (by decide +kernel)) (di_seq (de_var 1)) (fun _ _ _ _ _ => (dg_tup rfl (.cons (pg_name (i := 4) sc__law_all_bars.nd rfl (Or.inl rfl)) (.cons (pg_name (i := 5) sc__law_all_bars.nd rfl (Or.inl rfl)) DGN.nil)) (pgs_cons (pg_name (i := 4) sc__law_all_bars.nd rfl (Or.inl rfl)) (pgs_cons (pg_name (i := 5) sc__law_all_bars.nd rfl (Or.inl rfl)) pgs_nil)))) (fun _ _ _ _ _ => dts_nil) (fun _ _ _ _ _ => (de_tp (da_cons (de_var 4) (da_cons (de_add (de_var 5) (de_tp (da_cons (de_var 2) da_nil))) da_nil))))))))))
    (dss_one (ds_retV 1))))
theorem d__law_meets (T : Txt K mg) (sy : SysIn base) : Den P w K mg base 1 "_law_meets" 2 g__law_meets :=
  has_den (N := ["pair", "some"]) (ps := ["pair", "some"]) sy T.f__law_meets sc__law_meets fun f cd A0 ou s H E c A =>
    (dss_one (ds_ret [0, 1] (de_or (de_in A.room (de_ix (de_var 0) dk_I) (de_var 1)) (de_or1 (de_in A.room (de_ix (de_var 0) dk_I) (de_var 1))))))
theorem d__law_below (T : Txt K mg) (sy : SysIn base) : Den P w K mg base 2 "_law_below" 2 g__law_below := by
  obtain ⟨f, fd, hm, Fx, hb⟩ := T.f__law_below
  obtain ⟨fk, fdk, psk, hmk, hkk, hbk, hlk, Fk⟩ := (d__law_mixed (P := P) (w := w) T sy).ex
  refine ⟨f, fd, _, hm, Fx.kp, hb, rfl, fnG_of (N := ["deck", "bound", "amount", "cells", "place", "found"]) Fx sc__law_below (fun vs H Q E z => z.1) fun cd A0 out s H vs Q E room guard z => ?_⟩
  exact ⟨_, pss_cons (ps_if (pt_cmpR op_lt (pe_ix ix_seq (pe_var (i := 0) rfl (Or.inl rfl)) pe_int (fun _ _ => rfl)) (pe_var (i := 1) rfl (Or.inl rfl)) (nomark _))
     (pss_cons (ps_par rfl sc__law_below.nd (i := 3) (j := 4) rfl rfl (by decide) rfl rfl (pa_cons (pe_ix ix_seq (pe_var (i := 0) rfl (Or.inl rfl)) pe_int (fun _ _ => rfl)) (pa_cons (pe_ix ix_seq (pe_var (i := 0) rfl (Or.inl rfl)) pe_int (fun _ _ => rfl)) pa_nil)) (by rfl))
     (pss_cons (ps_set (i := 2) sc__law_below.nd rfl (Or.inl rfl) (pe_ifExp (pt_cmpR (op_neF room.units) (pe_var (i := 3) rfl (Or.inl rfl)) (pe_lst pa_nil) (nomark _)) (pe_ix ix_seq (pe_var (i := 3) rfl (Or.inl rfl)) (pe_op op_mod (pe_callTy call_int1 rfl T.n_int boot_int (pa_cons (pe_var (i := 4) rfl (Or.inl rfl)) pa_nil)) (pe_callB call_len rfl T.n_len boot_len (pa_cons (pe_var (i := 3) rfl (Or.inl rfl)) pa_nil))) (fun _ _ => rfl)) pe_int))
     (pss_cons (ps_if (PW.pt (pw_or (pt_cmpR op_ge (pe_var (i := 4) rfl (Or.inl rfl)) (pe_callB call_len rfl T.n_len boot_len (pa_cons (pe_var (i := 3) rfl (Or.inl rfl)) pa_nil)) (nomark _)) (pw_or1 (pt_cmpR op_lt (pe_var (i := 2) rfl (Or.inl rfl)) (pe_op op_pow pe_int pe_int) (nomark _)))))
        (pss_cons (ps_set (i := 2) sc__law_below.nd rfl (Or.inl rfl) (pe_callG Fk (room.mono (by decide)) guard rfl hmk hkk hbk (Wx := fun cls d _ H => E cls d H) (takes_of rfl rfl rfl rfl) (pa_cons (pe_op op_mod (pe_callTy call_int1 rfl T.n_int boot_int (pa_cons (pe_var (i := 2) rfl (Or.inl rfl)) pa_nil)) pe_int) (pa_cons (pe_var (i := 4) rfl (Or.inl rfl)) pa_nil)))) pss_nil) pss_nil)
     (pss_cons (ps_asg (pe_op op_add (pe_var (i := 4) rfl (Or.inl rfl)) pe_int) (pg_sub (pe_var (i := 0) rfl (Or.inl rfl)) pe_int set_list))
     (pss_cons (ps_asg (pe_var (i := 2) rfl (Or.inl rfl)) (pg_sub (pe_var (i := 0) rfl (Or.inl rfl)) pe_int set_list))
     (pss_cons (ps_asg (pe_var (i := 2) rfl (Or.inl rfl)) (pg_sub (pe_var (i := 0) rfl (Or.inl rfl)) pe_int set_list))
     pss_nil)))))) pss_nil)
   (pss_cons (ps_set (i := 5) sc__law_below.nd rfl (Or.inl rfl) (pe_op op_mod (pe_callTy call_int1 rfl T.n_int boot_int (pa_cons (pe_ix ix_seq (pe_var (i := 0) rfl (Or.inl rfl)) pe_int (fun _ _ => rfl)) pa_nil)) (pe_var (i := 1) rfl (Or.inl rfl))))
   (pss_cons (ps_asg (pe_op op_fdivW (pe_ix ix_seq (pe_var (i := 0) rfl (Or.inl rfl)) pe_int (fun _ _ => rfl)) (pe_var (i := 1) rfl (Or.inl rfl))) (pg_sub (pe_var (i := 0) rfl (Or.inl rfl)) pe_int set_list))
   (pss_cons (ps_asg (pe_op op_fdivW (pe_ix ix_seq (pe_var (i := 0) rfl (Or.inl rfl)) pe_int (fun _ _ => rfl)) (pe_var (i := 1) rfl (Or.inl rfl))) (pg_sub (pe_var (i := 0) rfl (Or.inl rfl)) pe_int set_list))
   (pss_cons (ps_ret (pe_var (i := 5) rfl (Or.inl rfl))) pss_nil)))), draw_den (tp := iPlace) (by decide) (kneads_of kn_ok) (fun σ H Q i h q => ⟨_, h, .inl ⟨_, rfl, q⟩⟩) z⟩
theorem d_is_count (T : Txt K mg) (sy : SysIn base) : Den P w K mg base 2 "is_count" 1 g_is_count :=
  has_den (N := ["thing"]) (ps := ["thing"]) sy T.f_is_count sc_is_count fun f cd A0 ou s H E c A =>
    (dss_one (ds_ret [0] (de_and (dc_own (d_is_integer T sy) (A.room.mono (by decide)) A.guard A.tk rfl (da_cons (de_var 0) da_nil)) (de_and1 (de_ge (de_var 0) dk_I)))))
theorem d_free_of (T : Txt K mg) (sy : SysIn base) : Den P w K mg base 2 "free_of" 1 g_free_of :=
  has_den (N := ["party", "pair"]) (ps := ["party"]) sy T.f_free_of sc_free_of fun f cd A0 ou s H E c A =>
    (dss_one (ds_ret [0, 1] (de_lc (own := [("pair", 1)]) rfl sc_free_of.nd (by exact blkOk_by (N := ["party", "pair"]) (sc := defScope (top 16)) (own := [("pair", 1)]) (by decide +kernel)) (di_seq (dc_own (d_all_pairs T sy) (A.room.mono (by decide)) A.guard A.tk rfl (da_cons (dc_len T.n_len rfl (da_cons (de_ix (de_var 0) dk_I) da_nil)) da_nil))) (fun _ _ _ _ _ => (dg_name 1 sc_free_of.nd rfl (Or.inl rfl))) (fun _ _ _ _ _ => (dts_one (dt_w (dw_and (dt_notin A.room (de_var 1) (de_ix (de_var 0) dk_I)) (dw_and1 (dt_notin A.room (de_var 1) (de_ix (de_var 0) dk_I))))))) (fun _ _ _ _ _ => (de_var 1)))))
theorem d_needs_of (T : Txt K mg) (sy : SysIn base) : Den P w K mg base 2 "needs_of" 1 g_needs_of :=
  has_den (N := ["party", "person", "number"]) (ps := ["party"]) sy T.f_needs_of sc_needs_of fun f cd A0 ou s H E c A =>
    (dss_one (ds_ret [0, 1, 2] (de_lc (own := [("person", 1), ("number", 2)]) rfl sc_needs_of.nd (by exact blkOk_by (N := ["party", "person", "number"]) (sc := defScope (top 18)) (own := [("person", 1), ("number", 2)]) (by decide +kernel)) (di_enumT rfl T.n_enumerate (de_ix (de_var 0) dk_I)) (fun _ _ _ _ _ => (dg_tup rfl (.cons (pg_name (i := 1) sc_needs_of.nd rfl (Or.inl rfl)) (.cons (pg_name (i := 2) sc_needs_of.nd rfl (Or.inl rfl)) DGN.nil)) (pgs_cons (pg_name (i := 1) sc_needs_of.nd rfl (Or.inl rfl)) (pgs_cons (pg_name (i := 2) sc_needs_of.nd rfl (Or.inl rfl)) pgs_nil)))) (fun _ _ _ _ _ => dts_nil) (fun _ _ _ _ _ => (de_if (dt_is (de_var 2) dk_N) dk_N (de_sub (de_var 2) (dc_own (d_known_met T sy) (A.room.mono (by decide)) A.guard takes0 rfl (da_cons (de_var 0) (da_cons (de_var 1) da_nil)))))))))
theorem d_with_facts (T : Txt K mg) (sy : SysIn base) : Den P w K mg base 2 "with_facts" 3 g_with_facts :=
  has_den (N := ["party", "met", "apart"]) (ps := ["party", "met", "apart"]) sy T.f_with_facts sc_with_facts fun f cd A0 ou s H E c A =>
    (dss_one (ds_ret [0, 1, 2] (de_tp (da_cons (de_ix (de_var 0) dk_I) (da_cons (dc_own (d_put_in T sy) (A.room.mono (by decide)) A.guard A.tk rfl (da_cons (de_ix (de_var 0) dk_I) (da_cons (de_var 1) da_nil))) (da_cons (dc_own (d_put_in T sy) (A.room.mono (by decide)) A.guard A.tk rfl (da_cons (de_ix (de_var 0) dk_I) (da_cons (de_var 2) da_nil))) da_nil))))))
theorem d_odd_by (T : Txt K mg) (sy : SysIn base) : Den P w K mg base 2 "odd_by" 3 g_odd_by :=
  has_den (N := ["needs", "free", "bar", "found", "lot", "row", "person", "pair"]) (ps := ["needs", "free", "bar"]) sy T.f_odd_by sc_odd_by fun f cd A0 ou s H E c A =>
    (dss_cons (ds_asg [] 3 sc_odd_by.nd rfl (Or.inl rfl) (de_ls da_nil))
    (dss_cons (ds_for [0, 1, 2] A.own rfl (di_seq (dc_own (d_lots T sy) (A.room.mono (by decide)) A.guard A.tk rfl (da_cons (de_var 0) (da_cons (dc_own (d_inner_pairs T sy) (A.room.mono (by decide)) A.guard A.tk rfl (da_cons (de_var 1) (da_cons (de_var 2) da_nil))) (da_cons (de_var 2) da_nil))))) (dg_name 4 sc_odd_by.nd rfl (Or.inr rfl)) (dss_cons (ds_asgLc (own := [("person", 6)]) [0, 4, 6] 5 rfl sc_odd_by.nd rfl rfl (sw_true rfl rfl rfl (by decide +kernel)) (by exact blkOk_by (N := ["needs", "free", "bar", "found", "lot", "row", "person", "pair"]) (sc := defScope (top 28)) (own := [("person", 6)]) (by decide +kernel)) (di_seq (de_var 4)) (fun _ _ _ _ _ => (dg_name 6 sc_odd_by.nd rfl (Or.inl rfl))) (fun _ _ _ _ _ => dts_nil) (fun _ _ _ _ _ => (de_ix (de_var 0) (de_var 6))))
    (dss_one (ds_if [1, 2, 4, 5, 7] (dt_w (dw_and (dt_notin A.room dk_N (de_var 5)) (dw_and1 (dt_eq A.room (de_mod (de_add (dc_sum rfl T.n_sum rfl (da_cons (de_var 5) da_nil)) (dc_len T.n_len rfl (da_cons (de_lc (own := [("pair", 7)]) rfl sc_odd_by.nd (by exact blkOk_by (N := ["needs", "free", "bar", "found", "lot", "row", "person", "pair"]) (sc := defScope (top 28)) (own := [("pair", 7)]) (by decide +kernel)) (di_seq (de_var 1)) (fun _ _ _ _ _ => (dg_name 7 sc_odd_by.nd rfl (Or.inl rfl))) (fun _ _ _ _ _ => (dts_one (dt_val (dc_own (d_is_between T sy) (A.room.mono (by decide)) A.guard takes0 rfl (da_cons (de_var 7) (da_cons (de_var 4) (da_cons (de_ix (de_var 2) dk_I) da_nil))))))) (fun _ _ _ _ _ => (de_var 7))) da_nil))) dk_I) dk_I)))) (dss_one (ds_app [4] 3 (de_var 4))) dss_nil))))
    (dss_one (ds_ret [3] (dc_sorted A.room T.n_sorted rfl (da_cons (de_var 3) da_nil))))))
theorem d__law_free (T : Txt K mg) (sy : SysIn base) : Den P w K mg base 2 "_law_free" 1 g__law_free :=
  has_den (N := ["party", "pair"]) (ps := ["party"]) sy T.f__law_free sc__law_free fun f cd A0 ou s H E c A =>
    (dss_one (ds_ret [0, 1] (de_lc (own := [("pair", 1)]) rfl sc__law_free.nd (by exact blkOk_by (N := ["party", "pair"]) (sc := defScope (top 48)) (own := [("pair", 1)]) (by decide +kernel)) (di_seq (dc_own (d__law_all_pairs T sy) (A.room.mono (by decide)) A.guard A.tk rfl (da_cons (dc_len T.n_len rfl (da_cons (de_ix (de_var 0) dk_I) da_nil)) da_nil))) (fun _ _ _ _ _ => (dg_name 1 sc__law_free.nd rfl (Or.inl rfl))) (fun _ _ _ _ _ => (dts_one (dt_w (dw_and (dt_notin A.room (de_var 1) (de_ix (de_var 0) dk_I)) (dw_and1 (dt_notin A.room (de_var 1) (de_ix (de_var 0) dk_I))))))) (fun _ _ _ _ _ => (de_var 1)))))
theorem d__law_is_pair (T : Txt K mg) (sy : SysIn base) : Den P w K mg base 2 "_law_is_pair" 2 g__law_is_pair :=
  has_den (N := ["thing", "many"]) (ps := ["thing", "many"]) sy T.f__law_is_pair sc__law_is_pair fun f cd A0 ou s H E c A =>
    (dss_one (ds_ret [0, 1] (de_and (dc_own (d__law_is_side T sy) (A.room.mono (by decide)) A.guard A.tk rfl (da_cons (de_var 0) (da_cons (de_var 1) da_nil))) (de_and1 (de_eq A.room (dc_len T.n_len rfl (da_cons (de_var 0) da_nil)) dk_I)))))
theorem d_is_rising (T : Txt K mg) (sy : SysIn base) : Den P w K mg base 3 "is_rising" 1 g_is_rising :=
  has_den (N := ["thing", "one", "other"]) (ps := ["thing"]) sy T.f_is_rising sc_is_rising fun f cd A0 ou s H E c A =>
    (dss_cons (ds_if [0, 1] (dt_w (dw_or (dt_not (dt_val (dc_isi "tuple" T.n_isinstance rfl (da_cons (de_var 0) (da_cons (dk_T rfl T.n_tuple boot_tuple) da_nil))))) (dw_or1 (dt_not (dt_val (dc_all rfl T.n_all rfl (da_cons (de_lc (own := [("one", 1)]) rfl sc_is_rising.nd (by exact blkOk_by (N := ["thing", "one", "other"]) (sc := defScope (top 6)) (own := [("one", 1)]) (by decide +kernel)) (di_seq (de_var 0)) (fun _ _ _ _ _ => (dg_name 1 sc_is_rising.nd rfl (Or.inl rfl))) (fun _ _ _ _ _ => dts_nil) (fun _ _ _ _ _ => (dc_own (d_is_count T sy) (A.room.mono (by decide)) A.guard takes0 rfl (da_cons (de_var 1) da_nil)))) da_nil))))))) (dss_one (ds_ret [] dk_B)) dss_nil)
    (dss_one (ds_ret [0, 1, 2] (dc_all rfl T.n_all rfl (da_cons (de_lc (own := [("one", 1), ("other", 2)]) rfl sc_is_rising.nd (by exact blkOk_by (N := ["thing", "one", "other"]) (sc := defScope (top 6)) (own := [("one", 1), ("other", 2)]) (by decide +kernel)) (di_zip rfl T.n_zip (de_sl (de_var 0) do_none (do_some (de_neg dk_I))) (de_sl (de_var 0) (do_some dk_I) do_none)) (fun _ _ _ _ _ => (dg_tup rfl (.cons (pg_name (i := 1) sc_is_rising.nd rfl (Or.inl rfl)) (.cons (pg_name (i := 2) sc_is_rising.nd rfl (Or.inl rfl)) DGN.nil)) (pgs_cons (pg_name (i := 1) sc_is_rising.nd rfl (Or.inl rfl)) (pgs_cons (pg_name (i := 2) sc_is_rising.nd rfl (Or.inl rfl)) pgs_nil)))) (fun _ _ _ _ _ => dts_nil) (fun _ _ _ _ _ => (de_lt A.room (de_var 1) (de_var 2)))) da_nil)))))
theorem d_is_number (T : Txt K mg) (sy : SysIn base) : Den P w K mg base 3 "is_number" 1 g_is_number :=
  has_den (N := ["thing"]) (ps := ["thing"]) sy T.f_is_number sc_is_number fun f cd A0 ou s H E c A =>
    (dss_one (ds_ret [0] (de_or (de_is (de_var 0) dk_N) (de_or1 (de_and (dc_own (d_is_count T sy) (A.room.mono (by decide)) A.guard A.tk rfl (da_cons (de_var 0) da_nil)) (de_and1 (de_le (de_var 0) (dk_gI rfl T.v_MAX_NUMBER))))))))
theorem d_slack_by (T : Txt K mg) (sy : SysIn base) : Den P w K mg base 3 "slack_by" 3 g_slack_by :=
  has_den (N := ["needs", "free", "bar", "found", "person", "pair", "outer"]) (ps := ["needs", "free", "bar"]) sy T.f_slack_by sc_slack_by fun f cd A0 ou s H E c A =>
    (dss_cons (ds_asg [] 3 sc_slack_by.nd rfl (Or.inl rfl) dk_I)
    (dss_cons (ds_for [2] A.own rfl (di_seq (de_ix (de_var 2) dk_I)) (dg_name 4 sc_slack_by.nd rfl (Or.inr rfl)) (dss_one (ds_augI [0, 1, 4, 5] 3 (fun i j => i + j) sc_slack_by.nd rfl (Or.inl rfl) (de_if (dt_is (de_ix (de_var 0) (de_var 4)) dk_N) (dc_len T.n_len rfl (da_cons (de_lc (own := [("pair", 5)]) rfl sc_slack_by.nd (by exact blkOk_by (N := ["needs", "free", "bar", "found", "person", "pair", "outer"]) (sc := defScope (top 29)) (own := [("pair", 5)]) (by decide +kernel)) (di_seq (de_var 1)) (fun _ _ _ _ _ => (dg_name 5 sc_slack_by.nd rfl (Or.inl rfl))) (fun _ _ _ _ _ => (dts_one (dt_in A.room (de_var 4) (de_var 5)))) (fun _ _ _ _ _ => (de_var 5))) da_nil)) (de_ix (de_var 0) (de_var 4))) ip_add)))
    (dss_cons (ds_asgLc (own := [("pair", 5)]) [1, 2, 5] 6 rfl sc_slack_by.nd rfl rfl (sw_true rfl rfl rfl (by decide +kernel)) (by exact blkOk_by (N := ["needs", "free", "bar", "found", "person", "pair", "outer"]) (sc := defScope (top 29)) (own := [("pair", 5)]) (by decide +kernel)) (di_seq (de_var 1)) (fun _ _ _ _ _ => (dg_name 5 sc_slack_by.nd rfl (Or.inl rfl))) (fun _ _ _ _ _ => (dts_one (dt_w (dw_and (dt_notin A.room (de_ix (de_var 5) dk_I) (de_ix (de_var 2) dk_I)) (dw_and1 (dt_notin A.room (de_ix (de_var 5) dk_I) (de_ix (de_var 2) dk_I))))))) (fun _ _ _ _ _ => (de_var 5)))
    (dss_cons (ds_for [2] A.own rfl (di_seq (de_ix (de_var 2) dk_I)) (dg_name 4 sc_slack_by.nd rfl (Or.inr rfl)) (dss_cons (ds_augI [4, 5, 6] 3 (fun i j => i + j) sc_slack_by.nd rfl (Or.inl rfl) (dc_len T.n_len rfl (da_cons (de_lc (own := [("pair", 5)]) rfl sc_slack_by.nd (by exact blkOk_by (N := ["needs", "free", "bar", "found", "person", "pair", "outer"]) (sc := defScope (top 29)) (own := [("pair", 5)]) (by decide +kernel)) (di_seq (de_var 6)) (fun _ _ _ _ _ => (dg_name 5 sc_slack_by.nd rfl (Or.inl rfl))) (fun _ _ _ _ _ => (dts_one (dt_in A.room (de_var 4) (de_var 5)))) (fun _ _ _ _ _ => (de_var 5))) da_nil)) ip_add)
    (dss_one (ds_augI [0, 4] 3 (fun i j => i - j) sc_slack_by.nd rfl (Or.inl rfl) (de_if (dt_is (de_ix (de_var 0) (de_var 4)) dk_N) dk_I (de_ix (de_var 0) (de_var 4))) ip_sub))))
    (dss_one (ds_ret [0, 1, 2, 3] (de_sub (de_var 3) (dc_len T.n_len rfl (da_cons (dc_own (d_odd_by T sy) (A.room.mono (by decide)) A.guard A.tk rfl (da_cons (de_var 0) (da_cons (de_var 1) (da_cons (de_var 2) da_nil)))) da_nil)))))))))
theorem d_cut_by (T : Txt K mg) (sy : SysIn base) : Den P w K mg base 3 "cut_by" 2 g_cut_by :=
  has_den (N := ["party", "parting", "pair"]) (ps := ["party", "parting"]) sy T.f_cut_by sc_cut_by fun f cd A0 ou s H E c A =>
    (dss_one (ds_ret [0, 1, 2] (dc_own (d_with_facts T sy) (A.room.mono (by decide)) A.guard A.tk rfl (da_cons (de_var 0) (da_cons (de_ls da_nil) (da_cons (de_lc (own := [("pair", 2)]) rfl sc_cut_by.nd (by exact blkOk_by (N := ["party", "parting", "pair"]) (sc := defScope (top 36)) (own := [("pair", 2)]) (by decide +kernel)) (di_seq (dc_own (d_free_of T sy) (A.room.mono (by decide)) A.guard A.tk rfl (da_cons (de_var 0) da_nil))) (fun _ _ _ _ _ => (dg_name 2 sc_cut_by.nd rfl (Or.inl rfl))) (fun _ _ _ _ _ => (dts_one (dt_val (dc_own (d_crosses T sy) (A.room.mono (by decide)) A.guard takes0 rfl (da_cons (de_var 2) (da_cons (de_var 1) da_nil)))))) (fun _ _ _ _ _ => (de_var 2))) da_nil))))))
theorem d__law_pick (T : Txt K mg) (sy : SysIn base) : Den P w K mg base 3 "_law_pick" 2 g__law_pick :=
  has_den (N := ["deck", "some"]) (ps := ["deck", "some"]) sy T.f__law_pick sc__law_pick fun f cd A0 ou s H E c A =>
    (dss_one (ds_ret [0, 1] (de_ix (de_var 1) (dc_own (d__law_below T sy) (A.room.mono (by decide)) A.guard A.tk rfl (da_cons (de_var 0) (da_cons (dc_len T.n_len rfl (da_cons (de_var 1) da_nil)) da_nil))))))
theorem d__law_slack (T : Txt K mg) (sy : SysIn base) : Den P w K mg base 3 "_law_slack" 2 g__law_slack :=
  has_den (N := ["party", "bar", "free", "found", "lacks", "at", "number", "person", "lack", "left", "pair", "inner", "lot", "some", "across"]) (ps := ["party", "bar"]) sy T.f__law_slack sc__law_slack fun f cd A0 ou s H E c A =>
    (dss_cons (ds_par [0] 2 3 rfl sc__law_slack.nd rfl rfl (by decide) rfl rfl (dc_own (d__law_free T sy) (A.room.mono (by decide)) A.guard A.tk rfl (da_cons (de_var 0) da_nil)) dk_I (by rfl))
    (dss_cons (ds_asg [] 4 sc__law_slack.nd rfl (Or.inr rfl) (de_ls da_nil))
    (dss_cons (ds_for [0] A.own rfl (di_enumT rfl T.n_enumerate (de_ix (de_var 0) dk_I)) (dg_tup rfl (.cons (pg_name (i := 5) sc__law_slack.nd rfl (Or.inl rfl)) (.cons (pg_name (i := 6) sc__law_slack.nd rfl (Or.inl rfl)) DGN.nil)) (pgs_cons (pg_name (i := 5) sc__law_slack.nd rfl (Or.inl rfl)) (pgs_cons (pg_name (i := 6) sc__law_slack.nd rfl (Or.inl rfl)) pgs_nil))) (dss_one (ds_app [0, 5, 6] 4 (de_if (dt_is (de_var 6) dk_N) dk_N (de_sub (de_var 6) (dc_own (d__law_count T sy) (A.room.mono (by decide)) A.guard A.tk rfl (da_cons (de_ix (de_var 0) dk_I) (da_cons (de_var 5) da_nil))))))))
    (dss_cons (ds_for [1] A.own rfl (di_seq (de_ix (de_var 1) dk_I)) (dg_name 7 sc__law_slack.nd rfl (Or.inl rfl)) (dss_cons (ds_asg [4, 7] 8 sc__law_slack.nd rfl (Or.inl rfl) (de_ix (de_var 4) (de_var 7)))
    (dss_one (ds_asg [2, 3, 7, 8] 3 sc__law_slack.nd rfl (Or.inl rfl) (de_add (de_var 3) (de_if (dt_is (de_var 8) dk_N) (dc_own (d__law_count T sy) (A.room.mono (by decide)) A.guard A.tk rfl (da_cons (de_var 2) (da_cons (de_var 7) da_nil))) (de_var 8)))))))
    (dss_cons (ds_asgLc (own := [("pair", 10)]) [1, 2, 10] 9 rfl sc__law_slack.nd rfl rfl (sw_true rfl rfl rfl (by decide +kernel)) (by exact blkOk_by (N := ["party", "bar", "free", "found", "lacks", "at", "number", "person", "lack", "left", "pair", "inner", "lot", "some", "across"]) (sc := defScope (top 50)) (own := [("pair", 10)]) (by decide +kernel)) (di_seq (de_var 2)) (fun _ _ _ _ _ => (dg_name 10 sc__law_slack.nd rfl (Or.inl rfl))) (fun _ _ _ _ _ => (dts_one (dt_not (dt_val (dc_own (d__law_meets T sy) (A.room.mono (by decide)) A.guard takes0 rfl (da_cons (de_var 10) (da_cons (de_ix (de_var 1) dk_I) da_nil))))))) (fun _ _ _ _ _ => (de_var 10)))
    (dss_cons (ds_for [1] A.own rfl (di_seq (de_ix (de_var 1) dk_I)) (dg_name 7 sc__law_slack.nd rfl (Or.inl rfl)) (dss_cons (ds_asg [4, 7] 8 sc__law_slack.nd rfl (Or.inl rfl) (de_ix (de_var 4) (de_var 7)))
    (dss_one (ds_asg [3, 7, 8, 9] 3 sc__law_slack.nd rfl (Or.inl rfl) (de_sub (de_add (de_var 3) (dc_own (d__law_count T sy) (A.room.mono (by decide)) A.guard A.tk rfl (da_cons (de_var 9) (da_cons (de_var 7) da_nil)))) (de_if (dt_is (de_var 8) dk_N) dk_I (de_var 8)))))))
    (dss_cons (ds_asgLc (own := [("person", 7)]) [1, 4, 7] 11 rfl sc__law_slack.nd rfl rfl (sw_true rfl rfl rfl (by decide +kernel)) (by exact blkOk_by (N := ["party", "bar", "free", "found", "lacks", "at", "number", "person", "lack", "left", "pair", "inner", "lot", "some", "across"]) (sc := defScope (top 50)) (own := [("person", 7)]) (by decide +kernel)) (di_rng1 rfl T.n_range (dc_len T.n_len rfl (da_cons (de_var 4) da_nil))) (fun _ _ _ _ _ => (dg_name 7 sc__law_slack.nd rfl (Or.inl rfl))) (fun _ _ _ _ _ => (dts_one (dt_notin A.room (de_var 7) (de_add (de_ix (de_var 1) dk_I) (de_ix (de_var 1) dk_I))))) (fun _ _ _ _ _ => (de_var 7)))
    (dss_cons (ds_for [2, 11] A.own rfl (di_seq (dc_own (d__law_pieces T sy) (A.room.mono (by decide)) A.guard A.tk rfl (da_cons (de_var 11) (da_cons (de_var 2) da_nil)))) (dg_name 12 sc__law_slack.nd rfl (Or.inr rfl)) (dss_cons (ds_asgLc (own := [("person", 7)]) [4, 7, 12] 13 rfl sc__law_slack.nd rfl rfl (sw_true rfl rfl rfl (by decide +kernel)) (by exact blkOk_by (N := ["party", "bar", "free", "found", "lacks", "at", "number", "person", "lack", "left", "pair", "inner", "lot", "some", "across"]) (sc := defScope (top 50)) (own := [("person", 7)]) (by decide +kernel)) (di_seq (de_var 12)) (fun _ _ _ _ _ => (dg_name 7 sc__law_slack.nd rfl (Or.inl rfl))) (fun _ _ _ _ _ => dts_nil) (fun _ _ _ _ _ => (de_ix (de_var 4) (de_var 7))))
    (dss_cons (ds_asgLc (own := [("pair", 10)]) [9, 10, 12] 14 rfl sc__law_slack.nd rfl rfl (sw_true rfl rfl rfl (by decide +kernel)) (by exact blkOk_by (N := ["party", "bar", "free", "found", "lacks", "at", "number", "person", "lack", "left", "pair", "inner", "lot", "some", "across"]) (sc := defScope (top 50)) (own := [("pair", 10)]) (by decide +kernel)) (di_seq (de_var 9)) (fun _ _ _ _ _ => (dg_name 10 sc__law_slack.nd rfl (Or.inl rfl))) (fun _ _ _ _ _ => (dts_one (dt_val (dc_own (d__law_crosses T sy) (A.room.mono (by decide)) A.guard takes0 rfl (da_cons (de_var 10) (da_cons (de_var 12) da_nil)))))) (fun _ _ _ _ _ => (de_var 10)))
    (dss_cons (ds_asgLc (own := [("pair", 10)]) [1, 10, 14] 14 rfl sc__law_slack.nd rfl rfl (sw_true rfl rfl rfl (by decide +kernel)) (by exact blkOk_by (N := ["party", "bar", "free", "found", "lacks", "at", "number", "person", "lack", "left", "pair", "inner", "lot", "some", "across"]) (sc := defScope (top 50)) (own := [("pair", 10)]) (by decide +kernel)) (di_seq (de_var 14)) (fun _ _ _ _ _ => (dg_name 10 sc__law_slack.nd rfl (Or.inl rfl))) (fun _ _ _ _ _ => (dts_one (dt_val (dc_own (d__law_meets T sy) (A.room.mono (by decide)) A.guard takes0 rfl (da_cons (de_var 10) (da_cons (de_ix (de_var 1) dk_I) da_nil)))))) (fun _ _ _ _ _ => (de_var 10)))
    (dss_one (ds_if [13] (dt_notin A.room dk_N (de_var 13)) (dss_one (ds_asg [3, 13, 14] 3 sc__law_slack.nd rfl (Or.inl rfl) (de_sub (de_var 3) (de_mod (dc_int T.n_int rfl (da_cons (de_add (dc_sum rfl T.n_sum rfl (da_cons (de_var 13) da_nil)) (dc_len T.n_len rfl (da_cons (de_var 14) da_nil))) da_nil)) dk_I)))) dss_nil))))))
    (dss_one (ds_retV 3))))))))))
theorem d__law_cut (T : Txt K mg) (sy : SysIn base) : Den P w K mg base 3 "_law_cut" 2 g__law_cut :=
  has_den (N := ["party", "parting", "pair"]) (ps := ["party", "parting"]) sy T.f__law_cut sc__law_cut fun f cd A0 ou s H E c A =>
    (dss_one (ds_ret [0, 1, 2] (dc_own (d__law_told T sy) (A.room.mono (by decide)) A.guard A.tk rfl (da_cons (de_var 0) (da_cons (de_ls da_nil) (da_cons (de_lc (own := [("pair", 2)]) rfl sc__law_cut.nd (by exact blkOk_by (N := ["party", "parting", "pair"]) (sc := defScope (top 57)) (own := [("pair", 2)]) (by decide +kernel)) (di_seq (dc_own (d__law_free T sy) (A.room.mono (by decide)) A.guard A.tk rfl (da_cons (de_var 0) da_nil))) (fun _ _ _ _ _ => (dg_name 2 sc__law_cut.nd rfl (Or.inl rfl))) (fun _ _ _ _ _ => (dts_one (dt_val (dc_own (d__law_crosses T sy) (A.room.mono (by decide)) A.guard takes0 rfl (da_cons (de_var 2) (da_cons (de_var 1) da_nil)))))) (fun _ _ _ _ _ => (de_var 2))) da_nil))))))
theorem d__law_some_bar (T : Txt K mg) (sy : SysIn base) : Den P w K mg base 3 "_law_some_bar" 2 g__law_some_bar :=
  has_den (N := ["deck", "many", "sides", "person", "first"]) (ps := ["deck", "many"]) sy T.f__law_some_bar sc__law_some_bar fun f cd A0 ou s H E c A =>
    (dss_cons (ds_asg [0, 1, 3] 2 sc__law_some_bar.nd rfl (Or.inr rfl) (de_lc (own := [("person", 3)]) rfl sc__law_some_bar.nd (by exact blkOk_by (N := ["deck", "many", "sides", "person", "first"]) (sc := defScope (top 61)) (own := [("person", 3)]) (by decide +kernel)) (di_rng1 rfl T.n_range (de_var 1)) (fun _ _ _ _ _ => (dg_name 3 sc__law_some_bar.nd rfl (Or.inl rfl))) (fun _ _ _ _ _ => dts_nil) (fun _ _ _ _ _ => (dc_own (d__law_below T sy) (A.room.mono (by decide)) A.guard takes0 rfl (da_cons (de_var 0) (da_cons dk_I da_nil))))))
    (dss_cons (ds_asg [1, 2, 3] 4 sc__law_some_bar.nd rfl (Or.inl rfl) (dc_tuple T.n_tuple rfl (da_cons (de_lc (own := [("person", 3)]) rfl sc__law_some_bar.nd (by exact blkOk_by (N := ["deck", "many", "sides", "person", "first"]) (sc := defScope (top 61)) (own := [("person", 3)]) (by decide +kernel)) (di_rng1 rfl T.n_range (de_var 1)) (fun _ _ _ _ _ => (dg_name 3 sc__law_some_bar.nd rfl (Or.inl rfl))) (fun _ _ _ _ _ => (dts_one (dt_eq A.room (de_ix (de_var 2) (de_var 3)) dk_I))) (fun _ _ _ _ _ => (de_var 3))) da_nil)))
    (dss_one (ds_ret [1, 2, 3, 4] (de_tp (da_cons (de_var 4) (da_cons (dc_tuple T.n_tuple rfl (da_cons (de_lc (own := [("person", 3)]) rfl sc__law_some_bar.nd (by exact blkOk_by (N := ["deck", "many", "sides", "person", "first"]) (sc := defScope (top 61)) (own := [("person", 3)]) (by decide +kernel)) (di_rng1 rfl T.n_range (de_var 1)) (fun _ _ _ _ _ => (dg_name 3 sc__law_some_bar.nd rfl (Or.inl rfl))) (fun _ _ _ _ _ => (dts_one (dt_eq A.room (de_ix (de_var 2) (de_var 3)) dk_I))) (fun _ _ _ _ _ => (de_var 3))) da_nil)) da_nil)))))))
theorem d_is_pair (T : Txt K mg) (sy : SysIn base) : Den P w K mg base 4 "is_pair" 2 g_is_pair :=
  has_den (N := ["thing", "many"]) (ps := ["thing", "many"]) sy T.f_is_pair sc_is_pair fun f cd A0 ou s H E c A =>
    (dss_one (ds_ret [0, 1] (de_and (dc_isi "tuple" T.n_isinstance rfl (da_cons (de_var 0) (da_cons (dk_T rfl T.n_tuple boot_tuple) da_nil))) (de_and (de_eq A.room (dc_len T.n_len rfl (da_cons (de_var 0) da_nil)) dk_I) (de_and (dc_own (d_is_rising T sy) (A.room.mono (by decide)) A.guard A.tk rfl (da_cons (de_var 0) da_nil)) (de_and1 (de_lt A.room (de_ix (de_var 0) dk_I) (de_var 1))))))))
theorem d_is_side (T : Txt K mg) (sy : SysIn base) : Den P w K mg base 4 "is_side" 2 g_is_side :=
  has_den (N := ["thing", "many", "person"]) (ps := ["thing", "many"]) sy T.f_is_side sc_is_side fun f cd A0 ou s H E c A =>
    (dss_one (ds_ret [0, 1, 2] (de_and (dc_own (d_is_rising T sy) (A.room.mono (by decide)) A.guard A.tk rfl (da_cons (de_var 0) da_nil)) (de_and1 (dc_all rfl T.n_all rfl (da_cons (de_lc (own := [("person", 2)]) rfl sc_is_side.nd (by exact blkOk_by (N := ["thing", "many", "person"]) (sc := defScope (top 23)) (own := [("person", 2)]) (by decide +kernel)) (di_seq (de_var 0)) (fun _ _ _ _ _ => (dg_name 2 sc_is_side.nd rfl (Or.inl rfl))) (fun _ _ _ _ _ => dts_nil) (fun _ _ _ _ _ => (de_lt A.room (de_var 2) (de_var 1)))) da_nil))))))
theorem d_slack_of (T : Txt K mg) (sy : SysIn base) : Den P w K mg base 4 "slack_of" 2 g_slack_of :=
  has_den (N := ["party", "bar"]) (ps := ["party", "bar"]) sy T.f_slack_of sc_slack_of fun f cd A0 ou s H E c A =>
    (dss_one (ds_ret [0, 1] (dc_own (d_slack_by T sy) (A.room.mono (by decide)) A.guard A.tk rfl (da_cons (dc_own (d_needs_of T sy) (A.room.mono (by decide)) A.guard A.tk rfl (da_cons (de_var 0) da_nil)) (da_cons (dc_own (d_free_of T sy) (A.room.mono (by decide)) A.guard A.tk rfl (da_cons (de_var 0) da_nil)) (da_cons (de_var 1) da_nil))))))
theorem d_is_parting (T : Txt K mg) (sy : SysIn base) : Den P w K mg base 4 "is_parting" 2 g_is_parting :=
  has_den (N := ["party", "thing"]) (ps := ["party", "thing"]) sy T.f_is_parting sc_is_parting fun f cd A0 ou s H E c A =>
    (dss_cons (ds_if [1] (dt_w (dw_or (dt_not (dt_val (dc_own (d_is_rising T sy) (A.room.mono (by decide)) A.guard A.tk rfl (da_cons (de_var 1) da_nil)))) (dw_or1 (dt_ne A.room (de_sl (de_var 1) do_none (do_some dk_I)) (de_tp (da_cons dk_I da_nil)))))) (dss_one (ds_ret [] dk_B)) dss_nil)
    (dss_one (ds_ret [0, 1] (de_and (de_lt A.room (dc_len T.n_len rfl (da_cons (de_var 1) da_nil)) (dc_len T.n_len rfl (da_cons (de_ix (de_var 0) dk_I) da_nil))) (de_and1 (de_lt A.room (de_ix (de_var 1) (de_neg dk_I)) (dc_len T.n_len rfl (da_cons (de_ix (de_var 0) dk_I) da_nil))))))))
theorem d__law_right_party (T : Txt K mg) (sy : SysIn base) : Den P w K mg base 4 "_law_right_party" 2 g__law_right_party :=
  has_den (N := ["deck", "most", "many", "sort", "pairs", "meeting", "facts", "pair", "numbers", "person"]) (ps := ["deck", "most"]) sy T.f__law_right_party sc__law_right_party fun f cd A0 ou s H E c A =>
    (dss_cons (ds_par [0, 1] 2 3 rfl sc__law_right_party.nd rfl rfl (by decide) rfl rfl (de_add dk_I (dc_own (d__law_below T sy) (A.room.mono (by decide)) A.guard A.tk rfl (da_cons (de_var 0) (da_cons (de_var 1) da_nil)))) (dc_own (d__law_below T sy) (A.room.mono (by decide)) A.guard A.tk rfl (da_cons (de_var 0) (da_cons dk_I da_nil))) (by rfl))
    (dss_duo (k := 6) [2] 4 5 rfl sc__law_right_party.nd rfl rfl rfl (by decide) (by decide) (by decide) (Or.inl rfl) (Or.inr rfl) (Or.inl rfl) (by first | exact .inl rfl | exact .inr rfl) (by first | exact .inl rfl | exact .inr rfl) (by first | exact .inl rfl | exact .inr rfl) (dc_own (d__law_all_pairs T sy) (A.room.mono (by decide)) A.guard A.tk rfl (da_cons (de_var 2) da_nil)) (de_ls da_nil)
    (ds2_for A.own rfl (di_seq (de_var 4)) (dg_name 7 sc__law_right_party.nd rfl (Or.inl rfl)) (by decide) (dss2_cons (ds2_if [0, 3] (dt_lt A.room (dc_own (d__law_below T sy) (A.room.mono (by decide)) A.guard A.tk rfl (da_cons (de_var 0) (da_cons (de_ix (de_ls (da_cons dk_I (da_cons dk_I (da_cons dk_I (da_cons dk_I da_nil))))) (de_var 3)) da_nil))) (de_ix (de_ls (da_cons dk_I (da_cons dk_I (da_cons dk_I (da_cons dk_I da_nil))))) (de_var 3))) (dss2_one (ds2_app [7] 5 (de_var 7))) dss2_nil) (dss2_one (ds2_if [0, 3] (dt_w (dw_and (dt_eq A.room (dc_own (d__law_below T sy) (A.room.mono (by decide)) A.guard A.tk rfl (da_cons (de_var 0) (da_cons dk_I da_nil))) dk_I) (dw_and1 (dt_lt A.room (de_var 3) dk_I)))) (dss2_one (ds2_dapp [7] [5, 7] (dc_int T.n_int rfl (da_cons (de_notin A.room (de_var 7) (de_var 5)) da_nil)) (de_var 7))) dss2_nil))))
    (dss_cons (ds_asgLc (own := [("person", 9)]) [2, 5, 9] 8 rfl sc__law_right_party.nd rfl rfl (sw_true rfl rfl rfl (by decide +kernel)) (by exact blkOk_by (N := ["deck", "most", "many", "sort", "pairs", "meeting", "facts", "pair", "numbers", "person"]) (sc := defScope (top 46)) (own := [("person", 9)]) (by decide +kernel)) (di_rng1 rfl T.n_range (de_var 2)) (fun _ _ _ _ _ => (dg_name 9 sc__law_right_party.nd rfl (Or.inl rfl))) (fun _ _ _ _ _ => dts_nil) (fun _ _ _ _ _ => (dc_own (d__law_count T sy) (A.room.mono (by decide)) A.guard takes0 rfl (da_cons (de_var 5) (da_cons (de_var 9) da_nil)))))
    (dss_cons (ds_for [0] A.own rfl (di_rng1 rfl T.n_range (dc_own (d__law_pick T sy) (A.room.mono (by decide)) A.guard A.tk rfl (da_cons (de_var 0) (da_cons (de_ls (da_cons dk_I (da_cons dk_I (da_cons dk_I (da_cons dk_I da_nil))))) da_nil)))) (dg_name 9 sc__law_right_party.nd rfl (Or.inl rfl)) (dss_one (ds_sto [] [0, 2] 8 dk_N (dc_own (d__law_below T sy) (A.room.mono (by decide)) A.guard A.tk rfl (da_cons (de_var 0) (da_cons (de_var 2) da_nil))))))
    (dss_one (ds_ret [5, 6, 8] (de_ls (da_cons (de_tp (da_cons (dc_tuple T.n_tuple rfl (da_cons (de_var 8) da_nil)) (da_cons (dc_tuple T.n_tuple rfl (da_cons (de_ix (de_var 6) dk_I) da_nil)) (da_cons (dc_tuple T.n_tuple rfl (da_cons (de_ix (de_var 6) dk_I) da_nil)) da_nil)))) (da_cons (dc_tuple T.n_tuple rfl (da_cons (de_var 5) da_nil)) da_nil))))))) (by rfl)))
theorem d__law_bars (T : Txt K mg) (sy : SysIn base) : Den P w K mg base 4 "_law_bars" 2 g__law_bars :=
  has_den (N := ["party", "thing", "many", "person"]) (ps := ["party", "thing"]) sy T.f__law_bars sc__law_bars fun f cd A0 ou s H E c A =>
    (dss_cons (ds_asg [0] 2 sc__law_bars.nd rfl (Or.inl rfl) (dc_len T.n_len rfl (da_cons (de_ix (de_var 0) dk_I) da_nil)))
    (dss_cons (ds_if [1] (dt_w (dw_or (dt_not (dt_val (dc_isi "tuple" T.n_isinstance rfl (da_cons (de_var 1) (da_cons (dk_T rfl T.n_tuple boot_tuple) da_nil))))) (dw_or1 (dt_ne A.room (dc_len T.n_len rfl (da_cons (de_var 1) da_nil)) dk_I)))) (dss_one (ds_ret [] dk_B)) dss_nil)
    (dss_cons (ds_if [1, 2] (dt_w (dw_or (dt_not (dt_val (dc_own (d__law_is_side T sy) (A.room.mono (by decide)) A.guard A.tk rfl (da_cons (de_ix (de_var 1) dk_I) (da_cons (de_var 2) da_nil))))) (dw_or1 (dt_not (dt_val (dc_own (d__law_is_side T sy) (A.room.mono (by decide)) A.guard A.tk rfl (da_cons (de_ix (de_var 1) dk_I) (da_cons (de_var 2) da_nil)))))))) (dss_one (ds_ret [] dk_B)) dss_nil)
    (dss_one (ds_ret [0, 1, 3] (de_and (de_eq A.room (de_lc (own := [("person", 3)]) rfl sc__law_bars.nd (by exact blkOk_by (N := ["party", "thing", "many", "person"]) (sc := defScope (top 52)) (own := [("person", 3)]) (by decide +kernel)) (di_seq (de_ix (de_var 1) dk_I)) (fun _ _ _ _ _ => (dg_name 3 sc__law_bars.nd rfl (Or.inl rfl))) (fun _ _ _ _ _ => (dts_one (dt_in A.room (de_var 3) (de_ix (de_var 1) dk_I)))) (fun _ _ _ _ _ => (de_var 3))) (de_ls da_nil)) (de_and1 (de_lt A.room (dc_own (d__law_slack T sy) (A.room.mono (by decide)) A.guard A.tk rfl (da_cons (de_var 0) (da_cons (de_var 1) da_nil))) dk_I))))))))
theorem d__law_find (T : Txt K mg) (sy : SysIn base) : Den P w K mg base 4 "_law_find" 1 g__law_find :=
  has_den (N := ["party", "bar"]) (ps := ["party"]) sy T.f__law_find sc__law_find fun f cd A0 ou s H E c A =>
    (dss_cons (ds_for [0] A.own rfl (di_seq (dc_own (d__law_all_bars T sy) (A.room.mono (by decide)) A.guard A.tk rfl (da_cons (dc_len T.n_len rfl (da_cons (de_ix (de_var 0) dk_I) da_nil)) da_nil))) (dg_name 1 sc__law_find.nd rfl (Or.inl rfl)) (dss_one (ds_if [0, 1] (dt_lt A.room (dc_own (d__law_slack T sy) (A.room.mono (by decide)) A.guard A.tk rfl (da_cons (de_var 0) (da_cons (de_var 1) da_nil))) dk_I) (dss_one (ds_retV 1)) dss_nil)))
    (dss_one (ds_ret [] dk_N)))
theorem d__law_bent_bar (T : Txt K mg) (sy : SysIn base) : Den P w K mg base 4 "_law_bent_bar" 3 g__law_bent_bar :=
  has_den (N := ["deck", "bar", "many", "odd", "side", "some"]) (ps := ["deck", "bar", "many"]) sy T.f__law_bent_bar sc__law_bent_bar fun f cd A0 ou s H E c A =>
    (dss_cons (ds_asg [0, 2] 3 sc__law_bent_bar.nd rfl (Or.inl rfl) (dc_own (d__law_pick T sy) (A.room.mono (by decide)) A.guard A.tk rfl (da_cons (de_var 0) (da_cons (de_ls (da_cons (de_var 2) (da_cons (de_sub dk_I dk_I) (da_cons dk_B (da_cons dk_N (da_cons dk_S (da_cons dk_I (da_cons (de_sub (de_var 2) dk_I) da_nil)))))))) da_nil))))
    (dss_cons (ds_asg [1] 4 sc__law_bent_bar.nd rfl (Or.inl rfl) (de_ix (de_var 1) dk_I))
    (dss_cons (ds_asg [1, 3, 4] 5 sc__law_bent_bar.nd rfl (Or.inl rfl) (de_ls (da_cons (de_var 1) (da_cons (de_rv (de_var 1)) (da_cons (dc_list T.n_list rfl (da_cons (de_var 1) da_nil)) (da_cons (de_sl (de_var 1) do_none (do_some dk_I)) (da_cons (de_add (de_var 1) (de_tp (da_cons (de_tp da_nil) da_nil))) (da_cons (de_tp (da_cons (de_ix (de_var 1) dk_I) (da_cons (dc_list T.n_list rfl (da_cons (de_var 4) da_nil)) da_nil))) (da_cons (de_tp (da_cons (de_ix (de_var 1) dk_I) (da_cons (de_add (de_var 4) (de_tp (da_cons (de_var 3) da_nil))) da_nil))) da_nil)))))))))
    (dss_cons (ds_asg [1, 3, 4, 5] 5 sc__law_bent_bar.nd rfl (Or.inl rfl) (de_add (de_var 5) (de_ls (da_cons (de_tp (da_cons (de_add (de_ix (de_var 1) dk_I) (de_tp (da_cons (de_var 3) da_nil))) (da_cons (de_var 4) da_nil))) (da_cons (de_tp (da_cons (de_var 4) (da_cons (de_var 4) da_nil))) (da_cons (de_tp (da_cons (de_ix (de_var 1) dk_I) (da_cons (de_sl (de_var 4) (do_some dk_I) do_none) da_nil))) (da_cons (de_tp (da_cons (de_sl (de_ix (de_var 1) dk_I) do_none (do_some (de_sub dk_I dk_I))) (da_cons (de_var 4) da_nil))) (da_cons (de_tp (da_cons dk_I (da_cons dk_I da_nil))) (da_cons dk_N da_nil)))))))))
    (dss_one (ds_ret [0, 1, 2, 3, 4, 5] (dc_own (d__law_pick T sy) (A.room.mono (by decide)) A.guard A.tk rfl (da_cons (de_var 0) (da_cons (de_add (de_var 5) (de_ls (da_cons (de_tp (da_cons (de_ix (de_var 1) dk_I) (da_cons (de_add (de_tp (da_cons (de_var 3) da_nil)) (de_var 4)) da_nil))) (da_cons (dc_own (d__law_some_bar T sy) (A.room.mono (by decide)) A.guard A.tk rfl (da_cons (de_var 0) (da_cons (de_var 2) da_nil))) (da_cons (dc_own (d__law_some_bar T sy) (A.room.mono (by decide)) A.guard A.tk rfl (da_cons (de_var 0) (da_cons (de_var 2) da_nil))) da_nil))))) da_nil)))))))))
theorem d_are_pairs (T : Txt K mg) (sy : SysIn base) : Den P w K mg base 5 "are_pairs" 2 g_are_pairs :=
  has_den (N := ["thing", "many", "pair", "one", "other"]) (ps := ["thing", "many"]) sy T.f_are_pairs sc_are_pairs fun f cd A0 ou s H E c A =>
    (dss_cons (ds_if [0, 1, 2] (dt_w (dw_or (dt_not (dt_val (dc_isi "tuple" T.n_isinstance rfl (da_cons (de_var 0) (da_cons (dk_T rfl T.n_tuple boot_tuple) da_nil))))) (dw_or1 (dt_not (dt_val (dc_all rfl T.n_all rfl (da_cons (de_lc (own := [("pair", 2)]) rfl sc_are_pairs.nd (by exact blkOk_by (N := ["thing", "many", "pair", "one", "other"]) (sc := defScope (top 11)) (own := [("pair", 2)]) (by decide +kernel)) (di_seq (de_var 0)) (fun _ _ _ _ _ => (dg_name 2 sc_are_pairs.nd rfl (Or.inl rfl))) (fun _ _ _ _ _ => dts_nil) (fun _ _ _ _ _ => (dc_own (d_is_pair T sy) (A.room.mono (by decide)) A.guard takes0 rfl (da_cons (de_var 2) (da_cons (de_var 1) da_nil))))) da_nil))))))) (dss_one (ds_ret [] dk_B)) dss_nil)
    (dss_one (ds_ret [0, 3, 4] (dc_all rfl T.n_all rfl (da_cons (de_lc (own := [("one", 3), ("other", 4)]) rfl sc_are_pairs.nd (by exact blkOk_by (N := ["thing", "many", "pair", "one", "other"]) (sc := defScope (top 11)) (own := [("one", 3), ("other", 4)]) (by decide +kernel)) (di_zip rfl T.n_zip (de_sl (de_var 0) do_none (do_some (de_neg dk_I))) (de_sl (de_var 0) (do_some dk_I) do_none)) (fun _ _ _ _ _ => (dg_tup rfl (.cons (pg_name (i := 3) sc_are_pairs.nd rfl (Or.inl rfl)) (.cons (pg_name (i := 4) sc_are_pairs.nd rfl (Or.inl rfl)) DGN.nil)) (pgs_cons (pg_name (i := 3) sc_are_pairs.nd rfl (Or.inl rfl)) (pgs_cons (pg_name (i := 4) sc_are_pairs.nd rfl (Or.inl rfl)) pgs_nil)))) (fun _ _ _ _ _ => dts_nil) (fun _ _ _ _ _ => (de_lt A.room (de_var 3) (de_var 4)))) da_nil)))))
theorem d_is_bar_of (T : Txt K mg) (sy : SysIn base) : Den P w K mg base 5 "is_bar_of" 2 g_is_bar_of :=
  has_den (N := ["party", "thing", "side", "person"]) (ps := ["party", "thing"]) sy T.f_is_bar_of sc_is_bar_of fun f cd A0 ou s H E c A =>
    (dss_cons (ds_if [0, 1, 2] (dt_w (dw_or (dt_not (dt_val (dc_isi "tuple" T.n_isinstance rfl (da_cons (de_var 1) (da_cons (dk_T rfl T.n_tuple boot_tuple) da_nil))))) (dw_or (dt_ne A.room (dc_len T.n_len rfl (da_cons (de_var 1) da_nil)) dk_I) (dw_or1 (dt_not (dt_val (dc_all rfl T.n_all rfl (da_cons (de_lc (own := [("side", 2)]) rfl sc_is_bar_of.nd (by exact blkOk_by (N := ["party", "thing", "side", "person"]) (sc := defScope (top 24)) (own := [("side", 2)]) (by decide +kernel)) (di_seq (de_var 1)) (fun _ _ _ _ _ => (dg_name 2 sc_is_bar_of.nd rfl (Or.inl rfl))) (fun _ _ _ _ _ => dts_nil) (fun _ _ _ _ _ => (dc_own (d_is_side T sy) (A.room.mono (by decide)) A.guard takes0 rfl (da_cons (de_var 2) (da_cons (dc_len T.n_len rfl (da_cons (de_ix (de_var 0) dk_I) da_nil)) da_nil))))) da_nil)))))))) (dss_one (ds_ret [] dk_B)) dss_nil)
    (dss_one (ds_ret [1, 3] (de_not (dc_any rfl T.n_any rfl (da_cons (de_lc (own := [("person", 3)]) rfl sc_is_bar_of.nd (by exact blkOk_by (N := ["party", "thing", "side", "person"]) (sc := defScope (top 24)) (own := [("person", 3)]) (by decide +kernel)) (di_seq (de_ix (de_var 1) dk_I)) (fun _ _ _ _ _ => (dg_name 3 sc_is_bar_of.nd rfl (Or.inl rfl))) (fun _ _ _ _ _ => dts_nil) (fun _ _ _ _ _ => (de_in A.room (de_var 3) (de_ix (de_var 1) dk_I)))) da_nil))))))
theorem d__law_any_party (T : Txt K mg) (sy : SysIn base) : Den P w K mg base 5 "_law_any_party" 2 g__law_any_party :=
  has_den (N := ["deck", "most", "party", "meeting", "numbers", "met", "apart", "kind", "at", "pair", "some"]) (ps := ["deck", "most"]) sy T.f__law_any_party sc__law_any_party fun f cd A0 ou s H E c A =>
    (dss_cons (ds_unl [0, 1] (dc_own (d__law_right_party T sy) (A.room.mono (by decide)) A.guard A.tk rfl (da_cons (de_var 0) (da_cons (de_var 1) da_nil))) (dg_lst rfl (.cons (pg_name (i := 2) sc__law_any_party.nd rfl (Or.inl rfl)) (.cons (pg_name (i := 3) sc__law_any_party.nd rfl (Or.inl rfl)) DGN.nil)) (pgs_cons (pg_name (i := 2) sc__law_any_party.nd rfl (Or.inl rfl)) (pgs_cons (pg_name (i := 3) sc__law_any_party.nd rfl (Or.inl rfl)) pgs_nil))))
    (dss_cons (ds_par3 [2] 4 5 6 rfl sc__law_any_party.nd rfl rfl rfl (by decide) (by decide) (by decide) rfl rfl rfl (dc_list T.n_list rfl (da_cons (de_ix (de_var 2) dk_I) da_nil)) (dc_list T.n_list rfl (da_cons (de_ix (de_var 2) dk_I) da_nil)) (dc_list T.n_list rfl (da_cons (de_ix (de_var 2) dk_I) da_nil)) (by rfl))
    (dss_cons (ds_asg [0] 7 sc__law_any_party.nd rfl (Or.inl rfl) (dc_own (d__law_below T sy) (A.room.mono (by decide)) A.guard A.tk rfl (da_cons (de_var 0) (da_cons dk_I da_nil))))
    (dss_cons (ds_if [7] (dt_lt A.room (de_var 7) dk_I) (dss_cons (ds_asg [0, 4] 8 sc__law_any_party.nd rfl (Or.inl rfl) (dc_own (d__law_below T sy) (A.room.mono (by decide)) A.guard A.tk rfl (da_cons (de_var 0) (da_cons (dc_len T.n_len rfl (da_cons (de_var 4) da_nil)) da_nil))))
    (dss_one (ds_sto [0, 4] [8] 4 (dc_own (d__law_pick T sy) (A.room.mono (by decide)) A.guard A.tk rfl (da_cons (de_var 0) (da_cons (de_ls (da_cons dk_I (da_cons dk_I (da_cons dk_I (da_cons dk_I (da_cons (de_sub (dc_len T.n_len rfl (da_cons (de_var 4) da_nil)) dk_I) (da_cons (dc_len T.n_len rfl (da_cons (de_var 4) da_nil)) (da_cons dk_I da_nil)))))))) da_nil))) (de_var 8)))) (dss_one (ds_if [7] (dt_eq A.room (de_var 7) dk_I) (dss_one (ds_for [4] A.own rfl (di_seq (dc_own (d__law_all_pairs T sy) (A.room.mono (by decide)) A.guard A.tk rfl (da_cons (dc_len T.n_len rfl (da_cons (de_var 4) da_nil)) da_nil))) (dg_name 9 sc__law_any_party.nd rfl (Or.inl rfl)) (dss_one (ds_if [0, 5, 6, 9] (dt_w (dw_and (dt_notin A.room (de_var 9) (de_var 5)) (dw_and (dt_notin A.room (de_var 9) (de_var 6)) (dw_and1 (dt_eq A.room (dc_own (d__law_below T sy) (A.room.mono (by decide)) A.guard A.tk rfl (da_cons (de_var 0) (da_cons dk_I da_nil))) dk_I))))) (dss_ali [3, 9] [9] 10 6 5 sc__law_any_party.nd (Or.inl rfl) (dt_in A.room (de_var 9) (de_var 3)) (de_var 9) dss_nil (by decide) (by decide)) dss_nil)))) dss_nil)))
    (dss_one (ds_ret [4, 5, 6] (de_tp (da_cons (dc_tuple T.n_tuple rfl (da_cons (de_var 4) da_nil)) (da_cons (dc_tuple T.n_tuple rfl (da_cons (dc_sorted A.room T.n_sorted rfl (da_cons (de_var 5) da_nil)) da_nil)) (da_cons (dc_tuple T.n_tuple rfl (da_cons (dc_sorted A.room T.n_sorted rfl (da_cons (de_var 6) da_nil)) da_nil)) da_nil))))))))))
theorem d__law_is_reason (T : Txt K mg) (sy : SysIn base) : Den P w K mg base 5 "_law_is_reason" 3 g__law_is_reason :=
  has_den (N := ["party", "parting", "thing"]) (ps := ["party", "parting", "thing"]) sy T.f__law_is_reason sc__law_is_reason fun f cd A0 ou s H E c A =>
    (dss_cons (ds_if [0, 2] (dt_val (dc_own (d__law_is_pair T sy) (A.room.mono (by decide)) A.guard A.tk rfl (da_cons (de_var 2) (da_cons (dc_len T.n_len rfl (da_cons (de_ix (de_var 0) dk_I) da_nil)) da_nil)))) (dss_one (ds_ret [0, 1, 2] (de_and (de_in A.room (de_var 2) (de_ix (de_var 0) dk_I)) (de_and1 (dc_own (d__law_crosses T sy) (A.room.mono (by decide)) A.guard A.tk rfl (da_cons (de_var 2) (da_cons (de_var 1) da_nil))))))) dss_nil)
    (dss_one (ds_ret [0, 1, 2] (dc_own (d__law_bars T sy) (A.room.mono (by decide)) A.guard A.tk rfl (da_cons (dc_own (d__law_cut T sy) (A.room.mono (by decide)) A.guard A.tk rfl (da_cons (de_var 0) (da_cons (de_var 1) da_nil))) (da_cons (de_var 2) da_nil))))))
theorem d__law_reasons (T : Txt K mg) (sy : SysIn base) : Den P w K mg base 5 "_law_reasons" 2 g__law_reasons :=
  has_den (N := ["deck", "party", "found", "parting", "across", "bar", "pair"]) (ps := ["deck", "party"]) sy T.f__law_reasons sc__law_reasons fun f cd A0 ou s H E c A =>
    (dss_cons (ds_asg [] 2 sc__law_reasons.nd rfl (Or.inl rfl) (de_ls da_nil))
    (dss_cons (ds_for [1] A.own rfl (di_seq (dc_own (d__law_partings T sy) (A.room.mono (by decide)) A.guard A.tk rfl (da_cons (dc_len T.n_len rfl (da_cons (de_ix (de_var 1) dk_I) da_nil)) da_nil))) (dg_name 3 sc__law_reasons.nd rfl (Or.inr rfl)) (dss_cons (ds_asgLc (own := [("pair", 6)]) [1, 3, 6] 4 rfl sc__law_reasons.nd rfl rfl (sw_true rfl rfl rfl (by decide +kernel)) (by exact blkOk_by (N := ["deck", "party", "found", "parting", "across", "bar", "pair"]) (sc := defScope (top 65)) (own := [("pair", 6)]) (by decide +kernel)) (di_seq (de_ix (de_var 1) dk_I)) (fun _ _ _ _ _ => (dg_name 6 sc__law_reasons.nd rfl (Or.inl rfl))) (fun _ _ _ _ _ => (dts_one (dt_val (dc_own (d__law_crosses T sy) (A.room.mono (by decide)) A.guard takes0 rfl (da_cons (de_var 6) (da_cons (de_var 3) da_nil)))))) (fun _ _ _ _ _ => (de_var 6)))
    (dss_cons (ds_asg [1, 3] 5 sc__law_reasons.nd rfl (Or.inl rfl) (dc_own (d__law_find T sy) (A.room.mono (by decide)) A.guard A.tk rfl (da_cons (dc_own (d__law_cut T sy) (A.room.mono (by decide)) A.guard A.tk rfl (da_cons (de_var 1) (da_cons (de_var 3) da_nil))) da_nil)))
    (dss_one (ds_if [0, 4, 5] (dt_w (dw_and (dt_ne A.room (de_var 4) (de_ls da_nil)) (dw_and1 (dt_w (dw_or (dt_is (de_var 5) dk_N) (dw_or1 (dt_gt (dc_own (d__law_below T sy) (A.room.mono (by decide)) A.guard A.tk rfl (da_cons (de_var 0) (da_cons dk_I da_nil))) dk_I))))))) (dss_one (ds_app [0, 3, 4] 2 (de_tp (da_cons (de_var 3) (da_cons (dc_own (d__law_pick T sy) (A.room.mono (by decide)) A.guard A.tk rfl (da_cons (de_var 0) (da_cons (de_var 4) da_nil))) da_nil))))) (dss_one (ds_app [0, 1, 3, 5] 2 (de_tp (da_cons (de_var 3) (da_cons (de_if (dt_is (de_var 5) dk_N) (dc_own (d__law_some_bar T sy) (A.room.mono (by decide)) A.guard A.tk rfl (da_cons (de_var 0) (da_cons (dc_len T.n_len rfl (da_cons (de_ix (de_var 1) dk_I) da_nil)) da_nil))) (de_var 5)) da_nil))))))))))
    (dss_one (ds_retV 2))))
theorem d__law_bent_row (T : Txt K mg) (sy : SysIn base) : Den P w K mg base 5 "_law_bent_row" 3 g__law_bent_row :=
  has_den (N := ["deck", "party", "row", "many", "kind", "parting", "pair", "bar", "person", "some"]) (ps := ["deck", "party", "row"]) sy T.f__law_bent_row sc__law_bent_row fun f cd A0 ou s H E c A =>
    (dss_cons (ds_par3 [0, 1, 2] 3 4 5 rfl sc__law_bent_row.nd rfl rfl rfl (by decide) (by decide) (by decide) rfl rfl rfl (dc_len T.n_len rfl (da_cons (de_ix (de_var 1) dk_I) da_nil)) (dc_own (d__law_below T sy) (A.room.mono (by decide)) A.guard A.tk rfl (da_cons (de_var 0) (da_cons dk_I da_nil))) (de_ix (de_var 2) dk_I) (by rfl))
    (dss_cons (ds_asg [0, 3] 6 sc__law_bent_row.nd rfl (Or.inl rfl) (dc_own (d__law_pick T sy) (A.room.mono (by decide)) A.guard A.tk rfl (da_cons (de_var 0) (da_cons (de_add (dc_own (d__law_all_pairs T sy) (A.room.mono (by decide)) A.guard A.tk rfl (da_cons (de_var 3) da_nil)) (de_ls (da_cons (de_tp (da_cons dk_I (da_cons dk_I da_nil))) (da_cons (de_tp (da_cons dk_I (da_cons dk_I da_nil))) (da_cons (de_tp (da_cons dk_B (da_cons dk_B da_nil))) (da_cons (de_tp (da_cons dk_I (da_cons (de_var 3) da_nil))) da_nil)))))) da_nil))))
    (dss_cons (ds_asg [2, 5, 8] 7 sc__law_bent_row.nd rfl (Or.inl rfl) (de_if (dt_val (dc_isi "int" T.n_isinstance rfl (da_cons (de_ix (de_ix (de_var 2) dk_I) dk_I) (da_cons (dk_T rfl T.n_int boot_int) da_nil)))) (de_tp (da_cons (de_tp da_nil) (da_cons (dc_tuple T.n_tuple rfl (da_cons (de_lc (own := [("person", 8)]) rfl sc__law_bent_row.nd (by exact blkOk_by (N := ["deck", "party", "row", "many", "kind", "parting", "pair", "bar", "person", "some"]) (sc := defScope (top 66)) (own := [("person", 8)]) (by decide +kernel)) (di_seq (de_var 5)) (fun _ _ _ _ _ => (dg_name 8 sc__law_bent_row.nd rfl (Or.inl rfl))) (fun _ _ _ _ _ => (dts_one (dt_gt (de_var 8) dk_I))) (fun _ _ _ _ _ => (de_var 8))) da_nil)) da_nil))) (de_ix (de_var 2) dk_I)))
    (dss_cons (ds_if [4] (dt_lt A.room (de_var 4) dk_I) (dss_one (ds_ret [5, 6] (de_tp (da_cons (de_var 5) (da_cons (de_var 6) da_nil))))) dss_nil)
    (dss_cons (ds_if [4] (dt_lt A.room (de_var 4) dk_I) (dss_one (ds_ret [0, 3, 5, 7] (de_tp (da_cons (de_var 5) (da_cons (dc_own (d__law_bent_bar T sy) (A.room.mono (by decide)) A.guard A.tk rfl (da_cons (de_var 0) (da_cons (de_var 7) (da_cons (de_var 3) da_nil)))) da_nil))))) dss_nil)
    (dss_cons (ds_asg [2, 3, 5] 9 sc__law_bent_row.nd rfl (Or.inl rfl) (de_ls (da_cons (dc_list T.n_list rfl (da_cons (de_var 2) da_nil)) (da_cons (de_tp (da_cons (dc_list T.n_list rfl (da_cons (de_var 5) da_nil)) (da_cons (de_ix (de_var 2) dk_I) da_nil))) (da_cons (de_tp (da_cons (de_sl (de_var 5) (do_some dk_I) do_none) (da_cons (de_ix (de_var 2) dk_I) da_nil))) (da_cons (de_tp (da_cons (de_add (de_var 5) (de_tp (da_cons (de_var 3) da_nil))) (da_cons (de_ix (de_var 2) dk_I) da_nil))) (da_cons (de_add (de_var 2) (de_tp (da_cons dk_I da_nil))) (da_cons (de_var 5) da_nil))))))))
    (dss_one (ds_ret [0, 2, 5, 9] (dc_own (d__law_pick T sy) (A.room.mono (by decide)) A.guard A.tk rfl (da_cons (de_var 0) (da_cons (de_add (de_var 9) (de_ls (da_cons (de_tp (da_cons (de_add (de_tp (da_cons dk_B da_nil)) (de_sl (de_var 5) (do_some dk_I) do_none)) (da_cons (de_ix (de_var 2) dk_I) da_nil))) (da_cons (de_tp (da_cons (de_var 5) (da_cons (dc_list T.n_list rfl (da_cons (de_ix (de_var 2) dk_I) da_nil)) da_nil))) (da_cons (de_tp (da_cons (de_ix (de_var 2) dk_I) (da_cons (de_var 5) da_nil))) (da_cons dk_N da_nil)))))) da_nil)))))))))))
theorem d_is_party (T : Txt K mg) (sy : SysIn base) : Den P w K mg base 6 "is_party" 1 g_is_party :=
  has_den (N := ["thing", "number", "pair"]) (ps := ["thing"]) sy T.f_is_party sc_is_party fun f cd A0 ou s H E c A =>
    (dss_cons (ds_if [0] (dt_w (dw_or (dt_not (dt_val (dc_isi "tuple" T.n_isinstance rfl (da_cons (de_var 0) (da_cons (dk_T rfl T.n_tuple boot_tuple) da_nil))))) (dw_or (dt_ne A.room (dc_len T.n_len rfl (da_cons (de_var 0) da_nil)) dk_I) (dw_or1 (dt_not (dt_val (dc_isi "tuple" T.n_isinstance rfl (da_cons (de_ix (de_var 0) dk_I) (da_cons (dk_T rfl T.n_tuple boot_tuple) da_nil))))))))) (dss_one (ds_ret [] dk_B)) dss_nil)
    (dss_cons (ds_if [0, 1] (dt_w (dw_or (dt_not (dt_chain op_le op_le dk_I (dc_len T.n_len rfl (da_cons (de_ix (de_var 0) dk_I) da_nil)) (dk_gI rfl T.v_MAX_PERSONS))) (dw_or1 (dt_not (dt_val (dc_all rfl T.n_all rfl (da_cons (de_lc (own := [("number", 1)]) rfl sc_is_party.nd (by exact blkOk_by (N := ["thing", "number", "pair"]) (sc := defScope (top 13)) (own := [("number", 1)]) (by decide +kernel)) (di_seq (de_ix (de_var 0) dk_I)) (fun _ _ _ _ _ => (dg_name 1 sc_is_party.nd rfl (Or.inl rfl))) (fun _ _ _ _ _ => dts_nil) (fun _ _ _ _ _ => (dc_own (d_is_number T sy) (A.room.mono (by decide)) A.guard takes0 rfl (da_cons (de_var 1) da_nil)))) da_nil))))))) (dss_one (ds_ret [] dk_B)) dss_nil)
    (dss_cons (ds_if [0] (dt_w (dw_or (dt_not (dt_val (dc_own (d_are_pairs T sy) (A.room.mono (by decide)) A.guard A.tk rfl (da_cons (de_ix (de_var 0) dk_I) (da_cons (dc_len T.n_len rfl (da_cons (de_ix (de_var 0) dk_I) da_nil)) da_nil))))) (dw_or1 (dt_not (dt_val (dc_own (d_are_pairs T sy) (A.room.mono (by decide)) A.guard A.tk rfl (da_cons (de_ix (de_var 0) dk_I) (da_cons (dc_len T.n_len rfl (da_cons (de_ix (de_var 0) dk_I) da_nil)) da_nil)))))))) (dss_one (ds_ret [] dk_B)) dss_nil)
    (dss_one (ds_ret [0, 2] (de_not (dc_any rfl T.n_any rfl (da_cons (de_lc (own := [("pair", 2)]) rfl sc_is_party.nd (by exact blkOk_by (N := ["thing", "number", "pair"]) (sc := defScope (top 13)) (own := [("pair", 2)]) (by decide +kernel)) (di_seq (de_ix (de_var 0) dk_I)) (fun _ _ _ _ _ => (dg_name 2 sc_is_party.nd rfl (Or.inl rfl))) (fun _ _ _ _ _ => dts_nil) (fun _ _ _ _ _ => (de_in A.room (de_var 2) (de_ix (de_var 0) dk_I)))) da_nil))))))))
theorem d__law_is_paper (T : Txt K mg) (sy : SysIn base) : Den P w K mg base 6 "_law_is_paper" 2 g__law_is_paper :=
  has_den (N := ["party", "thing", "order", "parting", "row"]) (ps := ["party", "thing"]) sy T.f__law_is_paper sc__law_is_paper fun f cd A0 ou s H E c A =>
    (dss_cons (ds_asg [0] 2 sc__law_is_paper.nd rfl (Or.inl rfl) (dc_own (d__law_partings T sy) (A.room.mono (by decide)) A.guard A.tk rfl (da_cons (dc_len T.n_len rfl (da_cons (de_ix (de_var 0) dk_I) da_nil)) da_nil)))
    (dss_cons (ds_if [1, 2] (dt_w (dw_or (dt_not (dt_val (dc_isi "list" T.n_isinstance rfl (da_cons (de_var 1) (da_cons (dk_T rfl T.n_list boot_list) da_nil))))) (dw_or1 (dt_ne A.room (dc_len T.n_len rfl (da_cons (de_var 1) da_nil)) (dc_len T.n_len rfl (da_cons (de_var 2) da_nil)))))) (dss_one (ds_ret [] dk_B)) dss_nil)
    (dss_cons (ds_for [1, 2] A.own rfl (di_zip rfl T.n_zip (de_var 2) (de_var 1)) (dg_tup rfl (.cons (pg_name (i := 3) sc__law_is_paper.nd rfl (Or.inl rfl)) (.cons (pg_name (i := 4) sc__law_is_paper.nd rfl (Or.inl rfl)) DGN.nil)) (pgs_cons (pg_name (i := 3) sc__law_is_paper.nd rfl (Or.inl rfl)) (pgs_cons (pg_name (i := 4) sc__law_is_paper.nd rfl (Or.inl rfl)) pgs_nil))) (dss_cons (ds_if [3, 4] (dt_w (dw_or (dt_not (dt_val (dc_isi "tuple" T.n_isinstance rfl (da_cons (de_var 4) (da_cons (dk_T rfl T.n_tuple boot_tuple) da_nil))))) (dw_or (dt_ne A.room (dc_len T.n_len rfl (da_cons (de_var 4) da_nil)) dk_I) (dw_or1 (dt_ne A.room (dc_repr A.room A.guard A.sys T.n_repr rfl (da_cons (de_ix (de_var 4) dk_I) da_nil)) (dc_repr A.room A.guard A.sys T.n_repr rfl (da_cons (de_var 3) da_nil))))))) (dss_one (ds_ret [] dk_B)) dss_nil)
    (dss_one (ds_if [0, 3, 4] (dt_not (dt_val (dc_own (d__law_is_reason T sy) (A.room.mono (by decide)) A.guard A.tk rfl (da_cons (de_var 0) (da_cons (de_var 3) (da_cons (de_ix (de_var 4) dk_I) da_nil)))))) (dss_one (ds_ret [] dk_B)) dss_nil))))
    (dss_one (ds_ret [] dk_B)))))
theorem d__law_bent (T : Txt K mg) (sy : SysIn base) : Den P w K mg base 6 "_law_bent" 3 g__law_bent :=
  has_den (N := ["deck", "party", "grid", "kind", "at"]) (ps := ["deck", "party", "grid"]) sy T.f__law_bent sc__law_bent fun f cd A0 ou s H E c A =>
    (dss_cons (ds_asg [0] 3 sc__law_bent.nd rfl (Or.inl rfl) (dc_own (d__law_below T sy) (A.room.mono (by decide)) A.guard A.tk rfl (da_cons (de_var 0) (da_cons dk_I da_nil))))
    (dss_cons (ds_if [2, 3] (dt_w (dw_or (dt_eq A.room (de_var 2) (de_ls da_nil)) (dw_or1 (dt_eq A.room (de_var 3) dk_I)))) (dss_one (ds_ret [0, 2] (dc_own (d__law_pick T sy) (A.room.mono (by decide)) A.guard A.tk rfl (da_cons (de_var 0) (da_cons (de_ls (da_cons (de_var 2) (da_cons (dc_tuple T.n_tuple rfl (da_cons (de_var 2) da_nil)) (da_cons (de_add (de_var 2) (de_ls (da_cons (de_tp (da_cons (de_tp (da_cons dk_I da_nil)) (da_cons (de_tp (da_cons (de_tp da_nil) (da_cons (de_tp da_nil) da_nil))) da_nil))) da_nil))) (da_cons (de_sl (de_var 2) do_none (do_some (de_sub dk_I dk_I))) (da_cons (de_rv (de_var 2)) (da_cons dk_N (da_cons dk_D0 (da_cons (de_tp da_nil) da_nil))))))))) da_nil))))) dss_nil)
    (dss_cons (ds_asg [0, 2] 4 sc__law_bent.nd rfl (Or.inl rfl) (dc_own (d__law_below T sy) (A.room.mono (by decide)) A.guard A.tk rfl (da_cons (de_var 0) (da_cons (dc_len T.n_len rfl (da_cons (de_var 2) da_nil)) da_nil))))
    (dss_cons (ds_if [3] (dt_lt A.room (de_var 3) dk_I) (dss_one (ds_ret [0, 1, 2, 4] (de_add (de_add (de_sl (de_var 2) do_none (do_some (de_var 4))) (de_ls (da_cons (dc_own (d__law_bent_row T sy) (A.room.mono (by decide)) A.guard A.tk rfl (da_cons (de_var 0) (da_cons (de_var 1) (da_cons (de_ix (de_var 2) (de_var 4)) da_nil)))) da_nil))) (de_sl (de_var 2) (do_some (de_add (de_var 4) dk_I)) do_none)))) dss_nil)
    (dss_one (ds_ret [0, 2, 4] (dc_own (d__law_pick T sy) (A.room.mono (by decide)) A.guard A.tk rfl (da_cons (de_var 0) (da_cons (de_ls (da_cons (de_var 2) (da_cons (de_add (de_sl (de_var 2) do_none (do_some (de_var 4))) (de_sl (de_var 2) (do_some (de_add (de_var 4) dk_I)) do_none)) (da_cons (de_add (de_sl (de_var 2) (do_some (de_var 4)) do_none) (de_sl (de_var 2) do_none (do_some (de_var 4)))) (da_cons (de_add (de_var 2) (de_sl (de_var 2) (do_some (de_var 4)) do_none)) (da_cons (de_var 2) da_nil)))))) da_nil)))))))))
theorem d_need_party (T : Txt K mg) (sy : SysIn base) : Den P w K mg base 7 "need_party" 1 g_need_party :=
  has_den (N := ["party"]) (ps := ["party"]) sy T.f_need_party sc_need_party fun f cd A0 ou s H E c A =>
    (dss_one (ds_if [0] (dt_not (dt_val (dc_own (d_is_party T sy) (A.room.mono (by decide)) A.guard A.tk rfl (da_cons (de_var 0) da_nil)))) (dss_one ds_never) dss_nil))
theorem d_bars_it (T : Txt K mg) (sy : SysIn base) : Den P w K mg base 8 "bars_it" 2 g_bars_it :=
  has_den (N := ["party", "thing"]) (ps := ["party", "thing"]) sy T.f_bars_it sc_bars_it fun f cd A0 ou s H E c A =>
    (dss_cons (ds_exp [0] (dc_own (d_need_party T sy) (A.room.mono (by decide)) A.guard A.tk rfl (da_cons (de_var 0) da_nil)))
    (dss_one (ds_ret [0, 1] (de_and (dc_own (d_is_bar_of T sy) (A.room.mono (by decide)) A.guard A.tk rfl (da_cons (de_var 0) (da_cons (de_var 1) da_nil))) (de_and1 (de_lt A.room (dc_own (d_slack_of T sy) (A.room.mono (by decide)) A.guard A.tk rfl (da_cons (de_var 0) (da_cons (de_var 1) da_nil))) dk_I))))))
theorem d_shows_crossed (T : Txt K mg) (sy : SysIn base) : Den P w K mg base 9 "shows_crossed" 3 g_shows_crossed :=
  has_den (N := ["party", "parting", "thing"]) (ps := ["party", "parting", "thing"]) sy T.f_shows_crossed sc_shows_crossed fun f cd A0 ou s H E c A =>
    (dss_cons (ds_if [0, 2] (dt_val (dc_own (d_is_pair T sy) (A.room.mono (by decide)) A.guard A.tk rfl (da_cons (de_var 2) (da_cons (dc_len T.n_len rfl (da_cons (de_ix (de_var 0) dk_I) da_nil)) da_nil)))) (dss_one (ds_ret [0, 1, 2] (de_and (de_in A.room (de_var 2) (de_ix (de_var 0) dk_I)) (de_and1 (dc_own (d_crosses T sy) (A.room.mono (by decide)) A.guard A.tk rfl (da_cons (de_var 2) (da_cons (de_var 1) da_nil))))))) dss_nil)
    (dss_one (ds_ret [0, 1, 2] (dc_own (d_bars_it T sy) (A.room.mono (by decide)) A.guard A.tk rfl (da_cons (dc_own (d_cut_by T sy) (A.room.mono (by decide)) A.guard A.tk rfl (da_cons (de_var 0) (da_cons (de_var 1) da_nil))) (da_cons (de_var 2) da_nil))))))
theorem d_shows_one (T : Txt K mg) (sy : SysIn base) : Den P w K mg base 10 "shows_one" 2 g_shows_one :=
  has_den (N := ["party", "thing", "order", "parting", "told"]) (ps := ["party", "thing"]) sy T.f_shows_one sc_shows_one fun f cd A0 ou s H E c A =>
    (dss_cons (ds_exp [0] (dc_own (d_need_party T sy) (A.room.mono (by decide)) A.guard A.tk rfl (da_cons (de_var 0) da_nil)))
    (dss_cons (ds_asg [0] 2 sc_shows_one.nd rfl (Or.inl rfl) (dc_own (d_all_partings T sy) (A.room.mono (by decide)) A.guard A.tk rfl (da_cons (dc_len T.n_len rfl (da_cons (de_ix (de_var 0) dk_I) da_nil)) da_nil)))
    (dss_cons (ds_if [1, 2] (dt_w (dw_or (dt_not (dt_val (dc_isi "list" T.n_isinstance rfl (da_cons (de_var 1) (da_cons (dk_T rfl T.n_list boot_list) da_nil))))) (dw_or1 (dt_ne A.room (dc_len T.n_len rfl (da_cons (de_var 1) da_nil)) (dc_len T.n_len rfl (da_cons (de_var 2) da_nil)))))) (dss_one (ds_ret [] dk_B)) dss_nil)
    (dss_cons (ds_for [1, 2] A.own rfl (di_zip rfl T.n_zip (de_var 2) (de_var 1)) (dg_tup rfl (.cons (pg_name (i := 3) sc_shows_one.nd rfl (Or.inl rfl)) (.cons (pg_name (i := 4) sc_shows_one.nd rfl (Or.inl rfl)) DGN.nil)) (pgs_cons (pg_name (i := 3) sc_shows_one.nd rfl (Or.inl rfl)) (pgs_cons (pg_name (i := 4) sc_shows_one.nd rfl (Or.inl rfl)) pgs_nil))) (dss_cons (ds_if [0, 3, 4] (dt_w (dw_or (dt_not (dt_val (dc_isi "tuple" T.n_isinstance rfl (da_cons (de_var 4) (da_cons (dk_T rfl T.n_tuple boot_tuple) da_nil))))) (dw_or (dt_ne A.room (dc_len T.n_len rfl (da_cons (de_var 4) da_nil)) dk_I) (dw_or (dt_not (dt_val (dc_own (d_is_parting T sy) (A.room.mono (by decide)) A.guard A.tk rfl (da_cons (de_var 0) (da_cons (de_ix (de_var 4) dk_I) da_nil))))) (dw_or1 (dt_ne A.room (de_ix (de_var 4) dk_I) (de_var 3))))))) (dss_one (ds_ret [] dk_B)) dss_nil)
    (dss_one (ds_if [0, 3, 4] (dt_not (dt_val (dc_own (d_shows_crossed T sy) (A.room.mono (by decide)) A.guard A.tk rfl (da_cons (de_var 0) (da_cons (de_var 3) (da_cons (de_ix (de_var 4) dk_I) da_nil)))))) (dss_one (ds_ret [] dk_B)) dss_nil))))
    (dss_one (ds_ret [] dk_B))))))
theorem d__law_wide (T : Txt K mg) (sy : SysIn base) : Den P w K mg base 11 "_law_wide" 1 g__law_wide :=
  has_den (N := ["deck", "many", "party", "grid", "parting", "at", "thing"]) (ps := ["deck"]) sy T.f__law_wide sc__law_wide fun f cd A0 ou s H E c A =>
    (dss_cons (ds_asg [0] 1 sc__law_wide.nd rfl (Or.inl rfl) (de_add dk_I (dc_own (d__law_below T sy) (A.room.mono (by decide)) A.guard A.tk rfl (da_cons (de_var 0) (da_cons dk_I da_nil)))))
    (dss_cons (ds_asg [1] 2 sc__law_wide.nd rfl (Or.inl rfl) (de_tp (da_cons (de_mul (de_tp (da_cons (de_sub (de_var 1) dk_I) da_nil)) (de_var 1)) (da_cons (de_tp da_nil) (da_cons (de_tp da_nil) da_nil)))))
    (dss_cons (ds_asgLc (own := [("parting", 4)]) [1, 4] 3 rfl sc__law_wide.nd rfl rfl (sw_true rfl rfl rfl (by decide +kernel)) (by exact blkOk_by (N := ["deck", "many", "party", "grid", "parting", "at", "thing"]) (sc := defScope (top 68)) (own := [("parting", 4)]) (by decide +kernel)) (di_seq (dc_own (d__law_partings T sy) (A.room.mono (by decide)) A.guard A.tk rfl (da_cons (de_var 1) da_nil))) (fun _ _ _ _ _ => (dg_name 4 sc__law_wide.nd rfl (Or.inl rfl))) (fun _ _ _ _ _ => dts_nil) (fun _ _ _ _ _ => (de_tp (da_cons (de_var 4) (da_cons (de_tp (da_cons (de_tp da_nil) (da_cons (de_tp (da_cons dk_I da_nil)) da_nil))) da_nil)))))
    (dss_cons (ds_if [2, 3] (dt_isnotB (dc_own (d_shows_one T sy) (A.room.mono (by decide)) A.guard A.tk rfl (da_cons (de_var 2) (da_cons (dc_list T.n_list rfl (da_cons (de_var 3) da_nil)) da_nil))) dk_B) (dss_one (ds_ret [] dk_B)) dss_nil)
    (dss_cons (ds_asg [0, 3] 5 sc__law_wide.nd rfl (Or.inl rfl) (dc_own (d__law_below T sy) (A.room.mono (by decide)) A.guard A.tk rfl (da_cons (de_var 0) (da_cons (dc_len T.n_len rfl (da_cons (de_var 3) da_nil)) da_nil))))
    (dss_cons (ds_asg [0, 2, 3, 5] 6 sc__law_wide.nd rfl (Or.inl rfl) (de_add (de_add (de_sl (de_var 3) do_none (do_some (de_var 5))) (de_ls (da_cons (dc_own (d__law_bent_row T sy) (A.room.mono (by decide)) A.guard A.tk rfl (da_cons (de_var 0) (da_cons (de_var 2) (da_cons (de_ix (de_var 3) (de_var 5)) da_nil)))) da_nil))) (de_sl (de_var 3) (do_some (de_add (de_var 5) dk_I)) do_none)))
    (dss_one (ds_ret [2, 6] (de_eq A.room (dc_repr A.room A.guard A.sys T.n_repr rfl (da_cons (dc_own (d_shows_one T sy) (A.room.mono (by decide)) A.guard A.tk rfl (da_cons (de_var 2) (da_cons (de_var 6) da_nil))) da_nil)) (dc_repr A.room A.guard A.sys T.n_repr rfl (da_cons (dc_own (d__law_is_paper T sy) (A.room.mono (by decide)) A.guard A.tk rfl (da_cons (de_var 2) (da_cons (de_var 6) da_nil))) da_nil)))))))))))
theorem pot_made (T : Txt K mg) (sy : SysIn base) (hpot : PotOk b__law_deck_of) :
    ∃ f fd, mg "_law_deck_of" = some (.ref f) ∧ PySem.W.keepIn K (.ref f) = true ∧ L2.Binds K fd ["script"] [] ∧ FnG P w K mg base 2 f fd ["script"] (spPot K) := by
  obtain ⟨f, fd, hm, Fx, hb⟩ := T.f__law_deck_of
  refine ⟨f, fd, hm, Fx.kp, hb, fnG_of (N := ["script", "cells", "cell", "place"]) Fx sc__law_deck_of (fun vs H Q E z => by obtain ⟨a, ns, rfl, _⟩ := z; rfl) fun cd A0 ou s H vs Q E room guard z => ?_⟩
  obtain ⟨raw, ns, rfl, hS, q⟩ := z
  have A : Ar (cxOf (L2.CX P w) P w K mg base ["script", "cells", "cell", "place"] "_law_deck_of" (defScope (top 41)) f cd A0 ou s H E) (fun cls d _ H => E cls d H) 1 := ⟨⟨room, guard, takes_of rfl rfl rfl rfl, passes_of rfl⟩, sy⟩
  exact ⟨_, (dss_cons (ds_asgLc (own := [("cell", 2)]) [0, 2] 1 rfl sc__law_deck_of.nd rfl rfl (sw_true rfl rfl rfl (by decide +kernel)) (by exact blkOk_by (N := ["script", "cells", "cell", "place"]) (sc := defScope (top 41)) (own := [("cell", 2)]) (by decide +kernel)) (di_seq (de_cutR (c := ⟨none, H, fun _ => none⟩) hS (fun _ _ e => nomatch e) (de_var 0) do_none (do_some dk_I))) (fun _ _ _ _ _ => (dg_name 2 sc__law_deck_of.nd rfl (Or.inl rfl))) (fun _ _ _ _ _ => dts_nil) (fun _ _ _ _ _ => (dc_abs T.n_abs rfl (da_cons (de_var 2) da_nil))))
    (dss_cons (ds_for [0] A.own rfl (di_enum rfl T.n_enumerate (de_cutR (c := ⟨none, H, fun _ => none⟩) hS (fun _ _ e => nomatch e) (de_var 0) (do_some dk_I) (do_some dk_I))) (dg_tup rfl (.cons (pg_name (i := 3) sc__law_deck_of.nd rfl (Or.inl rfl)) (.cons (pg_name (i := 2) sc__law_deck_of.nd rfl (Or.inl rfl)) DGN.nil)) (pgs_cons (pg_name (i := 3) sc__law_deck_of.nd rfl (Or.inl rfl)) (pgs_cons (pg_name (i := 2) sc__law_deck_of.nd rfl (Or.inl rfl)) pgs_nil))) (dss_one (ds_sto [1, 2, 3] [3] 1 (de_add (de_ix (de_var 1) (de_mod (de_var 3) dk_I)) (dc_abs T.n_abs rfl (da_cons (de_var 2) da_nil))) (de_mod (de_var 3) dk_I))))
    (dss_one (ds_ret [1] (de_ls (da_cons (de_var 1) (da_cons dk_I (da_cons dk_I (da_cons dk_I da_nil))))))))), pot_post (N := ["script", "cells", "cell", "place"]) (Wx := fun cls d _ H => E cls d H) q (by decide) (hpot.run raw ns)⟩
theorem law_made (T : Txt K mg) (sy : SysIn base) (hpot : PotOk b__law_deck_of)
    (hlaw : LawOk b_law 8) {f : Addr} {fd : FuncData} (Fx : L2.Fun K "law" "law" (top 69) f fd) : FnG P w K mg base 13 f fd ["script"] (spLaw K) := by
  obtain ⟨fp, fdp, hmp, hkp, hbp, Fp⟩ := pot_made (P := P) (w := w) T sy hpot
  refine fnG_of (N := ["script", "deck", "party", "grid", "lap", "thing", "before", "due"]) Fx sc_law (fun vs H Q E z => by obtain ⟨a, ns, rfl, _⟩ := z; rfl) fun cd A0 ou s H vs Q E room guard z => ?_
  have A : Ar (cxOf (L2.CX P w) P w K mg base ["script", "deck", "party", "grid", "lap", "thing", "before", "due"] "law" (defScope (top 69)) f cd A0 ou s H E) (fun cls d _ H => E cls d H) 12 := ⟨⟨room, guard, takes_of rfl rfl rfl rfl, passes_of rfl⟩, sy⟩
  exact ⟨_, pss_cons (ps_set (i := 1) sc_law.nd rfl (Or.inl rfl) (pe_callG Fp (room.mono (by decide)) guard rfl hmp hkp hbp (Wx := fun cls d _ H => E cls d H) (takes_of rfl rfl rfl rfl) (pa_cons (pe_var (i := 0) rfl (Or.inl rfl)) pa_nil)))
    (pss_ex fun c => (dss_cons (ds_asg [1] 2 sc_law.nd rfl (Or.inl rfl) (dc_own (d__law_any_party T sy) (A.room.mono (by decide)) A.guard A.tk rfl (da_cons (de_var 1) (da_cons dk_I da_nil))))
    (dss_cons (ds_asg [1, 2] 3 sc_law.nd rfl (Or.inl rfl) (dc_own (d__law_reasons T sy) (A.room.mono (by decide)) A.guard A.tk rfl (da_cons (de_var 1) (da_cons (de_var 2) da_nil))))
    (dss_cons (ds_if [2, 3] (dt_ne A.room (dc_repr A.room A.guard A.sys T.n_repr rfl (da_cons (dc_own (d_shows_one T sy) (A.room.mono (by decide)) A.guard A.tk rfl (da_cons (de_var 2) (da_cons (dc_list T.n_list rfl (da_cons (de_var 3) da_nil)) da_nil))) da_nil)) (dc_repr A.room A.guard A.sys T.n_repr rfl (da_cons (dc_own (d__law_is_paper T sy) (A.room.mono (by decide)) A.guard A.tk rfl (da_cons (de_var 2) (da_cons (de_var 3) da_nil))) da_nil))) (dss_one (ds_ret [] dk_B)) dss_nil)
    (dss_cons (ds_for [] A.own rfl (di_rng1 rfl T.n_range dk_I) (dg_name 4 sc_law.nd rfl (Or.inl rfl)) (dss_cons (ds_asg [1, 2, 3] 5 sc_law.nd rfl (Or.inl rfl) (dc_own (d__law_bent T sy) (A.room.mono (by decide)) A.guard A.tk rfl (da_cons (de_var 1) (da_cons (de_var 2) (da_cons (de_var 3) da_nil)))))
    (dss_cons (ds_par [2, 5] 6 7 rfl sc_law.nd rfl rfl (by decide) rfl rfl (dc_repr A.room A.guard A.sys T.n_repr rfl (da_cons (de_var 5) da_nil)) (dc_own (d__law_is_paper T sy) (A.room.mono (by decide)) A.guard A.tk rfl (da_cons (de_var 2) (da_cons (de_var 5) da_nil))) (by rfl))
    (dss_one (ds_if [2, 5, 6, 7] (dt_w (dw_or (dt_ne A.room (dc_repr A.room A.guard A.sys T.n_repr rfl (da_cons (dc_own (d_shows_one T sy) (A.room.mono (by decide)) A.guard A.tk rfl (da_cons (de_var 2) (da_cons (de_var 5) da_nil))) da_nil)) (dc_repr A.room A.guard A.sys T.n_repr rfl (da_cons (de_var 7) da_nil))) (dw_or1 (dt_ne A.room (dc_repr A.room A.guard A.sys T.n_repr rfl (da_cons (de_var 5) da_nil)) (de_var 6))))) (dss_one (ds_ret [] dk_B)) dss_nil)))))
    (dss_one (ds_ret [1] (dc_own (d__law_wide T sy) (A.room.mono (by decide)) A.guard A.tk rfl (da_cons (de_var 1) da_nil))))))))), law_post (g := b_law) (N := ["script", "deck", "party", "grid", "lap", "thing", "before", "due"]) (n := 8) rfl (by decide) z hlaw⟩
def fn : List He.DefD := [⟨("is_integer", none), "is_integer", "is_integer", defArgs (top 4), defBody (top 4), defScope (top 4), [], []⟩, ⟨("is_count", none), "is_count", "is_count", defArgs (top 5), defBody (top 5), defScope (top 5), [], []⟩, ⟨("is_rising", none), "is_rising", "is_rising", defArgs (top 6), defBody (top 6), defScope (top 6), [], []⟩, ⟨("is_pair", none), "is_pair", "is_pair", defArgs (top 10), defBody (top 10), defScope (top 10), [], []⟩, ⟨("are_pairs", none), "are_pairs", "are_pairs", defArgs (top 11), defBody (top 11), defScope (top 11), [], []⟩, ⟨("is_number", none), "is_number", "is_number", defArgs (top 12), defBody (top 12), defScope (top 12), [], []⟩, ⟨("is_party", none), "is_party", "is_party", defArgs (top 13), defBody (top 13), defScope (top 13), [], []⟩, ⟨("need_party", none), "need_party", "need_party", defArgs (top 14), defBody (top 14), defScope (top 14), [], []⟩, ⟨("all_pairs", none), "all_pairs", "all_pairs", defArgs (top 15), defBody (top 15), defScope (top 15), [], []⟩, ⟨("free_of", none), "free_of", "free_of", defArgs (top 16), defBody (top 16), defScope (top 16), [], []⟩, ⟨("known_met", none), "known_met", "known_met", defArgs (top 17), defBody (top 17), defScope (top 17), [], []⟩, ⟨("needs_of", none), "needs_of", "needs_of", defArgs (top 18), defBody (top 18), defScope (top 18), [], []⟩, ⟨("put_in", none), "put_in", "put_in", defArgs (top 19), defBody (top 19), defScope (top 19), [], []⟩, ⟨("with_facts", none), "with_facts", "with_facts", defArgs (top 21), defBody (top 21), defScope (top 21), [], []⟩, ⟨("is_side", none), "is_side", "is_side", defArgs (top 23), defBody (top 23), defScope (top 23), [], []⟩, ⟨("is_bar_of", none), "is_bar_of", "is_bar_of", defArgs (top 24), defBody (top 24), defScope (top 24), [], []⟩, ⟨("lots", none), "lots", "lots", defArgs (top 25), defBody (top 25), defScope (top 25), [], []⟩, ⟨("is_between", none), "is_between", "is_between", defArgs (top 26), defBody (top 26), defScope (top 26), [], []⟩, ⟨("inner_pairs", none), "inner_pairs", "inner_pairs", defArgs (top 27), defBody (top 27), defScope (top 27), [], []⟩, ⟨("odd_by", none), "odd_by", "odd_by", defArgs (top 28), defBody (top 28), defScope (top 28), [], []⟩, ⟨("slack_by", none), "slack_by", "slack_by", defArgs (top 29), defBody (top 29), defScope (top 29), [], []⟩, ⟨("slack_of", none), "slack_of", "slack_of", defArgs (top 30), defBody (top 30), defScope (top 30), [], []⟩, ⟨("bars_it", none), "bars_it", "bars_it", defArgs (top 31), defBody (top 31), defScope (top 31), [], []⟩, ⟨("all_partings", none), "all_partings", "all_partings", defArgs (top 33), defBody (top 33), defScope (top 33), [], []⟩, ⟨("is_parting", none), "is_parting", "is_parting", defArgs (top 34), defBody (top 34), defScope (top 34), [], []⟩, ⟨("crosses", none), "crosses", "crosses", defArgs (top 35), defBody (top 35), defScope (top 35), [], []⟩, ⟨("cut_by", none), "cut_by", "cut_by", defArgs (top 36), defBody (top 36), defScope (top 36), [], []⟩, ⟨("shows_crossed", none), "shows_crossed", "shows_crossed", defArgs (top 37), defBody (top 37), defScope (top 37), [], []⟩, ⟨("shows_one", none), "shows_one", "shows_one", defArgs (top 38), defBody (top 38), defScope (top 38), [], []⟩, ⟨("_law_mixed", none), "_law_mixed", "_law_mixed", defArgs (top 40), defBody (top 40), defScope (top 40), [], []⟩, ⟨("_law_deck_of", none), "_law_deck_of", "_law_deck_of", defArgs (top 41), defBody (top 41), defScope (top 41), [], []⟩, ⟨("_law_below", none), "_law_below", "_law_below", defArgs (top 42), defBody (top 42), defScope (top 42), [], []⟩, ⟨("_law_pick", none), "_law_pick", "_law_pick", defArgs (top 43), defBody (top 43), defScope (top 43), [], []⟩, ⟨("_law_all_pairs", none), "_law_all_pairs", "_law_all_pairs", defArgs (top 44), defBody (top 44), defScope (top 44), [], []⟩, ⟨("_law_count", none), "_law_count", "_law_count", defArgs (top 45), defBody (top 45), defScope (top 45), [], []⟩, ⟨("_law_right_party", none), "_law_right_party", "_law_right_party", defArgs (top 46), defBody (top 46), defScope (top 46), [], []⟩, ⟨("_law_any_party", none), "_law_any_party", "_law_any_party", defArgs (top 47), defBody (top 47), defScope (top 47), [], []⟩, ⟨("_law_free", none), "_law_free", "_law_free", defArgs (top 48), defBody (top 48), defScope (top 48), [], []⟩, ⟨("_law_pieces", none), "_law_pieces", "_law_pieces", defArgs (top 49), defBody (top 49), defScope (top 49), [], []⟩, ⟨("_law_slack", none), "_law_slack", "_law_slack", defArgs (top 50), defBody (top 50), defScope (top 50), [], []⟩, ⟨("_law_is_side", none), "_law_is_side", "_law_is_side", defArgs (top 51), defBody (top 51), defScope (top 51), [], []⟩, ⟨("_law_bars", none), "_law_bars", "_law_bars", defArgs (top 52), defBody (top 52), defScope (top 52), [], []⟩, ⟨("_law_is_pair", none), "_law_is_pair", "_law_is_pair", defArgs (top 53), defBody (top 53), defScope (top 53), [], []⟩, ⟨("_law_told", none), "_law_told", "_law_told", defArgs (top 54), defBody (top 54), defScope (top 54), [], []⟩, ⟨("_law_partings", none), "_law_partings", "_law_partings", defArgs (top 55), defBody (top 55), defScope (top 55), [], []⟩, ⟨("_law_crosses", none), "_law_crosses", "_law_crosses", defArgs (top 56), defBody (top 56), defScope (top 56), [], []⟩, ⟨("_law_cut", none), "_law_cut", "_law_cut", defArgs (top 57), defBody (top 57), defScope (top 57), [], []⟩, ⟨("_law_is_reason", none), "_law_is_reason", "_law_is_reason", defArgs (top 58), defBody (top 58), defScope (top 58), [], []⟩, ⟨("_law_all_bars", none), "_law_all_bars", "_law_all_bars", defArgs (top 59), defBody (top 59), defScope (top 59), [], []⟩, ⟨("_law_find", none), "_law_find", "_law_find", defArgs (top 60), defBody (top 60), defScope (top 60), [], []⟩, ⟨("_law_some_bar", none), "_law_some_bar", "_law_some_bar", defArgs (top 61), defBody (top 61), defScope (top 61), [], []⟩, ⟨("_law_bent_bar", none), "_law_bent_bar", "_law_bent_bar", defArgs (top 62), defBody (top 62), defScope (top 62), [], []⟩, ⟨("_law_meets", none), "_law_meets", "_law_meets", defArgs (top 63), defBody (top 63), defScope (top 63), [], []⟩, ⟨("_law_is_paper", none), "_law_is_paper", "_law_is_paper", defArgs (top 64), defBody (top 64), defScope (top 64), [], []⟩, ⟨("_law_reasons", none), "_law_reasons", "_law_reasons", defArgs (top 65), defBody (top 65), defScope (top 65), [], []⟩, ⟨("_law_bent_row", none), "_law_bent_row", "_law_bent_row", defArgs (top 66), defBody (top 66), defScope (top 66), [], []⟩, ⟨("_law_bent", none), "_law_bent", "_law_bent", defArgs (top 67), defBody (top 67), defScope (top 67), [], []⟩, ⟨("_law_wide", none), "_law_wide", "_law_wide", defArgs (top 68), defBody (top 68), defScope (top 68), [], []⟩, ⟨("law", none), "law", "law", defArgs (top 69), defBody (top 69), defScope (top 69), [], []⟩]
def fa : List He.Fa := [.glo "is_integer", .glo "is_count", .glo "is_rising", .glo "is_pair", .glo "are_pairs", .glo "is_number", .glo "is_party", .glo "need_party", .glo "all_pairs", .glo "free_of", .glo "known_met", .glo "needs_of", .glo "put_in", .glo "with_facts", .glo "is_side", .glo "is_bar_of", .glo "lots", .glo "is_between", .glo "inner_pairs", .glo "odd_by", .glo "slack_by", .glo "slack_of", .glo "bars_it", .glo "all_partings", .glo "is_parting", .glo "crosses", .glo "cut_by", .glo "shows_crossed", .glo "shows_one", .glo "_law_mixed", .glo "_law_deck_of", .glo "_law_below", .glo "_law_pick", .glo "_law_all_pairs", .glo "_law_count", .glo "_law_right_party", .glo "_law_any_party", .glo "_law_free", .glo "_law_pieces", .glo "_law_slack", .glo "_law_is_side", .glo "_law_bars", .glo "_law_is_pair", .glo "_law_told", .glo "_law_partings", .glo "_law_crosses", .glo "_law_cut", .glo "_law_is_reason", .glo "_law_all_bars", .glo "_law_find", .glo "_law_some_bar", .glo "_law_bent_bar", .glo "_law_meets", .glo "_law_is_paper", .glo "_law_reasons", .glo "_law_bent_row", .glo "_law_bent", .glo "_law_wide", .glo "law", .free "abs", .free "all", .free "any", .free "bool", .free "enumerate", .free "int", .free "isinstance", .free "len", .free "list", .free "range", .free "repr", .free "sorted", .free "sum", .free "tuple", .free "zip", .int "MAX_NUMBER" 20, .int "MAX_PERSONS" 8]
theorem txt_of {h : Heap} (X : K.In h) (G : h.Ns mainGlobals mg) (c : He.SaysD fa fn K) : Txt K mg :=
  ⟨(has_of X G c 0 0 rfl rfl fun _ _ _ _ _ _ us hl => match us, hl with | [_], _ => rfl),
   (has_of X G c 1 1 rfl rfl fun _ _ _ _ _ _ us hl => match us, hl with | [_], _ => rfl),
   (has_of X G c 2 2 rfl rfl fun _ _ _ _ _ _ us hl => match us, hl with | [_], _ => rfl),
   (has_of X G c 3 3 rfl rfl fun _ _ _ _ _ _ us hl => match us, hl with | [_, _], _ => rfl),
   (has_of X G c 4 4 rfl rfl fun _ _ _ _ _ _ us hl => match us, hl with | [_, _], _ => rfl),
   (has_of X G c 5 5 rfl rfl fun _ _ _ _ _ _ us hl => match us, hl with | [_], _ => rfl),
   (has_of X G c 6 6 rfl rfl fun _ _ _ _ _ _ us hl => match us, hl with | [_], _ => rfl),
   (has_of X G c 7 7 rfl rfl fun _ _ _ _ _ _ us hl => match us, hl with | [_], _ => rfl),
   (has_of X G c 8 8 rfl rfl fun _ _ _ _ _ _ us hl => match us, hl with | [_], _ => rfl),
   (has_of X G c 9 9 rfl rfl fun _ _ _ _ _ _ us hl => match us, hl with | [_], _ => rfl),
   (has_of X G c 10 10 rfl rfl fun _ _ _ _ _ _ us hl => match us, hl with | [_, _], _ => rfl),
   (has_of X G c 11 11 rfl rfl fun _ _ _ _ _ _ us hl => match us, hl with | [_], _ => rfl),
   (has_of X G c 12 12 rfl rfl fun _ _ _ _ _ _ us hl => match us, hl with | [_, _], _ => rfl),
   (has_of X G c 13 13 rfl rfl fun _ _ _ _ _ _ us hl => match us, hl with | [_, _, _], _ => rfl),
   (has_of X G c 14 14 rfl rfl fun _ _ _ _ _ _ us hl => match us, hl with | [_, _], _ => rfl),
   (has_of X G c 15 15 rfl rfl fun _ _ _ _ _ _ us hl => match us, hl with | [_, _], _ => rfl),
   (has_of X G c 16 16 rfl rfl fun _ _ _ _ _ _ us hl => match us, hl with | [_, _, _], _ => rfl),
   (has_of X G c 17 17 rfl rfl fun _ _ _ _ _ _ us hl => match us, hl with | [_, _, _], _ => rfl),
   (has_of X G c 18 18 rfl rfl fun _ _ _ _ _ _ us hl => match us, hl with | [_, _], _ => rfl),
   (has_of X G c 19 19 rfl rfl fun _ _ _ _ _ _ us hl => match us, hl with | [_, _, _], _ => rfl),
   (has_of X G c 20 20 rfl rfl fun _ _ _ _ _ _ us hl => match us, hl with | [_, _, _], _ => rfl),
   (has_of X G c 21 21 rfl rfl fun _ _ _ _ _ _ us hl => match us, hl with | [_, _], _ => rfl),
   (has_of X G c 22 22 rfl rfl fun _ _ _ _ _ _ us hl => match us, hl with | [_, _], _ => rfl),
   (has_of X G c 23 23 rfl rfl fun _ _ _ _ _ _ us hl => match us, hl with | [_], _ => rfl),
   (has_of X G c 24 24 rfl rfl fun _ _ _ _ _ _ us hl => match us, hl with | [_, _], _ => rfl),
   (has_of X G c 25 25 rfl rfl fun _ _ _ _ _ _ us hl => match us, hl with | [_, _], _ => rfl),
   (has_of X G c 26 26 rfl rfl fun _ _ _ _ _ _ us hl => match us, hl with | [_, _], _ => rfl),
   (has_of X G c 27 27 rfl rfl fun _ _ _ _ _ _ us hl => match us, hl with | [_, _, _], _ => rfl),
   (has_of X G c 28 28 rfl rfl fun _ _ _ _ _ _ us hl => match us, hl with | [_, _], _ => rfl),
   (has_of X G c 29 29 rfl rfl fun _ _ _ _ _ _ us hl => match us, hl with | [_, _], _ => rfl),
   (has_of X G c 30 30 rfl rfl fun _ _ _ _ _ _ us hl => match us, hl with | [_], _ => rfl),
   (has_of X G c 31 31 rfl rfl fun _ _ _ _ _ _ us hl => match us, hl with | [_, _], _ => rfl),
   (has_of X G c 32 32 rfl rfl fun _ _ _ _ _ _ us hl => match us, hl with | [_, _], _ => rfl),
   (has_of X G c 33 33 rfl rfl fun _ _ _ _ _ _ us hl => match us, hl with | [_], _ => rfl),
   (has_of X G c 34 34 rfl rfl fun _ _ _ _ _ _ us hl => match us, hl with | [_, _], _ => rfl),
   (has_of X G c 35 35 rfl rfl fun _ _ _ _ _ _ us hl => match us, hl with | [_, _], _ => rfl),
   (has_of X G c 36 36 rfl rfl fun _ _ _ _ _ _ us hl => match us, hl with | [_, _], _ => rfl),
   (has_of X G c 37 37 rfl rfl fun _ _ _ _ _ _ us hl => match us, hl with | [_], _ => rfl),
   (has_of X G c 38 38 rfl rfl fun _ _ _ _ _ _ us hl => match us, hl with | [_, _], _ => rfl),
   (has_of X G c 39 39 rfl rfl fun _ _ _ _ _ _ us hl => match us, hl with | [_, _], _ => rfl),
   (has_of X G c 40 40 rfl rfl fun _ _ _ _ _ _ us hl => match us, hl with | [_, _], _ => rfl),
   (has_of X G c 41 41 rfl rfl fun _ _ _ _ _ _ us hl => match us, hl with | [_, _], _ => rfl),
   (has_of X G c 42 42 rfl rfl fun _ _ _ _ _ _ us hl => match us, hl with | [_, _], _ => rfl),
   (has_of X G c 43 43 rfl rfl fun _ _ _ _ _ _ us hl => match us, hl with | [_, _, _], _ => rfl),
   (has_of X G c 44 44 rfl rfl fun _ _ _ _ _ _ us hl => match us, hl with | [_], _ => rfl),
   (has_of X G c 45 45 rfl rfl fun _ _ _ _ _ _ us hl => match us, hl with | [_, _], _ => rfl),
   (has_of X G c 46 46 rfl rfl fun _ _ _ _ _ _ us hl => match us, hl with | [_, _], _ => rfl),
   (has_of X G c 47 47 rfl rfl fun _ _ _ _ _ _ us hl => match us, hl with | [_, _, _], _ => rfl),
   (has_of X G c 48 48 rfl rfl fun _ _ _ _ _ _ us hl => match us, hl with | [_], _ => rfl),
   (has_of X G c 49 49 rfl rfl fun _ _ _ _ _ _ us hl => match us, hl with | [_], _ => rfl),
   (has_of X G c 50 50 rfl rfl fun _ _ _ _ _ _ us hl => match us, hl with | [_, _], _ => rfl),
   (has_of X G c 51 51 rfl rfl fun _ _ _ _ _ _ us hl => match us, hl with | [_, _, _], _ => rfl),
   (has_of X G c 52 52 rfl rfl fun _ _ _ _ _ _ us hl => match us, hl with | [_, _], _ => rfl),
   (has_of X G c 53 53 rfl rfl fun _ _ _ _ _ _ us hl => match us, hl with | [_, _], _ => rfl),
   (has_of X G c 54 54 rfl rfl fun _ _ _ _ _ _ us hl => match us, hl with | [_, _], _ => rfl),
   (has_of X G c 55 55 rfl rfl fun _ _ _ _ _ _ us hl => match us, hl with | [_, _, _], _ => rfl),
   (has_of X G c 56 56 rfl rfl fun _ _ _ _ _ _ us hl => match us, hl with | [_, _, _], _ => rfl),
   (has_of X G c 57 57 rfl rfl fun _ _ _ _ _ _ us hl => match us, hl with | [_], _ => rfl),
   (has_of X G c 58 58 rfl rfl fun _ _ _ _ _ _ us hl => match us, hl with | [_], _ => rfl),
   (He.free_ok X G (c.fact 59 (f := .free "abs") rfl)),
   (He.free_ok X G (c.fact 60 (f := .free "all") rfl)),
   (He.free_ok X G (c.fact 61 (f := .free "any") rfl)),
   (He.free_ok X G (c.fact 62 (f := .free "bool") rfl)),
   (He.free_ok X G (c.fact 63 (f := .free "enumerate") rfl)),
   (He.free_ok X G (c.fact 64 (f := .free "int") rfl)),
   (He.free_ok X G (c.fact 65 (f := .free "isinstance") rfl)),
   (He.free_ok X G (c.fact 66 (f := .free "len") rfl)),
   (He.free_ok X G (c.fact 67 (f := .free "list") rfl)),
   (He.free_ok X G (c.fact 68 (f := .free "range") rfl)),
   (He.free_ok X G (c.fact 69 (f := .free "repr") rfl)),
   (He.free_ok X G (c.fact 70 (f := .free "sorted") rfl)),
   (He.free_ok X G (c.fact 71 (f := .free "sum") rfl)),
   (He.free_ok X G (c.fact 72 (f := .free "tuple") rfl)),
   (He.free_ok X G (c.fact 73 (f := .free "zip") rfl)),
   (He.int_ok X G (c.fact 74 (f := .int "MAX_NUMBER" 20) rfl)),
   (He.int_ok X G (c.fact 75 (f := .int "MAX_PERSONS" 8) rfl))⟩
end
end Lw

local macro_rules | `(tactic| simp_arith [$a,*]) => `(tactic| simp only [$a,*, DL.sel_true, DL.sel_false, DL.sel_self, DL.okb, DL.excb, DL.badb, DL.pickb, DL.okp, DL.pickp, DL.ddat, DL.down, DL.sdat, DL.sown, DL.sraw, DL.spot, DL.gdat, DL.gown, DL.graw, DL.gpot, DL.asBb, DL.asIi, DL.kBok, DL.noxok, DL.datas0, DL.frz1_own, DL.frz1_dat, DL.frz1_raw, DL.frz1_pot, DL.frz1_none, DL.frz1_nil, DL.frz1_succ, DL.frz_nil, DL.frz_cons, DL.rdv_dat, DL.rdv_raw, DL.rdv_pot, DL.rdv_succ, DL.rtnV_zero, DL.rtnV_succ, DL.ownAt_zero, DL.ownAt_succ, DL.startE_eq, DL.seq_e, DL.seqK_nx, DL.seqK_ret, DL.seqK_brk, DL.seqK_cont, DL.asg_e, DL.asgK_e, DL.rtn_e, DL.rtnK_e, DL.rtnN_e, DL.exs_e, DL.exsK_e, DL.ifs_e, DL.ifsK_true, DL.ifsK_false, DL.skip_e, DL.brkS_e, DL.contS_e, DL.badS_e, DL.body_e, DL.fin_ret, DL.fin_nx, DL.app1_e, DL.app1K_e, DL.app_e, DL.appO_e, DL.appW_e, DL.appD_e, DL.asg2_e, DL.asg2K_e, DL.asg2L_e, DL.unp_e, DL.unpW_e, DL.unpD_e, DL.goOn_some, DL.goOn_none, DL.bT_e, DL.setL_cons, DL.setL_nil, DL.bN_e, DL.sto1_e, DL.sto_e, DL.stoW_e, DL.stoD_e, DL.sto2_e, DL.sto2K_e, DL.sto2W_e, DL.sto2I_e, DL.sto1K_e, DL.atK_e, DL.ali_e, DL.aliK_true, DL.aliK_false, DL.ali1_e, DL.ali1B_e, DL.ali1O_e, DL.ali1W_e, DL.ali1D_e, DL.forS_e, DL.forK_e, DL.loopB_some, DL.loopK_nx, DL.loopK_cont, DL.loopK_brk, DL.loopK_ret, DL.bin2_e, DL.binK_e, DL.binL_e, DL.un1_e, DL.unK_e, DL.tst_e, DL.tand_e, DL.tandK_true, DL.tandK_false, DL.tor_e, DL.torK_true, DL.torK_false, DL.tnot_e, DL.notK_e, DL.vand_e, DL.vandK_e, DL.vandL_true, DL.vandL_false, DL.vor_e, DL.vorK_e, DL.vorL_true, DL.vorL_false, DL.vnot_e, DL.vnotK_e, DL.vnotL_e, DL.vif_e, DL.vifK_true, DL.vifK_false, DL.anil_e, DL.acons_e, DL.aconsK_e, DL.aconsL_e, DL.call_e, DL.ccall_e, DL.ccallK1, DL.ccallK2, DL.ccallK3, DL.ccallK4, DL.sub_e, DL.subK_e, DL.subH_e, DL.cutK_e, DL.cutL_e, DL.oN_e, DL.oS_e, DL.oSK_e, DL.oI_e, DL.rev_e, DL.revK_e, DL.tup_e, DL.lst_e, DL.mkTup_e, DL.mkLst_e, DL.tupD_e, DL.lstD_e, DL.datas_e, DL.datasK_e, DL.kN_e, DL.kB_e, DL.kI_e, DL.kS_e, DL.kT_e, DL.kD0_e, DL.chainI_e, DL.chA_e, DL.chB_e, DL.chI_e, DL.chJ_e, DL.chG_true, DL.chG_false, DL.chY_e, DL.chC_e, DL.sSeq_e, DL.seqSrc_e, DL.asItems_list, DL.asItems_tuple, DL.sRng1_e, DL.rngW_e, DL.sRng2_e, DL.rngK_e, DL.rngWW_e, DL.rngWI_e, DL.rngJ_e, DL.sZip_e, DL.zipK_e, DL.zipW_e, DL.zipA_e, DL.zipD_list, DL.zipD_tuple, DL.sEnum_e, DL.enumW_e, DL.enumV_e, DL.asList_e, DL.enumL_e, DL.ownR_e, DL.lc_e, DL.tYes_e, List.map_cons, List.map_nil, List.nil_append, List.cons_append, List.length_cons, List.length_nil, List.set_cons_zero, List.set_cons_succ, ite_self, reduceIte, DL.noL_none, DL.noL_bool, DL.noL_int, DL.noL_str, DL.noL_list, DL.noL_tuple, DL.noLs_nil, DL.noLs_cons, Bool.true_and, Bool.false_and, Bool.and_true, Bool.and_self, Bool.false_eq_true, Bool.not_true, Bool.not_false, List.replicate_succ, List.replicate_zero, DL.opEq_e, DL.flip_e, DL.opNe_e, DL.opIn_e, DL.opNotIn_e, DL.opLt_e, DL.opAdd_e, DL.opMul_e, DL.opIx_e, DL.opIsN_e, DL.opNotN_e, DL.opNeg_e, DL.opLe_e, DL.opGt_e, DL.opGe_e, DL.opSub_e, DL.vLt_int, DL.vEq_int, DL.vAdd_int, DL.vAdd_list, DL.vAdd_tuple, DL.vLen_tuple, DL.vLen_list, DL.vInt_int, DL.vTuple_list, DL.vTuple_tuple, DL.vList_list, DL.vList_tuple, DL.vRev_list, DL.vRev_tuple, DL.vCut_list, DL.vCut_tuple, DL.f1_e, DL.f2_e, DL.isNon_none, DL.isNon_int, DL.isi_int, DL.isi_bool, DL.isi_tuple, DL.isi_list, DL.isi_str, DL.isi_dict, DL.astar_e, DL.starU_e, DL.starW_list, DL.starW_tuple, DL.starL_e, DL.starK_e, DL.sEnumT_e, DL.enumW2_e, DL.enumV2_list, DL.enumV2_tuple, DL.rdI_zero, DL.rdI_succ, DL.augI_e, DL.augIK_e, DL.augIW_e, DL.augIB_e, DL.augS_e, DL.augSK_e, DL.augSU_e, DL.augSJ_e, DL.augSA_e, DL.augSW_e, DL.augSB_e, DL.appC_e, DL.appCW_own, DL.appCV_e, DL.lstR_e, DL.lstRw_e, DL.lstRk_e, DL.parS_e, DL.parSK_e, DL.parSW_e, DL.parSD_e, DL.parS2_e, DL.opIsB_e, DL.opNotB_e, DL.seq2_e, DL.skip2_e, DL.ifs2_e, DL.ifs2K_true, DL.ifs2K_false, DL.app2_e, DL.app2O_e, DL.app2W_e, DL.app2D_e, DL.app2L_e, DL.dapp_e, DL.dappU_e, DL.dappJ0, DL.dappJ1, DL.dappW_e, DL.dappD_e, DL.dappL0, DL.dappL1, DL.for2_e, DL.for2K_e, DL.duoS_e, DL.duoU_e, DL.duoD_e, DL.duoW_e, DL.duoE_e, DL.ext_e, DL.extO_e, DL.extW_e, DL.ext1_e, DL.clr_e, DL.clr1_e, DL.unl_e, DL.unlW_e, DL.unlD_e, DL.asg3_e, DL.asg3K_e, DL.asg3L_e, DL.asg3F_e])
local macro_rules | `(tactic| simp_arith only [$a,*]) => `(tactic| simp (maxSteps := 3000000) (disch := (try simp only [List.length_append, List.length_take, List.length_drop, List.length_reverse, List.length_map, List.length_cons, List.length_nil]); omega) only [$a,*, DL.sel_true, DL.sel_false, DL.sel_self, DL.okb, DL.excb, DL.badb, DL.pickb, DL.okp, DL.pickp, DL.ddat, DL.down, DL.sdat, DL.sown, DL.sraw, DL.spot, DL.gdat, DL.gown, DL.graw, DL.gpot, DL.asBb, DL.asIi, DL.kBok, DL.noxok, DL.datas0, DL.frz1_own, DL.frz1_dat, DL.frz1_raw, DL.frz1_pot, DL.frz1_none, DL.frz1_nil, DL.frz1_succ, DL.frz_nil, DL.frz_cons, DL.rdv_dat, DL.rdv_raw, DL.rdv_pot, DL.rdv_succ, DL.rtnV_zero, DL.rtnV_succ, DL.ownAt_zero, DL.ownAt_succ, DL.startE_eq, DL.seq_e, DL.seqK_nx, DL.seqK_ret, DL.seqK_brk, DL.seqK_cont, DL.asg_e, DL.asgK_e, DL.rtn_e, DL.rtnK_e, DL.rtnN_e, DL.exs_e, DL.exsK_e, DL.ifs_e, DL.ifsK_true, DL.ifsK_false, DL.skip_e, DL.brkS_e, DL.contS_e, DL.badS_e, DL.body_e, DL.fin_ret, DL.fin_nx, DL.app1_e, DL.app1K_e, DL.app_e, DL.appO_e, DL.appW_e, DL.appD_e, DL.asg2_e, DL.asg2K_e, DL.asg2L_e, DL.unp_e, DL.unpW_e, DL.unpD_e, DL.goOn_some, DL.goOn_none, DL.bT_e, DL.setL_cons, DL.setL_nil, DL.bN_e, DL.sto1_e, DL.sto_e, DL.stoW_e, DL.stoD_e, DL.sto2_e, DL.sto2K_e, DL.sto2W_e, DL.sto2I_e, DL.sto1K_e, DL.atK_e, DL.ali_e, DL.aliK_true, DL.aliK_false, DL.ali1_e, DL.ali1B_e, DL.ali1O_e, DL.ali1W_e, DL.ali1D_e, DL.forS_e, DL.forK_e, DL.loopB_some, DL.loopK_nx, DL.loopK_cont, DL.loopK_brk, DL.loopK_ret, DL.bin2_e, DL.binK_e, DL.binL_e, DL.un1_e, DL.unK_e, DL.tst_e, DL.tand_e, DL.tandK_true, DL.tandK_false, DL.tor_e, DL.torK_true, DL.torK_false, DL.tnot_e, DL.notK_e, DL.vand_e, DL.vandK_e, DL.vandL_true, DL.vandL_false, DL.vor_e, DL.vorK_e, DL.vorL_true, DL.vorL_false, DL.vnot_e, DL.vnotK_e, DL.vnotL_e, DL.vif_e, DL.vifK_true, DL.vifK_false, DL.anil_e, DL.acons_e, DL.aconsK_e, DL.aconsL_e, DL.call_e, DL.ccall_e, DL.ccallK1, DL.ccallK2, DL.ccallK3, DL.ccallK4, DL.sub_e, DL.subK_e, DL.subH_e, DL.cutK_e, DL.cutL_e, DL.oN_e, DL.oS_e, DL.oSK_e, DL.oI_e, DL.rev_e, DL.revK_e, DL.tup_e, DL.lst_e, DL.mkTup_e, DL.mkLst_e, DL.tupD_e, DL.lstD_e, DL.datas_e, DL.datasK_e, DL.kN_e, DL.kB_e, DL.kI_e, DL.kS_e, DL.kT_e, DL.kD0_e, DL.chainI_e, DL.chA_e, DL.chB_e, DL.chI_e, DL.chJ_e, DL.chG_true, DL.chG_false, DL.chY_e, DL.chC_e, DL.sSeq_e, DL.seqSrc_e, DL.asItems_list, DL.asItems_tuple, DL.sRng1_e, DL.rngW_e, DL.sRng2_e, DL.rngK_e, DL.rngWW_e, DL.rngWI_e, DL.rngJ_e, DL.sZip_e, DL.zipK_e, DL.zipW_e, DL.zipA_e, DL.zipD_list, DL.zipD_tuple, DL.sEnum_e, DL.enumW_e, DL.enumV_e, DL.asList_e, DL.enumL_e, DL.ownR_e, DL.lc_e, DL.tYes_e, List.map_cons, List.map_nil, List.nil_append, List.cons_append, List.length_cons, List.length_nil, List.set_cons_zero, List.set_cons_succ, ite_self, reduceIte, DL.noL_none, DL.noL_bool, DL.noL_int, DL.noL_str, DL.noL_list, DL.noL_tuple, DL.noLs_nil, DL.noLs_cons, Bool.true_and, Bool.false_and, Bool.and_true, Bool.and_self, Bool.false_eq_true, Bool.not_true, Bool.not_false, List.replicate_succ, List.replicate_zero, DL.opEq_e, DL.flip_e, DL.opNe_e, DL.opIn_e, DL.opNotIn_e, DL.opLt_e, DL.opAdd_e, DL.opMul_e, DL.opIx_e, DL.opIsN_e, DL.opNotN_e, DL.opNeg_e, DL.opLe_e, DL.opGt_e, DL.opGe_e, DL.opSub_e, DL.vLt_int, DL.vEq_int, DL.vAdd_int, DL.vAdd_list, DL.vAdd_tuple, DL.vLen_tuple, DL.vLen_list, DL.vInt_int, DL.vTuple_list, DL.vTuple_tuple, DL.vList_list, DL.vList_tuple, DL.vRev_list, DL.vRev_tuple, DL.vCut_list, DL.vCut_tuple, DL.f1_e, DL.f2_e, DL.isNon_none, DL.isNon_int, DL.isi_int, DL.isi_bool, DL.isi_tuple, DL.isi_list, DL.isi_str, DL.isi_dict, DL.astar_e, DL.starU_e, DL.starW_list, DL.starW_tuple, DL.starL_e, DL.starK_e, DL.sEnumT_e, DL.enumW2_e, DL.enumV2_list, DL.enumV2_tuple, DL.rdI_zero, DL.rdI_succ, DL.augI_e, DL.augIK_e, DL.augIW_e, DL.augIB_e, DL.augS_e, DL.augSK_e, DL.augSU_e, DL.augSJ_e, DL.augSA_e, DL.augSW_e, DL.augSB_e, DL.appC_e, DL.appCW_own, DL.appCV_e, DL.lstR_e, DL.lstRw_e, DL.lstRk_e, DL.parS_e, DL.parSK_e, DL.parSW_e, DL.parSD_e, DL.parS2_e, DL.opIsB_e, DL.opNotB_e, DL.seq2_e, DL.skip2_e, DL.ifs2_e, DL.ifs2K_true, DL.ifs2K_false, DL.app2_e, DL.app2O_e, DL.app2W_e, DL.app2D_e, DL.app2L_e, DL.dapp_e, DL.dappU_e, DL.dappJ0, DL.dappJ1, DL.dappW_e, DL.dappD_e, DL.dappL0, DL.dappL1, DL.for2_e, DL.for2K_e, DL.duoS_e, DL.duoU_e, DL.duoD_e, DL.duoW_e, DL.duoE_e, DL.ext_e, DL.extO_e, DL.extW_e, DL.ext1_e, DL.clr_e, DL.clr1_e, DL.unl_e, DL.unlW_e, DL.unlD_e, DL.asg3_e, DL.asg3K_e, DL.asg3L_e, DL.asg3F_e])
local macro_rules | `(tactic| simp_arith! [$a,*]) => `(tactic| simp only [$a,*, DL.rngI_e, DL.sel_true, DL.sel_false, DL.sel_self, DL.okb, DL.excb, DL.badb, DL.pickb, DL.okp, DL.pickp, DL.ddat, DL.down, DL.sdat, DL.sown, DL.sraw, DL.spot, DL.gdat, DL.gown, DL.graw, DL.gpot, DL.asBb, DL.asIi, DL.kBok, DL.noxok, DL.datas0, DL.frz1_own, DL.frz1_dat, DL.frz1_raw, DL.frz1_pot, DL.frz1_none, DL.frz1_nil, DL.frz1_succ, DL.frz_nil, DL.frz_cons, DL.rdv_dat, DL.rdv_raw, DL.rdv_pot, DL.rdv_succ, DL.rtnV_zero, DL.rtnV_succ, DL.ownAt_zero, DL.ownAt_succ, DL.startE_eq, DL.seq_e, DL.seqK_nx, DL.seqK_ret, DL.seqK_brk, DL.seqK_cont, DL.asg_e, DL.asgK_e, DL.rtn_e, DL.rtnK_e, DL.rtnN_e, DL.exs_e, DL.exsK_e, DL.ifs_e, DL.ifsK_true, DL.ifsK_false, DL.skip_e, DL.brkS_e, DL.contS_e, DL.badS_e, DL.body_e, DL.fin_ret, DL.fin_nx, DL.app1_e, DL.app1K_e, DL.app_e, DL.appO_e, DL.appW_e, DL.appD_e, DL.asg2_e, DL.asg2K_e, DL.asg2L_e, DL.unp_e, DL.unpW_e, DL.unpD_e, DL.goOn_some, DL.goOn_none, DL.bT_e, DL.setL_cons, DL.setL_nil, DL.bN_e, DL.sto1_e, DL.sto_e, DL.stoW_e, DL.stoD_e, DL.sto2_e, DL.sto2K_e, DL.sto2W_e, DL.sto2I_e, DL.sto1K_e, DL.atK_e, DL.ali_e, DL.aliK_true, DL.aliK_false, DL.ali1_e, DL.ali1B_e, DL.ali1O_e, DL.ali1W_e, DL.ali1D_e, DL.forS_e, DL.forK_e, DL.loopB_some, DL.loopK_nx, DL.loopK_cont, DL.loopK_brk, DL.loopK_ret, DL.bin2_e, DL.binK_e, DL.binL_e, DL.un1_e, DL.unK_e, DL.tst_e, DL.tand_e, DL.tandK_true, DL.tandK_false, DL.tor_e, DL.torK_true, DL.torK_false, DL.tnot_e, DL.notK_e, DL.vand_e, DL.vandK_e, DL.vandL_true, DL.vandL_false, DL.vor_e, DL.vorK_e, DL.vorL_true, DL.vorL_false, DL.vnot_e, DL.vnotK_e, DL.vnotL_e, DL.vif_e, DL.vifK_true, DL.vifK_false, DL.anil_e, DL.acons_e, DL.aconsK_e, DL.aconsL_e, DL.call_e, DL.ccall_e, DL.ccallK1, DL.ccallK2, DL.ccallK3, DL.ccallK4, DL.sub_e, DL.subK_e, DL.subH_e, DL.cutK_e, DL.cutL_e, DL.oN_e, DL.oS_e, DL.oSK_e, DL.oI_e, DL.rev_e, DL.revK_e, DL.tup_e, DL.lst_e, DL.mkTup_e, DL.mkLst_e, DL.tupD_e, DL.lstD_e, DL.datas_e, DL.datasK_e, DL.kN_e, DL.kB_e, DL.kI_e, DL.kS_e, DL.kT_e, DL.kD0_e, DL.chainI_e, DL.chA_e, DL.chB_e, DL.chI_e, DL.chJ_e, DL.chG_true, DL.chG_false, DL.chY_e, DL.chC_e, DL.sSeq_e, DL.seqSrc_e, DL.asItems_list, DL.asItems_tuple, DL.sRng1_e, DL.rngW_e, DL.sRng2_e, DL.rngK_e, DL.rngWW_e, DL.rngWI_e, DL.rngJ_e, DL.sZip_e, DL.zipK_e, DL.zipW_e, DL.zipA_e, DL.zipD_list, DL.zipD_tuple, DL.sEnum_e, DL.enumW_e, DL.enumV_e, DL.asList_e, DL.enumL_e, DL.ownR_e, DL.lc_e, DL.tYes_e, List.map_cons, List.map_nil, List.nil_append, List.cons_append, List.length_cons, List.length_nil, List.set_cons_zero, List.set_cons_succ, ite_self, reduceIte, DL.noL_none, DL.noL_bool, DL.noL_int, DL.noL_str, DL.noL_list, DL.noL_tuple, DL.noLs_nil, DL.noLs_cons, Bool.true_and, Bool.false_and, Bool.and_true, Bool.and_self, Bool.false_eq_true, Bool.not_true, Bool.not_false, List.replicate_succ, List.replicate_zero, DL.opEq_e, DL.flip_e, DL.opNe_e, DL.opIn_e, DL.opNotIn_e, DL.opLt_e, DL.opAdd_e, DL.opMul_e, DL.opIx_e, DL.opIsN_e, DL.opNotN_e, DL.opNeg_e, DL.opLe_e, DL.opGt_e, DL.opGe_e, DL.opSub_e, DL.vLt_int, DL.vEq_int, DL.vAdd_int, DL.vAdd_list, DL.vAdd_tuple, DL.vLen_tuple, DL.vLen_list, DL.vInt_int, DL.vTuple_list, DL.vTuple_tuple, DL.vList_list, DL.vList_tuple, DL.vRev_list, DL.vRev_tuple, DL.vCut_list, DL.vCut_tuple, DL.f1_e, DL.f2_e, DL.isNon_none, DL.isNon_int, DL.isi_int, DL.isi_bool, DL.isi_tuple, DL.isi_list, DL.isi_str, DL.isi_dict, DL.astar_e, DL.starU_e, DL.starW_list, DL.starW_tuple, DL.starL_e, DL.starK_e, DL.sEnumT_e, DL.enumW2_e, DL.enumV2_list, DL.enumV2_tuple, DL.rdI_zero, DL.rdI_succ, DL.augI_e, DL.augIK_e, DL.augIW_e, DL.augIB_e, DL.augS_e, DL.augSK_e, DL.augSU_e, DL.augSJ_e, DL.augSA_e, DL.augSW_e, DL.augSB_e, DL.appC_e, DL.appCW_own, DL.appCV_e, DL.lstR_e, DL.lstRw_e, DL.lstRk_e, DL.parS_e, DL.parSK_e, DL.parSW_e, DL.parSD_e, DL.parS2_e, DL.opIsB_e, DL.opNotB_e, DL.seq2_e, DL.skip2_e, DL.ifs2_e, DL.ifs2K_true, DL.ifs2K_false, DL.app2_e, DL.app2O_e, DL.app2W_e, DL.app2D_e, DL.app2L_e, DL.dapp_e, DL.dappU_e, DL.dappJ0, DL.dappJ1, DL.dappW_e, DL.dappD_e, DL.dappL0, DL.dappL1, DL.for2_e, DL.for2K_e, DL.duoS_e, DL.duoU_e, DL.duoD_e, DL.duoW_e, DL.duoE_e, DL.ext_e, DL.extO_e, DL.extW_e, DL.ext1_e, DL.clr_e, DL.clr1_e, DL.unl_e, DL.unlW_e, DL.unlD_e, DL.asg3_e, DL.asg3K_e, DL.asg3L_e, DL.asg3F_e])
namespace Lw
open PySem (PyData Addr Str)
open DL
theorem r_is_integer (d : D) : g_is_integer [.dat d] = .ok (.dat (.bool (isInt d))) := by
  cases d <;> simp_arith! [g_is_integer, b_is_integer, isI, isB, isInt]
theorem r_is_count (d : D) : g_is_count [.dat d] = .ok (.dat (.bool (isCnt d))) := by
  cases d <;> simp_arith! [g_is_count, b_is_count, r_is_integer, isInt, isCnt]
theorem r_is_rising (d : D) (hd : (itm d).length ≤ 1000000) : g_is_rising [.dat d] = .ok (.dat (.bool (isRis d))) := by
  cases d with
  | tuple xs =>
    have hd : xs.length ≤ 1000000 := hd
    have c1 : ∀ ρ : En, ρ = [some (.dat (.tuple xs)), none, none] → lcK [1] (bN 1) tYes (ccall 1 g_is_count (acons (rdv 1) anil)) ρ xs = .ok (.own (xs.map fun d => .bool (isCnt d))) := by
      intro ρ e
      subst e
      refine lcK_map _ hd fun x hx => ⟨_, rfl, rfl, ?_⟩
      simp_arith! [wipeE, r_is_count]
    cases hc : xs.all isCnt with
    | false =>
      simp_arith! [g_is_rising, b_is_rising, isRis, isT, c1, all_bools, hc]
    | true =>
      have c2 : ∀ ρ : En, ρ = [some (.dat (.tuple xs)), none, none] → lcK [1, 2] (bT [1, 2]) tYes (bin2 opLt (rdv 1) (rdv 2)) ρ (List.zipWith pairD (cutD xs none (some (-1))) (cutD xs (some 1) none)) = .ok (.own ((List.zipWith pairD xs (xs.drop 1)).map fun d => .bool (ltD (fst' d) (snd' d)))) := by
        intro ρ e
        subst e
        rw [cutD_init, show ((1 : Int)) = ((1 : Nat) : Int) from rfl, cutD_from, zip_init]
        refine lcK_map _ (by rw [List.length_zipWith]; omega) fun z hz => ?_
        obtain ⟨x, y, hx, hy, rfl⟩ := zip_mem hz
        refine ⟨_, rfl, rfl, ?_⟩
        have hx2 := List.all_eq_true.mp hc x hx
        have hy2 := List.all_eq_true.mp hc y (List.mem_of_mem_drop hy)
        cases x <;> simp only [isCnt, Bool.false_eq_true] at hx2
        cases y <;> simp only [isCnt, Bool.false_eq_true] at hy2
        simp_arith! [wipeE, pairD, fst', snd', ltD]
      have c3 : vAll (.list ((List.zipWith pairD xs (xs.drop 1)).map fun d => .bool (ltD (fst' d) (snd' d)))) = .ok (.dat (.bool (adj xs))) := by
        rw [zip_adj, vAll_bools]
        rfl
      simp_arith! [g_is_rising, b_is_rising, isRis, isT, c1, all_bools, hc, c2, c3]
  | _ => simp_arith! [g_is_rising, b_is_rising, isT, isRis]
theorem r_is_pair (d : D) (m : Int) (hd : (itm d).length ≤ 1000000) : g_is_pair [.dat d, .dat (.int m)] = .ok (.dat (.bool (isPr m d))) := by
  have hr := r_is_rising d hd
  cases d with
  | tuple xs =>
    by_cases hl : xs.length = 2
    · obtain ⟨x, y, rfl⟩ := two_of hl
      have e2 : decide ((([x, y].length : Nat) : Int) = 2) = true := rfl
      have ix : vIx (.tuple [x, y]) (.int 1) = .ok (.dat y) := rfl
      rw [List.length_cons, List.length_cons, List.length_nil] at e2
      cases hi : isRis (.tuple [x, y]) with
      | true =>
        obtain ⟨i, j, rfl, rfl, h1, h2⟩ := isRis2.mp hi
        simp_arith! [g_is_pair, b_is_pair, isT, hr, hi, ix, e2]
        simp [isPr, h1, h2]
      | false =>
        have e3 : isPr m (.tuple [x, y]) = false := by
          cases e : isPr m (.tuple [x, y]) with
          | false => rfl
          | true =>
            obtain ⟨i, j, e2, h1, h2, _⟩ := isPr_iff.mp e
            cases e2
            rw [isRis2.mpr ⟨i, j, rfl, rfl, h1, h2⟩] at hi
            cases hi
        simp_arith! [g_is_pair, b_is_pair, isT, hr, hi, ix, e2, e3]
    · have e1 : decide ((xs.length : Int) = 2) = false := decide_eq_false (by omega)
      simp_arith! [g_is_pair, b_is_pair, isT, e1, isPr_len hl]
  | _ => simp_arith! [g_is_pair, b_is_pair, isT, isPr]
theorem r_are_pairs (d : D) (m : Int) (hd : (itm d).length ≤ 1000000) (h2 : ∀ x ∈ itm d, (itm x).length ≤ 1000000) : g_are_pairs [.dat d, .dat (.int m)] = .ok (.dat (.bool (isRow m d))) := by
  cases d with
  | tuple xs =>
    have hd : xs.length ≤ 1000000 := hd
    have c1 : ∀ ρ : En, ρ = [some (.dat (.tuple xs)), some (.dat (.int m)), none, none, none] → lcK [2] (bN 2) tYes (ccall 2 g_is_pair (acons (rdv 2) (acons (rdv 1) anil))) ρ xs = .ok (.own (xs.map fun d => .bool (isPr m d))) := by
      intro ρ e
      subst e
      refine lcK_map _ hd fun x hx => ⟨_, rfl, rfl, ?_⟩
      simp_arith! [wipeE, r_is_pair x m (h2 x hx)]
    cases hc : xs.all (isPr m) with
    | false =>
      simp_arith! [g_are_pairs, b_are_pairs, isRow, isT, c1, all_bools, hc]
    | true =>
      have c2 : ∀ ρ : En, ρ = [some (.dat (.tuple xs)), some (.dat (.int m)), none, none, none] → lcK [3, 4] (bT [3, 4]) tYes (bin2 opLt (rdv 3) (rdv 4)) ρ (List.zipWith pairD (cutD xs none (some (-1))) (cutD xs (some 1) none)) = .ok (.own ((List.zipWith pairD xs (xs.drop 1)).map fun d => .bool (ltD (fst' d) (snd' d)))) := by
        intro ρ e
        subst e
        rw [cutD_init, show ((1 : Int)) = ((1 : Nat) : Int) from rfl, cutD_from, zip_init]
        refine lcK_map _ (by rw [List.length_zipWith]; omega) fun z hz => ?_
        obtain ⟨x, y, hx, hy, rfl⟩ := zip_mem hz
        refine ⟨_, rfl, rfl, ?_⟩
        obtain ⟨i, j, rfl, _⟩ := isPr_iff.mp (List.all_eq_true.mp hc x hx)
        obtain ⟨k, l, rfl, _⟩ := isPr_iff.mp (List.all_eq_true.mp hc y (List.mem_of_mem_drop hy))
        simp_arith! [wipeE, pairD, fst', snd', vLt_ok vLt_pairs]
      have c3 : vAll (.list ((List.zipWith pairD xs (xs.drop 1)).map fun d => .bool (ltD (fst' d) (snd' d)))) = .ok (.dat (.bool (adj xs))) := by
        rw [zip_adj, vAll_bools]
        rfl
      simp_arith! [g_are_pairs, b_are_pairs, isRow, isT, c1, all_bools, hc, c2, c3]
  | _ => simp_arith! [g_are_pairs, b_are_pairs, isT, isRow]
theorem r_is_number (d : D) : g_is_number [.dat d] = .ok (.dat (.bool (isNm d))) := by
  cases d with
  | none => simp_arith! [g_is_number, b_is_number, r_is_count, isCnt, isNm, isNon]
  | int i =>
    cases h : decide (0 ≤ i) <;> simp_arith! [g_is_number, b_is_number, r_is_count, isCnt, isNm, isNon, h]
  | _ => simp_arith! [g_is_number, b_is_number, r_is_count, isCnt, isNm, isNon]
theorem r_is_party (d : D) (hz : Sz 3 d) : g_is_party [.dat d] = .ok (.dat (.bool (isPty d))) := by
  cases d with
  | tuple xs =>
    by_cases hl : xs.length = 3
    · obtain ⟨x, a, b, rfl⟩ := three_of hl
      have e2 : decide (((0 + 1 + 1 + 1 : Nat) : Int) = 3) = true := rfl
      have i0 : vIx (.tuple [x, a, b]) (.int 0) = .ok (.dat x) := rfl
      have i1 : vIx (.tuple [x, a, b]) (.int 1) = .ok (.dat a) := rfl
      have i2 : vIx (.tuple [x, a, b]) (.int 2) = .ok (.dat b) := rfl
      have zx := hz.2 x (by simp [itm])
      have za := hz.2 a (by simp [itm])
      have zb := hz.2 b (by simp [itm])
      cases x with
      | tuple ns =>
        have hn : ns.length ≤ 1000000 := zx.1
        have c1 : ∀ ρ : En, ρ = [some (.dat (.tuple [.tuple ns, a, b])), none, none] → lcK [1] (bN 1) tYes (ccall 1 g_is_number (acons (rdv 1) anil)) ρ ns = .ok (.own (ns.map fun d => .bool (isNm d))) := by
          intro ρ e
          subst e
          refine lcK_map _ hn fun y hy => ⟨_, rfl, rfl, ?_⟩
          simp_arith! [wipeE, r_is_number]
        have ra := r_are_pairs a ns.length za.1 fun y hy => (za.2 y hy).1
        have rb := r_are_pairs b ns.length zb.1 fun y hy => (zb.2 y hy).1
        cases h1 : decide ((1 : Int) ≤ ns.length) with
        | false => simp_arith! [g_is_party, b_is_party, isT, isPty, e2, i0, i1, i2, h1]
        | true =>
        cases h2 : decide ((ns.length : Int) ≤ 8) with
        | false => simp_arith! [g_is_party, b_is_party, isT, isPty, e2, i0, i1, i2, h1, h2]
        | true =>
        cases h3 : ns.all isNm with
        | false => simp_arith! [g_is_party, b_is_party, isT, isPty, e2, i0, i1, i2, h1, h2, h3, c1, all_bools]
        | true =>
        cases h4 : isRow ns.length a with
        | false => simp_arith! [g_is_party, b_is_party, isT, isPty, e2, i0, i1, i2, h1, h2, h3, c1, all_bools, ra, rb, h4]
        | true =>
        cases h5 : isRow ns.length b with
        | false => simp_arith! [g_is_party, b_is_party, isT, isPty, e2, i0, i1, i2, h1, h2, h3, c1, all_bools, ra, rb, h4, h5]
        | true =>
          obtain ⟨as, rfl⟩ : ∃ as, a = .tuple as := by cases a <;> first | exact ⟨_, rfl⟩ | cases h4
          obtain ⟨bs, rfl⟩ : ∃ bs, b = .tuple bs := by cases b <;> first | exact ⟨_, rfl⟩ | cases h5
          have h4' := (Bool.and_eq_true_iff.mp h4).1
          have h5' := (Bool.and_eq_true_iff.mp h5).1
          have c2 : ∀ ρ : En, ρ = [some (.dat (.tuple [.tuple ns, .tuple as, .tuple bs])), none, none] → lcK [2] (bN 2) tYes (bin2 opIn (rdv 2) (bin2 opIx (rdv 0) (kI 2))) ρ as = .ok (.own (as.map fun d => .bool (isIn d bs))) := by
            intro ρ e
            subst e
            refine lcK_map _ za.1 fun y hy => ⟨_, rfl, rfl, ?_⟩
            simp_arith! [wipeE, i2, vIn_tuple (shaped_pair (List.all_eq_true.mp h4' y hy)) (canLay_pairs h5')]
          simp_arith! [g_is_party, b_is_party, isT, isPty, e2, i0, i1, i2, h1, h2, h3, c1, all_bools, any_bools, ra, rb, h4, h5, c2, itm]
      | _ => simp_arith! [g_is_party, b_is_party, isT, isPty, e2, i0]
    · have e1 : decide ((xs.length : Int) = 3) = false := decide_eq_false (by omega)
      simp_arith! [g_is_party, b_is_party, isT, e1, isPty_len hl]
  | _ => simp_arith! [g_is_party, b_is_party, isT, isPty]
end Lw

namespace DL
open PySem (PyData Addr Str)
/-! ## the pairs of so many persons, in order -/
def pairsOf (m : Nat) : List D := (List.range m).flatMap fun i => (List.range (m - (i + 1))).map fun j => .tuple [.int i, .int ((i + 1 + j : Nat) : Int)]
theorem pairsOf_len : ∀ m : Nat, m < 9 → (pairsOf m).length ≤ 28 := by decide +kernel
theorem pairsOf_pr {m : Nat} {x : D} (h : x ∈ pairsOf m) : isPr m x = true := by
  unfold pairsOf at h
  obtain ⟨i, hi, h⟩ := List.mem_flatMap.mp h
  obtain ⟨j, hj, rfl⟩ := List.mem_map.mp h
  have hi := List.mem_range.mp hi
  have hj := List.mem_range.mp hj
  exact isPr_iff.mpr ⟨_, _, rfl, by omega, by omega, by omega⟩
theorem pairsOf_lt : ∀ m : Nat, m < 9 → (pairsOf m).Pairwise (fun a b => ltD a b = true) := by decide +kernel
theorem pairsOf_deg : ∀ m : Nat, m < 9 → ∀ p : Nat, p < 9 → ((pairsOf m).filter fun d => isIn (.int (p : Int)) (itm d)).length ≤ 8 := by decide +kernel
theorem eqv_pair {i j k l : Int} : PyData.eqv (.tuple [.int i, .int j]) (.tuple [.int k, .int l]) = (decide (i = k) && decide (j = l)) := by
  simp only [PyData.eqv, PyData.eqvAll, Bool.and_true]
  by_cases h1 : i = k <;> by_cases h2 : j = l <;> simp [h1, h2]
theorem isIn_pairs {m m' : Int} {d : D} {xs : List D} (hd : isPr m d = true) (hx : ∀ x ∈ xs, isPr m' x = true) : isIn d xs = true ↔ d ∈ xs := by
  obtain ⟨i, j, rfl, _⟩ := isPr_iff.mp hd
  unfold isIn
  rw [List.any_eq_true]
  constructor
  · rintro ⟨x, hx1, hx2⟩
    obtain ⟨k, l, rfl, _⟩ := isPr_iff.mp (hx x hx1)
    rw [eqv_pair] at hx2
    simp only [Bool.and_eq_true, decide_eq_true_eq] at hx2
    rw [← hx2.1, ← hx2.2]
    exact hx1
  · intro h
    exact ⟨_, h, by rw [eqv_pair]; simp⟩
theorem ltD_pair {i j k l : Int} : ltD (.tuple [.int i, .int j]) (.tuple [.int k, .int l]) = decide (i < k ∨ i = k ∧ j < l) := by
  have e : vLt (.tuple [.int i, .int j]) (.tuple [.int k, .int l]) = .ok (PySem.W.dataLt (.tuple [.int i, .int j]) (.tuple [.int k, .int l])) := by
    unfold vLt
    exact if_pos (by rfl)
  unfold ltD
  rw [e]
  exact PySem.W.dataLt_ii i j k l
theorem adj_of {xs : List D} (h : xs.Pairwise (fun a b => ltD a b = true)) : adj xs = true := by
  unfold adj
  rw [List.all_eq_true]
  induction xs with
  | nil => simp
  | cons x xs ih =>
    cases xs with
    | nil => simp
    | cons y ys =>
      intro b hb
      simp only [List.drop_succ_cons, List.drop_zero, List.zipWith_cons_cons, List.mem_cons] at hb
      rcases hb with rfl | hb
      · exact (List.pairwise_cons.mp h).1 y (List.mem_cons_self ..)
      · exact ih (List.pairwise_cons.mp h).2 b (by simpa using hb)
theorem pairsOf_nodup : ∀ m : Nat, m < 9 → (pairsOf m).Pairwise (fun a b => PyData.eqv a b = false) := by decide +kernel
end DL

namespace DL
open PySem (PyData Addr Str)
/-! ## comprehensions, loops of known turns, with what follows -/
theorem lcF {α : Type} {vs : List Nat} {b : D → En → Option En} {t : En → M Bool} {el : En → M Wv} {ρ : En} {ds : List D} {k : Wv → M α} {r : M α} (p : D → Bool) (q : D → D) (hz : ds.length ≤ 1000000)
    (h : ∀ d ∈ ds, ∃ ρ1, b d (wipeE ρ vs) = some ρ1 ∧ t ρ1 = .ok (p d) ∧ (p d = true → ∃ w, el ρ1 = .ok w ∧ w.d = .ok (q d))) (hk : k (.own ((ds.filter p).map q)) = r) : (lcK vs b t el ρ ds >>= k) = r := by
  rw [lcK_ok p q hz h, M.ok_bind]; exact hk
theorem lcFil {α : Type} {vs : List Nat} {b : D → En → Option En} {t : En → M Bool} {el : En → M Wv} {ρ : En} {ds : List D} {k : Wv → M α} {r : M α} (p : D → Bool) (hz : ds.length ≤ 1000000)
    (h : ∀ d ∈ ds, ∃ ρ1, b d (wipeE ρ vs) = some ρ1 ∧ t ρ1 = .ok (p d) ∧ el ρ1 = .ok (.dat d)) (hk : k (.own (ds.filter p)) = r) : (lcK vs b t el ρ ds >>= k) = r := by
  refine lcF p id hz (fun d hd => ?_) ?_
  · obtain ⟨ρ1, h1, h2, h3⟩ := h d hd
    exact ⟨ρ1, h1, h2, fun _ => ⟨_, h3, rfl⟩⟩
  · rw [List.map_id]; exact hk
theorem lcMap {α : Type} {vs : List Nat} {b : D → En → Option En} {t : En → M Bool} {el : En → M Wv} {ρ : En} {ds : List D} {k : Wv → M α} {r : M α} (q : D → D) (hz : ds.length ≤ 1000000)
    (h : ∀ d ∈ ds, ∃ ρ1, b d (wipeE ρ vs) = some ρ1 ∧ t ρ1 = .ok true ∧ ∃ w, el ρ1 = .ok w ∧ w.d = .ok (q d)) (hk : k (.own (ds.map q)) = r) : (lcK vs b t el ρ ds >>= k) = r := by
  refine lcF (fun _ => true) q hz (fun d hd => ?_) ?_
  · obtain ⟨ρ1, h1, h2, h3⟩ := h d hd
    exact ⟨ρ1, h1, h2, fun _ => h3⟩
  · rw [List.filter_eq_self.mpr fun _ _ => rfl]; exact hk
theorem loop_fold {b : D → En → Option En} {g : En → M Fl} {σ : Type} (I : σ → En → Prop) (st : σ → D → σ) : ∀ (ds : List D) (s : σ) (ρ : En), I s ρ →
    (∀ s ρ, I s ρ → ∀ d ∈ ds, ∃ ρ1, b d ρ = some ρ1 ∧ ∃ ρ2, g ρ1 = .ok (.nx ρ2) ∧ I (st s d) ρ2) → ∃ ρ', I (ds.foldl st s) ρ' ∧ loop b g ds ρ = .ok (.nx ρ')
  | [], s, ρ, h, _ => ⟨ρ, h, loop_nil⟩
  | d :: ds, s, ρ, h, hs => by
    obtain ⟨ρ1, h1, ρ2, h2, h3⟩ := hs s ρ h d (List.mem_cons_self ..)
    obtain ⟨ρ', h4, h5⟩ := loop_fold I st ds (st s d) ρ2 h3 fun s ρ i x hx => hs s ρ i x (List.mem_cons_of_mem _ hx)
    refine ⟨ρ', h4, ?_⟩
    rw [loop_cons, h1, loopB_some, h2, M.ok_bind, loopK_nx, h5]
theorem loopF {α : Type} {b : D → En → Option En} {g : En → M Fl} {σ : Type} {ds : List D} {ρ : En} {k : Fl → M α} {r : M α} (I : σ → En → Prop) (st : σ → D → σ) (s : σ) (h0 : I s ρ)
    (hs : ∀ s ρ, I s ρ → ∀ d ∈ ds, ∃ ρ1, b d ρ = some ρ1 ∧ ∃ ρ2, g ρ1 = .ok (.nx ρ2) ∧ I (st s d) ρ2) (hk : ∀ ρ', I (ds.foldl st s) ρ' → k (.nx ρ') = r) : (loop b g ds ρ >>= k) = r := by
  obtain ⟨ρ', h1, h2⟩ := loop_fold I st ds s ρ h0 hs
  rw [h2, M.ok_bind]
  exact hk ρ' h1
theorem loopB_ {α : Type} {b : D → En → Option En} {g : En → M Fl} {ds : List D} {ρ : En} {k : Fl → M α} {r : M α} (p : D → Bool) (w : D → Wv) (I : En → Prop) (h0 : I ρ)
    (hs : ∀ ρ, I ρ → ∀ d ∈ ds, ∃ ρ1, b d ρ = some ρ1 ∧ ((p d = true ∧ g ρ1 = .ok (.ret (w d))) ∨ (p d = false ∧ ∃ ρ2, g ρ1 = .ok (.nx ρ2) ∧ I ρ2)))
    (hk : ∀ ρ', I ρ' → k (match ds.find? p with | some d => .ret (w d) | none => .nx ρ') = r) : (loop b g ds ρ >>= k) = r := by
  obtain ⟨ρ', h1, h2⟩ := loop_inv p w I ds ρ h0 hs
  rw [h2, M.ok_bind]
  exact hk ρ' h1
/-! ## tests of known worth -/
section
variable {fa fb : En → M Wv} {ta tb : En → M Bool} {ρ : En} {x y : Bool}
theorem tand_ok (ha : ta ρ = .ok x) (hb : x = true → tb ρ = .ok y) : tand ta tb ρ = .ok (x && y) := by
  rw [tand_e, ha, M.ok_bind]
  cases x with
  | true => rw [tandK_true, hb rfl]; rfl
  | false => rfl
theorem tor_ok (ha : ta ρ = .ok x) (hb : x = false → tb ρ = .ok y) : tor ta tb ρ = .ok (x || y) := by
  rw [tor_e, ha, M.ok_bind]
  cases x with
  | true => rfl
  | false => rw [torK_false, hb rfl]; rfl
theorem tnot_ok (ha : ta ρ = .ok x) : tnot ta ρ = .ok (!x) := by rw [tnot_e, ha, M.ok_bind]; rfl
theorem tst_ok (h : fa ρ = .ok (.dat (.bool x))) : tst fa ρ = .ok x := by rw [tst_e, h, M.ok_bind]; rfl
theorem vand_ok (ha : fa ρ = .ok (.dat (.bool x))) (hb : x = true → fb ρ = .ok (.dat (.bool y))) : vand fa fb ρ = .ok (.dat (.bool (x && y))) := by
  rw [vand_e, ha, M.ok_bind, vandK_e, asBb, M.ok_bind]
  cases x with
  | true => rw [vandL_true, hb rfl]; rfl
  | false => rfl
theorem vor_ok (ha : fa ρ = .ok (.dat (.bool x))) (hb : x = false → fb ρ = .ok (.dat (.bool y))) : vor fa fb ρ = .ok (.dat (.bool (x || y))) := by
  rw [vor_e, ha, M.ok_bind, vorK_e, asBb, M.ok_bind]
  cases x with
  | true => rfl
  | false => rw [vorL_false, hb rfl]; rfl
theorem vif_ok {w u : Wv} (ht : ta ρ = .ok x) (ha : x = true → fa ρ = .ok w) (hb : x = false → fb ρ = .ok u) : vif ta fa fb ρ = .ok (sel x w u) := by
  rw [vif_e, ht, M.ok_bind]
  cases x with
  | true => rw [vifK_true, ha rfl]; rfl
  | false => rw [vifK_false, hb rfl]; rfl
end
/-- a loop that puts on what its turns give -/
theorem loopApp {α : Type} {b : D → En → Option En} {g : En → M Fl} {ds : List D} {ρ : En} {k : Fl → M α} {r : M α} (p : D → Bool) (q : D → D) (J : List D → En → Prop) (h0 : J [] ρ) (hz : ds.length ≤ 1000000)
    (hs : ∀ acc ρ, acc.length ≤ 1000000 → J acc ρ → ∀ d ∈ ds, ∃ ρ1, b d ρ = some ρ1 ∧ ∃ ρ2, g ρ1 = .ok (.nx ρ2) ∧ J (if p d = true then acc ++ [q d] else acc) ρ2)
    (hk : ∀ ρ', J ((ds.filter p).map q) ρ' → k (.nx ρ') = r) : (loop b g ds ρ >>= k) = r := by
  have main : ∀ (es acc : List D) (ρ : En), acc.length + es.length ≤ 1000000 → (∀ e ∈ es, e ∈ ds) → J acc ρ → ∃ ρ', J (acc ++ (es.filter p).map q) ρ' ∧ loop b g es ρ = .ok (.nx ρ') := by
    intro es
    induction es with
    | nil => intro acc ρ _ _ h; exact ⟨ρ, by simpa using h, loop_nil⟩
    | cons d es ih =>
      intro acc ρ hl hm h
      simp only [List.length_cons] at hl
      obtain ⟨ρ1, h1, ρ2, h2, h3⟩ := hs acc ρ (by omega) h d (hm d (List.mem_cons_self ..))
      have hm2 : ∀ e ∈ es, e ∈ ds := fun e he => hm e (List.mem_cons_of_mem _ he)
      cases hp : p d with
      | true =>
        rw [hp, if_pos rfl] at h3
        obtain ⟨ρ', h4, h5⟩ := ih (acc ++ [q d]) ρ2 (by simp only [List.length_append, List.length_cons, List.length_nil]; omega) hm2 h3
        refine ⟨ρ', by simpa [hp] using h4, ?_⟩
        rw [loop_cons, h1, loopB_some, h2, M.ok_bind, loopK_nx, h5]
      | false =>
        rw [hp, if_neg Bool.false_ne_true] at h3
        obtain ⟨ρ', h4, h5⟩ := ih acc ρ2 (by omega) hm2 h3
        refine ⟨ρ', by simpa [hp] using h4, ?_⟩
        rw [loop_cons, h1, loopB_some, h2, M.ok_bind, loopK_nx, h5]
  obtain ⟨ρ', h1, h2⟩ := main ds [] ρ (by simpa using hz) (fun _ h => h) h0
  rw [h2, M.ok_bind]
  exact hk ρ' (by simpa using h1)
theorem enumD_mem2 : ∀ {xs : List D} {k : Nat} {d : D}, d ∈ enumD k xs → ∃ (j : Nat) (x : D), d = pairD (.int (j : Int)) x ∧ k ≤ j ∧ j < k + xs.length ∧ x ∈ xs
  | [], k, d, h => by cases h
  | x :: xs, k, d, h => by
    unfold enumD at h
    rcases List.mem_cons.mp h with rfl | h
    · exact ⟨k, x, rfl, Nat.le_refl _, by simp only [List.length_cons]; omega, List.mem_cons_self ..⟩
    · obtain ⟨j, y, h1, h2, h3, h4⟩ := enumD_mem2 h
      exact ⟨j, y, h1, by omega, by simp only [List.length_cons]; omega, List.mem_cons_of_mem _ h4⟩
theorem enumD_len : ∀ (xs : List D) (k : Nat), (enumD k xs).length = xs.length
  | [], _ => rfl
  | x :: xs, k => by unfold enumD; rw [List.length_cons, List.length_cons, enumD_len xs]
theorem bind_okk {α : Type} (m : M α) : (m >>= fun a => M.ok a) = m := by
  induction m with
  | ok a => rfl
  | exc e => rfl
  | bad => rfl
  | pick n k ih => rw [M.pick_bind]; congr 1; funext i; exact ih i
theorem datas_app : ∀ (xs : List D) (ws : List Wv), datas (xs.map Wv.dat ++ ws) = datas ws >>= fun ds => .ok (xs ++ ds)
  | [], ws => by
    show datas ws = datas ws >>= fun ds => M.ok ds
    exact (bind_okk _).symm
  | x :: xs, ws => by
    rw [List.map_cons, List.cons_append, datas_cons, datas_app xs ws, M.bind_assoc']
    rfl
theorem datas_map (xs : List D) : datas (xs.map Wv.dat) = .ok xs := by
  have := datas_app xs []
  rw [List.append_nil, datas_nil, M.ok_bind, List.append_nil] at this
  exact this
theorem isOwn_dat {d : D} : isOwn (some (.dat d)) = false := rfl
theorem isOwn_none : isOwn none = false := rfl
theorem body_rtn {N : Nat} {m : List Nat} {f : En → M Wv} {ws : List Wv} {w : Wv} (h : f (frz m (startE N ws)) = .ok w) : body N (rtn m f) ws = .ok w := by
  rw [body_e, rtn_e, h, M.ok_bind, rtnK_e, M.ok_bind, fin_ret]
theorem lcK_fil {vs : List Nat} {b : D → En → Option En} {t : En → M Bool} {el : En → M Wv} {ρ : En} {ds : List D} (p : D → Bool) (hz : ds.length ≤ 1000000)
    (h : ∀ d ∈ ds, ∃ ρ1, b d (wipeE ρ vs) = some ρ1 ∧ t ρ1 = .ok (p d) ∧ el ρ1 = .ok (.dat d)) : lcK vs b t el ρ ds = .ok (.own (ds.filter p)) := by
  rw [lcK_ok p id hz fun d hd => ?_, List.map_id]
  obtain ⟨ρ1, h1, h2, h3⟩ := h d hd
  exact ⟨ρ1, h1, h2, fun _ => ⟨_, h3, rfl⟩⟩
theorem lcK_mp {vs : List Nat} {b : D → En → Option En} {t : En → M Bool} {el : En → M Wv} {ρ : En} {ds : List D} (q : D → D) (hz : ds.length ≤ 1000000)
    (h : ∀ d ∈ ds, ∃ ρ1, b d (wipeE ρ vs) = some ρ1 ∧ t ρ1 = .ok true ∧ ∃ w, el ρ1 = .ok w ∧ w.d = .ok (q d)) : lcK vs b t el ρ ds = .ok (.own (ds.map q)) := by
  rw [lcK_ok (fun _ => true) q hz fun d hd => ?_, List.filter_eq_self.mpr fun _ _ => rfl]
  obtain ⟨ρ1, h1, h2, h3⟩ := h d hd
  exact ⟨ρ1, h1, h2, fun _ => h3⟩
/-! ## promises, step by step -/
theorem Pst.use {α β : Type} {m : M α} {k : α → M β} {R : α → Prop} {Q : β → Prop} (h : Pst m R) (h2 : ∀ a, R a → Pst (k a) Q) : Pst (m >>= k) Q :=
  ⟨M.post_bind.mpr (M.post_mono h.run (fun a z => (h2 a z).run) fun _ z => z.elim)⟩
theorem Pst.ret {α : Type} {a : α} {Q : α → Prop} (h : Q a) : Pst (M.ok a) Q := ⟨h⟩
theorem Pst.pick {α : Type} {n : Nat} {k : Nat → M α} {Q : α → Prop} (h : ∀ i, i < n → Pst (k i) Q) : Pst (M.pick n k) Q := ⟨fun i hi => (h i hi).run⟩
theorem Pst.mono {α : Type} {m : M α} {R Q : α → Prop} (h : Pst m R) (h2 : ∀ a, R a → Q a) : Pst m Q := ⟨M.post_mono h.run h2 fun _ z => z⟩
theorem Pst.post {α : Type} {m : M α} {Q : α → Prop} {E : Ex → Prop} (h : Pst m Q) : m.post Q E := M.post_mono h.run (fun _ z => z) fun _ z => z.elim
/-- a loop with draws, by its invariant: what follows may be left aside -/
theorem loopP {b : D → En → Option En} {g : En → M Fl} {P : Fl → Prop} (I : List D → En → Prop) {ds : List D} {ρ : En} (h : I ds ρ) (h0 : ∀ ρ, I [] ρ → P (.nx ρ))
    (hs : ∀ d ds ρ, I (d :: ds) ρ → ∃ ρ1, b d ρ = some ρ1 ∧ Pst (g ρ1) (fun fl => match fl with | .nx ρ2 => I ds ρ2 | .cont ρ2 => I ds ρ2 | .brk ρ2 => P (.nx ρ2) | .ret w => P (.ret w))) : Pst (loop b g ds ρ) P :=
  loop_pst I h h0 fun d ds ρ i => by
    obtain ⟨ρ1, h1, h2⟩ := hs d ds ρ i
    exact ⟨ρ1, h1, h2.run⟩
theorem lcP {vs : List Nat} {t : En → M Bool} {ρ : En} {ds : List D} {b : D → En → Option En} {el : En → M Wv} {P : Wv → Prop} (I : List D → List D → Prop) (hz : ds.length ≤ 1000000) (h0 : I ds []) (h1 : ∀ acc, I [] acc → P (.own acc))
    (h : ∀ d ds acc, I (d :: ds) acc → ∃ ρ1, b d (wipeE ρ vs) = some ρ1 ∧ Pst (t ρ1) (fun k => if k = true then Pst (el ρ1) (fun w => ∃ y, w.d = .ok y ∧ I ds (acc ++ [y])) else I ds acc)) : Pst (lcK vs b t el ρ ds) P :=
  lcK_pst I hz h0 h1 fun d ds acc i => by
    obtain ⟨ρ1, h1, h2⟩ := h d ds acc i
    refine ⟨ρ1, h1, M.post_mono h2.run (fun k z => ?_) fun _ z => z⟩
    cases k with
    | true => rw [if_pos rfl] at z ⊢; exact z.run
    | false => rw [if_neg Bool.false_ne_true] at z ⊢; exact z
/-! ## forms of data -/
def lits : D → List D
  | .list xs => xs
  | .tuple xs => xs
  | _ => []
def toI : D → Int
  | .int i => i
  | _ => 0
def isPs (m : Nat) (d : D) : Prop := ∃ k : Nat, k < m ∧ d = .int (k : Int)
theorem canLay_all {xs : List D} (h : ∀ x ∈ xs, PyData.canLay0 x = true) : PyData.canLayAll0 xs = true := by
  induction xs with
  | nil => rfl
  | cons x xs ih =>
    unfold PyData.canLayAll0
    rw [h x (List.mem_cons_self ..), ih fun y hy => h y (List.mem_cons_of_mem _ hy)]
    rfl
theorem depth_all {n : Nat} {xs : List D} (h : ∀ x ∈ xs, x.depth ≤ n) : PyData.depthAll xs ≤ n := by
  induction xs with
  | nil => unfold PyData.depthAll; omega
  | cons x xs ih =>
    unfold PyData.depthAll
    have h1 := h x (List.mem_cons_self ..)
    have h2 := ih fun y hy => h y (List.mem_cons_of_mem _ hy)
    omega
def isNI : D → Bool
  | .none => true
  | .int _ => true
  | _ => false
theorem lay_ni {d : D} (h : isNI d = true) : PyData.canLay0 d = true := by
  cases d <;> first | rfl | cases h
theorem dep_ni {d : D} (h : isNI d = true) : d.depth ≤ 1 := by
  cases d <;> first | (simp [PyData.depth]; done) | cases h
theorem shaped_ni {d : D} (h : isNI d = true) : PySem.SeqAt.shaped d = true := by
  cases d <;> first | rfl | cases h
theorem lay_nis {xs : List D} (h : ∀ x ∈ xs, isNI x = true) : PyData.canLayAll0 xs = true := canLay_all fun x hx => lay_ni (h x hx)
theorem shaped_nis {xs : List D} (h : ∀ x ∈ xs, isNI x = true) : PySem.SeqAt.shaped (.list xs) = true := by
  have h1 := lay_nis h
  have h2 := depth_all (n := 1) fun x hx => dep_ni (h x hx)
  unfold PySem.SeqAt.shaped PyData.canLay0 PyData.depth
  simp only [h1, Bool.true_and, decide_eq_true_eq]
  omega
theorem isPs_ni {m : Nat} {d : D} (h : isPs m d) : isNI d = true := by obtain ⟨k, _, rfl⟩ := h; rfl
theorem vIn_ni {p : D} {xs : List D} (hp : isNI p = true) (h : ∀ x ∈ xs, isNI x = true) : vIn p (.tuple xs) = .ok (isIn p xs) := vIn_tuple (shaped_ni hp) (lay_nis h)
theorem vIn_nil {p : D} {xs : List D} (hp : isNI p = true) (h : ∀ x ∈ xs, isNI x = true) : vIn p (.list xs) = .ok (isIn p xs) := vIn_list (shaped_ni hp) (lay_nis h)
theorem eqv_ni {a b : D} (ha : isNI a = true) (hb : isNI b = true) : PyData.eqv a b = true ↔ a = b := by
  cases a <;> first | (cases ha; done) | skip
  · cases b <;> first | (cases hb; done) | simp [PyData.eqv]
  · cases b <;> first | (cases hb; done) | simp [PyData.eqv]
theorem isIn_ni {p : D} {xs : List D} (hp : isNI p = true) (h : ∀ x ∈ xs, isNI x = true) : isIn p xs = true ↔ p ∈ xs := by
  unfold isIn
  rw [List.any_eq_true]
  constructor
  · rintro ⟨x, h1, h2⟩
    rw [eqv_ni (h x h1) hp] at h2
    rw [← h2]; exact h1
  · intro h1
    exact ⟨p, h1, (eqv_ni hp hp).mpr rfl⟩
theorem isIn_ni_not {p : D} {xs : List D} (hp : isNI p = true) (h : ∀ x ∈ xs, isNI x = true) : isIn p xs = false ↔ p ∉ xs := by
  rw [← isIn_ni hp h]; simp
theorem isIn_append {p : D} {xs ys : List D} : isIn p (xs ++ ys) = (isIn p xs || isIn p ys) := by
  unfold isIn; rw [List.any_append]
/-! lists of lists of persons -/
def isIL : D → Prop
  | .list xs => ∀ x ∈ xs, isNI x = true
  | _ => False
theorem isIL_lay {d : D} (h : isIL d) : PyData.canLay0 d = true := by
  cases d <;> first | (cases h; done) | skip
  rename_i xs
  have := lay_nis (xs := xs) h
  unfold PyData.canLay0
  exact this
theorem isIL_dep {d : D} (h : isIL d) : d.depth ≤ 2 := by
  cases d <;> first | (cases h; done) | skip
  rename_i xs
  have := depth_all (n := 1) (xs := xs) fun x hx => dep_ni (h x hx)
  unfold PyData.depth
  omega
theorem isIL_shaped {d : D} (h : isIL d) : PySem.SeqAt.shaped d = true := by
  unfold PySem.SeqAt.shaped
  rw [isIL_lay h, Bool.true_and, decide_eq_true_eq]
  have := isIL_dep h
  omega
theorem eqvAll_nis : ∀ {xs ys : List D}, (∀ x ∈ xs, isNI x = true) → (∀ x ∈ ys, isNI x = true) → (PyData.eqvAll xs ys = true ↔ xs = ys)
  | [], [], _, _ => by simp [PyData.eqvAll]
  | [], _ :: _, _, _ => by simp [PyData.eqvAll]
  | _ :: _, [], _, _ => by simp [PyData.eqvAll]
  | x :: xs, y :: ys, hx, hy => by
    rw [PySem.W.eqv_all_cons, Bool.and_eq_true, eqvAll_nis (fun z hz => hx z (List.mem_cons_of_mem _ hz)) (fun z hz => hy z (List.mem_cons_of_mem _ hz)), eqv_ni (hx x (List.mem_cons_self ..)) (hy y (List.mem_cons_self ..))]
    simp
theorem eqv_IL {a b : D} (ha : isIL a) (hb : isIL b) : PyData.eqv a b = true ↔ a = b := by
  cases a <;> first | (cases ha; done) | skip
  cases b <;> first | (cases hb; done) | skip
  simp only [PyData.eqv]
  rw [eqvAll_nis ha hb]
  simp
theorem isIn_IL {p : D} {xs : List D} (hp : isIL p) (h : ∀ x ∈ xs, isIL x) : isIn p xs = true ↔ p ∈ xs := by
  unfold isIn
  rw [List.any_eq_true]
  constructor
  · rintro ⟨x, h1, h2⟩
    rw [eqv_IL (h x h1) hp] at h2
    rw [← h2]; exact h1
  · intro h1
    exact ⟨p, h1, (eqv_IL hp hp).mpr rfl⟩
theorem vIn_IL {p : D} {xs : List D} (hp : isIL p) (h : ∀ x ∈ xs, isIL x) : vIn p (.list xs) = .ok (isIn p xs) := vIn_list (isIL_shaped hp) (canLay_all fun x hx => isIL_lay (h x hx))
/-! reading at a place -/
def atN (xs : List D) (p : D) : D := (xs[(toI p).toNat]?).getD .none
theorem vIx_at {xs : List D} {p : D} (h : isPs xs.length p) : vIx (.list xs) p = .ok (.dat (atN xs p)) := by
  obtain ⟨k, hk, rfl⟩ := h
  refine vIx_list ?_
  unfold L2.atI
  rw [ixN_nat hk]
  simp [atN, toI, List.getElem?_eq_getElem hk]
theorem atN_mem {xs : List D} {p : D} (h : isPs xs.length p) : atN xs p ∈ xs := by
  obtain ⟨k, hk, rfl⟩ := h
  simp [atN, toI, List.getElem?_eq_getElem hk]
/-! sorted of what is taken of a list -/
theorem srt_filter (p : D → Bool) (l : List D) : (srt l).filter p = srt (l.filter p) := by
  refine PySem.W.sort_unique (PySem.W.sortLe_total _ _ _) ((PySem.W.sort_pairwise (PySem.W.sortLe_total _ _ _) l).filter _) fun c => ?_
  rw [List.filter_filter, List.filter_filter]
  have h := PySem.W.sort_stable (PySem.W.sortLe_total (PyProof.Rows.listOrd PyProof.Rows.itemOrd) false fun b : D => PySem.W.keyToks (id b)) l c
  have h2 := congrArg (List.filter p) h
  rw [List.filter_filter, List.filter_filter] at h2
  simp only [Bool.and_comm (p _)] at h2 ⊢
  exact h2
theorem srt_perm (l : List D) : (srt l).Perm l := List.mergeSort_perm ..
theorem srt_mem {l : List D} {x : D} : x ∈ srt l ↔ x ∈ l := (srt_perm l).mem_iff
theorem srt_len (l : List D) : (srt l).length = l.length := (srt_perm l).length_eq
theorem srt_isEmpty {l : List D} (h : l ≠ []) : srt l ≠ [] := by
  intro e
  have := srt_len l
  rw [e] at this
  exact h (List.eq_nil_of_length_eq_zero this.symm)
end DL

namespace DL
open PySem (PyData Addr Str)
/-! ## parties and bars in plain words -/
structure Pty (ns as bs : List D) : Prop where
  l1 : 1 ≤ ns.length
  l9 : ns.length < 9
  nm : ∀ x ∈ ns, isNm x = true
  sa : as.Sublist (pairsOf ns.length)
  sb : bs.Sublist (pairsOf ns.length)
  dj : ∀ x ∈ as, x ∉ bs
section
variable {ns as bs : List D} {m : Nat}
theorem Pty.pa (h : Pty ns as bs) : ∀ x ∈ as, isPr ns.length x = true := fun x hx => pairsOf_pr (h.sa.subset hx)
theorem Pty.pb (h : Pty ns as bs) : ∀ x ∈ bs, isPr ns.length x = true := fun x hx => pairsOf_pr (h.sb.subset hx)
theorem Pty.la (h : Pty ns as bs) : as.length ≤ 28 := Nat.le_trans h.sa.length_le (pairsOf_len _ h.l9)
theorem Pty.lb (h : Pty ns as bs) : bs.length ≤ 28 := Nat.le_trans h.sb.length_le (pairsOf_len _ h.l9)
theorem Pty.isP (h : Pty ns as bs) : isPty (.tuple [.tuple ns, .tuple as, .tuple bs]) = true := by
  have l1 := h.l1
  have l9 := h.l9
  have h1 : ns.all isNm = true := List.all_eq_true.mpr h.nm
  have row : ∀ {xs : List D}, xs.Sublist (pairsOf ns.length) → isRow ns.length (.tuple xs) = true := fun {xs} hs => by
    simp only [isRow, Bool.and_eq_true, List.all_eq_true]
    exact ⟨fun x hx => pairsOf_pr (hs.subset hx), adj_of ((pairsOf_lt _ l9).sublist hs)⟩
  have h2 : ((itm (.tuple as)).any fun p => isIn p (itm (.tuple bs))) = false := by
    rw [List.any_eq_false]
    intro x hx e
    exact h.dj x hx ((isIn_pairs (h.pa x hx) h.pb).mp e)
  simp only [isPty, row h.sa, row h.sb, h1, h2, Bool.and_true, Bool.not_false, Bool.and_eq_true, decide_eq_true_eq]
  omega
theorem isNm_ni {d : D} (h : isNm d = true) : isNI d = true := by cases d <;> first | rfl | cases h
def freeD (m : Nat) (as bs : List D) : List D := (pairsOf m).filter fun d => !isIn d as && !isIn d bs
theorem freeD_pr {d : D} (h : d ∈ freeD m as bs) : isPr m d = true := pairsOf_pr (List.mem_filter.mp h).1
theorem freeD_len (h : m < 9) : (freeD m as bs).length ≤ 28 := Nat.le_trans (List.length_filter_le ..) (pairsOf_len m h)
def degD (ps : List D) (p : D) : Nat := (ps.filter fun d => isIn p (itm d)).length
def lack (as : List D) (p n : D) : D := sel (isNon n) .none (.int (toI n - (degD as p : Nat)))
def lacksD (ns as : List D) : List D := (enumD 0 ns).map fun d => lack as (fst' d) (snd' d)
theorem lacksD_len : (lacksD ns as).length = ns.length := by unfold lacksD; rw [List.length_map, enumD_len]
theorem lack_ni {p n : D} : isNI (lack as p n) = true := by unfold lack; cases isNon n <;> rfl
theorem lacksD_ni {d : D} (h : d ∈ lacksD ns as) : isNI d = true := by
  obtain ⟨x, _, rfl⟩ := List.mem_map.mp h
  exact lack_ni
theorem pr_of {d : D} (h : isPr (m : Int) d = true) : ∃ i j : Nat, d = .tuple [.int (i : Int), .int (j : Int)] ∧ i < j ∧ j < m := by
  obtain ⟨i, j, rfl, h1, h2, h3⟩ := isPr_iff.mp h
  obtain ⟨i', rfl⟩ := Int.eq_ofNat_of_zero_le h1
  obtain ⟨j', rfl⟩ := Int.eq_ofNat_of_zero_le (show (0 : Int) ≤ j by omega)
  exact ⟨i', j', rfl, by omega, by omega⟩
/-- the two rows of a bar -/
structure Bar (m : Nat) (S T : List D) : Prop where
  ps : ∀ x ∈ S, isPs m x
  pt : ∀ x ∈ T, isPs m x
  ls : S.length ≤ 100
  lt : T.length ≤ 100
variable {S T : List D}
theorem Bar.qs (h : Bar m S T) : ∀ x ∈ S, isNI x = true := fun x hx => isPs_ni (h.ps x hx)
theorem Bar.qt (h : Bar m S T) : ∀ x ∈ T, isNI x = true := fun x hx => isPs_ni (h.pt x hx)
def innerD (fr S T : List D) : List D := fr.filter fun d => !(isIn (fst' d) S || (isIn (fst' d) T || (isIn (snd' d) S || isIn (snd' d) T)))
def lotOf (fd : List D) (d : D) : List D := fd.filter fun l => isIn (fst' d) (lits l) || isIn (snd' d) (lits l)
def stepL (fd : List D) (d : D) : List D := if (lotOf fd d).length = 2 then (fd.filter fun l => !isIn l (lotOf fd d)) ++ [.list ((lotOf fd d).flatMap lits)] else fd
def lump0 (m : Nat) (S T : List D) : List D := ((rng 0 m).filter fun p => !isIn p S && !isIn p T).map fun p => .list [p]
def lumpsD (m : Nat) (fr S T : List D) : List D := (innerD fr S T).foldl stepL (lump0 m S T)
def lotsD (m : Nat) (fr S T : List D) : List D := (lumpsD m fr S T).map fun l => .tuple (srt (lits l))
def btwD (l T : List D) (d : D) : Bool := (isIn (fst' d) l && isIn (snd' d) T) || (isIn (snd' d) l && isIn (fst' d) T)
def oddL (nd fr T : List D) (l : D) : Bool := !isIn .none ((itm l).map (atN nd)) && decide (((((itm l).map (atN nd)).map toI).sum + ((fr.filter (btwD (itm l) T)).length : Nat)) % 2 = 1)
def oddD (m : Nat) (nd fr S T : List D) : List D := srt ((lotsD m fr S T).filter (oddL nd fr T))
def needAt (nd fr : List D) (p : D) : Int := if isNon (atN nd p) = true then (degD fr p : Nat) else toI (atN nd p)
def outD (fr S : List D) (p : D) : Nat := (fr.filter fun d => isIn p (itm d) && (!isIn (fst' d) S && !isIn (snd' d) S)).length
def needOr (nd : List D) (p : D) : Int := if isNon (atN nd p) = true then 0 else toI (atN nd p)
def slack1 (nd fr S : List D) : Int := S.foldl (fun f p => f + needAt nd fr p) 0
def slack2 (nd fr S T : List D) : Int := T.foldl (fun f p => f + (outD fr S p : Nat) - needOr nd p) (slack1 nd fr S)
def slackD (m : Nat) (nd fr S T : List D) : Int := slack2 nd fr S T - ((oddD m nd fr S T).length : Nat)
/-- lumps: lists of persons of no row -/
def isLm (m : Nat) (S T : List D) (d : D) : Prop := ∃ xs, d = .list xs ∧ xs ≠ [] ∧ ∀ p ∈ xs, isPs m p ∧ isIn p S = false ∧ isIn p T = false
structure Lumps (m : Nat) (S T fd : List D) : Prop where
  lm : ∀ l ∈ fd, isLm m S T l
  sm : (fd.map fun l => (lits l).length).sum ≤ m
theorem isLm.il {l : D} (h : isLm m S T l) : isIL l := by
  obtain ⟨xs, rfl, _, h⟩ := h
  exact fun x hx => isPs_ni (h x hx).1
theorem isLm.pos {l : D} (h : isLm m S T l) : 1 ≤ (lits l).length := by
  obtain ⟨xs, rfl, h1, _⟩ := h
  cases xs with
  | nil => exact absurd rfl h1
  | cons x xs => simp [lits]
theorem Lumps.len {fd : List D} (h : Lumps m S T fd) : fd.length ≤ m := by
  have h1 := h.lm
  have h2 := h.sm
  have : ∀ fd : List D, (∀ l ∈ fd, isLm m S T l) → fd.length ≤ (fd.map fun l => (lits l).length).sum := by
    intro fd h
    induction fd with
    | nil => simp
    | cons l fd ih =>
      have a := ih fun x hx => h x (List.mem_cons_of_mem _ hx)
      have b := (h l (List.mem_cons_self ..)).pos
      simp only [List.length_cons, List.map_cons, List.sum_cons]
      omega
  have := this fd h1
  omega
theorem Lumps.one {fd : List D} (h : Lumps m S T fd) {l : D} (hl : l ∈ fd) : (lits l).length ≤ m := by
  have h2 := h.sm
  have : ∀ fd : List D, l ∈ fd → (lits l).length ≤ (fd.map fun l => (lits l).length).sum := by
    intro fd h
    induction fd with
    | nil => cases h
    | cons x fd ih =>
      simp only [List.map_cons, List.sum_cons]
      rcases List.mem_cons.mp h with rfl | h
      · omega
      · have := ih h
        omega
  have := this fd hl
  omega
theorem not_lotOf {fd : List D} (h : ∀ l ∈ fd, isIL l) (d : D) : (fd.filter fun l => !isIn l (lotOf fd d)) = fd.filter fun l => !(isIn (fst' d) (lits l) || isIn (snd' d) (lits l)) := by
  refine List.filter_congr fun l hl => ?_
  congr 1
  unfold lotOf
  rw [Bool.eq_iff_iff, isIn_IL (h l hl) fun x hx => h x (List.mem_filter.mp hx).1]
  rw [List.mem_filter]
  exact ⟨fun z => z.2, fun z => ⟨hl, z⟩⟩
theorem sum_split (p : D → Bool) (w : D → Nat) : ∀ fd : List D, ((fd.filter p).map w).sum + ((fd.filter fun l => !p l).map w).sum = (fd.map w).sum
  | [] => rfl
  | l :: fd => by
    have := sum_split p w fd
    cases hp : p l <;> simp [hp] <;> omega
theorem flat_len : ∀ xs : List D, (xs.flatMap lits).length = (xs.map fun l => (lits l).length).sum
  | [] => rfl
  | x :: xs => by simp [List.flatMap_cons, flat_len xs]
theorem Lumps.step {fd : List D} (h : Lumps m S T fd) (d : D) : Lumps m S T (stepL fd d) := by
  unfold stepL
  split
  · rename_i h2
    refine ⟨fun l hl => ?_, ?_⟩
    · rcases List.mem_append.mp hl with hl | hl
      · exact h.lm l (List.mem_filter.mp hl).1
      · obtain rfl := List.mem_singleton.mp hl
        obtain ⟨a, b, e⟩ := two_of h2
        have ma : ∀ x ∈ lotOf fd d, isLm m S T x := fun x hx => h.lm x (List.mem_filter.mp hx).1
        refine ⟨_, rfl, ?_, fun p hp => ?_⟩
        · rw [e]
          have := (ma a (by rw [e]; simp)).pos
          intro z
          have := congrArg List.length z
          simp [List.flatMap_cons] at this
          simp [this.1] at *
        · obtain ⟨x, hx, hpx⟩ := List.mem_flatMap.mp hp
          obtain ⟨xs, rfl, _, hh⟩ := ma x hx
          exact hh p hpx
    · rw [not_lotOf (fun l hl => (h.lm l hl).il) d, List.map_append, List.sum_append]
      have := sum_split (fun l => isIn (fst' d) (lits l) || isIn (snd' d) (lits l)) (fun l => (lits l).length) fd
      have e : ((lotOf fd d).flatMap lits).length = ((fd.filter fun l => isIn (fst' d) (lits l) || isIn (snd' d) (lits l)).map fun l => (lits l).length).sum := flat_len _
      have sm := h.sm
      rw [List.map_cons, List.map_nil, List.sum_cons, List.sum_nil, show lits (.list ((lotOf fd d).flatMap lits)) = (lotOf fd d).flatMap lits from rfl]
      omega
  · exact h
theorem Lumps.fold : ∀ {ds fd : List D}, Lumps m S T fd → Lumps m S T (ds.foldl stepL fd)
  | [], _, h => h
  | d :: ds, fd, h => by
    rw [List.foldl_cons]
    exact Lumps.fold (h.step d)
theorem Lumps.zero : Lumps m S T (lump0 m S T) := by
  refine ⟨fun l hl => ?_, ?_⟩
  · obtain ⟨p, hp, rfl⟩ := List.mem_map.mp hl
    obtain ⟨h1, h2⟩ := List.mem_filter.mp hp
    obtain ⟨k, hk, rfl⟩ := List.mem_map.mp h1
    refine ⟨_, rfl, by simp, fun q hq => ?_⟩
    obtain rfl := List.mem_singleton.mp hq
    simp only [Bool.and_eq_true, Bool.not_eq_true'] at h2
    exact ⟨⟨k, by simpa using hk, by simp⟩, h2⟩
  · unfold lump0
    rw [List.map_map]
    have : ∀ xs : List D, (xs.map ((fun l => (lits l).length) ∘ fun p => PyData.list [p])).sum = xs.length := by
      intro xs
      induction xs with
      | nil => rfl
      | cons x xs ih => rw [List.map_cons, List.sum_cons, ih, List.length_cons, show ((fun l => (lits l).length) ∘ fun p => PyData.list [p]) x = 1 from rfl]; omega
    rw [this]
    refine Nat.le_trans (List.length_filter_le ..) (by simp [rng])
theorem Lumps.all {fr : List D} : Lumps m S T (lumpsD m fr S T) := Lumps.fold Lumps.zero
theorem lotsD_len {fr : List D} : (lotsD m fr S T).length ≤ m := by
  unfold lotsD
  rw [List.length_map]
  exact Lumps.all.len
/-- a lot: a tuple of persons of no row -/
def isLt (m : Nat) (S T : List D) (d : D) : Prop := ∃ xs, d = .tuple xs ∧ xs ≠ [] ∧ xs.length ≤ m ∧ ∀ p ∈ xs, isPs m p ∧ isIn p S = false ∧ isIn p T = false
theorem lotsD_lt {fr : List D} {l : D} (h : l ∈ lotsD m fr S T) : isLt m S T l := by
  obtain ⟨x, hx, rfl⟩ := List.mem_map.mp h
  have hl := Lumps.all.one hx
  obtain ⟨xs, rfl, h1, h2⟩ := Lumps.all.lm x hx
  refine ⟨_, rfl, ?_, by rw [srt_len]; exact hl, fun p hp => h2 p (srt_mem.mp hp)⟩
  exact srt_isEmpty h1
end
end DL

namespace Lw
open PySem (PyData Addr Str)
open DL
theorem r_all_pairs : ∀ m : Nat, m < 9 → g_all_pairs [.dat (.int (m : Int))] = .ok (.own (pairsOf m))
  | 0, _ => by kernel_rfl
  | 1, _ => by kernel_rfl
  | 2, _ => by kernel_rfl
  | 3, _ => by kernel_rfl
  | 4, _ => by kernel_rfl
  | 5, _ => by kernel_rfl
  | 6, _ => by kernel_rfl
  | 7, _ => by kernel_rfl
  | 8, _ => by kernel_rfl
  | n + 9, h => absurd h (by omega)
section
variable {ns as bs : List D}
abbrev P3 (ns as bs : List D) : D := .tuple [.tuple ns, .tuple as, .tuple bs]
theorem ix0 {a : D} {xs : List D} : vIx (.tuple (a :: xs)) (.int 0) = .ok (.dat a) := vIx_tuple (by unfold L2.atI; rw [show (0 : Int) = ((0 : Nat) : Int) from rfl, ixN_nat (by simp)]; rfl)
theorem ix1 {a b : D} {xs : List D} : vIx (.tuple (a :: b :: xs)) (.int 1) = .ok (.dat b) := vIx_tuple (by unfold L2.atI; rw [show (1 : Int) = ((1 : Nat) : Int) from rfl, ixN_nat (by simp)]; rfl)
theorem ix2 {a b c : D} {xs : List D} : vIx (.tuple (a :: b :: c :: xs)) (.int 2) = .ok (.dat c) := vIx_tuple (by unfold L2.atI; rw [show (2 : Int) = ((2 : Nat) : Int) from rfl, ixN_nat (by simp)]; rfl)
theorem lx0 {a : D} {xs : List D} : vIx (.list (a :: xs)) (.int 0) = .ok (.dat a) := vIx_list (by unfold L2.atI; rw [show (0 : Int) = ((0 : Nat) : Int) from rfl, ixN_nat (by simp)]; rfl)
theorem lx1 {a b : D} {xs : List D} : vIx (.list (a :: b :: xs)) (.int 1) = .ok (.dat b) := vIx_list (by unfold L2.atI; rw [show (1 : Int) = ((1 : Nat) : Int) from rfl, ixN_nat (by simp)]; rfl)
theorem r_free_of (h : Pty ns as bs) : g_free_of [.dat (P3 ns as bs)] = .ok (.own (freeD ns.length as bs)) := by
  have hl := pairsOf_len _ h.l9
  simp_arith! [g_free_of, b_free_of, ix0, r_all_pairs _ h.l9]
  rw [lcK_fil (fun d => !isIn d as && !isIn d bs)]
  case hz => omega
  case h =>
    intro d hd
    have hd := pairsOf_pr hd
    refine ⟨_, rfl, tand_ok ?_ fun _ => ?_, rfl⟩
    · simp_arith! [wipeE, ix1, vIn_tuple (shaped_pair hd) (canLay_pairs (List.all_eq_true.mpr h.pa))]
    · simp_arith! [wipeE, ix2, vIn_tuple (shaped_pair hd) (canLay_pairs (List.all_eq_true.mpr h.pb))]
  simp_arith! [DL.okb]
  rfl
theorem r_known_met (h : Pty ns as bs) {p : D} (hp : isNI p = true) : g_known_met [.dat (P3 ns as bs), .dat p] = .ok (.dat (.int (degD as p : Nat))) := by
  have hl := h.la
  simp_arith! [g_known_met, b_known_met, ix1]
  rw [lcK_fil (fun d => isIn p (itm d))]
  case hz => omega
  case h =>
    intro d hd
    obtain ⟨i, j, rfl, _⟩ := isPr_iff.mp (h.pa d hd)
    refine ⟨_, rfl, ?_, rfl⟩
    simp_arith! [wipeE, vIn_tuple (a := p) (xs := [.int i, .int j]) (shaped_ni hp) rfl, itm]
  simp_arith! [DL.okb]
  rfl
theorem r_needs_of (h : Pty ns as bs) : g_needs_of [.dat (P3 ns as bs)] = .ok (.own (lacksD ns as)) := by
  have l9 := h.l9
  simp_arith! [g_needs_of, b_needs_of, ix0]
  rw [lcK_mp (fun d => lack as (fst' d) (snd' d))]
  case hz => rw [enumD_len]; omega
  case h =>
    intro d hd
    obtain ⟨j, x, rfl, _, _, hx⟩ := enumD_mem2 hd
    have hx := h.nm x hx
    refine ⟨_, rfl, rfl, .dat (lack as (.int j) x), ?_, rfl⟩
    have e := r_known_met h (p := .int (j : Int)) rfl
    cases x <;> first | (cases hx; done) | skip
    · simp_arith! [wipeE, pairD, isNon_none]; rfl
    · simp_arith! [wipeE, pairD, isNon_int, e]; rfl
  simp_arith! [DL.okb]
  rfl
end
end Lw

namespace Lw
open PySem (PyData Addr Str)
open DL
section
variable {ns as bs nd fr fi S T : List D} {m : Nat}
theorem canSort_ps {xs : List D} (h : ∀ x ∈ xs, isPs m x) : canSort xs = true := by
  have h1 : alikes xs = true := by
    unfold alikes
    rw [List.all_eq_true]
    intro a ha
    rw [List.all_eq_true]
    intro b hb
    obtain ⟨i, _, rfl⟩ := h a ha
    obtain ⟨j, _, rfl⟩ := h b hb
    rfl
  have h2 : xs.all isNT = true := List.all_eq_true.mpr fun x hx => by obtain ⟨i, _, rfl⟩ := h x hx; rfl
  have h3 : (xs.all fun d => decide (d.depth ≤ 60)) = true := List.all_eq_true.mpr fun x hx => by obtain ⟨i, _, rfl⟩ := h x hx; rfl
  unfold canSort
  rw [h1, h2, h3]
  simp
theorem alikeAll_ps : ∀ {xs ys : List D}, (∀ x ∈ xs, isPs m x) → (∀ x ∈ ys, isPs m x) → PySem.W.alikeAll xs ys = true
  | [], ys, _, _ => by unfold PySem.W.alikeAll; cases ys <;> rfl
  | x :: xs, [], _, _ => by unfold PySem.W.alikeAll; rfl
  | x :: xs, y :: ys, hx, hy => by
    obtain ⟨i, _, rfl⟩ := hx x (List.mem_cons_self ..)
    obtain ⟨j, _, rfl⟩ := hy y (List.mem_cons_self ..)
    unfold PySem.W.alikeAll
    rw [alikeAll_ps (fun z hz => hx z (List.mem_cons_of_mem _ hz)) fun z hz => hy z (List.mem_cons_of_mem _ hz)]
    rfl
theorem canSort_lots {xs : List D} (h : ∀ l ∈ xs, isLt m S T l) : canSort xs = true := by
  have h1 : alikes xs = true := by
    unfold alikes
    rw [List.all_eq_true]
    intro a ha
    rw [List.all_eq_true]
    intro b hb
    obtain ⟨x, rfl, _, _, hx⟩ := h a ha
    obtain ⟨y, rfl, _, _, hy⟩ := h b hb
    unfold PySem.W.alike
    exact alikeAll_ps (m := m) (fun p hp => (hx p hp).1) fun p hp => (hy p hp).1
  have h2 : xs.all isT1 = true := List.all_eq_true.mpr fun l hl => by
    obtain ⟨x, rfl, e, _, hx⟩ := h l hl
    cases x with
    | nil => exact absurd rfl e
    | cons a x => rfl
  have h3 : (xs.all fun d => decide (d.depth ≤ 60)) = true := List.all_eq_true.mpr fun l hl => by
    obtain ⟨x, rfl, _, _, hx⟩ := h l hl
    have := depth_all (n := 1) (xs := x) fun p hp => dep_ni (isPs_ni (hx p hp).1)
    rw [decide_eq_true_eq]
    unfold PyData.depth
    omega
  unfold canSort
  rw [h1, h2, h3]
  rfl
theorem vSorted_ok {xs : List D} (h : canSort xs = true) (hz : xs.length ≤ 1000000) : vSorted (.list xs) = .ok (.own (srt xs)) := by
  show (if canSort xs = true then small xs.length (M.ok (Wv.own (srt xs))) else M.bad) = _
  rw [if_pos h]
  exact small_of hz
theorem vTuple_l {xs : List D} : vTuple (.list xs) = .ok (.dat (.tuple xs)) := rfl
theorem ni_two {i j : Nat} : ∀ x ∈ [PyData.int (i : Int), .int (j : Int)], isNI x = true := by
  intro x hx
  simp only [List.mem_cons, List.not_mem_nil, or_false] at hx
  rcases hx with rfl | rfl <;> rfl
theorem r_inner_pairs (hb : Bar m S T) (hf : ∀ d ∈ fr, isPr (m : Int) d = true) (hl : fr.length ≤ 1000) : g_inner_pairs [.dat (.list fr), .dat (.tuple [.tuple S, .tuple T])] = .ok (.own (innerD fr S T)) := by
  simp_arith! [g_inner_pairs, b_inner_pairs]
  rw [lcK_fil (fun d => !(isIn (fst' d) S || (isIn (fst' d) T || (isIn (snd' d) S || isIn (snd' d) T))))]
  case hz => omega
  case h =>
    intro d hd
    obtain ⟨i, j, rfl, _⟩ := pr_of (hf d hd)
    refine ⟨_, rfl, tnot_ok (tst_ok ?_), rfl⟩
    have e := vAny_bools (bs := [isIn (.int (i : Int)) S, isIn (.int (i : Int)) T, isIn (.int (j : Int)) S, isIn (.int (j : Int)) T])
    simp only [List.map_cons, List.map_nil, List.any_cons, List.any_nil, id_eq, Bool.or_false] at e
    have a1 := vIn_ni (p := .int (i : Int)) rfl hb.qs
    have a2 := vIn_ni (p := .int (i : Int)) rfl hb.qt
    have a3 := vIn_ni (p := .int (j : Int)) rfl hb.qs
    have a4 := vIn_ni (p := .int (j : Int)) rfl hb.qt
    simp_arith only [lc2, lcOut, lcIn, dropO, isOwn_dat, isOwn_none, wipeE, a1, a2, a3, a4, e, fst', snd', if_true, if_false, M.nox_ok, small_of]
  simp_arith! [DL.okb]
  rfl
theorem r_is_between {d : D} {l : List D} (hd : isPr (m : Int) d = true) (h1 : ∀ x ∈ l, isNI x = true) (h2 : ∀ x ∈ T, isNI x = true) : g_is_between [.dat d, .dat (.tuple l), .dat (.tuple T)] = .ok (.dat (.bool (btwD l T d))) := by
  obtain ⟨i, j, rfl, _⟩ := pr_of hd
  refine body_rtn (vor_ok (vand_ok ?_ fun _ => ?_) fun _ => vand_ok ?_ fun _ => ?_)
  · simp_arith! [ix0, vIn_ni (p := .int (i : Int)) rfl h1]; rfl
  · simp_arith! [ix1, vIn_ni (p := .int (j : Int)) rfl h2]; rfl
  · simp_arith! [ix1, vIn_ni (p := .int (j : Int)) rfl h1]; rfl
  · simp_arith! [ix0, vIn_ni (p := .int (i : Int)) rfl h2]; rfl
theorem rng_m (h : m ≤ 1000) : rngI (m : Int) = .ok (rng 0 m) := by
  have rm : inR (m : Int) = true := by unfold inR; simp; omega
  exact rngI_e rm
theorem rng_ps {p : D} (h : p ∈ rng 0 m) : isPs m p := by
  obtain ⟨k, hk, rfl⟩ := List.mem_map.mp h
  exact ⟨k, by simpa using hk, by simp⟩
theorem rng_len : (rng 0 m).length = m := by simp [rng]
theorem lit_il {l : D} (h : isIL l) : ∃ xs, l = .list xs ∧ (∀ x ∈ xs, isNI x = true) := by
  cases l <;> first | (cases h; done) | exact ⟨_, rfl, h⟩
theorem r_lots (hm : m < 9) (hb : Bar m S T) (hn : nd.length = m) (hf : ∀ d ∈ fi, isPr (m : Int) d = true) (hl : fi.length ≤ 1000) : g_lots [.dat (.list nd), .dat (.list fi), .dat (.tuple [.tuple S, .tuple T])] = .ok (.own ((fi.foldl stepL (lump0 m S T)).map fun l => .tuple (srt (lits l)))) := by
  have rg := rng_m (m := m) (by omega)
  simp_arith! [g_lots, b_lots, hn, rg, M.bind_assoc']
  rw [lcK_ok (fun p => !isIn p S && !isIn p T) (fun p => .list [p])]
  case hz => rw [rng_len]; omega
  case h =>
    intro p hp
    have hp := isPs_ni (rng_ps hp)
    refine ⟨_, rfl, tand_ok ?_ fun _ => ?_, fun _ => ⟨.own [p], ?_, rfl⟩⟩
    · simp_arith! [wipeE, ix0, vIn_ni hp hb.qs]
    · simp_arith! [wipeE, ix1, vIn_ni hp hb.qt]
    · simp_arith only [wipeE, small_of]
  rw [show (List.map (fun p => PyData.list [p]) (List.filter (fun p => !isIn p S && !isIn p T) (rng 0 m))) = lump0 m S T from rfl]
  simp_arith! [M.bind_assoc']
  refine loopF (fun fd ρ => Lumps m S T fd ∧ ∃ o3 o5 o6, (o3 = some (.own fd) ∨ o3 = some (.dat (.list fd))) ∧ ρ = [some (.dat (.list nd)), some (.dat (.list fi)), some (.dat (.tuple [.tuple S, .tuple T])), o3, none, o5, o6, none]) stepL (lump0 m S T) ⟨Lumps.zero, _, none, none, .inl rfl, rfl⟩ (fun fd ρ hI d hd => ?_) (fun ρ' hI => ?_)
  · obtain ⟨hL, o3, o5, o6, h3, rfl⟩ := hI
    have hL2 := hL.step d
    have hlen := hL.len
    obtain ⟨i, j, rfl, _⟩ := pr_of (hf d hd)
    have il : ∀ l ∈ fd, isIL l := fun l hl => (hL.lm l hl).il
    have f1 : ∀ l ∈ fd, ∃ xs, l = .list xs ∧ (∀ x ∈ xs, isNI x = true) := fun l hl => lit_il (il l hl)
    have so1 : ∀ l ∈ lotOf fd (.tuple [.int (i : Int), .int (j : Int)]), isIL l := fun l hl => il l (List.mem_filter.mp hl).1
    have step : ∀ o3 : Option Wv, (o3 = some (.own fd) ∨ o3 = some (.dat (.list fd))) → frz1 0 [o3] = [some (.dat (.list fd))] := by
      rintro o3 (rfl | rfl) <;> rfl
    refine ⟨_, rfl, ?_⟩
    rcases h3 with rfl | rfl
    all_goals
      simp_arith! [M.bind_assoc']
      rw [lcK_fil (fun l => isIn (.int (i : Int)) (lits l) || isIn (.int (j : Int)) (lits l))]
      case hz => omega
      case h =>
        intro l hl
        obtain ⟨xs, rfl, hx⟩ := f1 l hl
        refine ⟨_, rfl, tor_ok ?_ fun _ => ?_, rfl⟩
        · simp_arith! [wipeE, ix0, vIn_nil (p := .int (i : Int)) rfl hx]; rfl
        · simp_arith! [wipeE, ix1, vIn_nil (p := .int (j : Int)) rfl hx]; rfl
      rw [show (fd.filter fun l => isIn (.int (i : Int)) (lits l) || isIn (.int (j : Int)) (lits l)) = lotOf fd (.tuple [.int (i : Int), .int (j : Int)]) from rfl]
      unfold stepL at hL2 ⊢
      generalize hso : lotOf fd (.tuple [.int (i : Int), .int (j : Int)]) = so at hL2 ⊢ so1
      have hsl : so.length ≤ fd.length := by rw [← hso]; exact List.length_filter_le ..
      cases hns : noLs so
      all_goals
        simp_arith! [hns]
        cases h2 : decide ((so.length : Int) = 2) with
        | false =>
          have h2' : ¬ so.length = 2 := by
            have := of_decide_eq_false h2
            omega
          rw [if_neg h2'] at hL2 ⊢
          simp_arith! [DL.okb]
          exact ⟨_, rfl, hL2, _, _, _, (by first | exact .inl rfl | exact .inr rfl), rfl⟩
        | true =>
          have h2' : so.length = 2 := by
            have := of_decide_eq_true h2
            omega
          rw [if_pos h2'] at hL2 ⊢
          obtain ⟨a, b, rfl⟩ := two_of h2'
          obtain ⟨xa, rfl, ha⟩ := lit_il (so1 a (by simp))
          obtain ⟨xb, rfl, hb2⟩ := lit_il (so1 b (by simp))
          have la := hL.one (l := .list xa) (List.mem_filter.mp (by rw [show List.filter _ fd = lotOf fd _ from rfl, hso]; simp)).1
          have lb := hL.one (l := .list xb) (List.mem_filter.mp (by rw [show List.filter _ fd = lotOf fd _ from rfl, hso]; simp)).1
          simp only [lits] at la lb
          simp_arith! [M.bind_assoc']
          rw [lcK_fil (fun l => !isIn l [.list xa, .list xb])]
          case hz => omega
          case h =>
            intro l hl
            refine ⟨_, rfl, ?_, rfl⟩
            simp_arith! [wipeE, vIn_IL (il l hl) so1]
          have hfl : (fd.filter fun l => !isIn l [PyData.list xa, .list xb]).length ≤ fd.length := List.length_filter_le ..
          simp_arith only [lx0, lx1, List.map_map, datas_app, datas_map, List.append_nil, small_of]
          have efl : [PyData.list xa, .list xb].flatMap lits = xa ++ xb := by simp [List.flatMap_cons, lits]
          rw [efl] at hL2 ⊢
          generalize hq : noLs (List.filter (fun l => !isIn l [PyData.list xa, PyData.list xb]) fd ++ [PyData.list (xa ++ xb)]) = kk
          cases kk <;> exact ⟨_, rfl, hL2, _, _, _, .inl rfl, rfl⟩
  · obtain ⟨hL, o3, o5, o6, h3, rfl⟩ := hI
    have hlen := hL.len
    rcases h3 with rfl | rfl
    all_goals
      simp_arith! [M.bind_assoc']
      rw [lcK_mp (fun l => .tuple (srt (lits l)))]
      case hz => omega
      case h =>
        intro l hl
        have h1 := hL.one hl
        obtain ⟨xs, rfl, _, hx⟩ := hL.lm l hl
        refine ⟨_, rfl, rfl, .dat (.tuple (srt xs)), ?_, rfl⟩
        have hxl : xs.length ≤ m := h1
        simp_arith! [wipeE, vSorted_ok (canSort_ps fun p hp => (hx p hp).1) (by omega), vTuple_l]
      simp_arith! [DL.okb]
end
end Lw

namespace Lw
open PySem (PyData Addr Str)
open DL
section
variable {ns as bs nd fr fi S T : List D} {m : Nat}
theorem sum_ni : ∀ {xs : List D}, (∀ x ∈ xs, isNI x = true) → isIn .none xs = false → intsO xs = some (xs.map toI)
  | [], _, _ => rfl
  | x :: xs, h, e => by
    have e2 : (PyData.eqv x .none || isIn .none xs) = false := e
    rw [Bool.or_eq_false_iff] at e2
    have ih := sum_ni (fun y hy => h y (List.mem_cons_of_mem _ hy)) e2.2
    have hx := h x (List.mem_cons_self ..)
    cases x <;> first | (cases hx; done) | skip
    · simp [PyData.eqv] at e2
    · simp only [intsO, ih, Option.map_some, List.map_cons, toI]
theorem vSum_ni {xs : List D} (h : ∀ x ∈ xs, isNI x = true) (e : isIn .none xs = false) : vSum (.list xs) = .ok (.dat (.int (xs.map toI).sum)) := by
  show (match intsO xs with | some bs => M.ok (Wv.dat (PyData.int bs.sum)) | none => M.bad) = _
  rw [sum_ni h e]
theorem row_ni {xs : List D} (hn : nd.length = m) (hd : ∀ x ∈ nd, isNI x = true) (hx : ∀ p ∈ xs, isPs m p) : ∀ x ∈ xs.map (atN nd), isNI x = true := by
  intro x h
  obtain ⟨p, hp, rfl⟩ := List.mem_map.mp h
  exact hd _ (atN_mem (by rw [hn]; exact hx p hp))
theorem noLs_ni {xs : List D} (h : ∀ x ∈ xs, isNI x = true) : noLs xs = true := by
  induction xs with
  | nil => rfl
  | cons x xs ih =>
    have hx := h x (List.mem_cons_self ..)
    rw [noLs_cons, ih fun y hy => h y (List.mem_cons_of_mem _ hy)]
    cases x <;> first | rfl | cases hx
theorem r_odd_by (hm : m < 9) (hb : Bar m S T) (hn : nd.length = m) (hd : ∀ x ∈ nd, isNI x = true) (hf : ∀ d ∈ fr, isPr (m : Int) d = true) (hl : fr.length ≤ 1000) : g_odd_by [.dat (.list nd), .dat (.list fr), .dat (.tuple [.tuple S, .tuple T])] = .ok (.own (oddD m nd fr S T)) := by
  have e1 := r_inner_pairs hb hf hl
  have e2 := r_lots (fi := innerD fr S T) hm hb hn (fun d h => hf d (List.mem_filter.mp h).1) (Nat.le_trans (List.length_filter_le ..) hl)
  rw [show ((innerD fr S T).foldl stepL (lump0 m S T)).map (fun l => PyData.tuple (srt (lits l))) = lotsD m fr S T from rfl] at e2
  have ll := lotsD_len (m := m) (fr := fr) (S := S) (T := T)
  simp_arith! [g_odd_by, b_odd_by, e1, e2, M.bind_assoc']
  refine loopApp (oddL nd fr T) id (fun acc ρ => ∃ o4 o5, ρ = [some (.dat (.list nd)), some (.dat (.list fr)), some (.dat (.tuple [.tuple S, .tuple T])), some (.own acc), o4, o5, none, none]) ⟨_, _, rfl⟩ (by omega) (fun acc ρ hacc hJ d hdd => ?_) (fun ρ' hJ => ?_)
  · obtain ⟨o4, o5, rfl⟩ := hJ
    obtain ⟨l, rfl, hne, hlm, hp⟩ := lotsD_lt hdd
    have hps : ∀ p ∈ l, isPs m p := fun p h => (hp p h).1
    have hni : ∀ p ∈ l, isNI p = true := fun p h => isPs_ni (hps p h)
    have rn := row_ni hn hd hps
    have hlr : (l.map (atN nd)).length = l.length := List.length_map ..
    refine ⟨_, rfl, ?_⟩
    simp_arith! [M.bind_assoc']
    rw [lcK_mp (atN nd)]
    case hz => omega
    case h =>
      intro p hpp
      refine ⟨_, rfl, rfl, .dat (atN nd p), ?_, rfl⟩
      simp_arith! [wipeE, vIx_at (xs := nd) (by rw [hn]; exact hps p hpp)]
    simp_arith! [noLs_ni rn, vIn_nil (p := .none) rfl rn, M.bind_assoc']
    have noT : noLs l = true := noLs_ni hni
    cases hnone : isIn .none (l.map (atN nd)) with
    | true =>
      simp_arith! [DL.okb]
      refine ⟨_, rfl, ?_⟩
      have : oddL nd fr T (.tuple l) = false := by unfold oddL; rw [show itm (.tuple l) = l from rfl, hnone]; rfl
      rw [this]
      exact ⟨_, _, rfl⟩
    | false =>
      simp_arith! [vSum_ni rn hnone, M.bind_assoc']
      rw [lcK_fil (btwD l T)]
      case hz => omega
      case h =>
        intro d hdf
        refine ⟨_, rfl, ?_, rfl⟩
        simp_arith! [wipeE, ix1, r_is_between (hf d hdf) hni hb.qt]
      have md := opMod_e (i := ((l.map (atN nd)).map toI).sum + ((fr.filter (btwD l T)).length : Nat)) (j := 2) (by decide)
      simp_arith! [md]
      have ho : oddL nd fr T (.tuple l) = decide ((((l.map (atN nd)).map toI).sum + ((fr.filter (btwD l T)).length : Nat)) % 2 = 1) := by unfold oddL; rw [show itm (.tuple l) = l from rfl, hnone]; rfl
      rw [ho]
      cases hk : decide ((((l.map (atN nd)).map toI).sum + ((fr.filter (btwD l T)).length : Nat)) % 2 = 1) with
      | true =>
        simp_arith only [noT, small_of]
        exact ⟨_, rfl, _, _, rfl⟩
      | false =>
        simp_arith! [DL.okb]
        exact ⟨_, rfl, _, _, rfl⟩
  · obtain ⟨o4, o5, rfl⟩ := hJ
    rw [List.map_id]
    have hs : ∀ l ∈ (lotsD m fr S T).filter (oddL nd fr T), isLt m S T l := fun l h => lotsD_lt (List.mem_filter.mp h).1
    have hz : ((lotsD m fr S T).filter (oddL nd fr T)).length ≤ 1000000 := Nat.le_trans (List.length_filter_le ..) (by omega)
    simp_arith! [vSorted_ok (canSort_lots hs) hz]
    rfl
theorem r_slack_by (hm : m < 9) (hb : Bar m S T) (hn : nd.length = m) (hd : ∀ x ∈ nd, isNI x = true) (hf : ∀ d ∈ fr, isPr (m : Int) d = true) (hl : fr.length ≤ 1000) : g_slack_by [.dat (.list nd), .dat (.list fr), .dat (.tuple [.tuple S, .tuple T])] = .ok (.dat (.int (slackD m nd fr S T))) := by
  have e1 := r_odd_by hm hb hn hd hf hl
  have at_ : ∀ p, isPs m p → vIx (.list nd) p = .ok (.dat (atN nd p)) ∧ isNI (atN nd p) = true := fun p hp => ⟨vIx_at (by rw [hn]; exact hp), hd _ (atN_mem (by rw [hn]; exact hp))⟩
  simp_arith! [g_slack_by, b_slack_by, ix0, M.bind_assoc']
  refine loopF (fun (f : Int) ρ => ∃ o4, ρ = [some (.dat (.list nd)), some (.dat (.list fr)), some (.dat (.tuple [.tuple S, .tuple T])), some (.dat (.int f)), o4, none, none]) (fun f p => f + needAt nd fr p) 0 ⟨_, rfl⟩ (fun f ρ hI p hp => ?_) (fun ρ' hI => ?_)
  · obtain ⟨o4, rfl⟩ := hI
    obtain ⟨a1, a2⟩ := at_ p (hb.ps p hp)
    have hpn := hb.qs p hp
    refine ⟨_, rfl, ?_⟩
    unfold needAt
    generalize atN nd p = n at a1 a2 ⊢
    cases n <;> first | (cases a2; done) | skip
    · simp_arith! [a1, isNon_none, M.bind_assoc']
      rw [lcK_fil (fun d => isIn p (itm d))]
      case hz => omega
      case h =>
        intro d hdf
        obtain ⟨i, j, rfl, _⟩ := isPr_iff.mp (hf d hdf)
        refine ⟨_, rfl, ?_, rfl⟩
        simp_arith! [wipeE, vIn_tuple (a := p) (xs := [.int i, .int j]) (shaped_ni hpn) rfl, itm]
      simp_arith! [DL.okb]
      exact ⟨_, rfl, _, rfl⟩
    · simp_arith! [a1, isNon_int]
      exact ⟨_, rfl, _, rfl⟩
  · obtain ⟨o4, rfl⟩ := hI
    rw [show S.foldl (fun f p => f + needAt nd fr p) 0 = slack1 nd fr S from rfl]
    simp_arith! [M.bind_assoc']
    rw [lcK_fil (fun d => !isIn (fst' d) S && !isIn (snd' d) S)]
    case hz => omega
    case h =>
      intro d hdf
      obtain ⟨i, j, rfl, _⟩ := pr_of (hf d hdf)
      refine ⟨_, rfl, tand_ok ?_ fun _ => ?_, rfl⟩
      · simp_arith! [wipeE, ix0, vIn_ni (p := .int (i : Int)) rfl hb.qs]; rfl
      · simp_arith! [wipeE, ix0, ix1, vIn_ni (p := .int (j : Int)) rfl hb.qs]; rfl
    have hno : noLs (fr.filter fun d => !isIn (fst' d) S && !isIn (snd' d) S) = true := noLs_pairs fun x hx => hf x (List.mem_filter.mp hx).1
    have hol : (fr.filter fun d => !isIn (fst' d) S && !isIn (snd' d) S).length ≤ 1000 := Nat.le_trans (List.length_filter_le ..) hl
    simp_arith! [hno, ix1, M.bind_assoc']
    refine loopF (fun (f : Int) ρ => ∃ o4, ρ = [some (.dat (.list nd)), some (.dat (.list fr)), some (.dat (.tuple [.tuple S, .tuple T])), some (.dat (.int f)), o4, none, some (.own (fr.filter fun d => !isIn (fst' d) S && !isIn (snd' d) S))]) (fun f p => f + (outD fr S p : Nat) - needOr nd p) (slack1 nd fr S) ⟨_, rfl⟩ (fun f ρ hI p hp => ?_) (fun ρ' hI => ?_)
    · obtain ⟨o4, rfl⟩ := hI
      obtain ⟨a1, a2⟩ := at_ p (hb.pt p hp)
      have hpn := hb.qt p hp
      refine ⟨_, rfl, ?_⟩
      unfold needOr
      generalize atN nd p = n at a1 a2 ⊢
      simp_arith! [M.bind_assoc']
      rw [lcK_fil (fun d => isIn p (itm d))]
      case hz => omega
      case h =>
        intro d hdf
        obtain ⟨i, j, rfl, _⟩ := isPr_iff.mp (hf d (List.mem_filter.mp hdf).1)
        refine ⟨_, rfl, ?_, rfl⟩
        simp_arith! [wipeE, vIn_tuple (a := p) (xs := [.int i, .int j]) (shaped_ni hpn) rfl, itm]
      have ho : ((fr.filter fun d => !isIn (fst' d) S && !isIn (snd' d) S).filter fun d => isIn p (itm d)).length = outD fr S p := by rw [List.filter_filter]; rfl
      cases n <;> first | (cases a2; done) | skip
      · simp_arith! [a1, isNon_none, ho]
        exact ⟨_, rfl, _, rfl⟩
      · simp_arith! [a1, isNon_int, ho]
        exact ⟨_, rfl, _, rfl⟩
    · obtain ⟨o4, rfl⟩ := hI
      rw [show T.foldl (fun f p => f + (outD fr S p : Nat) - needOr nd p) (slack1 nd fr S) = slack2 nd fr S T from rfl]
      simp_arith! [e1]
      rfl
end
end Lw

namespace DL
open PySem (PyData Addr Str)
/-- one row of a bar, a bar: any objects -/
def isSd (m : Int) (d : D) : Bool := isRis d && (itm d).all fun x => decide (toI x < m)
def isBr (m : Int) : D → Bool
  | .tuple [s, t] => isSd m s && (isSd m t && !(itm s).any fun p => isIn p (itm t))
  | _ => false
theorem isBr_len {m : Int} {xs : List D} (h : xs.length ≠ 2) : isBr m (.tuple xs) = false := by
  unfold isBr
  split
  · rename_i e
    cases e
    exact absurd rfl h
  · rfl
theorem isRis_cnt {xs : List D} (h : isRis (.tuple xs) = true) : xs.all isCnt = true := by
  unfold isRis at h
  exact (Bool.and_eq_true_iff.mp h).1
theorem isSd_tuple {m : Int} {d : D} (h : isSd m d = true) : ∃ xs, d = .tuple xs ∧ xs.all isCnt = true ∧ adj xs = true ∧ ∀ x ∈ xs, toI x < m := by
  unfold isSd at h
  obtain ⟨h1, h2⟩ := Bool.and_eq_true_iff.mp h
  cases d <;> first | (cases h1; done) | skip
  rename_i xs
  unfold isRis at h1
  obtain ⟨h3, h4⟩ := Bool.and_eq_true_iff.mp h1
  exact ⟨xs, rfl, h3, h4, fun x hx => of_decide_eq_true (List.all_eq_true.mp h2 x hx)⟩
theorem isCnt_ps {m : Nat} {x : D} (h : isCnt x = true) (h2 : toI x < m) : isPs m x := by
  obtain ⟨i, rfl, h0⟩ := isCnt_iff.mp h
  obtain ⟨k, rfl⟩ := Int.eq_ofNat_of_zero_le h0
  exact ⟨k, by simpa [toI] using h2, rfl⟩
theorem isCnt_ni {x : D} (h : isCnt x = true) : isNI x = true := by obtain ⟨i, rfl, _⟩ := isCnt_iff.mp h; rfl
theorem isBr_bar {m : Nat} {d : D} (h : isBr m d = true) (hl : fnB [3, 20, 2] d = true) : ∃ S T, d = .tuple [.tuple S, .tuple T] ∧ Bar m S T := by
  unfold isBr at h
  split at h
  · rename_i s t
    obtain ⟨h1, h3⟩ := Bool.and_eq_true_iff.mp h
    have h2 := (Bool.and_eq_true_iff.mp h3).1
    obtain ⟨S, rfl, a1, _, a3⟩ := isSd_tuple h1
    obtain ⟨T, rfl, b1, _, b3⟩ := isSd_tuple h2
    obtain ⟨_, hl⟩ := fn_tuple.mp hl
    have l1 := (fn_tuple.mp (hl (.tuple S) (by simp))).1
    have l2 := (fn_tuple.mp (hl (.tuple T) (by simp))).1
    exact ⟨S, T, rfl, fun x hx => isCnt_ps (List.all_eq_true.mp a1 x hx) (a3 x hx), fun x hx => isCnt_ps (List.all_eq_true.mp b1 x hx) (b3 x hx), by omega, by omega⟩
  · cases h
theorem isSd_t {m : Int} {xs : List D} : isSd m (.tuple xs) = ((xs.all isCnt && adj xs) && xs.all fun x => decide (toI x < m)) := rfl
theorem filter_isEmpty {p : D → Bool} : ∀ {xs : List D}, (xs.filter p).isEmpty = !xs.any p
  | [] => rfl
  | x :: xs => by
    have := filter_isEmpty (p := p) (xs := xs)
    cases h : p x
    · simpa [h] using this
    · simp [h]
theorem all_and (p q : D → Bool) (xs : List D) : (xs.all fun x => p x && q x) = (xs.all p && xs.all q) := by
  induction xs with
  | nil => rfl
  | cons x xs ih => simp only [List.all_cons, ih]; cases p x <;> cases q x <;> cases xs.all p <;> rfl
end DL
namespace Lw
open PySem (PyData Addr Str)
open DL
theorem r_is_side {d : D} {m : Int} (hd : (itm d).length ≤ 1000000) : g_is_side [.dat d, .dat (.int m)] = .ok (.dat (.bool (isSd m d))) := by
  have hr := r_is_rising d hd
  refine body_rtn ?_
  unfold isSd
  refine vand_ok ?_ fun hris => ?_
  · simp_arith! [hr]
  · cases d <;> first | (cases hris; done) | skip
    rename_i xs
    have hc := isRis_cnt hris
    have hd : xs.length ≤ 1000000 := hd
    simp_arith! [M.bind_assoc']
    rw [lcK_mp (fun x => .bool (decide (toI x < m)))]
    case hz => exact hd
    case h =>
      intro x hx
      obtain ⟨i, rfl, _⟩ := isCnt_iff.mp (List.all_eq_true.mp hc x hx)
      refine ⟨_, rfl, rfl, .dat (.bool (decide (i < m))), ?_, rfl⟩
      simp_arith! [wipeE, vLt_int]
    simp_arith! [all_bools]
    rfl
theorem bx0 {a : D} {xs : List D} : vIx (.tuple (a :: xs)) (.int 0) = .ok (.dat a) := vIx_tuple (by unfold L2.atI; rw [show (0 : Int) = ((0 : Nat) : Int) from rfl, ixN_nat (by simp)]; rfl)
theorem bx1 {a b : D} {xs : List D} : vIx (.tuple (a :: b :: xs)) (.int 1) = .ok (.dat b) := vIx_tuple (by unfold L2.atI; rw [show (1 : Int) = ((1 : Nat) : Int) from rfl, ixN_nat (by simp)]; rfl)
theorem r_is_bar_of {ns as bs : List D} {d : D} (hz : Sz 2 d) : g_is_bar_of [.dat (.tuple [.tuple ns, .tuple as, .tuple bs]), .dat d] = .ok (.dat (.bool (isBr ns.length d))) := by
  cases d with
  | tuple xs =>
    by_cases hl : xs.length = 2
    · obtain ⟨s, t, rfl⟩ := two_of hl
      have zs := (hz.2 s (by simp [itm])).1
      have zt := (hz.2 t (by simp [itm])).1
      have e2 : decide ((([s, t].length : Nat) : Int) = 2) = true := rfl
      rw [List.length_cons, List.length_cons, List.length_nil] at e2
      have ea := vAll_bools (bs := [isSd ns.length s, isSd ns.length t])
      simp only [List.map_cons, List.map_nil, List.all_cons, List.all_nil, id_eq, Bool.and_true] at ea
      simp_arith! [g_is_bar_of, b_is_bar_of, isT, e2, M.bind_assoc']
      rw [lcK_mp (fun x => .bool (isSd ns.length x))]
      case hz => simp
      case h =>
        intro x hx
        have zx : (itm x).length ≤ 1000000 := (hz.2 x hx).1
        refine ⟨_, rfl, rfl, .dat (.bool (isSd ns.length x)), ?_, rfl⟩
        simp_arith! [wipeE, bx0, r_is_side zx]
      simp_arith! [ea]
      have hbr : isBr ns.length (.tuple [s, t]) = (isSd ns.length s && (isSd ns.length t && !(itm s).any fun p => isIn p (itm t))) := rfl
      rw [hbr]
      cases h1 : isSd ns.length s with
      | false => simp_arith! [DL.okb]
      | true =>
        cases h2 : isSd ns.length t with
        | false => simp_arith! [DL.okb]
        | true =>
          obtain ⟨S, rfl, a1, _, a3⟩ := isSd_tuple h1
          obtain ⟨T, rfl, b1, _, b3⟩ := isSd_tuple h2
          have zs : S.length ≤ 1000000 := zs
          simp_arith! [bx0, M.bind_assoc']
          rw [lcK_mp (fun x => .bool (isIn x T))]
          case hz => exact zs
          case h =>
            intro x hx
            refine ⟨_, rfl, rfl, .dat (.bool (isIn x T)), ?_, rfl⟩
            simp_arith! [wipeE, bx1, vIn_ni (isCnt_ni (List.all_eq_true.mp a1 x hx)) fun y hy => isCnt_ni (List.all_eq_true.mp b1 y hy)]
          simp_arith! [any_bools]
          rfl
    · have e2 : decide (((xs.length : Nat) : Int) = 2) = false := by
        rw [decide_eq_false_iff_not]
        omega
      simp_arith! [g_is_bar_of, b_is_bar_of, isT, e2, isBr_len hl]
  | _ => simp_arith! [g_is_bar_of, b_is_bar_of, isT]; rfl
end Lw

namespace Lw
open PySem (PyData Addr Str)
open DL
theorem p_pick {xs : List D} (hx : 0 < xs.length) (hz : xs.length ≤ 1000000) : Pst (g__law_pick [.pot, .dat (.list xs)]) (fun w => ∃ x ∈ xs, w = .dat x) := by
  refine ⟨?_⟩
  have dp : dPot [.pot, .dat (.int xs.length)] = .pick xs.length fun r => .ok (.dat (.int r)) := by rw [dPot_e (by omega) (by omega)]; rfl
  simp_arith! [g__law_pick, b__law_pick, g__law_below, dp]
  intro i hi
  have ix : vIx (.list xs) (.int (i : Int)) = .ok (.dat xs[i]) := vIx_list (by rw [atI_nat', List.getElem?_eq_getElem hi])
  simp_arith! [ix]
  exact ⟨_, List.getElem_mem hi, rfl⟩
end Lw

namespace DL
open PySem (PyData Addr Str)
/-! ## a draw as a promise -/
theorem p_dpot {z : Int} (h : 0 < z ∧ z < 1000000000000) : Pst (dPot [.pot, .dat (.int z)]) (fun w => ∃ k : Nat, (k : Int) < z ∧ w = .dat (.int k)) := by
  rw [dPot_e h.1 h.2]
  refine Pst.pick fun i hi => Pst.ret ⟨i, by omega, rfl⟩
end DL

namespace DL
open PySem (PyData Addr Str)
theorem cutD_sub {xs : List D} {lo hi : Option Int} : (cutD xs lo hi).length ≤ xs.length ∧ ∀ x ∈ cutD xs lo hi, x ∈ xs := by
  unfold cutD
  refine ⟨?_, fun x hx => List.mem_of_mem_drop (List.mem_of_mem_take hx)⟩
  rw [List.length_take, List.length_drop]
  omega
theorem rng_lt : ∀ m : Nat, m < 9 → (rng 0 m).Pairwise (fun a b => ltD a b = true) := by decide +kernel
theorem isPs_cnt {m : Nat} {x : D} (h : isPs m x) : isCnt x = true ∧ toI x < m := by
  obtain ⟨k, hk, rfl⟩ := h
  exact ⟨by simp [isCnt], by simp only [toI]; omega⟩
theorem rng_isPs {m : Nat} {p : D} (h : p ∈ rng 0 m) : isPs m p := by
  obtain ⟨k, hk, rfl⟩ := List.mem_map.mp h
  exact ⟨k, by simpa using hk, by simp⟩
theorem isPs_fn {m : Nat} {x : D} {ms : List Nat} (h : isPs m x) (hm : m < 1000) : fnB ms x = true := by
  obtain ⟨k, hk, rfl⟩ := h
  exact fn_sc (by unfold sc; rw [decide_eq_true_eq]; omega)
theorem Pty.fn {ns as bs : List D} (h : Pty ns as bs) : fnB [3, 28, 2] (.tuple [.tuple ns, .tuple as, .tuple bs]) = true := by
  have l9 := h.l9
  have pr : ∀ {x : D}, isPr ns.length x = true → fnB [2] x = true := fun {x} hx => by
    obtain ⟨i, j, rfl, h1, h2⟩ := pr_of hx
    refine fn_tuple.mpr ⟨by simp, fun y hy => ?_⟩
    simp only [List.mem_cons, List.not_mem_nil, or_false] at hy
    rcases hy with rfl | rfl <;> exact fn_sc (by unfold sc; rw [decide_eq_true_eq]; omega)
  have nm : ∀ x ∈ ns, fnB [2] x = true := fun x hx => by
    have := h.nm x hx
    cases x <;> first | (cases this; done) | exact fn_sc rfl | skip
    refine fn_sc ?_
    simp only [isNm, Bool.and_eq_true, decide_eq_true_eq] at this
    unfold sc
    rw [decide_eq_true_eq]
    omega
  have h1 : fnB [28, 2] (.tuple ns) = true := fn_tuple.mpr ⟨by omega, nm⟩
  have h2 : fnB [28, 2] (.tuple as) = true := fn_tuple.mpr ⟨h.la, fun x hx => pr (h.pa x hx)⟩
  have h3 : fnB [28, 2] (.tuple bs) = true := fn_tuple.mpr ⟨h.lb, fun x hx => pr (h.pb x hx)⟩
  exact fn_tuple.mpr ⟨by simp, by simp [h1, h2, h3]⟩
end DL

namespace DL
open PySem (PyData Addr Str)
/-! ## data that == takes -/
def Lay (n : Nat) (d : D) : Prop := PyData.canLay0 d = true ∧ d.depth ≤ n
theorem Lay.ni {d : D} (h : isNI d = true) : Lay 1 d := ⟨lay_ni h, dep_ni h⟩
theorem Lay.mono {n k : Nat} {d : D} (h : Lay n d) (e : n ≤ k) : Lay k d := ⟨h.1, Nat.le_trans h.2 e⟩
theorem Lay.tup {n : Nat} {xs : List D} (h : ∀ x ∈ xs, Lay n x) : Lay (n + 1) (.tuple xs) := by
  refine ⟨?_, ?_⟩
  · unfold PyData.canLay0
    exact canLay_all fun x hx => (h x hx).1
  · have := depth_all fun x hx => (h x hx).2
    unfold PyData.depth
    omega
theorem Lay.lst {n : Nat} {xs : List D} (h : ∀ x ∈ xs, Lay n x) : Lay (n + 1) (.list xs) := by
  refine ⟨?_, ?_⟩
  · unfold PyData.canLay0
    exact canLay_all fun x hx => (h x hx).1
  · have := depth_all fun x hx => (h x hx).2
    unfold PyData.depth
    omega
theorem Lay.shaped {n : Nat} {d : D} (h : Lay n d) (hn : n ≤ 50) : PySem.SeqAt.shaped d = true := by
  unfold PySem.SeqAt.shaped
  rw [h.1, Bool.true_and, decide_eq_true_eq]
  have := h.2
  omega
theorem vEq_self {n : Nat} {d : D} (h : Lay n d) (hn : n ≤ 50) : vEq d d = .ok true := by
  rw [vEq_of (h.shaped hn) (h.shaped hn), PySem.SeqAt.eqv_refl d h.1]
theorem Lay.pr {m : Int} {d : D} (h : isPr m d = true) : Lay 2 d := by
  obtain ⟨i, j, rfl, _⟩ := isPr_iff.mp h
  exact Lay.tup fun x hx => Lay.ni (by simp only [List.mem_cons, List.not_mem_nil, or_false] at hx; rcases hx with rfl | rfl <;> rfl)
theorem Lay.p3 {ns as bs : List D} {m m' : Int} (hn : ∀ x ∈ ns, isNI x = true) (ha : ∀ x ∈ as, isPr m x = true) (hb : ∀ x ∈ bs, isPr m' x = true) : Lay 4 (.tuple [.tuple ns, .tuple as, .tuple bs]) := by
  refine Lay.tup fun x hx => ?_
  simp only [List.mem_cons, List.not_mem_nil, or_false] at hx
  rcases hx with rfl | rfl | rfl
  · exact (Lay.tup fun x hx => Lay.ni (hn x hx)).mono (by decide)
  · exact Lay.tup fun x hx => Lay.pr (ha x hx)
  · exact Lay.tup fun x hx => Lay.pr (hb x hx)
theorem Pty.lay {ns as bs : List D} (h : Pty ns as bs) : Lay 4 (.tuple [.tuple ns, .tuple as, .tuple bs]) := Lay.p3 (fun x hx => isNm_ni (h.nm x hx)) h.pa h.pb
/-! ## two persons exchanged -/
theorem srt_two {a b : Int} : srt [.int a, .int b] = if b < a then [.int b, .int a] else [.int a, .int b] := by
  have e : PySem.W.dataLe false id (PyData.int a) (PyData.int b) = !decide (b < a) := by
    show (!PySem.W.dataLt (.int b) (.int a)) = _
    rw [PySem.W.dataLt_int]
  unfold srt
  by_cases h : b < a
  · rw [if_pos h]
    simp [List.mergeSort, List.MergeSort.Internal.splitInTwo, List.merge, e, h]
  · rw [if_neg h]
    simp [List.mergeSort, List.MergeSort.Internal.splitInTwo, List.merge, e, h]
def swD (i j : Int) (p : D) : D := if toI p = i then .int j else if toI p = j then .int i else p
def tpD (i j : Int) (d : D) : D := .tuple [.int (lowOf [toI (swD i j (fst' d)), toI (swD i j (snd' d))]), .int (topOf [toI (swD i j (fst' d)), toI (swD i j (snd' d))])]
theorem low2 {a b : Int} : lowOf [a, b] = if b < a then b else a := rfl
theorem top2 {a b : Int} : topOf [a, b] = if b > a then b else a := rfl
theorem toI_swD {i j : Int} {p : D} : toI (swD i j p) = if toI p = i then j else if toI p = j then i else toI p := by
  unfold swD
  split
  · rfl
  · split <;> rfl
theorem swD_ps {m : Nat} {i j : Nat} {p : D} (hi : i < m) (hj : j < m) (hp : isPs m p) : isPs m (swD i j p) := by
  unfold swD
  split
  · exact ⟨j, hj, rfl⟩
  · split
    · exact ⟨i, hi, rfl⟩
    · exact hp
theorem tpD_pr {m : Nat} {i j : Nat} {d : D} (hi : i < m) (hj : j < m) (hd : isPr (m : Int) d = true) : isPr (m : Int) (tpD i j d) = true := by
  obtain ⟨a, b, rfl, h1, h2⟩ := pr_of hd
  show isPr m (.tuple [.int (lowOf [toI (swD i j (.int a)), toI (swD i j (.int b))]), .int (topOf [toI (swD i j (.int a)), toI (swD i j (.int b))])]) = true
  obtain ⟨x, ex⟩ : ∃ x : Int, toI (swD i j (.int a)) = x := ⟨_, rfl⟩
  obtain ⟨y, ey⟩ : ∃ y : Int, toI (swD i j (.int b)) = y := ⟨_, rfl⟩
  have hx : x = if (a : Int) = i then (j : Int) else if (a : Int) = j then (i : Int) else a := by rw [← ex, toI_swD]; rfl
  have hy : y = if (b : Int) = i then (j : Int) else if (b : Int) = j then (i : Int) else b := by rw [← ey, toI_swD]; rfl
  rw [ex, ey, low2, top2]
  have hx0 : 0 ≤ x ∧ x < m := by rw [hx]; repeat' split <;> omega
  have hy0 : 0 ≤ y ∧ y < m := by rw [hy]; repeat' split <;> omega
  have hxy : x ≠ y := by
    rw [hx, hy]
    split <;> split <;> (try split) <;> (try split) <;> omega
  refine isPr_iff.mpr ⟨_, _, rfl, ?_⟩
  split <;> split <;> omega
theorem tpD_srt {i j : Int} {d : D} {m : Nat} (h1 : isPs m (swD i j (fst' d))) (h2 : isPs m (swD i j (snd' d))) : .tuple (srt [swD i j (fst' d), swD i j (snd' d)]) = tpD i j d := by
  obtain ⟨a, _, ea⟩ := h1
  obtain ⟨b, _, eb⟩ := h2
  unfold tpD
  rw [ea, eb, srt_two]
  show _ = PyData.tuple [.int (lowOf [(a : Int), b]), .int (topOf [(a : Int), b])]
  rw [low2, top2]
  by_cases h : (b : Int) < a
  · rw [if_pos h, if_pos h, if_neg (by omega)]
  · rw [if_neg h, if_neg h]
    by_cases h2 : (b : Int) > a
    · rw [if_pos h2]
    · rw [if_neg h2]
      have : (a : Int) = b := by omega
      rw [this]
def swL (ns : List D) (i j : Nat) : List D := (ns.set i (atN ns (.int j))).set j (atN ns (.int i))
theorem rng_map (ns : List D) : (rng 0 ns.length).map (atN ns) = ns := by
  apply List.ext_getElem?
  intro k
  unfold rng
  rw [List.map_map, List.getElem?_map]
  by_cases h : k < ns.length
  · rw [List.getElem?_eq_getElem (by simpa using h), List.getElem?_eq_getElem h]
    simp [atN, toI, List.getElem?_eq_getElem h]
  · rw [List.getElem?_eq_none (by simpa using h), List.getElem?_eq_none (by omega)]
    rfl
def plD (m i j : Nat) : List D := ((rng 0 m).set i (.int j)).set j (.int i)
theorem swL_map {ns : List D} {i j : Nat} : (plD ns.length i j).map (atN ns) = swL ns i j := by
  unfold plD swL
  rw [List.map_set, List.map_set, rng_map]
theorem plD_len {m i j : Nat} : (plD m i j).length = m := by unfold plD; rw [List.length_set, List.length_set]; simp [rng]
theorem plD_ps {m i j : Nat} (hi : i < m) (hj : j < m) {p : D} (h : p ∈ plD m i j) : isPs m p := by
  unfold plD at h
  rcases List.mem_or_eq_of_mem_set h with h | rfl
  · rcases List.mem_or_eq_of_mem_set h with h | rfl
    · exact rng_isPs h
    · exact ⟨j, hj, rfl⟩
  · exact ⟨i, hi, rfl⟩
theorem plD_at {m i j : Nat} (hi : i < m) (hj : j < m) {p : D} (h : isPs m p) : atN (plD m i j) p = swD i j p := by
  obtain ⟨k, hk, rfl⟩ := h
  have e : swD (i : Int) j (.int (k : Int)) = if (k : Int) = i then .int (j : Int) else if (k : Int) = j then .int (i : Int) else .int (k : Int) := rfl
  rw [e]
  show (((((List.range m).map fun (i : Nat) => PyData.int (0 + (i : Int))).set i (.int j)).set j (.int i))[((k : Int)).toNat]?).getD .none = _
  rw [Int.toNat_natCast]
  by_cases h2 : j = k
  · subst h2
    rw [List.getElem?_set_self (by simpa using hj)]
    by_cases h1 : (j : Int) = i
    · have : j = i := by omega
      subst this
      simp
    · rw [if_neg h1, if_pos rfl]; rfl
  · rw [List.getElem?_set_ne h2]
    by_cases h1 : i = k
    · subst h1
      rw [List.getElem?_set_self (by simpa using hk), if_pos rfl]; rfl
    · rw [List.getElem?_set_ne h1, if_neg (by omega), if_neg (by omega)]
      simp [hk]
def turnD (ns as bs : List D) (i j : Nat) : D := .tuple [.tuple (swL ns i j), .tuple (srt (as.map (tpD i j))), .tuple (srt (bs.map (tpD i j)))]
end DL

namespace DL
open PySem (PyData Addr Str)
/-! ## rows of different pairs, sorted -/
theorem srt_adj {xs : List D} {m : Int} (h : ∀ x ∈ xs, isPr m x = true) (hn : xs.Pairwise (· ≠ ·)) : adj (srt xs) = true := by
  have h1 : (srt xs).Pairwise (fun a b => PySem.W.dataLe false id a b = true) := PySem.W.sort_pairwise (PySem.W.sortLe_total _ _ _) xs
  have h2 : (srt xs).Pairwise (· ≠ ·) := (srt_perm xs).symm.pairwise hn fun h => h.symm
  have h3 : ∀ x ∈ srt xs, isPr m x = true := fun x hx => h x (srt_mem.mp hx)
  refine adj_of (List.Pairwise.imp_of_mem (fun {a b} ha hb z => ?_) (h1.and h2))
  obtain ⟨i, j, rfl, _⟩ := isPr_iff.mp (h3 a ha)
  obtain ⟨k, l, rfl, _⟩ := isPr_iff.mp (h3 b hb)
  have e : (!PySem.W.dataLt (.tuple [.int k, .int l]) (.tuple [.int i, .int j])) = true := z.1
  rw [PySem.W.dataLt_ii, Bool.not_eq_true', decide_eq_false_iff_not] at e
  rw [ltD_pair, decide_eq_true_eq]
  have ne : ¬ (i = k ∧ j = l) := fun ⟨a, b⟩ => z.2 (by rw [a, b])
  omega
theorem row_of {xs : List D} {m : Int} (h : ∀ x ∈ xs, isPr m x = true) (hn : xs.Pairwise (· ≠ ·)) : isRow m (.tuple (srt xs)) = true := by
  simp only [isRow, Bool.and_eq_true, List.all_eq_true]
  exact ⟨fun x hx => h x (srt_mem.mp hx), srt_adj h hn⟩
theorem pty_of {ns as bs : List D} (l1 : 1 ≤ ns.length) (l8 : ns.length ≤ 8) (hn : ∀ x ∈ ns, isNm x = true) (ha : ∀ x ∈ as, isPr ns.length x = true) (hb : ∀ x ∈ bs, isPr ns.length x = true)
    (na : as.Pairwise (· ≠ ·)) (nb : bs.Pairwise (· ≠ ·)) (dj : ∀ x ∈ as, x ∉ bs) : isPty (.tuple [.tuple ns, .tuple (srt as), .tuple (srt bs)]) = true := by
  have h1 : ns.all isNm = true := List.all_eq_true.mpr hn
  have hb2 : ∀ x ∈ srt bs, isPr ns.length x = true := fun x hx => hb x (srt_mem.mp hx)
  have h2 : ((itm (.tuple (srt as))).any fun p => isIn p (itm (.tuple (srt bs)))) = false := by
    rw [List.any_eq_false]
    intro x hx e
    have hx := srt_mem.mp hx
    exact dj x hx (srt_mem.mp ((isIn_pairs (ha x hx) hb2).mp e))
  simp only [isPty, row_of ha na, row_of hb nb, h1, h2, Bool.and_true, Bool.not_false, Bool.and_eq_true, decide_eq_true_eq]
  omega
/-! ## persons moved -/
def mvD (m : Int) (d : D) : D := .tuple [.int (toI (fst' d) + m), .int (toI (snd' d) + m)]
def acrD (m k : Nat) : List D := (rng 0 m).flatMap fun p => (rng 0 k).map fun q => .tuple [p, .int ((m : Int) + toI q)]
def code (d : D) : Int × Int := (toI (fst' d), toI (snd' d))
def uncode (c : Int × Int) : D := .tuple [.int c.1, .int c.2]
theorem code_pr {m : Int} {d : D} (h : isPr m d = true) : uncode (code d) = d := by
  obtain ⟨i, j, rfl, _⟩ := isPr_iff.mp h
  rfl
theorem code_inj {m m' : Int} {xs ys : List D} (hx : ∀ x ∈ xs, isPr m x = true) (hy : ∀ y ∈ ys, isPr m' y = true) (h : xs.map code = ys.map code) : xs = ys := by
  have e1 : (xs.map code).map uncode = xs := by
    rw [List.map_map]
    conv => rhs; rw [← List.map_id xs]
    exact List.map_congr_left fun x hx' => code_pr (hx x hx')
  have e2 : (ys.map code).map uncode = ys := by
    rw [List.map_map]
    conv => rhs; rw [← List.map_id ys]
    exact List.map_congr_left fun x hx' => code_pr (hy x hx')
  rw [← e1, ← e2, h]
def midD (m : Nat) (d : D) : Bool := decide (toI (fst' d) < m) && decide ((m : Int) ≤ toI (snd' d))
theorem acr_code : ∀ m : Nat, m < 9 → ∀ k : Nat, k < 9 → m + k < 9 → (acrD m k).map code = ((pairsOf (m + k)).filter (midD m)).map code := by decide +kernel
theorem acr_pr {m k : Nat} {d : D} (h : d ∈ acrD m k) : isPr ((m + k : Nat) : Int) d = true ∧ toI (fst' d) < m ∧ (m : Int) ≤ toI (snd' d) := by
  unfold acrD at h
  obtain ⟨p, hp, h⟩ := List.mem_flatMap.mp h
  obtain ⟨q, hq, rfl⟩ := List.mem_map.mp h
  obtain ⟨a, ha, rfl⟩ := rng_isPs hp
  obtain ⟨b, hb, rfl⟩ := rng_isPs hq
  refine ⟨isPr_iff.mpr ⟨_, _, rfl, ?_⟩, ?_, ?_⟩ <;> simp only [fst', snd', toI] <;> omega
theorem acr_eq {m k : Nat} (h : m + k < 9) : acrD m k = (pairsOf (m + k)).filter (midD m) :=
  code_inj (m := ((m + k : Nat) : Int)) (m' := ((m + k : Nat) : Int)) (fun _ hx => (acr_pr hx).1) (fun _ hy => pairsOf_pr (List.mem_filter.mp hy).1) (acr_code m (by omega) k (by omega) h)
theorem mv_pr {m k : Nat} {d : D} (h : isPr (k : Int) d = true) : isPr ((m + k : Nat) : Int) (mvD m d) = true ∧ (m : Int) ≤ toI (fst' (mvD m d)) := by
  obtain ⟨a, b, rfl, h1, h2⟩ := pr_of h
  refine ⟨isPr_iff.mpr ⟨_, _, rfl, ?_⟩, ?_⟩ <;> simp only [fst', snd', toI, mvD] <;> omega
theorem mv_inj {m : Int} {k : Nat} {a b : D} (ha : isPr (k : Int) a = true) (hb : isPr (k : Int) b = true) (h : mvD m a = mvD m b) : a = b := by
  obtain ⟨i, j, rfl, _⟩ := pr_of ha
  obtain ⟨k, l, rfl, _⟩ := pr_of hb
  simp only [mvD, fst', snd', toI, PyData.tuple.injEq, List.cons.injEq, PyData.int.injEq, and_true] at h
  obtain ⟨h1, h2⟩ := h
  have e1 : (i : Int) = k := by omega
  have e2 : (j : Int) = l := by omega
  rw [e1, e2]
theorem pr_wide {m k : Nat} {d : D} (h : isPr (m : Int) d = true) : isPr ((m + k : Nat) : Int) d = true ∧ toI (snd' d) < m ∧ toI (fst' d) < m := by
  obtain ⟨a, b, rfl, h1, h2⟩ := pr_of h
  refine ⟨isPr_iff.mpr ⟨_, _, rfl, ?_⟩, ?_, ?_⟩ <;> (try simp only [fst', snd', toI]) <;> omega
theorem ne_of_sub {xs : List D} {m : Nat} (hm : m < 9) (h : xs.Sublist (pairsOf m)) : xs.Pairwise (· ≠ ·) := by
  refine List.Pairwise.sublist h (List.Pairwise.imp_of_mem (fun {a b} ha hb e z => ?_) (pairsOf_nodup m hm))
  subst z
  obtain ⟨i, j, rfl, _⟩ := pr_of (pairsOf_pr ha)
  rw [eqv_pair] at e
  simp at e
theorem acr_ne {m k : Nat} (h : m + k < 9) : (acrD m k).Pairwise (· ≠ ·) := by
  rw [acr_eq h]
  exact ne_of_sub h List.filter_sublist
/-- the party of two parties that are apart -/
theorem join_pty {ns as bs ms cs ds : List D} (h : Pty ns as bs) (g : Pty ms cs ds) (hl : ns.length + ms.length < 9) :
    isPty (.tuple [.tuple (ns ++ ms), .tuple (srt (as ++ cs.map (mvD ns.length))), .tuple (srt (bs ++ (ds.map (mvD ns.length) ++ acrD ns.length ms.length)))]) = true := by
  have h1 := h.l1
  have nm : ∀ {xs : List D}, xs.Sublist (pairsOf ms.length) → (xs.map (mvD ns.length)).Pairwise (· ≠ ·) := fun {xs} hs => by
    rw [List.pairwise_map]
    refine List.Pairwise.imp_of_mem (fun {a b} ha hb ne e => ne (mv_inj (pairsOf_pr (hs.subset ha)) (pairsOf_pr (hs.subset hb)) e)) (ne_of_sub g.l9 hs)
  have ll : (ns ++ ms).length = ns.length + ms.length := List.length_append
  have pa : ∀ {x : D}, isPr ns.length x = true → isPr ((ns ++ ms).length : Int) x = true := fun hx => by rw [ll]; exact (pr_wide hx).1
  have pm : ∀ {x : D}, isPr ms.length x = true → isPr ((ns ++ ms).length : Int) (mvD ns.length x) = true := fun hx => by rw [ll]; exact (mv_pr hx).1
  refine pty_of (by rw [ll]; omega) (by rw [ll]; omega) (fun x hx => (List.mem_append.mp hx).elim (h.nm x) (g.nm x)) (fun x hx => ?_) (fun x hx => ?_) ?_ ?_ fun x hx hx2 => ?_
  · rcases List.mem_append.mp hx with hx | hx
    · exact pa (h.pa x hx)
    · obtain ⟨y, hy, rfl⟩ := List.mem_map.mp hx
      exact pm (g.pa y hy)
  · rcases List.mem_append.mp hx with hx | hx
    · exact pa (h.pb x hx)
    · rcases List.mem_append.mp hx with hx | hx
      · obtain ⟨y, hy, rfl⟩ := List.mem_map.mp hx
        exact pm (g.pb y hy)
      · rw [ll]; exact (acr_pr hx).1
  · refine List.pairwise_append.mpr ⟨ne_of_sub h.l9 h.sa, nm g.sa, fun a ha b hb e => ?_⟩
    obtain ⟨y, hy, rfl⟩ := List.mem_map.mp hb
    have q1 := (pr_wide (k := ms.length) (h.pa a ha)).2.2
    have q2 := (mv_pr (m := ns.length) (g.pa y hy)).2
    rw [e] at q1
    omega
  · refine List.pairwise_append.mpr ⟨ne_of_sub h.l9 h.sb, List.pairwise_append.mpr ⟨nm g.sb, acr_ne hl, fun a ha b hb e => ?_⟩, fun a ha b hb e => ?_⟩
    · obtain ⟨y, hy, rfl⟩ := List.mem_map.mp ha
      have q1 := (acr_pr hb).2.1
      have q2 := (mv_pr (m := ns.length) (g.pb y hy)).2
      rw [e] at q2
      omega
    · have q1 := (pr_wide (k := ms.length) (h.pb a ha)).2
      rcases List.mem_append.mp hb with hb | hb
      · obtain ⟨y, hy, rfl⟩ := List.mem_map.mp hb
        have q2 := (mv_pr (m := ns.length) (g.pb y hy)).2
        rw [← e] at q2
        omega
      · have q2 := (acr_pr hb).2.2
        rw [← e] at q2
        omega
  · rcases List.mem_append.mp hx with hx | hx
    · have q1 := (pr_wide (k := ms.length) (h.pa x hx)).2
      rcases List.mem_append.mp hx2 with hx2 | hx2
      · exact h.dj x hx hx2
      · rcases List.mem_append.mp hx2 with hx2 | hx2
        · obtain ⟨y, hy, rfl⟩ := List.mem_map.mp hx2
          have q2 := (mv_pr (m := ns.length) (g.pb y hy)).2
          omega
        · have q2 := (acr_pr hx2).2.2
          omega
    · obtain ⟨y, hy, rfl⟩ := List.mem_map.mp hx
      have q1 := (mv_pr (m := ns.length) (g.pa y hy)).2
      rcases List.mem_append.mp hx2 with hx2 | hx2
      · have q2 := (pr_wide (k := ms.length) (h.pb _ hx2)).2.2
        omega
      · rcases List.mem_append.mp hx2 with hx2 | hx2
        · obtain ⟨z, hz, e⟩ := List.mem_map.mp hx2
          have := mv_inj (g.pb z hz) (g.pa y hy) e
          subst this
          exact g.dj _ hy hz
        · have q2 := (acr_pr hx2).2.1
          omega
end DL

namespace DL
open PySem (PyData Addr Str)
/-! ## sums over rows -/
def b2 (b : Bool) : Int := if b = true then 1 else 0
theorem b2_true : b2 true = 1 := rfl
theorem b2_false : b2 false = 0 := rfl
theorem b2_pos (b : Bool) : 0 ≤ b2 b ∧ b2 b ≤ 1 := by cases b <;> decide
def sm (f : D → Int) (l : List D) : Int := (l.map f).sum
theorem sm_nil {f : D → Int} : sm f [] = 0 := rfl
theorem sm_cons {f : D → Int} {x : D} {l : List D} : sm f (x :: l) = f x + sm f l := by unfold sm; rw [List.map_cons, List.sum_cons]
theorem sm_append {f : D → Int} {l k : List D} : sm f (l ++ k) = sm f l + sm f k := by
  induction l with
  | nil => rw [List.nil_append, sm_nil]; omega
  | cons x l ih => rw [List.cons_append, sm_cons, sm_cons, ih]; omega
theorem sm_congr {f g : D → Int} {l : List D} (h : ∀ x ∈ l, f x = g x) : sm f l = sm g l := by
  unfold sm
  rw [List.map_congr_left h]
theorem sm_add {f g : D → Int} {l : List D} : sm (fun x => f x + g x) l = sm f l + sm g l := by
  induction l with
  | nil => rfl
  | cons x l ih => rw [sm_cons, sm_cons, sm_cons, ih]; omega
theorem sm_sub {f g : D → Int} {l : List D} : sm (fun x => f x - g x) l = sm f l - sm g l := by
  induction l with
  | nil => rfl
  | cons x l ih => rw [sm_cons, sm_cons, sm_cons, ih]; omega
theorem sm_mul {f : D → Int} {c : Int} {l : List D} : sm (fun x => c * f x) l = c * sm f l := by
  induction l with
  | nil => rw [sm_nil, sm_nil, Int.mul_zero]
  | cons x l ih => rw [sm_cons, sm_cons, ih, Int.mul_add]
theorem sm_zero {l : List D} : sm (fun _ => 0) l = 0 := by
  induction l with
  | nil => rfl
  | cons x l ih => rw [sm_cons, ih]; rfl
theorem sm_le {f g : D → Int} {l : List D} (h : ∀ x ∈ l, f x ≤ g x) : sm f l ≤ sm g l := by
  induction l with
  | nil => exact Int.le_refl _
  | cons x l ih =>
    have a := h x (List.mem_cons_self ..)
    have b := ih fun y hy => h y (List.mem_cons_of_mem _ hy)
    rw [sm_cons, sm_cons]; omega
theorem sm_nonneg {f : D → Int} {l : List D} (h : ∀ x ∈ l, 0 ≤ f x) : 0 ≤ sm f l := by
  have := sm_le (f := fun _ => 0) (g := f) (l := l) h
  rwa [sm_zero] at this
theorem sm_swap {f : D → D → Int} {l k : List D} : sm (fun x => sm (fun y => f x y) k) l = sm (fun y => sm (fun x => f x y) l) k := by
  induction l with
  | nil => rw [sm_nil]; exact (sm_zero (l := k)).symm
  | cons x l ih =>
    rw [sm_cons, ih, ← sm_add]
    exact sm_congr fun y _ => by rw [sm_cons]
theorem sm_perm {f : D → Int} {l k : List D} (h : l.Perm k) : sm f l = sm f k := by
  induction h with
  | nil => rfl
  | cons x _ ih => rw [sm_cons, sm_cons, ih]
  | swap x y l => rw [sm_cons, sm_cons, sm_cons, sm_cons]; omega
  | trans _ _ i1 i2 => rw [i1, i2]
theorem sm_map {f : D → Int} {g : D → D} {l : List D} : sm f (l.map g) = sm (fun x => f (g x)) l := by
  unfold sm
  rw [List.map_map]; rfl
theorem sm_filter {f : D → Int} {p : D → Bool} {l : List D} : sm f (l.filter p) = sm (fun x => b2 (p x) * f x) l := by
  induction l with
  | nil => rfl
  | cons x l ih =>
    cases h : p x with
    | true => rw [List.filter_cons_of_pos h, sm_cons, sm_cons, ih, h, b2_true, Int.one_mul]
    | false => rw [List.filter_cons_of_neg (by rw [h]; exact Bool.false_ne_true), sm_cons, ih, h, b2_false, Int.zero_mul, Int.zero_add]
theorem len_sm {p : D → Bool} {l : List D} : ((l.filter p).length : Int) = sm (fun x => b2 (p x)) l := by
  induction l with
  | nil => rfl
  | cons x l ih =>
    cases h : p x with
    | true => rw [List.filter_cons_of_pos h, sm_cons, h, b2_true, List.length_cons, ← ih]; omega
    | false => rw [List.filter_cons_of_neg (by rw [h]; exact Bool.false_ne_true), sm_cons, h, b2_false, ← ih]; omega
theorem sm_even {f : D → Int} {l : List D} (h : ∀ x ∈ l, f x % 2 = 0) : sm f l % 2 = 0 := by
  induction l with
  | nil => rfl
  | cons x l ih =>
    have a := h x (List.mem_cons_self ..)
    have b := ih fun y hy => h y (List.mem_cons_of_mem _ hy)
    rw [sm_cons]; omega
theorem sm_fold {f : D → Int} : ∀ (l : List D) (z : Int), l.foldl (fun a x => a + f x) z = z + sm f l
  | [], z => by rw [sm_nil]; simp
  | x :: l, z => by rw [List.foldl_cons, sm_fold l, sm_cons]; omega
theorem sm_one {f : D → Int} {l : List D} {x : D} (h : x ∈ l) (hn : ∀ y ∈ l, 0 ≤ f y) : f x ≤ sm f l := by
  induction l with
  | nil => cases h
  | cons y l ih =>
    have a := hn y (List.mem_cons_self ..)
    have b := sm_nonneg (f := f) (l := l) fun z hz => hn z (List.mem_cons_of_mem _ hz)
    rw [sm_cons]
    rcases List.mem_cons.mp h with rfl | h
    · omega
    · have := ih h fun z hz => hn z (List.mem_cons_of_mem _ hz)
      omega
/-- one item alone, if there is more than that -/
theorem sm_two {f : D → Int} {l : List D} {x y : D} (hx : x ∈ l) (hy : y ∈ l) (hne : x ≠ y) (hn : ∀ z ∈ l, 0 ≤ f z) : f x + f y ≤ sm f l := by
  induction l with
  | nil => cases hx
  | cons z l ih =>
    have hn2 : ∀ w ∈ l, 0 ≤ f w := fun w hw => hn w (List.mem_cons_of_mem _ hw)
    have hz := hn z (List.mem_cons_self ..)
    rw [sm_cons]
    rcases List.mem_cons.mp hx with h1 | h1
    · rcases List.mem_cons.mp hy with h2 | h2
      · exact absurd (h1.trans h2.symm) hne
      · have := sm_one (f := f) h2 hn2
        rw [h1]
        omega
    · rcases List.mem_cons.mp hy with h2 | h2
      · have := sm_one (f := f) h1 hn2
        rw [h2]
        omega
      · have := ih h1 h2 hn2
        omega
/-! ## how often a person is in a row -/
def ct (p : D) (xs : List D) : Int := sm (fun q => b2 (decide (toI q = toI p))) xs
theorem ct_nonneg {p : D} {xs : List D} : 0 ≤ ct p xs := sm_nonneg fun _ _ => (b2_pos _).1
theorem ct_append {p : D} {xs ys : List D} : ct p (xs ++ ys) = ct p xs + ct p ys := sm_append
theorem ct_perm {p : D} {xs ys : List D} (h : xs.Perm ys) : ct p xs = ct p ys := sm_perm h
theorem ps_inj {m : Nat} {p q : D} (hp : isPs m p) (hq : isPs m q) (h : toI p = toI q) : p = q := by
  obtain ⟨i, _, rfl⟩ := hp
  obtain ⟨j, _, rfl⟩ := hq
  simp only [toI] at h
  rw [h]
theorem isIn_ps {m : Nat} {p : D} {xs : List D} (hp : isPs m p) (hx : ∀ x ∈ xs, isPs m x) : isIn p xs = true ↔ p ∈ xs := isIn_ni (isPs_ni hp) fun x h => isPs_ni (hx x h)
theorem ct_pos {m : Nat} {p : D} {xs : List D} (hp : isPs m p) (hx : ∀ x ∈ xs, isPs m x) : isIn p xs = true ↔ 1 ≤ ct p xs := by
  rw [isIn_ps hp hx]
  constructor
  · intro h
    have := sm_one (f := fun q => b2 (decide (toI q = toI p))) h fun _ _ => (b2_pos _).1
    simpa [b2, ct] using this
  · intro h
    induction xs with
    | nil => unfold ct at h; rw [sm_nil] at h; omega
    | cons x xs ih =>
      unfold ct at h
      rw [sm_cons] at h
      by_cases e : toI x = toI p
      · rw [ps_inj hp (hx x (List.mem_cons_self ..)) e.symm]; exact List.mem_cons_self ..
      · simp only [e, decide_false, b2_false] at h
        exact List.mem_cons_of_mem _ (ih (fun y hy => hx y (List.mem_cons_of_mem _ hy)) (by unfold ct; omega))
theorem ct_b2 {m : Nat} {p : D} {xs : List D} (hp : isPs m p) (hx : ∀ x ∈ xs, isPs m x) (h1 : ct p xs ≤ 1) : ct p xs = b2 (isIn p xs) := by
  have h0 := ct_nonneg (p := p) (xs := xs)
  have := ct_pos hp hx
  cases h : isIn p xs with
  | true => have := this.mp h; rw [b2_true]; omega
  | false =>
    rw [b2_false]
    have : ¬ 1 ≤ ct p xs := fun z => by rw [this.mpr z] at h; cases h
    omega
/-- the persons of a pair within a row -/
theorem sm_pair {m : Nat} {e : D} {xs : List D} (he : isPr (m : Int) e = true) (hx : ∀ x ∈ xs, isPs m x) : sm (fun p => b2 (isIn p (itm e))) xs = ct (fst' e) xs + ct (snd' e) xs := by
  obtain ⟨i, j, rfl, h1, h2⟩ := pr_of he
  unfold ct
  rw [← sm_add]
  refine sm_congr fun p hp => ?_
  obtain ⟨k, _, rfl⟩ := hx p hp
  have e : isIn (.int (k : Int)) (itm (.tuple [.int (i : Int), .int (j : Int)])) = (decide ((i : Int) = k) || decide ((j : Int) = k)) := by
    simp [isIn, itm, PyData.eqv]
    rfl
  rw [e]
  show b2 (decide ((i : Int) = k) || decide ((j : Int) = k)) = b2 (decide ((k : Int) = i)) + b2 (decide ((k : Int) = j))
  by_cases a : (i : Int) = k
  · have b : ¬ (j : Int) = k := by omega
    rw [decide_eq_true a, decide_eq_false b, decide_eq_true a.symm, decide_eq_false (fun z => b z.symm)]
    rfl
  · by_cases b : (j : Int) = k
    · rw [decide_eq_false a, decide_eq_true b, decide_eq_true b.symm, decide_eq_false (fun z => a z.symm)]
      rfl
    · rw [decide_eq_false a, decide_eq_false b, decide_eq_false (fun z => a z.symm), decide_eq_false (fun z => b z.symm)]
      rfl
theorem sm_at {m : Nat} {w : D → Int} {x : D} (hx : isPs m x) : sm (fun k => b2 (decide (toI x = toI k)) * w k) (rng 0 m) = w x := by
  obtain ⟨i, hi, rfl⟩ := hx
  have : ∀ n : Nat, sm (fun k => b2 (decide (toI (.int (i : Int)) = toI k)) * w k) (rng 0 n) = if i < n then w (.int (i : Int)) else 0 := by
    intro n
    induction n with
    | zero => rfl
    | succ n ihn =>
      have er : rng 0 (n + 1) = rng 0 n ++ [.int (n : Int)] := by
        unfold rng
        rw [List.range_succ, List.map_append]
        simp
      rw [er, sm_append, ihn, sm_cons, sm_nil]
      simp only [toI]
      by_cases h1 : i < n
      · rw [if_pos h1, if_pos (by omega)]
        have : ¬ (i : Int) = n := by omega
        simp [this, b2]
      · rw [if_neg h1]
        by_cases h2 : i = n
        · subst h2
          simp [b2]
        · have : ¬ (i : Int) = n := by omega
          rw [if_neg (by omega)]
          simp [this, b2]
  rw [this, if_pos hi]
/-- a sum over a row by how often each person is in it -/
theorem sm_ct {m : Nat} {w : D → Int} {xs : List D} (hx : ∀ x ∈ xs, isPs m x) : sm w xs = sm (fun k => ct k xs * w k) (rng 0 m) := by
  induction xs with
  | nil =>
    rw [sm_nil]
    refine (sm_zero (l := rng 0 m)).symm.trans (sm_congr fun k _ => ?_)
    unfold ct
    rw [sm_nil, Int.zero_mul]
  | cons x xs ih =>
    rw [sm_cons, ih fun y hy => hx y (List.mem_cons_of_mem _ hy)]
    have e : sm (fun k => ct k (x :: xs) * w k) (rng 0 m) = sm (fun k => b2 (decide (toI x = toI k)) * w k) (rng 0 m) + sm (fun k => ct k xs * w k) (rng 0 m) := by
      rw [← sm_add]
      refine sm_congr fun k _ => ?_
      unfold ct
      rw [sm_cons, Int.add_mul]
    rw [e]
    have one := sm_at (w := w) (hx x (List.mem_cons_self ..))
    omega
end DL

namespace DL
open PySem (PyData Addr Str)
/-! ## lots: each person of no row is in just one, pairs do not lead out of it -/
section
variable {m : Nat} {S T fr : List D}
def inn (S T : List D) (p : D) : Bool := !isIn p S && !isIn p T
theorem sm_split {f : D → Int} (q : D → Bool) (l : List D) : sm f (l.filter q) + sm f (l.filter fun x => !q x) = sm f l := by
  rw [sm_filter, sm_filter, ← sm_add]
  refine sm_congr fun x _ => ?_
  cases q x
  · rw [Bool.not_false, b2_true, b2_false]; omega
  · rw [Bool.not_true, b2_true, b2_false]; omega
def occ (p : D) (fd : List D) : Int := sm (fun l => ct p (lits l)) fd
theorem ct_flat {p : D} : ∀ xs : List D, ct p (xs.flatMap lits) = occ p xs
  | [] => rfl
  | x :: xs => by rw [List.flatMap_cons, ct_append, ct_flat xs]; unfold occ; rw [sm_cons]
theorem occ_step {fd : List D} (h : ∀ l ∈ fd, isIL l) (p d : D) : occ p (stepL fd d) = occ p fd := by
  unfold stepL
  split
  · unfold occ
    rw [not_lotOf h, sm_append, sm_cons, sm_nil]
    show _ + (ct p ((lotOf fd d).flatMap lits) + 0) = _
    rw [ct_flat]
    have := sm_split (f := fun l => ct p (lits l)) (fun l => isIn (fst' d) (lits l) || isIn (snd' d) (lits l)) fd
    unfold occ lotOf
    omega
  · rfl
theorem occ_zero {p : D} (hp : isPs m p) : occ p (lump0 m S T) = b2 (inn S T p) := by
  unfold occ lump0
  rw [sm_map, sm_filter]
  have := sm_at (w := fun q => b2 (inn S T q)) hp
  rw [← this]
  refine sm_congr fun q _ => ?_
  show b2 (inn S T q) * ct p [q] = _
  unfold ct
  rw [sm_cons, sm_nil, Int.add_zero, Int.mul_comm]
  congr 2
  by_cases e : toI q = toI p
  · rw [decide_eq_true e, decide_eq_true e.symm]
  · rw [decide_eq_false e, decide_eq_false fun z => e z.symm]
theorem Lumps.il {fd : List D} (h : Lumps m S T fd) : ∀ l ∈ fd, isIL l := fun l hl => (h.lm l hl).il
theorem Lumps.ps {fd : List D} (h : Lumps m S T fd) {l : D} (hl : l ∈ fd) : ∀ p ∈ lits l, isPs m p := fun p hp => by
  obtain ⟨xs, rfl, _, hh⟩ := h.lm l hl
  exact (hh p hp).1
theorem occ_fold {p : D} : ∀ {ds fd : List D}, Lumps m S T fd → occ p (ds.foldl stepL fd) = occ p fd
  | [], _, _ => rfl
  | d :: ds, fd, h => by rw [List.foldl_cons, occ_fold (h.step d), occ_step h.il]
/-- the two persons of a pair are in one lump -/
def Con (fd : List D) (e : D) : Prop := ∃ l ∈ fd, isIn (fst' e) (lits l) = true ∧ isIn (snd' e) (lits l) = true
theorem isIn_flat {p : D} {xs : List D} {l : D} (h : l ∈ xs) (hp : isIn p (lits l) = true) : isIn p (xs.flatMap lits) = true := by
  unfold isIn at hp ⊢
  rw [List.any_eq_true] at hp ⊢
  obtain ⟨y, h1, h2⟩ := hp
  exact ⟨y, List.mem_flatMap.mpr ⟨l, h, h1⟩, h2⟩
theorem Con.step {fd : List D} (h : Lumps m S T fd) {e : D} (c : Con fd e) (d : D) : Con (stepL fd d) e := by
  obtain ⟨l, hl, h1, h2⟩ := c
  unfold stepL
  split
  · rw [not_lotOf h.il]
    cases q : (isIn (fst' d) (lits l) || isIn (snd' d) (lits l)) with
    | true =>
      have hm : l ∈ lotOf fd d := List.mem_filter.mpr ⟨hl, q⟩
      exact ⟨_, List.mem_append_right _ (List.mem_singleton.mpr rfl), isIn_flat hm h1, isIn_flat hm h2⟩
    | false => exact ⟨l, List.mem_append_left _ (List.mem_filter.mpr ⟨hl, by rw [q]; rfl⟩), h1, h2⟩
  · exact ⟨l, hl, h1, h2⟩
theorem Con.fold {e : D} : ∀ {ds fd : List D}, Lumps m S T fd → Con fd e → Con (ds.foldl stepL fd) e
  | [], _, _, c => c
  | d :: ds, fd, h, c => by rw [List.foldl_cons]; exact Con.fold (h.step d) (c.step h d)
theorem ex_of {fd : List D} (h : Lumps m S T fd) {p : D} (hp : isPs m p) (ho : occ p fd = 1) : ∃ l ∈ fd, isIn p (lits l) = true := by
  refine Classical.byContradiction fun hn => ?_
  have : occ p fd = 0 := by
    unfold occ
    rw [← sm_zero (l := fd)]
    refine sm_congr fun l hl => ?_
    have h0 := ct_nonneg (p := p) (xs := lits l)
    have := ct_pos hp (h.ps hl)
    have h2 : ¬ isIn p (lits l) = true := fun z => hn ⟨l, hl, z⟩
    have h3 : ¬ 1 ≤ ct p (lits l) := fun z => h2 (this.mpr z)
    omega
  omega
theorem ct_le {fd : List D} {p : D} (ho : occ p fd ≤ 1) {l : D} (hl : l ∈ fd) : ct p (lits l) ≤ 1 := by
  have := sm_one (f := fun l => ct p (lits l)) hl fun _ _ => ct_nonneg
  unfold occ at ho
  have e : (fun l => ct p (lits l)) l = ct p (lits l) := rfl
  omega
theorem only {fd : List D} (h : Lumps m S T fd) {p : D} (hp : isPs m p) (ho : occ p fd ≤ 1) {k l : D} (hk : k ∈ fd) (hl : l ∈ fd) (pk : isIn p (lits k) = true) (pl : isIn p (lits l) = true) : k = l := by
  refine Classical.byContradiction fun hne => ?_
  have h1 := sm_two (f := fun l => ct p (lits l)) hk hl hne fun _ _ => ct_nonneg
  have h2 := (ct_pos hp (h.ps hk)).mp pk
  have h3 := (ct_pos hp (h.ps hl)).mp pl
  unfold occ at ho
  have e1 : (fun l => ct p (lits l)) k = ct p (lits k) := rfl
  have e2 : (fun l => ct p (lits l)) l = ct p (lits l) := rfl
  omega
theorem Con.new {fd : List D} (h : Lumps m S T fd) {e : D} (pa : isPs m (fst' e)) (pb : isPs m (snd' e)) (oa : occ (fst' e) fd = 1) (ob : occ (snd' e) fd = 1) : Con (stepL fd e) e := by
  obtain ⟨la, ha, ia⟩ := ex_of h pa oa
  obtain ⟨lb, hb, ib⟩ := ex_of h pb ob
  unfold stepL
  split
  · have ma : la ∈ lotOf fd e := List.mem_filter.mpr ⟨ha, by rw [ia]; rfl⟩
    have mb : lb ∈ lotOf fd e := List.mem_filter.mpr ⟨hb, by rw [ib]; simp⟩
    exact ⟨_, List.mem_append_right _ (List.mem_singleton.mpr rfl), isIn_flat ma ia, isIn_flat mb ib⟩
  · rename_i hn
    refine Classical.byContradiction fun hc => hn ?_
    have : ((lotOf fd e).length : Int) = 2 := by
      unfold lotOf
      rw [len_sm]
      have e1 : sm (fun l => b2 (isIn (fst' e) (lits l) || isIn (snd' e) (lits l))) fd = occ (fst' e) fd + occ (snd' e) fd := by
        unfold occ
        rw [← sm_add]
        refine sm_congr fun l hl => ?_
        have q1 := ct_b2 pa (h.ps hl) (ct_le (by omega) hl)
        have q2 := ct_b2 pb (h.ps hl) (ct_le (by omega) hl)
        show _ = ct (fst' e) (lits l) + ct (snd' e) (lits l)
        rw [q1, q2]
        cases a : isIn (fst' e) (lits l) <;> cases b : isIn (snd' e) (lits l) <;> first | rfl | exact absurd ⟨l, hl, a, b⟩ hc
      omega
    omega
theorem Con.all {e : D} : ∀ {ds fd : List D}, Lumps m S T fd → (∀ d ∈ ds, isPs m (fst' d) ∧ isPs m (snd' d) ∧ occ (fst' d) fd = 1 ∧ occ (snd' d) fd = 1) → e ∈ ds → Con (ds.foldl stepL fd) e
  | [], _, _, _, he => by cases he
  | d :: ds, fd, h, hd, he => by
    rw [List.foldl_cons]
    rcases List.mem_cons.mp he with rfl | he
    · obtain ⟨a, b, c, f⟩ := hd e (List.mem_cons_self ..)
      exact Con.fold (h.step e) (Con.new h a b c f)
    · refine Con.all (h.step d) (fun x hx => ?_) he
      obtain ⟨a, b, c, f⟩ := hd x (List.mem_cons_of_mem _ hx)
      exact ⟨a, b, by rw [occ_step h.il]; exact c, by rw [occ_step h.il]; exact f⟩
/-- each lump within one of others -/
def Ref (fd gd : List D) : Prop := ∀ l ∈ fd, ∃ k ∈ gd, ∀ p ∈ lits l, isIn p (lits k) = true
theorem mem_isIn {p : D} {xs : List D} (hp : isPs m p) (hx : ∀ x ∈ xs, isPs m x) (h : isIn p xs = true) : p ∈ xs := (isIn_ps hp hx).mp h
theorem Ref.step {fd gd : List D} (h : Lumps m S T fd) (g : Lumps m S T gd) {d : D} (pa : isPs m (fst' d)) (pb : isPs m (snd' d)) (oa : occ (fst' d) gd ≤ 1) (ob : occ (snd' d) gd ≤ 1) (c : Con gd d) (r : Ref fd gd) : Ref (stepL fd d) gd := by
  unfold stepL
  split
  · intro l hl
    rw [not_lotOf h.il] at hl
    rcases List.mem_append.mp hl with hl | hl
    · exact r l (List.mem_filter.mp hl).1
    · obtain rfl := List.mem_singleton.mp hl
      obtain ⟨k, hk, ka, kb⟩ := c
      refine ⟨k, hk, fun p hp => ?_⟩
      obtain ⟨l, hl, hpl⟩ := List.mem_flatMap.mp hp
      obtain ⟨hl1, hl2⟩ := List.mem_filter.mp hl
      obtain ⟨k2, hk2, hh⟩ := r l hl1
      have : k2 = k := by
        rcases Bool.or_eq_true_iff.mp hl2 with z | z
        · exact only g pa oa hk2 hk (hh _ (mem_isIn pa (h.ps hl1) z)) ka
        · exact only g pb ob hk2 hk (hh _ (mem_isIn pb (h.ps hl1) z)) kb
      rw [← this]
      exact hh p hpl
  · exact r
theorem Ref.fold {gd : List D} (g : Lumps m S T gd) : ∀ {ds fd : List D}, Lumps m S T fd → (∀ d ∈ ds, isPs m (fst' d) ∧ isPs m (snd' d) ∧ occ (fst' d) gd ≤ 1 ∧ occ (snd' d) gd ≤ 1 ∧ Con gd d) → Ref fd gd → Ref (ds.foldl stepL fd) gd
  | [], _, _, _, r => r
  | d :: ds, fd, h, hd, r => by
    rw [List.foldl_cons]
    obtain ⟨a, b, c, e, f⟩ := hd d (List.mem_cons_self ..)
    exact Ref.fold g (h.step d) (fun x hx => hd x (List.mem_cons_of_mem _ hx)) (Ref.step h g a b c e f r)
theorem pr_ps {d : D} (h : isPr (m : Int) d = true) : isPs m (fst' d) ∧ isPs m (snd' d) := by
  obtain ⟨i, j, rfl, h1, h2⟩ := pr_of h
  exact ⟨⟨i, by omega, rfl⟩, ⟨j, h2, rfl⟩⟩
theorem occ_all {p : D} (hp : isPs m p) : occ p (lumpsD m fr S T) = b2 (inn S T p) := by
  unfold lumpsD
  rw [occ_fold Lumps.zero, occ_zero hp]
theorem inner_of {e : D} (h : e ∈ innerD fr S T) : e ∈ fr ∧ inn S T (fst' e) = true ∧ inn S T (snd' e) = true := by
  obtain ⟨h1, h2⟩ := List.mem_filter.mp h
  refine ⟨h1, ?_⟩
  unfold inn
  cases a : isIn (fst' e) S <;> cases b : isIn (fst' e) T <;> cases c : isIn (snd' e) S <;> cases d : isIn (snd' e) T <;> simp [a, b, c, d] at h2 ⊢
theorem of_inner {e : D} (h1 : e ∈ fr) (h2 : inn S T (fst' e) = true) (h3 : inn S T (snd' e) = true) : e ∈ innerD fr S T := by
  refine List.mem_filter.mpr ⟨h1, ?_⟩
  unfold inn at h2 h3
  cases a : isIn (fst' e) S <;> cases b : isIn (fst' e) T <;> cases c : isIn (snd' e) S <;> cases d : isIn (snd' e) T <;> simp [a, b, c, d] at h2 h3 ⊢
theorem con_all (hf : ∀ d ∈ fr, isPr (m : Int) d = true) {e : D} (h : e ∈ innerD fr S T) : Con (lumpsD m fr S T) e := by
  unfold lumpsD
  refine Con.all Lumps.zero (fun d hd => ?_) h
  obtain ⟨a, b, c⟩ := inner_of hd
  obtain ⟨p, q⟩ := pr_ps (hf d a)
  exact ⟨p, q, by rw [occ_zero p, b]; rfl, by rw [occ_zero q, c]; rfl⟩
theorem ref_all {fr' : List D} (hf : ∀ d ∈ fr, isPr (m : Int) d = true) (hs : ∀ d ∈ fr', d ∈ fr) : Ref (lumpsD m fr' S T) (lumpsD m fr S T) := by
  have g : Lumps m S T (lumpsD m fr S T) := Lumps.all
  have o1 : ∀ p, isPs m p → occ p (lumpsD m fr S T) ≤ 1 := fun p hp => by rw [occ_all hp]; exact (b2_pos _).2
  have e : lumpsD m fr' S T = (innerD fr' S T).foldl stepL (lump0 m S T) := rfl
  rw [e]
  refine Ref.fold g Lumps.zero (fun d hd => ?_) fun l hl => ?_
  · obtain ⟨a, b, c⟩ := inner_of hd
    have a := hs d a
    obtain ⟨p, q⟩ := pr_ps (hf d a)
    exact ⟨p, q, o1 _ p, o1 _ q, con_all hf (of_inner a b c)⟩
  · obtain ⟨p, hp, rfl⟩ := List.mem_map.mp hl
    obtain ⟨h1, h2⟩ := List.mem_filter.mp hp
    have hps := rng_isPs h1
    obtain ⟨k, hk, hh⟩ := ex_of g hps (by rw [occ_all hps]; unfold inn; rw [h2]; rfl)
    refine ⟨k, hk, fun q hq => ?_⟩
    obtain rfl := List.mem_singleton.mp hq
    exact hh
end
end DL

namespace DL
open PySem (PyData Addr Str)
/-! ## the slack of a bar is what a meeting wastes at it -/
structure Lots (m : Nat) (fr S T LT : List D) : Prop where
  lt : ∀ l ∈ LT, isLt m S T l
  one : ∀ p, isPs m p → sm (fun l => ct p (itm l)) LT = b2 (inn S T p)
  cl : ∀ e ∈ fr, inn S T (fst' e) = true → inn S T (snd' e) = true → ∃ l ∈ LT, isIn (fst' e) (itm l) = true ∧ isIn (snd' e) (itm l) = true
section
variable {m : Nat} {S T fr LT : List D}
theorem isIn_srt {p : D} {xs : List D} : isIn p (srt xs) = isIn p xs := by
  unfold isIn
  rw [Bool.eq_iff_iff, List.any_eq_true, List.any_eq_true]
  constructor <;> rintro ⟨y, h1, h2⟩
  · exact ⟨y, srt_mem.mp h1, h2⟩
  · exact ⟨y, srt_mem.mpr h1, h2⟩
theorem lots_ok (hf : ∀ d ∈ fr, isPr (m : Int) d = true) : Lots m fr S T (lotsD m fr S T) := by
  refine ⟨fun l hl => lotsD_lt hl, fun p hp => ?_, fun e he h1 h2 => ?_⟩
  · rw [← occ_all (fr := fr) hp]
    unfold lotsD occ
    rw [sm_map]
    exact sm_congr fun l _ => ct_perm (srt_perm _)
  · obtain ⟨l, hl, a, b⟩ := con_all hf (of_inner he h1 h2)
    refine ⟨_, List.mem_map.mpr ⟨l, hl, rfl⟩, ?_, ?_⟩
    · show isIn _ (srt (lits l)) = true
      rw [isIn_srt]; exact a
    · show isIn _ (srt (lits l)) = true
      rw [isIn_srt]; exact b
theorem Lots.perm {LT' : List D} (h : Lots m fr S T LT) (e : LT'.Perm LT) : Lots m fr S T LT' := by
  refine ⟨fun l hl => h.lt l (e.mem_iff.mp hl), fun p hp => by rw [sm_perm e]; exact h.one p hp, fun d hd a b => ?_⟩
  obtain ⟨l, hl, x⟩ := h.cl d hd a b
  exact ⟨l, e.mem_iff.mpr hl, x⟩
theorem lots_ref {fr' : List D} (hf : ∀ d ∈ fr, isPr (m : Int) d = true) (hs : ∀ d ∈ fr', d ∈ fr) : ∀ l ∈ lotsD m fr' S T, ∃ k ∈ lotsD m fr S T, ∀ p ∈ itm l, isIn p (itm k) = true := by
  intro l hl
  obtain ⟨x, hx, rfl⟩ := List.mem_map.mp hl
  obtain ⟨k, hk, hh⟩ := ref_all (S := S) (T := T) hf hs x hx
  refine ⟨_, List.mem_map.mpr ⟨k, hk, rfl⟩, fun p hp => ?_⟩
  show isIn _ (srt (lits k)) = true
  rw [isIn_srt]
  exact hh p (srt_mem.mp hp)
theorem Lots.ps (h : Lots m fr S T LT) {l : D} (hl : l ∈ LT) : ∀ p ∈ itm l, isPs m p := fun p hp => by
  obtain ⟨xs, rfl, _, _, hh⟩ := h.lt l hl
  exact (hh p hp).1
theorem Lots.in1 (h : Lots m fr S T LT) {l : D} (hl : l ∈ LT) {p : D} (hp : isPs m p) : ct p (itm l) = b2 (isIn p (itm l)) := by
  refine ct_b2 hp (h.ps hl) ?_
  have h1 := sm_one (f := fun l => ct p (itm l)) hl fun _ _ => ct_nonneg
  have h2 := h.one p hp
  have h3 := (b2_pos (inn S T p)).2
  have e : (fun l => ct p (itm l)) l = ct p (itm l) := rfl
  omega
theorem Lots.inr (h : Lots m fr S T LT) {l : D} (hl : l ∈ LT) {p : D} (hp : isPs m p) (hi : isIn p (itm l) = true) : isIn p S = false ∧ isIn p T = false := by
  have hm := (isIn_ps hp (h.ps hl)).mp hi
  obtain ⟨xs, rfl, _, _, hh⟩ := h.lt l hl
  exact (hh p hm).2
theorem Lots.only (h : Lots m fr S T LT) {p : D} (hp : isPs m p) {k l : D} (hk : k ∈ LT) (hl : l ∈ LT) (pk : isIn p (itm k) = true) (pl : isIn p (itm l) = true) : k = l := by
  refine Classical.byContradiction fun hne => ?_
  have h1 := sm_two (f := fun l => ct p (itm l)) hk hl hne fun _ _ => ct_nonneg
  have h2 := (ct_pos hp (h.ps hk)).mp pk
  have h3 := (ct_pos hp (h.ps hl)).mp pl
  have h4 := h.one p hp
  have h5 := (b2_pos (inn S T p)).2
  have e1 : (fun l => ct p (itm l)) k = ct p (itm k) := rfl
  have e2 : (fun l => ct p (itm l)) l = ct p (itm l) := rfl
  omega
theorem Lots.sumIn (h : Lots m fr S T LT) {p : D} (hp : isPs m p) : sm (fun l => b2 (isIn p (itm l))) LT = b2 (inn S T p) := by
  rw [← h.one p hp]
  exact sm_congr fun l hl => (h.in1 hl hp).symm
/-- the rows of a bar: different persons, none in both -/
structure BarX (m : Nat) (S T : List D) : Prop extends Bar m S T where
  s1 : ∀ p, isPs m p → ct p S ≤ 1
  t1 : ∀ p, isPs m p → ct p T ≤ 1
  dj : ∀ p, isPs m p → (isIn p S && isIn p T) = false
theorem b2_and {a b : Bool} : b2 (a && b) = b2 a * b2 b := by cases a <;> cases b <;> rfl
def dgX (fr : List D) (x : D → Bool) (p : D) : Int := sm (fun e => b2 (x e) * b2 (isIn p (itm e))) fr
def moreX (fr : List D) (x : D → Bool) (S T : List D) (l : D) : Int := sm (fun e => b2 (x e && btwD (itm l) S e)) fr + sm (fun e => b2 (!x e && btwD (itm l) T e)) fr
def wasteX (fr : List D) (x : D → Bool) (S T LT : List D) (nn : D → Bool) : Int :=
  2 * sm (fun e => b2 (x e && (isIn (fst' e) S && isIn (snd' e) S))) fr + 2 * sm (fun e => b2 (!x e && (isIn (fst' e) T && isIn (snd' e) T))) fr
    + sm (fun p => if nn p = true then dgX fr (fun e => !x e) p else 0) S + sm (fun p => if nn p = true then dgX fr x p else 0) T
    + sm (fun l => moreX fr x S T l - if ((itm l).any nn) = true then 0 else moreX fr x S T l % 2) LT
/-- the needs of a party with a meeting: as many as its good pairs -/
def Fit (m : Nat) (nd fr : List D) (x : D → Bool) : Prop := ∀ p, isPs m p → isNon (atN nd p) = true ∨ atN nd p = .int (dgX fr x p)
theorem deg_dg {x : D → Bool} {p : D} : ((degD fr p : Nat) : Int) = dgX fr x p + dgX fr (fun e => !x e) p := by
  unfold degD dgX
  rw [len_sm, ← sm_add]
  refine sm_congr fun e _ => ?_
  show b2 (isIn p (itm e)) = b2 (x e) * b2 (isIn p (itm e)) + b2 (!x e) * b2 (isIn p (itm e))
  cases x e <;> simp [b2_true, b2_false]
theorem slack2_sm {nd : List D} : slack2 nd fr S T = sm (needAt nd fr) S + sm (fun p => (outD fr S p : Nat) - needOr nd p) T := by
  unfold slack2 slack1
  have e1 : (fun (f : Int) p => f + (outD fr S p : Nat) - needOr nd p) = fun (f : Int) p => f + ((outD fr S p : Nat) - needOr nd p) := by
    funext f p; omega
  rw [e1, sm_fold, sm_fold, Int.zero_add]
theorem need_X {nd : List D} {x : D → Bool} (hF : Fit m nd fr x) {p : D} (hp : isPs m p) : needAt nd fr p = dgX fr x p + (if isNon (atN nd p) = true then dgX fr (fun e => !x e) p else 0) ∧ needOr nd p = dgX fr x p - (if isNon (atN nd p) = true then dgX fr x p else 0) := by
  unfold needAt needOr
  rcases hF p hp with h | h
  · rw [if_pos h, if_pos h, if_pos h, if_pos h]
    exact ⟨deg_dg, by omega⟩
  · have hn : ¬ isNon (atN nd p) = true := by rw [h]; exact Bool.false_ne_true
    rw [if_neg hn, if_neg hn, if_neg hn, if_neg hn, h]
    exact ⟨by show dgX fr x p = _; omega, by show dgX fr x p = _; omega⟩
/-- counted pair by pair -/
theorem dg_row {x : D → Bool} {X : List D} (hf : ∀ d ∈ fr, isPr (m : Int) d = true) (hX : ∀ p ∈ X, isPs m p) : sm (dgX fr x) X = sm (fun e => b2 (x e) * (ct (fst' e) X + ct (snd' e) X)) fr := by
  unfold dgX
  rw [sm_swap]
  refine sm_congr fun e he => ?_
  rw [sm_mul, sm_pair (hf e he) hX]
theorem out_row (hf : ∀ d ∈ fr, isPr (m : Int) d = true) (hX : ∀ p ∈ T, isPs m p) : sm (fun p => ((outD fr S p : Nat) : Int)) T = sm (fun e => b2 (!isIn (fst' e) S && !isIn (snd' e) S) * (ct (fst' e) T + ct (snd' e) T)) fr := by
  have e1 : sm (fun p => ((outD fr S p : Nat) : Int)) T = sm (fun p => sm (fun e => b2 (!isIn (fst' e) S && !isIn (snd' e) S) * b2 (isIn p (itm e))) fr) T := by
    refine sm_congr fun p _ => ?_
    unfold outD
    rw [len_sm]
    refine sm_congr fun e _ => ?_
    rw [b2_and, Int.mul_comm]
  rw [e1, sm_swap]
  refine sm_congr fun e he => ?_
  rw [sm_mul, sm_pair (hf e he) hX]
theorem btw_b2 (h : Lots m fr S T LT) {l : D} (hl : l ∈ LT) {e : D} (he : isPr (m : Int) e = true) {X : List D} (hX : X = S ∨ X = T) : b2 (btwD (itm l) X e) = b2 (isIn (fst' e) (itm l)) * b2 (isIn (snd' e) X) + b2 (isIn (snd' e) (itm l)) * b2 (isIn (fst' e) X) := by
  obtain ⟨pa, pb⟩ := pr_ps he
  unfold btwD
  have a : isIn (fst' e) (itm l) = true → isIn (fst' e) X = false := fun z => by
    rcases hX with rfl | rfl
    · exact (h.inr hl pa z).1
    · exact (h.inr hl pa z).2
  have b : isIn (snd' e) (itm l) = true → isIn (snd' e) X = false := fun z => by
    rcases hX with rfl | rfl
    · exact (h.inr hl pb z).1
    · exact (h.inr hl pb z).2
  cases h1 : isIn (fst' e) (itm l) <;> cases h2 : isIn (snd' e) (itm l) <;> cases h3 : isIn (fst' e) X <;> cases h4 : isIn (snd' e) X <;> first | rfl | (rw [a h1] at h3; cases h3; done) | (rw [b h2] at h4; cases h4; done)
theorem btw_sum (h : Lots m fr S T LT) {e : D} (he : isPr (m : Int) e = true) {X : List D} (hX : X = S ∨ X = T) : sm (fun l => b2 (btwD (itm l) X e)) LT = b2 (inn S T (fst' e)) * b2 (isIn (snd' e) X) + b2 (inn S T (snd' e)) * b2 (isIn (fst' e) X) := by
  obtain ⟨pa, pb⟩ := pr_ps he
  have e1 : sm (fun l => b2 (btwD (itm l) X e)) LT = sm (fun l => b2 (isIn (snd' e) X) * b2 (isIn (fst' e) (itm l)) + b2 (isIn (fst' e) X) * b2 (isIn (snd' e) (itm l))) LT :=
    sm_congr fun l hl => by rw [btw_b2 h hl he hX, Int.mul_comm (b2 (isIn (fst' e) (itm l))), Int.mul_comm (b2 (isIn (snd' e) (itm l)))]
  rw [e1, sm_add, sm_mul, sm_mul, h.sumIn pa, h.sumIn pb, Int.mul_comm, Int.mul_comm (b2 (isIn (fst' e) X))]
theorem lin_X (hb : BarX m S T) (hf : ∀ d ∈ fr, isPr (m : Int) d = true) (h : Lots m fr S T LT) (x : D → Bool) :
    sm (dgX fr x) S + (sm (fun p => ((outD fr S p : Nat) : Int)) T - sm (dgX fr x) T) = 2 * sm (fun e => b2 (x e && (isIn (fst' e) S && isIn (snd' e) S))) fr + 2 * sm (fun e => b2 (!x e && (isIn (fst' e) T && isIn (snd' e) T))) fr + sm (moreX fr x S T) LT := by
  have e1 : sm (moreX fr x S T) LT = sm (fun e => b2 (x e) * (b2 (inn S T (fst' e)) * b2 (isIn (snd' e) S) + b2 (inn S T (snd' e)) * b2 (isIn (fst' e) S)) + b2 (!x e) * (b2 (inn S T (fst' e)) * b2 (isIn (snd' e) T) + b2 (inn S T (snd' e)) * b2 (isIn (fst' e) T))) fr := by
    have t0 : sm (moreX fr x S T) LT = sm (fun l => sm (fun e => b2 (x e && btwD (itm l) S e)) fr) LT + sm (fun l => sm (fun e => b2 (!x e && btwD (itm l) T e)) fr) LT := sm_add
    have t1 : sm (fun l => sm (fun e => b2 (x e && btwD (itm l) S e)) fr) LT = sm (fun e => b2 (x e) * (b2 (inn S T (fst' e)) * b2 (isIn (snd' e) S) + b2 (inn S T (snd' e)) * b2 (isIn (fst' e) S))) fr := by
      rw [sm_swap]
      refine sm_congr fun e he => ?_
      rw [← btw_sum h (hf e he) (.inl rfl), ← sm_mul]
      exact sm_congr fun l _ => b2_and
    have t2 : sm (fun l => sm (fun e => b2 (!x e && btwD (itm l) T e)) fr) LT = sm (fun e => b2 (!x e) * (b2 (inn S T (fst' e)) * b2 (isIn (snd' e) T) + b2 (inn S T (snd' e)) * b2 (isIn (fst' e) T))) fr := by
      rw [sm_swap]
      refine sm_congr fun e he => ?_
      rw [← btw_sum h (hf e he) (.inr rfl), ← sm_mul]
      exact sm_congr fun l _ => b2_and
    rw [t0, t1, t2, ← sm_add]
  rw [dg_row hf hb.ps, dg_row hf hb.pt, out_row hf hb.pt, e1, ← sm_mul, ← sm_mul, ← sm_sub, ← sm_add, ← sm_add, ← sm_add]
  refine sm_congr fun e he => ?_
  obtain ⟨pa, pb⟩ := pr_ps (hf e he)
  have c1 := ct_b2 pa hb.ps (hb.s1 _ pa)
  have c2 := ct_b2 pb hb.ps (hb.s1 _ pb)
  have c3 := ct_b2 pa hb.pt (hb.t1 _ pa)
  have c4 := ct_b2 pb hb.pt (hb.t1 _ pb)
  have d1 := hb.dj _ pa
  have d2 := hb.dj _ pb
  rw [c1, c2, c3, c4]
  unfold inn
  cases x e <;> cases a : isIn (fst' e) S <;> cases b : isIn (fst' e) T <;> cases c : isIn (snd' e) S <;> cases d : isIn (snd' e) T <;> first | rfl | (rw [a, b] at d1; cases d1; done) | (rw [c, d] at d2; cases d2; done)
theorem odd_X {nd : List D} {x : D → Bool} (hb : BarX m S T) (hl9 : nd.length = m) (hni : ∀ y ∈ nd, isNI y = true) (hf : ∀ d ∈ fr, isPr (m : Int) d = true) (h : Lots m fr S T LT) (hF : Fit m nd fr x) {l : D} (hl : l ∈ LT) :
    b2 (oddL nd fr T l) = if ((itm l).any fun p => isNon (atN nd p)) = true then 0 else moreX fr x S T l % 2 := by
  have hps := h.ps hl
  have hn : isIn .none ((itm l).map (atN nd)) = (itm l).any fun p => isNon (atN nd p) := by
    unfold isIn
    rw [List.any_map]
    rw [Bool.eq_iff_iff, List.any_eq_true, List.any_eq_true]
    constructor
    · rintro ⟨p, h1, h2⟩
      refine ⟨p, h1, ?_⟩
      have hm := hni _ (atN_mem (xs := nd) (p := p) (by rw [hl9]; exact hps p h1))
      have h2 : PyData.eqv (atN nd p) .none = true := h2
      rw [(eqv_ni hm rfl).mp h2]; rfl
    · rintro ⟨p, h1, h2⟩
      refine ⟨p, h1, ?_⟩
      have hm := hni _ (atN_mem (xs := nd) (p := p) (by rw [hl9]; exact hps p h1))
      show PyData.eqv (atN nd p) .none = true
      cases q : atN nd p <;> rw [q] at h2 hm <;> first | rfl | (cases h2; done) | (cases hm; done)
  unfold oddL
  rw [hn]
  cases hq : (itm l).any fun p => isNon (atN nd p) with
  | true => rfl
  | false =>
    rw [if_neg Bool.false_ne_true, Bool.not_false, Bool.true_and]
    have hall : ∀ p ∈ itm l, toI (atN nd p) = dgX fr x p := fun p hp => by
      rcases hF p (hps p hp) with z | z
      · rw [List.any_eq_false] at hq; exact absurd z (hq p hp)
      · rw [z]; rfl
    have e1 : (((itm l).map (atN nd)).map toI).sum = sm (dgX fr x) (itm l) := by
      rw [List.map_map]
      exact sm_congr (f := toI ∘ atN nd) hall
    rw [e1, dg_row hf hps, len_sm]
    have key : (sm (fun e => b2 (x e) * (ct (fst' e) (itm l) + ct (snd' e) (itm l))) fr + sm (fun e => b2 (btwD (itm l) T e)) fr - moreX fr x S T l) % 2 = 0 := by
      unfold moreX
      rw [← sm_add, ← sm_add, ← sm_sub]
      refine sm_even fun e he => ?_
      obtain ⟨pa, pb⟩ := pr_ps (hf e he)
      rw [h.in1 hl pa, h.in1 hl pb, b2_and, b2_and, btw_b2 h hl (hf e he) (.inl rfl), btw_b2 h hl (hf e he) (.inr rfl)]
      have ra := fun z => h.inr hl pa z
      have rb := fun z => h.inr hl pb z
      have cab : isIn (fst' e) (itm l) = true → inn S T (snd' e) = true → isIn (snd' e) (itm l) = true := fun z w => by
        obtain ⟨k, hk, ka, kb⟩ := h.cl e he (by unfold inn; rw [(ra z).1, (ra z).2]; rfl) w
        rw [h.only pa hl hk z ka]; exact kb
      have cba : isIn (snd' e) (itm l) = true → inn S T (fst' e) = true → isIn (fst' e) (itm l) = true := fun z w => by
        obtain ⟨k, hk, ka, kb⟩ := h.cl e he w (by unfold inn; rw [(rb z).1, (rb z).2]; rfl)
        rw [h.only pb hl hk z kb]; exact ka
      have d1 := hb.dj _ pa
      have d2 := hb.dj _ pb
      unfold inn at cab cba
      cases x e <;> cases a1 : isIn (fst' e) (itm l) <;> cases a2 : isIn (snd' e) (itm l) <;> cases a : isIn (fst' e) S <;> cases b : isIn (fst' e) T <;> cases c : isIn (snd' e) S <;> cases d : isIn (snd' e) T <;>
        first | rfl | (rw [a, b] at d1; cases d1; done) | (rw [c, d] at d2; cases d2; done) | (have := (ra a1).1; rw [a] at this; cases this; done) | (have := (ra a1).2; rw [b] at this; cases this; done) | (have := (rb a2).1; rw [c] at this; cases this; done) | (have := (rb a2).2; rw [d] at this; cases this; done) | (have := cab a1 (by rw [c, d]; rfl); rw [a2] at this; cases this; done) | (have := cba a2 (by rw [a, b]; rfl); rw [a1] at this; cases this; done)
    generalize sm (fun e => b2 (x e) * (ct (fst' e) (itm l) + ct (snd' e) (itm l))) fr + sm (fun e => b2 (btwD (itm l) T e)) fr = u at key ⊢
    generalize moreX fr x S T l = v at key ⊢
    by_cases hu : u % 2 = 1
    · rw [decide_eq_true hu, b2_true]; omega
    · rw [decide_eq_false hu, b2_false]; omega
/-- the slack is the waste -/
theorem slack_X {nd : List D} {x : D → Bool} (hb : BarX m S T) (hl9 : nd.length = m) (hni : ∀ y ∈ nd, isNI y = true) (hf : ∀ d ∈ fr, isPr (m : Int) d = true) (h : Lots m fr S T LT) (hF : Fit m nd fr x) (hp : LT.Perm (lotsD m fr S T)) :
    slackD m nd fr S T = wasteX fr x S T LT fun p => isNon (atN nd p) := by
  unfold slackD
  have e0 : ((oddD m nd fr S T).length : Int) = sm (fun l => if ((itm l).any fun p => isNon (atN nd p)) = true then 0 else moreX fr x S T l % 2) LT := by
    unfold oddD
    rw [srt_len, len_sm, ← sm_perm hp]
    exact sm_congr fun l hl => odd_X hb hl9 hni hf h hF hl
  rw [e0, slack2_sm]
  have e1 : sm (needAt nd fr) S = sm (dgX fr x) S + sm (fun p => if isNon (atN nd p) = true then dgX fr (fun e => !x e) p else 0) S := by
    rw [← sm_add]
    exact sm_congr fun p hp => (need_X hF (hb.ps p hp)).1
  have e2 : sm (fun p => (outD fr S p : Nat) - needOr nd p) T = (sm (fun p => ((outD fr S p : Nat) : Int)) T - sm (dgX fr x) T) + sm (fun p => if isNon (atN nd p) = true then dgX fr x p else 0) T := by
    rw [← sm_sub, ← sm_add]
    refine sm_congr fun p hp => ?_
    have := (need_X hF (hb.pt p hp)).2
    omega
  have e3 := lin_X hb hf h x
  have e4 : sm (fun l => moreX fr x S T l - if ((itm l).any fun p => isNon (atN nd p)) = true then 0 else moreX fr x S T l % 2) LT = sm (moreX fr x S T) LT - sm (fun l => if ((itm l).any fun p => isNon (atN nd p)) = true then 0 else moreX fr x S T l % 2) LT := sm_sub
  unfold wasteX
  simp only []
  rw [e1, e2, e4]
  omega
end
end DL

namespace DL
open PySem (PyData Addr Str)
/-! ## a further fact makes no slack greater -/
section
variable {m : Nat} {S T fr fr' LT LT' : List D}
def Od (W : D → Int) (nn : D → Bool) (l : D) : Int := if (itm l).any nn = true then 0 else sm W (itm l) % 2
theorem Od_pos {W : D → Int} {nn : D → Bool} {l : D} : 0 ≤ Od W nn l ∧ Od W nn l ≤ 1 := by
  unfold Od
  split <;> omega
theorem sm_mod {f : D → Int} {l : List D} : sm f l % 2 ≤ sm (fun x => f x % 2) l := by
  induction l with
  | nil => show (0 : Int) % 2 ≤ 0; decide
  | cons x l ih =>
    rw [sm_cons, sm_cons]
    have := sm_nonneg (f := fun x => f x % 2) (l := l) fun _ _ => by omega
    omega
def hd (l : D) : D := (itm l).headD .none
theorem hd_in (h : Lots m fr S T LT) {l : D} (hl : l ∈ LT) : isPs m (hd l) ∧ isIn (hd l) (itm l) = true ∧ inn S T (hd l) = true := by
  obtain ⟨xs, rfl, hne, _, hh⟩ := h.lt l hl
  cases xs with
  | nil => exact absurd rfl hne
  | cons x xs =>
    obtain ⟨a, b, c⟩ := hh x (List.mem_cons_self ..)
    refine ⟨a, (isIn_ps a fun y hy => (hh y hy).1).mpr (List.mem_cons_self ..), ?_⟩
    show inn S T x = true
    unfold inn
    rw [b, c]; rfl
theorem ref_odd (h : Lots m fr S T LT) (h' : Lots m fr' S T LT') (r : ∀ l ∈ LT', ∃ k ∈ LT, ∀ p ∈ itm l, isIn p (itm k) = true) (W : D → Int) (nn : D → Bool) : sm (Od W nn) LT ≤ sm (Od W nn) LT' := by
  have sub : ∀ l' ∈ LT', ∀ l ∈ LT, ∀ p, isPs m p → isIn p (itm l') = true → isIn p (itm l) = true → ∀ q ∈ itm l', isIn q (itm l) = true := fun l' hl' l hl p hp h1 h2 q hq => by
    obtain ⟨k, hk, hh⟩ := r l' hl'
    have e : k = l := h.only hp hk hl (hh p ((isIn_ps hp (h'.ps hl')).mp h1)) h2
    rw [← e]; exact hh q hq
  have main : ∀ l ∈ LT, Od W nn l ≤ sm (fun l' => b2 (isIn (hd l') (itm l)) * Od W nn l') LT' := fun l hl => by
    have key : sm W (itm l) = sm (fun l' => b2 (isIn (hd l') (itm l)) * sm W (itm l')) LT' := by
      rw [sm_ct (w := W) (h.ps hl)]
      have e1 : sm (fun l' => b2 (isIn (hd l') (itm l)) * sm W (itm l')) LT' = sm (fun k => sm (fun l' => W k * (b2 (isIn (hd l') (itm l)) * ct k (itm l'))) LT') (rng 0 m) := by
        rw [← sm_swap]
        refine sm_congr fun l' hl' => ?_
        rw [sm_ct (w := W) (h'.ps hl'), ← sm_mul]
        refine sm_congr fun k _ => ?_
        rw [Int.mul_comm (W k), Int.mul_assoc]
      rw [e1]
      refine sm_congr fun k hk => ?_
      have hk := rng_isPs hk
      rw [sm_mul, Int.mul_comm]
      congr 1
      rw [h.in1 hl hk]
      cases hin : isIn k (itm l) with
      | true =>
        have e2 : sm (fun l' => b2 (isIn (hd l') (itm l)) * ct k (itm l')) LT' = sm (fun l' => ct k (itm l')) LT' := by
          refine sm_congr fun l' hl' => ?_
          rw [h'.in1 hl' hk]
          cases hin' : isIn k (itm l') with
          | false => rw [b2_false, Int.mul_zero]
          | true =>
            obtain ⟨a, b, _⟩ := hd_in h' hl'
            rw [sub l' hl' l hl k hk hin' hin _ ((isIn_ps a (h'.ps hl')).mp b), b2_true, Int.one_mul]
        rw [e2, h'.one k hk]
        have := h.inr hl hk hin
        unfold inn
        rw [this.1, this.2]; rfl
      | false =>
        rw [b2_false]
        symm
        rw [← sm_zero (l := LT')]
        refine sm_congr fun l' hl' => ?_
        rw [h'.in1 hl' hk]
        cases hin' : isIn k (itm l') with
        | false => rw [b2_false, Int.mul_zero]
        | true =>
          cases hs : isIn (hd l') (itm l) with
          | false => rw [b2_false, Int.zero_mul]
          | true =>
            obtain ⟨a, b, _⟩ := hd_in h' hl'
            have := sub l' hl' l hl _ a b hs k ((isIn_ps hk (h'.ps hl')).mp hin')
            rw [hin] at this; cases this
    unfold Od
    by_cases hn : (itm l).any nn = true
    · rw [if_pos hn]
      refine sm_nonneg fun l' _ => ?_
      have := (Od_pos (W := W) (nn := nn) (l := l')).1
      cases isIn (hd l') (itm l)
      · rw [b2_false, Int.zero_mul]; omega
      · rw [b2_true, Int.one_mul]; exact this
    · rw [if_neg hn, key]
      refine Int.le_trans sm_mod (sm_le fun l' hl' => ?_)
      cases hs : isIn (hd l') (itm l) with
      | false => rw [b2_false, Int.zero_mul, Int.zero_mul]; omega
      | true =>
        rw [b2_true, Int.one_mul, Int.one_mul]
        obtain ⟨a, b, _⟩ := hd_in h' hl'
        have hn' : ¬ (itm l').any nn = true := fun z => hn (by
          rw [List.any_eq_true] at z ⊢
          obtain ⟨p, hp, hnp⟩ := z
          exact ⟨p, (isIn_ps (h'.ps hl' p hp) (h.ps hl)).mp (sub l' hl' l hl _ a b hs p hp), hnp⟩)
        rw [if_neg hn']
        exact Int.le_refl _
  refine Int.le_trans (sm_le main) ?_
  rw [sm_swap]
  refine sm_le fun l' hl' => ?_
  have e : sm (fun l => b2 (isIn (hd l') (itm l)) * Od W nn l') LT = sm (fun l => Od W nn l' * b2 (isIn (hd l') (itm l))) LT := sm_congr fun l _ => Int.mul_comm _ _
  obtain ⟨a, b, c⟩ := hd_in h' hl'
  rw [e, sm_mul, h.sumIn a, c, b2_true, Int.mul_one]
  exact Int.le_refl _
/-! the weights of the persons of no row -/
def tnX (fr T : List D) (p : D) : Int := sm (fun e => b2 (isIn (snd' e) T) * b2 (decide (toI p = toI (fst' e))) + b2 (isIn (fst' e) T) * b2 (decide (toI p = toI (snd' e)))) fr
def WgtX (nd fr T : List D) (p : D) : Int := toI (atN nd p) + tnX fr T p
theorem any_nn {nd : List D} (hl9 : nd.length = m) (hni : ∀ y ∈ nd, isNI y = true) {xs : List D} (hps : ∀ p ∈ xs, isPs m p) : isIn .none (xs.map (atN nd)) = xs.any fun p => isNon (atN nd p) := by
  unfold isIn
  rw [List.any_map]
  rw [Bool.eq_iff_iff, List.any_eq_true, List.any_eq_true]
  constructor
  · rintro ⟨p, h1, h2⟩
    refine ⟨p, h1, ?_⟩
    have hm := hni _ (atN_mem (xs := nd) (p := p) (by rw [hl9]; exact hps p h1))
    have h2 : PyData.eqv (atN nd p) .none = true := h2
    rw [(eqv_ni hm rfl).mp h2]; rfl
  · rintro ⟨p, h1, h2⟩
    refine ⟨p, h1, ?_⟩
    have hm := hni _ (atN_mem (xs := nd) (p := p) (by rw [hl9]; exact hps p h1))
    show PyData.eqv (atN nd p) .none = true
    cases q : atN nd p <;> rw [q] at h2 hm <;> first | rfl | (cases h2; done) | (cases hm; done)
theorem tn_row {xs : List D} : sm (tnX fr T) xs = sm (fun e => b2 (isIn (snd' e) T) * ct (fst' e) xs + b2 (isIn (fst' e) T) * ct (snd' e) xs) fr := by
  unfold tnX
  rw [sm_swap]
  refine sm_congr fun e _ => ?_
  rw [sm_add, sm_mul, sm_mul]
  rfl
theorem odd_W {nd : List D} (hl9 : nd.length = m) (hni : ∀ y ∈ nd, isNI y = true) (hf : ∀ d ∈ fr, isPr (m : Int) d = true) (h : Lots m fr S T LT) {l : D} (hl : l ∈ LT) : b2 (oddL nd fr T l) = Od (WgtX nd fr T) (fun p => isNon (atN nd p)) l := by
  have hps := h.ps hl
  unfold oddL Od
  rw [any_nn hl9 hni hps]
  cases hq : (itm l).any fun p => isNon (atN nd p) with
  | true => rfl
  | false =>
    rw [if_neg Bool.false_ne_true, Bool.not_false, Bool.true_and]
    have e : (((itm l).map (atN nd)).map toI).sum + ((fr.filter (btwD (itm l) T)).length : Nat) = sm (WgtX nd fr T) (itm l) := by
      have e1 : (((itm l).map (atN nd)).map toI).sum = sm (fun p => toI (atN nd p)) (itm l) := by rw [List.map_map]; rfl
      have e2 : sm (WgtX nd fr T) (itm l) = sm (fun p => toI (atN nd p)) (itm l) + sm (tnX fr T) (itm l) := sm_add
      rw [e1, e2, len_sm, tn_row]
      congr 1
      refine sm_congr fun d hd => ?_
      obtain ⟨pa, pb⟩ := pr_ps (hf d hd)
      rw [btw_b2 h hl (hf d hd) (.inr rfl), h.in1 hl pa, h.in1 hl pb, Int.mul_comm, Int.mul_comm (b2 (isIn (snd' d) (itm l)))]
    rw [e]
    generalize sm (WgtX nd fr T) (itm l) = u
    by_cases hu : u % 2 = 1
    · rw [decide_eq_true hu, b2_true]; omega
    · rw [decide_eq_false hu, b2_false]; omega
theorem odd_sum {nd : List D} (hl9 : nd.length = m) (hni : ∀ y ∈ nd, isNI y = true) (hf : ∀ d ∈ fr, isPr (m : Int) d = true) : ((oddD m nd fr S T).length : Int) = sm (Od (WgtX nd fr T) fun p => isNon (atN nd p)) (lotsD m fr S T) := by
  unfold oddD
  rw [srt_len, len_sm]
  exact sm_congr fun l hl => odd_W hl9 hni hf (lots_ok hf) hl
theorem sm_pairW {e : D} {xs : List D} {w : D → Int} (he : isPr (m : Int) e = true) (hx : ∀ x ∈ xs, isPs m x) : sm (fun p => b2 (isIn p (itm e)) * w p) xs = ct (fst' e) xs * w (fst' e) + ct (snd' e) xs * w (snd' e) := by
  have e1 : sm (fun p => b2 (isIn p (itm e)) * w p) xs = sm (fun p => w (fst' e) * b2 (decide (toI p = toI (fst' e))) + w (snd' e) * b2 (decide (toI p = toI (snd' e)))) xs := by
    obtain ⟨pa, pb⟩ := pr_ps he
    refine sm_congr fun p hp => ?_
    have hpp := hx p hp
    have q := sm_pair he (xs := [p]) fun y hy => by rw [List.mem_singleton.mp hy]; exact hpp
    unfold ct at q
    rw [sm_cons, sm_nil, sm_cons, sm_nil, sm_cons, sm_nil, Int.add_zero, Int.add_zero, Int.add_zero] at q
    rw [q, Int.add_mul]
    congr 1
    · by_cases c : toI p = toI (fst' e)
      · rw [ps_inj hpp pa c, Int.mul_comm]
      · rw [decide_eq_false c, b2_false, Int.zero_mul, Int.mul_zero]
    · by_cases c : toI p = toI (snd' e)
      · rw [ps_inj hpp pb c, Int.mul_comm]
      · rw [decide_eq_false c, b2_false, Int.zero_mul, Int.mul_zero]
  rw [e1, sm_add, sm_mul, sm_mul, Int.mul_comm, Int.mul_comm (w (snd' e))]
  rfl
/-- a pair e of the free ones is known: met (k is 1) or apart (k is 0) -/
structure Less (m : Nat) (nd fr nd' fr' : List D) (e : D) (k : Int) : Prop where
  pm : fr.Perm (e :: fr')
  ln : nd.length = m
  ln' : nd'.length = m
  ni : ∀ y ∈ nd, isNI y = true
  ni' : ∀ y ∈ nd', isNI y = true
  k01 : k = 0 ∨ k = 1
  nn : ∀ p, isPs m p → isNon (atN nd' p) = isNon (atN nd p)
  to : ∀ p, isPs m p → isNon (atN nd p) = false → toI (atN nd' p) = toI (atN nd p) - b2 (isIn p (itm e)) * k
theorem slack_less {nd nd' : List D} {e : D} {k : Int} (hb : BarX m S T) (hf : ∀ d ∈ fr, isPr (m : Int) d = true) (q : Less m nd fr nd' fr' e k) : slackD m nd' fr' S T ≤ slackD m nd fr S T := by
  have hs : ∀ d ∈ fr', d ∈ fr := fun d hd => q.pm.mem_iff.mpr (List.mem_cons_of_mem _ hd)
  have he : e ∈ fr := q.pm.mem_iff.mpr (List.mem_cons_self ..)
  have hf' : ∀ d ∈ fr', isPr (m : Int) d = true := fun d hd => hf d (hs d hd)
  have hpe := hf e he
  obtain ⟨pa, pb⟩ := pr_ps hpe
  have L := lots_ok (S := S) (T := T) hf
  have L' := lots_ok (S := S) (T := T) hf'
  have c1 := ct_b2 pa hb.ps (hb.s1 _ pa)
  have c2 := ct_b2 pb hb.ps (hb.s1 _ pb)
  have c3 := ct_b2 pa hb.pt (hb.t1 _ pa)
  have c4 := ct_b2 pb hb.pt (hb.t1 _ pb)
  have d1 := hb.dj _ pa
  have d2 := hb.dj _ pb
  have rem : ∀ f : D → Int, sm f fr' = sm f fr - f e := fun f => by rw [sm_perm q.pm, sm_cons]; omega
  -- the lines
  have l1 : sm (needAt nd' fr') S = sm (needAt nd fr) S - sm (fun p => b2 (isIn p (itm e)) * (if isNon (atN nd p) = true then 1 else k)) S := by
    rw [← sm_sub]
    refine sm_congr fun p hp => ?_
    have hp := hb.ps p hp
    unfold needAt
    rw [q.nn p hp]
    cases hn : isNon (atN nd p) with
    | true =>
      rw [if_pos rfl, if_pos rfl, if_pos rfl, Int.mul_one]
      unfold degD
      rw [len_sm, len_sm, rem]
    | false =>
      rw [if_neg Bool.false_ne_true, if_neg Bool.false_ne_true, if_neg Bool.false_ne_true]
      exact q.to p hp hn
  have l2 : sm (fun p => ((outD fr' S p : Nat) : Int) - needOr nd' p) T = sm (fun p => ((outD fr S p : Nat) : Int) - needOr nd p) T - sm (fun p => b2 (isIn p (itm e)) * (b2 (!isIn (fst' e) S && !isIn (snd' e) S) - if isNon (atN nd p) = true then 0 else k)) T := by
    rw [← sm_sub]
    refine sm_congr fun p hp => ?_
    have hp := hb.pt p hp
    have o1 : ((outD fr' S p : Nat) : Int) = ((outD fr S p : Nat) : Int) - b2 (isIn p (itm e)) * b2 (!isIn (fst' e) S && !isIn (snd' e) S) := by
      unfold outD
      rw [len_sm, len_sm, rem, b2_and]
    rw [o1]
    unfold needOr
    rw [q.nn p hp, Int.mul_sub]
    cases hn : isNon (atN nd p) with
    | true =>
      rw [if_pos rfl, if_pos rfl, if_pos rfl, Int.mul_zero]
      omega
    | false =>
      rw [if_neg Bool.false_ne_true, if_neg Bool.false_ne_true, if_neg Bool.false_ne_true, q.to p hp hn]
      omega
  rw [sm_pairW hpe hb.ps] at l1
  rw [sm_pairW hpe hb.pt] at l2
  -- the odd lots
  have r1 := ref_odd L L' (lots_ref hf hs) (WgtX nd' fr' T) fun p => isNon (atN nd p)
  have nnl : ∀ l, (∀ p ∈ itm l, isPs m p) → ((itm l).any fun p => isNon (atN nd' p)) = (itm l).any fun p => isNon (atN nd p) := fun l hl => by
    rw [Bool.eq_iff_iff, List.any_eq_true, List.any_eq_true]
    constructor <;> rintro ⟨p, hp, z⟩
    · exact ⟨p, hp, by rw [← q.nn p (hl p hp)]; exact z⟩
    · exact ⟨p, hp, by rw [q.nn p (hl p hp)]; exact z⟩
  have o1 : ((oddD m nd' fr' S T).length : Int) = sm (Od (WgtX nd' fr' T) fun p => isNon (atN nd p)) (lotsD m fr' S T) := by
    rw [odd_sum q.ln' q.ni' hf']
    refine sm_congr fun l hl => ?_
    unfold Od
    rw [nnl l (L'.ps hl)]
  have o2 := odd_sum (S := S) (T := T) q.ln q.ni hf
  have step : sm (fun l => Od (WgtX nd fr T) (fun p => isNon (atN nd p)) l - (b2 (isIn (fst' e) (itm l)) * (if inn S T (snd' e) = true then 0 else (k + b2 (isIn (snd' e) T)) % 2) + b2 (isIn (snd' e) (itm l)) * (if inn S T (fst' e) = true then 0 else (k + b2 (isIn (fst' e) T)) % 2))) (lotsD m fr S T) ≤ sm (Od (WgtX nd' fr' T) fun p => isNon (atN nd p)) (lotsD m fr S T) := by
    refine sm_le fun l hl => ?_
    have hps := L.ps hl
    unfold Od
    cases hq : (itm l).any fun p => isNon (atN nd p) with
    | true =>
      rw [if_pos rfl, if_pos rfl]
      have z1 := (b2_pos (isIn (fst' e) (itm l))).1
      have z2 := (b2_pos (isIn (snd' e) (itm l))).1
      have w1 : (0 : Int) ≤ if inn S T (snd' e) = true then 0 else (k + b2 (isIn (snd' e) T)) % 2 := by split <;> omega
      have w2 : (0 : Int) ≤ if inn S T (fst' e) = true then 0 else (k + b2 (isIn (fst' e) T)) % 2 := by split <;> omega
      have := Int.mul_nonneg z1 w1
      have := Int.mul_nonneg z2 w2
      omega
    | false =>
      rw [if_neg Bool.false_ne_true, if_neg Bool.false_ne_true]
      have wt : sm (WgtX nd' fr' T) (itm l) = sm (WgtX nd fr T) (itm l) - (ct (fst' e) (itm l) * k + ct (snd' e) (itm l) * k) - (b2 (isIn (snd' e) T) * ct (fst' e) (itm l) + b2 (isIn (fst' e) T) * ct (snd' e) (itm l)) := by
        have e1 : sm (WgtX nd' fr' T) (itm l) = sm (fun p => toI (atN nd' p)) (itm l) + sm (tnX fr' T) (itm l) := sm_add
        have e2 : sm (WgtX nd fr T) (itm l) = sm (fun p => toI (atN nd p)) (itm l) + sm (tnX fr T) (itm l) := sm_add
        have e3 : sm (fun p => toI (atN nd' p)) (itm l) = sm (fun p => toI (atN nd p)) (itm l) - sm (fun p => b2 (isIn p (itm e)) * k) (itm l) := by
          rw [← sm_sub]
          refine sm_congr fun p hp => ?_
          refine q.to p (hps p hp) ?_
          rw [List.any_eq_false] at hq
          have := hq p hp
          cases z : isNon (atN nd p)
          · rfl
          · exact absurd z this
        rw [e1, e2, e3, tn_row, tn_row, rem, sm_pairW hpe hps]
        omega
      rw [wt, L.in1 hl pa, L.in1 hl pb]
      generalize sm (WgtX nd fr T) (itm l) = u
      have ra := fun z => L.inr hl pa z
      have rb := fun z => L.inr hl pb z
      have cab : isIn (fst' e) (itm l) = true → inn S T (snd' e) = true → isIn (snd' e) (itm l) = true := fun z w => by
        obtain ⟨k, hk, ka, kb⟩ := L.cl e he (by unfold inn; rw [(ra z).1, (ra z).2]; rfl) w
        rw [L.only pa hl hk z ka]; exact kb
      have cba : isIn (snd' e) (itm l) = true → inn S T (fst' e) = true → isIn (fst' e) (itm l) = true := fun z w => by
        obtain ⟨k, hk, ka, kb⟩ := L.cl e he w (by unfold inn; rw [(rb z).1, (rb z).2]; rfl)
        rw [L.only pb hl hk z kb]; exact ka
      have na : inn S T (fst' e) = true → isIn (fst' e) T = false := fun z => by
        unfold inn at z
        cases hT : isIn (fst' e) T
        · rfl
        · rw [hT] at z; simp at z
      have nb : inn S T (snd' e) = true → isIn (snd' e) T = false := fun z => by
        unfold inn at z
        cases hT : isIn (snd' e) T
        · rfl
        · rw [hT] at z; simp at z
      have ia : isIn (fst' e) (itm l) = true → inn S T (fst' e) = true := fun z => by unfold inn; rw [(ra z).1, (ra z).2]; rfl
      have ib : isIn (snd' e) (itm l) = true → inn S T (snd' e) = true := fun z => by unfold inn; rw [(rb z).1, (rb z).2]; rfl
      have hk := q.k01
      cases a1 : isIn (fst' e) (itm l) <;> cases a2 : isIn (snd' e) (itm l) <;> cases a : inn S T (fst' e) <;> cases b : inn S T (snd' e) <;> cases c : isIn (fst' e) T <;> cases d : isIn (snd' e) T <;>
        first
        | (simp only [b2_true, b2_false, if_true, if_false, Bool.false_eq_true, Int.zero_mul, Int.one_mul, Int.mul_zero, Int.mul_one]; rcases hk with rfl | rfl <;> omega)
        | (rw [ia a1] at a; cases a; done) | (rw [ib a2] at b; cases b; done) | (rw [cab a1 b] at a2; cases a2; done) | (rw [cba a2 a] at a1; cases a1; done) | (rw [na a] at c; cases c; done) | (rw [nb b] at d; cases d; done)
  have cut : sm (fun l => b2 (isIn (fst' e) (itm l)) * (if inn S T (snd' e) = true then 0 else (k + b2 (isIn (snd' e) T)) % 2) + b2 (isIn (snd' e) (itm l)) * (if inn S T (fst' e) = true then 0 else (k + b2 (isIn (fst' e) T)) % 2)) (lotsD m fr S T) = b2 (inn S T (fst' e)) * (if inn S T (snd' e) = true then 0 else (k + b2 (isIn (snd' e) T)) % 2) + b2 (inn S T (snd' e)) * (if inn S T (fst' e) = true then 0 else (k + b2 (isIn (fst' e) T)) % 2) := by
    rw [← L.sumIn pa, ← L.sumIn pb, Int.mul_comm (sm _ _), Int.mul_comm (sm _ _), ← sm_mul, ← sm_mul, ← sm_add]
    exact sm_congr fun l _ => by rw [Int.mul_comm, Int.mul_comm (b2 (isIn (snd' e) (itm l)))]
  rw [sm_sub, cut] at step
  unfold slackD
  rw [slack2_sm, slack2_sm, l1, l2, c1, c2, c3, c4]
  rw [o1, o2]
  have hk := q.k01
  unfold inn at step
  generalize sm (needAt nd fr) S = v1 at *
  generalize sm (fun p => ((outD fr S p : Nat) : Int) - needOr nd p) T = v2 at *
  generalize sm (Od (WgtX nd' fr' T) fun p => isNon (atN nd p)) (lotsD m fr' S T) = v3 at *
  generalize sm (Od (WgtX nd' fr' T) fun p => isNon (atN nd p)) (lotsD m fr S T) = v4 at *
  generalize sm (Od (WgtX nd fr T) fun p => isNon (atN nd p)) (lotsD m fr S T) = v5 at *
  cases a : isIn (fst' e) S <;> cases b : isIn (fst' e) T <;> cases c : isIn (snd' e) S <;> cases d : isIn (snd' e) T <;> cases n1 : isNon (atN nd (fst' e)) <;> cases n2 : isNon (atN nd (snd' e)) <;>
    first
    | (rw [a, b] at d1; cases d1; done) | (rw [c, d] at d2; cases d2; done)
    | (rw [a, b, c, d] at step; simp only [b2_true, b2_false, if_true, if_false, Bool.false_eq_true, Bool.not_true, Bool.not_false, Bool.and_self, Bool.and_true, Bool.and_false, Bool.true_and, Bool.false_and, Int.zero_mul, Int.one_mul, Int.mul_zero, Int.mul_one] at step ⊢; rcases hk with rfl | rfl <;> omega)
end
end DL

namespace DL
open PySem (PyData Addr Str)
/-! ## a party with a meeting -/
structure Led (ns as bs cs : List D) : Prop where
  pty : Pty ns as bs
  sc : cs.Sublist (pairsOf ns.length)
  ac : ∀ x ∈ as, x ∈ cs
  bc : ∀ x ∈ bs, x ∉ cs
  num : ∀ p, isPs ns.length p → atN ns p = .none ∨ atN ns p = .int (degD cs p : Nat)
section
variable {ns as bs cs S T : List D} {m : Nat}
theorem isIn_mem {m : Nat} {d : D} {xs : List D} (hd : isPr (m : Int) d = true) (hx : ∀ x ∈ xs, isPr (m : Int) x = true) : isIn d xs = true ↔ d ∈ xs := isIn_pairs hd hx
theorem isIn_cons {d x : D} {xs : List D} : isIn d (x :: xs) = (PyData.eqv x d || isIn d xs) := rfl
theorem sub_sm {f : D → Int} {xs L : List D} (h : xs.Sublist L) (hL : L.Pairwise (· ≠ ·)) (hp : ∀ x ∈ L, isPr (m : Int) x = true) : sm f xs = sm (fun e => b2 (isIn e xs) * f e) L := by
  induction h with
  | slnil => rfl
  | cons a s ih =>
    rename_i xs L
    obtain ⟨h1, h2⟩ := List.pairwise_cons.mp hL
    have hp2 : ∀ x ∈ L, isPr (m : Int) x = true := fun x hx => hp x (List.mem_cons_of_mem _ hx)
    rw [sm_cons, ih h2 hp2]
    have : isIn a xs = false := by
      cases q : isIn a xs with
      | false => rfl
      | true => exact absurd rfl (h1 a (s.subset ((isIn_mem (hp a (List.mem_cons_self ..)) fun x hx => hp2 x (s.subset hx)).mp q)))
    rw [this, b2_false, Int.zero_mul, Int.zero_add]
  | cons_cons a s ih =>
    rename_i xs L
    obtain ⟨h1, h2⟩ := List.pairwise_cons.mp hL
    have hp2 : ∀ x ∈ L, isPr (m : Int) x = true := fun x hx => hp x (List.mem_cons_of_mem _ hx)
    have ha := hp a (List.mem_cons_self ..)
    rw [sm_cons, sm_cons, ih h2 hp2]
    have e1 : isIn a (a :: xs) = true := by rw [isIn_cons, (eqv_refl_pr ha)]; rfl
    rw [e1, b2_true, Int.one_mul]
    congr 1
    refine sm_congr fun e he => ?_
    have : isIn e (a :: xs) = isIn e xs := by
      rw [isIn_cons]
      have : PyData.eqv a e = false := by
        cases q : PyData.eqv a e with
        | false => rfl
        | true => exact absurd (eqv_pr2 ha (hp2 e he) q) (h1 e he)
      rw [this, Bool.false_or]
    rw [this]
where
  eqv_refl_pr {d : D} (h : isPr (m : Int) d = true) : PyData.eqv d d = true := by
    obtain ⟨i, j, rfl, _⟩ := isPr_iff.mp h
    rw [eqv_pair]; simp
  eqv_pr2 {a b : D} (ha : isPr (m : Int) a = true) (hb : isPr (m : Int) b = true) (q : PyData.eqv a b = true) : a = b := by
    obtain ⟨i, j, rfl, _⟩ := isPr_iff.mp ha
    obtain ⟨k, l, rfl, _⟩ := isPr_iff.mp hb
    rw [eqv_pair] at q
    simp only [Bool.and_eq_true, decide_eq_true_eq] at q
    rw [q.1, q.2]
theorem pairs_ne {m : Nat} (hm : m < 9) : (pairsOf m).Pairwise (· ≠ ·) := ne_of_sub hm (List.Sublist.refl _)
theorem deg_sm {xs : List D} {p : D} : ((degD xs p : Nat) : Int) = sm (fun e => b2 (isIn p (itm e))) xs := by
  unfold degD
  rw [len_sm]
theorem atN_lacks {p : D} (hp : isPs ns.length p) : atN (lacksD ns as) p = lack as p (atN ns p) := by
  obtain ⟨k, hk, rfl⟩ := hp
  unfold atN lacksD
  simp only [toI, Int.toNat_natCast]
  rw [List.getElem?_map, enumD_at, List.getElem?_eq_getElem hk]
  simp only [Option.map_some, Option.getD_some, Nat.zero_add]
  rfl
theorem isNon_lack {p n : D} : isNon (lack as p n) = isNon n := by
  unfold lack
  cases h : isNon n <;> rfl
theorem fr_sm {f : D → Int} : sm f (freeD m as bs) = sm (fun e => b2 (!isIn e as && !isIn e bs) * f e) (pairsOf m) := by
  unfold freeD
  rw [sm_filter]
theorem Led.pc (h : Led ns as bs cs) : ∀ x ∈ cs, isPr ns.length x = true := fun x hx => pairsOf_pr (h.sc.subset hx)
theorem Led.three (h : Led ns as bs cs) {e : D} (he : isPr ns.length e = true) : (isIn e as = true → isIn e cs = true) ∧ (isIn e bs = true → isIn e cs = false) := by
  refine ⟨fun z => ?_, fun z => ?_⟩
  · exact (isIn_mem he h.pc).mpr (h.ac e ((isIn_mem he h.pty.pa).mp z))
  · cases q : isIn e cs with
    | false => rfl
    | true => exact absurd ((isIn_mem he h.pc).mp q) (h.bc e ((isIn_mem he h.pty.pb).mp z))
theorem Led.deg (h : Led ns as bs cs) (p : D) : ((degD cs p : Nat) : Int) - (degD as p : Nat) = dgX (freeD ns.length as bs) (fun e => isIn e cs) p := by
  have l9 := h.pty.l9
  unfold dgX
  rw [deg_sm, deg_sm, fr_sm, sub_sm h.sc (pairs_ne l9) fun x hx => pairsOf_pr hx, sub_sm h.pty.sa (pairs_ne l9) fun x hx => pairsOf_pr hx, ← sm_sub]
  refine sm_congr fun e he => ?_
  obtain ⟨h1, h2⟩ := h.three (pairsOf_pr he)
  generalize b2 (isIn p (itm e)) = u
  show b2 (isIn e cs) * u - b2 (isIn e as) * u = b2 (!isIn e as && !isIn e bs) * (b2 (isIn e cs) * u)
  cases a : isIn e as <;> cases b : isIn e bs <;> cases c : isIn e cs <;> first
    | (rw [h1 a] at c; cases c; done) | (rw [h2 b] at c; cases c; done)
    | (simp only [b2_true, b2_false, Bool.not_true, Bool.not_false, Bool.and_true, Bool.true_and, Bool.and_false, Bool.false_and, Bool.and_self, Int.zero_mul, Int.one_mul]; omega)
theorem Led.fit (h : Led ns as bs cs) : Fit ns.length (lacksD ns as) (freeD ns.length as bs) (fun e => isIn e cs) := fun p hp => by
  rw [atN_lacks hp]
  rcases h.num p hp with z | z
  · rw [z]; exact .inl rfl
  · right
    rw [z, ← h.deg p]
    rfl
/-! with a further fact -/
theorem ltD_ne {a b : D} {m : Int} (ha : isPr m a = true) (hb : isPr m b = true) (h : ltD a b = true) : a ≠ b ∧ ltD b a = false := by
  obtain ⟨i, j, rfl, _⟩ := isPr_iff.mp ha
  obtain ⟨k, l, rfl, _⟩ := isPr_iff.mp hb
  rw [ltD_pair, decide_eq_true_eq] at h
  refine ⟨fun e => ?_, ?_⟩
  · simp only [PyData.tuple.injEq, List.cons.injEq, PyData.int.injEq, and_true] at e
    omega
  · rw [ltD_pair, decide_eq_false_iff_not]
    omega
theorem sub_of_sorted {m : Int} : ∀ {L l : List D}, (∀ x ∈ L, isPr m x = true) → L.Pairwise (fun a b => ltD a b = true) → l.Pairwise (fun a b => ltD a b = true) → (∀ x ∈ l, x ∈ L) → l.Sublist L
  | [], l, _, _, _, hs => by
    cases l with
    | nil => exact .slnil
    | cons x l => exact absurd (hs x (List.mem_cons_self ..)) (by simp)
  | y :: L, l, hp, hL, hl, hs => by
    obtain ⟨h1, h2⟩ := List.pairwise_cons.mp hL
    have hp2 : ∀ x ∈ L, isPr m x = true := fun x hx => hp x (List.mem_cons_of_mem _ hx)
    have py := hp y (List.mem_cons_self ..)
    cases l with
    | nil => exact List.nil_sublist _
    | cons x l =>
      obtain ⟨g1, g2⟩ := List.pairwise_cons.mp hl
      have px := hp x (hs x (List.mem_cons_self ..))
      rcases List.mem_cons.mp (hs x (List.mem_cons_self ..)) with rfl | hx
      · refine List.Sublist.cons₂ _ (sub_of_sorted hp2 h2 g2 fun z hz => ?_)
        rcases List.mem_cons.mp (hs z (List.mem_cons_of_mem _ hz)) with rfl | hz2
        · exact absurd rfl (ltD_ne px px (g1 _ hz)).1
        · exact hz2
      · refine List.Sublist.cons _ (sub_of_sorted hp2 h2 hl fun z hz => ?_)
        rcases List.mem_cons.mp (hs z hz) with rfl | hz2
        · rcases List.mem_cons.mp hz with rfl | hz3
          · exact absurd rfl (ltD_ne px px (h1 _ hx)).1
          · have := (ltD_ne px py (g1 _ hz3)).2
            rw [h1 x hx] at this; cases this
        · exact hz2
theorem srt_lt {xs : List D} {m : Int} (h : ∀ x ∈ xs, isPr m x = true) (hn : xs.Pairwise (· ≠ ·)) : (srt xs).Pairwise (fun a b => ltD a b = true) := by
  have h1 : (srt xs).Pairwise (fun a b => PySem.W.dataLe false id a b = true) := PySem.W.sort_pairwise (PySem.W.sortLe_total _ _ _) xs
  have h2 : (srt xs).Pairwise (· ≠ ·) := (srt_perm xs).symm.pairwise hn fun h => h.symm
  have h3 : ∀ x ∈ srt xs, isPr m x = true := fun x hx => h x (srt_mem.mp hx)
  refine List.Pairwise.imp_of_mem (fun {a b} ha hb z => ?_) (h1.and h2)
  obtain ⟨i, j, rfl, _⟩ := isPr_iff.mp (h3 a ha)
  obtain ⟨k, l, rfl, _⟩ := isPr_iff.mp (h3 b hb)
  have e : (!PySem.W.dataLt (.tuple [.int k, .int l]) (.tuple [.int i, .int j])) = true := z.1
  rw [PySem.W.dataLt_ii, Bool.not_eq_true', decide_eq_false_iff_not] at e
  rw [ltD_pair, decide_eq_true_eq]
  have ne : ¬ (i = k ∧ j = l) := fun ⟨a, b⟩ => z.2 (by rw [a, b])
  omega
theorem sub_put {xs : List D} {d : D} {m : Nat} (hm : m < 9) (hs : xs.Sublist (pairsOf m)) (hd : d ∈ pairsOf m) (hn : d ∉ xs) : (srt (xs ++ [d])).Sublist (pairsOf m) := by
  have hp : ∀ x ∈ xs ++ [d], x ∈ pairsOf m := fun x hx => (List.mem_append.mp hx).elim (fun h => hs.subset h) fun h => by rw [List.mem_singleton.mp h]; exact hd
  refine sub_of_sorted (m := (m : Int)) (fun x hx => pairsOf_pr hx) (pairsOf_lt m hm) (srt_lt (m := (m : Int)) (fun x hx => pairsOf_pr (hp x hx)) ?_) fun x hx => hp x (srt_mem.mp hx)
  refine List.pairwise_append.mpr ⟨ne_of_sub hm hs, List.pairwise_singleton _ _, fun a ha b hb e => ?_⟩
  rw [List.mem_singleton.mp hb] at e
  exact hn (e ▸ ha)
theorem free_in {d : D} (h : d ∈ freeD m as bs) : d ∈ pairsOf m ∧ isIn d as = false ∧ isIn d bs = false := by
  obtain ⟨h1, h2⟩ := List.mem_filter.mp h
  simp only [Bool.and_eq_true, Bool.not_eq_true'] at h2
  exact ⟨h1, h2⟩
theorem Pty.met (h : Pty ns as bs) {d : D} (hd : d ∈ freeD ns.length as bs) : Pty ns (srt (as ++ [d])) bs := by
  obtain ⟨d1, d2, d3⟩ := free_in hd
  have hp := pairsOf_pr d1
  have na : d ∉ as := fun z => by rw [(isIn_mem hp h.pa).mpr z] at d2; cases d2
  have nb : d ∉ bs := fun z => by rw [(isIn_mem hp h.pb).mpr z] at d3; cases d3
  refine ⟨h.l1, h.l9, h.nm, sub_put h.l9 h.sa d1 na, h.sb, fun x hx hx2 => ?_⟩
  rcases List.mem_append.mp (srt_mem.mp hx) with z | z
  · exact h.dj x z hx2
  · rw [List.mem_singleton.mp z] at hx2; exact nb hx2
theorem Pty.apart (h : Pty ns as bs) {d : D} (hd : d ∈ freeD ns.length as bs) : Pty ns as (srt (bs ++ [d])) := by
  obtain ⟨d1, d2, d3⟩ := free_in hd
  have hp := pairsOf_pr d1
  have na : d ∉ as := fun z => by rw [(isIn_mem hp h.pa).mpr z] at d2; cases d2
  have nb : d ∉ bs := fun z => by rw [(isIn_mem hp h.pb).mpr z] at d3; cases d3
  refine ⟨h.l1, h.l9, h.nm, h.sa, sub_put h.l9 h.sb d1 nb, fun x hx hx2 => ?_⟩
  rcases List.mem_append.mp (srt_mem.mp hx2) with z | z
  · exact h.dj x hx z
  · rw [List.mem_singleton.mp z] at hx; exact na hx
theorem perm_rem {L : List D} {d : D} {q : D → Bool} (hL : L.Pairwise (· ≠ ·)) (hd : d ∈ L) (hq : ∀ x ∈ L, q x = true ↔ x ≠ d) : L.Perm (d :: L.filter q) := by
  induction L with
  | nil => cases hd
  | cons y L ih =>
    obtain ⟨h1, h2⟩ := List.pairwise_cons.mp hL
    have hq2 : ∀ x ∈ L, q x = true ↔ x ≠ d := fun x hx => hq x (List.mem_cons_of_mem _ hx)
    rcases List.mem_cons.mp hd with rfl | hd
    · have e1 : ¬ q d = true := fun z => (hq d (List.mem_cons_self ..)).mp z rfl
      rw [List.filter_cons_of_neg e1, List.filter_eq_self.mpr fun x hx => (hq2 x hx).mpr (h1 x hx).symm]
    · have e1 : q y = true := (hq y (List.mem_cons_self ..)).mpr (h1 d hd)
      rw [List.filter_cons_of_pos e1]
      exact ((ih h2 hd hq2).cons y).trans (List.Perm.swap ..)
theorem free_ne (hm : m < 9) : (freeD m as bs).Pairwise (· ≠ ·) := ne_of_sub hm List.filter_sublist
theorem free_met (h : Pty ns as bs) {d : D} (hd : d ∈ freeD ns.length as bs) : (freeD ns.length as bs).Perm (d :: freeD ns.length (srt (as ++ [d])) bs) := by
  have hp := pairsOf_pr (free_in hd).1
  have e : freeD ns.length (srt (as ++ [d])) bs = (freeD ns.length as bs).filter fun x => !PyData.eqv d x := by
    unfold freeD
    rw [List.filter_filter]
    refine List.filter_congr fun x hx => ?_
    rw [isIn_srt, isIn_append, isIn_cons]
    show (!(isIn x as || (PyData.eqv d x || false)) && !isIn x bs) = _
    cases isIn x as <;> cases PyData.eqv d x <;> cases isIn x bs <;> rfl
  rw [e]
  refine perm_rem (free_ne h.l9) hd fun x hx => ?_
  have px := freeD_pr hx
  obtain ⟨i, j, rfl, _⟩ := isPr_iff.mp hp
  obtain ⟨k, l, rfl, _⟩ := isPr_iff.mp px
  rw [eqv_pair]
  simp only [Bool.not_eq_true', Bool.and_eq_false_iff, decide_eq_false_iff_not, ne_eq, PyData.tuple.injEq, List.cons.injEq, PyData.int.injEq, and_true]
  omega
theorem free_apart (h : Pty ns as bs) {d : D} (hd : d ∈ freeD ns.length as bs) : (freeD ns.length as bs).Perm (d :: freeD ns.length as (srt (bs ++ [d]))) := by
  have hp := pairsOf_pr (free_in hd).1
  have e : freeD ns.length as (srt (bs ++ [d])) = (freeD ns.length as bs).filter fun x => !PyData.eqv d x := by
    unfold freeD
    rw [List.filter_filter]
    refine List.filter_congr fun x hx => ?_
    rw [isIn_srt, isIn_append, isIn_cons]
    show (!isIn x as && !(isIn x bs || (PyData.eqv d x || false))) = _
    cases isIn x as <;> cases PyData.eqv d x <;> cases isIn x bs <;> rfl
  rw [e]
  refine perm_rem (free_ne h.l9) hd fun x hx => ?_
  have px := freeD_pr hx
  obtain ⟨i, j, rfl, _⟩ := isPr_iff.mp hp
  obtain ⟨k, l, rfl, _⟩ := isPr_iff.mp px
  rw [eqv_pair]
  simp only [Bool.not_eq_true', Bool.and_eq_false_iff, decide_eq_false_iff_not, ne_eq, PyData.tuple.injEq, List.cons.injEq, PyData.int.injEq, and_true]
  omega
theorem less_met (h : Pty ns as bs) {d : D} (hd : d ∈ freeD ns.length as bs) : Less ns.length (lacksD ns as) (freeD ns.length as bs) (lacksD ns (srt (as ++ [d]))) (freeD ns.length (srt (as ++ [d])) bs) d 1 := by
  refine ⟨free_met h hd, lacksD_len, lacksD_len, fun y hy => lacksD_ni hy, fun y hy => lacksD_ni hy, .inr rfl, fun p hp => by rw [atN_lacks hp, atN_lacks hp, isNon_lack, isNon_lack], fun p hp hn => ?_⟩
  rw [atN_lacks hp, isNon_lack] at hn
  rw [atN_lacks hp, atN_lacks hp]
  unfold lack
  rw [hn]
  show toI (atN ns p) - _ = toI (atN ns p) - _ - _
  have e : ((degD (srt (as ++ [d])) p : Nat) : Int) = (degD as p : Nat) + b2 (isIn p (itm d)) := by
    rw [deg_sm, deg_sm, sm_perm (srt_perm _), sm_append, sm_cons, sm_nil]; omega
  rw [e]; omega
theorem less_apart (h : Pty ns as bs) {d : D} (hd : d ∈ freeD ns.length as bs) : Less ns.length (lacksD ns as) (freeD ns.length as bs) (lacksD ns as) (freeD ns.length as (srt (bs ++ [d]))) d 0 := by
  refine ⟨free_apart h hd, lacksD_len, lacksD_len, fun y hy => lacksD_ni hy, fun y hy => lacksD_ni hy, .inl rfl, fun p hp => rfl, fun p hp hn => ?_⟩
  rw [Int.mul_zero]; omega
/-! turned over -/
def overL (ns : List D) : List D := ns.map fun n => .int ((ns.length : Int) - 1 - toI n)
theorem deg_all : ∀ m : Nat, m < 9 → ∀ p : Nat, p < m → degD (pairsOf m) (.int (p : Int)) = m - 1 := by decide +kernel
theorem free_swap : freeD m bs as = freeD m as bs := by
  unfold freeD
  exact List.filter_congr fun x _ => Bool.and_comm _ _
theorem deg_le (h : Led ns as bs cs) {p : D} (hp : isPs ns.length p) : degD cs p ≤ ns.length - 1 := by
  obtain ⟨k, hk, rfl⟩ := hp
  rw [← deg_all _ h.pty.l9 k hk]
  exact (h.sc.filter _).length_le
theorem over_at {p : D} (hp : isPs ns.length p) : atN (overL ns) p = .int ((ns.length : Int) - 1 - toI (atN ns p)) := by
  obtain ⟨k, hk, rfl⟩ := hp
  unfold overL atN
  simp only [toI, Int.toNat_natCast]
  rw [List.getElem?_map, List.getElem?_eq_getElem hk]
  rfl
theorem over_len : (overL ns).length = ns.length := List.length_map ..
theorem Led.over (h : Led ns as bs cs) (hn : ∀ p, isPs ns.length p → isNon (atN ns p) = false) : Pty (overL ns) bs as ∧ Fit ns.length (lacksD (overL ns) bs) (freeD ns.length as bs) (fun e => !isIn e cs) := by
  have l9 := h.pty.l9
  have l1 := h.pty.l1
  have num : ∀ p, isPs ns.length p → atN ns p = .int (degD cs p : Nat) := fun p hp => by
    rcases h.num p hp with z | z
    · have := hn p hp
      rw [z] at this; cases this
    · exact z
  refine ⟨⟨by rw [over_len]; exact l1, by rw [over_len]; exact l9, fun x hx => ?_, by rw [over_len]; exact h.pty.sb, by rw [over_len]; exact h.pty.sa, fun x hx hx2 => h.pty.dj x hx2 hx⟩, fun p hp => .inr ?_⟩
  · obtain ⟨n, hnm, rfl⟩ := List.mem_map.mp hx
    obtain ⟨k, hk, e⟩ := List.getElem_of_mem hnm
    have hp : isPs ns.length (.int (k : Int)) := ⟨k, hk, rfl⟩
    have := num _ hp
    have at_ : atN ns (.int (k : Int)) = n := by
      unfold atN
      simp only [toI, Int.toNat_natCast]
      rw [List.getElem?_eq_getElem hk, e]; rfl
    rw [at_] at this
    rw [this]
    have d := deg_le h hp
    show (decide ((0 : Int) ≤ (ns.length : Int) - 1 - (degD cs (.int (k : Int)) : Nat)) && decide ((ns.length : Int) - 1 - (degD cs (.int (k : Int)) : Nat) ≤ 20)) = true
    rw [Bool.and_eq_true]
    exact ⟨decide_eq_true (by omega), decide_eq_true (by omega)⟩
  · have hp' : isPs (overL ns).length p := by rw [over_len]; exact hp
    rw [atN_lacks hp', over_at hp, num p hp]
    show PyData.int (((ns.length : Int) - 1 - (degD cs p : Nat)) - (degD bs p : Nat)) = _
    congr 1
    obtain ⟨k, hk, rfl⟩ := hp
    have da := deg_all _ l9 k hk
    have e1 : ((ns.length : Int) - 1) = (degD (pairsOf ns.length) (.int (k : Int)) : Nat) := by rw [da]; omega
    rw [e1]
    unfold dgX
    rw [deg_sm, deg_sm, deg_sm, fr_sm, sub_sm h.sc (pairs_ne l9) fun x hx => pairsOf_pr hx, sub_sm h.pty.sb (pairs_ne l9) fun x hx => pairsOf_pr hx, ← sm_sub, ← sm_sub]
    refine sm_congr fun e he => ?_
    obtain ⟨h1, h2⟩ := h.three (pairsOf_pr he)
    generalize b2 (isIn (.int (k : Int)) (itm e)) = u
    show u - b2 (isIn e cs) * u - b2 (isIn e bs) * u = b2 (!isIn e as && !isIn e bs) * (b2 (!isIn e cs) * u)
    cases a : isIn e as <;> cases b : isIn e bs <;> cases c : isIn e cs <;> first
      | (rw [h1 a] at c; cases c; done) | (rw [h2 b] at c; cases c; done)
      | (simp only [b2_true, b2_false, Bool.not_true, Bool.not_false, Bool.and_true, Bool.true_and, Bool.and_false, Bool.false_and, Bool.and_self, Int.zero_mul, Int.one_mul]; omega)
theorem lots_swap {fr : List D} : lotsD m fr T S = lotsD m fr S T := by
  unfold lotsD lumpsD
  have e1 : innerD fr T S = innerD fr S T := by
    unfold innerD
    refine List.filter_congr fun x _ => ?_
    cases isIn (fst' x) S <;> cases isIn (fst' x) T <;> cases isIn (snd' x) S <;> cases isIn (snd' x) T <;> rfl
  have e2 : lump0 m T S = lump0 m S T := by
    unfold lump0
    rw [List.filter_congr fun x _ => Bool.and_comm (!isIn x T) (!isIn x S)]
  rw [e1, e2]
theorem waste_swap {fr LT : List D} {x nn : D → Bool} (h1 : ∀ p ∈ S, nn p = false) (h2 : ∀ p ∈ T, nn p = false) : wasteX fr (fun e => !x e) T S LT nn = wasteX fr x S T LT nn := by
  have z1 : ∀ (f : D → Int), sm (fun p => if nn p = true then f p else 0) S = 0 := fun f => by
    exact (sm_congr (g := fun _ => 0) fun p hp => by rw [h1 p hp, if_neg Bool.false_ne_true]).trans sm_zero
  have z2 : ∀ (f : D → Int), sm (fun p => if nn p = true then f p else 0) T = 0 := fun f => by
    exact (sm_congr (g := fun _ => 0) fun p hp => by rw [h2 p hp, if_neg Bool.false_ne_true]).trans sm_zero
  have mr : ∀ l, moreX fr (fun e => !x e) T S l = moreX fr x S T l := fun l => by
    unfold moreX
    simp only [Bool.not_not]
    omega
  unfold wasteX
  simp only [z1, z2, mr, Bool.not_not]
  omega
theorem waste_nn {fr LT : List D} {x nn nn' : D → Bool} (h1 : ∀ p ∈ S, nn p = nn' p) (h2 : ∀ p ∈ T, nn p = nn' p) (h3 : ∀ l ∈ LT, ∀ p ∈ itm l, nn p = nn' p) : wasteX fr x S T LT nn = wasteX fr x S T LT nn' := by
  unfold wasteX
  have e1 : sm (fun p => if nn p = true then dgX fr (fun e => !x e) p else 0) S = sm (fun p => if nn' p = true then dgX fr (fun e => !x e) p else 0) S := sm_congr fun p hp => by rw [h1 p hp]
  have e2 : sm (fun p => if nn p = true then dgX fr x p else 0) T = sm (fun p => if nn' p = true then dgX fr x p else 0) T := sm_congr fun p hp => by rw [h2 p hp]
  have e3 : sm (fun l => moreX fr x S T l - if ((itm l).any nn) = true then 0 else moreX fr x S T l % 2) LT = sm (fun l => moreX fr x S T l - if ((itm l).any nn') = true then 0 else moreX fr x S T l % 2) LT := sm_congr fun l hl => by
    have : (itm l).any nn = (itm l).any nn' := by
      rw [Bool.eq_iff_iff, List.any_eq_true, List.any_eq_true]
      constructor <;> rintro ⟨p, hp, z⟩
      · exact ⟨p, hp, by rw [← h3 l hl p hp]; exact z⟩
      · exact ⟨p, hp, by rw [h3 l hl p hp]; exact z⟩
    rw [this]
  rw [e1, e2, e3]
end
end DL

namespace DL
open PySem (PyData Addr Str)
section
variable {ns as bs cs S T fr LT : List D} {m : Nat}
theorem fil_empty {p : D → Bool} : ∀ {xs : List D}, (xs.filter p).isEmpty = !xs.any p
  | [] => rfl
  | x :: xs => by
    have := fil_empty (p := p) (xs := xs)
    cases h : p x
    · simpa [h] using this
    · simp [h]
/-! ## the waste, as it is counted -/
def moN (fr : List D) (x : D → Bool) (S T : List D) (l : D) : Int := (((fr.filter x).filter (btwD (itm l) S)).length : Nat) + (((fr.filter fun e => !x e).filter (btwD (itm l) T)).length : Nat)
theorem mo_X {x : D → Bool} {l : D} : moN fr x S T l = moreX fr x S T l := by
  unfold moN moreX
  rw [List.filter_filter, List.filter_filter, len_sm, len_sm]
  congr 1
  · exact sm_congr fun e _ => by rw [Bool.and_comm]
  · exact sm_congr fun e _ => by rw [Bool.and_comm]
theorem nn_X {y : D → Bool} {nn : D → Bool} {p : D} : ((((fr.filter y).filter fun d => isIn p (itm d) && nn p).length : Nat) : Int) = if nn p = true then dgX fr y p else 0 := by
  rw [List.filter_filter, len_sm]
  cases nn p with
  | true =>
    rw [if_pos rfl]
    unfold dgX
    exact sm_congr fun e _ => by rw [Bool.and_true, Bool.and_comm, b2_and]
  | false =>
    rw [if_neg Bool.false_ne_true]
    exact (sm_congr (g := fun _ => 0) fun e _ => by rw [Bool.and_false, Bool.false_and, b2_false]).trans sm_zero
def foldA (left : List D) (nn : D → Bool) (f : Int) (p : D) : Int := f + ((left.filter fun d => isIn p (itm d) && nn p).length : Nat)
def foldC (fr : List D) (x nn : D → Bool) (S T : List D) (f : Int) (l : D) : Int := f + moN fr x S T l - if ((itm l).filter nn).isEmpty = true then moN fr x S T l % 2 else 0
theorem waste_eq {x nn : D → Bool} : LT.foldl (foldC fr x nn S T) (T.foldl (foldA (fr.filter x) nn) (S.foldl (foldA (fr.filter fun e => !x e) nn)
    (2 * (((fr.filter x).filter fun d => isIn (fst' d) S && isIn (snd' d) S).length : Nat) + 2 * (((fr.filter fun e => !x e).filter fun d => isIn (fst' d) T && isIn (snd' d) T).length : Nat)))) = wasteX fr x S T LT nn := by
  have ec : foldC fr x nn S T = fun f l => f + (moreX fr x S T l - if ((itm l).any nn) = true then 0 else moreX fr x S T l % 2) := by
    funext f l
    unfold foldC
    rw [mo_X, fil_empty]
    cases (itm l).any nn with
    | true => rw [Bool.not_true, if_neg Bool.false_ne_true, if_pos rfl]; omega
    | false => rw [Bool.not_false, if_pos rfl, if_neg Bool.false_ne_true]; omega
  have ea : foldA (fr.filter fun e => !x e) nn = fun f p => f + (if nn p = true then dgX fr (fun e => !x e) p else 0) := by
    funext f p
    unfold foldA
    rw [nn_X]
  have eb : foldA (fr.filter x) nn = fun f p => f + (if nn p = true then dgX fr x p else 0) := by
    funext f p
    unfold foldA
    rw [nn_X]
  rw [ec, ea, eb, sm_fold, sm_fold, sm_fold, List.filter_filter, List.filter_filter, len_sm, len_sm]
  unfold wasteX
  have e1 : sm (fun e => b2 ((isIn (fst' e) S && isIn (snd' e) S) && x e)) fr = sm (fun e => b2 (x e && (isIn (fst' e) S && isIn (snd' e) S))) fr := sm_congr fun e _ => by rw [Bool.and_comm]
  have e2 : sm (fun e => b2 ((isIn (fst' e) T && isIn (snd' e) T) && !x e)) fr = sm (fun e => b2 (!x e && (isIn (fst' e) T && isIn (snd' e) T))) fr := sm_congr fun e _ => by rw [Bool.and_comm]
  rw [e1, e2]
/-! ## drawn bars are bars -/
theorem ct_sub {p : D} {xs ys : List D} (h : xs.Sublist ys) : ct p xs ≤ ct p ys := by
  induction h with
  | slnil => exact Int.le_refl _
  | cons a s ih =>
    unfold ct at *
    rw [sm_cons]
    have := (b2_pos (decide (toI a = toI p))).1
    omega
  | cons_cons a s ih =>
    unfold ct at *
    rw [sm_cons, sm_cons]
    omega
theorem ct_rng {p : D} (hp : isPs m p) : ct p (rng 0 m) = 1 := by
  have := sm_at (w := fun _ => 1) hp
  rw [← this]
  unfold ct
  refine sm_congr fun k _ => ?_
  rw [Int.mul_one]
  congr 1
  by_cases e : toI k = toI p
  · rw [decide_eq_true e, decide_eq_true e.symm]
  · rw [decide_eq_false e, decide_eq_false fun z => e z.symm]
theorem barX_of (hs : S.Sublist (rng 0 m)) (ht : T.Sublist (rng 0 m)) (dj : ∀ x ∈ S, x ∉ T) (hm : m < 9) : BarX m S T := by
  have ls : S.length ≤ m := by have := hs.length_le; simpa [rng] using this
  have lt : T.length ≤ m := by have := ht.length_le; simpa [rng] using this
  have ps : ∀ x ∈ S, isPs m x := fun x hx => rng_isPs (hs.subset hx)
  have pt : ∀ x ∈ T, isPs m x := fun x hx => rng_isPs (ht.subset hx)
  refine ⟨⟨ps, pt, by omega, by omega⟩, fun p hp => ?_, fun p hp => ?_, fun p hp => ?_⟩
  · rw [← ct_rng hp]; exact ct_sub hs
  · rw [← ct_rng hp]; exact ct_sub ht
  · cases a : isIn p S with
    | false => rfl
    | true =>
      cases b : isIn p T with
      | false => rfl
      | true => exact absurd ((isIn_ps hp pt).mp b) (dj p ((isIn_ps hp ps).mp a))
/-! ## the law's three claims -/
abbrev slackQ (ns as bs S T : List D) : Int := slackD ns.length (lacksD ns as) (freeD ns.length as bs) S T
theorem slack_is (h : Led ns as bs cs) (hb : BarX ns.length S T) : slackQ ns as bs S T = wasteX (freeD ns.length as bs) (fun e => isIn e cs) S T (srt (lotsD ns.length (freeD ns.length as bs) S T)) fun p => isNon (atN ns p) := by
  have hf : ∀ d ∈ freeD ns.length as bs, isPr (ns.length : Int) d = true := fun d hd => freeD_pr hd
  have L := lots_ok (S := S) (T := T) hf
  have L' := L.perm (srt_perm (lotsD ns.length (freeD ns.length as bs) S T))
  show slackD _ _ _ _ _ = _
  rw [slack_X hb lacksD_len (fun y hy => lacksD_ni hy) hf L' h.fit (srt_perm _)]
  have e : ∀ p, isPs ns.length p → isNon (atN (lacksD ns as) p) = isNon (atN ns p) := fun p hp => by rw [atN_lacks hp, isNon_lack]
  exact waste_nn (fun p hp => e p (hb.ps p hp)) (fun p hp => e p (hb.pt p hp)) fun l hl p hp => e p (L'.ps hl p hp)
theorem slack_met (h : Pty ns as bs) (hb : BarX ns.length S T) {d : D} (hd : d ∈ freeD ns.length as bs) : slackQ ns (srt (as ++ [d])) bs S T ≤ slackQ ns as bs S T := slack_less hb (fun d hd => freeD_pr hd) (less_met h hd)
theorem slack_apart (h : Pty ns as bs) (hb : BarX ns.length S T) {d : D} (hd : d ∈ freeD ns.length as bs) : slackQ ns as (srt (bs ++ [d])) S T ≤ slackQ ns as bs S T := slack_less hb (fun d hd => freeD_pr hd) (less_apart h hd)
theorem slack_over (h : Led ns as bs cs) (hb : BarX ns.length S T) (hb' : BarX ns.length T S) (hn : ∀ p, isPs ns.length p → isNon (atN ns p) = false) : slackQ (overL ns) bs as T S = slackQ ns as bs S T := by
  obtain ⟨hP, hF⟩ := h.over hn
  have hf : ∀ d ∈ freeD ns.length as bs, isPr (ns.length : Int) d = true := fun d hd => freeD_pr hd
  have L := lots_ok (S := S) (T := T) hf
  have L' := lots_ok (S := T) (T := S) hf
  show slackD (overL ns).length _ (freeD (overL ns).length bs as) T S = _
  rw [over_len, free_swap]
  have nn0 : ∀ p, isPs ns.length p → isNon (atN (lacksD (overL ns) bs) p) = false := fun p hp => by
    have hp' : isPs (overL ns).length p := by rw [over_len]; exact hp
    rw [atN_lacks hp', isNon_lack, over_at hp]; rfl
  rw [slack_X hb' (by rw [lacksD_len, over_len]) (fun y hy => lacksD_ni hy) hf L' hF (List.Perm.refl _), lots_swap, waste_swap (fun p hp => nn0 p (hb.ps p hp)) fun p hp => nn0 p (hb.pt p hp)]
  show _ = slackD _ _ _ _ _
  rw [slack_X hb lacksD_len (fun y hy => lacksD_ni hy) hf L h.fit (List.Perm.refl _)]
  have nn1 : ∀ p, isPs ns.length p → isNon (atN (lacksD ns as) p) = false := fun p hp => by rw [atN_lacks hp, isNon_lack]; exact hn p hp
  exact waste_nn (fun p hp => by rw [nn0 p (hb.ps p hp), nn1 p (hb.ps p hp)]) (fun p hp => by rw [nn0 p (hb.pt p hp), nn1 p (hb.pt p hp)]) fun l hl p hp => by rw [nn0 p (L.ps hl p hp), nn1 p (L.ps hl p hp)]
end
end DL

namespace DL
open PySem (PyData Addr Str)
/-! ## two fors of known turns -/
theorem lcIn_k {vs1 : List Nat} {b1 : D → En → Option En} {t1 : En → M Bool} {el : En → M Wv} {ρ : En} (q : D → D) : ∀ (es acc : List D), acc.length + es.length ≤ 1000000 →
    (∀ e ∈ es, ∃ ρ2, b1 e (wipeE ρ vs1) = some ρ2 ∧ t1 ρ2 = .ok true ∧ ∃ w, el ρ2 = .ok w ∧ w.d = .ok (q e)) → lcIn vs1 b1 t1 el es ρ acc = .ok (acc ++ es.map q)
  | [], acc, _, _ => by simp [lcIn]
  | e :: es, acc, hz, h => by
    obtain ⟨ρ2, h1, h2, w, h3, h4⟩ := h e (List.mem_cons_self ..)
    simp only [List.length_cons] at hz
    unfold lcIn
    rw [h1]
    simp only [h2, M.ok_bind, if_true, h3, h4]
    rw [small_of (by omega), lcIn_k q es (acc ++ [q e]) (by simp only [List.length_append, List.length_cons, List.length_nil]; omega) fun x hx => h x (List.mem_cons_of_mem _ hx)]
    simp
theorem lcOut_k {vs vs1 : List Nat} {b b1 : D → En → Option En} {t t1 : En → M Bool} {src1 : En → M (List D)} {el : En → M Wv} {ρ : En} (es : D → List D) (q : D → D → D) : ∀ (ds acc : List D), acc.length + (ds.flatMap es).length ≤ 1000000 →
    (∀ d ∈ ds, ∃ ρ1, b d (wipeE ρ vs) = some ρ1 ∧ t ρ1 = .ok true ∧ src1 ρ1 = .ok (es d) ∧ ∀ e ∈ es d, ∃ ρ2, b1 e (wipeE ρ1 vs1) = some ρ2 ∧ t1 ρ2 = .ok true ∧ ∃ w, el ρ2 = .ok w ∧ w.d = .ok (q d e)) →
    lcOut vs b t src1 vs1 b1 t1 el ds ρ acc = .ok (acc ++ ds.flatMap fun d => (es d).map (q d))
  | [], acc, _, _ => by simp [lcOut]
  | d :: ds, acc, hz, h => by
    obtain ⟨ρ1, h1, h2, h3, h4⟩ := h d (List.mem_cons_self ..)
    simp only [List.flatMap_cons, List.length_append] at hz
    unfold lcOut
    rw [h1]
    simp only [h2, M.ok_bind, if_true, h3]
    rw [lcIn_k (q d) (es d) acc (by omega) h4, M.ok_bind, lcOut_k es q ds _ (by simp only [List.length_append, List.length_map]; omega) fun x hx => h x (List.mem_cons_of_mem _ hx)]
    simp [List.flatMap_cons]
theorem lc2_k {vs vs1 : List Nat} {src src1 : En → M (List D)} {b b1 : D → En → Option En} {t t1 : En → M Bool} {el : En → M Wv} {ρ : En} {ds : List D} (es : D → List D) (q : D → D → D) (hs : src ρ = .ok ds) (hz : (ds.flatMap es).length ≤ 1000000)
    (h : ∀ d ∈ ds, ∃ ρ1, b d (wipeE (dropO ρ) vs) = some ρ1 ∧ t ρ1 = .ok true ∧ src1 ρ1 = .ok (es d) ∧ ∀ e ∈ es d, ∃ ρ2, b1 e (wipeE ρ1 vs1) = some ρ2 ∧ t1 ρ2 = .ok true ∧ ∃ w, el ρ2 = .ok w ∧ w.d = .ok (q d e)) :
    lc2 vs src b t src1 vs1 b1 t1 el ρ = .ok (.own (ds.flatMap fun d => (es d).map (q d))) := by
  unfold lc2
  rw [hs, M.ok_bind, lcOut_k es q ds [] (by simpa using hz) h]
  simp
/-! ## a loop told by what is left of its list -/
theorem loop_left {b : D → En → Option En} {g : En → M Fl} {σ : Type} (I : List D → σ → En → Prop) (st : σ → D → σ)
    (hs : ∀ d ds s ρ, I (d :: ds) s ρ → ∃ ρ1, b d ρ = some ρ1 ∧ ∃ ρ2, g ρ1 = .ok (.nx ρ2) ∧ I ds (st s d) ρ2) : ∀ (ds : List D) (s : σ) (ρ : En), I ds s ρ → ∃ ρ', I [] (ds.foldl st s) ρ' ∧ loop b g ds ρ = .ok (.nx ρ')
  | [], s, ρ, h => ⟨ρ, h, loop_nil⟩
  | d :: ds, s, ρ, h => by
    obtain ⟨ρ1, h1, ρ2, h2, h3⟩ := hs d ds s ρ h
    obtain ⟨ρ', h4, h5⟩ := loop_left I st hs ds (st s d) ρ2 h3
    refine ⟨ρ', h4, ?_⟩
    rw [loop_cons, h1, loopB_some, h2, M.ok_bind, loopK_nx, h5]
theorem loopL {α : Type} {b : D → En → Option En} {g : En → M Fl} {σ : Type} {ds : List D} {ρ : En} {k : Fl → M α} {r : M α} (I : List D → σ → En → Prop) (st : σ → D → σ) (s : σ) (h0 : I ds s ρ)
    (hs : ∀ d ds s ρ, I (d :: ds) s ρ → ∃ ρ1, b d ρ = some ρ1 ∧ ∃ ρ2, g ρ1 = .ok (.nx ρ2) ∧ I ds (st s d) ρ2) (hk : ∀ ρ', I [] (ds.foldl st s) ρ' → k (.nx ρ') = r) : (loop b g ds ρ >>= k) = r := by
  obtain ⟨ρ', h1, h2⟩ := loop_left I st hs ds s ρ h0
  rw [h2, M.ok_bind]
  exact hk ρ' h1
/-! ## sorted: the order that the items came in is of no account -/
theorem srt_perm_eq {xs ys : List D} (h : xs.Perm ys) (inj : ∀ a ∈ xs, ∀ b ∈ xs, PySem.W.keyToks a = PySem.W.keyToks b → a = b) : srt xs = srt ys := by
  have h1 : ∀ zs, (srt zs).Pairwise (fun a b => PySem.W.dataLe false id a b = true) := fun zs => PySem.W.sort_pairwise (PySem.W.sortLe_total _ _ _) zs
  refine List.Perm.eq_of_pairwise (le := fun a b => PySem.W.dataLe false id a b = true) (fun a b ha hb x y => ?_) (h1 xs) (h1 ys) ((srt_perm xs).trans (h.trans (srt_perm ys).symm))
  refine inj a (srt_mem.mp ha) b (h.symm.subset (srt_mem.mp hb)) ?_
  have x : (!(PyProof.Rows.listOrd PyProof.Rows.itemOrd).blt (PySem.W.keyToks b) (PySem.W.keyToks a)) = true := x
  have y : (!(PyProof.Rows.listOrd PyProof.Rows.itemOrd).blt (PySem.W.keyToks a) (PySem.W.keyToks b)) = true := y
  rw [Bool.not_eq_true'] at x y
  exact (PyProof.Rows.listOrd PyProof.Rows.itemOrd).total _ _ y x
theorem toks_int {i j : Int} (h : PySem.W.keyToks (.int i) = PySem.W.keyToks (.int j)) : i = j := by
  simpa [PySem.W.keyToks] using h
theorem toks_ps : ∀ {m : Nat} {xs ys : List D}, (∀ x ∈ xs, isPs m x) → (∀ y ∈ ys, isPs m y) → PySem.W.keyToksAll xs = PySem.W.keyToksAll ys → xs = ys
  | _, [], [], _, _, _ => rfl
  | _, [], y :: ys, _, _, h => by simp [PySem.W.keyToksAll] at h
  | _, x :: xs, [], _, _, h => by simp [PySem.W.keyToksAll] at h
  | m, x :: xs, y :: ys, hx, hy, h => by
    obtain ⟨i, _, rfl⟩ := hx x (List.mem_cons_self ..)
    obtain ⟨j, _, rfl⟩ := hy y (List.mem_cons_self ..)
    simp only [PySem.W.keyToksAll, PySem.W.keyToks, List.cons_append, List.nil_append, List.cons.injEq, true_and] at h
    rw [toks_ps (fun z hz => hx z (List.mem_cons_of_mem _ hz)) (fun z hz => hy z (List.mem_cons_of_mem _ hz)) h.2]
    have := h.1
    simp only [Sum.inl.injEq] at this
    rw [this]
/-! ## persons and tuples of persons -/
def isTP (m : Nat) (d : D) : Prop := ∃ xs, d = .tuple xs ∧ xs ≠ [] ∧ ∀ p ∈ xs, isPs m p
section
variable {m : Nat} {xs ys : List D}
theorem srt_ps_eq (h : xs.Perm ys) (hx : ∀ x ∈ xs, isPs m x) : srt xs = srt ys := srt_perm_eq h fun a ha b hb e => by
  obtain ⟨i, _, rfl⟩ := hx a ha
  obtain ⟨j, _, rfl⟩ := hx b hb
  rw [toks_int e]
theorem srt_tp_eq (h : xs.Perm ys) (hx : ∀ x ∈ xs, isTP m x) : srt xs = srt ys := srt_perm_eq h fun a ha b hb e => by
  obtain ⟨x, rfl, _, hx1⟩ := hx a ha
  obtain ⟨y, rfl, _, hy1⟩ := hx b hb
  unfold PySem.W.keyToks at e
  rw [toks_ps hx1 hy1 e]
theorem canSort_is (h : ∀ x ∈ xs, isPs m x) : canSort xs = true := by
  have h1 : alikes xs = true := by
    unfold alikes
    rw [List.all_eq_true]
    intro a ha
    rw [List.all_eq_true]
    intro b hb
    obtain ⟨i, _, rfl⟩ := h a ha
    obtain ⟨j, _, rfl⟩ := h b hb
    rfl
  have h2 : xs.all isNT = true := List.all_eq_true.mpr fun x hx => by obtain ⟨i, _, rfl⟩ := h x hx; rfl
  have h3 : (xs.all fun d => decide (d.depth ≤ 60)) = true := List.all_eq_true.mpr fun x hx => by obtain ⟨i, _, rfl⟩ := h x hx; rfl
  unfold canSort
  rw [h1, h2, h3]
  simp
theorem alikeAll_is : ∀ {xs ys : List D}, (∀ x ∈ xs, isPs m x) → (∀ x ∈ ys, isPs m x) → PySem.W.alikeAll xs ys = true
  | [], ys, _, _ => by unfold PySem.W.alikeAll; cases ys <;> rfl
  | x :: xs, [], _, _ => by unfold PySem.W.alikeAll; rfl
  | x :: xs, y :: ys, hx, hy => by
    obtain ⟨i, _, rfl⟩ := hx x (List.mem_cons_self ..)
    obtain ⟨j, _, rfl⟩ := hy y (List.mem_cons_self ..)
    unfold PySem.W.alikeAll
    rw [alikeAll_is (fun z hz => hx z (List.mem_cons_of_mem _ hz)) fun z hz => hy z (List.mem_cons_of_mem _ hz)]
    rfl
theorem isTP.dep {d : D} (h : isTP m d) : d.depth ≤ 2 := by
  obtain ⟨x, rfl, _, hx⟩ := h
  have := depth_all (n := 1) (xs := x) fun p hp => dep_ni (isPs_ni (hx p hp))
  unfold PyData.depth
  omega
theorem isTP.lay {d : D} (h : isTP m d) : PyData.canLay0 d = true := by
  obtain ⟨x, rfl, _, hx⟩ := h
  unfold PyData.canLay0
  exact lay_nis fun p hp => isPs_ni (hx p hp)
theorem isTP.shaped {d : D} (h : isTP m d) : PySem.SeqAt.shaped d = true := by
  have h1 := h.lay
  have h2 := h.dep
  unfold PySem.SeqAt.shaped
  rw [h1, Bool.true_and, decide_eq_true_eq]
  omega
theorem canSort_tp (h : ∀ l ∈ xs, isTP m l) : canSort xs = true := by
  have h1 : alikes xs = true := by
    unfold alikes
    rw [List.all_eq_true]
    intro a ha
    rw [List.all_eq_true]
    intro b hb
    obtain ⟨x, rfl, _, hx⟩ := h a ha
    obtain ⟨y, rfl, _, hy⟩ := h b hb
    unfold PySem.W.alike
    exact alikeAll_is hx hy
  have h2 : xs.all isT1 = true := List.all_eq_true.mpr fun l hl => by
    obtain ⟨x, rfl, e, _⟩ := h l hl
    cases x with
    | nil => exact absurd rfl e
    | cons a x => rfl
  have h3 : (xs.all fun d => decide (d.depth ≤ 60)) = true := List.all_eq_true.mpr fun l hl => by
    have := (h l hl).dep
    rw [decide_eq_true_eq]
    omega
  unfold canSort
  rw [h1, h2, h3]
  rfl
theorem eqv_TP {a b : D} (ha : isTP m a) (hb : isTP m b) : PyData.eqv a b = true ↔ a = b := by
  obtain ⟨x, rfl, _, hx⟩ := ha
  obtain ⟨y, rfl, _, hy⟩ := hb
  simp only [PyData.eqv]
  rw [eqvAll_nis (fun p hp => isPs_ni (hx p hp)) fun p hp => isPs_ni (hy p hp)]
  simp
theorem isIn_TP {p : D} (hp : isTP m p) (h : ∀ x ∈ xs, isTP m x) : isIn p xs = true ↔ p ∈ xs := by
  unfold isIn
  rw [List.any_eq_true]
  constructor
  · rintro ⟨x, h1, h2⟩
    rw [eqv_TP (h x h1) hp] at h2
    rw [← h2]; exact h1
  · intro h1
    exact ⟨p, h1, (eqv_TP hp hp).mpr rfl⟩
theorem vIn_TP {p : D} (hp : isTP m p) (h : ∀ x ∈ xs, isTP m x) : vIn p (.list xs) = .ok (isIn p xs) := vIn_list hp.shaped (canLay_all fun x hx => (h x hx).lay)
theorem noLs_is (h : ∀ x ∈ xs, isPs m x) : noLs xs = true := by
  induction xs with
  | nil => rfl
  | cons x xs ih =>
    obtain ⟨i, _, rfl⟩ := h x (List.mem_cons_self ..)
    rw [noLs_cons, ih fun y hy => h y (List.mem_cons_of_mem _ hy)]
    rfl
theorem noLs_tp (h : ∀ x ∈ xs, isTP m x) : noLs xs = true := by
  induction xs with
  | nil => rfl
  | cons x xs ih =>
    obtain ⟨y, rfl, _, hy⟩ := h x (List.mem_cons_self ..)
    rw [noLs_cons, ih fun y hy => h y (List.mem_cons_of_mem _ hy), noL_tuple, noLs_is hy]
    rfl
end
/-! ## pieces -/
section
variable {cs fd ps : List D} {m : Nat} {p : D}
def nearD (cs : List D) (p : D) (fd : List D) : List D := fd.filter fun l => (lits l).any fun o => isIn (.tuple [o, p]) cs
def stepP (cs fd : List D) (p : D) : List D := (fd.filter fun l => !isIn l (nearD cs p fd)) ++ [.tuple (srt ((nearD cs p fd).flatMap lits ++ [p]))]
def piecesD (cs ps : List D) : List D := srt (ps.foldl (stepP cs) [])
def wid (l : D) : Nat := (lits l).length
theorem flat_wid (xs : List D) : (xs.flatMap lits).length = (xs.map wid).sum := flat_len xs
structure Pcs (m k : Nat) (fd : List D) : Prop where
  tp : ∀ l ∈ fd, isTP m l
  sum : (fd.map wid).sum = k
theorem Pcs.near {k : Nat} (h : Pcs m k fd) : (∀ l ∈ nearD cs p fd, isTP m l) ∧ ((nearD cs p fd).flatMap lits).length ≤ k ∧ ∀ o ∈ (nearD cs p fd).flatMap lits, isPs m o := by
  have h1 : ∀ l ∈ nearD cs p fd, isTP m l := fun l hl => h.tp l (List.mem_filter.mp hl).1
  refine ⟨h1, ?_, fun o ho => ?_⟩
  · rw [flat_wid]
    have := sum_split (fun l => (lits l).any fun o => isIn (.tuple [o, p]) cs) wid fd
    have s := h.sum
    unfold nearD
    omega
  · obtain ⟨l, hl, ho⟩ := List.mem_flatMap.mp ho
    obtain ⟨x, rfl, _, hx⟩ := h1 l hl
    exact hx o ho
theorem Pcs.len {k : Nat} (h : Pcs m k fd) : fd.length ≤ k := by
  have h1 := h.tp
  rw [← h.sum]
  clear h
  induction fd with
  | nil => simp
  | cons l fd ih =>
    have := ih fun x hx => h1 x (List.mem_cons_of_mem _ hx)
    obtain ⟨x, rfl, e, _⟩ := h1 l (List.mem_cons_self ..)
    have : 1 ≤ x.length := by cases x with
      | nil => exact absurd rfl e
      | cons a x => simp
    simp only [List.length_cons, List.map_cons, List.sum_cons, show wid (.tuple x) = x.length from rfl]
    omega
theorem Pcs.one {k : Nat} (h : Pcs m k fd) {l : D} (hl : l ∈ fd) : wid l ≤ k := by
  rw [← h.sum]
  clear h
  induction fd with
  | nil => cases hl
  | cons a fd ih =>
    simp only [List.map_cons, List.sum_cons]
    rcases List.mem_cons.mp hl with rfl | hl
    · omega
    · have := ih hl
      omega
theorem Pcs.rest {k : Nat} (h : Pcs m k fd) : (fd.filter fun l => !isIn l (nearD cs p fd)) = fd.filter fun l => !((lits l).any fun o => isIn (.tuple [o, p]) cs) := by
  refine List.filter_congr fun l hl => ?_
  congr 1
  rw [Bool.eq_iff_iff, isIn_TP (h.tp l hl) h.near.1]
  unfold nearD
  rw [List.mem_filter]
  exact ⟨fun z => z.2, fun z => ⟨hl, z⟩⟩
theorem Pcs.step {k : Nat} (h : Pcs m k fd) (hp : isPs m p) : Pcs m (k + 1) (stepP cs fd p) := by
  have hn := h.near (cs := cs) (p := p)
  refine ⟨fun l hl => ?_, ?_⟩
  · rcases List.mem_append.mp hl with hl | hl
    · exact h.tp l (List.mem_filter.mp hl).1
    · rw [List.mem_singleton.mp hl]
      refine ⟨_, rfl, srt_isEmpty (by simp), fun o ho => ?_⟩
      rcases List.mem_append.mp (srt_mem.mp ho) with ho | ho
      · exact hn.2.2 o ho
      · rw [List.mem_singleton.mp ho]; exact hp
  · unfold stepP
    rw [h.rest, List.map_append, List.sum_append]
    have := sum_split (fun l => (lits l).any fun o => isIn (.tuple [o, p]) cs) wid fd
    have s := h.sum
    have f := flat_wid (nearD cs p fd)
    have e : wid (.tuple (DL.srt ((nearD cs p fd).flatMap lits ++ [p]))) = ((nearD cs p fd).flatMap lits).length + 1 := by
      show (DL.srt _).length = _
      rw [srt_len, List.length_append]
      rfl
    simp only [List.map_cons, List.map_nil, List.sum_cons, List.sum_nil, e, f]
    unfold nearD
    omega
theorem Pcs.nil : Pcs m 0 [] := ⟨fun _ h => (nomatch h), rfl⟩
theorem Pcs.sorted {k : Nat} (h : Pcs m k fd) : Pcs m k (srt fd) := by
  refine ⟨fun l hl => h.tp l (srt_mem.mp hl), ?_⟩
  rw [← h.sum]
  exact ((srt_perm fd).map _).sum_nat
theorem Pcs.fn {k : Nat} (h : Pcs m k fd) (hk : k ≤ 8) (hm : m < 1000) : fnB [8, 8] (.list fd) = true := by
  rw [fn_list]
  refine ⟨Nat.le_trans h.len hk, fun l hl => ?_⟩
  have h1 := h.one hl
  obtain ⟨x, rfl, _, hx⟩ := h.tp l hl
  rw [fn_tuple]
  exact ⟨Nat.le_trans h1 hk, fun o ho => isPs_fn (hx o ho) hm⟩
theorem pieces_pcs (hp : ∀ q ∈ ps, isPs m q) : Pcs m ps.length (ps.foldl (stepP cs) []) := by
  have main : ∀ (qs fd : List D) (k : Nat), (∀ q ∈ qs, isPs m q) → Pcs m k fd → Pcs m (k + qs.length) (qs.foldl (stepP cs) fd) := by
    intro qs
    induction qs with
    | nil => intro fd k _ h; exact h
    | cons q qs ih =>
      intro fd k hq h
      have := ih (stepP cs fd q) (k + 1) (fun z hz => hq z (List.mem_cons_of_mem _ hz)) (h.step (hq q (List.mem_cons_self ..)))
      rw [List.length_cons, show k + (qs.length + 1) = k + 1 + qs.length by omega]
      exact this
  have := main ps [] 0 hp Pcs.nil
  rwa [Nat.zero_add] at this
end
/-! ## partings -/
def tupI (r : List Int) : D := .tuple (r.map .int)
def partP (m : Nat) : List (List Int) := ((List.range (m - 1)).foldl (fun f i => f.flatMap fun r => [r, r ++ [((i + 1 : Nat) : Int)]]) [[0]]).filter fun r => decide (r.length < m)
def partL (m : Nat) : List (List Int) := ((List.range (m - 1)).foldl (fun f i => f ++ f.map fun r => r ++ [((i + 1 : Nat) : Int)]) [[0]]).filter fun r => decide (r.length < m)
theorem part_perm : ∀ m : Nat, m < 9 → (partP m).Perm (partL m) := by decide +kernel
/-- what is asked of a parting -/
def okPart (m : Nat) (r : List Int) : Bool := decide (r.head? = some 0) && decide (r.length < m) && (r.all fun i => decide (0 ≤ i) && decide (i < m)) && decide (r.Pairwise (· < ·))
theorem part_ok : ∀ m : Nat, m < 9 → (partP m).all (okPart m) = true := by decide +kernel
theorem part_len : ∀ m : Nat, m < 9 → (partP m).length ≤ 127 := by decide +kernel
end DL

namespace DL
open PySem (PyData Addr Str)
/-! ## the pieces of the inner persons are the lots of a bar -/
theorem sm_subl {f : D → Int} : ∀ {xs ys : List D}, xs.Sublist ys → (∀ y ∈ ys, 0 ≤ f y) → sm f xs ≤ sm f ys := by
  intro xs ys h
  induction h with
  | slnil => intro _; omega
  | cons a _ ih =>
    intro hn
    have := ih fun y hy => hn y (List.mem_cons_of_mem _ hy)
    have := hn a (List.mem_cons_self ..)
    rw [sm_cons]
    omega
  | cons_cons a _ ih =>
    intro hn
    have := ih fun y hy => hn y (List.mem_cons_of_mem _ hy)
    rw [sm_cons, sm_cons]
    omega
theorem perm_of_mem : ∀ {xs ys : List D}, xs.Pairwise (· ≠ ·) → ys.Pairwise (· ≠ ·) → (∀ x, x ∈ xs ↔ x ∈ ys) → xs.Perm ys
  | [], ys, _, _, h => by
    cases ys with
    | nil => exact List.Perm.refl _
    | cons y ys => exact absurd ((h y).mpr (List.mem_cons_self ..)) (by simp)
  | x :: xs, ys, hx, hy, h => by
    obtain ⟨s, t, rfl⟩ := List.append_of_mem ((h x).mp (List.mem_cons_self ..))
    have hx1 := List.pairwise_cons.mp hx
    have hy1 := (List.pairwise_middle (fun {a b} (q : a ≠ b) => q.symm)).mp hy
    rw [List.pairwise_cons] at hy1
    have := perm_of_mem (xs := xs) (ys := s ++ t) hx1.2 hy1.2 fun z => by
      constructor
      · intro hz
        have : z ∈ s ++ x :: t := (h z).mp (List.mem_cons_of_mem _ hz)
        rw [List.mem_append, List.mem_cons] at this
        rw [List.mem_append]
        rcases this with a | rfl | a
        · exact .inl a
        · exact absurd rfl (hx1.1 z hz)
        · exact .inr a
      · intro hz
        have : z ∈ x :: xs := (h z).mpr (by rw [List.mem_append, List.mem_cons]; exact (List.mem_append.mp hz).elim .inl fun a => .inr (.inr a))
        rcases List.mem_cons.mp this with rfl | a
        · exact absurd rfl (hy1.1 z hz)
        · exact a
    exact (List.Perm.cons x this).trans List.perm_middle.symm
section
variable {m : Nat} {S T fr LT fd pre ps : List D} {p : D}
theorem mem_ct {xs : List D} (hp : isPs m p) (hx : ∀ x ∈ xs, isPs m x) : p ∈ xs ↔ 1 ≤ ct p xs := by rw [← ct_pos hp hx, isIn_ps hp hx]
theorem Lots.nd (h : Lots m fr S T LT) : LT.Pairwise (· ≠ ·) := by
  rw [List.pairwise_iff_forall_sublist]
  rintro a b hs rfl
  obtain ⟨xs, rfl, e, _, hh⟩ := h.lt a (hs.subset (List.mem_cons_self ..))
  cases xs with
  | nil => exact e rfl
  | cons p xs =>
    have hp := (hh p (List.mem_cons_self ..)).1
    have h1 := sm_subl (f := fun l => ct p (itm l)) hs fun _ _ => ct_nonneg
    have h2 := h.one p hp
    have h3 := (b2_pos (inn S T p)).2
    have h4 : 1 ≤ ct p (itm (.tuple (p :: xs))) := (mem_ct hp fun x hx => (hh x hx).1).mp (List.mem_cons_self ..)
    rw [sm_cons, sm_cons, sm_nil] at h1
    omega
theorem Lots.has (h : Lots m fr S T LT) (hp : isPs m p) (hi : inn S T p = true) : ∃ l ∈ LT, p ∈ itm l := by
  have h1 := h.one p hp
  rw [hi, b2_true] at h1
  refine Classical.byContradiction fun hn => ?_
  have : sm (fun l => ct p (itm l)) LT ≤ sm (fun _ => 0) LT := sm_le fun l hl => by
    have := (not_congr (mem_ct hp (h.ps hl))).mp fun z => hn ⟨l, hl, z⟩
    omega
  rw [sm_zero] at this
  omega
theorem Lots.mem1 (h : Lots m fr S T LT) (hp : isPs m p) {k l : D} (hk : k ∈ LT) (hl : l ∈ LT) (pk : p ∈ itm k) (pl : p ∈ itm l) : k = l :=
  h.only hp hk hl ((isIn_ps hp (h.ps hk)).mpr pk) ((isIn_ps hp (h.ps hl)).mpr pl)
/-- what holds of the pieces while persons are taken up one by one -/
structure PInv (m : Nat) (fr S T pre fd : List D) : Prop where
  pp : ∀ p ∈ pre, isPs m p ∧ inn S T p = true
  pc : Pcs m pre.length fd
  tp : ∀ l ∈ fd, ∃ ys, l = .tuple (srt ys) ∧ ys ≠ [] ∧ ∀ p ∈ ys, p ∈ pre
  oc : ∀ p, isPs m p → sm (fun l => ct p (lits l)) fd = ct p pre
  cl : ∀ e ∈ fr, fst' e ∈ pre → snd' e ∈ pre → ∃ l ∈ fd, fst' e ∈ lits l ∧ snd' e ∈ lits l
  rf : ∀ l ∈ fd, ∃ k ∈ lotsD m fr S T, ∀ p ∈ lits l, p ∈ itm k
theorem PInv.mem (h : PInv m fr S T pre fd) {l : D} (hl : l ∈ fd) : ∀ p ∈ lits l, p ∈ pre := fun p hp => by
  obtain ⟨ys, rfl, _, hy⟩ := h.tp l hl
  exact hy p (srt_mem.mp hp)
theorem PInv.has (h : PInv m fr S T pre fd) (hp : p ∈ pre) : ∃ l ∈ fd, p ∈ lits l := by
  have hps := (h.pp p hp).1
  have h1 := h.oc p hps
  have h2 := (mem_ct hps fun x hx => (h.pp x hx).1).mp hp
  refine Classical.byContradiction fun hn => ?_
  have : sm (fun l => ct p (lits l)) fd ≤ sm (fun _ => 0) fd := sm_le fun l hl => by
    have := (not_congr (mem_ct hps fun x hx => (h.pp x (h.mem hl x hx)).1)).mp fun z => hn ⟨l, hl, z⟩
    omega
  rw [sm_zero] at this
  omega
theorem pr_form {e : D} (h : isPr (m : Int) e = true) : e = .tuple [fst' e, snd' e] ∧ toI (fst' e) < toI (snd' e) := by
  obtain ⟨i, j, rfl, h1, h2⟩ := pr_of h
  exact ⟨rfl, by show (i : Int) < j; omega⟩
theorem PInv.step (hf : ∀ d ∈ fr, isPr (m : Int) d = true) (h : PInv m fr S T pre fd) (hp : isPs m p) (hi : inn S T p = true) (hlt : ∀ q ∈ pre, toI q < toI p) : PInv m fr S T (pre ++ [p]) (stepP fr fd p) := by
  have L := lots_ok (S := S) (T := T) hf
  have hn := h.pc.near (cs := fr) (p := p)
  have nearm : ∀ {z : D}, z ∈ (nearD fr p fd).flatMap lits → z ∈ pre := fun {z} hz => by
    obtain ⟨l, hl, hz⟩ := List.mem_flatMap.mp hz
    exact h.mem (List.mem_filter.mp hl).1 z hz
  have edge : ∀ {o : D}, isPs m o → isIn (.tuple [o, p]) fr = true → .tuple [o, p] ∈ fr := fun {o} ho z => by
    obtain ⟨x, hx, e⟩ := List.any_eq_true.mp z
    obtain ⟨i, j, rfl, h1, h2⟩ := pr_of (hf x hx)
    obtain ⟨a, ha, rfl⟩ := ho
    obtain ⟨b, hb, rfl⟩ := hp
    rw [eqv_pair, Bool.and_eq_true, decide_eq_true_eq, decide_eq_true_eq] at e
    rw [← e.1, ← e.2]
    exact hx
  refine ⟨fun q hq => ?_, ?_, fun l hl => ?_, fun q hq => ?_, fun e he h1 h2 => ?_, fun l hl => ?_⟩
  · rcases List.mem_append.mp hq with hq | hq
    · exact h.pp q hq
    · rw [List.mem_singleton.mp hq]; exact ⟨hp, hi⟩
  · rw [List.length_append, List.length_singleton]
    exact h.pc.step hp
  · rcases List.mem_append.mp hl with hl | hl
    · obtain ⟨ys, e, h1, h2⟩ := h.tp l (List.mem_filter.mp hl).1
      exact ⟨ys, e, h1, fun q hq => List.mem_append_left _ (h2 q hq)⟩
    · refine ⟨_, List.mem_singleton.mp hl, by simp, fun q hq => ?_⟩
      rcases List.mem_append.mp hq with hq | hq
      · exact List.mem_append_left _ (nearm hq)
      · exact List.mem_append_right _ hq
  · unfold stepP
    rw [h.pc.rest, sm_append, sm_cons, sm_nil, ct_append, ← h.oc q hq]
    have e1 : ct q (lits (.tuple (srt ((nearD fr p fd).flatMap lits ++ [p])))) = ct q ((nearD fr p fd).flatMap lits) + ct q [p] := by
      show ct q (srt _) = _
      rw [ct_perm (srt_perm _), ct_append]
    have e2 : ct q ((nearD fr p fd).flatMap lits) = sm (fun l => ct q (lits l)) (nearD fr p fd) := ct_flat _
    have e3 := sm_split (f := fun l => ct q (lits l)) (fun l => (lits l).any fun o => isIn (.tuple [o, p]) fr) fd
    rw [e1, e2]
    unfold nearD
    omega
  · obtain ⟨ee, elt⟩ := pr_form (hf e he)
    have inj : ∀ {z : D}, z ∈ (nearD fr p fd).flatMap lits ∨ z = p → z ∈ lits (.tuple (srt ((nearD fr p fd).flatMap lits ++ [p]))) := fun {z} hz => by
      show z ∈ srt _
      rw [srt_mem, List.mem_append, List.mem_singleton]
      exact hz
    have jm : (PyData.tuple (srt ((nearD fr p fd).flatMap lits ++ [p]))) ∈ stepP fr fd p := List.mem_append_right _ (List.mem_singleton.mpr rfl)
    rcases List.mem_append.mp h2 with h2 | h2
    · rcases List.mem_append.mp h1 with h1 | h1
      · obtain ⟨l, hl, a, b⟩ := h.cl e he h1 h2
        cases hq : (lits l).any fun o => isIn (.tuple [o, p]) fr with
        | true =>
          have hl2 : l ∈ nearD fr p fd := List.mem_filter.mpr ⟨hl, hq⟩
          exact ⟨_, jm, inj (.inl (List.mem_flatMap.mpr ⟨l, hl2, a⟩)), inj (.inl (List.mem_flatMap.mpr ⟨l, hl2, b⟩))⟩
        | false =>
          refine ⟨l, List.mem_append_left _ ?_, a, b⟩
          rw [h.pc.rest]
          exact List.mem_filter.mpr ⟨hl, by rw [hq]; rfl⟩
      · have := hlt _ h2
        rw [List.mem_singleton.mp h1] at elt
        omega
    · have h2 := List.mem_singleton.mp h2
      rcases List.mem_append.mp h1 with h1 | h1
      · obtain ⟨l, hl, a⟩ := h.has h1
        have hl2 : l ∈ nearD fr p fd := by
          refine List.mem_filter.mpr ⟨hl, List.any_eq_true.mpr ⟨fst' e, a, ?_⟩⟩
          rw [← h2, ← ee]
          refine List.any_eq_true.mpr ⟨e, he, ?_⟩
          obtain ⟨i, j, rfl, _⟩ := pr_of (hf e he)
          rw [eqv_pair]
          simp
        exact ⟨_, jm, inj (.inl (List.mem_flatMap.mpr ⟨l, hl2, a⟩)), inj (.inr h2)⟩
      · rw [List.mem_singleton.mp h1, h2] at elt
        omega
  · rcases List.mem_append.mp hl with hl | hl
    · exact h.rf l (List.mem_filter.mp hl).1
    · obtain ⟨k, hk, pk⟩ := L.has hp hi
      refine ⟨k, hk, fun z hz => ?_⟩
      rw [List.mem_singleton.mp hl] at hz
      have hz : z ∈ srt ((nearD fr p fd).flatMap lits ++ [p]) := hz
      rw [srt_mem, List.mem_append, List.mem_singleton] at hz
      rcases hz with hz | rfl
      · obtain ⟨l2, hl2, hz⟩ := List.mem_flatMap.mp hz
        obtain ⟨hl3, hq⟩ := List.mem_filter.mp hl2
        obtain ⟨o, ho, hq⟩ := List.any_eq_true.mp hq
        obtain ⟨hop, hoi⟩ := h.pp o (h.mem hl3 o ho)
        obtain ⟨k2, hk2, r2⟩ := h.rf l2 hl3
        obtain ⟨k3, hk3, a, b⟩ := L.cl _ (edge hop hq) hoi hi
        have a := (isIn_ps hop (L.ps hk3)).mp a
        have b := (isIn_ps hp (L.ps hk3)).mp b
        have q1 : k2 = k3 := L.mem1 hop hk2 hk3 (r2 o ho) a
        have q2 : k3 = k := L.mem1 hp hk3 hk b pk
        rw [← q2, ← q1]
        exact r2 z hz
      · exact pk
theorem PInv.all (hf : ∀ d ∈ fr, isPr (m : Int) d = true) : ∀ {ps pre fd : List D}, PInv m fr S T pre fd → (∀ p ∈ ps, isPs m p ∧ inn S T p = true) → (pre ++ ps).Pairwise (fun a b => toI a < toI b) → PInv m fr S T (pre ++ ps) (ps.foldl (stepP fr) fd)
  | [], pre, fd, h, _, _ => by rw [List.append_nil]; exact h
  | p :: ps, pre, fd, h, hp, hw => by
    have e : pre ++ p :: ps = (pre ++ [p]) ++ ps := by simp
    rw [e] at hw ⊢
    rw [List.foldl_cons]
    obtain ⟨a, b⟩ := hp p (List.mem_cons_self ..)
    exact PInv.all hf (h.step hf a b fun q hq => (List.pairwise_append.mp (List.pairwise_append.mp hw).1).2.2 q hq p (List.mem_singleton.mpr rfl)) (fun q hq => hp q (List.mem_cons_of_mem _ hq)) hw
theorem rng_lt2 (m : Nat) : (rng 0 m).Pairwise (fun a b => toI a < toI b) := by
  unfold rng
  rw [List.pairwise_map]
  exact (List.pairwise_lt_range).imp fun {a b} h => by simp [toI]; omega
def inD (m : Nat) (S T : List D) : List D := (rng 0 m).filter (inn S T)
theorem pieces_inv (hf : ∀ d ∈ fr, isPr (m : Int) d = true) : PInv m fr S T (inD m S T) ((inD m S T).foldl (stepP fr) []) := by
  have h0 : PInv m fr S T [] [] := ⟨fun _ h => (nomatch h), Pcs.nil, fun _ h => (nomatch h), fun _ _ => rfl, fun _ _ h => (nomatch h), fun _ h => (nomatch h)⟩
  exact h0.all hf (fun p hp => by
    obtain ⟨a, b⟩ := List.mem_filter.mp hp
    exact ⟨rng_isPs a, b⟩) ((rng_lt2 m).sublist List.filter_sublist)
theorem ct_inD (hp : isPs m p) : ct p (inD m S T) = b2 (inn S T p) := by
  have h1 : ∀ x ∈ inD m S T, isPs m x := fun x hx => rng_isPs (List.mem_filter.mp hx).1
  have h2 : ct p (inD m S T) ≤ 1 := by
    have a : ct p (inD m S T) ≤ ct p (rng 0 m) := sm_subl List.filter_sublist fun _ _ => (b2_pos _).1
    have b : ct p (rng 0 m) = 1 := by
      have := sm_at (w := fun _ => 1) hp
      unfold ct
      rw [← this]
      refine sm_congr fun x _ => ?_
      rw [Int.mul_one]
      congr 1
      rw [Bool.eq_iff_iff, decide_eq_true_eq, decide_eq_true_eq]
      exact eq_comm
    omega
  rw [ct_b2 hp h1 h2]
  congr 1
  rw [Bool.eq_iff_iff, isIn_ps hp h1]
  constructor
  · exact fun h => (List.mem_filter.mp h).2
  · intro h
    obtain ⟨k, hk, rfl⟩ := hp
    refine List.mem_filter.mpr ⟨List.mem_map.mpr ⟨k, by simpa using hk, by simp⟩, h⟩
theorem pieces_lots (hf : ∀ d ∈ fr, isPr (m : Int) d = true) : Lots m fr S T ((inD m S T).foldl (stepP fr) []) := by
  have h := pieces_inv (S := S) (T := T) hf
  have li : ∀ l ∈ (inD m S T).foldl (stepP fr) [], lits l = itm l := fun l hl => by obtain ⟨ys, rfl, _⟩ := h.tp l hl; rfl
  have lm : (inD m S T).length ≤ m := by
    have := List.length_filter_le (inn S T) (rng 0 m)
    simpa [inD, rng] using this
  refine ⟨fun l hl => ?_, fun p hp => ?_, fun e he h1 h2 => ?_⟩
  · have hw := h.pc.one hl
    obtain ⟨ys, rfl, e, hy⟩ := h.tp l hl
    have hw : (srt ys).length ≤ _ := hw
    refine ⟨srt ys, rfl, srt_isEmpty e, by omega, fun p hp => ?_⟩
    obtain ⟨a, b⟩ := h.pp p (hy p (srt_mem.mp hp))
    unfold inn at b
    rw [Bool.and_eq_true, Bool.not_eq_true', Bool.not_eq_true'] at b
    exact ⟨a, b.1, b.2⟩
  · rw [← ct_inD hp, ← h.oc p hp]
    exact sm_congr fun l hl => by rw [li l hl]
  · obtain ⟨pa, pb⟩ := pr_ps (hf e he)
    have ma : ∀ {q : D}, isPs m q → inn S T q = true → q ∈ inD m S T := fun {q} hq hi => by
      obtain ⟨k, hk, rfl⟩ := hq
      exact List.mem_filter.mpr ⟨List.mem_map.mpr ⟨k, by simpa using hk, by simp⟩, hi⟩
    obtain ⟨l, hl, a, b⟩ := h.cl e he (ma pa h1) (ma pb h2)
    have lp : ∀ x ∈ itm l, isPs m x := fun x hx => (h.pp x (h.mem hl x (by rw [li l hl]; exact hx))).1
    exact ⟨l, hl, (isIn_ps pa lp).mpr (by rw [← li l hl]; exact a), (isIn_ps pb lp).mpr (by rw [← li l hl]; exact b)⟩
theorem lots_pieces (hf : ∀ d ∈ fr, isPr (m : Int) d = true) : ∀ k ∈ lotsD m fr S T, ∃ l ∈ (inD m S T).foldl (stepP fr) [], ∀ p ∈ itm k, p ∈ itm l := by
  have h := pieces_inv (S := S) (T := T) hf
  have L := pieces_lots (S := S) (T := T) hf
  obtain ⟨PS, hPS⟩ : ∃ PS, PS = (inD m S T).foldl (stepP fr) [] := ⟨_, rfl⟩
  rw [← hPS] at h L ⊢
  have lm : (inD m S T).length ≤ m := by
    have := List.length_filter_le (inn S T) (rng 0 m)
    simpa [inD, rng] using this
  have eqs : ∀ l ∈ PS, lits l = itm l := fun l hl => by obtain ⟨ys, rfl, _⟩ := h.tp l hl; rfl
  have g : Lumps m S T (PS.map fun l => .list (itm l)) := by
    refine ⟨fun l hl => ?_, ?_⟩
    · obtain ⟨k, hk, rfl⟩ := List.mem_map.mp hl
      obtain ⟨xs, rfl, e, _, hh⟩ := L.lt k hk
      exact ⟨xs, rfl, e, hh⟩
    · have := h.pc.sum
      rw [List.map_map]
      have e : (PS.map ((fun l => (lits l).length) ∘ fun l => PyData.list (itm l))) = PS.map wid := List.map_congr_left fun l hl => by
        show (itm l).length = (lits l).length
        rw [eqs l hl]
      rw [e]
      omega
  have oc : ∀ p, isPs m p → occ p (PS.map fun l => .list (itm l)) = b2 (inn S T p) := fun p hp => by
    unfold occ
    rw [sm_map, ← L.one p hp]
    rfl
  have o1 : ∀ p, isPs m p → occ p (PS.map fun l => .list (itm l)) ≤ 1 := fun p hp => by rw [oc p hp]; exact (b2_pos _).2
  have key : Ref (lumpsD m fr S T) (PS.map fun l => .list (itm l)) := by
    have e : lumpsD m fr S T = (innerD fr S T).foldl stepL (lump0 m S T) := rfl
    rw [e]
    refine Ref.fold g Lumps.zero (fun d hd => ?_) fun l hl => ?_
    · obtain ⟨a, b, c⟩ := inner_of hd
      obtain ⟨p, q⟩ := pr_ps (hf d a)
      obtain ⟨l, hl, x, y⟩ := L.cl d a b c
      exact ⟨p, q, o1 _ p, o1 _ q, .list (itm l), List.mem_map.mpr ⟨l, hl, rfl⟩, x, y⟩
    · obtain ⟨p, hp, rfl⟩ := List.mem_map.mp hl
      obtain ⟨h1, h2⟩ := List.mem_filter.mp hp
      have hps := rng_isPs h1
      obtain ⟨k, hk, hh⟩ := ex_of g hps (by rw [oc p hps]; unfold inn; rw [h2]; rfl)
      refine ⟨k, hk, fun q hq => ?_⟩
      obtain rfl := List.mem_singleton.mp hq
      exact hh
  intro k hk
  obtain ⟨x, hx, rfl⟩ := List.mem_map.mp hk
  obtain ⟨y, hy, hh⟩ := key x hx
  obtain ⟨l, hl, rfl⟩ := List.mem_map.mp hy
  refine ⟨l, hl, fun p hp => ?_⟩
  have hp : p ∈ lits x := srt_mem.mp hp
  have hps : isPs m p := Lumps.all.ps hx p hp
  exact (isIn_ps hps (L.ps hl)).mp (hh p hp)
theorem lot_eq {fr' : List D} {A B : List D} (LA : Lots m fr S T A) (LB : Lots m fr' S T B) (sa : ∀ l ∈ A, srt (itm l) = itm l) (sb : ∀ l ∈ B, srt (itm l) = itm l)
    (ab : ∀ l ∈ A, ∃ k ∈ B, ∀ p ∈ itm l, p ∈ itm k) (ba : ∀ k ∈ B, ∃ l ∈ A, ∀ p ∈ itm k, p ∈ itm l) : ∀ l ∈ A, l ∈ B := by
  intro l hl
  obtain ⟨k, hk, lk⟩ := ab l hl
  obtain ⟨l2, hl2, kl⟩ := ba k hk
  have e : l = l2 := by
    obtain ⟨xs, rfl, e, _, hh⟩ := LA.lt l hl
    cases xs with
    | nil => exact absurd rfl e
    | cons p xs =>
      have hp := (hh p (List.mem_cons_self ..)).1
      exact LA.mem1 hp hl hl2 (List.mem_cons_self ..) (kl p (lk p (List.mem_cons_self ..)))
  subst e
  have nd : ∀ {fr LT l}, Lots m fr S T LT → l ∈ LT → (itm l).Pairwise (· ≠ ·) := fun {fr LT l} L hl => by
    rw [List.pairwise_iff_forall_sublist]
    rintro a b hs rfl
    have hp := L.ps hl a (hs.subset (List.mem_cons_self ..))
    have h1 : ct a [a, a] ≤ ct a (itm l) := sm_subl hs fun _ _ => (b2_pos _).1
    have h2 := L.in1 hl hp
    have h3 := (b2_pos (isIn a (itm l))).2
    have h4 : ct a [a, a] = 2 := by unfold ct; rw [sm_cons, sm_cons, sm_nil]; simp [b2]
    omega
  have pm : (itm l).Perm (itm k) := perm_of_mem (nd LA hl) (nd LB hk) fun p => ⟨lk p, kl p⟩
  have : itm l = itm k := by rw [← sa l hl, ← sb k hk]; exact srt_ps_eq pm (LA.ps hl)
  obtain ⟨xs, rfl, _⟩ := LA.lt l hl
  obtain ⟨ys, rfl, _⟩ := LB.lt k hk
  have this : xs = ys := this
  rw [this]
  exact hk
theorem pieces_perm (hf : ∀ d ∈ fr, isPr (m : Int) d = true) : (piecesD fr (inD m S T)).Perm (lotsD m fr S T) := by
  refine (srt_perm _).trans ?_
  have h := pieces_inv (S := S) (T := T) hf
  have LA := pieces_lots (S := S) (T := T) hf
  have LB := lots_ok (S := S) (T := T) hf
  have li : ∀ l ∈ (inD m S T).foldl (stepP fr) [], lits l = itm l := fun l hl => by obtain ⟨ys, rfl, _⟩ := h.tp l hl; rfl
  have sa : ∀ l ∈ (inD m S T).foldl (stepP fr) [], srt (itm l) = itm l := fun l hl => by
    have hh := LA.ps hl
    obtain ⟨ys, rfl, _, hy⟩ := h.tp l hl
    exact srt_ps_eq (srt_perm ys) hh
  have sb : ∀ l ∈ lotsD m fr S T, srt (itm l) = itm l := fun l hl => by
    have hh := LB.ps hl
    obtain ⟨x, hx, rfl⟩ := List.mem_map.mp hl
    exact srt_ps_eq (srt_perm _) hh
  have ab : ∀ l ∈ (inD m S T).foldl (stepP fr) [], ∃ k ∈ lotsD m fr S T, ∀ p ∈ itm l, p ∈ itm k := fun l hl => by
    obtain ⟨k, hk, hh⟩ := h.rf l hl
    exact ⟨k, hk, by rw [← li l hl]; exact hh⟩
  have ba := lots_pieces (S := S) (T := T) hf
  exact perm_of_mem LA.nd LB.nd fun l => ⟨lot_eq LA LB sa sb ab ba l, lot_eq LB LA sb sa ba ab l⟩
end
end DL

namespace DL
open PySem (PyData Addr Str)
theorem canSort_pairs {xs : List D} {m : Int} (h : ∀ x ∈ xs, isPr m x = true) : canSort xs = true := by
  have h1 : alikes xs = true := by
    unfold alikes
    rw [List.all_eq_true]
    intro a ha
    rw [List.all_eq_true]
    intro b hb
    obtain ⟨i, j, rfl, _⟩ := isPr_iff.mp (h a ha)
    obtain ⟨k, l, rfl, _⟩ := isPr_iff.mp (h b hb)
    rfl
  have h2 : xs.all isT1 = true := List.all_eq_true.mpr fun x hx => by obtain ⟨i, j, rfl, _⟩ := isPr_iff.mp (h x hx); rfl
  have h3 : (xs.all fun d => decide (d.depth ≤ 60)) = true := List.all_eq_true.mpr fun x hx => by
    obtain ⟨i, j, rfl, _⟩ := isPr_iff.mp (h x hx)
    rw [decide_eq_true_eq]
    simp [PyData.depth, PyData.depthAll]
  unfold canSort
  rw [h1, h2, h3]
  simp
theorem vSorted_k {xs : List D} (h : canSort xs = true) (hz : xs.length ≤ 1000000) : vSorted (.list xs) = .ok (.own (srt xs)) := by
  show (if canSort xs = true then small xs.length (M.ok (Wv.own (srt xs))) else M.bad) = _
  rw [if_pos h]
  exact small_of hz
theorem vTuple_k {xs : List D} : vTuple (.list xs) = .ok (.dat (.tuple xs)) := rfl
/-- the items of a tuple or of a list -/
theorem star_of {u : D} {xs : List D} {fs : En → M (List Wv)} {ρ : En} (h : u = .tuple xs ∨ u = .list xs) : starW fs ρ u = starL fs ρ xs := by
  rcases h with rfl | rfl <;> rfl
theorem eqv_pr {m m' : Int} {a b : D} (ha : isPr m a = true) (hb : isPr m' b = true) : PyData.eqv a b = true ↔ a = b := by
  obtain ⟨i, j, rfl, _⟩ := isPr_iff.mp ha
  obtain ⟨k, l, rfl, _⟩ := isPr_iff.mp hb
  rw [eqv_pair]
  simp
end DL
namespace Lw
open PySem (PyData Addr Str)
open DL
theorem r_law_all_pairs : ∀ m : Nat, m < 9 → g__law_all_pairs [.dat (.int (m : Int))] = .ok (.own (pairsOf m))
  | 0, _ => by kernel_rfl
  | 1, _ => by kernel_rfl
  | 2, _ => by kernel_rfl
  | 3, _ => by kernel_rfl
  | 4, _ => by kernel_rfl
  | 5, _ => by kernel_rfl
  | 6, _ => by kernel_rfl
  | 7, _ => by kernel_rfl
  | 8, _ => by kernel_rfl
  | n + 9, h => absurd h (by omega)
section
variable {ns as bs cs S T : List D} {d : D} {m : Nat}
theorem r_put_in {u w : D} {xs ys : List D} {m : Int} (hu : u = .tuple xs ∨ u = .list xs) (hw : w = .tuple ys ∨ w = .list ys) (hx : ∀ x ∈ xs, isPr m x = true) (hy : ∀ y ∈ ys, isPr m y = true) (lx : xs.length ≤ 1000) (ly : ys.length ≤ 1000) :
    g_put_in [.dat u, .dat w] = .ok (.dat (.tuple (srt (xs ++ ys)))) := by
  have hc := canSort_pairs (xs := xs ++ ys) (m := m) fun x h => (List.mem_append.mp h).elim (hx x) (hy x)
  simp_arith only [g_put_in, b_put_in, star_of hu, star_of hw, datas_app, datas_map, List.append_nil, small_of, M.bind_assoc']
  simp_arith only [vSorted_k hc (show (xs ++ ys).length ≤ 1000000 by rw [List.length_append]; omega), vTuple_k]
theorem r_need_party (h : Pty ns as bs) : g_need_party [.dat (P3 ns as bs)] = .ok (.dat .none) := by
  simp_arith! [g_need_party, b_need_party, r_is_party _ (sz_fn 3 h.fn (by decide)), h.isP]
theorem vIx_tat {p : D} (h : isPs ns.length p) : vIx (.tuple ns) p = .ok (.dat (atN ns p)) := by
  obtain ⟨k, hk, rfl⟩ := h
  refine vIx_tuple ?_
  unfold L2.atI
  rw [ixN_nat hk]
  simp [atN, toI, List.getElem?_eq_getElem hk]
theorem r_law_count {p : D} (hp : isNI p = true) (hc : ∀ x ∈ cs, isPr (m : Int) x = true) (cl : cs.length ≤ 100) : g__law_count [.dat (.list cs), .dat p] = .ok (.dat (.int (degD cs p : Nat))) := by
  simp_arith! [g__law_count, b__law_count, M.bind_assoc']
  rw [lcK_fil (fun d => isIn p (itm d))]
  case hz => omega
  case h =>
    intro d hd
    obtain ⟨i, j, rfl, _⟩ := isPr_iff.mp (hc d hd)
    refine ⟨_, rfl, ?_, rfl⟩
    simp_arith! [wipeE, vIn_tuple (a := p) (xs := [.int i, .int j]) (shaped_ni hp) rfl, itm]
  simp_arith! [DL.okb]
  rfl
theorem num_set {k : Nat} (h : ∀ p, isPs ns.length p → atN ns p = .none ∨ atN ns p = .int (degD cs p : Nat)) : ∀ p, isPs (ns.set k .none).length p → atN (ns.set k .none) p = .none ∨ atN (ns.set k .none) p = .int (degD cs p : Nat) := by
  rintro p ⟨i, hi, rfl⟩
  rw [List.length_set] at hi
  unfold atN
  simp only [toI, Int.toNat_natCast]
  by_cases e : k = i
  · subst e
    rw [List.getElem?_set_self hi]
    exact .inl rfl
  · rw [List.getElem?_set_ne e]
    have := h (.int (i : Int)) ⟨i, hi, rfl⟩
    unfold atN at this
    simpa only [toI, Int.toNat_natCast] using this
end
end Lw

namespace DL
open PySem (PyData Addr Str)
theorem vIn_twoL {i j : Int} {m : Int} {cs : List D} (hc : ∀ x ∈ cs, isPr m x = true) : vIn (.tuple [.int i, .int j]) (.list cs) = .ok (isIn (.tuple [.int i, .int j]) cs) := vIn_list rfl (canLay_pairs (List.all_eq_true.mpr hc))
theorem vEq_bools {a b : Bool} : vEq (.bool a) (.bool b) = .ok (a == b) := by cases a <;> cases b <;> rfl
/-- the pair goes from the one side to the other -/
def crsD (xs : List D) (d : D) : Bool := !(isIn (fst' d) xs == isIn (snd' d) xs)
def mtsD (xs : List D) (d : D) : Bool := isIn (fst' d) xs || isIn (snd' d) xs
def acrL (fr S T l : List D) : List D := ((fr.filter fun d => !mtsD S d).filter (crsD l)).filter (mtsD T)
theorem acr_btw {m : Nat} {fr S T l : List D} (hb : Bar m S T) (dj : ∀ p, isPs m p → (isIn p S && isIn p T) = false) (hl : ∀ p ∈ l, isPs m p ∧ isIn p S = false ∧ isIn p T = false) (hf : ∀ d ∈ fr, isPr (m : Int) d = true) : acrL fr S T l = fr.filter (btwD l T) := by
  unfold acrL
  rw [List.filter_filter, List.filter_filter]
  refine List.filter_congr fun e he => ?_
  obtain ⟨pa, pb⟩ := pr_ps (hf e he)
  have h1 := dj _ pa
  have h2 := dj _ pb
  have lp : ∀ x ∈ l, isPs m x := fun x hx => (hl x hx).1
  have h3 : isIn (fst' e) l = true → isIn (fst' e) S = false ∧ isIn (fst' e) T = false := fun z => (hl _ ((isIn_ps pa lp).mp z)).2
  have h4 : isIn (snd' e) l = true → isIn (snd' e) S = false ∧ isIn (snd' e) T = false := fun z => (hl _ ((isIn_ps pb lp).mp z)).2
  unfold mtsD crsD btwD
  generalize isIn (fst' e) l = a at *
  generalize isIn (snd' e) l = b at *
  generalize isIn (fst' e) S = c at *
  generalize isIn (snd' e) S = d at *
  generalize isIn (fst' e) T = f at *
  generalize isIn (snd' e) T = g at *
  revert h1 h2 h3 h4
  cases a <;> cases b <;> cases c <;> cases d <;> cases f <;> cases g <;> decide
theorem b2_mod {x : Int} : b2 (decide (x % 2 = 1)) = x % 2 := by
  by_cases h : x % 2 = 1
  · rw [decide_eq_true h, h]; rfl
  · rw [decide_eq_false h]
    show (0 : Int) = _
    omega
end DL
namespace Lw
open PySem (PyData Addr Str)
open DL
/-- a cell that freezing leaves as it is -/
def Nf (o : Option Wv) : Prop := ∀ r : En, frz1 0 (o :: r) = o :: r
theorem Nf.none : Nf none := fun _ => rfl
theorem Nf.dat {d : D} : Nf (some (.dat d)) := fun _ => rfl
section
variable {ns as bs cs fd S T fr nd : List D} {m : Nat} {d p : D}
theorem nearL_pr (hm : m < 1000) (hc : ∀ x ∈ cs, isPr (m : Int) x = true) {k : Nat} (h : Pcs m k fd) (hk : k < 100) (hp : isPs m p) {o0 o4 o5 o6 : Option Wv} :
    lcK [6] (bN 6) (tst (bin2 opNe (lc [7] (sSeq (rdv 6)) (bN 7) (tst (bin2 opIn (tup (acons (rdv 7) (acons (rdv 3) anil))) (rdv 1))) (rdv 7)) (lst anil))) (rdv 6)
      [o0, some (.dat (.list cs)), some (.dat (.list fd)), some (.dat p), o4, o5, o6, none] fd = .ok (.own (nearD cs p fd)) := by
  rw [lcK_fil (fun l => (lits l).any fun o => isIn (.tuple [o, p]) cs)]
  case hz => have := h.len; omega
  case h =>
    intro l hl
    obtain ⟨xs, rfl, _, hx⟩ := h.tp l hl
    have lx : xs.length ≤ k := h.one hl
    refine ⟨_, rfl, ?_, rfl⟩
    simp_arith! [wipeE, M.bind_assoc']
    rw [lcK_fil (fun o => isIn (.tuple [o, p]) cs)]
    case hz => omega
    case h =>
      intro o ho
      obtain ⟨i, _, rfl⟩ := hx o ho
      obtain ⟨j, _, rfl⟩ := hp
      refine ⟨_, rfl, ?_, rfl⟩
      simp_arith only [wipeE, vIn_twoL hc, small_of, M.bind_assoc']
    have sh : PySem.SeqAt.shaped (.list (xs.filter fun o => isIn (.tuple [o, p]) cs)) = true := shaped_nis fun o ho => isPs_ni (hx o (List.mem_filter.mp ho).1)
    simp_arith only [small_of, vEq_nil sh]
    congr 1
    show (!(xs.filter fun o => isIn (.tuple [o, p]) cs).isEmpty) = xs.any fun o => isIn (.tuple [o, p]) cs
    cases h0 : xs.any fun o => isIn (.tuple [o, p]) cs with
    | false =>
      rw [List.filter_eq_nil_iff.mpr fun o ho => by rw [List.any_eq_false] at h0; exact h0 o ho]
      rfl
    | true =>
      obtain ⟨o, ho, e⟩ := List.any_eq_true.mp h0
      cases hf : xs.filter fun o => isIn (.tuple [o, p]) cs with
      | nil => exact absurd e (List.filter_eq_nil_iff.mp hf o ho)
      | cons _ _ => rfl
  rfl
theorem r_law_pieces {ps : List D} (hm : m < 9) (hps : ∀ p ∈ ps, isPs m p) (hl : ps.length ≤ m) (hc : ∀ x ∈ cs, isPr (m : Int) x = true) : g__law_pieces [.dat (.list ps), .dat (.list cs)] = .ok (.own (piecesD cs ps)) := by
  simp_arith! [g__law_pieces, b__law_pieces, M.bind_assoc']
  refine loopL (fun ds fd ρ => ∃ o3 o4 o5 o6 k, ρ = [some (.dat (.list ps)), some (.dat (.list cs)), some (.own fd), o3, o4, o5, o6, none] ∧ Nf o6 ∧ Pcs m k fd ∧ k + ds.length = ps.length ∧ ∀ d ∈ ds, isPs m d) (stepP cs) [] ⟨_, _, _, _, 0, rfl, Nf.none, Pcs.nil, by omega, hps⟩ (fun p ds fd ρ hI => ?_) fun ρ' hI => ?_
  · obtain ⟨o3, o4, o5, o6, k, rfl, n6, hP, hk, hd⟩ := hI
    rw [List.length_cons] at hk
    have hp := hd p (List.mem_cons_self ..)
    have n6 : ∀ r : En, frz1 0 (o6 :: r) = o6 :: r := n6
    have hn := hP.near (cs := cs) (p := p)
    have nl1 := noLs_tp hn.1
    have nl2 := noLs_is hn.2.2
    have nlp : noLs [p] = true := noLs_is (m := m) fun x hx => by rw [List.mem_singleton.mp hx]; exact hp
    have lf := hP.len
    refine ⟨_, rfl, ?_⟩
    simp_arith! [n6, M.bind_assoc']
    rw [nearL_pr (by omega) hc hP (by omega) hp]
    simp_arith only [n6, nl1, nlp, small_of, M.bind_assoc']
    obtain ⟨ρ', ⟨o6, pre, rfl, n6, e1, e2⟩, hl⟩ := loop_left (b := bN 6) (g := ext [6] 5 (call (f1 vList) (acons (rdv 6) anil))) (fun ds acc ρ => ∃ o6 pre, ρ = [some (.dat (.list ps)), some (.dat (.list cs)), some (.own fd), some (.dat p), some (.dat (.list (nearD cs p fd))), some (.own acc), o6, none] ∧ Nf o6 ∧ nearD cs p fd = pre ++ ds ∧ acc = p :: pre.flatMap lits) (fun acc l => acc ++ lits l) (fun l ds2 acc ρ hI => by
      obtain ⟨o6, pre, rfl, n6, e1, e2⟩ := hI
      obtain ⟨xs, rfl, _, hx⟩ := hn.1 l (by rw [e1]; simp)
      have nx := noLs_is hx
      have n6 : ∀ r : En, frz1 0 (o6 :: r) = o6 :: r := n6
      have l1 : acc.length + xs.length ≤ k + 1 := by
        have := hn.2.1
        rw [e1, List.flatMap_append, List.length_append, List.flatMap_cons, List.length_append] at this
        have e3 : (lits (.tuple xs)).length = xs.length := rfl
        rw [e2, List.length_cons]
        omega
      refine ⟨_, rfl, ?_⟩
      simp_arith only [n6, nx, small_of, M.bind_assoc']
      exact ⟨_, rfl, _, pre ++ [.tuple xs], rfl, Nf.dat, by rw [e1]; simp, by rw [e2]; simp [lits]⟩) (nearD cs p fd) [p] _ ⟨o6, [], rfl, n6, rfl, rfl⟩
    rw [hl, M.ok_bind]
    have n6 : ∀ r : En, frz1 0 (o6 :: r) = o6 :: r := n6
    rw [List.append_nil] at e1
    rw [← e1] at e2
    rw [e2]
    simp_arith! [n6, M.bind_assoc']
    rw [lcK_fil (fun l => !isIn l (nearD cs p fd))]
    case hz => omega
    case h =>
      intro l hl
      refine ⟨_, rfl, ?_, rfl⟩
      simp_arith! [wipeE, vIn_TP (hP.tp l hl) hn.1]
    have nl3 : noLs (fd.filter fun l => !isIn l (nearD cs p fd)) = true := noLs_tp fun l hl => hP.tp l (List.mem_filter.mp hl).1
    have lf2 := List.length_filter_le (fun l => !isIn l (nearD cs p fd)) fd
    have mp : ∀ o ∈ p :: (nearD cs p fd).flatMap lits, isPs m o := fun o ho => (List.mem_cons.mp ho).elim (fun ho => by rw [ho]; exact hp) (hn.2.2 o)
    have se : srt (p :: (nearD cs p fd).flatMap lits) = srt ((nearD cs p fd).flatMap lits ++ [p]) := srt_ps_eq (List.perm_append_comm (l₁ := [p])) mp
    have vS := vSorted_k (canSort_is mp) (by rw [List.length_cons]; omega)
    have nl4 : noLs (srt ((nearD cs p fd).flatMap lits ++ [p])) = true := noLs_is (m := m) fun o ho => by rw [← se] at ho; exact mp o (srt_mem.mp ho)
    rw [se] at vS
    have nl5 : noLs ((fd.filter fun l => !isIn l (nearD cs p fd)) ++ [.tuple (srt ((nearD cs p fd).flatMap lits ++ [p]))]) = true := noLs_tp (hP.step (cs := cs) hp).tp
    simp_arith only [nl3, vS, vTuple_k, nl4, nl5, small_of, M.bind_assoc']
    exact ⟨_, rfl, _, _, _, _, k + 1, rfl, n6, hP.step hp, by omega, fun d hd' => hd d (List.mem_cons_of_mem _ hd')⟩
  · obtain ⟨o3, o4, o5, o6, k, rfl, n6, hP, hk, hd⟩ := hI
    have lf := hP.len
    rw [List.length_nil] at hk
    simp_arith! [vSorted_k (canSort_tp hP.tp) (by omega), M.bind_assoc']
    rfl
theorem r_law_free (h : Pty ns as bs) : g__law_free [.dat (P3 ns as bs)] = .ok (.own (freeD ns.length as bs)) := by
  have hl := pairsOf_len _ h.l9
  simp_arith! [g__law_free, b__law_free, ix0, r_law_all_pairs _ h.l9]
  rw [lcK_fil (fun d => !isIn d as && !isIn d bs)]
  case hz => omega
  case h =>
    intro d hd
    have hd := pairsOf_pr hd
    refine ⟨_, rfl, tand_ok ?_ fun _ => ?_, rfl⟩
    · simp_arith! [wipeE, ix1, vIn_tuple (shaped_pair hd) (canLay_pairs (List.all_eq_true.mpr h.pa))]
    · simp_arith! [wipeE, ix2, vIn_tuple (shaped_pair hd) (canLay_pairs (List.all_eq_true.mpr h.pb))]
  simp_arith! [DL.okb]
  rfl
theorem r_crosses {xs : List D} (hd : isPr (m : Int) d = true) (h : ∀ x ∈ xs, isPs m x) : g_crosses [.dat d, .dat (.tuple xs)] = .ok (.dat (.bool (crsD xs d))) := by
  obtain ⟨i, j, rfl, _⟩ := pr_of hd
  have hx : ∀ x ∈ xs, isNI x = true := fun x hx => isPs_ni (h x hx)
  simp_arith! [g_crosses, b_crosses, ix0, ix1, vIn_ni (p := .int (i : Int)) rfl hx, vIn_ni (p := .int (j : Int)) rfl hx, vEq_bools, M.bind_assoc']
  rfl
theorem r_law_crosses {xs : List D} (hd : isPr (m : Int) d = true) (h : ∀ x ∈ xs, isPs m x) : g__law_crosses [.dat d, .dat (.tuple xs)] = .ok (.dat (.bool (crsD xs d))) := by
  obtain ⟨i, j, rfl, _⟩ := pr_of hd
  have hx : ∀ x ∈ xs, isNI x = true := fun x hx => isPs_ni (h x hx)
  simp_arith! [g__law_crosses, b__law_crosses, ix0, ix1, vIn_ni (p := .int (i : Int)) rfl hx, vIn_ni (p := .int (j : Int)) rfl hx, vEq_bools, M.bind_assoc']
  rfl
theorem r_law_meets {xs : List D} (hd : isPr (m : Int) d = true) (h : ∀ x ∈ xs, isPs m x) : g__law_meets [.dat d, .dat (.tuple xs)] = .ok (.dat (.bool (mtsD xs d))) := by
  obtain ⟨i, j, rfl, _⟩ := pr_of hd
  have hx : ∀ x ∈ xs, isNI x = true := fun x hx => isPs_ni (h x hx)
  have e1 := vIn_ni (p := .int (i : Int)) rfl hx
  have e2 := vIn_ni (p := .int (j : Int)) rfl hx
  simp_arith! [g__law_meets, b__law_meets, ix0, ix1, e1, e2, M.bind_assoc']
  unfold mtsD
  simp only [fst', snd']
  cases isIn (.int (i : Int)) xs <;> simp_arith! [ix0, ix1, e2, Bool.true_or, Bool.false_or]
theorem r_law_countT {p : D} (hp : isNI p = true) (hc : ∀ x ∈ cs, isPr (m : Int) x = true) (cl : cs.length ≤ 100) : g__law_count [.dat (.tuple cs), .dat p] = .ok (.dat (.int (degD cs p : Nat))) := by
  simp_arith! [g__law_count, b__law_count, M.bind_assoc']
  rw [lcK_fil (fun d => isIn p (itm d))]
  case hz => omega
  case h =>
    intro d hd
    obtain ⟨i, j, rfl, _⟩ := isPr_iff.mp (hc d hd)
    refine ⟨_, rfl, ?_, rfl⟩
    simp_arith! [wipeE, vIn_tuple (a := p) (xs := [.int i, .int j]) (shaped_ni hp) rfl, itm]
  simp_arith! [DL.okb]
  rfl
end
end Lw

namespace Lw
open PySem (PyData Addr Str)
open DL
section
variable {ns as bs cs fd S T fr nd : List D} {m : Nat} {d p : D}
theorem out_eq : ((fr.filter fun d => !mtsD S d).filter fun d => isIn p (itm d)).length = outD fr S p := by
  unfold outD
  rw [List.filter_filter]
  congr 2
  funext d
  unfold mtsD
  cases isIn p (itm d) <;> cases isIn (fst' d) S <;> cases isIn (snd' d) S <;> rfl
theorem r_law_slack (h : Pty ns as bs) (hb : Bar ns.length S T) (dj : ∀ p, isPs ns.length p → (isIn p S && isIn p T) = false) : g__law_slack [.dat (P3 ns as bs), .dat (.tuple [.tuple S, .tuple T])] = .ok (.dat (.int (slackD ns.length (lacksD ns as) (freeD ns.length as bs) S T))) := by
  have l9 := h.l9
  have la := h.la
  have hn := lacksD_len (ns := ns) (as := as)
  have hd : ∀ x ∈ lacksD ns as, isNI x = true := fun x hx => lacksD_ni hx
  have fl := freeD_len (as := as) (bs := bs) l9
  have fno : noLs (freeD ns.length as bs) = true := noLs_pairs fun x hx => freeD_pr hx
  have lno := noLs_ni hd
  have e0 := r_law_free h
  simp only [P3] at e0
  simp_arith only [g__law_slack, b__law_slack, e0, ix0, fno, small_of, M.bind_assoc']
  refine loopApp (fun _ => true) (fun d => lack as (fst' d) (snd' d)) (fun acc ρ => ∃ o5 o6, ρ = [some (.dat (P3 ns as bs)), some (.dat (.tuple [.tuple S, .tuple T])), some (.own (freeD ns.length as bs)), some (.dat (.int 0)), some (.own acc), o5, o6, none, none, none, none, none, none, none, none]) ⟨_, _, rfl⟩ (by rw [enumD_len]; omega) (fun acc ρ hacc hJ d hd => ?_) (fun ρ' hJ => ?_)
  · obtain ⟨o5, o6, rfl⟩ := hJ
    obtain ⟨j, x, rfl, _, _, hx⟩ := enumD_mem2 hd
    have hx := h.nm x hx
    have ec := r_law_countT (p := .int (j : Int)) rfl h.pa (by omega)
    refine ⟨_, rfl, ?_⟩
    cases x <;> first | (cases hx; done) | skip
    · simp_arith only [pairD, isNon_none, small_of]
      exact ⟨_, rfl, _, _, rfl⟩
    · simp_arith only [pairD, isNon_int, ix1, ec, small_of, M.bind_assoc']
      exact ⟨_, rfl, _, _, rfl⟩
  obtain ⟨o5, o6, rfl⟩ := hJ
  rw [List.filter_eq_self.mpr fun _ _ => rfl]
  rw [show (enumD 0 ns).map (fun d => lack as (fst' d) (snd' d)) = lacksD ns as from rfl]
  simp_arith! [ix0, M.bind_assoc']
  have hf : ∀ d ∈ freeD ns.length as bs, isPr (ns.length : Int) d = true := fun d hd => freeD_pr hd
  generalize freeD ns.length as bs = fr at *
  generalize lacksD ns as = nd at *
  have at_ : ∀ p, isPs ns.length p → vIx (.list nd) p = .ok (.dat (atN nd p)) ∧ isNI (atN nd p) = true := fun p hp => ⟨vIx_at (by rw [hn]; exact hp), hd _ (atN_mem (by rw [hn]; exact hp))⟩
  refine loopF (fun (f : Int) ρ => ∃ o7 o8, Nf o7 ∧ Nf o8 ∧ ρ = [some (.dat (P3 ns as bs)), some (.dat (.tuple [.tuple S, .tuple T])), some (.own fr), some (.dat (.int f)), some (.own nd), o5, o6, o7, o8, none, none, none, none, none, none]) (fun f p => f + needAt nd fr p) 0 ⟨_, _, Nf.none, Nf.none, rfl⟩ (fun f ρ hI p hp => ?_) (fun ρ' hI => ?_)
  · obtain ⟨o7, o8, n7, n8, rfl⟩ := hI
    have n7 : ∀ r : En, frz1 0 (o7 :: r) = o7 :: r := n7
    have n8 : ∀ r : En, frz1 0 (o8 :: r) = o8 :: r := n8
    obtain ⟨a1, a2⟩ := at_ p (hb.ps p hp)
    have hpn := hb.qs p hp
    have ec := r_law_count (cs := fr) hpn hf (by omega)
    refine ⟨_, rfl, ?_⟩
    unfold needAt
    generalize atN nd p = n at a1 a2 ⊢
    cases n <;> first | (cases a2; done) | skip
    · simp_arith! [n7, n8, a1, isNon_none, ec, M.bind_assoc']
      exact ⟨_, rfl, _, _, Nf.dat, Nf.dat, rfl⟩
    · simp_arith! [n7, n8, a1, isNon_int, M.bind_assoc']
      exact ⟨_, rfl, _, _, Nf.dat, Nf.dat, rfl⟩
  obtain ⟨o7, o8, n7, n8, rfl⟩ := hI
  have n7r : ∀ r : En, frz1 0 (o7 :: r) = o7 :: r := n7
  have n8r : ∀ r : En, frz1 0 (o8 :: r) = o8 :: r := n8
  rw [show S.foldl (fun f p => f + needAt nd fr p) 0 = slack1 nd fr S from rfl]
  simp_arith! [n7r, n8r, ix0, ix1, M.bind_assoc']
  rw [lcK_fil (fun d => !mtsD S d)]
  case hz => omega
  case h => exact fun d hd => ⟨_, rfl, tnot_ok (by simp_arith! [wipeE, ix0, r_law_meets (hf d hd) hb.ps]), rfl⟩
  have lp : ∀ x ∈ fr.filter (fun d => !mtsD S d), isPr (ns.length : Int) x = true := fun x hx => hf x (List.mem_filter.mp hx).1
  have nl := noLs_pairs lp
  have ll : (fr.filter fun d => !mtsD S d).length ≤ 28 := Nat.le_trans (List.length_filter_le ..) fl
  obtain ⟨left, hleft⟩ : ∃ left, left = fr.filter fun d => !mtsD S d := ⟨_, rfl⟩
  rw [← hleft] at lp nl ll ⊢
  simp_arith! [nl, n7r, n8r, ix1, M.bind_assoc']
  refine loopF (fun (f : Int) ρ => ∃ o7 o8, Nf o7 ∧ Nf o8 ∧ ρ = [some (.dat (P3 ns as bs)), some (.dat (.tuple [.tuple S, .tuple T])), some (.own fr), some (.dat (.int f)), some (.own nd), o5, o6, o7, o8, some (.own left), none, none, none, none, none]) (fun f p => f + (outD fr S p : Nat) - needOr nd p) (slack1 nd fr S) ⟨_, _, n7, n8, rfl⟩ (fun f ρ hI p hp => ?_) (fun ρ' hI => ?_)
  · obtain ⟨o7, o8, n7, n8, rfl⟩ := hI
    have n7 : ∀ r : En, frz1 0 (o7 :: r) = o7 :: r := n7
    have n8 : ∀ r : En, frz1 0 (o8 :: r) = o8 :: r := n8
    obtain ⟨a1, a2⟩ := at_ p (hb.pt p hp)
    have hpn := hb.qt p hp
    have ec := r_law_count (cs := left) hpn lp (by omega)
    have eo : degD left p = outD fr S p := by rw [hleft]; exact out_eq
    rw [eo] at ec
    refine ⟨_, rfl, ?_⟩
    unfold needOr
    generalize atN nd p = n at a1 a2 ⊢
    cases n <;> first | (cases a2; done) | skip
    · simp_arith! [n7, n8, a1, isNon_none, ec, M.bind_assoc']
      exact ⟨_, rfl, _, _, Nf.dat, Nf.dat, rfl⟩
    · simp_arith! [n7, n8, a1, isNon_int, ec, M.bind_assoc']
      exact ⟨_, rfl, _, _, Nf.dat, Nf.dat, rfl⟩
  obtain ⟨o7, o8, n7, n8, rfl⟩ := hI
  have n7r : ∀ r : En, frz1 0 (o7 :: r) = o7 :: r := n7
  have n8r : ∀ r : En, frz1 0 (o8 :: r) = o8 :: r := n8
  rw [show T.foldl (fun f p => f + (outD fr S p : Nat) - needOr nd p) (slack1 nd fr S) = slack2 nd fr S T from rfl]
  have rg : rngI (nd.length : Int) = .ok (rng 0 ns.length) := by rw [hn]; exact rng_m (by omega)
  simp_arith! [n7r, n8r, rg, M.bind_assoc']
  have sta : ∀ x ∈ S ++ T, isNI x = true := fun x hx => (List.mem_append.mp hx).elim (hb.qs x) (hb.qt x)
  have lst := hb.ls
  have ltt := hb.lt
  rw [lcK_fil (inn S T)]
  case hz => rw [rng_len]; omega
  case h =>
    intro p hp
    have hp := isPs_ni (rng_ps hp)
    refine ⟨_, rfl, ?_, rfl⟩
    have ea : isIn p (S ++ T) = (isIn p S || isIn p T) := by unfold isIn; rw [List.any_append]
    simp_arith only [wipeE, ix0, ix1, vIn_ni hp sta, ea, inn, Bool.not_or, small_of]
  rw [show (rng 0 ns.length).filter (inn S T) = inD ns.length S T from rfl]
  have ip : ∀ p ∈ inD ns.length S T, isPs ns.length p := fun p hp => rng_isPs (List.mem_filter.mp hp).1
  have il : (inD ns.length S T).length ≤ ns.length := by
    have := List.length_filter_le (inn S T) (rng 0 ns.length)
    rw [rng_len] at this
    exact this
  have nli := noLs_is ip
  have pc := (pieces_pcs (cs := fr) ip).sorted
  have pp := pieces_perm (S := S) (T := T) hf
  have ep := r_law_pieces l9 ip il hf
  simp_arith! [nli, n7r, n8r, ep, M.bind_assoc']
  refine loopF (fun (f : Int) ρ => ∃ o7 o12 o13 o14, Nf o7 ∧ ρ = [some (.dat (P3 ns as bs)), some (.dat (.tuple [.tuple S, .tuple T])), some (.dat (.list fr)), some (.dat (.int f)), some (.own nd), o5, o6, o7, o8, some (.own left), none, some (.dat (.list (inD ns.length S T))), o12, o13, o14]) (fun f l => f - b2 (oddL nd fr T l)) (slack2 nd fr S T) ⟨_, _, _, _, n7, rfl⟩ (fun f ρ hI l hl => ?_) (fun ρ' hI => ?_)
  · obtain ⟨o7, o12, o13, o14, n7', rfl⟩ := hI
    have n7 : ∀ r : En, frz1 0 (o7 :: r) = o7 :: r := n7'
    obtain ⟨xs, rfl, _, lx, hx⟩ := lotsD_lt (pp.subset hl)
    have hxp : ∀ x ∈ xs, isPs ns.length x := fun x z => (hx x z).1
    refine ⟨_, rfl, ?_⟩
    simp_arith! [n7, M.bind_assoc']
    rw [lcK_mp (atN nd)]
    case hz => omega
    case h =>
      intro p hp
      obtain ⟨a1, a2⟩ := at_ p (hxp p hp)
      refine ⟨_, rfl, rfl, .dat (atN nd p), ?_, rfl⟩
      simp_arith! [wipeE, a1]
    have rn := row_ni hn hd hxp
    have noR := noLs_ni rn
    simp_arith! [noR, n7, M.bind_assoc']
    rw [lcK_fil (crsD xs)]
    case hz => omega
    case h => exact fun d hd => ⟨_, rfl, by simp_arith! [wipeE, r_law_crosses (lp d hd) hxp], rfl⟩
    have lp2 : ∀ x ∈ left.filter (crsD xs), isPr (ns.length : Int) x = true := fun x hx => lp x (List.mem_filter.mp hx).1
    have ll2 : (left.filter (crsD xs)).length ≤ 28 := Nat.le_trans (List.length_filter_le ..) ll
    have no2 := noLs_pairs lp2
    simp_arith! [no2, M.bind_assoc']
    rw [lcK_fil (mtsD T)]
    case hz => omega
    case h => exact fun d hd => ⟨_, rfl, by simp_arith! [wipeE, ix1, r_law_meets (lp2 d hd) hb.pt], rfl⟩
    have no3 : noLs ((left.filter (crsD xs)).filter (mtsD T)) = true := noLs_pairs fun x hx => lp2 x (List.mem_filter.mp hx).1
    have ea : ((left.filter (crsD xs)).filter (mtsD T)) = fr.filter (btwD xs T) := by
      rw [hleft]
      exact acr_btw hb dj hx hf
    rw [ea] at no3 ⊢
    have vn : vIn .none (.list (xs.map (atN nd))) = .ok (isIn .none (xs.map (atN nd))) := vIn_nil rfl rn
    have md := opMod_e (i := ((xs.map (atN nd)).map toI).sum + ((fr.filter (btwD xs T)).length : Nat)) (j := 2) (by decide)
    have ho : oddL nd fr T (.tuple xs) = (!isIn .none (xs.map (atN nd)) && decide ((((xs.map (atN nd)).map toI).sum + ((fr.filter (btwD xs T)).length : Nat)) % 2 = 1)) := rfl
    rw [ho]
    cases hnone : isIn .none (xs.map (atN nd)) with
    | true =>
      rw [hnone] at vn
      simp_arith! [no3, vn, b2_false, Int.sub_zero, M.bind_assoc']
      exact ⟨_, rfl, _, _, _, _, n7', rfl⟩
    | false =>
      rw [hnone] at vn
      simp_arith! [no3, vn, vSum_ni rn hnone, md, b2_mod, M.bind_assoc']
      exact ⟨_, rfl, _, _, _, _, n7', rfl⟩
  obtain ⟨o7, o12, o13, o14, n7, rfl⟩ := hI
  simp_arith! [n7r, n8r, M.bind_assoc']
  have e1 : ∀ (l : List D) (z : Int), l.foldl (fun f l => f - b2 (oddL nd fr T l)) z = z - sm (fun l => b2 (oddL nd fr T l)) l := by
    intro l
    induction l with
    | nil => intro z; rw [sm_nil]; simp
    | cons x l ih => intro z; rw [List.foldl_cons, ih, sm_cons]; omega
  have e2 : (piecesD fr (inD ns.length S T)).foldl (fun f l => f - b2 (oddL nd fr T l)) (slack2 nd fr S T) = slackD ns.length nd fr S T := by
    rw [e1, sm_perm pp, ← len_sm]
    unfold slackD oddD
    rw [srt_len]
  rw [e2]
end
end Lw

namespace DL
open PySem (PyData Addr Str)
open PySem PyProof.Rows
/-! ## what a repr tells of tuples of small numbers -/
abbrev tx (d : D) : List Nat := (PyData.shown d).cps.toList
theorem cps_app (a b : Str) : (a ++ b).cps.toList = a.cps.toList ++ b.cps.toList := by
  show (a.cps ++ b.cps).toList = _
  rw [Array.toList_append]
def jn : List D → List Nat
  | [] => []
  | [x] => tx x
  | x :: y :: r => tx x ++ 44 :: 32 :: jn (y :: r)
theorem join_tx : ∀ xs : List D, (Str.join ", " (PyData.shownAll xs)).cps.toList = jn xs
  | [] => rfl
  | [x] => rfl
  | x :: y :: r => by
    have ih := join_tx (y :: r)
    unfold PyData.shownAll at ih
    show (PyData.shown x ++ ", " ++ Str.join ", " (PyData.shown y :: PyData.shownAll r)).cps.toList = _
    rw [cps_app, cps_app, ih]
    show tx x ++ [44, 32] ++ jn (y :: r) = tx x ++ 44 :: 32 :: jn (y :: r)
    simp
theorem shownAll_length' : ∀ xs : List D, (PyData.shownAll xs).length = xs.length
  | [] => rfl
  | x :: xs => by unfold PyData.shownAll; rw [List.length_cons, shownAll_length' xs]; rfl
/-- what is behind the first sign of a tuple -/
def bd : List D → List Nat
  | [] => [41]
  | [x] => tx x ++ [44, 41]
  | x :: y :: r => jn (x :: y :: r) ++ [41]
theorem tx_tuple (xs : List D) : tx (.tuple xs) = 40 :: bd xs := by
  have e : PyData.shown (.tuple xs) = ("(" : Str) ++ Str.join ", " (PyData.shownAll xs) ++ (if (PyData.shownAll xs).length == 1 then ",)" else ")" : String) := by simp [PyData.shown, tupleText]
  show (PyData.shown (.tuple xs)).cps.toList = _
  rw [e, cps_app, cps_app, join_tx, shownAll_length']
  cases xs with
  | nil => rfl
  | cons x xs => cases xs with
    | nil => rfl
    | cons y r =>
      have : ((x :: y :: r).length == 1) = false := by simp
      rw [this]
      rfl
theorem tx_int (i : Int) : tx (.int i) = (toString i : String).toList.map Char.toNat := by
  show (PyData.shown (.int i)).cps.toList = _
  rw [PyData.shown_int, signs_ofString]
theorem tx_int_sign {i : Int} {c : Nat} (h : c ∈ tx (.int i)) : c = 45 ∨ (48 ≤ c ∧ c ≤ 57) := by
  refine Classical.byContradiction fun hn => ?_
  exact shown_int_free' (k := c) (by omega) i h
theorem tx_small : ∀ i : Nat, i < 10 → tx (.int (i : Int)) = [48 + i] := by decide +kernel
theorem tx_int_one {i : Int} {c : Nat} (h : tx (.int i) = [48 + c]) (hc : c < 10) : i = (c : Int) := by
  cases i with
  | ofNat k =>
    by_cases hk : k < 10
    · rw [show Int.ofNat k = (k : Int) from rfl, tx_small k hk] at h
      simp only [List.cons.injEq, and_true] at h
      show (k : Int) = c
      omega
    · exfalso
      rw [tx_int] at h
      have h2 := congrArg List.length h
      rw [List.length_map] at h2
      have e : (toString (Int.ofNat k) : String).toList = Nat.toDigits 10 k := by
        show (Nat.repr k).toList = _
        rw [Nat.toList_repr]
      rw [e, Nat.toDigits_of_base_le (by decide) (by omega), List.length_append] at h2
      have := toDigits_len_ge 10 (k / 10)
      simp only [List.length_cons, List.length_nil] at h2
      omega
  | negSucc k =>
    exfalso
    rw [tx_int] at h
    have e : (toString (Int.negSucc k) : String).toList = '-' :: (Nat.repr (k + 1)).toList := by
      show ("-" ++ Nat.repr (k + 1)).toList = _
      rw [String.toList_append]
      rfl
    rw [e, List.map_cons] at h
    simp only [List.cons.injEq] at h
    have := h.1
    have : (45 : Nat) = 48 + c := this
    omega
theorem reprText_first (x : Str) : ∃ t, (reprText x).cps.toList = reprQuote x :: t := by
  unfold reprText
  have : ∀ (f : Nat → List Nat) (l : List Nat) (acc : Array Nat), ∃ t, (l.foldl (fun out c => out ++ (f c).toArray) acc).toList = acc.toList ++ t := by
    intro f l
    induction l with
    | nil => intro acc; exact ⟨[], by simp⟩
    | cons c l ih =>
      intro acc
      obtain ⟨t, ht⟩ := ih (acc ++ (f c).toArray)
      exact ⟨f c ++ t, by rw [List.foldl_cons, ht]; simp⟩
  obtain ⟨t, ht⟩ := this _ x.cps.toList #[reprQuote x]
  refine ⟨t ++ [reprQuote x], ?_⟩
  rw [← Array.foldl_toList]
  rw [Array.toList_push, ht]
  simp
/-- the first sign tells of what sort a datum is -/
def fc : D → Nat → Prop
  | .none, c => c = 78
  | .bool _, c => c = 84 ∨ c = 70
  | .int _, c => c = 45 ∨ (48 ≤ c ∧ c ≤ 57)
  | .str _, c => c = 34 ∨ c = 39
  | .list _, c => c = 91
  | .tuple _, c => c = 40
  | .dict _, c => c = 123
theorem tx_first (d : D) : ∃ c t, tx d = c :: t ∧ fc d c := by
  cases d with
  | none => exact ⟨78, [111, 110, 101], by decide +kernel, rfl⟩
  | bool b =>
    cases b
    · exact ⟨70, [97, 108, 115, 101], by decide +kernel, .inr rfl⟩
    · exact ⟨84, [114, 117, 101], by decide +kernel, .inl rfl⟩
  | int i =>
    cases h : tx (.int i) with
    | nil =>
      exfalso
      rw [tx_int] at h
      have h := List.map_eq_nil_iff.mp h
      cases i with
      | ofNat k =>
        have e : (toString (Int.ofNat k) : String).toList = Nat.toDigits 10 k := by
          show (Nat.repr k).toList = _
          rw [Nat.toList_repr]
        rw [e] at h
        have := toDigits_len_ge 10 k
        rw [h] at this
        simp at this
      | negSucc k =>
        have e : (toString (Int.negSucc k) : String).toList = '-' :: (Nat.repr (k + 1)).toList := by
          show ("-" ++ Nat.repr (k + 1)).toList = _
          rw [String.toList_append]
          rfl
        rw [e] at h
        cases h
    | cons c t => exact ⟨c, t, rfl, tx_int_sign (by rw [h]; exact List.mem_cons_self ..)⟩
  | str x =>
    obtain ⟨t, ht⟩ := reprText_first x
    have e : tx (.str x) = (reprText x).cps.toList := by show (PyData.shown (.str x)).cps.toList = _; simp only [PyData.shown]
    refine ⟨_, t, e.trans ht, ?_⟩
    show reprQuote x = 34 ∨ reprQuote x = 39
    unfold reprQuote
    split
    · exact .inl rfl
    · exact .inr rfl
  | list xs =>
    have e : tx (.list xs) = [91] ++ (Str.join ", " (PyData.shownAll xs)).cps.toList ++ [93] := by
      show (PyData.shown (.list xs)).cps.toList = _
      simp only [PyData.shown]
      rw [listText_eq_join, cps_app, cps_app]
      rfl
    exact ⟨91, _, by rw [e]; rfl, rfl⟩
  | tuple xs => exact ⟨40, bd xs, tx_tuple xs, rfl⟩
  | dict kvs =>
    have e : tx (.dict kvs) = [123] ++ (Str.join ", " (PyData.shownKv kvs)).cps.toList ++ [125] := by
      show (PyData.shown (.dict kvs)).cps.toList = _
      simp only [PyData.shown, dictText]
      rw [cps_app, cps_app]
      rfl
    exact ⟨123, _, by rw [e]; rfl, rfl⟩
/-- small numbers, and tuples of such, to any depth -/
def Sm : Nat → D → Prop
  | 0, d => ∃ i : Nat, i < 10 ∧ d = .int (i : Int)
  | n + 1, d => (∃ i : Nat, i < 10 ∧ d = .int (i : Int)) ∨ ∃ xs, d = .tuple xs ∧ ∀ x ∈ xs, Sm n x
def dl (r : List Nat) : Prop := r = [] ∨ ∃ t, r = 44 :: t ∨ r = 41 :: t
theorem sm_int {i : Nat} (hi : i < 10) {x : D} {ra rb : List Nat} (ha : dl ra) (hb : dl rb) (h : tx x ++ ra = tx (.int (i : Int)) ++ rb) : x = .int (i : Int) ∧ ra = rb := by
  rw [tx_small i hi] at h
  obtain ⟨c, t, e, f⟩ := tx_first x
  rw [e] at h
  simp only [List.cons_append, List.nil_append, List.cons.injEq] at h
  obtain ⟨h1, h2⟩ := h
  subst h1
  cases x with
  | int n =>
    cases t with
    | nil =>
      have := tx_int_one e hi
      exact ⟨by rw [this], by simpa using h2⟩
    | cons c2 t =>
      exfalso
      have hs := tx_int_sign (i := n) (c := c2) (by rw [e]; exact List.mem_cons_of_mem _ (List.mem_cons_self ..))
      rw [← h2] at hb
      rcases hb with hb | ⟨t2, hb | hb⟩
      · cases hb
      · simp only [List.cons_append, List.cons.injEq] at hb; omega
      · simp only [List.cons_append, List.cons.injEq] at hb; omega
  | none => exact absurd f (by unfold fc; omega)
  | bool b => exact absurd f (by unfold fc; omega)
  | str s => exact absurd f (by unfold fc; omega)
  | list xs => exact absurd f (by unfold fc; omega)
  | tuple xs => exact absurd f (by unfold fc; omega)
  | dict kvs => exact absurd f (by unfold fc; omega)
theorem sm_first {n : Nat} {d : D} (h : Sm n d) : ∃ c t, tx d = c :: t ∧ c ≠ 41 ∧ c ≠ 44 := by
  obtain ⟨c, t, e, f⟩ := tx_first d
  refine ⟨c, t, e, ?_⟩
  cases d <;> (unfold fc at f; omega)
theorem any_first (d : D) : ∃ c t, tx d = c :: t ∧ c ≠ 41 ∧ c ≠ 44 := by
  obtain ⟨c, t, e, f⟩ := tx_first d
  refine ⟨c, t, e, ?_⟩
  cases d <;> (unfold fc at f; omega)
theorem jn_eq {P : D → Prop} (hP : ∀ y, P y → ∀ x ra rb, dl ra → dl rb → tx x ++ ra = tx y ++ rb → x = y ∧ ra = rb) : ∀ {ys xs : List D} {ra rb : List Nat}, ys ≠ [] → xs ≠ [] → (∀ y ∈ ys, P y) → jn xs ++ 41 :: ra = jn ys ++ 41 :: rb → xs = ys ∧ ra = rb
  | [], _, _, _, h, _, _, _ => absurd rfl h
  | _, [], _, _, _, h, _, _ => absurd rfl h
  | [y], [x], ra, rb, _, _, hy, h => by
    have h : tx x ++ 41 :: ra = tx y ++ 41 :: rb := h
    obtain ⟨e1, e2⟩ := hP y (hy y (List.mem_cons_self ..)) x _ _ (.inr ⟨_, .inr rfl⟩) (.inr ⟨_, .inr rfl⟩) h
    simp only [List.cons.injEq, true_and] at e2
    exact ⟨by rw [e1], e2⟩
  | [y], x :: x2 :: xs, ra, rb, _, _, hy, h => by
    have h : (tx x ++ 44 :: 32 :: jn (x2 :: xs)) ++ 41 :: ra = tx y ++ 41 :: rb := h
    rw [List.append_assoc] at h
    obtain ⟨e1, e2⟩ := hP y (hy y (List.mem_cons_self ..)) x _ _ (.inr ⟨_, .inl rfl⟩) (.inr ⟨_, .inr rfl⟩) h
    simp at e2
  | y :: y2 :: ys, [x], ra, rb, _, _, hy, h => by
    have h : tx x ++ 41 :: ra = (tx y ++ 44 :: 32 :: jn (y2 :: ys)) ++ 41 :: rb := h
    rw [List.append_assoc] at h
    obtain ⟨e1, e2⟩ := hP y (hy y (List.mem_cons_self ..)) x _ _ (.inr ⟨_, .inr rfl⟩) (.inr ⟨_, .inl rfl⟩) h
    simp at e2
  | y :: y2 :: ys, x :: x2 :: xs, ra, rb, _, _, hy, h => by
    have h : (tx x ++ 44 :: 32 :: jn (x2 :: xs)) ++ 41 :: ra = (tx y ++ 44 :: 32 :: jn (y2 :: ys)) ++ 41 :: rb := h
    rw [List.append_assoc, List.append_assoc] at h
    obtain ⟨e1, e2⟩ := hP y (hy y (List.mem_cons_self ..)) x _ _ (.inr ⟨_, .inl rfl⟩) (.inr ⟨_, .inl rfl⟩) h
    have e2 : jn (x2 :: xs) ++ 41 :: ra = jn (y2 :: ys) ++ 41 :: rb := (List.cons.inj (List.cons.inj e2).2).2
    obtain ⟨e3, e4⟩ := jn_eq hP (ys := y2 :: ys) (xs := x2 :: xs) (by simp) (by simp) (fun z hz => hy z (List.mem_cons_of_mem _ hz)) e2
    exact ⟨by rw [e1, e3], e4⟩
theorem bd_eq {P : D → Prop} (hP : ∀ y, P y → ∀ x ra rb, dl ra → dl rb → tx x ++ ra = tx y ++ rb → x = y ∧ ra = rb) {ys xs : List D} {ra rb : List Nat} (hy : ∀ y ∈ ys, P y) (h : bd xs ++ ra = bd ys ++ rb) : xs = ys ∧ ra = rb := by
  match xs, ys, hy, h with
  | [], [], _, h =>
    have h : 41 :: ra = 41 :: rb := h
    simp only [List.cons.injEq, true_and] at h
    exact ⟨rfl, h⟩
  | [], [y], hy, h =>
    obtain ⟨c, t, e, h1, _⟩ := any_first y
    have h : 41 :: ra = tx y ++ [44, 41] ++ rb := h
    rw [e] at h
    simp only [List.cons_append, List.cons.injEq] at h
    exact absurd h.1.symm h1
  | [], y :: y2 :: ys, hy, h =>
    obtain ⟨c, t, e, h1, _⟩ := any_first y
    have h : 41 :: ra = (tx y ++ 44 :: 32 :: jn (y2 :: ys)) ++ [41] ++ rb := h
    rw [e] at h
    simp only [List.cons_append, List.cons.injEq] at h
    exact absurd h.1.symm h1
  | [x], [], hy, h =>
    obtain ⟨c, t, e, h1, _⟩ := any_first x
    have h : tx x ++ [44, 41] ++ ra = 41 :: rb := h
    rw [e] at h
    simp only [List.cons_append, List.cons.injEq] at h
    exact absurd h.1 h1
  | x :: x2 :: xs, [], hy, h =>
    obtain ⟨c, t, e, h1, _⟩ := any_first x
    have h : (tx x ++ 44 :: 32 :: jn (x2 :: xs)) ++ [41] ++ ra = 41 :: rb := h
    rw [e] at h
    simp only [List.cons_append, List.cons.injEq] at h
    exact absurd h.1 h1
  | [x], [y], hy, h =>
    have h : tx x ++ [44, 41] ++ ra = tx y ++ [44, 41] ++ rb := h
    rw [List.append_assoc, List.append_assoc] at h
    obtain ⟨e1, e2⟩ := hP y (hy y (List.mem_cons_self ..)) x _ _ (.inr ⟨_, .inl rfl⟩) (.inr ⟨_, .inl rfl⟩) h
    simp at e2
    exact ⟨by rw [e1], e2⟩
  | [x], y :: y2 :: ys, hy, h =>
    have h : tx x ++ [44, 41] ++ ra = (tx y ++ 44 :: 32 :: jn (y2 :: ys)) ++ [41] ++ rb := h
    rw [List.append_assoc, List.append_assoc, List.append_assoc] at h
    obtain ⟨e1, e2⟩ := hP y (hy y (List.mem_cons_self ..)) x _ _ (.inr ⟨_, .inl rfl⟩) (.inr ⟨_, .inl rfl⟩) h
    simp at e2
  | x :: x2 :: xs, [y], hy, h =>
    have h : (tx x ++ 44 :: 32 :: jn (x2 :: xs)) ++ [41] ++ ra = tx y ++ [44, 41] ++ rb := h
    rw [List.append_assoc, List.append_assoc, List.append_assoc] at h
    obtain ⟨e1, e2⟩ := hP y (hy y (List.mem_cons_self ..)) x _ _ (.inr ⟨_, .inl rfl⟩) (.inr ⟨_, .inl rfl⟩) h
    simp at e2
  | x :: x2 :: xs, y :: y2 :: ys, hy, h =>
    have h : jn (x :: x2 :: xs) ++ [41] ++ ra = jn (y :: y2 :: ys) ++ [41] ++ rb := h
    rw [List.append_assoc, List.append_assoc] at h
    exact jn_eq hP (by simp) (by simp) hy h
theorem sm_eq : ∀ {n : Nat} (y : D), Sm n y → ∀ x ra rb, dl ra → dl rb → tx x ++ ra = tx y ++ rb → x = y ∧ ra = rb
  | 0, y, ⟨i, hi, e⟩, x, ra, rb, ha, hb, h => by
    subst e
    exact sm_int hi ha hb h
  | n + 1, y, .inl ⟨i, hi, e⟩, x, ra, rb, ha, hb, h => by
    subst e
    exact sm_int hi ha hb h
  | n + 1, y, .inr ⟨ys, e, hy⟩, x, ra, rb, ha, hb, h => by
    subst e
    rw [tx_tuple] at h
    obtain ⟨c, t, e, f⟩ := tx_first x
    rw [e] at h
    simp only [List.cons_append, List.cons.injEq] at h
    obtain ⟨h1, h2⟩ := h
    subst h1
    cases x with
    | tuple xs =>
      rw [tx_tuple] at e
      simp only [List.cons.injEq, true_and] at e
      rw [← e] at h2
      obtain ⟨e1, e2⟩ := bd_eq (P := Sm n) (fun y hy x ra rb a b c => sm_eq y hy x ra rb a b c) hy h2
      exact ⟨by rw [e1], e2⟩
    | none => exact absurd f (by unfold fc; omega)
    | bool b => exact absurd f (by unfold fc; omega)
    | str s => exact absurd f (by unfold fc; omega)
    | list xs => exact absurd f (by unfold fc; omega)
    | int i => exact absurd f (by unfold fc; omega)
    | dict kvs => exact absurd f (by unfold fc; omega)
/-- a datum that is shown as a small one is that one -/
theorem shown_sm {n : Nat} {x y : D} (hy : Sm n y) (h : PyData.shown x = PyData.shown y) : x = y :=
  (sm_eq y hy x [] [] (.inl rfl) (.inl rfl) (by rw [List.append_nil, List.append_nil]; show (PyData.shown x).cps.toList = _; rw [h])).1
end DL

namespace DL
open PySem (PyData Addr Str)
/-! ## different pairs, sorted, are taken of the list of all pairs -/
theorem pr_mem {m : Nat} {x : D} (h : isPr (m : Int) x = true) : x ∈ pairsOf m := by
  obtain ⟨i, j, rfl, h1, h2⟩ := pr_of h
  unfold pairsOf
  refine List.mem_flatMap.mpr ⟨i, by rw [List.mem_range]; omega, List.mem_map.mpr ⟨j - (i + 1), by rw [List.mem_range]; omega, ?_⟩⟩
  rw [show i + 1 + (j - (i + 1)) = j by omega]
theorem srt_subl {m : Nat} {xs : List D} (hm : m < 9) (h : ∀ x ∈ xs, isPr (m : Int) x = true) (nd : xs.Pairwise (· ≠ ·)) : (srt xs).Sublist (pairsOf m) := by
  have hq : ∀ {x : D}, isPr (m : Int) x = true → (isIn x xs = true ↔ x ∈ xs) := fun hx => isIn_pairs hx h
  have e : srt xs = (pairsOf m).filter fun x => isIn x xs := by
    have h1 : (srt xs).Pairwise (fun a b => PySem.W.dataLe false id a b = true) := PySem.W.sort_pairwise (PySem.W.sortLe_total _ _ _) xs
    have le : ∀ {a b : D}, isPr (m : Int) a = true → isPr (m : Int) b = true → (PySem.W.dataLe false id a b = true ↔ (toI (fst' a) < toI (fst' b) ∨ (toI (fst' a) = toI (fst' b) ∧ toI (snd' a) ≤ toI (snd' b)))) := fun {a b} ha hb => by
      obtain ⟨i, j, rfl, _⟩ := isPr_iff.mp ha
      obtain ⟨k, l, rfl, _⟩ := isPr_iff.mp hb
      have e : PySem.W.dataLe false id (.tuple [.int i, .int j]) (.tuple [.int k, .int l]) = !PySem.W.dataLt (.tuple [.int k, .int l]) (.tuple [.int i, .int j]) := rfl
      rw [e, PySem.W.dataLt_ii, Bool.not_eq_true', decide_eq_false_iff_not]
      simp only [fst', snd', toI]
      omega
    have h2 : ((pairsOf m).filter fun x => isIn x xs).Pairwise (fun a b => PySem.W.dataLe false id a b = true) := by
      refine List.Pairwise.sublist List.filter_sublist ?_
      refine List.Pairwise.imp_of_mem (fun {a b} ha hb z => ?_) (pairsOf_lt m hm)
      rw [le (pairsOf_pr ha) (pairsOf_pr hb)]
      obtain ⟨i, j, rfl, _⟩ := isPr_iff.mp (pairsOf_pr ha)
      obtain ⟨k, l, rfl, _⟩ := isPr_iff.mp (pairsOf_pr hb)
      rw [ltD_pair, decide_eq_true_eq] at z
      simp only [fst', snd', toI]
      omega
    have pm : (srt xs).Perm ((pairsOf m).filter fun x => isIn x xs) := by
      refine (srt_perm xs).trans (perm_of_mem nd ?_ fun x => ?_)
      · exact (ne_of_sub hm (List.Sublist.refl _)).sublist List.filter_sublist
      · rw [List.mem_filter]
        exact ⟨fun hx => ⟨pr_mem (h x hx), (hq (h x hx)).mpr hx⟩, fun ⟨a, b⟩ => (hq (pairsOf_pr a)).mp b⟩
    refine List.Perm.eq_of_pairwise (le := fun a b => PySem.W.dataLe false id a b = true) (fun a b ha hb x y => ?_) h1 h2 pm
    have pa := h a (srt_mem.mp ha)
    have pb := pairsOf_pr (List.mem_filter.mp hb).1
    rw [le pa pb] at x
    rw [le pb pa] at y
    obtain ⟨i, j, rfl, _⟩ := isPr_iff.mp pa
    obtain ⟨k, l, rfl, _⟩ := isPr_iff.mp pb
    simp only [fst', snd', toI] at x y
    rw [show i = k by omega, show j = l by omega]
  rw [e]
  exact List.filter_sublist
theorem pty_srt {ns as bs as' bs' : List D} (h : Pty ns as bs) (ha : ∀ x ∈ as', isPr (ns.length : Int) x = true) (hb : ∀ x ∈ bs', isPr (ns.length : Int) x = true) (na : as'.Pairwise (· ≠ ·)) (nb : bs'.Pairwise (· ≠ ·)) (dj : ∀ x ∈ as', x ∉ bs') : Pty ns (srt as') (srt bs') :=
  ⟨h.l1, h.l9, h.nm, srt_subl h.l9 ha na, srt_subl h.l9 hb nb, fun x hx hx2 => dj x (srt_mem.mp hx) (srt_mem.mp hx2)⟩
theorem free_of {m : Nat} {as bs : List D} {d : D} (ha : ∀ x ∈ as, isPr (m : Int) x = true) (hb : ∀ x ∈ bs, isPr (m : Int) x = true) (h : d ∈ freeD m as bs) : isPr (m : Int) d = true ∧ d ∉ as ∧ d ∉ bs := by
  obtain ⟨h1, h2⟩ := List.mem_filter.mp h
  have hd := pairsOf_pr h1
  rw [Bool.and_eq_true, Bool.not_eq_true', Bool.not_eq_true'] at h2
  refine ⟨hd, fun z => ?_, fun z => ?_⟩
  · rw [(isIn_pairs hd ha).mpr z] at h2; cases h2.1
  · rw [(isIn_pairs hd hb).mpr z] at h2; cases h2.2
theorem app_ne {xs ys : List D} (hx : xs.Pairwise (· ≠ ·)) (hy : ys.Pairwise (· ≠ ·)) (h : ∀ x ∈ xs, x ∉ ys) : (xs ++ ys).Pairwise (· ≠ ·) :=
  List.pairwise_append.mpr ⟨hx, hy, fun a ha b hb e => h a ha (e ▸ hb)⟩
/-- a party with free pairs put apart -/
theorem pty_apart {ns as bs ps : List D} (h : Pty ns as bs) (hp : ps.Sublist (freeD ns.length as bs)) : Pty ns (srt (as ++ [])) (srt (bs ++ ps)) := by
  have hf : ∀ d ∈ ps, isPr (ns.length : Int) d = true ∧ d ∉ as ∧ d ∉ bs := fun d hd => free_of h.pa h.pb (hp.subset hd)
  refine pty_srt h (fun x hx => ?_) (fun x hx => (List.mem_append.mp hx).elim (h.pb x) fun z => (hf x z).1) ?_ ?_ fun x hx hx2 => ?_
  · rw [List.append_nil] at hx; exact h.pa x hx
  · rw [List.append_nil]; exact ne_of_sub h.l9 h.sa
  · exact app_ne (ne_of_sub h.l9 h.sb) ((ne_of_sub h.l9 (hp.trans List.filter_sublist))) fun x hx hx2 => (hf x hx2).2.2 hx
  · rw [List.append_nil] at hx
    rcases List.mem_append.mp hx2 with z | z
    · exact h.dj x hx z
    · exact (hf x z).2.1 hx
end DL

namespace DL
open PySem (PyData Addr Str)
def lastOk (m : Nat) (r : List Int) : Bool := match vIx (tupI r) (.int (-1)) with
  | .ok (.dat (.int l)) => decide (l < m)
  | _ => false
theorem part_more : ∀ m : Nat, m < 9 → (partP m).all (fun r => isRis (tupI r) && lastOk m r) = true := by decide +kernel
section
variable {m : Nat} {r : List Int}
theorem part_ps (h9 : m < 9) (hr : r ∈ partP m) : ∀ x ∈ r.map PyData.int, isPs m x := by
  intro x hx
  have h := List.all_eq_true.mp (part_ok m h9) r hr
  simp only [okPart, Bool.and_eq_true, decide_eq_true_eq, List.all_eq_true] at h
  obtain ⟨i, hi, rfl⟩ := List.mem_map.mp hx
  have := h.1.2 i hi
  exact ⟨i.toNat, by omega, by congr 1; omega⟩
theorem part_tp (h9 : m < 9) (hr : r ∈ partP m) : isTP m (tupI r) := by
  have h := List.all_eq_true.mp (part_ok m h9) r hr
  simp only [okPart, Bool.and_eq_true, decide_eq_true_eq, List.all_eq_true] at h
  refine ⟨_, rfl, fun e => ?_, part_ps h9 hr⟩
  have e : r = [] := List.map_eq_nil_iff.mp e
  rw [e] at h
  exact absurd h.1.1.1 (by simp)
theorem part_is (h9 : m < 9) (hr : r ∈ partP m) : isRis (tupI r) = true ∧ (∃ r', r = 0 :: r') ∧ r.length < m ∧ ∃ l : Int, vIx (tupI r) (.int (-1)) = .ok (.dat (.int l)) ∧ l < m := by
  have h := List.all_eq_true.mp (part_ok m h9) r hr
  have h2 := List.all_eq_true.mp (part_more m h9) r hr
  simp only [okPart, Bool.and_eq_true, decide_eq_true_eq, List.all_eq_true] at h h2
  refine ⟨h2.1, ?_, h.1.1.2, ?_⟩
  · cases r with
    | nil => exact absurd h.1.1.1 (by simp)
    | cons a r => exact ⟨r, by have := h.1.1.1; simp at this; rw [this]⟩
  · have h3 := h2.2
    unfold lastOk at h3
    split at h3
    · rename_i l e
      exact ⟨l, e, of_decide_eq_true h3⟩
    · cases h3
theorem parts_fn (h9 : m < 9) : fnB [127, 8] (.list (srt ((partP m).map tupI))) = true := by
  rw [fn_list]
  refine ⟨by rw [srt_len, List.length_map]; exact part_len m h9, fun x hx => ?_⟩
  obtain ⟨r, hr, rfl⟩ := List.mem_map.mp (srt_mem.mp hx)
  rw [tupI, fn_tuple]
  have := (part_is h9 hr).2.2.1
  exact ⟨by rw [List.length_map]; omega, fun y hy => isPs_fn (part_ps h9 hr y hy) (by omega)⟩
end
end DL
namespace Lw
open PySem (PyData Addr Str)
open DL
theorem r_all_partings : ∀ m : Nat, 1 ≤ m → m < 9 → g_all_partings [.dat (.int (m : Int))] = .ok (.own (srt ((partP m).map tupI)))
  | 0, h, _ => absurd h (by omega)
  | 1, _, _ => by kernel_rfl
  | 2, _, _ => by kernel_rfl
  | 3, _, _ => by kernel_rfl
  | 4, _, _ => by kernel_rfl
  | 5, _, _ => by kernel_rfl
  | 6, _, _ => by kernel_rfl
  | 7, _, _ => by kernel_rfl
  | 8, _, _ => by kernel_rfl
  | n + 9, _, h => absurd h (by omega)
theorem r_law_partings0 : ∀ m : Nat, 1 ≤ m → m < 9 → g__law_partings [.dat (.int (m : Int))] = .ok (.own (srt ((partL m).map tupI)))
  | 0, h, _ => absurd h (by omega)
  | 1, _, _ => by kernel_rfl
  | 2, _, _ => by kernel_rfl
  | 3, _, _ => by kernel_rfl
  | 4, _, _ => by kernel_rfl
  | 5, _, _ => by kernel_rfl
  | 6, _, _ => by kernel_rfl
  | 7, _, _ => by kernel_rfl
  | 8, _, _ => by kernel_rfl
  | n + 9, _, h => absurd h (by omega)
theorem r_law_partings (m : Nat) (h1 : 1 ≤ m) (h9 : m < 9) : g__law_partings [.dat (.int (m : Int))] = .ok (.own (srt ((partP m).map tupI))) := by
  rw [r_law_partings0 m h1 h9]
  rw [srt_tp_eq (m := m) ((part_perm m h9).map tupI) fun x hx => ?_]
  obtain ⟨r, hr, rfl⟩ := List.mem_map.mp hx
  exact part_tp h9 hr
section
variable {ns as bs cs xs ys : List D} {m : Nat} {d p : D} {r : List Int}
theorem r_with_facts (h : Pty ns as bs) (hx : ∀ x ∈ xs, isPr (m : Int) x = true) (hy : ∀ y ∈ ys, isPr (m : Int) y = true) (hm : ns.length ≤ m) (lx : xs.length ≤ 100) (ly : ys.length ≤ 100) :
    g_with_facts [.dat (P3 ns as bs), .dat (.list xs), .dat (.list ys)] = .ok (.dat (.tuple [.tuple ns, .tuple (srt (as ++ xs)), .tuple (srt (bs ++ ys))])) := by
  have wd : ∀ {d : D}, isPr ns.length d = true → isPr (m : Int) d = true := fun hd => by
    obtain ⟨i, j, rfl, h1, h2⟩ := pr_of hd
    exact isPr_iff.mpr ⟨i, j, rfl, by omega, by omega, by omega⟩
  have la := h.la
  have lb := h.lb
  have e1 := r_put_in (u := .tuple as) (w := .list xs) (.inl rfl) (.inr rfl) (fun x hx => wd (h.pa x hx)) hx (by omega) (by omega)
  have e2 := r_put_in (u := .tuple bs) (w := .list ys) (.inl rfl) (.inr rfl) (fun x hx => wd (h.pb x hx)) hy (by omega) (by omega)
  simp_arith only [g_with_facts, b_with_facts, ix0, ix1, ix2, e1, e2, small_of, M.bind_assoc']
theorem r_law_told (h : Pty ns as bs) (hx : ∀ x ∈ xs, isPr (m : Int) x = true) (hy : ∀ y ∈ ys, isPr (m : Int) y = true) (hm : ns.length ≤ m) (lx : xs.length ≤ 100) (ly : ys.length ≤ 100) :
    g__law_told [.dat (P3 ns as bs), .dat (.list xs), .dat (.list ys)] = .ok (.dat (.tuple [.tuple ns, .tuple (srt (as ++ xs)), .tuple (srt (bs ++ ys))])) := by
  have wd : ∀ {d : D}, isPr ns.length d = true → isPr (m : Int) d = true := fun hd => by
    obtain ⟨i, j, rfl, h1, h2⟩ := pr_of hd
    exact isPr_iff.mpr ⟨i, j, rfl, by omega, by omega, by omega⟩
  have la := h.la
  have lb := h.lb
  have s1 := vSorted_k (canSort_pairs (xs := as ++ xs) (m := (m : Int)) fun x hx' => (List.mem_append.mp hx').elim (fun z => wd (h.pa x z)) (hx x)) (by rw [List.length_append]; omega)
  have s2 := vSorted_k (canSort_pairs (xs := bs ++ ys) (m := (m : Int)) fun x hx' => (List.mem_append.mp hx').elim (fun z => wd (h.pb x z)) (hy x)) (by rw [List.length_append]; omega)
  simp_arith only [g__law_told, b__law_told, ix0, ix1, ix2, s1, s2, vTuple_k, small_of, M.bind_assoc']
def cutP (ns as bs rs : List D) : D := .tuple [.tuple ns, .tuple (srt (as ++ [])), .tuple (srt (bs ++ (freeD ns.length as bs).filter (crsD rs)))]
theorem r_cut_by (h : Pty ns as bs) (hr : r ∈ partP ns.length) : g_cut_by [.dat (P3 ns as bs), .dat (tupI r)] = .ok (.dat (cutP ns as bs (r.map .int))) := by
  have l9 := h.l9
  have hx : ∀ x ∈ r.map PyData.int, isPs ns.length x := part_ps l9 hr
  have fl := freeD_len (as := as) (bs := bs) l9
  have ef := List.length_filter_le (crsD (r.map PyData.int)) (freeD ns.length as bs)
  have e3 := r_with_facts (xs := []) (ys := (freeD ns.length as bs).filter (crsD (r.map .int))) h (fun x hx => (nomatch hx)) (fun y hy => freeD_pr (List.mem_filter.mp hy).1) (Nat.le_refl _) (by simp) (by omega)
  simp_arith only [g_cut_by, b_cut_by, r_free_of h, small_of, M.bind_assoc']
  rw [lcK_fil (crsD (r.map .int))]
  case hz => omega
  case h =>
    intro d hd
    refine ⟨_, rfl, ?_, rfl⟩
    simp_arith! [wipeE, tupI, r_crosses (freeD_pr hd) hx]
  have nl := noLs_pairs (m := (ns.length : Int)) (xs := (freeD ns.length as bs).filter (crsD (r.map .int))) fun y hy => freeD_pr (List.mem_filter.mp hy).1
  simp_arith! [nl, e3, M.bind_assoc']
  rfl
theorem r_law_cut (h : Pty ns as bs) (hr : r ∈ partP ns.length) : g__law_cut [.dat (P3 ns as bs), .dat (tupI r)] = .ok (.dat (cutP ns as bs (r.map .int))) := by
  have l9 := h.l9
  have hx : ∀ x ∈ r.map PyData.int, isPs ns.length x := part_ps l9 hr
  have fl := freeD_len (as := as) (bs := bs) l9
  have ef := List.length_filter_le (crsD (r.map PyData.int)) (freeD ns.length as bs)
  have e3 := r_law_told (xs := []) (ys := (freeD ns.length as bs).filter (crsD (r.map .int))) h (fun x hx => (nomatch hx)) (fun y hy => freeD_pr (List.mem_filter.mp hy).1) (Nat.le_refl _) (by simp) (by omega)
  simp_arith only [g__law_cut, b__law_cut, r_law_free h, small_of, M.bind_assoc']
  rw [lcK_fil (crsD (r.map .int))]
  case hz => omega
  case h =>
    intro d hd
    refine ⟨_, rfl, ?_, rfl⟩
    simp_arith! [wipeE, tupI, r_law_crosses (freeD_pr hd) hx]
  have nl := noLs_pairs (m := (ns.length : Int)) (xs := (freeD ns.length as bs).filter (crsD (r.map .int))) fun y hy => freeD_pr (List.mem_filter.mp hy).1
  simp_arith! [nl, e3, M.bind_assoc']
  rfl
end
end Lw

namespace DL
open PySem (PyData Addr Str)
theorem isPr_sd {m : Int} {d : D} : isPr m d = (isSd m d && decide ((itm d).length = 2)) := by
  rw [Bool.eq_iff_iff, Bool.and_eq_true, decide_eq_true_eq]
  constructor
  · intro h
    obtain ⟨i, j, rfl, h1, h2, h3⟩ := isPr_iff.mp h
    refine ⟨?_, rfl⟩
    unfold isSd
    rw [Bool.and_eq_true]
    refine ⟨isRis2.mpr ⟨i, j, rfl, rfl, h1, h2⟩, ?_⟩
    rw [List.all_eq_true]
    intro x hx
    simp only [itm, List.mem_cons, List.not_mem_nil, or_false] at hx
    rcases hx with rfl | rfl <;> (rw [decide_eq_true_eq]; simp only [toI]; omega)
  · rintro ⟨h1, h2⟩
    have h0 := (Bool.and_eq_true_iff.mp (show (isRis d && _) = true from h1)).1
    obtain ⟨xs, rfl, _, _, h3⟩ := isSd_tuple h1
    obtain ⟨x, y, rfl⟩ := two_of (show xs.length = 2 from h2)
    obtain ⟨i, j, rfl, rfl, h4, h5⟩ := isRis2.mp h0
    have := h3 (.int j) (by simp)
    exact isPr_iff.mpr ⟨i, j, rfl, h4, h5, this⟩
theorem isBr_bar2 {m : Nat} {d : D} (h : isBr m d = true) (hl : fnB [10, 10] d = true) : ∃ S T, d = .tuple [.tuple S, .tuple T] ∧ Bar m S T ∧ ∀ p, isPs m p → (isIn p S && isIn p T) = false := by
  unfold isBr at h
  split at h
  · rename_i s t
    obtain ⟨h1, h3⟩ := Bool.and_eq_true_iff.mp h
    obtain ⟨h2, h4⟩ := Bool.and_eq_true_iff.mp h3
    obtain ⟨S, rfl, a1, _, a3⟩ := isSd_tuple h1
    obtain ⟨T, rfl, b1, _, b3⟩ := isSd_tuple h2
    obtain ⟨_, hl⟩ := fn_tuple.mp hl
    have l1 := (fn_tuple.mp (hl (.tuple S) (by simp))).1
    have l2 := (fn_tuple.mp (hl (.tuple T) (by simp))).1
    have pS : ∀ x ∈ S, isPs m x := fun x hx => isCnt_ps (List.all_eq_true.mp a1 x hx) (a3 x hx)
    refine ⟨S, T, rfl, ⟨pS, fun x hx => isCnt_ps (List.all_eq_true.mp b1 x hx) (b3 x hx), by omega, by omega⟩, fun p hp => ?_⟩
    cases hS : isIn p S with
    | false => rfl
    | true =>
      rw [Bool.not_eq_true', List.any_eq_false] at h4
      have := h4 p ((isIn_ps hp pS).mp hS)
      rw [Bool.true_and]
      cases hT : isIn p T with
      | false => rfl
      | true => exact absurd hT this
  · cases h
theorem fn_sz {ns : List Nat} {d : D} (k : Nat) (h : fnB ns d = true) (hn : ∀ n ∈ ns, n ≤ 1000000 := by decide) : Sz k d := sz_fn k h hn
end DL
namespace Lw
open PySem (PyData Addr Str)
open DL
section
variable {ns as bs cs xs ys S T : List D} {m : Nat} {d p : D} {r : List Int}
theorem r_law_is_side {d : D} {m : Int} (hd : (itm d).length ≤ 1000000) : g__law_is_side [.dat d, .dat (.int m)] = .ok (.dat (.bool (isSd m d))) := by
  cases d with
  | tuple xs =>
    have hd : xs.length ≤ 1000000 := hd
    simp_arith! [g__law_is_side, b__law_is_side, isT, M.bind_assoc']
    refine loopB_ (fun x => !(isCnt x && decide (toI x < m))) (fun _ => .dat (.bool false)) (fun ρ => ∃ o2, ρ = [some (.dat (.tuple xs)), some (.dat (.int m)), o2, none, none]) ⟨_, rfl⟩ (fun ρ hI x hx => ?_) (fun ρ' hI => ?_)
    · obtain ⟨o2, rfl⟩ := hI
      refine ⟨_, rfl, ?_⟩
      cases x with
      | int i =>
        simp_arith! [isI, isB]
        by_cases h1 : (0 : Int) ≤ i
        · by_cases h2 : i < m
          · refine .inr ⟨by simp [isCnt, toI, h1, h2], ?_⟩
            simp_arith! [h1, h2, decide_true]
            exact ⟨_, rfl, _, rfl⟩
          · refine .inl ⟨by simp [isCnt, toI, h1, h2], ?_⟩
            simp_arith! [h1, h2, decide_true, decide_false]
        · refine .inl ⟨by simp [isCnt, toI, h1], ?_⟩
          simp_arith! [h1, decide_true, decide_false]
      | _ => exact .inl ⟨rfl, by simp_arith! [isI, isB]⟩
    · obtain ⟨o2, rfl⟩ := hI
      have hall : (xs.all fun x => isCnt x && decide (toI x < m)) = (xs.all isCnt && xs.all fun x => decide (toI x < m)) := all_and _ _ _
      cases hf : (xs.all fun x => isCnt x && decide (toI x < m)) with
      | false =>
        obtain ⟨x, e⟩ := find_some hf
        rw [e]
        rw [hf] at hall
        have : isSd m (.tuple xs) = false := by
          rw [isSd_t]
          cases h1 : xs.all isCnt
          · rfl
          · rw [h1, Bool.true_and] at hall
            rw [← hall]; simp
        rw [this]
        simp_arith! [DL.okb]
      | true =>
        rw [find_not hf]
        rw [hf] at hall
        obtain ⟨hc, hlt⟩ := Bool.and_eq_true_iff.mp hall.symm
        have hS : isSd m (.tuple xs) = adj xs := by
          rw [isSd_t, hc, hlt]; simp
        rw [hS]
        simp_arith! [M.bind_assoc']
        rw [show ((1 : Int)) = ((1 : Nat) : Int) from rfl, cutD_from]
        rw [lcK_ok (fun z => !ltD (fst' z) (snd' z)) (fun _ => .int 1)]
        case hz => rw [List.length_zipWith]; omega
        case h =>
          intro z hz
          obtain ⟨x, y, hx, hy, rfl⟩ := zip_mem hz
          obtain ⟨i, rfl, _⟩ := isCnt_iff.mp (List.all_eq_true.mp hc x hx)
          obtain ⟨j, rfl, _⟩ := isCnt_iff.mp (List.all_eq_true.mp hc y (List.mem_of_mem_drop hy))
          refine ⟨_, rfl, ?_, fun _ => ⟨_, rfl, rfl⟩⟩
          have : ltD (.int i) (.int j) = decide (i < j) := by unfold ltD; rw [vLt_int]
          simp_arith! [wipeE, pairD, fst', snd', this]
          congr 1
          by_cases h : i < j <;> simp [h] <;> omega
        have ez : vEq (.list (((List.zipWith pairD xs (xs.drop 1)).filter fun z => !ltD (fst' z) (snd' z)).map fun _ => PyData.int 1)) (.list []) = .ok (adj xs) := by
          rw [vEq_nil ?_, List.isEmpty_map, adj_not]
          refine shaped_nis fun x hx => ?_
          obtain ⟨_, _, rfl⟩ := List.mem_map.mp hx
          rfl
        simp_arith only [ez, small_of]
  | _ => simp_arith! [g__law_is_side, b__law_is_side, isT]; rfl
def slkB (ns as bs : List D) : D → Int
  | .tuple [.tuple S, .tuple T] => slackD ns.length (lacksD ns as) (freeD ns.length as bs) S T
  | _ => 0
def barsB (ns as bs : List D) (d : D) : Bool := isBr ns.length d && decide (slkB ns as bs d < 0)
theorem r_slack_of (h : Pty ns as bs) (hb : Bar ns.length S T) : g_slack_of [.dat (.tuple [.tuple ns, .tuple as, .tuple bs]), .dat (.tuple [.tuple S, .tuple T])] = .ok (.dat (.int (slackD ns.length (lacksD ns as) (freeD ns.length as bs) S T))) := by
  have e1 := r_needs_of h
  have e2 := r_free_of h
  simp only [P3] at e1 e2
  have e3 := r_slack_by (nd := lacksD ns as) (fr := freeD ns.length as bs) h.l9 hb lacksD_len (fun x hx => lacksD_ni hx) (fun d hd => freeD_pr hd) (Nat.le_trans (freeD_len h.l9) (by decide))
  simp_arith! [g_slack_of, b_slack_of, e1, e2, e3]
theorem r_bars_it (h : Pty ns as bs) (hd : fnB [10, 10] d = true) : g_bars_it [.dat (.tuple [.tuple ns, .tuple as, .tuple bs]), .dat d] = .ok (.dat (.bool (barsB ns as bs d))) := by
  have n1 := r_need_party h
  have e1 := r_is_bar_of (ns := ns) (as := as) (bs := bs) (fn_sz 2 hd)
  simp only [P3] at n1
  unfold barsB
  cases hb : isBr ns.length d with
  | false =>
    rw [hb] at e1
    simp_arith! [g_bars_it, b_bars_it, n1, e1]
  | true =>
    rw [hb] at e1
    obtain ⟨S, T, rfl, hB, _⟩ := isBr_bar2 hb hd
    simp_arith! [g_bars_it, b_bars_it, n1, e1, r_slack_of h hB, slkB]
    rfl
theorem r_law_bars (h : Pty ns as bs) (hd : fnB [10, 10] d = true) : g__law_bars [.dat (.tuple [.tuple ns, .tuple as, .tuple bs]), .dat d] = .ok (.dat (.bool (barsB ns as bs d))) := by
  have hz := fn_sz 2 hd
  unfold barsB
  cases d with
  | tuple xs =>
    by_cases hl : xs.length = 2
    · obtain ⟨s, t, rfl⟩ := two_of hl
      have zs := (hz.2 s (by simp [itm])).1
      have zt := (hz.2 t (by simp [itm])).1
      have e2 : decide ((([s, t].length : Nat) : Int) = 2) = true := rfl
      rw [List.length_cons, List.length_cons, List.length_nil] at e2
      simp_arith! [g__law_bars, b__law_bars, isT, e2, ix0, bx0, bx1, r_law_is_side zs]
      have hbr : isBr ns.length (.tuple [s, t]) = (isSd ns.length s && (isSd ns.length t && !(itm s).any fun p => isIn p (itm t))) := rfl
      cases h1 : isSd ns.length s with
      | false =>
        rw [hbr, h1]
        simp_arith! [DL.okb]
      | true =>
        simp_arith! [bx1, r_law_is_side zt]
        cases h2 : isSd ns.length t with
        | false =>
          rw [hbr, h1, h2]
          simp_arith! [DL.okb]
        | true =>
          obtain ⟨S, rfl, a1, _, a3⟩ := isSd_tuple h1
          obtain ⟨T, rfl, b1, _, b3⟩ := isSd_tuple h2
          have zs : S.length ≤ 1000000 := zs
          simp_arith! [bx0, M.bind_assoc']
          rw [lcK_fil (fun x => isIn x T)]
          case hz => exact zs
          case h =>
            intro x hx
            refine ⟨_, rfl, ?_, rfl⟩
            simp_arith! [wipeE, bx1, vIn_ni (isCnt_ni (List.all_eq_true.mp a1 x hx)) fun y hy => isCnt_ni (List.all_eq_true.mp b1 y hy)]
          have ee : vEq (.list (S.filter fun x => isIn x T)) (.list []) = .ok (!(itm (.tuple S)).any fun p => isIn p (itm (.tuple T))) := by
            rw [vEq_nil (shaped_nis fun x hx => isCnt_ni (List.all_eq_true.mp a1 x (List.mem_filter.mp hx).1))]
            congr 1
            rw [show itm (.tuple S) = S from rfl, show itm (.tuple T) = T from rfl]
            exact filter_isEmpty
          cases h3 : !((itm (.tuple S)).any fun p => isIn p (itm (.tuple T))) with
          | false =>
            rw [h3] at ee
            rw [hbr, h1, h2, h3]
            simp_arith only [ee, small_of]
          | true =>
            rw [h3] at ee
            have hb : isBr ns.length (.tuple [.tuple S, .tuple T]) = true := by rw [hbr, h1, h2, h3]; rfl
            obtain ⟨S', T', e, hB, dj⟩ := isBr_bar2 hb hd
            cases e
            have es := r_law_slack h hB dj
            simp only [P3] at es
            rw [hb]
            simp_arith only [ee, es, slkB, small_of]
            rfl
    · have e2 : decide (((xs.length : Nat) : Int) = 2) = false := by
        rw [decide_eq_false_iff_not]
        omega
      simp_arith! [g__law_bars, b__law_bars, isT, e2, ix0, isBr_len hl]
  | _ => simp_arith! [g__law_bars, b__law_bars, isT, ix0]; rfl
def rsnB (ns as bs rs : List D) (d : D) : Bool := if isPr ns.length d = true then isIn d as && crsD rs d else barsB ns (srt (as ++ [])) (srt (bs ++ (freeD ns.length as bs).filter (crsD rs))) d
theorem r_shows_crossed (h : Pty ns as bs) (hr : r ∈ partP ns.length) (hd : fnB [10, 10] d = true) : g_shows_crossed [.dat (P3 ns as bs), .dat (tupI r), .dat d] = .ok (.dat (.bool (rsnB ns as bs (r.map .int) d))) := by
  have hz := fn_sz 2 hd
  have hx : ∀ x ∈ r.map PyData.int, isPs ns.length x := part_ps h.l9 hr
  have e1 := r_is_pair d ns.length hz.1
  have e2 := r_cut_by h hr
  have e3 := r_bars_it (pty_apart h (List.filter_sublist (p := crsD (r.map .int)))) hd
  unfold rsnB
  cases hp : isPr ns.length d with
  | false =>
    rw [hp] at e1
    simp_arith! [g_shows_crossed, b_shows_crossed, ix0, e1, e2, cutP, e3]
  | true =>
    rw [hp] at e1
    have vi : vIn d (.tuple as) = .ok (isIn d as) := vIn_tuple (shaped_pair hp) (canLay_pairs (List.all_eq_true.mpr h.pa))
    have ec := r_crosses hp hx
    simp_arith! [g_shows_crossed, b_shows_crossed, ix0, ix1, e1, vi]
    cases isIn d as with
    | false => simp_arith! [DL.okb]
    | true => simp_arith! [tupI, ec]
theorem r_law_is_reason (h : Pty ns as bs) (hr : r ∈ partP ns.length) (hd : fnB [10, 10] d = true) : g__law_is_reason [.dat (P3 ns as bs), .dat (tupI r), .dat d] = .ok (.dat (.bool (rsnB ns as bs (r.map .int) d))) := by
  have hz := fn_sz 2 hd
  have hx : ∀ x ∈ r.map PyData.int, isPs ns.length x := part_ps h.l9 hr
  have e1 : g__law_is_pair [.dat d, .dat (.int ns.length)] = .ok (.dat (.bool (isPr ns.length d))) := by
    have e0 := r_law_is_side (d := d) (m := ns.length) hz.1
    rw [isPr_sd]
    cases hs : isSd ns.length d with
    | false =>
      rw [hs] at e0
      simp_arith! [g__law_is_pair, b__law_is_pair, e0]
    | true =>
      rw [hs] at e0
      obtain ⟨xs, rfl, _⟩ := isSd_tuple hs
      have e2 : decide (((xs.length : Nat) : Int) = 2) = decide ((itm (.tuple xs)).length = 2) := by
        rw [Bool.eq_iff_iff, decide_eq_true_eq, decide_eq_true_eq]
        show ((xs.length : Nat) : Int) = 2 ↔ xs.length = 2
        omega
      simp_arith! [g__law_is_pair, b__law_is_pair, e0, e2]
  have e2 := r_law_cut h hr
  have e3 := r_law_bars (pty_apart h (List.filter_sublist (p := crsD (r.map .int)))) hd
  unfold rsnB
  cases hp : isPr ns.length d with
  | false =>
    rw [hp] at e1
    simp_arith! [g__law_is_reason, b__law_is_reason, ix0, e1, e2, cutP, e3]
  | true =>
    rw [hp] at e1
    have vi : vIn d (.tuple as) = .ok (isIn d as) := vIn_tuple (shaped_pair hp) (canLay_pairs (List.all_eq_true.mpr h.pa))
    have ec := r_law_crosses hp hx
    simp_arith! [g__law_is_reason, b__law_is_reason, ix0, ix1, e1, vi]
    cases isIn d as with
    | false => simp_arith! [DL.okb]
    | true => simp_arith! [tupI, ec]
end
end Lw

namespace DL
open PySem (PyData Addr Str)
theorem vIx_last {xs : List D} (h : xs ≠ []) : ∃ y ∈ xs, vIx (.tuple xs) (.int (-1)) = .ok (.dat y) := by
  have hl : 0 < xs.length := List.length_pos_iff.mpr h
  refine ⟨xs[xs.length - 1]'(by omega), List.getElem_mem _, vIx_tuple ?_⟩
  unfold L2.atI
  have : L2.ixN xs.length (-1) = some (xs.length - 1) := by
    unfold L2.ixN
    rw [if_neg (by omega), if_pos (by omega)]
    congr 1
    omega
  rw [this]
  exact List.getElem?_eq_getElem (by omega)
theorem vEq_ints {xs ys : List D} (hx : ∀ x ∈ xs, isNI x = true) (hy : ∀ y ∈ ys, isNI y = true) : vEq (.tuple xs) (.tuple ys) = .ok (PyData.eqvAll xs ys) := by
  rw [vEq_of (Lay.shaped (Lay.tup fun x h => Lay.ni (hx x h)) (by decide)) (Lay.shaped (Lay.tup fun x h => Lay.ni (hy x h)) (by decide))]
  simp only [PyData.eqv]
theorem tupI_sm {m : Nat} {r : List Int} (h9 : m < 9) (hr : r ∈ partP m) : Sm 1 (tupI r) := by
  refine .inr ⟨_, rfl, fun x hx => ?_⟩
  obtain ⟨k, hk, rfl⟩ := part_ps h9 hr x hx
  exact ⟨k, by omega, rfl⟩
theorem not_all {p : D → Bool} {ds : List D} : ds.find? (fun d => !p d) = none ↔ ds.all p = true := by
  cases h : ds.all p with
  | true => exact ⟨fun _ => rfl, fun _ => find_not h⟩
  | false =>
    obtain ⟨d, e⟩ := find_some h
    rw [e]
    simp
end DL
namespace Lw
open PySem (PyData Addr Str)
open DL
section
variable {ns as bs cs xs ys S T : List D} {m : Nat} {d p : D} {r : List Int}
theorem r_is_parting_any (hz : (itm d).length ≤ 1000000) : ∃ b, g_is_parting [.dat (P3 ns as bs), .dat d] = .ok (.dat (.bool b)) ∧ (b = true → isRis d = true) := by
  have e1 := r_is_rising d hz
  cases hr : isRis d with
  | false =>
    rw [hr] at e1
    refine ⟨false, ?_, fun z => by cases z⟩
    simp_arith! [g_is_parting, b_is_parting, e1, M.bind_assoc']
  | true =>
    rw [hr] at e1
    cases d <;> first | (cases hr; done) | skip
    rename_i xs
    have hz : xs.length ≤ 1000000 := hz
    have hc := List.all_eq_true.mp (isRis_cnt hr)
    have hni : ∀ x ∈ xs, isNI x = true := fun x hx => isCnt_ni (hc x hx)
    have e2 : cutD xs none (some 1) = xs.take 1 := by rw [show (some 1 : Option Int) = some ((1 : Nat) : Int) from rfl, cutD_to]
    have e3 : vEq (.tuple (xs.take 1)) (.tuple [.int 0]) = .ok (PyData.eqvAll (xs.take 1) [.int 0]) := vEq_ints (fun x hx => hni x (List.mem_of_mem_take hx)) (fun x hx => by rw [List.mem_singleton.mp hx]; rfl)
    cases h0 : PyData.eqvAll (xs.take 1) [.int 0] with
    | false =>
      rw [h0] at e3
      refine ⟨false, ?_, fun z => by cases z⟩
      simp_arith only [g_is_parting, b_is_parting, e1, e2, e3, small_of, M.bind_assoc']
    | true =>
      rw [h0] at e3
      have hne : xs ≠ [] := by
        rintro rfl
        cases h0
      obtain ⟨y, hy, e4⟩ := vIx_last hne
      obtain ⟨i, rfl, _⟩ := isCnt_iff.mp (hc y hy)
      refine ⟨decide ((xs.length : Int) < (ns.length : Int)) && decide (i < (ns.length : Int)), ?_, fun _ => rfl⟩
      simp_arith only [g_is_parting, b_is_parting, e1, e2, e3, small_of, M.bind_assoc']
      cases hd : decide ((xs.length : Int) < (ns.length : Int)) with
      | false => simp_arith! [ix0, hd]
      | true => simp_arith! [ix0, e4, hd]
theorem r_is_parting (h : Pty ns as bs) (hr : r ∈ partP ns.length) : g_is_parting [.dat (P3 ns as bs), .dat (tupI r)] = .ok (.dat (.bool true)) := by
  have l9 := h.l9
  obtain ⟨h1, ⟨r', h2⟩, h3, l, h4, h5⟩ := part_is l9 hr
  have lr : r.length ≤ 1000000 := by omega
  have e1 := r_is_rising (tupI r) (by show (r.map _).length ≤ _; rw [List.length_map]; exact lr)
  rw [h1] at e1
  have e2 : cutD (r.map PyData.int) none (some 1) = [.int 0] := by
    rw [show (some 1 : Option Int) = some ((1 : Nat) : Int) from rfl, cutD_to, h2]; rfl
  have e3 : vEq (.tuple [.int 0]) (.tuple [.int 0]) = .ok true := vEq_self (n := 2) (Lay.tup fun x hx => by rw [List.mem_singleton.mp hx]; exact Lay.ni rfl) (by decide)
  simp only [tupI] at e1 h4 ⊢
  simp_arith only [g_is_parting, b_is_parting, e1, e2, e3, small_of, M.bind_assoc']
  simp_arith only [h4, ix0, List.length_map, small_of, M.bind_assoc']
  have d1 : decide ((r.length : Int) < (ns.length : Int)) = true := decide_eq_true (by omega)
  have d2 : decide (l < (ns.length : Int)) = true := decide_eq_true h5
  simp_arith only [d1, d2, h4, ix0, small_of, M.bind_assoc']
def rowB (ns as bs : List D) (p : D) : D → Bool
  | .tuple [a, b] => decide (PyData.shown a = PyData.shown p) && rsnB ns as bs (itm p) b
  | _ => false
theorem rowB_two {a b : D} : rowB ns as bs p (.tuple [a, b]) = (decide (PyData.shown a = PyData.shown p) && rsnB ns as bs (itm p) b) := rfl
theorem rowB_len (h : xs.length ≠ 2) : rowB ns as bs p (.tuple xs) = false := by
  unfold rowB
  split
  · rename_i e; cases e; exact absurd rfl h
  · rfl
def zipB (ns as bs : List D) (d : D) : Bool := rowB ns as bs (fst' d) (snd' d)
def papB (ns as bs ps : List D) : D → Bool
  | .list rows => decide (rows.length = ps.length) && (List.zipWith pairD ps rows).all (zipB ns as bs)
  | _ => false
theorem papB_list {ps rows : List D} : papB ns as bs ps (.list rows) = (decide (rows.length = ps.length) && (List.zipWith pairD ps rows).all (zipB ns as bs)) := rfl
theorem r_shows_one (h : Pty ns as bs) (hd : fnB [130, 10, 10, 10] d = true) : g_shows_one [.dat (P3 ns as bs), .dat d] = .ok (.dat (.bool (papB ns as bs (srt ((partP ns.length).map tupI)) d))) := by
  have l9 := h.l9
  have n1 := r_need_party h
  have ep := r_all_partings _ h.l1 l9
  obtain ⟨ps, hps⟩ : ∃ ps, ps = srt ((partP ns.length).map tupI) := ⟨_, rfl⟩
  have pm : ∀ x ∈ ps, ∃ r ∈ partP ns.length, x = tupI r := fun x hx => by
    rw [hps] at hx
    obtain ⟨r, hr, rfl⟩ := List.mem_map.mp (srt_mem.mp hx)
    exact ⟨r, hr, rfl⟩
  rw [← hps] at ep ⊢
  have np : noLs ps = true := noLs_tp (m := ns.length) fun x hx => by
    obtain ⟨r, hr, rfl⟩ := pm x hx
    exact part_tp l9 hr
  simp only [P3] at n1
  cases d with
  | list rows =>
    obtain ⟨hl, hrow⟩ := fn_list.mp hd
    rw [papB_list]
    cases hlen : decide (rows.length = ps.length) with
    | false =>
      have e2 : decide ((rows.length : Int) = (ps.length : Int)) = false := by
        rw [decide_eq_false_iff_not] at hlen ⊢
        omega
      simp_arith! [g_shows_one, b_shows_one, n1, ix0, ep, np, isL, e2, M.bind_assoc']
    | true =>
      have e2 : decide ((rows.length : Int) = (ps.length : Int)) = true := by
        rw [decide_eq_true_eq] at hlen ⊢
        omega
      simp_arith! [g_shows_one, b_shows_one, n1, ix0, ep, np, isL, e2, M.bind_assoc']
      refine loopB_ (fun d => !zipB ns as bs d) (fun _ => .dat (.bool false)) (fun ρ => ∃ o3 o4, ρ = [some (.dat (P3 ns as bs)), some (.dat (.list rows)), some (.dat (.list ps)), o3, o4]) ⟨_, _, rfl⟩ (fun ρ hI z hz => ?_) (fun ρ' hI => ?_)
      · obtain ⟨o3, o4, rfl⟩ := hI
        obtain ⟨p, x, hp, hx, rfl⟩ := zip_mem hz
        obtain ⟨r, hr, rfl⟩ := pm p hp
        have fx := hrow x hx
        refine ⟨_, rfl, ?_⟩
        have ez : zipB ns as bs (pairD (tupI r) x) = rowB ns as bs (tupI r) x := rfl
        rw [ez]
        cases x with
        | tuple ys =>
          by_cases hy : ys.length = 2
          · obtain ⟨a, b, rfl⟩ := two_of hy
            have e3 : decide ((([a, b].length : Nat) : Int) = 2) = true := rfl
            rw [List.length_cons, List.length_cons, List.length_nil] at e3
            obtain ⟨fl3, fab⟩ := fn_tuple.mp fx
            have fa := fab a (by simp)
            have fb := fab b (by simp)
            obtain ⟨q, e4, hq⟩ := r_is_parting_any (ns := ns) (as := as) (bs := bs) (d := a) (fn_sz 1 fa).1
            have e5 := r_shows_crossed h hr fb
            simp only [P3] at e4 e5
            cases q with
            | false =>
              refine .inl ⟨?_, ?_⟩
              · have : ¬ PyData.shown a = PyData.shown (tupI r) := fun e => by
                  have ea := shown_sm (tupI_sm l9 hr) e
                  have e7 := r_is_parting h hr
                  simp only [P3] at e7
                  rw [ea, e7] at e4
                  cases e4
                rw [rowB_two, decide_eq_false this]
                rfl
              · simp_arith! [pairD, isT, e3, ix0, e4, M.bind_assoc']
            | true =>
              have hris := hq rfl
              cases a <;> first | (cases hris; done) | skip
              rename_i zs
              have hc := List.all_eq_true.mp (isRis_cnt hris)
              have hni : ∀ x ∈ zs, isNI x = true := fun x hx => isCnt_ni (hc x hx)
              have hri : ∀ x ∈ r.map PyData.int, isNI x = true := fun x hx => isPs_ni (part_ps l9 hr x hx)
              have e6 := vEq_ints hni hri
              cases hv : PyData.eqvAll zs (r.map PyData.int) with
              | false =>
                rw [hv] at e6
                refine .inl ⟨?_, ?_⟩
                · have : ¬ PyData.shown (.tuple zs) = PyData.shown (tupI r) := fun e => by
                    have ea := shown_sm (tupI_sm l9 hr) e
                    have ea : zs = r.map PyData.int := by simpa [tupI] using ea
                    rw [(eqvAll_nis hni hri).mpr ea] at hv
                    cases hv
                  rw [rowB_two, decide_eq_false this]
                  rfl
                · simp_arith! [pairD, isT, e3, ix0, e4, tupI, e6, M.bind_assoc']
              | true =>
                rw [hv] at e6
                have ea := (eqvAll_nis hni hri).mp hv
                have er : rowB ns as bs (tupI r) (.tuple [.tuple zs, b]) = rsnB ns as bs (r.map .int) b := by
                  rw [rowB_two, ea, decide_eq_true (show PyData.shown (.tuple (r.map .int)) = PyData.shown (tupI r) from rfl)]
                  rfl
                rw [er]
                simp only [tupI] at e5
                cases hs : rsnB ns as bs (r.map .int) b with
                | false =>
                  rw [hs] at e5
                  refine .inl ⟨rfl, ?_⟩
                  simp_arith! [pairD, isT, e3, ix0, ix1, e4, tupI, e6, e5, M.bind_assoc']
                | true =>
                  rw [hs] at e5
                  refine .inr ⟨rfl, ?_⟩
                  simp_arith! [pairD, isT, e3, ix0, ix1, e4, tupI, e6, e5, M.bind_assoc']
                  exact ⟨_, rfl, _, _, rfl⟩
          · have e3 : decide (((ys.length : Nat) : Int) = 2) = false := by
              rw [decide_eq_false_iff_not]
              omega
            refine .inl ⟨by rw [rowB_len hy]; rfl, ?_⟩
            simp_arith! [pairD, isT, e3, M.bind_assoc']
        | _ => exact .inl ⟨rfl, by simp_arith! [pairD, isT, M.bind_assoc']⟩
      · obtain ⟨o3, o4, rfl⟩ := hI
        cases ha : (List.zipWith pairD ps rows).all (zipB ns as bs) with
        | true =>
          rw [find_not ha]
          simp_arith! [DL.okb]
        | false =>
          obtain ⟨z, e⟩ := find_some ha
          rw [e]
          simp_arith! [DL.okb]
  | _ => simp_arith! [g_shows_one, b_shows_one, n1, ix0, ep, np, isL, M.bind_assoc']; rfl
end
end Lw

namespace DL
open PySem (PyData Addr Str)
theorem vEq_strs (x y : Str) : vEq (.str x) (.str y) = .ok (decide (x = y)) := by
  rw [vEq_str]
  congr 1
end DL
namespace Lw
open PySem (PyData Addr Str)
open DL
section
variable {ns as bs cs xs ys S T : List D} {m : Nat} {d p : D} {r : List Int}
theorem r_law_is_paper (h : Pty ns as bs) (hd : fnB [130, 10, 10, 10] d = true) : g__law_is_paper [.dat (P3 ns as bs), .dat d] = .ok (.dat (.bool (papB ns as bs (srt ((partP ns.length).map tupI)) d))) := by
  have l9 := h.l9
  have ep := r_law_partings _ h.l1 l9
  obtain ⟨ps, hps⟩ : ∃ ps, ps = srt ((partP ns.length).map tupI) := ⟨_, rfl⟩
  have pm : ∀ x ∈ ps, ∃ r ∈ partP ns.length, x = tupI r := fun x hx => by
    rw [hps] at hx
    obtain ⟨r, hr, rfl⟩ := List.mem_map.mp (srt_mem.mp hx)
    exact ⟨r, hr, rfl⟩
  rw [← hps] at ep ⊢
  have np : noLs ps = true := noLs_tp (m := ns.length) fun x hx => by
    obtain ⟨r, hr, rfl⟩ := pm x hx
    exact part_tp l9 hr
  cases d with
  | list rows =>
    obtain ⟨hl, hrow⟩ := fn_list.mp hd
    rw [papB_list]
    cases hlen : decide (rows.length = ps.length) with
    | false =>
      have e2 : decide ((rows.length : Int) = (ps.length : Int)) = false := by
        rw [decide_eq_false_iff_not] at hlen ⊢
        omega
      simp_arith! [g__law_is_paper, b__law_is_paper, ix0, ep, np, isL, e2, M.bind_assoc']
    | true =>
      have e2 : decide ((rows.length : Int) = (ps.length : Int)) = true := by
        rw [decide_eq_true_eq] at hlen ⊢
        omega
      simp_arith! [g__law_is_paper, b__law_is_paper, ix0, ep, np, isL, e2, M.bind_assoc']
      refine loopB_ (fun d => !zipB ns as bs d) (fun _ => .dat (.bool false)) (fun ρ => ∃ o3 o4, ρ = [some (.dat (P3 ns as bs)), some (.dat (.list rows)), some (.dat (.list ps)), o3, o4]) ⟨_, _, rfl⟩ (fun ρ hI z hz => ?_) (fun ρ' hI => ?_)
      · obtain ⟨o3, o4, rfl⟩ := hI
        obtain ⟨p, x, hp, hx, rfl⟩ := zip_mem hz
        obtain ⟨r, hr, rfl⟩ := pm p hp
        have fx := hrow x hx
        have fp : fnB [10, 10] (tupI r) = true := by
          rw [tupI, fn_tuple]
          have := (part_is l9 hr).2.2.1
          exact ⟨by rw [List.length_map]; omega, fun y hy => isPs_fn (part_ps l9 hr y hy) (by omega)⟩
        refine ⟨_, rfl, ?_⟩
        have ez : zipB ns as bs (pairD (tupI r) x) = rowB ns as bs (tupI r) x := rfl
        rw [ez]
        cases x with
        | tuple ys =>
          by_cases hy : ys.length = 2
          · obtain ⟨a, b, rfl⟩ := two_of hy
            have e3 : decide ((([a, b].length : Nat) : Int) = 2) = true := rfl
            rw [List.length_cons, List.length_cons, List.length_nil] at e3
            obtain ⟨fl3, fab⟩ := fn_tuple.mp fx
            have fa := fab a (by simp)
            have fb := fab b (by simp)
            have e5 := r_law_is_reason h hr fb
            simp only [P3] at e5
            have ra := vRepr_fn fa
            have rp := vRepr_fn fp
            rw [rowB_two]
            cases hs : decide (PyData.shown a = PyData.shown (tupI r)) with
            | false =>
              refine .inl ⟨rfl, ?_⟩
              simp_arith! [pairD, isT, e3, ix0, ra, rp, vEq_strs, hs, M.bind_assoc']
            | true =>
              cases hq : rsnB ns as bs (itm (tupI r)) b with
              | false =>
                rw [show itm (tupI r) = r.map PyData.int from rfl] at hq
                rw [hq] at e5
                refine .inl ⟨rfl, ?_⟩
                simp_arith! [pairD, isT, e3, ix0, ix1, ra, rp, vEq_strs, hs, e5, M.bind_assoc']
              | true =>
                rw [show itm (tupI r) = r.map PyData.int from rfl] at hq
                rw [hq] at e5
                refine .inr ⟨rfl, ?_⟩
                simp_arith! [pairD, isT, e3, ix0, ix1, ra, rp, vEq_strs, hs, e5, M.bind_assoc']
                exact ⟨_, rfl, _, _, rfl⟩
          · have e3 : decide (((ys.length : Nat) : Int) = 2) = false := by
              rw [decide_eq_false_iff_not]
              omega
            refine .inl ⟨by rw [rowB_len hy]; rfl, ?_⟩
            simp_arith! [pairD, isT, e3, M.bind_assoc']
        | _ => exact .inl ⟨rfl, by simp_arith! [pairD, isT, M.bind_assoc']⟩
      · obtain ⟨o3, o4, rfl⟩ := hI
        cases ha : (List.zipWith pairD ps rows).all (zipB ns as bs) with
        | true =>
          rw [find_not ha]
          simp_arith! [DL.okb]
        | false =>
          obtain ⟨z, e⟩ := find_some ha
          rw [e]
          simp_arith! [DL.okb]
  | _ => simp_arith! [g__law_is_paper, b__law_is_paper, ix0, ep, np, isL, M.bind_assoc']; rfl
end
end Lw

namespace Lw
open PySem (PyData Addr Str)
open DL
theorem ix4 {a b c d : Int} {k : Nat} (hk : k < 4) (h : (0 < a ∧ a < 100) ∧ (0 < b ∧ b < 100) ∧ (0 < c ∧ c < 100) ∧ (0 < d ∧ d < 100)) : ∃ q : Int, (0 < q ∧ q < 100) ∧ vIx (.list [.int a, .int b, .int c, .int d]) (.int (k : Int)) = .ok (.dat (.int q)) := by
  have e : ∀ x : D, [PyData.int a, .int b, .int c, .int d][k]? = some x → vIx (.list [.int a, .int b, .int c, .int d]) (.int (k : Int)) = .ok (.dat x) := fun x hx => vIx_list (by rw [atI_nat']; exact hx)
  have : k = 0 ∨ k = 1 ∨ k = 2 ∨ k = 3 := by omega
  rcases this with rfl | rfl | rfl | rfl
  · exact ⟨a, h.1, e _ rfl⟩
  · exact ⟨b, h.2.1, e _ rfl⟩
  · exact ⟨c, h.2.2.1, e _ rfl⟩
  · exact ⟨d, h.2.2.2, e _ rfl⟩
theorem vInt_b {b : Bool} : vInt (.bool b) = .ok (.dat (.int (if b = true then 1 else 0))) := by cases b <;> rfl
theorem p_right {most : Nat} (hmost : 1 ≤ most ∧ most ≤ 8) : Pst (g__law_right_party [.pot, .dat (.int most)]) (fun w => ∃ ns as bs cs, w = .own [.tuple [.tuple ns, .tuple as, .tuple bs], .tuple cs] ∧ ns.length ≤ most ∧ Led ns as bs cs) := by
  simp_arith [g__law_right_party, b__law_right_party, g__law_below, M.bind_assoc']
  refine Pst.use (p_dpot (by omega)) fun w hw => ?_
  obtain ⟨r, hr, rfl⟩ := hw
  have er : (1 : Int) + (r : Int) = ((r + 1 : Nat) : Int) := by omega
  obtain ⟨m, hm⟩ : ∃ m, m = r + 1 := ⟨_, rfl⟩
  have m9 : m < 9 := by omega
  have m1 : 1 ≤ m := by omega
  have hmm : m ≤ most := by omega
  rw [← hm] at er
  have hlen := pairsOf_len m m9
  have rg := rng_m (m := m) (by omega)
  simp_arith [er, M.bind_assoc']
  refine Pst.use (p_dpot (by decide)) fun w hw => ?_
  obtain ⟨sr, hsr, rfl⟩ := hw
  obtain ⟨q1, hq1, e1⟩ := ix4 (a := 2) (b := 3) (c := 2) (d := 4) (k := sr) (by omega) (by decide)
  obtain ⟨q2, hq2, e2⟩ := ix4 (a := 1) (b := 1) (c := 1) (d := 3) (k := sr) (by omega) (by decide)
  have dw : ∀ (i1 i2 : Nat) (g : E2 → M E2) (a0 a1 a2 a3 a4 a5 a6 a7 a8 a9 : Option Wv) (mm : List Nat) (d1 : D) (w : Wv), duoW mm i1 i2 6 g [a0, a1, a2, a3, a4, a5, a6, a7, a8, a9] d1 w = g ((((frz mm [a0, a1, a2, a3, a4, a5, a6, a7, a8, a9]).set i1 (some (.dat d1))).set i2 (some w)).set 6 none, [], []) >>= duoE 6 := fun _ _ _ _ _ _ _ _ _ _ _ _ _ _ _ _ => duoW_e (by simp)
  simp_arith only [r_law_all_pairs m m9, dw, small_of, M.bind_assoc']
  refine Pst.use (R := fun (x : E2) => ∃ cs o7, x.1 = [some .pot, some (.dat (.int most)), some (.dat (.int m)), some (.dat (.int sr)), some (.dat (.list (pairsOf m))), some (.own cs), none, o7, none, none] ∧ cs.Sublist (pairsOf m) ∧ x.2.1.Sublist (pairsOf m) ∧ x.2.2.Sublist (pairsOf m) ∧ (∀ d ∈ x.2.1, d ∈ cs) ∧ ∀ d ∈ x.2.2, d ∉ cs)
    ⟨loop2P (fun ds x => ∃ pre cs o7, pairsOf m = pre ++ ds ∧ x.1 = [some .pot, some (.dat (.int most)), some (.dat (.int m)), some (.dat (.int sr)), some (.dat (.list (pairsOf m))), some (.own cs), none, o7, none, none] ∧ cs.Sublist pre ∧ x.2.1.Sublist pre ∧ x.2.2.Sublist pre ∧ (∀ d ∈ x.2.1, d ∈ cs) ∧ ∀ d ∈ x.2.2, d ∉ cs) ⟨[], [], none, rfl, rfl, .slnil, .slnil, .slnil, by simp, by simp⟩ (fun x h => ?_) fun d ds x h => ?_⟩ fun x hx => ?_
  · obtain ⟨pre, cs, o7, h0, h1, h2, h3, h4, h5, h6⟩ := h
    rw [List.append_nil] at h0
    rw [h0]
    rw [h0] at h1
    exact ⟨cs, o7, h1, h2, h3, h4, h5, h6⟩
  · obtain ⟨ρ, A, B⟩ := x
    obtain ⟨pre, cs, o7, h0, h1, h2, h3, h4, h5, h6⟩ := h
    have h1 : ρ = _ := h1
    subst h1
    have h0' : pairsOf m = (pre ++ [d]) ++ ds := by rw [h0]; simp
    have hd : isPr m d = true := pairsOf_pr (by rw [h0']; simp)
    have hdn : noL d = true := by obtain ⟨i, j, rfl, _⟩ := isPr_iff.mp hd; rfl
    have ndp : d ∉ pre := by
      have := pairs_ne m9
      rw [h0'] at this
      have := (List.pairwise_append.mp (List.pairwise_append.mp this).1).2.2
      exact fun z => this d z d (by simp) rfl
    have hpre : pre.length ≤ 28 := by have := congrArg List.length h0; rw [List.length_append] at this; omega
    have lc := h2.length_le
    have lA : A.length ≤ pre.length := h3.length_le
    have lB : B.length ≤ pre.length := h4.length_le
    have pcs : ∀ x ∈ cs, isPr m x = true := fun x hx => pairsOf_pr (by rw [h0]; exact List.mem_append_left _ (h2.subset hx))
    refine ⟨_, rfl, Pst.run ?_⟩
    simp_arith only [e1, e2, small_of, M.bind_assoc']
    refine Pst.use (p_dpot ⟨hq1.1, by omega⟩) fun w hw => ?_
    obtain ⟨k1, _, rfl⟩ := hw
    simp_arith only [e1, e2, small_of, M.bind_assoc']
    -- the pair met or not
    refine Pst.use (R := fun (x : E2) => ∃ cs2, x = ([some .pot, some (.dat (.int most)), some (.dat (.int m)), some (.dat (.int sr)), some (.dat (.list (pairsOf m))), some (.own cs2), none, some (.dat d), none, none], A, B) ∧ (cs2 = cs ∨ cs2 = cs ++ [d])) ?_ fun x hx => ?_
    · cases decide ((k1 : Int) < q2) with
      | true =>
        simp_arith only [hdn, small_of]
        exact Pst.ret ⟨_, rfl, .inr rfl⟩
      | false =>
        simp_arith [DL.okb]
        exact Pst.ret ⟨_, rfl, .inl rfl⟩
    obtain ⟨cs2, rfl, hcs2⟩ := hx
    have h2' : cs2.Sublist (pre ++ [d]) := by
      rcases hcs2 with rfl | rfl
      · exact h2.trans (List.sublist_append_left ..)
      · exact List.Sublist.append h2 (List.Sublist.refl _)
    have pc2 : ∀ x ∈ cs2, isPr m x = true := fun x hx => pairsOf_pr (by rw [h0']; exact List.mem_append_left _ (h2'.subset hx))
    have h3' : A.Sublist (pre ++ [d]) := h3.trans (List.sublist_append_left ..)
    have h4' : B.Sublist (pre ++ [d]) := h4.trans (List.sublist_append_left ..)
    have h5' : ∀ x ∈ A, x ∈ cs2 := fun x hx => by
      rcases hcs2 with rfl | rfl
      · exact h5 x hx
      · exact List.mem_append_left _ (h5 x hx)
    have h6' : ∀ x ∈ B, x ∉ cs2 := fun x hx z => by
      rcases hcs2 with rfl | rfl
      · exact h6 x hx z
      · rcases List.mem_append.mp z with z | z
        · exact h6 x hx z
        · rw [List.mem_singleton.mp z] at hx
          exact ndp (h4.subset hx)
    have vi : vIn d (.list cs2) = .ok (isIn d cs2) := vIn_list (shaped_pair hd) (canLay_pairs (List.all_eq_true.mpr pc2))
    simp_arith [M.bind_assoc']
    refine Pst.use (p_dpot (by decide)) fun w hw => ?_
    obtain ⟨k2, _, rfl⟩ := hw
    simp_arith [M.bind_assoc']
    cases hk2 : decide ((k2 : Int) = 0) with
    | false =>
      simp_arith [DL.okb]
      exact Pst.ret ⟨pre ++ [d], cs2, _, h0', rfl, h2', h3', h4', h5', h6'⟩
    | true =>
      simp_arith [M.bind_assoc']
      cases hs3 : decide ((sr : Int) < 3) with
      | false =>
        simp_arith [DL.okb]
        exact Pst.ret ⟨pre ++ [d], cs2, _, h0', rfl, h2', h3', h4', h5', h6'⟩
      | true =>
        simp_arith [vi, vInt_b, M.bind_assoc']
        cases hin : isIn d cs2 with
        | true =>
          have z0 : (if (!true) = true then (1 : Int) else 0) = 0 := rfl
          simp_arith only [z0, hdn, small_of, M.bind_assoc']
          refine Pst.ret ⟨pre ++ [d], cs2, _, h0', rfl, h2', List.Sublist.append h3 (List.Sublist.refl _), h4', fun x hx => ?_, h6'⟩
          rcases List.mem_append.mp hx with hx | hx
          · exact h5' x hx
          · rw [List.mem_singleton.mp hx]
            exact (isIn_mem hd pc2).mp hin
        | false =>
          have z1 : (if (!false) = true then (1 : Int) else 0) = 1 := rfl
          simp_arith only [z1, hdn, small_of, M.bind_assoc']
          refine Pst.ret ⟨pre ++ [d], cs2, _, h0', rfl, h2', h3', List.Sublist.append h4 (List.Sublist.refl _), h5', fun x hx => ?_⟩
          rcases List.mem_append.mp hx with hx | hx
          · exact h6' x hx
          · rw [List.mem_singleton.mp hx]
            exact fun z => by rw [(isIn_mem hd pc2).mpr z] at hin; cases hin
  obtain ⟨ρ, as, bs⟩ := x
  obtain ⟨cs, o7, h1, hcs, has, hbs, hac, hbc⟩ := hx
  have h1 : ρ = _ := h1
  subst h1
  have hc2 : ∀ x ∈ cs, isPr m x = true := fun x hx => pairsOf_pr (hcs.subset hx)
  have cl : cs.length ≤ 28 := Nat.le_trans hcs.length_le hlen
  have al := has.length_le
  have bl := hbs.length_le
  have nc := noLs_pairs hc2
  simp_arith [rg, M.bind_assoc']
  rw [lcK_mp (fun p => .int (degD cs p : Nat))]
  case hz => rw [rng_len]; omega
  case h =>
    intro p hp
    have hp := isPs_ni (rng_ps hp)
    refine ⟨_, rfl, rfl, .dat (.int (degD cs p : Nat)), ?_, rfl⟩
    simp_arith [wipeE, r_law_count hp hc2 (by omega)]
  obtain ⟨n0, hn0⟩ : ∃ n0, n0 = (rng 0 m).map fun p => PyData.int (degD cs p : Nat) := ⟨_, rfl⟩
  rw [← hn0]
  have l0 : n0.length = m := by rw [hn0, List.length_map, rng_len]
  have i0 : ∀ x ∈ n0, isNI x = true := fun x hx => by rw [hn0] at hx; obtain ⟨p, _, rfl⟩ := List.mem_map.mp hx; rfl
  have num0 : ∀ p, isPs n0.length p → atN n0 p = .none ∨ atN n0 p = .int (degD cs p : Nat) := by
    rintro p ⟨k, hk, rfl⟩
    right
    rw [l0] at hk
    rw [hn0]
    unfold atN rng
    simp only [toI, Int.toNat_natCast]
    rw [List.map_map, List.getElem?_map, List.getElem?_eq_getElem (by simpa using hk)]
    simp
  have nn0 := noLs_ni i0
  simp_arith only [nn0, small_of, M.bind_assoc']
  refine Pst.use (p_pick (by simp) (by simp)) fun w hw => ?_
  obtain ⟨x, hx, rfl⟩ := hw
  obtain ⟨z, rfl, hz⟩ : ∃ z : Nat, x = .int (z : Int) ∧ z < 3 := by
    simp only [List.mem_cons, List.not_mem_nil, or_false] at hx
    rcases hx with rfl | rfl | rfl | rfl
    · exact ⟨0, rfl, by decide⟩
    · exact ⟨0, rfl, by decide⟩
    · exact ⟨1, rfl, by decide⟩
    · exact ⟨2, rfl, by decide⟩
  have rgz := rng_m (m := z) (by omega)
  simp_arith [rgz, M.bind_assoc']
  refine Pst.use (R := fun fl => ∃ ns o9, fl = .nx [some .pot, some (.dat (.int most)), some (.dat (.int m)), some (.dat (.int sr)), some (.dat (.list (pairsOf m))), some (.own cs), some (.dat (.tuple [.list as, .list bs])), o7, some (.own ns), o9] ∧ ns.length = m ∧ (∀ x ∈ ns, isNI x = true) ∧ ∀ p, isPs ns.length p → atN ns p = .none ∨ atN ns p = .int (degD cs p : Nat))
    (loopP (fun ds ρ => ∃ ns o9, ρ = [some .pot, some (.dat (.int most)), some (.dat (.int m)), some (.dat (.int sr)), some (.dat (.list (pairsOf m))), some (.own cs), some (.dat (.tuple [.list as, .list bs])), o7, some (.own ns), o9] ∧ ns.length = m ∧ (∀ x ∈ ns, isNI x = true) ∧ ∀ p, isPs ns.length p → atN ns p = .none ∨ atN ns p = .int (degD cs p : Nat)) ⟨n0, _, rfl, l0, i0, num0⟩ (fun ρ hI => by obtain ⟨ns, o9, rfl, h⟩ := hI; exact ⟨ns, o9, rfl, h⟩) fun d ds ρ hI => ?_) fun fl hfl => ?_
  · obtain ⟨ns, o9, rfl, h1, h2, h3⟩ := hI
    refine ⟨_, rfl, ?_⟩
    simp_arith [M.bind_assoc']
    refine Pst.use (p_dpot (by omega)) fun w hw => ?_
    obtain ⟨k, hk, rfl⟩ := hw
    have ix : L2.ixN ns.length (k : Int) = some k := ixN_nat (by omega)
    simp_arith [ix, Option.map_some]
    refine Pst.ret ⟨ns.set k .none, _, rfl, by rw [List.length_set]; exact h1, fun x hx => ?_, num_set h3⟩
    rcases List.mem_or_eq_of_mem_set hx with hx | rfl
    · exact h2 x hx
    · rfl
  obtain ⟨ns, o9, rfl, h1, h2, h3⟩ := hfl
  subst h1
  simp_arith only [ix0, ix1, vTuple_k, small_of, M.bind_assoc']
  refine Pst.ret ⟨ns, as, bs, cs, rfl, hmm, ⟨m1, m9, fun x hx => ?_, has, hbs, fun x hx hx2 => hbc x hx2 (hac x hx)⟩, hcs, hac, hbc, h3⟩
  obtain ⟨k, hk, e⟩ := List.getElem_of_mem hx
  have z := h3 (.int (k : Int)) ⟨k, hk, rfl⟩
  have at_ : atN ns (.int (k : Int)) = x := by
    unfold atN
    simp only [toI, Int.toNat_natCast]
    rw [List.getElem?_eq_getElem hk, e]; rfl
  rw [at_] at z
  rcases z with rfl | rfl
  · rfl
  · have dl : degD cs (.int (k : Int)) ≤ ns.length - 1 := by
      rw [← deg_all _ m9 k hk]
      exact (hcs.filter _).length_le
    show (decide ((0 : Int) ≤ (degD cs (.int (k : Int)) : Nat)) && decide (((degD cs (.int (k : Int)) : Nat) : Int) ≤ 20)) = true
    rw [Bool.and_eq_true]
    exact ⟨decide_eq_true (by omega), decide_eq_true (by omega)⟩
end Lw

local macro_rules | `(tactic| simp_arith only [$a,*]) => `(tactic| simp (maxSteps := 3000000) (disch := (first | omega | (simp only [List.length_append, List.length_take, List.length_drop, List.length_reverse, List.length_map, List.length_cons, List.length_nil]; done) | (simp only [List.length_append, List.length_take, List.length_drop, List.length_reverse, List.length_map, List.length_cons, List.length_nil]; omega))) only [$a,*, DL.sel_true, DL.sel_false, DL.sel_self, DL.okb, DL.excb, DL.badb, DL.pickb, DL.okp, DL.pickp, DL.ddat, DL.down, DL.sdat, DL.sown, DL.sraw, DL.spot, DL.gdat, DL.gown, DL.graw, DL.gpot, DL.asBb, DL.asIi, DL.kBok, DL.noxok, DL.datas0, DL.frz1_own, DL.frz1_dat, DL.frz1_raw, DL.frz1_pot, DL.frz1_none, DL.frz1_nil, DL.frz1_succ, DL.frz_nil, DL.frz_cons, DL.rdv_dat, DL.rdv_raw, DL.rdv_pot, DL.rdv_succ, DL.rtnV_zero, DL.rtnV_succ, DL.ownAt_zero, DL.ownAt_succ, DL.startE_eq, DL.seq_e, DL.seqK_nx, DL.seqK_ret, DL.seqK_brk, DL.seqK_cont, DL.asg_e, DL.asgK_e, DL.rtn_e, DL.rtnK_e, DL.rtnN_e, DL.exs_e, DL.exsK_e, DL.ifs_e, DL.ifsK_true, DL.ifsK_false, DL.skip_e, DL.brkS_e, DL.contS_e, DL.badS_e, DL.body_e, DL.fin_ret, DL.fin_nx, DL.app1_e, DL.app1K_e, DL.app_e, DL.appO_e, DL.appW_e, DL.appD_e, DL.asg2_e, DL.asg2K_e, DL.asg2L_e, DL.unp_e, DL.unpW_e, DL.unpD_e, DL.goOn_some, DL.goOn_none, DL.bT_e, DL.setL_cons, DL.setL_nil, DL.bN_e, DL.sto1_e, DL.sto_e, DL.stoW_e, DL.stoD_e, DL.sto2_e, DL.sto2K_e, DL.sto2W_e, DL.sto2I_e, DL.sto1K_e, DL.atK_e, DL.ali_e, DL.aliK_true, DL.aliK_false, DL.ali1_e, DL.ali1B_e, DL.ali1O_e, DL.ali1W_e, DL.ali1D_e, DL.forS_e, DL.forK_e, DL.loopB_some, DL.loopK_nx, DL.loopK_cont, DL.loopK_brk, DL.loopK_ret, DL.bin2_e, DL.binK_e, DL.binL_e, DL.un1_e, DL.unK_e, DL.tst_e, DL.tand_e, DL.tandK_true, DL.tandK_false, DL.tor_e, DL.torK_true, DL.torK_false, DL.tnot_e, DL.notK_e, DL.vand_e, DL.vandK_e, DL.vandL_true, DL.vandL_false, DL.vor_e, DL.vorK_e, DL.vorL_true, DL.vorL_false, DL.vnot_e, DL.vnotK_e, DL.vnotL_e, DL.vif_e, DL.vifK_true, DL.vifK_false, DL.anil_e, DL.acons_e, DL.aconsK_e, DL.aconsL_e, DL.call_e, DL.ccall_e, DL.ccallK1, DL.ccallK2, DL.ccallK3, DL.ccallK4, DL.sub_e, DL.subK_e, DL.subH_e, DL.cutK_e, DL.cutL_e, DL.oN_e, DL.oS_e, DL.oSK_e, DL.oI_e, DL.rev_e, DL.revK_e, DL.tup_e, DL.lst_e, DL.mkTup_e, DL.mkLst_e, DL.tupD_e, DL.lstD_e, DL.datas_e, DL.datasK_e, DL.kN_e, DL.kB_e, DL.kI_e, DL.kS_e, DL.kT_e, DL.kD0_e, DL.chainI_e, DL.chA_e, DL.chB_e, DL.chI_e, DL.chJ_e, DL.chG_true, DL.chG_false, DL.chY_e, DL.chC_e, DL.sSeq_e, DL.seqSrc_e, DL.asItems_list, DL.asItems_tuple, DL.sRng1_e, DL.rngW_e, DL.sRng2_e, DL.rngK_e, DL.rngWW_e, DL.rngWI_e, DL.rngJ_e, DL.sZip_e, DL.zipK_e, DL.zipW_e, DL.zipA_e, DL.zipD_list, DL.zipD_tuple, DL.sEnum_e, DL.enumW_e, DL.enumV_e, DL.asList_e, DL.enumL_e, DL.ownR_e, DL.lc_e, DL.tYes_e, List.map_cons, List.map_nil, List.nil_append, List.cons_append, List.length_cons, List.length_nil, List.set_cons_zero, List.set_cons_succ, ite_self, reduceIte, DL.noL_none, DL.noL_bool, DL.noL_int, DL.noL_str, DL.noL_list, DL.noL_tuple, DL.noLs_nil, DL.noLs_cons, Bool.true_and, Bool.false_and, Bool.and_true, Bool.and_self, Bool.false_eq_true, Bool.not_true, Bool.not_false, List.replicate_succ, List.replicate_zero, DL.opEq_e, DL.flip_e, DL.opNe_e, DL.opIn_e, DL.opNotIn_e, DL.opLt_e, DL.opAdd_e, DL.opMul_e, DL.opIx_e, DL.opIsN_e, DL.opNotN_e, DL.opNeg_e, DL.opLe_e, DL.opGt_e, DL.opGe_e, DL.opSub_e, DL.vLt_int, DL.vEq_int, DL.vAdd_int, DL.vAdd_list, DL.vAdd_tuple, DL.vLen_tuple, DL.vLen_list, DL.vInt_int, DL.vTuple_list, DL.vTuple_tuple, DL.vList_list, DL.vList_tuple, DL.vRev_list, DL.vRev_tuple, DL.vCut_list, DL.vCut_tuple, DL.f1_e, DL.f2_e, DL.isNon_none, DL.isNon_int, DL.isi_int, DL.isi_bool, DL.isi_tuple, DL.isi_list, DL.isi_str, DL.isi_dict, DL.astar_e, DL.starU_e, DL.starW_list, DL.starW_tuple, DL.starL_e, DL.starK_e, DL.sEnumT_e, DL.enumW2_e, DL.enumV2_list, DL.enumV2_tuple, DL.rdI_zero, DL.rdI_succ, DL.augI_e, DL.augIK_e, DL.augIW_e, DL.augIB_e, DL.augS_e, DL.augSK_e, DL.augSU_e, DL.augSJ_e, DL.augSA_e, DL.augSW_e, DL.augSB_e, DL.appC_e, DL.appCW_own, DL.appCV_e, DL.lstR_e, DL.lstRw_e, DL.lstRk_e, DL.parS_e, DL.parSK_e, DL.parSW_e, DL.parSD_e, DL.parS2_e, DL.opIsB_e, DL.opNotB_e, DL.seq2_e, DL.skip2_e, DL.ifs2_e, DL.ifs2K_true, DL.ifs2K_false, DL.app2_e, DL.app2O_e, DL.app2W_e, DL.app2D_e, DL.app2L_e, DL.dapp_e, DL.dappU_e, DL.dappJ0, DL.dappJ1, DL.dappW_e, DL.dappD_e, DL.dappL0, DL.dappL1, DL.for2_e, DL.for2K_e, DL.duoS_e, DL.duoU_e, DL.duoD_e, DL.duoW_e, DL.duoE_e, DL.ext_e, DL.extO_e, DL.extW_e, DL.ext1_e, DL.clr_e, DL.clr1_e, DL.unl_e, DL.unlW_e, DL.unlD_e, DL.asg3_e, DL.asg3K_e, DL.asg3L_e, DL.asg3F_e])
namespace Lw
open PySem (PyData Addr Str)
open DL
theorem p_any_party {most : Nat} (hmost : 1 ≤ most ∧ most ≤ 8) : Pst (g__law_any_party [.pot, .dat (.int most)]) (fun w => ∃ ns as bs, w = .dat (P3 ns as bs) ∧ ns.length ≤ most ∧ Pty ns as bs) := by
  have hR := @p_right most hmost
  simp_arith [g__law_any_party, b__law_any_party, M.bind_assoc']
  generalize g__law_right_party = f1 at hR ⊢
  refine Pst.use hR fun w hw => ?_
  obtain ⟨ns, as, bs, cs, rfl, hl, hL⟩ := hw
  have hP := hL.pty
  have l9 := hP.l9
  have l1 := hP.l1
  have la := hP.la
  have lb := hP.lb
  have nmn : ∀ x ∈ ns, isNI x = true := fun x hx => by
    have := hP.nm x hx
    cases x <;> first | rfl | (cases this; done)
  have n0 := noLs_ni nmn
  have na := noLs_pairs (m := (ns.length : Int)) hP.pa
  have nb := noLs_pairs (m := (ns.length : Int)) hP.pb
  have nc := noLs_pairs (m := (ns.length : Int)) hL.pc
  simp_arith only [ix0, ix1, ix2, n0, na, nb, nc, small_of, M.bind_assoc']
  refine Pst.use (p_dpot (by decide)) fun w hw => ?_
  obtain ⟨kd, hkd, rfl⟩ := hw
  simp_arith only [small_of, M.bind_assoc']
  refine Pst.use (R := fun fl => ∃ ns' as' bs' o4 o8 o9 o10, fl = .nx [some .pot, some (.dat (.int most)), some (.dat (P3 ns as bs)), some (.dat (.tuple cs)), some o4, some (.own as'), some (.own bs'), some (.dat (.int kd)), o8, o9, o10] ∧ (o4 = .own ns' ∨ o4 = .dat (.list ns')) ∧ ns'.length = ns.length ∧ (∀ x ∈ ns', isNm x = true) ∧ (∀ x ∈ as', isPr (ns.length : Int) x = true) ∧ (∀ x ∈ bs', isPr (ns.length : Int) x = true) ∧ as'.Pairwise (· ≠ ·) ∧ bs'.Pairwise (· ≠ ·) ∧ (∀ x ∈ as', x ∉ bs') ∧ as'.length ≤ 28 ∧ bs'.length ≤ 28) ?_ fun fl hfl => ?_
  · have base : ∀ o8 o9 o10, ∃ ns' as' bs' p4 p8 p9 p10, (Fl.nx [some .pot, some (.dat (.int most)), some (.dat (P3 ns as bs)), some (.dat (.tuple cs)), some (.own ns), some (.own as), some (.own bs), some (.dat (.int kd)), o8, o9, o10]) = .nx [some .pot, some (.dat (.int most)), some (.dat (P3 ns as bs)), some (.dat (.tuple cs)), some p4, some (.own as'), some (.own bs'), some (.dat (.int kd)), p8, p9, p10] ∧ (p4 = .own ns' ∨ p4 = .dat (.list ns')) ∧ ns'.length = ns.length ∧ (∀ x ∈ ns', isNm x = true) ∧ (∀ x ∈ as', isPr (ns.length : Int) x = true) ∧ (∀ x ∈ bs', isPr (ns.length : Int) x = true) ∧ as'.Pairwise (· ≠ ·) ∧ bs'.Pairwise (· ≠ ·) ∧ (∀ x ∈ as', x ∉ bs') ∧ as'.length ≤ 28 ∧ bs'.length ≤ 28 :=
      fun o8 o9 o10 => ⟨ns, as, bs, _, o8, o9, o10, rfl, .inl rfl, rfl, hP.nm, hP.pa, hP.pb, ne_of_sub l9 hP.sa, ne_of_sub l9 hP.sb, hP.dj, la, lb⟩
    cases h1 : decide ((kd : Int) < 2) with
    | true =>
      simp_arith only [n0, small_of, M.bind_assoc']
      refine Pst.use (p_dpot (by omega)) fun w hw => ?_
      obtain ⟨at', hat, rfl⟩ := hw
      simp_arith only [n0, small_of, M.bind_assoc']
      refine Pst.use (p_pick (by simp) (by simp)) fun w hw => ?_
      obtain ⟨x, hx, rfl⟩ := hw
      have xn : isNm x = true := by
        simp only [List.mem_cons, List.not_mem_nil, or_false] at hx
        rcases hx with rfl | rfl | rfl | rfl | rfl | rfl | rfl <;> first | rfl | (simp only [isNm, Bool.and_eq_true, decide_eq_true_eq]; omega)
      have xl : noL x = true := by cases x <;> first | rfl | (cases xn; done)
      have ix : L2.ixN ns.length (at' : Int) = some at' := ixN_nat (by omega)
      simp_arith only [n0, xl, ix, Option.map_some, small_of, M.bind_assoc']
      refine Pst.ret ⟨ns.set at' x, as, bs, _, _, _, _, rfl, .inl rfl, List.length_set .., fun y hy => ?_, hP.pa, hP.pb, ne_of_sub l9 hP.sa, ne_of_sub l9 hP.sb, hP.dj, la, lb⟩
      rcases List.mem_or_eq_of_mem_set hy with hy | rfl
      · exact hP.nm y hy
      · exact xn
    | false =>
      simp_arith only [n0, small_of, M.bind_assoc']
      cases h2 : decide ((kd : Int) = 2) with
      | false =>
        simp_arith only [DL.okb]
        exact Pst.ret (base _ _ _)
      | true =>
        simp_arith only [n0, r_law_all_pairs _ l9, small_of, M.bind_assoc']
        refine Pst.mono (loopP (P := fun fl => ∃ as' bs' o9 o10, fl = .nx [some .pot, some (.dat (.int most)), some (.dat (P3 ns as bs)), some (.dat (.tuple cs)), some (.dat (.list ns)), some (.own as'), some (.own bs'), some (.dat (.int kd)), none, o9, o10] ∧ (∀ x ∈ as', isPr (ns.length : Int) x = true) ∧ (∀ x ∈ bs', isPr (ns.length : Int) x = true) ∧ as'.Pairwise (· ≠ ·) ∧ bs'.Pairwise (· ≠ ·) ∧ (∀ x ∈ as', x ∉ bs') ∧ as'.length ≤ 28 ∧ bs'.length ≤ 28)
          (fun ds ρ => ∃ pre as' bs' o9 o10, pairsOf ns.length = pre ++ ds ∧ ρ = [some .pot, some (.dat (.int most)), some (.dat (P3 ns as bs)), some (.dat (.tuple cs)), some (.dat (.list ns)), some (.own as'), some (.own bs'), some (.dat (.int kd)), none, o9, o10] ∧ (∀ x ∈ as', isPr (ns.length : Int) x = true) ∧ (∀ x ∈ bs', isPr (ns.length : Int) x = true) ∧ as'.Pairwise (· ≠ ·) ∧ bs'.Pairwise (· ≠ ·) ∧ ∀ x ∈ as', x ∉ bs') ⟨[], as, bs, none, none, rfl, rfl, hP.pa, hP.pb, ne_of_sub l9 hP.sa, ne_of_sub l9 hP.sb, hP.dj⟩ (fun ρ hI => ?_) fun d ds ρ hI => ?_) fun fl hfl => ?_
        · obtain ⟨pre, as', bs', o9, o10, _, rfl, h3, h4, h5, h6, h7⟩ := hI
          refine ⟨as', bs', o9, o10, rfl, h3, h4, h5, h6, h7, ?_, ?_⟩
          · have := (srt_subl l9 h3 h5).length_le
            rw [srt_len] at this
            have := pairsOf_len ns.length l9
            omega
          · have := (srt_subl l9 h4 h6).length_le
            rw [srt_len] at this
            have := pairsOf_len ns.length l9
            omega
        · obtain ⟨pre, as', bs', o9, o10, h0, rfl, h3, h4, h5, h6, h7⟩ := hI
          have h0' : pairsOf ns.length = (pre ++ [d]) ++ ds := by rw [h0]; simp
          have hd : isPr (ns.length : Int) d = true := pairsOf_pr (by rw [h0']; simp)
          have hdn : noL d = true := by obtain ⟨i, j, rfl, _⟩ := isPr_iff.mp hd; rfl
          have na' := noLs_pairs (m := (ns.length : Int)) h3
          have nb' := noLs_pairs (m := (ns.length : Int)) h4
          have va : vIn d (.list as') = .ok (isIn d as') := vIn_list (shaped_pair hd) (canLay_pairs (List.all_eq_true.mpr h3))
          have vb : vIn d (.list bs') = .ok (isIn d bs') := vIn_list (shaped_pair hd) (canLay_pairs (List.all_eq_true.mpr h4))
          have vc : vIn d (.tuple cs) = .ok (isIn d cs) := vIn_tuple (shaped_pair hd) (canLay_pairs (List.all_eq_true.mpr hL.pc))
          have lA : as'.length ≤ 28 := by
            have := (srt_subl l9 h3 h5).length_le
            rw [srt_len] at this
            have := pairsOf_len ns.length l9
            omega
          have lB : bs'.length ≤ 28 := by
            have := (srt_subl l9 h4 h6).length_le
            rw [srt_len] at this
            have := pairsOf_len ns.length l9
            omega
          refine ⟨_, rfl, ?_⟩
          simp_arith only [na', nb', va, vb, vc, small_of, M.bind_assoc']
          cases hin : isIn d as' with
          | true =>
            simp_arith only [DL.okb]
            exact Pst.ret ⟨pre ++ [d], as', bs', _, _, h0', rfl, h3, h4, h5, h6, h7⟩
          | false =>
          simp_arith only [na', nb', va, vb, vc, small_of, M.bind_assoc']
          cases hin2 : isIn d bs' with
          | true =>
            simp_arith only [DL.okb]
            exact Pst.ret ⟨pre ++ [d], as', bs', _, _, h0', rfl, h3, h4, h5, h6, h7⟩
          | false =>
          have da : d ∉ as' := fun z => by rw [(isIn_mem hd h3).mpr z] at hin; cases hin
          have db : d ∉ bs' := fun z => by rw [(isIn_mem hd h4).mpr z] at hin2; cases hin2
          simp_arith only [na', nb', va, vb, vc, small_of, M.bind_assoc']
          refine Pst.use (p_dpot (by decide)) fun w hw => ?_
          obtain ⟨k2, _, rfl⟩ := hw
          simp_arith only [na', nb', va, vb, vc, small_of, M.bind_assoc']
          cases hk2 : decide ((k2 : Int) = 0) with
          | false =>
            simp_arith only [DL.okb]
            exact Pst.ret ⟨pre ++ [d], as', bs', _, _, h0', rfl, h3, h4, h5, h6, h7⟩
          | true =>
          have one : ∀ {xs : List D}, xs.Pairwise (· ≠ ·) → d ∉ xs → (xs ++ [d]).Pairwise (· ≠ ·) := fun {xs} h hn => app_ne h (List.pairwise_singleton ..) fun x hx z => hn (by rw [List.mem_singleton.mp z] at hx; exact hx)
          have al : ∀ {xs : List D}, (∀ x ∈ xs, isPr (ns.length : Int) x = true) → ∀ x ∈ xs ++ [d], isPr (ns.length : Int) x = true := fun h x hx => by
            rcases List.mem_append.mp hx with hx | hx
            · exact h x hx
            · rw [List.mem_singleton.mp hx]; exact hd
          simp_arith only [na', nb', va, vb, vc, small_of, M.bind_assoc']
          cases hin3 : isIn d cs with
          | true =>
            simp_arith only [na', nb', hdn, small_of, M.bind_assoc']
            refine Pst.ret ⟨pre ++ [d], as', bs' ++ [d], _, _, h0', rfl, h3, al h4, h5, one h6 db, fun x hx z => ?_⟩
            rcases List.mem_append.mp z with z | z
            · exact h7 x hx z
            · rw [List.mem_singleton.mp z] at hx; exact da hx
          | false =>
            simp_arith only [na', nb', hdn, small_of, M.bind_assoc']
            refine Pst.ret ⟨pre ++ [d], as' ++ [d], bs', _, _, h0', rfl, al h3, h4, one h5 da, h6, fun x hx z => ?_⟩
            rcases List.mem_append.mp hx with hx | hx
            · exact h7 x hx z
            · rw [List.mem_singleton.mp hx] at z; exact db z
        · obtain ⟨as', bs', o9, o10, rfl, h⟩ := hfl
          exact ⟨ns, as', bs', _, _, _, _, rfl, .inr rfl, rfl, hP.nm, h⟩
  · obtain ⟨ns', as', bs', o4, o8, o9, o10, rfl, h0, h1, h2, h3, h4, h5, h6, h7, h8, h9⟩ := hfl
    have nmn : ∀ x ∈ ns', isNI x = true := fun x hx => by
      have := h2 x hx
      cases x <;> first | rfl | (cases this; done)
    have n0 := noLs_ni nmn
    have na := noLs_pairs h3
    have nb := noLs_pairs h4
    have s1 := vSorted_k (canSort_pairs h3) (by omega)
    have s2 := vSorted_k (canSort_pairs h4) (by omega)
    have hP' : Pty ns' (srt as') (srt bs') := by
      refine ⟨by omega, by omega, h2, ?_, ?_, fun x hx hx2 => h7 x (srt_mem.mp hx) (srt_mem.mp hx2)⟩
      · rw [h1]; exact srt_subl l9 h3 h5
      · rw [h1]; exact srt_subl l9 h4 h6
    rcases h0 with rfl | rfl <;> simp_arith only [s1, s2, vTuple_k, n0, na, nb, small_of, M.bind_assoc'] <;> exact Pst.ret ⟨ns', srt as', srt bs', rfl, by omega, hP'⟩
end Lw

local macro_rules | `(tactic| simp_arith only [$a,*]) => `(tactic| simp (maxSteps := 3000000) (disch := (first | (simp only [List.length_append, List.length_take, List.length_drop, List.length_reverse, List.length_map, List.length_cons, List.length_nil]; first | done | omega) | omega)) only [$a,*, DL.sel_true, DL.sel_false, DL.sel_self, DL.okb, DL.excb, DL.badb, DL.pickb, DL.okp, DL.pickp, DL.ddat, DL.down, DL.sdat, DL.sown, DL.sraw, DL.spot, DL.gdat, DL.gown, DL.graw, DL.gpot, DL.asBb, DL.asIi, DL.kBok, DL.noxok, DL.datas0, DL.frz1_own, DL.frz1_dat, DL.frz1_raw, DL.frz1_pot, DL.frz1_none, DL.frz1_nil, DL.frz1_succ, DL.frz_nil, DL.frz_cons, DL.rdv_dat, DL.rdv_raw, DL.rdv_pot, DL.rdv_succ, DL.rtnV_zero, DL.rtnV_succ, DL.ownAt_zero, DL.ownAt_succ, DL.startE_eq, DL.seq_e, DL.seqK_nx, DL.seqK_ret, DL.seqK_brk, DL.seqK_cont, DL.asg_e, DL.asgK_e, DL.rtn_e, DL.rtnK_e, DL.rtnN_e, DL.exs_e, DL.exsK_e, DL.ifs_e, DL.ifsK_true, DL.ifsK_false, DL.skip_e, DL.brkS_e, DL.contS_e, DL.badS_e, DL.body_e, DL.fin_ret, DL.fin_nx, DL.app1_e, DL.app1K_e, DL.app_e, DL.appO_e, DL.appW_e, DL.appD_e, DL.asg2_e, DL.asg2K_e, DL.asg2L_e, DL.unp_e, DL.unpW_e, DL.unpD_e, DL.goOn_some, DL.goOn_none, DL.bT_e, DL.setL_cons, DL.setL_nil, DL.bN_e, DL.sto1_e, DL.sto_e, DL.stoW_e, DL.stoD_e, DL.sto2_e, DL.sto2K_e, DL.sto2W_e, DL.sto2I_e, DL.sto1K_e, DL.atK_e, DL.ali_e, DL.aliK_true, DL.aliK_false, DL.ali1_e, DL.ali1B_e, DL.ali1O_e, DL.ali1W_e, DL.ali1D_e, DL.forS_e, DL.forK_e, DL.loopB_some, DL.loopK_nx, DL.loopK_cont, DL.loopK_brk, DL.loopK_ret, DL.bin2_e, DL.binK_e, DL.binL_e, DL.un1_e, DL.unK_e, DL.tst_e, DL.tand_e, DL.tandK_true, DL.tandK_false, DL.tor_e, DL.torK_true, DL.torK_false, DL.tnot_e, DL.notK_e, DL.vand_e, DL.vandK_e, DL.vandL_true, DL.vandL_false, DL.vor_e, DL.vorK_e, DL.vorL_true, DL.vorL_false, DL.vnot_e, DL.vnotK_e, DL.vnotL_e, DL.vif_e, DL.vifK_true, DL.vifK_false, DL.anil_e, DL.acons_e, DL.aconsK_e, DL.aconsL_e, DL.call_e, DL.ccall_e, DL.ccallK1, DL.ccallK2, DL.ccallK3, DL.ccallK4, DL.sub_e, DL.subK_e, DL.subH_e, DL.cutK_e, DL.cutL_e, DL.oN_e, DL.oS_e, DL.oSK_e, DL.oI_e, DL.rev_e, DL.revK_e, DL.tup_e, DL.lst_e, DL.mkTup_e, DL.mkLst_e, DL.tupD_e, DL.lstD_e, DL.datas_e, DL.datasK_e, DL.kN_e, DL.kB_e, DL.kI_e, DL.kS_e, DL.kT_e, DL.kD0_e, DL.chainI_e, DL.chA_e, DL.chB_e, DL.chI_e, DL.chJ_e, DL.chG_true, DL.chG_false, DL.chY_e, DL.chC_e, DL.sSeq_e, DL.seqSrc_e, DL.asItems_list, DL.asItems_tuple, DL.sRng1_e, DL.rngW_e, DL.sRng2_e, DL.rngK_e, DL.rngWW_e, DL.rngWI_e, DL.rngJ_e, DL.sZip_e, DL.zipK_e, DL.zipW_e, DL.zipA_e, DL.zipD_list, DL.zipD_tuple, DL.sEnum_e, DL.enumW_e, DL.enumV_e, DL.asList_e, DL.enumL_e, DL.ownR_e, DL.lc_e, DL.tYes_e, List.map_cons, List.map_nil, List.nil_append, List.cons_append, List.length_cons, List.length_nil, List.set_cons_zero, List.set_cons_succ, ite_self, reduceIte, DL.noL_none, DL.noL_bool, DL.noL_int, DL.noL_str, DL.noL_list, DL.noL_tuple, DL.noLs_nil, DL.noLs_cons, Bool.true_and, Bool.false_and, Bool.and_true, Bool.and_self, Bool.false_eq_true, Bool.not_true, Bool.not_false, List.replicate_succ, List.replicate_zero, DL.opEq_e, DL.flip_e, DL.opNe_e, DL.opIn_e, DL.opNotIn_e, DL.opLt_e, DL.opAdd_e, DL.opMul_e, DL.opIx_e, DL.opIsN_e, DL.opNotN_e, DL.opNeg_e, DL.opLe_e, DL.opGt_e, DL.opGe_e, DL.opSub_e, DL.vLt_int, DL.vEq_int, DL.vAdd_int, DL.vAdd_list, DL.vAdd_tuple, DL.vLen_tuple, DL.vLen_list, DL.vInt_int, DL.vTuple_list, DL.vTuple_tuple, DL.vList_list, DL.vList_tuple, DL.vRev_list, DL.vRev_tuple, DL.vCut_list, DL.vCut_tuple, DL.f1_e, DL.f2_e, DL.isNon_none, DL.isNon_int, DL.isi_int, DL.isi_bool, DL.isi_tuple, DL.isi_list, DL.isi_str, DL.isi_dict, DL.astar_e, DL.starU_e, DL.starW_list, DL.starW_tuple, DL.starL_e, DL.starK_e, DL.sEnumT_e, DL.enumW2_e, DL.enumV2_list, DL.enumV2_tuple, DL.rdI_zero, DL.rdI_succ, DL.augI_e, DL.augIK_e, DL.augIW_e, DL.augIB_e, DL.augS_e, DL.augSK_e, DL.augSU_e, DL.augSJ_e, DL.augSA_e, DL.augSW_e, DL.augSB_e, DL.appC_e, DL.appCW_own, DL.appCV_e, DL.lstR_e, DL.lstRw_e, DL.lstRk_e, DL.parS_e, DL.parSK_e, DL.parSW_e, DL.parSD_e, DL.parS2_e, DL.opIsB_e, DL.opNotB_e, DL.seq2_e, DL.skip2_e, DL.ifs2_e, DL.ifs2K_true, DL.ifs2K_false, DL.app2_e, DL.app2O_e, DL.app2W_e, DL.app2D_e, DL.app2L_e, DL.dapp_e, DL.dappU_e, DL.dappJ0, DL.dappJ1, DL.dappW_e, DL.dappD_e, DL.dappL0, DL.dappL1, DL.for2_e, DL.for2K_e, DL.duoS_e, DL.duoU_e, DL.duoD_e, DL.duoW_e, DL.duoE_e, DL.ext_e, DL.extO_e, DL.extW_e, DL.ext1_e, DL.clr_e, DL.clr1_e, DL.unl_e, DL.unlW_e, DL.unlD_e, DL.asg3_e, DL.asg3K_e, DL.asg3L_e, DL.asg3F_e])
namespace DL
open PySem (PyData Addr Str)
theorem isPs_sc {m : Nat} {x : D} (h : isPs m x) (hm : m < 9) : sc x = true := by
  obtain ⟨k, hk, rfl⟩ := h
  unfold sc
  rw [decide_eq_true_eq]
  omega
/-- a bar, loosely: two tuples of persons -/
def GB (m : Nat) (d : D) : Prop := ∃ S T, d = .tuple [.tuple S, .tuple T] ∧ (∀ x ∈ S, isPs m x) ∧ (∀ x ∈ T, isPs m x) ∧ S.length ≤ 8 ∧ T.length ≤ 8 ∧ ∀ p, isPs m p → (isIn p S && isIn p T) = false
def RowOk (m : Nat) (d : D) : Prop := ∃ r ∈ partP m, ∃ t, d = .tuple [tupI r, t] ∧ (isPr (m : Int) t = true ∨ GB m t)
/-- lists of bounded form -/
def FL (n : Nat) (ns : List Nat) (xs : List D) : Prop := xs.length ≤ n ∧ ∀ x ∈ xs, fnB ns x = true
section
variable {n k : Nat} {ns : List Nat} {xs ys : List D} {x : D}
theorem FL.nil : FL n ns [] := ⟨by simp, by simp⟩
theorem FL.cons (hx : fnB ns x = true) (h : FL n ns xs) : FL (n + 1) ns (x :: xs) := ⟨by have := h.1; simp only [List.length_cons]; omega, fun y hy => by
  rcases List.mem_cons.mp hy with rfl | hy
  · exact hx
  · exact h.2 y hy⟩
theorem FL.app (h : FL n ns xs) (h' : FL k ns ys) : FL (n + k) ns (xs ++ ys) := ⟨by have := h.1; have := h'.1; rw [List.length_append]; omega, fun y hy => (List.mem_append.mp hy).elim (h.2 y) (h'.2 y)⟩
theorem FL.cut {lo hi : Option Int} (h : FL n ns xs) : FL n ns (cutD xs lo hi) := by
  have z := cutD_sub (xs := xs) (lo := lo) (hi := hi)
  exact ⟨Nat.le_trans z.1 h.1, fun y hy => h.2 y (z.2 y hy)⟩
theorem FL.rev (h : FL n ns xs) : FL n ns xs.reverse := ⟨by rw [List.length_reverse]; exact h.1, fun y hy => h.2 y (List.mem_reverse.mp hy)⟩
theorem FL.mono (h : FL n ns xs) (hn : n ≤ k) : FL k ns xs := ⟨Nat.le_trans h.1 hn, h.2⟩
theorem FL.tup (h : FL n ns xs) (hn : n ≤ k) : fnB (k :: ns) (.tuple xs) = true := fn_tuple.mpr ⟨Nat.le_trans h.1 hn, h.2⟩
theorem FL.lst (h : FL n ns xs) (hn : n ≤ k) : fnB (k :: ns) (.list xs) = true := fn_list.mpr ⟨Nat.le_trans h.1 hn, h.2⟩
theorem FL.ps {m : Nat} (h : ∀ y ∈ xs, isPs m y) (hm : m < 9) (hl : xs.length ≤ n) : FL n [] xs := ⟨hl, fun y hy => fn_sc (isPs_sc (h y hy) hm)⟩
end
theorem fn_pr {m : Nat} {d : D} {ns : List Nat} (h : isPr (m : Int) d = true) (hm : m < 9) : fnB (10 :: ns) d = true := by
  obtain ⟨i, j, rfl, h1, h2⟩ := pr_of h
  exact FL.tup (n := 2) (.cons (fn_sc (by unfold sc; rw [decide_eq_true_eq]; omega)) (.cons (fn_sc (by unfold sc; rw [decide_eq_true_eq]; omega)) .nil)) (by decide)
theorem GB.fn {m : Nat} {d : D} (h : GB m d) (hm : m < 9) : fnB [10, 10] d = true := by
  obtain ⟨S, T, rfl, h1, h2, h3, h4, _⟩ := h
  exact FL.tup (n := 2) (.cons (FL.tup (.ps h1 hm h3) (by decide)) (.cons (FL.tup (.ps h2 hm h4) (by decide)) .nil)) (by decide)
def allBP (m : Nat) : List (List Int × List Int) := (List.range m).foldl (fun g (p : Nat) => g ++ g.map (fun b => (b.1 ++ [(p : Int)], b.2)) ++ g.map (fun b => (b.1, b.2 ++ [(p : Int)]))) [([], [])]
def barI (b : List Int × List Int) : D := .tuple [tupI b.1, tupI b.2]
def okB (m : Nat) (b : List Int × List Int) : Bool := (b.1.all fun i => decide (0 ≤ i) && decide (i < m)) && (b.2.all fun i => decide (0 ≤ i) && decide (i < m)) && decide (b.1.length ≤ 8) && decide (b.2.length ≤ 8) && (b.1.all fun i => b.2.all fun j => decide (i ≠ j))
theorem allB_ok : ∀ m : Nat, m < 5 → (allBP m).all (okB m) = true := by decide +kernel
theorem isIn_barI {m : Nat} {r : List Int} {p : D} (hp : isPs m p) (hr : ∀ i ∈ r, 0 ≤ i ∧ i < m) (h : isIn p (r.map PyData.int) = true) : ∃ i ∈ r, p = .int i := by
  have q : ∀ x ∈ r.map PyData.int, isPs m x := fun x hx => by
    obtain ⟨i, hi, rfl⟩ := List.mem_map.mp hx
    have := hr i hi
    exact ⟨i.toNat, by omega, by congr 1; omega⟩
  have := (isIn_ni (isPs_ni hp) fun y hy => isPs_ni (q y hy)).mp h
  obtain ⟨i, hi, e⟩ := List.mem_map.mp this
  exact ⟨i, hi, e.symm⟩
theorem allB_gb {m : Nat} (hm : m < 5) {b : List Int × List Int} (hb : b ∈ allBP m) : GB m (barI b) := by
  have h := List.all_eq_true.mp (allB_ok m hm) b hb
  simp only [okB, Bool.and_eq_true, decide_eq_true_eq, List.all_eq_true] at h
  obtain ⟨⟨⟨⟨h1, h2⟩, h3⟩, h4⟩, h5⟩ := h
  refine ⟨b.1.map .int, b.2.map .int, rfl, ?_, ?_, by rw [List.length_map]; exact h3, by rw [List.length_map]; exact h4, fun p hp => ?_⟩
  · intro x hx
    obtain ⟨i, hi, rfl⟩ := List.mem_map.mp hx
    have := h1 i hi
    exact ⟨i.toNat, by omega, by congr 1; omega⟩
  · intro x hx
    obtain ⟨i, hi, rfl⟩ := List.mem_map.mp hx
    have := h2 i hi
    exact ⟨i.toNat, by omega, by congr 1; omega⟩
  · rw [Bool.and_eq_false_iff]
    cases q : isIn p (b.1.map PyData.int) with
    | false => exact .inl rfl
    | true =>
      obtain ⟨i, hi, rfl⟩ := isIn_barI hp h1 q
      cases q2 : isIn (.int i) (b.2.map PyData.int) with
      | false => exact .inr rfl
      | true =>
        obtain ⟨j, hj, e⟩ := isIn_barI hp h2 q2
        cases e
        exact absurd rfl (h5 i hi i hj)
end DL
namespace Lw
open PySem (PyData Addr Str)
open DL
theorem r_all_bars : ∀ m : Nat, 1 ≤ m → m < 5 → g__law_all_bars [.dat (.int (m : Int))] = .ok (.own ((allBP m).map barI))
  | 0, h, _ => absurd h (by omega)
  | 1, _, _ => by kernel_rfl
  | 2, _, _ => by kernel_rfl
  | 3, _, _ => by kernel_rfl
  | 4, _, _ => by kernel_rfl
  | n + 5, _, h => absurd h (by omega)
section
variable {ns as bs : List D} {m : Nat}
theorem r_law_find (h : Pty ns as bs) (h5 : ns.length < 5) : ∃ d, g__law_find [.dat (P3 ns as bs)] = .ok (.dat d) ∧ (d = .none ∨ GB ns.length d) := by
  have e1 := r_all_bars _ h.l1 h5
  have gb : ∀ d ∈ (allBP ns.length).map barI, GB ns.length d := fun d hd => by
    obtain ⟨b, hb, rfl⟩ := List.mem_map.mp hd
    exact allB_gb h5 hb
  generalize (allBP ns.length).map barI = L at e1 gb
  have nl : noLs L = true := by
    rw [noLs_all]
    exact List.all_eq_true.mpr fun d hd => by
      obtain ⟨S, T, rfl, h1, h2, _⟩ := gb d hd
      simp only [noL_tuple, noLs_cons, noLs_nil, noLs_ni fun x hx => isPs_ni (h1 x hx), noLs_ni fun x hx => isPs_ni (h2 x hx)]
      rfl
  simp_arith! [g__law_find, b__law_find, ix0, e1, nl, M.bind_assoc']
  have key : ∀ (L : List D) (ρ : En), (∀ d ∈ L, GB ns.length d) → (∃ o1, ρ = [some (.dat (P3 ns as bs)), o1]) → ∃ d, (d = .none ∨ GB ns.length d) ∧ (loop (bN 1) (ifs [0, 1] (tst (bin2 opLt (ccall 2 g__law_slack (acons (rdv 0) (acons (rdv 1) anil))) (kI 0))) (rtnV 1) skip) L ρ >>= fun a => seqK (rtn [] kN) a >>= fin) = .ok (.dat d) := by
    intro L
    induction L with
    | nil =>
      rintro ρ _ ⟨o1, rfl⟩
      exact ⟨.none, .inl rfl, by simp_arith! [loop_nil]⟩
    | cons d L ih =>
      rintro ρ hL ⟨o1, rfl⟩
      have hd := hL d (List.mem_cons_self ..)
      obtain ⟨S, T, rfl, h1, h2, h3, h4, h6⟩ := hd
      have e2 := r_law_slack h (S := S) (T := T) ⟨h1, h2, by omega, by omega⟩ h6
      simp only [P3] at e2
      rw [loop_cons, bN_e]
      simp_arith! [P3, e2, M.bind_assoc']
      cases hlt : decide (slackD ns.length (lacksD ns as) (freeD ns.length as bs) S T < 0) with
      | true =>
        simp_arith! [M.bind_assoc']
        exact ⟨_, .inr (hL _ (List.mem_cons_self ..)), rfl⟩
      | false =>
        simp_arith! [M.bind_assoc']
        exact ih _ (fun d hd => hL d (List.mem_cons_of_mem _ hd)) ⟨_, rfl⟩
  obtain ⟨d, h1, h2⟩ := key L [some (.dat (P3 ns as bs)), none] gb ⟨_, rfl⟩
  exact ⟨d, h2, h1⟩
end
end Lw

namespace Lw
open PySem (PyData Addr Str)
open DL
section
variable {ns as bs : List D} {m : Nat}
theorem p_some_bar (hm : m < 9) : Pst (g__law_some_bar [.pot, .dat (.int m)]) (fun w => ∃ d, w = .dat d ∧ GB m d) := by
  have dp3 : dPot [.pot, .dat (.int 3)] = .pick 3 fun r => .ok (.dat (.int r)) := dPot_e (by decide) (by decide)
  have rg : rngI (m : Int) = .ok (rng 0 m) := rng_m (by omega)
  simp_arith [g__law_some_bar, b__law_some_bar, g__law_below, rg, M.bind_assoc']
  refine Pst.use (R := fun w => ∃ sd, w = .own sd ∧ sd.length = m ∧ ∀ x ∈ sd, ∃ k : Nat, x = .int (k : Int)) (lcP (fun ds acc => acc.length + ds.length = m ∧ ∀ x ∈ acc, ∃ k : Nat, x = .int (k : Int)) (by rw [rng_len]; omega) ⟨by simp [rng], by simp⟩ (fun acc h => ⟨acc, rfl, by simpa using h.1, h.2⟩) fun d ds acc h => ?_) fun w hw => ?_
  · refine ⟨_, rfl, ?_⟩
    simp_arith [wipeE, dp3]
    refine Pst.ret ?_
    rw [if_pos rfl]
    refine Pst.pick fun k hk => Pst.ret ⟨.int k, rfl, ?_, fun x hx => ?_⟩
    · have := h.1
      simp only [List.length_append, List.length_cons, List.length_nil] at this ⊢
      omega
    · rcases List.mem_append.mp hx with hx | hx
      · exact h.2 x hx
      · exact ⟨k, by simpa using hx⟩
  · obtain ⟨sd, rfl, hl, hs⟩ := hw
    have hno : noLs sd = true := noLs_ni fun x hx => by obtain ⟨k, rfl⟩ := hs x hx; rfl
    have fl : ∀ (z : Int) (ρ : En), (∃ o3 o4, ρ = [some .pot, some (.dat (.int (m : Int))), some (.dat (.list sd)), o3, o4]) → lcK [3] (bN 3) (tst (bin2 opEq (bin2 opIx (rdv 2) (rdv 3)) (kI z))) (rdv 3) ρ (rng 0 m) = .ok (.own ((rng 0 m).filter fun p => decide (toI (atN sd p) = z))) := by
      rintro z ρ ⟨o3, o4, rfl⟩
      rw [lcK_fil (fun p => decide (toI (atN sd p) = z))]
      case hz => rw [rng_len]; omega
      case h =>
        intro p hp
        have hp := rng_isPs hp
        have hp2 : isPs sd.length p := by rw [hl]; exact hp
        obtain ⟨k, hk⟩ := hs _ (atN_mem hp2)
        refine ⟨_, rfl, ?_, rfl⟩
        simp_arith [wipeE, vIx_at hp2, hk, toI]
    have e1 := fl 1 _ ⟨none, none, rfl⟩
    simp_arith [hno, rg, M.bind_assoc']
    simp_arith [e1, vTuple_k, M.bind_assoc']
    have e2 := fun o4 => fl 2 _ ⟨none, o4, rfl⟩
    have nf : ∀ z : Int, noLs ((rng 0 m).filter fun p => decide (toI (atN sd p) = z)) = true := fun z => noLs_ni fun x hx => isPs_ni (rng_isPs (List.mem_filter.mp hx).1)
    simp_arith [nf, hno, rg, M.bind_assoc']
    simp_arith only [e2, nf, vTuple_k, small_of, M.bind_assoc']
    have len : ∀ z : Int, ((rng 0 m).filter fun p => decide (toI (atN sd p) = z)).length ≤ 8 := fun z => by
      have := List.length_filter_le (fun p => decide (toI (atN sd p) = z)) (rng 0 m)
      rw [rng_len] at this
      omega
    refine Pst.ret ⟨_, rfl, _, _, rfl, fun x hx => rng_isPs (List.mem_filter.mp hx).1, fun x hx => rng_isPs (List.mem_filter.mp hx).1, len _, len _, fun p hp => ?_⟩
    rw [Bool.and_eq_false_iff]
    have q : ∀ z : Int, isIn p ((rng 0 m).filter fun p => decide (toI (atN sd p) = z)) = true → toI (atN sd p) = z := fun z h => by
      have := (isIn_ni (isPs_ni hp) fun y hy => isPs_ni (rng_isPs (List.mem_filter.mp hy).1)).mp h
      exact of_decide_eq_true (List.mem_filter.mp this).2
    cases q1 : isIn p ((rng 0 m).filter fun p => decide (toI (atN sd p) = 1)) with
    | false => exact .inl rfl
    | true =>
      cases q2 : isIn p ((rng 0 m).filter fun p => decide (toI (atN sd p) = 2)) with
      | false => exact .inr rfl
      | true =>
        have a1 := q _ q1
        have a2 := q _ q2
        omega
theorem p_bent_bar (hm : 1 ≤ m ∧ m < 9) {bar : D} (h : GB m bar) : Pst (g__law_bent_bar [.pot, .dat bar, .dat (.int m)]) (fun w => ∃ d, w = .dat d ∧ fnB [10, 10] d = true) := by
  have fb := h.fn hm.2
  have hs := @p_some_bar m hm.2
  obtain ⟨S, T, rfl, hS, hT, lS, lT, _⟩ := h
  have fS := FL.ps hS hm.2 lS
  have fT := FL.ps hT hm.2 lT
  have nS := noLs_ni fun x hx => isPs_ni (hS x hx)
  have nT := noLs_ni fun x hx => isPs_ni (hT x hx)
  simp_arith only [g__law_bent_bar, b__law_bent_bar, small_of, M.bind_assoc']
  refine Pst.use (p_pick (by simp) (by simp)) fun w hw => ?_
  obtain ⟨odd, ho, rfl⟩ := hw
  have fo : fnB [] odd = true ∧ noL odd = true := by
    simp only [List.mem_cons, List.not_mem_nil, or_false] at ho
    rcases ho with rfl | rfl | rfl | rfl | rfl | rfl | rfl <;> refine ⟨?_, rfl⟩ <;> first | rfl | decide +kernel | exact fn_sc (by unfold sc; rw [decide_eq_true_eq]; omega)
  clear ho
  have b1 : cutD [PyData.tuple S, PyData.tuple T] none (some 1) = [.tuple S] := rfl
  have z4 := cutD_sub (xs := T) (lo := some 1) (hi := none)
  have z5 := cutD_sub (xs := S) (lo := none) (hi := some (-1))
  have z41 := z4.1
  have z51 := z5.1
  have n4 : noLs (cutD T (some 1) none) = true := noLs_ni fun x hx => isPs_ni (hT x (z4.2 x hx))
  have n5 : noLs (cutD S none (some (-1))) = true := noLs_ni fun x hx => isPs_ni (hS x (z5.2 x hx))
  have i01 : (0 : Int) - 1 = -1 := rfl
  have lp : ∀ xs : List D, (xs ++ [odd]).length = xs.length + 1 := fun xs => by simp
  simp_arith only [b1, ix0, ix1, nS, nT, n4, n5, fo.2, i01, small_of, M.bind_assoc']
  refine Pst.use hs fun w hw => ?_
  obtain ⟨d1, rfl, g1⟩ := hw
  simp_arith only [small_of, M.bind_assoc']
  refine Pst.use hs fun w hw => ?_
  obtain ⟨d2, rfl, g2⟩ := hw
  simp_arith only [small_of, M.bind_assoc']
  refine Pst.use (p_pick (by simp) (by simp)) fun w hw => ?_
  obtain ⟨x, hx, rfl⟩ := hw
  refine Pst.ret ⟨x, rfl, ?_⟩
  have tS : fnB [10] (.tuple S) = true := fS.tup (by decide)
  have tT : fnB [10] (.tuple T) = true := fT.tup (by decide)
  have two : ∀ {a b : D}, fnB [10] a = true → fnB [10] b = true → fnB [10, 10] (.tuple [a, b]) = true := fun ha hb => FL.tup (n := 2) (.cons ha (.cons hb .nil)) (by decide)
  have o1 : FL 1 [] [odd] := .cons fo.1 .nil
  simp only [List.mem_cons, List.mem_append, List.not_mem_nil, or_false, List.cons_append, List.nil_append, List.reverse_cons, List.reverse_nil] at hx
  rcases hx with rfl | rfl | rfl | rfl | rfl | rfl | rfl | rfl | rfl | rfl | rfl | rfl | rfl | rfl | rfl | rfl
  · exact fb
  · exact two tT tS
  · exact FL.lst (n := 2) (.cons tS (.cons tT .nil)) (by decide)
  · exact FL.tup (n := 1) (.cons tS .nil) (by decide)
  · exact FL.tup (n := 3) (.cons tS (.cons tT (.cons (FL.tup (n := 0) .nil (by decide)) .nil))) (by decide)
  · exact two tS (fT.lst (by decide))
  · exact two tS (FL.tup (fT.app o1) (by decide))
  · exact two (FL.tup (fS.app o1) (by decide)) tT
  · exact two tT tT
  · exact two tS (FL.tup fT.cut (by decide))
  · exact two (FL.tup fS.cut (by decide)) tT
  · exact two rfl rfl
  · rfl
  · exact two tS (FL.tup (o1.app fT) (by decide))
  · exact g1.fn hm.2
  · exact g2.fn hm.2
end
end Lw

namespace DL
open PySem (PyData Addr Str)
theorem RowOk.fn {m : Nat} {d : D} (h : RowOk m d) (hm : m < 9) : fnB [10, 10, 10] d = true := by
  obtain ⟨r, hr, t, rfl, ht⟩ := h
  have h1 : fnB [10, 10] (tupI r) = true := by
    have := (part_is hm hr).2.2.1
    rw [tupI]
    exact fn_mono (ns := [10]) rfl (FL.tup (FL.ps (n := 8) (part_ps hm hr) hm (by rw [List.length_map]; omega)) (by decide))
  have h2 : fnB [10, 10] t = true := ht.elim (fun z => fn_pr z hm) fun z => z.fn hm
  exact FL.tup (n := 2) (.cons h1 (.cons h2 .nil)) (by decide)
theorem RowOk.no {m : Nat} {d : D} (h : RowOk m d) (hm : m < 9) : noL d = true := by
  obtain ⟨r, hr, t, rfl, ht⟩ := h
  have h1 : noL (tupI r) = true := noLs_is (part_ps hm hr)
  have h2 : noL t = true := by
    rcases ht with ht | ⟨S, T, rfl, hS, hT, _⟩
    · obtain ⟨i, j, rfl, _⟩ := isPr_iff.mp ht; rfl
    · simp only [noL_tuple, noLs_cons, noLs_nil, noLs_is hS, noLs_is hT]; rfl
  simp only [noL_tuple, noLs_cons, noLs_nil, h1, h2]; rfl
theorem noLs_rows {m : Nat} {xs : List D} (h : ∀ x ∈ xs, RowOk m x) (hm : m < 9) : noLs xs = true := by
  rw [noLs_all]
  exact List.all_eq_true.mpr fun x hx => (h x hx).no hm
theorem part_len7 : ∀ m : Nat, m < 5 → (partP m).length ≤ 7 := by decide +kernel
end DL
namespace Lw
open PySem (PyData Addr Str)
open DL
section
variable {ns as bs : List D} {m : Nat}
theorem p_reasons (h : Pty ns as bs) (h5 : ns.length < 5) : Pst (g__law_reasons [.pot, .dat (P3 ns as bs)]) (fun w => ∃ g, w = .own g ∧ g.length ≤ 7 ∧ ∀ x ∈ g, RowOk ns.length x) := by
  have l9 := h.l9
  have la := h.la
  have hs := @p_some_bar ns.length l9
  have ep := r_law_partings _ h.l1 l9
  obtain ⟨ps, hps⟩ : ∃ ps, ps = srt ((partP ns.length).map tupI) := ⟨_, rfl⟩
  have pl : ps.length ≤ 7 := by rw [hps, srt_len, List.length_map]; exact part_len7 _ h5
  have pm : ∀ x ∈ ps, ∃ r ∈ partP ns.length, x = tupI r := fun x hx => by
    rw [hps] at hx
    obtain ⟨r, hr, rfl⟩ := List.mem_map.mp (srt_mem.mp hx)
    exact ⟨r, hr, rfl⟩
  rw [← hps] at ep
  have np : noLs ps = true := noLs_tp (m := ns.length) fun x hx => by
    obtain ⟨r, hr, rfl⟩ := pm x hx
    exact part_tp l9 hr
  simp_arith only [g__law_reasons, b__law_reasons, ix0, ep, np, small_of, M.bind_assoc']
  refine Pst.use (R := fun fl => ∃ g o3 o4 o5, fl = .nx [some .pot, some (.dat (P3 ns as bs)), some (.own g), o3, o4, o5, none] ∧ g.length ≤ 7 ∧ ∀ x ∈ g, RowOk ns.length x)
    (loopP (fun ds ρ => ∃ g o3 o4 o5, ρ = [some .pot, some (.dat (P3 ns as bs)), some (.own g), o3, o4, o5, none] ∧ g.length + ds.length ≤ 7 ∧ (∀ x ∈ g, RowOk ns.length x) ∧ ∀ x ∈ ds, ∃ r ∈ partP ns.length, x = tupI r)
      ⟨[], none, none, none, rfl, by simpa using pl, by simp, pm⟩ (fun ρ hI => ?_) fun d ds ρ hI => ?_) fun fl hfl => ?_
  · obtain ⟨g, o3, o4, o5, rfl, h1, h2, _⟩ := hI
    exact ⟨g, o3, o4, o5, rfl, by simpa using h1, h2⟩
  · obtain ⟨g, o3, o4, o5, rfl, h1, h2, h3⟩ := hI
    obtain ⟨r, hr, rfl⟩ := h3 _ (List.mem_cons_self ..)
    have gl : g.length + 1 + ds.length ≤ 7 := by simp only [List.length_cons] at h1; omega
    have hps : ∀ x ∈ r.map PyData.int, isPs ns.length x := part_ps l9 hr
    have ntr : noL (tupI r) = true := noLs_ni fun x hx => isPs_ni (hps x hx)
    have e2 := r_law_cut h hr
    have hcut : Pty ns (srt (as ++ [])) (srt (bs ++ (freeD ns.length as bs).filter (crsD (r.map .int)))) := pty_apart h List.filter_sublist
    obtain ⟨bar, e3, hbar⟩ := r_law_find hcut h5
    have fl := List.length_filter_le (crsD (r.map PyData.int)) as
    have pac : ∀ x ∈ as.filter (crsD (r.map .int)), isPr (ns.length : Int) x = true := fun x hx => h.pa x (List.mem_filter.mp hx).1
    have nac := noLs_pairs pac
    have e3' : g__law_find [.dat (cutP ns as bs (r.map .int))] = .ok (.dat bar) := e3
    have lcx2 : ∀ o3 o4 o5 : Option Wv, lcK [6] (bN 6) (tst (ccall 2 g__law_crosses (acons (rdv 6) (acons (rdv 3) anil)))) (rdv 6) [some .pot, some (.dat (P3 ns as bs)), o3, some (.dat (tupI r)), o4, o5, none] as = .ok (.own (as.filter (crsD (r.map .int)))) := by
      intro o3 o4 o5
      rw [lcK_fil (crsD (r.map .int))]
      case hz => omega
      case h =>
        intro d hd
        refine ⟨_, rfl, ?_, rfl⟩
        simp_arith! [wipeE, tupI, r_law_crosses (h.pa d hd) hps]
    have sh : PySem.SeqAt.shaped (.list (as.filter (crsD (r.map .int)))) = true := by
      refine Lay.shaped (n := 3) (Lay.lst fun x hx => ?_) (by decide)
      obtain ⟨i, j, rfl, _⟩ := isPr_iff.mp (pac x hx)
      exact Lay.tup fun y hy => Lay.ni (by simp only [List.mem_cons, List.not_mem_nil, or_false] at hy; rcases hy with rfl | rfl <;> rfl)
    refine ⟨_, rfl, ?_⟩
    simp only [P3] at lcx2 e2 ⊢
    simp_arith only [ix1, nac, vEq_nil sh, e2, e3', lcx2, small_of, M.bind_assoc']
    have nbar : noL bar = true := by
      rcases hbar with rfl | ⟨S, T, rfl, hS, hT, _⟩
      · rfl
      · simp only [noL_tuple, noLs_cons, noLs_nil, noLs_ni fun x hx => isPs_ni (hS x hx), noLs_ni fun x hx => isPs_ni (hT x hx)]; rfl
    -- behind the choice
    have fin2 : ∀ {t : D} {x4 x5 : Option Wv}, (isPr (ns.length : Int) t = true ∨ GB ns.length t) → ∃ g' o3 o4 o5, [some Wv.pot, some (.dat (P3 ns as bs)), some (.own (g ++ [.tuple [tupI r, t]])), some (.dat (tupI r)), x4, x5, none] = [some .pot, some (.dat (P3 ns as bs)), some (.own g'), o3, o4, o5, none] ∧ g'.length + ds.length ≤ 7 ∧ (∀ x ∈ g', RowOk ns.length x) ∧ ∀ x ∈ ds, ∃ r ∈ partP ns.length, x = tupI r :=
      fun {t x4 x5} ht => ⟨_, _, _, _, rfl, by rw [List.length_append]; exact gl, fun x hx => by
        rcases List.mem_append.mp hx with hx | hx
        · exact h2 x hx
        · rw [List.mem_singleton.mp hx]; exact ⟨r, hr, t, rfl, ht⟩, fun x hx => h3 x (List.mem_cons_of_mem _ hx)⟩
    have nt : ∀ {t : D}, noL t = true → noL (.tuple [tupI r, t]) = true := fun ht => by simp only [noL_tuple, noLs_cons, noLs_nil, ntr, ht]; rfl
    have nbr : ∀ {t : D}, (isPr (ns.length : Int) t = true ∨ GB ns.length t) → noL t = true := fun ht => by
      rcases ht with ht | ⟨S, T, rfl, hS, hT, _⟩
      · obtain ⟨i, j, rfl, _⟩ := isPr_iff.mp ht; rfl
      · simp only [noL_tuple, noLs_cons, noLs_nil, noLs_ni fun x hx => isPs_ni (hS x hx), noLs_ni fun x hx => isPs_ni (hT x hx)]; rfl
    cases hemp : (as.filter (crsD (r.map .int))).isEmpty with
    | true =>
      rcases hbar with rfl | hbar
      · simp_arith only [ix0, small_of, M.bind_assoc']
        refine Pst.use hs fun w hw => ?_
        obtain ⟨d1, rfl, g1⟩ := hw
        have n1 := nbr (.inr g1)
        simp_arith only [nt n1, n1, ntr, small_of, M.bind_assoc']
        exact Pst.ret (fin2 (.inr g1))
      · obtain ⟨S, T, rfl, _⟩ := id hbar
        simp_arith only [isNon, nt nbar, nbar, ntr, small_of, M.bind_assoc']
        exact Pst.ret (fin2 (.inr hbar))
    | false =>
      have pk : Pst (g__law_pick [.pot, .dat (.list (as.filter (crsD (r.map .int))))]) (fun w => ∃ x ∈ as.filter (crsD (r.map .int)), w = .dat x) := p_pick (by cases hq : as.filter (crsD (r.map PyData.int)) with | nil => rw [hq] at hemp; cases hemp | cons _ _ => simp) (by omega)
      have yes : ∀ {x5 : Option Wv}, frz [0, 3, 4] [some .pot, some (.dat (P3 ns as bs)), some (.own g), some (.dat (tupI r)), some (.own (as.filter (crsD (r.map .int)))), x5, none] = [some .pot, some (.dat (P3 ns as bs)), some (.own g), some (.dat (tupI r)), some (.dat (.list (as.filter (crsD (r.map .int))))), x5, none] := by
        intro x5
        simp_arith! [DL.okb]
      rcases hbar with rfl | hbar
      · simp_arith only [ix0, small_of, M.bind_assoc']
        refine Pst.use pk fun w hw => ?_
        obtain ⟨x, hx, rfl⟩ := hw
        have n1 := nbr (.inl (pac x hx))
        simp_arith only [nt n1, n1, ntr, small_of, M.bind_assoc']
        exact Pst.ret (fin2 (.inl (pac x hx)))
      · obtain ⟨S, T, rfl, _⟩ := id hbar
        simp_arith only [isNon, g__law_below, small_of, M.bind_assoc']
        refine Pst.use (p_dpot (by decide)) fun w hw => ?_
        obtain ⟨k, _, rfl⟩ := hw
        simp_arith only [small_of, M.bind_assoc']
        cases decide ((0 : Int) < k) with
        | true =>
          simp_arith only [small_of, M.bind_assoc']
          refine Pst.use pk fun w hw => ?_
          obtain ⟨x, hx, rfl⟩ := hw
          have n1 := nbr (.inl (pac x hx))
          simp_arith only [nt n1, n1, ntr, small_of, M.bind_assoc']
          exact Pst.ret (fin2 (.inl (pac x hx)))
        | false =>
          simp_arith only [isNon, nt nbar, nbar, ntr, small_of, M.bind_assoc']
          exact Pst.ret (fin2 (.inr hbar))
  · obtain ⟨g, o3, o4, o5, rfl, h1, h2⟩ := hfl
    simp_arith! [DL.okb]
    exact Pst.ret ⟨g, rfl, h1, h2⟩
end
end Lw

namespace Lw
open PySem (PyData Addr Str)
open DL
section
variable {ns as bs : List D} {m : Nat}
theorem fn4 {d : D} (h : fnB [10, 10] d = true) : fnB [10, 10] d = true := h
theorem p_bent_row (h : Pty ns as bs) {row : D} (hrow : RowOk ns.length row) : Pst (g__law_bent_row [.pot, .dat (P3 ns as bs), .dat row]) (fun w => ∃ d, w = .dat d ∧ fnB [10, 10, 10] d = true) := by
  have l9 := h.l9
  have l1 := h.l1
  have pl := pairsOf_len ns.length l9
  have fr := hrow.fn l9
  have nr := hrow.no l9
  obtain ⟨r, hr, t, rfl, ht⟩ := hrow
  obtain ⟨hris, ⟨r', hr0⟩, hrl, _⟩ := part_is l9 hr
  have hps := part_ps l9 hr
  have ntr : noLs (r.map PyData.int) = true := noLs_is hps
  have fR : FL 8 [] (r.map PyData.int) := .ps hps l9 (by rw [List.length_map]; omega)
  have f3R : FL 8 [10] (r.map PyData.int) := ⟨fR.1, fun x hx => fn_mono rfl (fR.2 x hx)⟩
  have ft : fnB [10, 10] t = true := ht.elim (fun z => fn_pr z l9) fun z => z.fn l9
  have gbar : ∀ T, (∀ x ∈ T, isPs ns.length x) → T.length ≤ 8 → GB ns.length (.tuple [.tuple [], .tuple T]) := fun T h1 h2 => ⟨[], T, rfl, by simp, h1, by simp, h2, fun p hp => rfl⟩
  have hf := List.length_filter_le (fun d => decide ((0 : Int) < toI d)) (r.map PyData.int)
  rw [List.length_map] at hf
  have lcx : ∀ o6 o7 : Option Wv, ∀ dr : D, ∀ k : Nat, lcK [8] (bN 8) (tst (bin2 opGt (rdv 8) (kI 0))) (rdv 8) [some .pot, some (.dat (P3 ns as bs)), some (.dat dr), some (.dat (.int (ns.length : Int))), some (.dat (.int (k : Int))), some (.dat (tupI r)), o6, o7, none, none] (r.map PyData.int) = .ok (.own ((r.map PyData.int).filter fun d => decide ((0 : Int) < toI d))) := by
    intro o6 o7 dr k
    rw [lcK_fil (fun d => decide ((0 : Int) < toI d))]
    case hz => rw [List.length_map]; omega
    case h =>
      intro d hd
      obtain ⟨i, hi, rfl⟩ := List.mem_map.mp hd
      refine ⟨_, rfl, ?_, rfl⟩
      simp_arith! [wipeE, toI]
      rfl
  have hb := fun bar hbar => @p_bent_bar ns.length ⟨l1, l9⟩ bar hbar
  -- the bar
  simp only [P3, tupI] at lcx
  have hbar : ∃ bar, GB ns.length bar ∧ noL bar = true ∧ ∀ (pr : D) (kd : Nat), (vif (tst (DL.call (opIsi "int") (acons (bin2 opIx (bin2 opIx (rdv 2) (kI 1)) (kI 0)) (acons (kT "int") anil)))) (tup (acons (tup anil) (acons (DL.call (DL.f1 vTuple) (acons (lc [8] (sSeq (rdv 5)) (bN 8) (tst (bin2 opGt (rdv 8) (kI 0))) (rdv 8)) anil)) anil))) (bin2 opIx (rdv 2) (kI 1)))
      [some .pot, some (.dat (.tuple [.tuple ns, .tuple as, .tuple bs])), some (.dat (.tuple [.tuple (r.map .int), t])), some (.dat (.int (ns.length : Int))), some (.dat (.int (kd : Int))), some (.dat (.tuple (r.map .int))), some (.dat pr), none, none, none] = .ok (.dat bar) := by
    rcases ht with ht | ht
    · obtain ⟨i, j, rfl, _⟩ := isPr_iff.mp ht
      refine ⟨_, gbar _ (fun x hx => hps x (List.mem_filter.mp hx).1) (Nat.le_trans hf (by omega)), ?_, fun pr kd => ?_⟩
      rotate_left
      · simp_arith only [ix0, ix1, isI, lcx, vTuple_k, small_of, M.bind_assoc']
      · simp only [noL_tuple, noLs_cons, noLs_nil, noLs_is fun x hx => hps x (List.mem_filter.mp hx).1]; rfl
    · obtain ⟨S, T, rfl, hS, hT, _⟩ := id ht
      refine ⟨_, ht, by simp only [noL_tuple, noLs_cons, noLs_nil, noLs_is hS, noLs_is hT]; rfl, fun pr kd => ?_⟩
      simp_arith only [ix0, ix1, isI, small_of, M.bind_assoc']
  obtain ⟨bar, g1, n1, e1⟩ := hbar
  unfold g__law_bent_row b__law_bent_row
  generalize vif (tst (DL.call (opIsi "int") (acons (bin2 opIx (bin2 opIx (rdv 2) (kI 1)) (kI 0)) (acons (kT "int") anil)))) (tup (acons (tup anil) (acons (DL.call (DL.f1 vTuple) (acons (lc [8] (sSeq (rdv 5)) (bN 8) (tst (bin2 opGt (rdv 8) (kI 0))) (rdv 8)) anil)) anil))) (bin2 opIx (rdv 2) (kI 1)) = F at e1 ⊢
  simp_arith only [g__law_below, ix0, small_of, M.bind_assoc']
  refine Pst.use (p_dpot (by decide)) fun w hw => ?_
  obtain ⟨kd, hkd, rfl⟩ := hw
  simp_arith only [ix0, ix1, r_law_all_pairs _ l9, nr, ntr, tupI, small_of, M.bind_assoc']
  refine Pst.use (p_pick (by simp) (by simp; omega)) fun w hw => ?_
  obtain ⟨pr, hpr, rfl⟩ := hw
  have fpr : fnB [10, 10] pr = true ∧ noL pr = true := by
    rcases List.mem_append.mp hpr with z | z
    · have hp := pairsOf_pr z
      exact ⟨fn_pr hp l9, by obtain ⟨i, j, rfl, _⟩ := isPr_iff.mp hp; rfl⟩
    · simp only [List.mem_cons, List.not_mem_nil, or_false] at z
      rcases z with rfl | rfl | rfl | rfl <;> refine ⟨FL.tup (n := 2) (.cons (fn_sc ?_) (.cons (fn_sc ?_) .nil)) (by decide), rfl⟩ <;> first | rfl | (unfold sc; rw [decide_eq_true_eq]; omega)
  simp_arith only [e1, fpr.2, n1, small_of, M.bind_assoc']
  have tR : fnB [10, 10] (.tuple (r.map PyData.int)) = true := f3R.tup (by decide)
  have two : ∀ {a b : D}, fnB [10, 10] a = true → fnB [10, 10] b = true → fnB [10, 10, 10] (.tuple [a, b]) = true := fun ha hb => FL.tup (n := 2) (.cons ha (.cons hb .nil)) (by decide)
  cases h1 : decide ((kd : Int) < 2) with
  | true =>
    simp_arith only [small_of, M.bind_assoc']
    exact Pst.ret ⟨_, rfl, two tR fpr.1⟩
  | false =>
  simp_arith only [small_of, M.bind_assoc']
  cases h2 : decide ((kd : Int) < 5) with
  | true =>
    simp_arith only [small_of, M.bind_assoc']
    refine Pst.use (hb _ g1) fun w hw => ?_
    obtain ⟨d, rfl, hd⟩ := hw
    simp_arith only [small_of, M.bind_assoc']
    exact Pst.ret ⟨_, rfl, two tR hd⟩
  | false =>
  have z4 := cutD_sub (xs := r.map PyData.int) (lo := some 1) (hi := none)
  have z41 := z4.1
  rw [List.length_map] at z41
  have n4 : noLs (cutD (r.map PyData.int) (some 1) none) = true := noLs_is fun x hx => hps x (z4.2 x hx)
  have tl : ∃ ts, (t = .tuple ts) ∧ ts.length = 2 ∧ FL 2 [10] ts := by
    rcases ht with ht | ⟨S, T, rfl, hS, hT, lS, lT, _⟩
    · obtain ⟨i, j, rfl, i1, i2⟩ := pr_of ht
      exact ⟨_, rfl, rfl, .cons (fn_sc (by unfold sc; rw [decide_eq_true_eq]; omega)) (.cons (fn_sc (by unfold sc; rw [decide_eq_true_eq]; omega)) .nil)⟩
    · exact ⟨_, rfl, rfl, .cons (FL.tup (.ps hS l9 lS) (by decide)) (.cons (FL.tup (.ps hT l9 lT) (by decide)) .nil)⟩
  obtain ⟨ts, rfl, tl2, fts⟩ := tl
  simp_arith only [ix0, ix1, n4, small_of, M.bind_assoc']
  have fm : ∀ {k : Nat} {xs : List D}, FL k [] xs → FL k [10] xs := fun h => ⟨h.1, fun x hx => fn_mono rfl (h.2 x hx)⟩
  have s0 : FL 1 [10] [PyData.int 0] := .cons rfl .nil
  have sn : FL 1 [10] [PyData.int (ns.length : Int)] := .cons (fn_sc (by unfold sc; rw [decide_eq_true_eq]; omega)) .nil
  have sf : FL 1 [10] [PyData.bool false] := .cons rfl .nil
  generalize hq : noLs (cutD (r.map PyData.int) (some 1) none) = q at n4
  refine Pst.use (p_pick (by simp) (by simp)) fun w hw => ?_
  obtain ⟨x, hx, rfl⟩ := hw
  refine Pst.ret ⟨x, rfl, ?_⟩
  simp only [List.mem_cons, List.mem_append, List.not_mem_nil, or_false, List.cons_append, List.nil_append, List.reverse_cons, List.reverse_nil] at hx
  rcases hx with rfl | rfl | rfl | rfl | rfl | rfl | rfl | rfl | rfl | rfl
  · exact FL.lst (n := 2) (.cons tR (.cons ft .nil)) (by decide)
  · exact two (f3R.lst (by decide)) ft
  · exact two (f3R.cut.tup (by decide)) ft
  · exact two (FL.tup (f3R.app sn) (by decide)) ft
  · exact FL.tup (n := 3) (.cons tR (.cons ft (.cons rfl .nil))) (by decide)
  · exact fn_mono (ns := [10, 10]) rfl tR
  · exact two (FL.tup (sf.app f3R.cut) (by decide)) ft
  · exact two tR (fts.lst (by decide))
  · exact two ft tR
  · rfl
end
end Lw

namespace DL
open PySem (PyData Addr Str)
theorem part_miss : ∀ m : Nat, m < 9 → (partP m).all (fun r => (List.range m).any fun j => !r.contains (j : Int)) = true := by decide +kernel
theorem filter_lt {p q : D → Bool} : ∀ {xs : List D} {e : D}, e ∈ xs → q e = true → p e = false → ((xs.filter p).filter q).length < (xs.filter q).length
  | x :: xs, e, h, hq, hp => by
    have le : ((xs.filter p).filter q).length ≤ (xs.filter q).length := ((List.filter_sublist (p := p) (l := xs)).filter q).length_le
    rcases List.mem_cons.mp h with rfl | h
    · simp only [List.filter_cons, hp, hq, if_true, List.length_cons, Bool.false_eq_true, if_false]
      omega
    · have ih := filter_lt h hq hp
      cases h1 : p x <;> cases h2 : q x <;> simp only [List.filter_cons, h1, h2, if_true, List.length_cons, Bool.false_eq_true, if_false] <;> omega
end DL
namespace Lw
open PySem (PyData Addr Str)
open DL
section
variable {ns as bs : List D} {m : Nat}
theorem p_bent (h : Pty ns as bs) {g : List D} (hg : ∀ x ∈ g, RowOk ns.length x) (hl : g.length ≤ 8) : Pst (g__law_bent [.pot, .dat (P3 ns as bs), .dat (.list g)]) (fun w => ∃ d, w.give = .dat d ∧ fnB [20, 10, 10, 10] d = true) := by
  have l9 := h.l9
  have hb := fun row hrow => @p_bent_row ns as bs h row hrow
  have fg : FL 8 [10, 10, 10] g := ⟨hl, fun x hx => fn_mono rfl ((hg x hx).fn l9)⟩
  have ng := noLs_rows hg l9
  have sh : PySem.SeqAt.shaped (.list g) = true := by
    refine Lay.shaped (n := 5) (Lay.lst fun x hx => ?_) (by decide)
    obtain ⟨r, hr, t, rfl, ht⟩ := hg x hx
    have a1 : Lay 3 (tupI r) := Lay.mono (n := 2) (Lay.tup fun y hy => Lay.ni (isPs_ni (part_ps l9 hr y hy))) (by decide)
    have a2 : Lay 3 t := by
      rcases ht with ht | ⟨S, T, rfl, hS, hT, _⟩
      · obtain ⟨i, j, rfl, _⟩ := isPr_iff.mp ht
        exact Lay.mono (n := 2) (Lay.tup fun y hy => Lay.ni (by simp only [List.mem_cons, List.not_mem_nil, or_false] at hy; rcases hy with rfl | rfl <;> rfl)) (by decide)
      · refine Lay.mono (n := 3) (Lay.tup fun y hy => ?_) (by decide)
        simp only [List.mem_cons, List.not_mem_nil, or_false] at hy
        rcases hy with rfl | rfl
        · exact Lay.tup fun y hy => Lay.ni (isPs_ni (hS y hy))
        · exact Lay.tup fun y hy => Lay.ni (isPs_ni (hT y hy))
    refine Lay.tup (n := 3) fun y hy => ?_
    simp only [List.mem_cons, List.not_mem_nil, or_false] at hy
    rcases hy with rfl | rfl
    · exact a1
    · exact a2
  have i01 : (0 : Int) - 1 = -1 := rfl
  have extra : FL 1 [10, 10, 10] [.tuple [.tuple [.int 0], .tuple [.tuple [], .tuple []]]] := .cons (by decide) .nil
  simp_arith only [g__law_bent, b__law_bent, g__law_below, small_of, M.bind_assoc']
  refine Pst.use (p_dpot (by decide)) fun w hw => ?_
  obtain ⟨kd, hkd, rfl⟩ := hw
  simp_arith only [vEq_nil sh, ng, small_of, M.bind_assoc']
  have first : Pst (g__law_pick [.pot, .dat (.list [.list g, .tuple g, .list (g ++ [.tuple [.tuple [.int 0], .tuple [.tuple [], .tuple []]]]), .list (cutD g none (some (-1))), .list g.reverse, .none, .dict [], .tuple []])]) (fun w => ∃ d, w.give = .dat d ∧ fnB [20, 10, 10, 10] d = true) := by
    refine Pst.mono (p_pick (by simp) (by simp)) fun w hw => ?_
    obtain ⟨x, hx, rfl⟩ := hw
    refine ⟨x, rfl, ?_⟩
    simp only [List.mem_cons, List.not_mem_nil, or_false] at hx
    rcases hx with rfl | rfl | rfl | rfl | rfl | rfl | rfl | rfl
    · exact fg.lst (by decide)
    · exact fg.tup (by decide)
    · exact (fg.app extra).lst (by decide)
    · exact fg.cut.lst (by decide)
    · exact fg.rev.lst (by decide)
    · rfl
    · rfl
    · rfl
  have z5 := cutD_sub (xs := g) (lo := none) (hi := some (-1))
  have z51 := z5.1
  cases he : g.isEmpty with
  | true =>
    simp_arith only [i01, small_of, M.bind_assoc']
    exact Pst.use first fun w hw => by
      first | exact Pst.ret hw | (simp_arith! [DL.okb]; exact Pst.ret hw)
  | false =>
  simp_arith only [i01, small_of, M.bind_assoc']
  cases h0 : decide ((kd : Int) = 0) with
  | true =>
    simp_arith only [i01, small_of, M.bind_assoc']
    exact Pst.use first fun w hw => by
      first | exact Pst.ret hw | (simp_arith! [DL.okb]; exact Pst.ret hw)
  | false =>
  have gp : 0 < g.length := by cases g with | nil => cases he | cons _ _ => simp
  simp_arith only [i01, small_of, M.bind_assoc']
  refine Pst.use (p_dpot (by omega)) fun w hw => ?_
  obtain ⟨at', hat, rfl⟩ := hw
  have z1 := cutD_sub (xs := g) (lo := none) (hi := some (at' : Int))
  have z2 := cutD_sub (xs := g) (lo := some ((at' : Int) + 1)) (hi := none)
  have z3 := cutD_sub (xs := g) (lo := some (at' : Int)) (hi := none)
  have z11 := z1.1
  have z21 := z2.1
  have z31 := z3.1
  cases h5 : decide ((kd : Int) < 5) with
  | true =>
    have ix : vIx (.list g) (.int (at' : Int)) = .ok (.dat (g[at']'(by omega))) := vIx_list (by rw [atI_nat', List.getElem?_eq_getElem (by omega)])
    simp_arith only [ix, small_of, M.bind_assoc']
    refine Pst.use (hb _ (hg _ (List.getElem_mem (by omega)))) fun w hw => ?_
    obtain ⟨d, rfl, hd⟩ := hw
    simp_arith only [small_of, M.bind_assoc']
    refine Pst.ret ⟨_, rfl, ?_⟩
    exact ((fg.cut.app (FL.cons (n := 0) hd .nil)).app fg.cut).lst (by decide)
  | false =>
    simp_arith only [small_of, M.bind_assoc']
    refine Pst.use (p_pick (by simp) (by simp)) fun w hw => ?_
    obtain ⟨x, hx, rfl⟩ := hw
    refine Pst.ret ⟨x, rfl, ?_⟩
    simp only [List.mem_cons, List.not_mem_nil, or_false] at hx
    rcases hx with rfl | rfl | rfl | rfl | rfl
    · exact fg.lst (by decide)
    · exact (fg.cut.app fg.cut).lst (by decide)
    · exact (fg.cut.app fg.cut).lst (by decide)
    · exact (fg.app fg.cut).lst (by decide)
    · exact fg.lst (by decide)

/-- persons who all met one another: what each parting lacks -/
theorem wide_lt (hm : m < 9) (h2 : 2 ≤ m) {r : List Int} (hr : r ∈ partP m) : outD (freeD m (srt ([] ++ [])) (srt ([] ++ (freeD m [] []).filter (crsD (r.map .int))))) [] (.int 0) < m - 1 := by
  have hps := part_ps hm hr
  obtain ⟨_, ⟨r', hr0⟩, _, _⟩ := part_is hm hr
  have hmiss := List.all_eq_true.mp (part_miss m hm) r hr
  rw [List.any_eq_true] at hmiss
  obtain ⟨j, hj, hjr⟩ := hmiss
  have hj := List.mem_range.mp hj
  have hjr : (j : Int) ∉ r := by simpa using hjr
  have j0 : j ≠ 0 := by
    rintro rfl
    rw [hr0] at hjr
    simp at hjr
  have he : isPr (m : Int) (.tuple [.int 0, .int (j : Int)]) = true := isPr_iff.mpr ⟨0, j, rfl, by omega, by omega, by omega⟩
  have hem := pr_mem he
  have n0 : isIn (.int 0) (r.map PyData.int) = true := (isIn_ps ⟨0, by omega, rfl⟩ hps).mpr (by rw [hr0]; simp)
  have nj : isIn (.int (j : Int)) (r.map PyData.int) = false := by
    cases q : isIn (.int (j : Int)) (r.map PyData.int) with
    | false => rfl
    | true =>
      have := (isIn_ps ⟨j, hj, rfl⟩ hps).mp q
      obtain ⟨i, hi, e⟩ := List.mem_map.mp this
      cases e
      exact absurd hi hjr
  have hc : crsD (r.map .int) (.tuple [.int 0, .int (j : Int)]) = true := by
    show (!(isIn (.int 0) (r.map PyData.int) == isIn (.int (j : Int)) (r.map PyData.int))) = true
    rw [n0, nj]; rfl
  have hfr : (.tuple [.int 0, .int (j : Int)] : D) ∈ freeD m [] [] := List.mem_filter.mpr ⟨hem, rfl⟩
  have hX : ∀ x ∈ srt ([] ++ (freeD m [] []).filter (crsD (r.map .int))), isPr (m : Int) x = true := fun x hx => by
    have := srt_mem.mp hx
    rw [List.nil_append] at this
    exact freeD_pr (List.mem_filter.mp this).1
  have hin : isIn (.tuple [.int 0, .int (j : Int)]) (srt ([] ++ (freeD m [] []).filter (crsD (r.map .int)))) = true := (isIn_mem he hX).mpr (srt_mem.mpr (by rw [List.nil_append]; exact List.mem_filter.mpr ⟨hfr, hc⟩))
  have deg := deg_all m hm 0 (by omega)
  have e : outD (freeD m (srt ([] ++ [])) (srt ([] ++ (freeD m [] []).filter (crsD (r.map .int))))) [] (.int 0) = degD (freeD m (srt ([] ++ [])) (srt ([] ++ (freeD m [] []).filter (crsD (r.map .int))))) (.int 0) := by
    unfold outD degD
    congr 1
    apply List.filter_congr
    intro x _
    show (isIn (.int 0) (itm x) && (!false && !false)) = _
    cases isIn (.int 0) (itm x) <;> rfl
  rw [e, ← deg]
  unfold degD freeD
  refine filter_lt hem ?_ ?_
  · rfl
  · show (!isIn _ _ && !isIn _ _) = false
    unfold freeD at hin
    rw [hin]
    simp
theorem wide_bars (hm : m < 9) (h2 : 2 ≤ m) {r : List Int} (hr : r ∈ partP m) : rsnB (List.replicate m (.int ((m : Int) - 1))) [] [] (r.map .int) (.tuple [.tuple [], .tuple [.int 0]]) = true := by
  have hl : (List.replicate m (PyData.int ((m : Int) - 1))).length = m := List.length_replicate ..
  unfold rsnB
  have h1 : isPr ((List.replicate m (PyData.int ((m : Int) - 1))).length : Int) (.tuple [.tuple [], .tuple [.int 0]]) = false := by
    cases q : isPr ((List.replicate m (PyData.int ((m : Int) - 1))).length : Int) (.tuple [.tuple [], .tuple [.int 0]]) with
    | false => rfl
    | true => obtain ⟨i, j, e, _⟩ := isPr_iff.mp q; cases e
  rw [h1, if_neg Bool.false_ne_true]
  unfold barsB
  have h3 : isBr ((List.replicate m (PyData.int ((m : Int) - 1))).length : Int) (.tuple [.tuple [], .tuple [.int 0]]) = true := by
    rw [hl]
    show (isSd (m : Int) (.tuple []) && (isSd (m : Int) (.tuple [.int 0]) && !false)) = true
    rw [isSd_t, isSd_t]
    have : decide ((0 : Int) < (m : Int)) = true := decide_eq_true (by omega)
    simp [adj, isCnt, toI, this]
    omega
  rw [h3, Bool.true_and, decide_eq_true_eq]
  show slackD (List.replicate m (PyData.int ((m : Int) - 1))).length (lacksD (List.replicate m (PyData.int ((m : Int) - 1))) (srt ([] ++ []))) (freeD (List.replicate m (PyData.int ((m : Int) - 1))).length (srt ([] ++ [])) (srt ([] ++ (freeD (List.replicate m (PyData.int ((m : Int) - 1))).length [] []).filter (crsD (r.map .int))))) [] [.int 0] < 0
  rw [hl]
  have hw := wide_lt hm h2 hr
  have hp0 : isPs (List.replicate m (PyData.int ((m : Int) - 1))).length (.int 0) := ⟨0, by omega, rfl⟩
  have hat : atN (List.replicate m (PyData.int ((m : Int) - 1))) (.int 0) = .int ((m : Int) - 1) := by
    unfold atN
    rw [List.getElem?_replicate, if_pos (show (toI (PyData.int 0)).toNat < m by show 0 < m; omega)]
    rfl
  have hne : needOr (lacksD (List.replicate m (PyData.int ((m : Int) - 1))) (srt ([] ++ []))) (.int 0) = (m : Int) - 1 := by
    unfold needOr
    rw [atN_lacks hp0, hat]
    have : degD (srt ([] ++ [])) (.int 0) = 0 := by
      have : srt (([] : List D) ++ []) = [] := by
        have := srt_len ([] ++ [] : List D)
        exact List.length_eq_zero_iff.mp (by simpa using this)
      rw [this]; rfl
    have this2 : degD (srt []) (.int 0) = 0 := this
    simp [lack, isNon, sel, toI, this2]
  unfold slackD slack2 slack1
  simp only [List.foldl_cons, List.foldl_nil]
  rw [hne]
  omega
theorem p_wide : Pst (g__law_wide [.pot]) (fun w => w = .dat (.bool true)) := by
  have hso := @r_shows_one
  have hlp := @r_law_is_paper
  have hbr := @p_bent_row
  have hpt := @r_law_partings
  unfold g__law_wide b__law_wide
  generalize g_shows_one = f1 at hso ⊢
  generalize g__law_is_paper = f2 at hlp ⊢
  generalize g__law_bent_row = f3 at hbr ⊢
  generalize g__law_partings = f4 at hpt ⊢
  simp_arith [g__law_below, M.bind_assoc']
  refine Pst.use (p_dpot (by decide)) fun w hw => ?_
  obtain ⟨k, hk, rfl⟩ := hw
  obtain ⟨m, hmk⟩ : ∃ m, m = k + 7 := ⟨_, rfl⟩
  have m9 : m < 9 := by omega
  have m7 : 7 ≤ m := by omega
  have em : (7 : Int) + (k : Int) = (m : Int) := by omega
  obtain ⟨ns, hns⟩ : ∃ ns, ns = List.replicate m (PyData.int ((m : Int) - 1)) := ⟨_, rfl⟩
  have hl : ns.length = m := by rw [hns, List.length_replicate]
  have rep : vMul (.tuple [.int ((m : Int) - 1)]) (.int (m : Int)) = .ok (.dat (.tuple ns)) := by
    rw [hns]
    have : m = 7 ∨ m = 8 := by omega
    rcases this with rfl | rfl <;> rfl
  have hP : Pty ns [] [] := by
    refine ⟨by omega, by omega, fun x hx => ?_, List.nil_sublist _, List.nil_sublist _, by simp⟩
    rw [hns] at hx
    rw [(List.mem_replicate.mp hx).2]
    show (decide ((0 : Int) ≤ (m : Int) - 1) && decide ((m : Int) - 1 ≤ 20)) = true
    rw [Bool.and_eq_true]
    exact ⟨decide_eq_true (by omega), decide_eq_true (by omega)⟩
  have nn : noLs ns = true := noLs_ni fun x hx => by
    rw [hns] at hx
    rw [(List.mem_replicate.mp hx).2]; rfl
  have ep := hpt m (by omega) m9
  obtain ⟨ps, hps⟩ : ∃ ps, ps = srt ((partP m).map tupI) := ⟨_, rfl⟩
  have pl : ps.length ≤ 127 := by rw [hps, srt_len, List.length_map]; exact part_len _ m9
  have pp : 0 < ps.length := by
    rw [hps, srt_len, List.length_map]
    have : ∀ m : Nat, m < 9 → 7 ≤ m → 0 < (partP m).length := by decide +kernel
    exact this m m9 m7
  have pm : ∀ x ∈ ps, ∃ r ∈ partP m, x = tupI r := fun x hx => by
    rw [hps] at hx
    obtain ⟨r, hr, rfl⟩ := List.mem_map.mp (srt_mem.mp hx)
    exact ⟨r, hr, rfl⟩
  rw [← hps] at ep
  have np : noLs ps = true := noLs_tp (m := m) fun x hx => by
    obtain ⟨r, hr, rfl⟩ := pm x hx
    exact part_tp m9 hr
  obtain ⟨bar, hbar⟩ : ∃ bar, bar = PyData.tuple [.tuple [], .tuple [.int 0]] := ⟨_, rfl⟩
  have gb : GB m bar := ⟨[], [.int 0], hbar, by simp, fun x hx => ⟨0, by omega, by simpa using hx⟩, by simp, by simp, fun p hp => rfl⟩
  obtain ⟨g, hg⟩ : ∃ g, g = ps.map fun p => PyData.tuple [p, bar] := ⟨_, rfl⟩
  have gl : g.length = ps.length := by rw [hg, List.length_map]
  have gr : ∀ x ∈ g, RowOk m x := fun x hx => by
    rw [hg] at hx
    obtain ⟨p, hp, rfl⟩ := List.mem_map.mp hx
    obtain ⟨r, hr, rfl⟩ := pm p hp
    exact ⟨r, hr, bar, rfl, .inr gb⟩
  have ng := noLs_rows gr m9
  have fg : FL 127 [10, 10, 10] g := ⟨by omega, fun x hx => (gr x hx).fn m9⟩
  have pap : papB ns [] [] ps (.list g) = true := by
    rw [papB_list, decide_eq_true gl, Bool.true_and, hg, List.zipWith_map_right, List.all_eq_true]
    intro z hz
    obtain ⟨p, hp, rfl⟩ : ∃ p ∈ ps, z = pairD p (.tuple [p, bar]) := by
      rw [List.zipWith_self] at hz
      obtain ⟨p, hp, rfl⟩ := List.mem_map.mp hz
      exact ⟨p, hp, rfl⟩
    obtain ⟨r, hr, rfl⟩ := pm p hp
    show rowB ns [] [] (tupI r) (.tuple [tupI r, bar]) = true
    rw [rowB_two, decide_eq_true rfl, Bool.true_and, hbar, hns]
    exact wide_bars m9 (by omega) hr
  have e1 : ∀ {d : D}, fnB [130, 10, 10, 10] d = true → f1 [.dat (P3 ns [] []), .dat d] = .ok (.dat (.bool (papB ns [] [] ps d))) := fun hd => by
    have := hso hP hd
    rw [hl, ← hps] at this
    exact this
  have e2 : ∀ {d : D}, fnB [130, 10, 10, 10] d = true → f2 [.dat (P3 ns [] []), .dat d] = .ok (.dat (.bool (papB ns [] [] ps d))) := fun hd => by
    have := hlp hP hd
    rw [hl, ← hps] at this
    exact this
  have e1g := e1 (fg.lst (by decide))
  rw [pap] at e1g
  simp only [P3] at e1 e2 e1g
  simp_arith only [em, rep, nn, small_of, M.bind_assoc']
  simp_arith only [ep, np, small_of, M.bind_assoc']
  rw [lcK_mp (fun p => .tuple [p, bar])]
  case hz => omega
  case h =>
    intro p hp
    refine ⟨_, rfl, rfl, .dat (.tuple [p, bar]), ?_, rfl⟩
    simp_arith only [wipeE, small_of, hbar]
  rw [← hg]
  simp_arith only [ng, e1g, decide_true, small_of, M.bind_assoc']
  refine Pst.use (p_dpot (by omega)) fun w hw => ?_
  obtain ⟨at', hat, rfl⟩ := hw
  have ix : vIx (.list g) (.int (at' : Int)) = .ok (.dat (g[at']'(by omega))) := vIx_list (by rw [atI_nat', List.getElem?_eq_getElem (by omega)])
  have z1 := cutD_sub (xs := g) (lo := none) (hi := some (at' : Int))
  have z2 := cutD_sub (xs := g) (lo := some ((at' : Int) + 1)) (hi := none)
  have z11 := z1.1
  have z21 := z2.1
  simp_arith only [ix, small_of, M.bind_assoc']
  have row := hbr hP (row := g[at']'(by omega)) (by rw [hl]; exact gr _ (List.getElem_mem (by omega)))
  refine Pst.use row fun w hw => ?_
  obtain ⟨d, rfl, hd⟩ := hw
  simp_arith only [small_of, M.bind_assoc']
  have len : (cutD g none (some (at' : Int)) ++ [d] ++ cutD g (some ((at' : Int) + 1)) none).length ≤ 130 := by
    have : (cutD g none (some (at' : Int))).length ≤ at' := by
      rw [show (some (at' : Int)) = some ((at' : Nat) : Int) from rfl, cutD_to, List.length_take]; omega
    have : (cutD g (some ((at' : Int) + 1)) none).length ≤ g.length - at' := by
      rw [show (some ((at' : Int) + 1)) = some ((at' + 1 : Nat) : Int) from rfl, cutD_from, List.length_drop]; omega
    simp only [List.length_append, List.length_cons, List.length_nil]
    omega
  have ft : fnB [130, 10, 10, 10] (.list (cutD g none (some (at' : Int)) ++ [d] ++ cutD g (some ((at' : Int) + 1)) none)) = true :=
    fn_list.mpr ⟨len, ((fg.cut.app (FL.cons (n := 0) hd .nil)).app fg.cut).2⟩
  have e3 := e1 ft
  have e4 := e2 ft
  have rb : ∀ b : Bool, vRepr (.bool b) = .ok (.dat (.str (PyData.shown (.bool b)))) := fun b => vRepr_fn (ns := []) rfl
  cases q : noLs (cutD g none (some (at' : Int)) ++ [d] ++ cutD g (some ((at' : Int) + 1)) none) <;>
  · simp_arith only [e3, e4, rb, vEq_refl_str, small_of, M.bind_assoc']
    exact Pst.ret rfl
end
theorem law_ok : LawOk b_law 8 := by
  refine ⟨?_⟩
  have h1 := @p_any_party
  have h2 := @p_reasons
  have h3 := @r_shows_one
  have h4 := @r_law_is_paper
  have h5 := @p_bent
  have h6 := p_wide
  unfold b_law
  generalize g__law_any_party = f1 at h1 ⊢
  generalize g__law_reasons = f2 at h2 ⊢
  generalize g_shows_one = f3 at h3 ⊢
  generalize g__law_is_paper = f4 at h4 ⊢
  generalize g__law_bent = f5 at h5 ⊢
  generalize g__law_wide = f6 at h6 ⊢
  refine Pst.run ?_
  simp_arith [lawE, M.bind_assoc']
  refine Pst.use (h1 (most := 4) ⟨by decide, by decide⟩) fun w hw => ?_
  obtain ⟨ns, as, bs, rfl, hn, hP⟩ := hw
  have l9 := hP.l9
  simp only [P3] at h2 h3 h4 h5
  simp_arith [P3, M.bind_assoc']
  refine Pst.use (h2 hP (by omega)) fun w hw => ?_
  obtain ⟨g, rfl, hgl, hg⟩ := hw
  have ng := noLs_rows hg l9
  have fg : FL 7 [10, 10, 10] g := ⟨hgl, fun x hx => (hg x hx).fn l9⟩
  obtain ⟨ps, hps⟩ : ∃ ps, ps = srt ((partP ns.length).map tupI) := ⟨_, rfl⟩
  have e3 : ∀ {d : D}, fnB [130, 10, 10, 10] d = true → f3 [.dat (.tuple [.tuple ns, .tuple as, .tuple bs]), .dat d] = .ok (.dat (.bool (papB ns as bs ps d))) := fun hd => by rw [hps]; exact h3 hP hd
  have e4 : ∀ {d : D}, fnB [130, 10, 10, 10] d = true → f4 [.dat (.tuple [.tuple ns, .tuple as, .tuple bs]), .dat d] = .ok (.dat (.bool (papB ns as bs ps d))) := fun hd => by rw [hps]; exact h4 hP hd
  have rb : ∀ b : Bool, vRepr (.bool b) = .ok (.dat (.str (PyData.shown (.bool b)))) := fun b => vRepr_fn (ns := []) rfl
  have r6 : rngI 6 = .ok (rng 0 6) := rngI_e (by decide)
  have e3g := e3 (fg.lst (k := 130) (by decide))
  have e4g := e4 (fg.lst (k := 130) (by decide))
  simp_arith only [ng, e3g, e4g, rb, vEq_refl_str, r6, small_of, M.bind_assoc']
  refine Pst.use (R := fun fl => ∃ o0 ρ', fl = .nx (o0 :: some .pot :: ρ')) (loopP (fun ds ρ => ∃ o0 o3 o4 o5 o6 o7, (o3 = .own g ∨ o3 = .dat (.list g)) ∧ ρ = [o0, some .pot, some (.dat (.tuple [.tuple ns, .tuple as, .tuple bs])), some o3, o4, o5, o6, o7]) ⟨_, _, _, _, _, _, .inl rfl, rfl⟩ (fun ρ hI => by obtain ⟨o0, o3, o4, o5, o6, o7, _, rfl⟩ := hI; exact ⟨_, _, rfl⟩) fun d ds ρ hI => ?_) fun fl hfl => ?_
  · obtain ⟨o0, o3, o4, o5, o6, o7, ho3, rfl⟩ := hI
    refine ⟨_, rfl, ?_⟩
    rcases ho3 with rfl | rfl
    all_goals
    simp_arith [M.bind_assoc']
    refine Pst.use (h5 hP hg (by omega)) fun w hw => ?_
    obtain ⟨d, hd, fd⟩ := hw
    have e3d := e3 (fn_mono (ms := [130, 10, 10, 10]) rfl fd)
    have e4d := e4 (fn_mono (ms := [130, 10, 10, 10]) rfl fd)
    have rd := vRepr_fn fd
    cases w with
    | dat d' =>
      cases hd
      cases q : noL d <;>
      · simp_arith only [e3d, e4d, rd, rb, q, vEq_refl_str, small_of, M.bind_assoc']
        first | exact Pst.ret ⟨_, _, _, _, _, _, .inl rfl, rfl⟩ | exact Pst.ret ⟨_, _, _, _, _, _, .inr rfl, rfl⟩
    | own xs =>
      cases hd
      cases q : noLs xs <;>
      · simp_arith only [e3d, e4d, rd, rb, q, vEq_refl_str, small_of, M.bind_assoc']
        first | exact Pst.ret ⟨_, _, _, _, _, _, .inl rfl, rfl⟩ | exact Pst.ret ⟨_, _, _, _, _, _, .inr rfl, rfl⟩
    | raw _ => cases hd
    | pot => cases hd
  obtain ⟨o0, ρ', rfl⟩ := hfl
  simp_arith [M.bind_assoc']
  refine Pst.use h6 fun w hw => ?_
  subst hw
  exact Pst.ret rfl
theorem pot_ok : PotOk b__law_deck_of := pot_gen 16 63 (by decide)
end Lw


namespace Lw
section
open PySem PySem.Spec PyProof.Rows L2 DL
abbrev R : PySem.W.OpenRow := PySem.W.OpenLaw.row PySem.Challenge.rw_metnumbers_k32_papers_of_one_piece_judge
abbrev hk : PySem.W.Hook := He.hookD 4 fa fn
def ob (s : PySem.W.SharedT) : He.AlD := He.obsDG 4 fa fn (HandSHeadRun.getT s)
theorem ob_eq (s : PySem.W.SharedT) : ob s = hk.obs s.abs := He.obsDG_eq (HandSHeadRun.getT_eq s)
def loose0 : List Str := ["__name__", "MeetError", "NoParty", "is_integer", "is_count", "is_rising", "MAX_PERSONS", "MAX_NUMBER", "is_pair", "are_pairs", "is_number", "is_party", "need_party", "all_pairs", "free_of", "known_met"]
def loose1 : List Str := ["needs_of", "put_in", "with_facts", "is_side", "is_bar_of", "lots", "is_between", "inner_pairs", "odd_by", "slack_by", "slack_of", "bars_it", "all_partings", "is_parting", "crosses", "cut_by"]
def loose2 : List Str := ["shows_crossed", "shows_one", "_law_mixed", "_law_deck_of", "_law_below", "_law_pick", "_law_all_pairs", "_law_count", "_law_right_party", "_law_any_party", "_law_free", "_law_pieces", "_law_slack", "_law_is_side", "_law_bars", "_law_is_pair"]
def loose3 : List Str := ["_law_told", "_law_partings", "_law_crosses", "_law_cut", "_law_is_reason", "_law_all_bars", "_law_find", "_law_some_bar", "_law_bent_bar", "_law_meets", "_law_is_paper", "_law_reasons", "_law_bent_row", "_law_bent", "_law_wide"]
abbrev loose : List Str := loose0 ++ loose1 ++ loose2 ++ loose3
theorem run (w : World) : HandSHeadRun.RunEq R (PySem.W.view R.prog [69]) hk ob 4000 loose w := by
  intro os
  kernel_rfl
end
end Lw
open PySem PySem.W PySem.Calls PyProof.Rows
theorem PySem.Challenge.cw_metnumbers_k32_papers_of_one_piece_judge_holds : PySem.Challenge.rw_metnumbers_k32_papers_of_one_piece_judge.Holds := by
  w_on; o_law
  refine HandSHeadRun.head_any (r := OpenLaw.row PySem.Challenge.rw_metnumbers_k32_papers_of_one_piece_judge) (q := view (OpenLaw.row PySem.Challenge.rw_metnumbers_k32_papers_of_one_piece_judge).prog [69]) (H := Lw.hk) (ob := Lw.ob) (M := 4000) (loose := Lw.loose) (d := HandSHeadRun.topDef (OpenLaw.row PySem.Challenge.rw_metnumbers_k32_papers_of_one_piece_judge).prog 69) (kwd := []) Lw.ob_eq
    (by kernel_rfl) (fun s => by kernel_rfl) Lw.run (by kernel_rfl) (by kernel_rfl) (by kernel_rfl) (by rfl) (by first | assumption | decide +kernel) (by decide +kernel) ⟨rfl, rfl, rfl, rfl, rfl, by decide +kernel⟩ ?hw ?hc
  case hw => w_witness2
  case hc =>
    exact DL.walk_law (l := PySem.Challenge.rw_metnumbers_k32_papers_of_one_piece_judge) (q := view (OpenLaw.row PySem.Challenge.rw_metnumbers_k32_papers_of_one_piece_judge).prog [69]) (n := 63) (k := 13) (i := 58) (j := 58) (st := Lw.top 69) (fun _ _ y => y) rfl (by decide) (by kernel_rfl) (by kernel_rfl) ⟨rfl, by decide, by decide⟩ (by decide +kernel) rfl rfl
      (fun _ _ _ _ _ _ us hl => match us, hl with | [_], _ => rfl)
      fun w K mg h X G c base sys f fd hf Fx => Lw.law_made (Lw.txt_of X G c) sys Lw.pot_ok Lw.law_ok Fx

