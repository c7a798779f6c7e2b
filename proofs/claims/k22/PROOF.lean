import PyProof.Rows.All
import HandS.ForMost
import HandS.ForExc
import HandS.Gcd
import HandS.Wide
import HandS.IsInst
import HandS.Deep
import HandS.Flow
import HandS.Zip
import HandS.Rev
import HandS.Style
import HandS.Defaults
import HandS.ExcInit
import HandS.ExcField
import HandS.Head3
import HandS.HeadEnd
import HandS.HeadHook4
import KE.GoesZip
import KE.GoesMore
import KE.GoesEnum
import PySem.Challenge.RW_eachlength_k22_products_of_roots
set_option Elab.async false
set_option linter.all false
set_option maxRecDepth 100000
set_option maxHeartbeats 4000000
/-! A layer of data over the hand layer: what a def computes as a function on slots of plain data. -/
namespace Ml
open PySem L2

/-- plain data -/
inductive D where
  | non | bl (b : Bool) | int (i : Int) | str (x : Str) | lst (xs : List D) | scr (xs : List D) | tup (xs : List D) | ins (c : Nat) (ns : List Str) (ds : List D)
/-- an object that a def may still change -/
inductive Ob where
  | lst (xs : List D) | ins (c : Nat) (ns : List Str) (ds : List D)
def Ob.d : Ob → D
  | .lst xs => .lst xs
  | .ins c ns ds => .ins c ns ds
/-- a slot: nothing is known; data that stands; an own object; one that the caller lent; one that a loop walks -/
inductive Sl where
  | no | sh (d : D) | ow (o : Ob) | bo (o : Ob) | lk (b : Bool) (o : Ob)
inductive RV where
  | sh (d : D) | fr (o : Ob)
def RV.d : RV → D
  | .sh d => d
  | .fr o => o.d
inductive Out (α : Type) where
  | ok (a : α) | exc (c : Nat) (ns : List Str) (ds : List D) (sl : List Sl) | bad
inductive Fl where
  | nx | bk | ct | rt (r : RV)
abbrev M := List Sl → Out (RV × List Sl)
abbrev MS := List Sl → Out (Fl × List Sl)

section
variable (K : PySem.W.Frag) (ct : Nat → Addr)
mutual
def At (F : Hp) : D → V → Prop
  | .non, v => v = .non
  | .bl b, v => v = .bl b
  | .int i, v => v = .int i
  | .str x, v => v = .str x
  | .lst ds, v => ∃ a vs, v = .ref a ∧ F a = some (.lst vs) ∧ AtL F ds vs
  | .scr ds, v => ∃ a vs, v = .ref a ∧ SqL K F a vs ∧ AtL F ds vs
  | .tup ds, v => ∃ a vs, v = .ref a ∧ SqT K F a vs ∧ AtL F ds vs
  | .ins c ns ds, v => ∃ a dx vs, v = .ref a ∧ F a = some (.ins (ct c) dx (ns.zip vs)) ∧ AtL F ds vs ∧ ns.length = ds.length
def AtL (F : Hp) : List D → List V → Prop
  | [], vs => vs = []
  | d :: ds, vs => ∃ v r, vs = v :: r ∧ At F d v ∧ AtL F ds r
end
def ObAt (F : Hp) : Ob → HO → Prop
  | .lst ds, h => ∃ vs, h = .lst vs ∧ AtL K ct F ds vs
  | .ins c ns ds, h => ∃ dx vs, h = .ins (ct c) dx (ns.zip vs) ∧ AtL K ct F ds vs ∧ ns.length = ds.length
/-- as data, the object itself read off the heap H, what is in it off F -/
def AtP (F H : Hp) : D → V → Prop
  | .non, v => v = .non
  | .bl b, v => v = .bl b
  | .int i, v => v = .int i
  | .str x, v => v = .str x
  | .lst ds, v => ∃ a vs, v = .ref a ∧ H a = some (.lst vs) ∧ AtL K ct F ds vs
  | .scr ds, v => ∃ a vs, v = .ref a ∧ SqL K H a vs ∧ AtL K ct F ds vs
  | .tup ds, v => ∃ a vs, v = .ref a ∧ SqT K H a vs ∧ AtL K ct F ds vs
  | .ins c ns ds, v => ∃ a dx vs, v = .ref a ∧ H a = some (.ins (ct c) dx (ns.zip vs)) ∧ AtL K ct F ds vs ∧ ns.length = ds.length
end
abbrev Ex (H H' : Hp) : Prop := ∀ a o, H a = some o → H' a = some o
theorem Ex.refl (H : Hp) : Ex H H := fun _ _ h => h
theorem Ex.trans {H H1 H2 : Hp} (a : Ex H H1) (b : Ex H1 H2) : Ex H H2 := fun x o h => b x o (a x o h)
theorem ex_rd {H H' : Hp} {a : Addr} {u : HO} (e : Ex H H') (h : Rd H a u) : Rd H' a u := by
  rcases h with h | ⟨o, h⟩
  · exact Or.inl (e a _ h)
  · exact Or.inr ⟨o, e a _ h⟩
theorem ex_l {K : PySem.W.Frag} {H H' : Hp} {a : Addr} {xs : List V} (e : Ex H H') (h : SqL K H a xs) : SqL K H' a xs := by
  rcases h with h | h
  · exact Or.inl (ex_rd e h)
  · exact Or.inr h
theorem ex_t {K : PySem.W.Frag} {H H' : Hp} {a : Addr} {xs : List V} (e : Ex H H') (h : SqT K H a xs) : SqT K H' a xs := by
  rcases h with h | h
  · exact Or.inl (ex_rd e h)
  · exact Or.inr h
theorem ex_upd {F : Hp} {a : Addr} {o : HO} (h : F a = none) : Ex F (upd F a o) := fun b u e => by
  rw [upd_ne (ne_of_none e h)]
  exact e
theorem ex_none {H H' : Hp} {a : Addr} (e : Ex H H') (h : H' a = none) : H a = none := by
  cases q : H a with
  | none => rfl
  | some o => rw [e a o q] at h; cases h

section
variable {K : PySem.W.Frag} {ct : Nat → Addr}
mutual
theorem At.mono {F F' : Hp} (e : Ex F F') : ∀ {d : D} {v : V}, At K ct F d v → At K ct F' d v
  | .non, v, h => by simpa only [At] using h
  | .bl b, v, h => by simpa only [At] using h
  | .int i, v, h => by simpa only [At] using h
  | .str x, v, h => by simpa only [At] using h
  | .lst ds, v, h => by
    simp only [At] at h ⊢
    obtain ⟨a, vs, h1, h2, h3⟩ := h
    exact ⟨a, vs, h1, e _ _ h2, AtL.mono e h3⟩
  | .scr ds, v, h => by
    simp only [At] at h ⊢
    obtain ⟨a, vs, h1, h2, h3⟩ := h
    exact ⟨a, vs, h1, ex_l e h2, AtL.mono e h3⟩
  | .tup ds, v, h => by
    simp only [At] at h ⊢
    obtain ⟨a, vs, h1, h2, h3⟩ := h
    exact ⟨a, vs, h1, ex_t e h2, AtL.mono e h3⟩
  | .ins c ns ds, v, h => by
    simp only [At] at h ⊢
    obtain ⟨a, dx, vs, h1, h2, h3, h4⟩ := h
    exact ⟨a, dx, vs, h1, e _ _ h2, AtL.mono e h3, h4⟩
theorem AtL.mono {F F' : Hp} (e : Ex F F') : ∀ {ds : List D} {vs : List V}, AtL K ct F ds vs → AtL K ct F' ds vs
  | [], vs, h => by simpa only [AtL] using h
  | d :: ds, vs, h => by
    simp only [AtL] at h ⊢
    obtain ⟨v, r, h1, h2, h3⟩ := h
    exact ⟨v, r, h1, At.mono e h2, AtL.mono e h3⟩
end
theorem ObAt.mono {F F' : Hp} (e : Ex F F') {o : Ob} {h : HO} (x : ObAt K ct F o h) : ObAt K ct F' o h := by
  cases o with
  | lst ds => obtain ⟨vs, h1, h2⟩ := x; exact ⟨vs, h1, h2.mono e⟩
  | ins c ns ds => obtain ⟨dx, vs, h1, h2, h3⟩ := x; exact ⟨dx, vs, h1, h2.mono e, h3⟩
theorem AtL.length {F : Hp} : ∀ {ds : List D} {vs : List V}, AtL K ct F ds vs → vs.length = ds.length
  | [], vs, h => by simp only [AtL] at h; subst h; rfl
  | d :: ds, vs, h => by
    simp only [AtL] at h
    obtain ⟨v, r, h1, h2, h3⟩ := h
    rw [h1, List.length_cons, List.length_cons, AtL.length h3]
theorem AtL.get {F : Hp} : ∀ {ds : List D} {vs : List V} {i : Nat} {d : D}, AtL K ct F ds vs → ds[i]? = some d → ∃ v, vs[i]? = some v ∧ At K ct F d v
  | [], vs, i, d, h, e => by simp at e
  | d0 :: ds, vs, 0, d, h, e => by
    simp only [AtL] at h
    obtain ⟨v, r, h1, h2, h3⟩ := h
    have : d0 = d := by simpa using e
    subst this
    exact ⟨v, by rw [h1]; rfl, h2⟩
  | d0 :: ds, vs, i + 1, d, h, e => by
    simp only [AtL] at h
    obtain ⟨v, r, h1, h2, h3⟩ := h
    obtain ⟨u, hu, q⟩ := AtL.get (i := i) h3 (by simpa using e)
    exact ⟨u, by rw [h1]; simpa using hu, q⟩
theorem AtL.append {F : Hp} : ∀ {ds es : List D} {vs us : List V}, AtL K ct F ds vs → AtL K ct F es us → AtL K ct F (ds ++ es) (vs ++ us)
  | [], es, vs, us, h, h' => by simp only [AtL] at h; subst h; exact h'
  | d :: ds, es, vs, us, h, h' => by
    simp only [AtL] at h
    obtain ⟨v, r, h1, h2, h3⟩ := h
    subst h1
    simp only [List.cons_append, AtL]
    exact ⟨v, r ++ us, rfl, h2, AtL.append h3 h'⟩
theorem AtL.set {F : Hp} : ∀ {ds : List D} {vs : List V} {i : Nat} {d : D} {v : V}, AtL K ct F ds vs → At K ct F d v → AtL K ct F (ds.set i d) (vs.set i v)
  | [], vs, i, d, v, h, e => by simp only [AtL] at h; subst h; simp only [List.set_nil, AtL]
  | d0 :: ds, vs, 0, d, v, h, e => by
    simp only [AtL] at h
    obtain ⟨v0, r, h1, h2, h3⟩ := h
    subst h1
    simp only [List.set_cons_zero, AtL]
    exact ⟨v, r, rfl, e, h3⟩
  | d0 :: ds, vs, i + 1, d, v, h, e => by
    simp only [AtL] at h
    obtain ⟨v0, r, h1, h2, h3⟩ := h
    subst h1
    simp only [List.set_cons_succ, AtL]
    exact ⟨v0, r.set i v, rfl, h2, AtL.set h3 e⟩
theorem AtL.take {F : Hp} : ∀ {ds : List D} {vs : List V} {n : Nat}, AtL K ct F ds vs → AtL K ct F (ds.take n) (vs.take n)
  | [], vs, n, h => by simp only [AtL] at h; subst h; simp only [List.take_nil, AtL]
  | d :: ds, vs, 0, h => by simp only [List.take_zero, AtL]
  | d :: ds, vs, n + 1, h => by
    simp only [AtL] at h
    obtain ⟨v, r, h1, h2, h3⟩ := h
    subst h1
    simp only [List.take_succ_cons, AtL]
    exact ⟨v, r.take n, rfl, h2, AtL.take h3⟩
theorem AtL.drop {F : Hp} : ∀ {ds : List D} {vs : List V} {n : Nat}, AtL K ct F ds vs → AtL K ct F (ds.drop n) (vs.drop n)
  | [], vs, n, h => by simp only [AtL] at h; subst h; simp only [List.drop_nil, AtL]
  | d :: ds, vs, 0, h => by simpa only [List.drop_zero] using h
  | d :: ds, vs, n + 1, h => by
    simp only [AtL] at h
    obtain ⟨v, r, h1, h2, h3⟩ := h
    subst h1
    simp only [List.drop_succ_cons]
    exact AtL.drop h3
theorem At.peek {F H : Hp} (e : Ex F H) {d : D} {v : V} (h : At K ct F d v) : AtP K ct F H d v := by
  cases d with
  | non => simpa only [At, AtP] using h
  | bl b => simpa only [At, AtP] using h
  | int i => simpa only [At, AtP] using h
  | str x => simpa only [At, AtP] using h
  | lst ds =>
    simp only [At] at h
    obtain ⟨a, vs, h1, h2, h3⟩ := h
    exact ⟨a, vs, h1, e _ _ h2, h3⟩
  | scr ds =>
    simp only [At] at h
    obtain ⟨a, vs, h1, h2, h3⟩ := h
    exact ⟨a, vs, h1, ex_l e h2, h3⟩
  | tup ds =>
    simp only [At] at h
    obtain ⟨a, vs, h1, h2, h3⟩ := h
    exact ⟨a, vs, h1, ex_t e h2, h3⟩
  | ins c ns ds =>
    simp only [At] at h
    obtain ⟨a, dx, vs, h1, h2, h3, h4⟩ := h
    exact ⟨a, dx, vs, h1, e _ _ h2, h3, h4⟩
theorem ObAt.peek {F H : Hp} {o : Ob} {h : HO} {a : Addr} (x : ObAt K ct F o h) (e : H a = some h) : AtP K ct F H o.d (.ref a) := by
  cases o with
  | lst ds =>
    obtain ⟨vs, h1, h2⟩ := x
    subst h1
    exact ⟨a, vs, rfl, e, h2⟩
  | ins c ns ds =>
    obtain ⟨dx, vs, h1, h2, h3⟩ := x
    subst h1
    exact ⟨a, dx, vs, rfl, e, h2, h3⟩
theorem ObAt.frozen {F : Hp} {o : Ob} {h : HO} {a : Addr} (x : ObAt K ct F o h) (e : F a = none) : At K ct (upd F a h) o.d (.ref a) := by
  have m := ex_upd (o := h) e
  cases o with
  | lst ds =>
    obtain ⟨vs, h1, h2⟩ := x
    subst h1
    simp only [Ob.d, At]
    exact ⟨a, vs, rfl, upd_same, h2.mono m⟩
  | ins c ns ds =>
    obtain ⟨dx, vs, h1, h2, h3⟩ := x
    subst h1
    simp only [Ob.d, At]
    exact ⟨a, dx, vs, rfl, upd_same, h2.mono m, h3⟩
end

/-! ### the state: slots, what stands for good (F), what is there (H) -/
section
variable (K : PySem.W.Frag) (ct : Nat → Addr) (bo : Nat → Addr) (F H : Hp)
def Rsl (i : Nat) : Sl → Option (Option V) → Prop
  | .no, _ => True
  | .sh d, x => ∃ v, x = some (some v) ∧ At K ct F d v
  | .ow o, x => ∃ a h, x = some (some (.ref a)) ∧ F a = none ∧ H a = some h ∧ ObAt K ct F o h
  | .bo o, x => ∃ h, x = some (some (.ref (bo i))) ∧ F (bo i) = none ∧ H (bo i) = some h ∧ ObAt K ct F o h
  | .lk _ o, x => ∃ h, x = some (some (.ref (bo i))) ∧ F (bo i) = none ∧ H (bo i) = some h ∧ ObAt K ct F o h
end
def Sl.hasB : Sl → Bool
  | .ow _ | .bo _ | .lk _ _ => true
  | _ => false
def Sl.mutB : Sl → Bool
  | .ow _ | .bo _ => true
  | _ => false
/-- slot i holds an object at a that is not frozen -/
def Has (σ : L2.St) (sl : List Sl) (i : Nat) (a : Addr) : Prop := ∃ s : Sl, sl[i]? = some s ∧ s.hasB = true ∧ σ[i]? = some (some (.ref a))
/-- .. that may be changed -/
def Own (σ : L2.St) (sl : List Sl) (a : Addr) : Prop := ∃ (i : Nat) (s : Sl), sl[i]? = some s ∧ s.mutB = true ∧ σ[i]? = some (some (.ref a))
structure Rst (K : PySem.W.Frag) (ct : Nat → Addr) (bo : Nat → Addr) (F H : Hp) (σ : L2.St) (sl : List Sl) : Prop where
  ex : Ex F H
  rel : ∀ i s, sl[i]? = some s → Rsl K ct bo F H i s σ[i]?
  ds : ∀ i j a, Has σ sl i a → Has σ sl j a → i = j
  len : σ.length = sl.length
/-- from (F, H), of which O may be changed, to (F', H'), of which O' may be changed -/
structure Ext (O : Addr → Prop) (F H : Hp) (O' : Addr → Prop) (F' H' : Hp) : Prop where
  fex : Ex F F'
  fr : ∀ b o, H b = some o → O b ∨ H' b = some o
  fresh : ∀ b, F' b ≠ none → F b ≠ none ∨ O b ∨ H b = none
  own : ∀ b, O' b → O b ∨ H b = none
theorem Ext.refl {O : Addr → Prop} {F H : Hp} : Ext O F H O F H := ⟨Ex.refl F, fun _ _ h => .inr h, fun _ h => .inl h, fun _ h => .inl h⟩
theorem Ext.trans {O O1 O2 : Addr → Prop} {F H F1 H1 F2 H2 : Hp} (a : Ext O F H O1 F1 H1) (b : Ext O1 F1 H1 O2 F2 H2) : Ext O F H O2 F2 H2 := by
  have key : ∀ x, O1 x ∨ H1 x = none → O x ∨ H x = none := fun x h => by
    rcases h with h | h
    · exact a.own x h
    · cases q : H x with
      | none => exact .inr rfl
      | some o =>
        rcases a.fr x o q with z | z
        · exact .inl z
        · rw [h] at z; cases z
  refine ⟨a.fex.trans b.fex, fun x o h => ?_, fun x h => ?_, fun x h => key x (b.own x h)⟩
  · rcases a.fr x o h with z | z
    · exact .inl z
    · rcases b.fr x o z with y | y
      · rcases a.own x y with w | w
        · exact .inl w
        · rw [h] at w; cases w
      · exact .inr y
  · rcases b.fresh x h with z | z
    · exact a.fresh x z
    · rcases key x z with w | w
      · exact .inr (.inl w)
      · exact .inr (.inr w)
theorem Ext.less {O O' O2 : Addr → Prop} {F H F' H' : Hp} (a : Ext O F H O' F' H') (h : ∀ b, O2 b → O' b) : Ext O F H O2 F' H' := ⟨a.fex, a.fr, a.fresh, fun b x => a.own b (h b x)⟩
theorem Ext.more {O O' O2 : Addr → Prop} {F H F' H' : Hp} (a : Ext O F H O' F' H') (h : ∀ b, O b → O2 b) : Ext O2 F H O' F' H' :=
  ⟨a.fex, fun b o x => (a.fr b o x).imp (h b) id, fun b x => (a.fresh b x).imp id (fun y => y.imp (h b) id), fun b x => (a.own b x).imp (h b) id⟩
section
variable {K : PySem.W.Frag} {ct : Nat → Addr} {bo : Nat → Addr} {F H : Hp} {σ : L2.St} {sl : List Sl}
theorem Sl.has_of_mut {s : Sl} (h : s.mutB = true) : s.hasB = true := by
  cases s <;> first | rfl | cases h
theorem Own.has {a : Addr} (h : Own σ sl a) : ∃ i, Has σ sl i a := by
  obtain ⟨i, s, h1, h2, h3⟩ := h
  exact ⟨i, s, h1, Sl.has_of_mut h2, h3⟩
/-- an unfrozen object stands in H, not in F -/
theorem Rst.obj (R : Rst K ct bo F H σ sl) {i : Nat} {a : Addr} (x : Has σ sl i a) : F a = none ∧ ∃ h o, H a = some h ∧ ObAt K ct F o h ∧ (sl[i]? = some (.ow o) ∨ sl[i]? = some (.bo o) ∨ ∃ b, sl[i]? = some (.lk b o)) := by
  obtain ⟨s, h1, h2, h3⟩ := x
  have q := R.rel i s h1
  cases s with
  | no => cases h2
  | sh d => cases h2
  | ow o =>
    obtain ⟨a', h, e, f, g, w⟩ := q
    rw [h3] at e
    cases e
    exact ⟨f, h, o, g, w, .inl h1⟩
  | bo o =>
    obtain ⟨h, e, f, g, w⟩ := q
    rw [h3] at e
    have e2 := Option.some.inj (Option.some.inj e)
    cases e2
    exact ⟨f, h, o, g, w, .inr (.inl h1)⟩
  | lk b o =>
    obtain ⟨h, e, f, g, w⟩ := q
    rw [h3] at e
    have e2 := Option.some.inj (Option.some.inj e)
    cases e2
    exact ⟨f, h, o, g, w, .inr (.inr ⟨b, h1⟩)⟩
theorem Rst.out (R : Rst K ct bo F H σ sl) {i : Nat} {a : Addr} (x : Has σ sl i a) : F a = none ∧ H a ≠ none := by
  obtain ⟨f, h, o, g, _⟩ := R.obj x
  exact ⟨f, by rw [g]; exact fun z => by cases z⟩

/-! ### what is wanted behind an expression, a statement -/
/-- the value v of what an expression gave -/
def RvAt (K : PySem.W.Frag) (ct : Nat → Addr) (F H : Hp) (σ : L2.St) (sl : List Sl) : RV → V → Prop
  | .sh d, v => At K ct F d v
  | .fr o, v => ∃ a h, v = .ref a ∧ F a = none ∧ H a = some h ∧ ObAt K ct F o h ∧ ∀ i, ¬ Has σ sl i a
def OwnR : RV → V → Addr → Prop
  | .fr _, v => fun b => v = .ref b
  | _, _ => fun _ => False
end
section
variable (K : PySem.W.Frag) (ct : Nat → Addr) (W : WX) (bo : Nat → Addr)
def GoX (O : Addr → Prop) (F H : Hp) (c : Nat) (ns : List Str) (ds : List D) (sl' : List Sl) (P : L2.St → Prop) : Prop :=
  ∀ d vs σ' F' H', P σ' → Rst K ct bo F' H' σ' sl' → Ext O F H (Own σ' sl') F' H' → AtL K ct F' ds vs → H' d = some (.xd (ns.zip vs)) → W (.ref (ct c)) (some d) σ' H'
def GoE (O : Addr → Prop) (σ : L2.St) (F H : Hp) (r : Out (RV × List Sl)) (Q : VK) : Prop :=
  match r with
  | .ok (rv, sl') => ∀ v F' H', Rst K ct bo F' H' σ sl' → RvAt K ct F' H' σ sl' rv v → Ext O F H (fun b => Own σ sl' b ∨ OwnR rv v b) F' H' → Q v H'
  | .exc c ns ds sl' => GoX K ct W bo O F H c ns ds sl' (fun σ' => σ' = σ)
  | .bad => False
def tM (m : M) : TE := fun σ H Q => ∃ bo F sl, Rst K ct bo F H σ sl ∧ GoE K ct W bo (Own σ sl) σ F H (m sl) Q
def GoS (O : Addr → Prop) (F H : Hp) (r : Out (Fl × List Sl)) (D : Ends) : Prop :=
  match r with
  | .ok (.nx, sl') => ∀ σ' F' H', Rst K ct bo F' H' σ' sl' → Ext O F H (Own σ' sl') F' H' → D.nx σ' H'
  | .ok (.bk, sl') => ∀ σ' F' H', Rst K ct bo F' H' σ' sl' → Ext O F H (Own σ' sl') F' H' → D.bk σ' H'
  | .ok (.ct, sl') => ∀ σ' F' H', Rst K ct bo F' H' σ' sl' → Ext O F H (Own σ' sl') F' H' → D.ct σ' H'
  | .ok (.rt rv, sl') => ∀ v σ' F' H', Rst K ct bo F' H' σ' sl' → RvAt K ct F' H' σ' sl' rv v → Ext O F H (fun b => Own σ' sl' b ∨ OwnR rv v b) F' H' → D.rt v H'
  | .exc c ns ds sl' => GoX K ct W bo O F H c ns ds sl' (fun _ => True)
  | .bad => False
def tS (m : MS) : TS := fun D σ H => ∃ bo F sl, Rst K ct bo F H σ sl ∧ GoS K ct W bo (Own σ sl) F H (m sl) D
end
section
variable {K : PySem.W.Frag} {ct : Nat → Addr} {W : WX} {bo : Nat → Addr} {X : Cx}
theorem pe_imp {e : Expr} {t t' : TE} (h : PE X e t) (i : ∀ σ H Q, t' σ H Q → t σ H Q) : PE X e t' := ⟨fun pins s σ H Q I x => h.run pins s σ H Q I (i σ H Q x)⟩
theorem pt_imp {e : Expr} {t t' : TT} (h : PT X e t) (i : ∀ σ H Q, t' σ H Q → t σ H Q) : PT X e t' := ⟨fun pins s σ H Q I x => h.run pins s σ H Q I (i σ H Q x)⟩
theorem pw_imp {e : Expr} {t t' : TT} (h : PW X e t) (i : ∀ σ H Q, t' σ H Q → t σ H Q) : PW X e t' := ⟨fun w pins s σ H Q I x => h.run w pins s σ H Q I (i σ H Q x)⟩
theorem pa_imp {e : List Expr} {t t' : TA} (h : PA X e t) (i : ∀ σ H Q, t' σ H Q → t σ H Q) : PA X e t' := ⟨fun p pins s σ H Q I x => h.run p pins s σ H Q I (i σ H Q x)⟩
theorem ps_imp {e : Stmt} {t t' : TS} (h : PS X e t) (i : ∀ D σ H, t' D σ H → t D σ H) : PS X e t' := ⟨fun pins s σ H D I x => h.run pins s σ H D I (i D σ H x)⟩
theorem pss_imp {e : List Stmt} {t t' : TS} (h : PSs X e t) (i : ∀ D σ H, t' D σ H → t D σ H) : PSs X e t' := ⟨fun pins s σ H D I x => h.run pins s σ H D I (i D σ H x)⟩
theorem GoX.step {O O1 : Addr → Prop} {F H F1 H1 : Hp} {c : Nat} {ns : List Str} {ds : List D} {sl' : List Sl} {P P' : L2.St → Prop} (g : GoX K ct W bo O F H c ns ds sl' P) (e : Ext O F H O1 F1 H1) (hp : ∀ σ, P' σ → P σ) : GoX K ct W bo O1 F1 H1 c ns ds sl' P' :=
  fun d vs σ' F' H' p R x a h => g d vs σ' F' H' (hp _ p) R (e.trans x) a h
theorem GoE.step {O O1 : Addr → Prop} {σ : L2.St} {F H F1 H1 : Hp} {r : Out (RV × List Sl)} {Q : VK} (g : GoE K ct W bo O σ F H r Q) (e : Ext O F H O1 F1 H1) : GoE K ct W bo O1 σ F1 H1 r Q := by
  cases r with
  | ok p => obtain ⟨rv, sl'⟩ := p; exact fun v F' H' R x y => g v F' H' R x (e.trans y)
  | exc c ns ds sl' => exact GoX.step (P := fun σ' => σ' = σ) g e fun _ z => z
  | bad => exact g
theorem GoS.step {O O1 : Addr → Prop} {F H F1 H1 : Hp} {r : Out (Fl × List Sl)} {D : Ends} (g : GoS K ct W bo O F H r D) (e : Ext O F H O1 F1 H1) : GoS K ct W bo O1 F1 H1 r D := by
  cases r with
  | ok p =>
    obtain ⟨fl, sl'⟩ := p
    cases fl with
    | nx => exact fun σ' F' H' R y => g σ' F' H' R (e.trans y)
    | bk => exact fun σ' F' H' R y => g σ' F' H' R (e.trans y)
    | ct => exact fun σ' F' H' R y => g σ' F' H' R (e.trans y)
    | rt rv => exact fun v σ' F' H' R x y => g v σ' F' H' R x (e.trans y)
  | exc c ns ds sl' => exact GoX.step (P := fun _ => True) g e fun _ z => z
  | bad => exact g
end
end Ml

set_option maxHeartbeats 4000000
/-! Expressions: arguments, operations on data. -/
namespace Ml
open PySem L2 PyProof.Rows

/-- an argument: an expression (frozen), a slot that is only read or lent -/
inductive Ar where
  | e (m : M) | b (j : Nat)
inductive Rf where
  | sh (d : D) | rf (j : Nat)
def evA : Ar → List Sl → Out (Rf × List Sl)
  | .e m, sl => match m sl with
    | .ok (rv, sl') => .ok (.sh rv.d, sl')
    | .exc c ns ds sl' => .exc c ns ds sl'
    | .bad => .bad
  | .b j, sl => match sl[j]? with
    | some (.sh d) => .ok (.sh d, sl)
    | some (.ow _) => .ok (.rf j, sl)
    | some (.bo _) => .ok (.rf j, sl)
    | some (.lk _ _) => .ok (.rf j, sl)
    | _ => .bad
def evAs : List Ar → List Sl → Out (List Rf × List Sl)
  | [], sl => .ok ([], sl)
  | a :: as, sl => match evA a sl with
    | .ok (r, sl1) => match evAs as sl1 with
      | .ok (rs, sl2) => .ok (r :: rs, sl2)
      | .exc c ns ds sl' => .exc c ns ds sl'
      | .bad => .bad
    | .exc c ns ds sl' => .exc c ns ds sl'
    | .bad => .bad
def Rf.get (sl : List Sl) : Rf → Option D
  | .sh d => some d
  | .rf j => match sl[j]? with
    | some (.ow o) => some o.d
    | some (.bo o) => some o.d
    | some (.lk _ o) => some o.d
    | _ => none
def getAll (sl : List Sl) : List Rf → Option (List D)
  | [] => some []
  | r :: rs => match r.get sl with
    | some d => match getAll sl rs with
      | some ds => some (d :: ds)
      | none => none
    | none => none
/-- a result: data that stands; a new list or instance; a new tuple -/
inductive RK where
  | v (d : D) | n (o : Ob) | t (ds : List D)
def RK.rv : RK → RV
  | .v d => .sh d
  | .n o => .fr o
  | .t ds => .sh (.tup ds)
def mOp (f : List D → Option RK) (as : List Ar) : M := fun sl => match evAs as sl with
  | .ok (rs, sl') => match getAll sl' rs with
    | some ds => match f ds with
      | some k => .ok (k.rv, sl')
      | none => .bad
    | none => .bad
  | .exc c ns ds sl' => .exc c ns ds sl'
  | .bad => .bad

section
variable (K : PySem.W.Frag) (ct : Nat → Addr)
def RfAt (F : Hp) (σ : L2.St) : Rf → V → Prop
  | .sh d, v => At K ct F d v
  | .rf j, v => σ[j]? = some (some v)
def RfsAt (F : Hp) (σ : L2.St) : List Rf → List V → Prop
  | [], vs => vs = []
  | r :: rs, vs => ∃ v us, vs = v :: us ∧ RfAt K ct F σ r v ∧ RfsAt F σ rs us
def AtPs (F H : Hp) : List D → List V → Prop
  | [], vs => vs = []
  | d :: ds, vs => ∃ v us, vs = v :: us ∧ AtP K ct F H d v ∧ AtPs F H ds us
def GoA (W : WX) (bo : Nat → Addr) (O : Addr → Prop) (σ : L2.St) (F H : Hp) (r : Out (Rf × List Sl)) (Q : VK) : Prop :=
  match r with
  | .ok (rf, sl') => ∀ v F' H', Rst K ct bo F' H' σ sl' → RfAt K ct F' σ rf v → Ext O F H (Own σ sl') F' H' → Q v H'
  | .exc c ns ds sl' => GoX K ct W bo O F H c ns ds sl' (fun σ' => σ' = σ)
  | .bad => False
def GoL (W : WX) (bo : Nat → Addr) (O : Addr → Prop) (σ : L2.St) (F H : Hp) (r : Out (List Rf × List Sl)) (Q : List V → Hp → Prop) : Prop :=
  match r with
  | .ok (rs, sl') => ∀ vs F' H', Rst K ct bo F' H' σ sl' → RfsAt K ct F' σ rs vs → Ext O F H (Own σ sl') F' H' → Q vs H'
  | .exc c ns ds sl' => GoX K ct W bo O F H c ns ds sl' (fun σ' => σ' = σ)
  | .bad => False
def tAr (W : WX) (a : Ar) : TE := fun σ H Q => ∃ bo F sl, Rst K ct bo F H σ sl ∧ GoA K ct W bo (Own σ sl) σ F H (evA a sl) Q
def tArs (W : WX) : List Ar → TA
  | [] => tNil
  | a :: as => tCons (tAr K ct W a) (tArs W as)
end
section
variable {K : PySem.W.Frag} {ct : Nat → Addr} {W : WX} {bo : Nat → Addr} {F H : Hp} {σ : L2.St} {sl : List Sl}
theorem RfAt.mono {F' : Hp} (e : Ex F F') {r : Rf} {v : V} (h : RfAt K ct F σ r v) : RfAt K ct F' σ r v := by
  cases r with
  | sh d => exact At.mono e h
  | rf j => exact h
theorem Rf.peek (R : Rst K ct bo F H σ sl) {r : Rf} {v : V} {d : D} (h : RfAt K ct F σ r v) (g : r.get sl = some d) : AtP K ct F H d v := by
  cases r with
  | sh d0 =>
    have : d0 = d := Option.some.inj g
    subst this
    exact At.peek R.ex h
  | rf j =>
    have h' : σ[j]? = some (some v) := h
    simp only [Rf.get] at g
    cases e : sl[j]? with
    | none => rw [e] at g; cases g
    | some s =>
      rw [e] at g
      have q := R.rel j s e
      cases s with
      | no => cases g
      | sh d => cases g
      | ow o =>
        obtain ⟨a, hh, e1, _, e3, e4⟩ := q
        rw [h'] at e1
        have e5 := Option.some.inj (Option.some.inj e1)
        subst e5
        cases g
        exact e4.peek e3
      | bo o =>
        obtain ⟨hh, e1, _, e3, e4⟩ := q
        rw [h'] at e1
        have e5 := Option.some.inj (Option.some.inj e1)
        subst e5
        cases g
        exact e4.peek e3
      | lk b o =>
        obtain ⟨hh, e1, _, e3, e4⟩ := q
        rw [h'] at e1
        have e5 := Option.some.inj (Option.some.inj e1)
        subst e5
        cases g
        exact e4.peek e3
theorem Rf.peekAll (R : Rst K ct bo F H σ sl) : ∀ {rs : List Rf} {vs : List V} {ds : List D}, RfsAt K ct F σ rs vs → getAll sl rs = some ds → AtPs K ct F H ds vs
  | [], vs, ds, h, g => by
    have : ([] : List D) = ds := Option.some.inj g
    subst this
    exact h
  | r :: rs, vs, ds, h, g => by
    obtain ⟨v, us, h1, h2, h3⟩ := h
    unfold getAll at g
    cases e : r.get sl with
    | none => rw [e] at g; cases g
    | some d =>
      rw [e] at g
      cases e2 : getAll sl rs with
      | none => rw [e2] at g; cases g
      | some ds' =>
        rw [e2] at g
        cases g
        exact ⟨v, us, h1, Rf.peek R h2 e, Rf.peekAll R h3 e2⟩
/-- freeze what an expression gave -/
theorem Rst.freeze {O : Addr → Prop} {F0 H0 : Hp} {rv : RV} {v : V} (R : Rst K ct bo F H σ sl) (x : RvAt K ct F H σ sl rv v) (E : Ext O F0 H0 (fun b => Own σ sl b ∨ OwnR rv v b) F H) :
    ∃ F', Rst K ct bo F' H σ sl ∧ At K ct F' rv.d v ∧ Ext O F0 H0 (Own σ sl) F' H ∧ Ex F F' := by
  cases rv with
  | sh d => exact ⟨F, R, x, E.less fun _ h => .inl h, Ex.refl F⟩
  | fr o =>
    obtain ⟨a, h, e1, e2, e3, e4, e5⟩ := x
    subst e1
    have fx : Ex F (upd F a h) := ex_upd e2
    refine ⟨upd F a h, ⟨?_, ?_, R.ds, R.len⟩, e4.frozen e2, ⟨E.fex.trans fx, E.fr, ?_, fun b z => E.own b (.inl z)⟩, fx⟩
    · intro b u z
      by_cases q : b = a
      · subst q
        rw [upd_same] at z
        cases z
        exact e3
      · rw [upd_ne q] at z
        exact R.ex b u z
    · intro i s z
      have q := R.rel i s z
      have away : ∀ {b : Addr} {y : Sl}, sl[i]? = some y → y.hasB = true → σ[i]? = some (some (.ref b)) → F b = none → upd F a h b = none := fun {b y} h1 h2 h3 h4 => by
        have ne : b ≠ a := fun w => e5 i ⟨y, h1, h2, by rw [← w]; exact h3⟩
        rw [upd_ne ne]
        exact h4
      cases s with
      | no => trivial
      | sh d => obtain ⟨u, q1, q2⟩ := q; exact ⟨u, q1, q2.mono fx⟩
      | ow o => obtain ⟨b, u, q1, q2, q3, q4⟩ := q; exact ⟨b, u, q1, away z rfl q1 q2, q3, q4.mono fx⟩
      | bo o => obtain ⟨u, q1, q2, q3, q4⟩ := q; exact ⟨u, q1, away z rfl q1 q2, q3, q4.mono fx⟩
      | lk b o => obtain ⟨u, q1, q2, q3, q4⟩ := q; exact ⟨u, q1, away z rfl q1 q2, q3, q4.mono fx⟩
    · intro b z
      by_cases q : b = a
      · subst q
        rcases E.own b (.inr rfl) with w | w
        · exact .inr (.inl w)
        · exact .inr (.inr w)
      · rw [upd_ne q] at z
        exact E.fresh b z
/-- using an expression as data -/
theorem use_d {m : M} {Q : VK} (R : Rst K ct bo F H σ sl)
    (g : match m sl with
      | .ok (rv, sl') => ∀ v F' H', Rst K ct bo F' H' σ sl' → At K ct F' rv.d v → Ext (Own σ sl) F H (Own σ sl') F' H' → Q v H'
      | .exc c ns ds sl' => GoX K ct W bo (Own σ sl) F H c ns ds sl' (fun σ' => σ' = σ)
      | .bad => False) : tM K ct W m σ H Q := by
  refine ⟨bo, F, sl, R, ?_⟩
  cases e : m sl with
  | ok p =>
    obtain ⟨rv, sl'⟩ := p
    rw [e] at g
    intro v F' H' R' x E
    obtain ⟨F2, R2, a2, E2, _⟩ := R'.freeze x E
    exact g v F2 H' R2 a2 E2
  | exc c ns ds sl' => rw [e] at g; exact g
  | bad => rw [e] at g; exact g
theorem Rst.var (R : Rst K ct bo F H σ sl) {j : Nat} {s : Sl} (e : sl[j]? = some s) (h : s ≠ .no) : ∃ v, σ[j]? = some (some v) := by
  have q := R.rel j s e
  cases s with
  | no => exact absurd rfl h
  | sh d => obtain ⟨v, q1, _⟩ := q; exact ⟨v, q1⟩
  | ow o => obtain ⟨a, u, q1, _⟩ := q; exact ⟨_, q1⟩
  | bo o => obtain ⟨u, q1, _⟩ := q; exact ⟨_, q1⟩
  | lk b o => obtain ⟨u, q1, _⟩ := q; exact ⟨_, q1⟩
theorem args_go : ∀ (as : List Ar) {O : Addr → Prop} {F H : Hp} {sl : List Sl} (P : List V → Hp → Prop), Rst K ct bo F H σ sl → GoL K ct W bo (Own σ sl) σ F H (evAs as sl) P → tArs K ct W as σ H P
  | [], O, F, H, sl, P, R, g => g [] F H R rfl Ext.refl
  | a :: as, O, F, H, sl, P, R, g => by
    refine ⟨bo, F, sl, R, ?_⟩
    unfold evAs at g
    cases e : evA a sl with
    | ok p =>
      obtain ⟨r0, sl1⟩ := p
      rw [e] at g
      intro v F1 H1 R1 x1 E1
      refine args_go as (O := O) (F := F1) (sl := sl1) _ R1 ?_
      simp only at g
      cases e2 : evAs as sl1 with
      | ok p2 =>
        obtain ⟨rs, sl2⟩ := p2
        rw [e2] at g
        exact fun vs F2 H2 R2 x2 E2 => g (v :: vs) F2 H2 R2 ⟨v, vs, rfl, x1.mono E2.fex, x2⟩ (E1.trans E2)
      | exc c ns ds sl' => rw [e2] at g; exact GoX.step (P := fun σ' => σ' = σ) g E1 fun _ z => z
      | bad => rw [e2] at g; exact g
    | exc c ns ds sl' => rw [e] at g; exact g
    | bad => rw [e] at g; exact g
end
section
variable {K : PySem.W.Frag} {ct : Nat → Addr} {W : WX} {X : Cx}
theorem ae_e {e : Expr} {m : M} (h : PE X e (tM K ct W m)) : PE X e (tAr K ct W (.e m)) := pe_imp h fun σ H Q x => by
  obtain ⟨bo, F, sl, R, g⟩ := x
  refine use_d R ?_
  cases e : m sl with
  | ok p =>
    obtain ⟨rv, sl'⟩ := p
    simp only [evA, e] at g
    exact fun v F' H' R' a E => g v F' H' R' a E
  | exc c ns ds sl' => simp only [evA, e] at g; exact g
  | bad => simp only [evA, e] at g; exact g
theorem ae_b {j : Nat} {e : Expr} (h : PE X e (tVar j)) : PE X e (tAr K ct W (.b j)) := pe_imp h fun σ H Q x => by
  obtain ⟨bo, F, sl, R, g⟩ := x
  cases e : sl[j]? with
  | none => simp only [evA, e] at g; exact g.elim
  | some s =>
    have q := R.rel j s e
    cases s <;> simp only [evA, e] at g
    case no => exact g.elim
    case sh d => obtain ⟨v, q1, q2⟩ := q; exact ⟨v, q1, g v F H R q2 Ext.refl⟩
    case ow o => obtain ⟨a, u, q1, _⟩ := q; exact ⟨_, q1, g _ F H R q1 Ext.refl⟩
    case bo o => obtain ⟨u, q1, _⟩ := q; exact ⟨_, q1, g _ F H R q1 Ext.refl⟩
    case lk b o => obtain ⟨u, q1, _⟩ := q; exact ⟨_, q1, g _ F H R q1 Ext.refl⟩
end

/-! ### operations -/
section
variable (K : PySem.W.Frag) (ct : Nat → Addr)
def ResOk (F H : Hp) (Q : VK) : RK → Prop
  | .v d => ∀ v, At K ct F d v → Q v H
  | .n o => ∀ p h, H p = none → ObAt K ct F o h → Q (.ref p) (upd H p h)
  | .t ds => ∀ p vs, H p = none → AtL K ct F ds vs → Q (.ref p) (upd H p (.tup vs))
def OpL (r : List V → Hp → VK → Prop) (f : List D → Option RK) : Prop :=
  ∀ (F H : Hp) (vs : List V) (ds : List D) (k : RK) (Q : VK), Ex F H → AtPs K ct F H ds vs → f ds = some k → ResOk K ct F H Q k → r vs H Q
end
section
variable {K : PySem.W.Frag} {ct : Nat → Addr} {W : WX} {bo : Nat → Addr} {F H : Hp} {σ : L2.St} {sl : List Sl}
/-- a new object, not yet frozen -/
theorem Rst.alloc (R : Rst K ct bo F H σ sl) {p : Addr} {h : HO} (np : H p = none) : Rst K ct bo F (upd H p h) σ sl := by
  have hx : Ex H (upd H p h) := ex_upd np
  refine ⟨R.ex.trans hx, fun i s z => ?_, R.ds, R.len⟩
  have q := R.rel i s z
  cases s with
  | no => trivial
  | sh d => exact q
  | ow o => obtain ⟨b, u, q1, q2, q3, q4⟩ := q; exact ⟨b, u, q1, q2, hx _ _ q3, q4⟩
  | bo o => obtain ⟨u, q1, q2, q3, q4⟩ := q; exact ⟨u, q1, q2, hx _ _ q3, q4⟩
  | lk b o => obtain ⟨u, q1, q2, q3, q4⟩ := q; exact ⟨u, q1, q2, hx _ _ q3, q4⟩
theorem Rst.fresh (R : Rst K ct bo F H σ sl) {p : Addr} (np : H p = none) : F p = none ∧ ∀ i, ¬ Has σ sl i p :=
  ⟨ex_none R.ex np, fun i h => (R.out h).2 np⟩
theorem alloc_fr (R : Rst K ct bo F H σ sl) {p : Addr} {h : HO} {o : Ob} (np : H p = none) (x : ObAt K ct F o h) :
    RvAt K ct F (upd H p h) σ sl (.fr o) (.ref p) ∧ Ext (Own σ sl) F H (fun b => Own σ sl b ∨ OwnR (.fr o) (.ref p) b) F (upd H p h) := by
  refine ⟨⟨p, h, rfl, (R.fresh np).1, upd_same, x, (R.fresh np).2⟩, ⟨Ex.refl F, fun b u z => .inr (ex_upd np b u z), fun b z => .inl z, fun b z => ?_⟩⟩
  rcases z with z | z
  · exact .inl z
  · have : p = b := by injection z
    subst this
    exact .inr np
theorem alloc_tup (R : Rst K ct bo F H σ sl) {p : Addr} {ds : List D} {vs : List V} (np : H p = none) (x : AtL K ct F ds vs) :
    Rst K ct bo (upd F p (.tup vs)) (upd H p (.tup vs)) σ sl ∧ At K ct (upd F p (.tup vs)) (.tup ds) (.ref p) ∧ Ext (Own σ sl) F H (Own σ sl) (upd F p (.tup vs)) (upd H p (.tup vs)) := by
  have fp := (R.fresh np).1
  have fx : Ex F (upd F p (.tup vs)) := ex_upd fp
  have hx : Ex H (upd H p (.tup vs)) := ex_upd np
  refine ⟨⟨fun b u z => ?_, fun i s z => ?_, R.ds, R.len⟩, ?_, ⟨fx, fun b u z => .inr (hx b u z), fun b z => ?_, fun b z => .inl z⟩⟩
  · by_cases q : b = p
    · subst q
      rw [upd_same] at z ⊢
      exact z
    · rw [upd_ne q] at z
      exact hx _ _ (R.ex b u z)
  · have q := R.rel i s z
    have away : ∀ {b : Addr} {y : Sl}, sl[i]? = some y → y.hasB = true → σ[i]? = some (some (.ref b)) → F b = none → upd F p (.tup vs) b = none := fun {b y} h1 h2 h3 h4 => by
      have ne : b ≠ p := fun w => (R.fresh np).2 i ⟨y, h1, h2, by rw [← w]; exact h3⟩
      rw [upd_ne ne]
      exact h4
    cases s with
    | no => trivial
    | sh d => obtain ⟨u, q1, q2⟩ := q; exact ⟨u, q1, q2.mono fx⟩
    | ow o => obtain ⟨b, u, q1, q2, q3, q4⟩ := q; exact ⟨b, u, q1, away z rfl q1 q2, hx _ _ q3, q4.mono fx⟩
    | bo o => obtain ⟨u, q1, q2, q3, q4⟩ := q; exact ⟨u, q1, away z rfl q1 q2, hx _ _ q3, q4.mono fx⟩
    | lk b o => obtain ⟨u, q1, q2, q3, q4⟩ := q; exact ⟨u, q1, away z rfl q1 q2, hx _ _ q3, q4.mono fx⟩
  · simp only [At]
    exact ⟨p, vs, rfl, SqT.of upd_same, x.mono fx⟩
  · by_cases q : b = p
    · subst q
      exact .inr (.inr np)
    · rw [upd_ne q] at z
      exact .inl z
theorem res_ok (R : Rst K ct bo F H σ sl) {k : RK} {Q : VK} (g : ∀ v F' H', Rst K ct bo F' H' σ sl → RvAt K ct F' H' σ sl k.rv v → Ext (Own σ sl) F H (fun b => Own σ sl b ∨ OwnR k.rv v b) F' H' → Q v H') : ResOk K ct F H Q k := by
  cases k with
  | v d => exact fun v x => g v F H R x (Ext.refl.less fun b z => by rcases z with z | z; exact z; exact z.elim)
  | n o => exact fun p h np x => g (.ref p) F (upd H p h) (R.alloc np) (alloc_fr R np x).1 (alloc_fr R np x).2
  | t ds => exact fun p vs np x => g (.ref p) _ _ (alloc_tup R np x).1 (alloc_tup R np x).2.1 ((alloc_tup R np x).2.2.less fun b z => by rcases z with z | z; exact z; exact z.elim)
theorem op_core {as : List Ar} {f : List D → Option RK} {r : List V → Hp → VK → Prop} {Q : VK} (hf : OpL K ct r f) (R : Rst K ct bo F H σ sl) (g : GoE K ct W bo (Own σ sl) σ F H (mOp f as sl) Q) : tArs K ct W as σ H (fun vs H1 => r vs H1 Q) := by
  refine args_go as (O := Own σ sl) _ R ?_
  unfold mOp at g
  cases e : evAs as sl with
  | ok p =>
    obtain ⟨rs, sl'⟩ := p
    rw [e] at g
    simp only at g
    intro vs F' H' R' x E
    cases e2 : getAll sl' rs with
    | none => rw [e2] at g; exact g.elim
    | some ds =>
      rw [e2] at g
      simp only at g
      cases e3 : f ds with
      | none => rw [e3] at g; exact g.elim
      | some k =>
        rw [e3] at g
        exact hf F' H' vs ds k Q R'.ex (Rf.peekAll R' x e2) e3 (res_ok R' fun v F2 H2 R2 x2 E2 => g v F2 H2 R2 x2 (E.trans E2))
  | exc c ns ds sl' => rw [e] at g; exact g
  | bad => rw [e] at g; exact g
end
/-- a binary rule as one of lists -/
def l2 (r : R2) : List V → Hp → VK → Prop := fun vs H Q => ∃ x y, vs = [x, y] ∧ r x y H Q
def l1 (r : V → Hp → VK → Prop) : List V → Hp → VK → Prop := fun vs H Q => ∃ x, vs = [x] ∧ r x H Q
section
variable {K : PySem.W.Frag} {ct : Nat → Addr} {W : WX} {X : Cx} {a b e : Expr} {es : List Expr} {ar br : Ar} {as : List Ar} {f : List D → Option RK} {pos : Pos}
theorem go2 {r : R2} {σ : L2.St} {H : Hp} {Q : VK} (hf : OpL K ct (l2 r) f) (x : tM K ct W (mOp f [ar, br]) σ H Q) : tOp r (tAr K ct W ar) (tAr K ct W br) σ H Q := by
  obtain ⟨bo, F, sl, R, g⟩ := x
  have q := op_core hf R g
  refine (show tAr K ct W ar σ H (fun x H1 => tAr K ct W br σ H1 (fun y H2 => r x y H2 Q)) from ?_)
  have q' : tAr K ct W ar σ H (fun x H1 => tAr K ct W br σ H1 (fun y H2 => l2 r [x, y] H2 Q)) := q
  refine tAr_mono q' fun x H1 h1 => tAr_mono h1 fun y H2 h2 => ?_
  obtain ⟨x', y', e1, h⟩ := h2
  cases e1
  exact h
where
  tAr_mono {K : PySem.W.Frag} {ct : Nat → Addr} {W : WX} {a : Ar} {σ : L2.St} {H : Hp} {Q Q' : VK} (h : tAr K ct W a σ H Q) (i : ∀ v H', Q v H' → Q' v H') : tAr K ct W a σ H Q' := by
    obtain ⟨bo, F, sl, R, g⟩ := h
    refine ⟨bo, F, sl, R, ?_⟩
    unfold GoA at g ⊢
    split
    · rename_i rf sl' e
      rw [e] at g
      exact fun v F' H' R' x E => i v H' (g v F' H' R' x E)
    · rename_i c ns ds sl' e
      rw [e] at g
      exact g
    · rename_i e
      rw [e] at g
      exact g
theorem go1 {r : V → Hp → VK → Prop} {σ : L2.St} {H : Hp} {Q : VK} (hf : OpL K ct (l1 r) f) (x : tM K ct W (mOp f [ar]) σ H Q) : tUn r (tAr K ct W ar) σ H Q := by
  obtain ⟨bo, F, sl, R, g⟩ := x
  have q := op_core hf R g
  have q' : tAr K ct W ar σ H (fun x H1 => l1 r [x] H1 Q) := q
  refine go2.tAr_mono q' fun x H1 h1 => ?_
  obtain ⟨x', e1, h⟩ := h1
  cases e1
  exact h
theorem goN {r : List V → Hp → VK → Prop} {σ : L2.St} {H : Hp} {Q : VK} (hf : OpL K ct r f) (x : tM K ct W (mOp f as) σ H Q) : tCB r (tArs K ct W as) σ H Q := by
  obtain ⟨bo, F, sl, R, g⟩ := x
  exact op_core hf R g
theorem as_nil : PA X [] (tArs K ct W []) := pa_nil
theorem as_cons (ha : PE X e (tAr K ct W ar)) (hr : PA X es (tArs K ct W as)) (hs : starEach (e :: es) X.env = (false, eval e X.env) :: starEach es X.env := by rfl) : PA X (e :: es) (tArs K ct W (ar :: as)) := pa_cons ha hr hs
theorem se_bin {op : Operator} {r : R2} (ho : OpR X (binaryOp op) r) (hf : OpL K ct (l2 r) f) (ha : PE X a (tAr K ct W ar)) (hb : PE X b (tAr K ct W br)) : PE X (.BinOp a op b pos) (tM K ct W (mOp f [ar, br])) :=
  pe_imp (pe_op ho ha hb) fun _ _ _ x => go2 hf x
theorem se_cmp {op : CmpOp} {r : R2} (ho : OpR X (compareOp op) r) (hf : OpL K ct (l2 r) f) (ha : PE X a (tAr K ct W ar)) (hb : PE X b (tAr K ct W br)) (hm : behindInMarks op b = false) : PE X (.Compare a [op] [b] pos) (tM K ct W (mOp f [ar, br])) :=
  pe_imp (pe_cmpR ho ha hb hm) fun _ _ _ x => go2 hf x
theorem se_un {op : UnaryOp} {r : V → Hp → VK → Prop} (ho : UnR X (unaryOp op) r) (hf : OpL K ct (l1 r) f) (ha : PE X a (tAr K ct W ar)) : PE X (.UnaryOp op a pos) (tM K ct W (mOp f [ar])) :=
  pe_imp (pe_un ho ha) fun _ _ _ x => go1 hf x
theorem se_ix {r : R2} (ho : IxR X r) (hf : OpL K ct (l2 r) f) (ha : PE X a (tAr K ct W ar)) (hb : PE X b (tAr K ct W br)) (hs : PlainIx b) : PE X (.Subscript a b pos) (tM K ct W (mOp f [ar, br])) :=
  pe_imp (pe_ix ho ha hb hs) fun _ _ _ x => go2 hf x
variable {x : Str} {p : Pos} {r : List V → Hp → VK → Prop}
theorem se_callB {id : String} (hc : CallR X (.builtin id) r) (hf : OpL K ct r f) (hg : Gl X x) (hm : X.mg x = none) (hv : bootBuiltins x = some (.builtin id)) (ha : PA X (e :: es) (tArs K ct W as)) (hn : x ≠ "__name__" := by decide) (hdb : (x == ("__debug__" : Str)) = false := by decide)
    (he : starEach (e :: es) X.env = (false, eval e X.env) :: starEach es X.env := by rfl) (hpl : (backTo pos (starEach es X.env)).any (·.1) = false := by rfl) : PE X (.Call (.Name x p) (e :: es) [] pos) (tM K ct W (mOp f as)) :=
  pe_imp (pe_callB hc hg hm hv ha hn hdb he hpl) fun _ _ _ x => goN hf x
theorem se_callTy {T : String} (hc : CallR X (.type T) r) (hf : OpL K ct r f) (hg : Gl X x) (hm : X.mg x = none) (hv : bootBuiltins x = some (.type T)) (ha : PA X (e :: es) (tArs K ct W as)) (hn : x ≠ "__name__" := by decide) (hdb : (x == ("__debug__" : Str)) = false := by decide)
    (he : starEach (e :: es) X.env = (false, eval e X.env) :: starEach es X.env := by rfl) (hpl : (backTo pos (starEach es X.env)).any (·.1) = false := by rfl) : PE X (.Call (.Name x p) (e :: es) [] pos) (tM K ct W (mOp f as)) :=
  pe_imp (pe_callTy hc hg hm hv ha hn hdb he hpl) fun _ _ _ x => goN hf x
theorem se_callF {id : String} (hc : CallR X (.builtin id) r) (hf : OpL K ct r f) (hg : Gl X x) (hm : X.mg x = some (.builtin id)) (ha : PA X (e :: es) (tArs K ct W as)) (hdb : (x == ("__debug__" : Str)) = false := by decide)
    (he : starEach (e :: es) X.env = (false, eval e X.env) :: starEach es X.env := by rfl) (hpl : (backTo pos (starEach es X.env)).any (·.1) = false := by rfl) : PE X (.Call (.Name x p) (e :: es) [] pos) (tM K ct W (mOp f as)) :=
  pe_imp (pe_callBfun hc hg hm ha hdb he hpl) fun _ _ _ x => goN hf x
end
end Ml

set_option maxHeartbeats 4000000
/-! The operations on data, each with its rule. -/
namespace Ml
open PySem L2 PyProof.Rows
section
variable {K : PySem.W.Frag} {ct : Nat → Addr} {F H : Hp}
theorem ap1 {d : D} {vs : List V} (h : AtPs K ct F H [d] vs) : ∃ v, vs = [v] ∧ AtP K ct F H d v := by
  obtain ⟨v, us, h1, h2, h3⟩ := h
  have h3' : us = [] := h3
  subst h3'
  exact ⟨v, h1, h2⟩
theorem ap2 {d e : D} {vs : List V} (h : AtPs K ct F H [d, e] vs) : ∃ v w, vs = [v, w] ∧ AtP K ct F H d v ∧ AtP K ct F H e w := by
  obtain ⟨v, us, h1, h2, h3⟩ := h
  obtain ⟨w, e1, e2⟩ := ap1 h3
  exact ⟨v, w, by rw [h1, e1], h2, e2⟩
theorem ap3 {d e g : D} {vs : List V} (h : AtPs K ct F H [d, e, g] vs) : ∃ v w u, vs = [v, w, u] ∧ AtP K ct F H d v ∧ AtP K ct F H e w ∧ AtP K ct F H g u := by
  obtain ⟨v, us, h1, h2, h3⟩ := h
  obtain ⟨w, u, e1, e2, e3⟩ := ap2 h3
  exact ⟨v, w, u, by rw [h1, e1], h2, e2, e3⟩
end
theorem CallR.or {X : Cx} {f : Value} {r r' : List V → Hp → VK → Prop} (h : CallR X f r) (h' : CallR X f r') : CallR X f (fun x H Q => r x H Q ∨ r' x H Q) := by
  intro pins s σ H x us Q I rx q
  rcases q with q | q
  · exact h pins s σ H x us Q I rx q
  · exact h' pins s σ H x us Q I rx q

/-! ### sizes -/
def mulOk (a b : Int) : Bool := decide (a.natAbs.log2 + b.natAbs.log2 < 100000000)
theorem mulOk_ok {i j : Int} (h : mulOk i j = true) : IntMulOk i j := by
  have b : ∀ x : Int, Builtin.Int.intBits x ≤ x.natAbs.log2 + 1 := fun x => by
    unfold Builtin.Int.intBits
    split <;> omega
  have h1 := b i
  have h2 := b j
  have h3 : i.natAbs.log2 + j.natAbs.log2 < 100000000 := of_decide_eq_true h
  have e : bitsLine = 134217728 := by decide
  unfold IntMulOk
  intro z
  rw [Bool.and_eq_true] at z
  have z2 := z.2
  unfold Builtin.Int.intTooBig at z2
  have z3 := of_decide_eq_true z2
  rw [e] at z3
  omega
section
variable {X : Cx}
theorem op_mulB : OpR X (binaryOp .Mult) (rI (fun i j => mulOk i j = true) fun i j => .int (i * j)) := opI fun _ _ _ _ _ _ _ hc q => mul_int q (mulOk_ok hc)
theorem op_divB : OpR X (binaryOp .FloorDiv) (rI (fun i j => j ≠ 0 ∧ Builtin.divisionGoesByPylong i j = false) fun i j => .int (i.fdiv j)) := opI fun _ _ _ _ _ _ _ hc q => floordiv_int hc.1 q (.inl hc.2)
end
def rAddS : R2 := fun x y H Q => ∃ i j, x = .str i ∧ y = .str j ∧ i.length + j.length ≤ sizeLine ∧ Q (.str (i ++ j)) H
def rAddB : R2 := fun x y H Q => rI0 (fun i j => .int (i + j)) x y H Q ∨ (rAddS x y H Q ∨ rCat x y H Q)
def rMulB : R2 := fun x y H Q => rI (fun i j => mulOk i j = true) (fun i j => .int (i * j)) x y H Q ∨ rRep x y H Q
section
variable {X : Cx}
theorem op_addB : OpR X (binaryOp .Add) rAddB := op_add.or (OpR.or op_add_str op_cat)
theorem op_mulBB : OpR X (binaryOp .Mult) rMulB := op_mulB.or op_rep
end
def fAdd : List D → Option RK
  | [.int a, .int b] => some (.v (.int (a + b)))
  | [.str a, .str b] => if a.length + b.length ≤ sizeLine then some (.v (.str (a ++ b))) else none
  | [.lst a, .lst b] => if a.length + b.length ≤ sizeLine then some (.n (.lst (a ++ b))) else none
  | _ => none
def fSub : List D → Option RK
  | [.int a, .int b] => some (.v (.int (a - b)))
  | _ => none
def fMul : List D → Option RK
  | [.int a, .int b] => if mulOk a b = true then some (.v (.int (a * b))) else none
  | [.lst a, .int k] => if -(2 ^ 63) ≤ k ∧ k < 2 ^ 63 ∧ a.length * k.toNat ≤ sizeLine then some (.n (.lst (List.replicate k.toNat a).flatten)) else none
  | _ => none
def fDiv : List D → Option RK
  | [.int a, .int b] => if b ≠ 0 ∧ Builtin.divisionGoesByPylong a b = false then some (.v (.int (a.fdiv b))) else none
  | _ => none
def fMod : List D → Option RK
  | [.int a, .int b] => if b ≠ 0 then some (.v (.int (a.fmod b))) else none
  | _ => none
def fPow : List D → Option RK
  | [.int a, .int b] => if 0 ≤ b ∧ b ≤ 1000000 ∧ a.natAbs < 2 ^ 64 then some (.v (.int (a ^ b.toNat))) else none
  | _ => none
def fShl : List D → Option RK
  | [.int a, .int b] => if 0 ≤ b ∧ b ≤ 1000000 ∧ a.natAbs < 2 ^ 64 then some (.v (.int (a * 2 ^ b.toNat))) else none
  | _ => none
def fShr : List D → Option RK
  | [.int a, .int b] => if 0 ≤ b then some (.v (.int (a / 2 ^ b.toNat))) else none
  | _ => none
def fNeg : List D → Option RK
  | [.int a] => some (.v (.int (-a)))
  | _ => none
def fLt : List D → Option RK
  | [.int a, .int b] => some (.v (.bl (decide (a < b))))
  | _ => none
def fLe : List D → Option RK
  | [.int a, .int b] => some (.v (.bl (decide (a ≤ b))))
  | _ => none
def fGt : List D → Option RK
  | [.int a, .int b] => some (.v (.bl (decide (b < a))))
  | _ => none
def fGe : List D → Option RK
  | [.int a, .int b] => some (.v (.bl (decide (b ≤ a))))
  | _ => none
section
variable {K : PySem.W.Frag} {ct : Nat → Addr}
theorem AtL.flat {F : Hp} {ds : List D} {vs : List V} (h : AtL K ct F ds vs) : ∀ n : Nat, AtL K ct F (List.replicate n ds).flatten (List.replicate n vs).flatten
  | 0 => rfl
  | n + 1 => by
    rw [List.replicate_succ, List.replicate_succ, List.flatten_cons, List.flatten_cons]
    exact h.append (AtL.flat h n)
theorem ol_add : OpL K ct (l2 rAddB) fAdd := by
  intro F H vs ds k Q e a h q
  unfold fAdd at h
  split at h
  · cases h
    obtain ⟨v, w, rfl, e1, e2⟩ := ap2 a
    cases e1; cases e2
    exact ⟨_, _, rfl, .inl ⟨_, _, rfl, rfl, q _ (by simp only [At])⟩⟩
  · split at h
    · rename_i hl
      cases h
      obtain ⟨v, w, rfl, e1, e2⟩ := ap2 a
      cases e1; cases e2
      exact ⟨_, _, rfl, .inr (.inl ⟨_, _, rfl, rfl, hl, q _ (by simp only [At])⟩)⟩
    · cases h
  · split at h
    · rename_i hl
      cases h
      obtain ⟨v, w, rfl, ⟨p1, xs, rfl, s1, x1⟩, ⟨p2, ys, rfl, s2, x2⟩⟩ := ap2 a
      exact ⟨_, _, rfl, .inr (.inr ⟨p1, p2, xs, ys, rfl, rfl, s1, s2, by rw [x1.length, x2.length]; exact hl, fun p np => q p _ np ⟨_, rfl, x1.append x2⟩⟩)⟩
    · cases h
  · cases h
theorem ol_sub : OpL K ct (l2 (rI0 fun i j => .int (i - j))) fSub := by
  intro F H vs ds k Q e a h q
  unfold fSub at h
  split at h
  · cases h
    obtain ⟨v, w, rfl, e1, e2⟩ := ap2 a
    cases e1; cases e2
    exact ⟨_, _, rfl, ⟨_, _, rfl, rfl, q _ (by simp only [At])⟩⟩
  · cases h
theorem ol_mul : OpL K ct (l2 rMulB) fMul := by
  intro F H vs ds k Q e a h q
  unfold fMul at h
  split at h
  · split at h
    · rename_i hl
      cases h
      obtain ⟨v, w, rfl, e1, e2⟩ := ap2 a
      cases e1; cases e2
      exact ⟨_, _, rfl, .inl ⟨_, _, rfl, rfl, hl, q _ (by simp only [At])⟩⟩
    · cases h
  · split at h
    · rename_i hl
      cases h
      obtain ⟨v, w, rfl, ⟨p1, xs, rfl, s1, x1⟩, e2⟩ := ap2 a
      cases e2
      exact ⟨_, _, rfl, .inr ⟨p1, _, xs, rfl, rfl, s1, hl.1, hl.2.1, by rw [x1.length]; exact hl.2.2, fun p np => q p _ np ⟨_, rfl, x1.flat _⟩⟩⟩
    · cases h
  · cases h
theorem ol_I {C : Int → Int → Prop} {g : Int → Int → V} {f : List D → Option RK} (h : ∀ ds k, f ds = some k → ∃ i j d, ds = [.int i, .int j] ∧ C i j ∧ k = .v d ∧ ∀ F, At K ct F d (g i j)) : OpL K ct (l2 (rI C g)) f := by
  intro F H vs ds k Q e a hh q
  obtain ⟨i, j, d, rfl, hc, rfl, hd⟩ := h ds k hh
  obtain ⟨v, w, rfl, e1, e2⟩ := ap2 a
  cases e1; cases e2
  exact ⟨_, _, rfl, ⟨_, _, rfl, rfl, hc, q _ (hd F)⟩⟩
theorem ol_I0 {g : Int → Int → V} {f : List D → Option RK} (h : ∀ ds k, f ds = some k → ∃ i j d, ds = [.int i, .int j] ∧ k = .v d ∧ ∀ F, At K ct F d (g i j)) : OpL K ct (l2 (rI0 g)) f := by
  intro F H vs ds k Q e a hh q
  obtain ⟨i, j, d, rfl, rfl, hd⟩ := h ds k hh
  obtain ⟨v, w, rfl, e1, e2⟩ := ap2 a
  cases e1; cases e2
  exact ⟨_, _, rfl, ⟨_, _, rfl, rfl, q _ (hd F)⟩⟩
theorem ol_div : OpL K ct (l2 (rI (fun i j => j ≠ 0 ∧ Builtin.divisionGoesByPylong i j = false) fun i j => .int (i.fdiv j))) fDiv := ol_I fun ds k h => by
  unfold fDiv at h
  split at h
  · split at h
    · rename_i hc; cases h; exact ⟨_, _, _, rfl, hc, rfl, fun F => by simp only [At]⟩
    · cases h
  · cases h
theorem ol_mod : OpL K ct (l2 (rI (fun _ j => j ≠ 0) fun i j => .int (i.fmod j))) fMod := ol_I fun ds k h => by
  unfold fMod at h
  split at h
  · split at h
    · rename_i hc; cases h; exact ⟨_, _, _, rfl, hc, rfl, fun F => by simp only [At]⟩
    · cases h
  · cases h
theorem ol_pow : OpL K ct (l2 (rI CPow fun i j => .int (i ^ j.toNat))) fPow := ol_I fun ds k h => by
  unfold fPow at h
  split at h
  · split at h
    · rename_i hc; cases h; exact ⟨_, _, _, rfl, hc, rfl, fun F => by simp only [At]⟩
    · cases h
  · cases h
theorem ol_shl : OpL K ct (l2 (rI CPow fun i j => .int (i * 2 ^ j.toNat))) fShl := ol_I fun ds k h => by
  unfold fShl at h
  split at h
  · split at h
    · rename_i hc; cases h; exact ⟨_, _, _, rfl, hc, rfl, fun F => by simp only [At]⟩
    · cases h
  · cases h
theorem ol_shr : OpL K ct (l2 (rI (fun _ j => 0 ≤ j) fun i j => .int (i / 2 ^ j.toNat))) fShr := ol_I fun ds k h => by
  unfold fShr at h
  split at h
  · split at h
    · rename_i hc; cases h; exact ⟨_, _, _, rfl, hc, rfl, fun F => by simp only [At]⟩
    · cases h
  · cases h
theorem ol_lt : OpL K ct (l2 (rI0 fun i j => .bl (decide (i < j)))) fLt := ol_I0 fun ds k h => by
  unfold fLt at h
  split at h
  · cases h; exact ⟨_, _, _, rfl, rfl, fun F => by simp only [At]⟩
  · cases h
theorem ol_le : OpL K ct (l2 (rI0 fun i j => .bl (decide (i ≤ j)))) fLe := ol_I0 fun ds k h => by
  unfold fLe at h
  split at h
  · cases h; exact ⟨_, _, _, rfl, rfl, fun F => by simp only [At]⟩
  · cases h
theorem ol_gt : OpL K ct (l2 (rI0 fun i j => .bl (decide (j < i)))) fGt := ol_I0 fun ds k h => by
  unfold fGt at h
  split at h
  · cases h; exact ⟨_, _, _, rfl, rfl, fun F => by simp only [At]⟩
  · cases h
theorem ol_ge : OpL K ct (l2 (rI0 fun i j => .bl (decide (j ≤ i)))) fGe := ol_I0 fun ds k h => by
  unfold fGe at h
  split at h
  · cases h; exact ⟨_, _, _, rfl, rfl, fun F => by simp only [At]⟩
  · cases h
theorem ol_neg : OpL K ct (l1 (rU fun i => .int (-i))) fNeg := by
  intro F H vs ds k Q e a h q
  unfold fNeg at h
  split at h
  · cases h
    obtain ⟨v, rfl, e1⟩ := ap1 a
    cases e1
    exact ⟨_, rfl, ⟨_, rfl, q _ (by simp only [At])⟩⟩
  · cases h
end

/-! ### == and in: data at any depth -/
mutual
def D.py : D → Option PyData
  | .non => some .none
  | .bl b => some (.bool b)
  | .int i => some (.int i)
  | .str x => some (.str x)
  | .lst ds => match D.pyL ds with | some ps => some (.list ps) | none => none
  | .scr ds => match D.pyL ds with | some ps => some (.list ps) | none => none
  | .tup ds => match D.pyL ds with | some ps => some (.tuple ps) | none => none
  | .ins _ _ _ => none
def D.pyL : List D → Option (List PyData)
  | [] => some []
  | d :: ds => match D.py d with
    | some p => match D.pyL ds with
      | some ps => some (p :: ps)
      | none => none
    | none => none
end
section
variable {K : PySem.W.Frag} {ct : Nat → Addr} {F H : Hp}
mutual
theorem At.dp (e : Ex F H) : ∀ {d : D} {v : V} {p : PyData}, At K ct F d v → d.py = some p → Dp K H v p
  | .non, v, p, h, g => by simp only [At] at h; simp only [D.py] at g; cases g; subst h; exact .non
  | .bl b, v, p, h, g => by simp only [At] at h; simp only [D.py] at g; cases g; subst h; exact .bl _
  | .int i, v, p, h, g => by simp only [At] at h; simp only [D.py] at g; cases g; subst h; exact .int _
  | .str x, v, p, h, g => by simp only [At] at h; simp only [D.py] at g; cases g; subst h; exact .str _
  | .lst ds, v, p, h, g => by
    simp only [At] at h
    simp only [D.py] at g
    obtain ⟨a, vs, h1, h2, h3⟩ := h
    subst h1
    split at g
    · rename_i ps q
      cases g
      exact .lst (SqL.of (e _ _ h2)) (AtL.dp e h3 q)
    · cases g
  | .scr ds, v, p, h, g => by
    simp only [At] at h
    simp only [D.py] at g
    obtain ⟨a, vs, h1, h2, h3⟩ := h
    subst h1
    split at g
    · rename_i ps q
      cases g
      exact .lst (ex_l e h2) (AtL.dp e h3 q)
    · cases g
  | .tup ds, v, p, h, g => by
    simp only [At] at h
    simp only [D.py] at g
    obtain ⟨a, vs, h1, h2, h3⟩ := h
    subst h1
    split at g
    · rename_i ps q
      cases g
      exact .tup (ex_t e h2) (AtL.dp e h3 q)
    · cases g
  | .ins c ns ds, v, p, h, g => by simp only [D.py] at g; cases g
theorem AtL.dp (e : Ex F H) : ∀ {ds : List D} {vs : List V} {ps : List PyData}, AtL K ct F ds vs → D.pyL ds = some ps → DpAll K H vs ps
  | [], vs, ps, h, g => by simp only [AtL] at h; simp only [D.pyL] at g; cases g; subst h; exact .nil
  | d :: ds, vs, ps, h, g => by
    simp only [AtL] at h
    simp only [D.pyL] at g
    obtain ⟨v, r, h1, h2, h3⟩ := h
    subst h1
    split at g
    · rename_i p q
      split at g
      · rename_i ps q2
        cases g
        exact .cons (At.dp e h2 q) (AtL.dp e h3 q2)
      · cases g
    · cases g
end
theorem AtP.dp (e : Ex F H) {d : D} {v : V} {p : PyData} (h : AtP K ct F H d v) (g : d.py = some p) : Dp K H v p := by
  cases d with
  | non => exact At.dp (ct := ct) e (d := .non) (by simp only [At]; exact h) g
  | bl b => exact At.dp (ct := ct) e (d := .bl b) (by simp only [At]; exact h) g
  | int i => exact At.dp (ct := ct) e (d := .int i) (by simp only [At]; exact h) g
  | str x => exact At.dp (ct := ct) e (d := .str x) (by simp only [At]; exact h) g
  | lst ds =>
    obtain ⟨a, vs, h1, h2, h3⟩ := h
    simp only [D.py] at g
    subst h1
    split at g
    · rename_i ps q
      cases g
      exact .lst (SqL.of h2) (AtL.dp e h3 q)
    · cases g
  | scr ds =>
    obtain ⟨a, vs, h1, h2, h3⟩ := h
    simp only [D.py] at g
    subst h1
    split at g
    · rename_i ps q
      cases g
      exact .lst h2 (AtL.dp e h3 q)
    · cases g
  | tup ds =>
    obtain ⟨a, vs, h1, h2, h3⟩ := h
    simp only [D.py] at g
    subst h1
    split at g
    · rename_i ps q
      cases g
      exact .tup h2 (AtL.dp e h3 q)
    · cases g
  | ins c ns ds => simp only [D.py] at g; cases g
end
def fEq : List D → Option RK
  | [a, b] => match a.py, b.py with
    | some p, some q => if SeqAt.shaped p = true ∧ SeqAt.shaped q = true then some (.v (.bl (PyData.eqv p q))) else none
    | _, _ => none
  | _ => none
def fNe : List D → Option RK
  | [a, b] => match a.py, b.py with
    | some p, some q => if SeqAt.shaped p = true ∧ SeqAt.shaped q = true then some (.v (.bl (!PyData.eqv p q))) else none
    | _, _ => none
  | _ => none
def fIn : List D → Option RK
  | [a, .lst bs] => match a.py, D.pyL bs with
    | some p, some qs => if SeqAt.shaped p = true ∧ SeqAt.shaped (.list qs) = true then some (.v (.bl (qs.any fun z => PyData.eqv z p))) else none
    | _, _ => none
  | _ => none
def fNotIn : List D → Option RK
  | [a, .lst bs] => match a.py, D.pyL bs with
    | some p, some qs => if SeqAt.shaped p = true ∧ SeqAt.shaped (.list qs) = true then some (.v (.bl (!qs.any fun z => PyData.eqv z p))) else none
    | _, _ => none
  | _ => none
def fIsN : List D → Option RK
  | [.non, .non] => some (.v (.bl true))
  | [_, .non] => some (.v (.bl false))
  | _ => none
def fNotN : List D → Option RK
  | [.non, .non] => some (.v (.bl false))
  | [_, .non] => some (.v (.bl true))
  | _ => none
def rIsN : R2 := fun x y H Q => y = .non ∧ Q (.bl (decide (x = .non))) H
def rNotN : R2 := fun x y H Q => y = .non ∧ Q (.bl (!decide (x = .non))) H
section
variable {K : PySem.W.Frag} {ct : Nat → Addr}
theorem ol_eq : OpL K ct (l2 (rEqD K)) fEq := by
  intro F H vs ds k Q e a h q
  unfold fEq at h
  split at h
  · split at h
    · rename_i p1 p2 g1 g2
      split at h
      · rename_i hs
        cases h
        obtain ⟨v, w, rfl, e1, e2⟩ := ap2 a
        exact ⟨_, _, rfl, p1, p2, e1.dp e g1, e2.dp e g2, hs.1, hs.2, q _ (by simp only [At])⟩
      · cases h
    · cases h
  · cases h
theorem ol_ne : OpL K ct (l2 (rNeD K)) fNe := by
  intro F H vs ds k Q e a h q
  unfold fNe at h
  split at h
  · split at h
    · rename_i p1 p2 g1 g2
      split at h
      · rename_i hs
        cases h
        obtain ⟨v, w, rfl, e1, e2⟩ := ap2 a
        exact ⟨_, _, rfl, p1, p2, e1.dp e g1, e2.dp e g2, hs.1, hs.2, q _ (by simp only [At])⟩
      · cases h
    · cases h
  · cases h
theorem ol_in : OpL K ct (l2 (rInD K)) fIn := by
  intro F H vs ds k Q e a h q
  unfold fIn at h
  split at h
  · split at h
    · rename_i p1 p2 g1 g2
      split at h
      · rename_i hs
        cases h
        obtain ⟨v, w, rfl, e1, ⟨b, us, rfl, e3, e4⟩⟩ := ap2 a
        exact ⟨_, _, rfl, p1, p2, e1.dp e g1, .lst (SqL.of e3) (e4.dp e g2), hs.1, hs.2, q _ (by simp only [At])⟩
      · cases h
    · cases h
  · cases h
theorem ol_notIn : OpL K ct (l2 (rNotInD K)) fNotIn := by
  intro F H vs ds k Q e a h q
  unfold fNotIn at h
  split at h
  · split at h
    · rename_i p1 p2 g1 g2
      split at h
      · rename_i hs
        cases h
        obtain ⟨v, w, rfl, e1, ⟨b, us, rfl, e3, e4⟩⟩ := ap2 a
        exact ⟨_, _, rfl, p1, p2, e1.dp e g1, .lst (SqL.of e3) (e4.dp e g2), hs.1, hs.2, q _ (by simp only [At])⟩
      · cases h
    · cases h
  · cases h
theorem AtP.ne {F H : Hp} {d : D} {v : V} (h : AtP K ct F H d v) (n : d ≠ .non) : v ≠ .non := by
  intro z
  subst z
  cases d with
  | non => exact n rfl
  | bl b => cases h
  | int i => cases h
  | str x => cases h
  | lst ds => obtain ⟨_, _, z, _⟩ := h; cases z
  | scr ds => obtain ⟨_, _, z, _⟩ := h; cases z
  | tup ds => obtain ⟨_, _, z, _⟩ := h; cases z
  | ins c ns ds => obtain ⟨_, _, _, z, _⟩ := h; cases z
theorem ol_isN : OpL K ct (l2 rIsN) fIsN := by
  intro F H vs ds k Q e a h q
  unfold fIsN at h
  split at h
  · cases h
    obtain ⟨v, w, rfl, e1, e2⟩ := ap2 a
    cases e1; cases e2
    exact ⟨_, _, rfl, rfl, q _ (by simp only [At]; rfl)⟩
  · rename_i d n
    cases h
    obtain ⟨v, w, rfl, e1, e2⟩ := ap2 a
    cases e2
    exact ⟨_, _, rfl, rfl, q _ (by simp only [At]; rw [decide_eq_false (AtP.ne e1 fun z => n z)])⟩
  · cases h
theorem ol_notN : OpL K ct (l2 rNotN) fNotN := by
  intro F H vs ds k Q e a h q
  unfold fNotN at h
  split at h
  · cases h
    obtain ⟨v, w, rfl, e1, e2⟩ := ap2 a
    cases e1; cases e2
    exact ⟨_, _, rfl, rfl, q _ (by simp only [At]; rfl)⟩
  · rename_i d n
    cases h
    obtain ⟨v, w, rfl, e1, e2⟩ := ap2 a
    cases e2
    exact ⟨_, _, rfl, rfl, q _ (by simp only [At]; rw [decide_eq_false (AtP.ne e1 fun z => n z)]; rfl)⟩
  · cases h
end

/-! ### items, slices, lengths -/
def fIdx : List D → Option RK
  | [.lst xs, .int i] => (atI xs i).map RK.v
  | [.scr xs, .int i] => (atI xs i).map RK.v
  | [.tup xs, .int i] => (atI xs i).map RK.v
  | [.str z, .int i] => if z.length ≤ sizeLine then (atI z.cps.toList i).map (fun c => RK.v (.str ⟨#[c]⟩)) else none
  | _ => none
def ixP : List D → Option Int → Option Int → List D := fun xs lo hi => (xs.drop (HT.sIx xs.length 0 lo)).take (HT.sIx xs.length xs.length hi - HT.sIx xs.length 0 lo)
def fLen : List D → Option RK
  | [.lst xs] => some (.v (.int xs.length))
  | [.scr xs] => some (.v (.int xs.length))
  | [.tup xs] => some (.v (.int xs.length))
  | [.str z] => if z.length ≤ sizeLine then some (.v (.int z.length)) else none
  | _ => none
def fAbs : List D → Option RK
  | [.int i] => some (.v (.int (if i < 0 then -i else i)))
  | _ => none
def fMin : List D → Option RK
  | [.int i, .int j] => some (.v (.int (if j < i then j else i)))
  | _ => none
def fMax : List D → Option RK
  | [.int i, .int j] => some (.v (.int (if j > i then j else i)))
  | _ => none
def fInt1 : List D → Option RK
  | [.int i] => some (.v (.int i))
  | [.bl b] => some (.v (.int (if b then 1 else 0)))
  | _ => none
def fList : List D → Option RK
  | [.lst xs] => some (.n (.lst xs))
  | [.scr xs] => some (.n (.lst xs))
  | [.tup xs] => some (.n (.lst xs))
  | _ => none
def fTuple : List D → Option RK
  | [.lst xs] => some (.t xs)
  | [.scr xs] => some (.t xs)
  | _ => none
def fGcd : List D → Option RK
  | [.int a, .int b] => some (.v (.int ((Nat.gcd a.natAbs b.natAbs : Nat) : Int)))
  | _ => none
def fLcm : List D → Option RK
  | [.int a, .int b] => if a.natAbs.log2 < 13000 ∧ b.natAbs.log2 < 13000 then some (.v (.int ((Nat.lcm a.natAbs b.natAbs : Nat) : Int))) else none
  | _ => none
section
variable {K : PySem.W.Frag} {ct : Nat → Addr}
theorem AtL.atI {F : Hp} {ds : List D} {vs : List V} {i : Int} {d : D} (h : AtL K ct F ds vs) (g : L2.atI ds i = some d) : ∃ v, L2.atI vs i = some v ∧ At K ct F d v := by
  unfold L2.atI at g ⊢
  rw [h.length]
  cases e : ixN ds.length i with
  | none => rw [e] at g; cases g
  | some j =>
    rw [e] at g
    obtain ⟨v, h1, h2⟩ := h.get (show ds[j]? = some d from g)
    exact ⟨v, h1, h2⟩
theorem ol_idx : OpL K ct (l2 (rIx K)) fIdx := by
  intro F H vs ds k Q e a h q
  unfold fIdx at h
  split at h
  · rename_i xs i
    obtain ⟨v, w, rfl, ⟨p, us, rfl, e3, e4⟩, e2⟩ := ap2 a
    cases e2
    cases g : atI xs i with
    | none => rw [g] at h; cases h
    | some d =>
      rw [g] at h
      cases h
      obtain ⟨u, g1, g2⟩ := e4.atI g
      exact ⟨_, _, rfl, .inl ⟨p, us, i, u, rfl, rfl, SqL.of e3, g1, q u g2⟩⟩
  · rename_i xs i
    obtain ⟨v, w, rfl, ⟨p, us, rfl, e3, e4⟩, e2⟩ := ap2 a
    cases e2
    cases g : atI xs i with
    | none => rw [g] at h; cases h
    | some d =>
      rw [g] at h
      cases h
      obtain ⟨u, g1, g2⟩ := e4.atI g
      exact ⟨_, _, rfl, .inl ⟨p, us, i, u, rfl, rfl, e3, g1, q u g2⟩⟩
  · rename_i xs i
    obtain ⟨v, w, rfl, ⟨p, us, rfl, e3, e4⟩, e2⟩ := ap2 a
    cases e2
    cases g : atI xs i with
    | none => rw [g] at h; cases h
    | some d =>
      rw [g] at h
      cases h
      obtain ⟨u, g1, g2⟩ := e4.atI g
      exact ⟨_, _, rfl, .inr (.inl ⟨p, us, i, u, rfl, rfl, e3, g1, q u g2⟩)⟩
  · rename_i z i
    split at h
    · rename_i hl
      obtain ⟨v, w, rfl, e1, e2⟩ := ap2 a
      cases e1; cases e2
      cases g : atI z.cps.toList i with
      | none => rw [g] at h; cases h
      | some c =>
        rw [g] at h
        cases h
        exact ⟨_, _, rfl, .inr (.inr ⟨z, i, c, rfl, rfl, hl, g, q _ (by simp only [At])⟩)⟩
    · cases h
  · cases h
def rLenB (K : PySem.W.Frag) : List V → Hp → VK → Prop := fun xs H Q => ∃ x n, xs = [x] ∧ LenV K x H n ∧ Q (.int n) H
theorem ol_len : OpL K ct (rLenB K) fLen := by
  intro F H vs ds k Q e a h q
  unfold fLen at h
  split at h
  · cases h
    obtain ⟨v, rfl, ⟨p, us, rfl, e3, e4⟩⟩ := ap1 a
    exact ⟨_, us.length, rfl, .inl ⟨us, SqL.of e3, rfl⟩, q _ (by simp only [At]; rw [e4.length])⟩
  · cases h
    obtain ⟨v, rfl, ⟨p, us, rfl, e3, e4⟩⟩ := ap1 a
    exact ⟨_, us.length, rfl, .inl ⟨us, e3, rfl⟩, q _ (by simp only [At]; rw [e4.length])⟩
  · cases h
    obtain ⟨v, rfl, ⟨p, us, rfl, e3, e4⟩⟩ := ap1 a
    exact ⟨_, us.length, rfl, .inr ⟨us, e3, rfl⟩, q _ (by simp only [At]; rw [e4.length])⟩
  · split at h
    · rename_i hl
      cases h
      obtain ⟨v, rfl, e1⟩ := ap1 a
      cases e1
      exact ⟨_, _, rfl, ⟨hl, rfl⟩, q _ (by simp only [At])⟩
    · cases h
  · cases h
def rAbsB : List V → Hp → VK → Prop := fun xs H Q => ∃ i, xs = [.int i] ∧ Q (.int (if i < 0 then -i else i)) H
def rMinB : List V → Hp → VK → Prop := fun xs H Q => ∃ i j, xs = [.int i, .int j] ∧ Q (.int (if j < i then j else i)) H
def rMaxB : List V → Hp → VK → Prop := fun xs H Q => ∃ i j, xs = [.int i, .int j] ∧ Q (.int (if j > i then j else i)) H
def rInt1 : List V → Hp → VK → Prop := fun xs H Q => (∃ i, xs = [.int i] ∧ Q (.int i) H) ∨ ∃ k, xs = [.bl k] ∧ Q (.int (if k then 1 else 0)) H
def rListB (K : PySem.W.Frag) : List V → Hp → VK → Prop := fun xs H Q => ∃ p ys, xs = [.ref p] ∧ (SqL K H p ys ∨ SqT K H p ys) ∧ ∀ l, H l = none → Q (.ref l) (upd H l (.lst ys))
def rTupB (K : PySem.W.Frag) : List V → Hp → VK → Prop := fun xs H Q => ∃ p ys, xs = [.ref p] ∧ ((SqL K H p ys ∧ ∀ l, H l = none → Q (.ref l) (upd H l (.tup ys))) ∨ (SqT K H p ys ∧ Q (.ref p) H))
theorem ol_abs : OpL K ct rAbsB fAbs := by
  intro F H vs ds k Q e a h q
  unfold fAbs at h
  split at h
  · cases h
    obtain ⟨v, rfl, e1⟩ := ap1 a
    cases e1
    exact ⟨_, rfl, q _ (by simp only [At])⟩
  · cases h
theorem ol_min : OpL K ct rMinB fMin := by
  intro F H vs ds k Q e a h q
  unfold fMin at h
  split at h
  · cases h
    obtain ⟨v, w, rfl, e1, e2⟩ := ap2 a
    cases e1; cases e2
    exact ⟨_, _, rfl, q _ (by simp only [At])⟩
  · cases h
theorem ol_max : OpL K ct rMaxB fMax := by
  intro F H vs ds k Q e a h q
  unfold fMax at h
  split at h
  · cases h
    obtain ⟨v, w, rfl, e1, e2⟩ := ap2 a
    cases e1; cases e2
    exact ⟨_, _, rfl, q _ (by simp only [At])⟩
  · cases h
theorem ol_int1 : OpL K ct rInt1 fInt1 := by
  intro F H vs ds k Q e a h q
  unfold fInt1 at h
  split at h
  · cases h
    obtain ⟨v, rfl, e1⟩ := ap1 a
    cases e1
    exact .inl ⟨_, rfl, q _ (by simp only [At])⟩
  · cases h
    obtain ⟨v, rfl, e1⟩ := ap1 a
    cases e1
    exact .inr ⟨_, rfl, q _ (by simp only [At])⟩
  · cases h
theorem ol_list : OpL K ct (rListB K) fList := by
  intro F H vs ds k Q e a h q
  unfold fList at h
  split at h
  · cases h
    obtain ⟨v, rfl, ⟨p, us, rfl, e3, e4⟩⟩ := ap1 a
    exact ⟨p, us, rfl, .inl (SqL.of e3), fun l nl => q l _ nl ⟨us, rfl, e4⟩⟩
  · cases h
    obtain ⟨v, rfl, ⟨p, us, rfl, e3, e4⟩⟩ := ap1 a
    exact ⟨p, us, rfl, .inl e3, fun l nl => q l _ nl ⟨us, rfl, e4⟩⟩
  · cases h
    obtain ⟨v, rfl, ⟨p, us, rfl, e3, e4⟩⟩ := ap1 a
    exact ⟨p, us, rfl, .inr e3, fun l nl => q l _ nl ⟨us, rfl, e4⟩⟩
  · cases h
theorem ol_tuple : OpL K ct (rTupB K) fTuple := by
  intro F H vs ds k Q e a h q
  unfold fTuple at h
  split at h
  · cases h
    obtain ⟨v, rfl, ⟨p, us, rfl, e3, e4⟩⟩ := ap1 a
    exact ⟨p, us, rfl, .inl ⟨SqL.of e3, fun l nl => q l _ nl e4⟩⟩
  · cases h
    obtain ⟨v, rfl, ⟨p, us, rfl, e3, e4⟩⟩ := ap1 a
    exact ⟨p, us, rfl, .inl ⟨e3, fun l nl => q l _ nl e4⟩⟩
  · cases h
theorem ol_gcd : OpL K ct rGcd fGcd := by
  intro F H vs ds k Q e a h q
  unfold fGcd at h
  split at h
  · cases h
    obtain ⟨v, w, rfl, e1, e2⟩ := ap2 a
    cases e1; cases e2
    exact ⟨_, _, rfl, q _ (by simp only [At])⟩
  · cases h
def rLcm : List V → Hp → VK → Prop := fun vs H Q => ∃ a b : Int, vs = [.int a, .int b] ∧ (a.natAbs.log2 < 13000 ∧ b.natAbs.log2 < 13000) ∧ Q (.int ((Nat.lcm a.natAbs b.natAbs : Nat) : Int)) H
theorem ol_lcm : OpL K ct rLcm fLcm := by
  intro F H vs ds k Q e a h q
  unfold fLcm at h
  split at h
  · split at h
    · rename_i hl
      cases h
      obtain ⟨v, w, rfl, e1, e2⟩ := ap2 a
      cases e1; cases e2
      exact ⟨_, _, rfl, hl, q _ (by simp only [At])⟩
    · cases h
  · cases h
theorem log2_lcm (m n : Nat) : (m.lcm n).log2 ≤ m.log2 + n.log2 + 2 := by
  by_cases h0 : m.lcm n = 0
  · rw [h0]; simp
  · have hm : m < 2 ^ (m.log2 + 1) := Nat.lt_log2_self
    have hn : n < 2 ^ (n.log2 + 1) := Nat.lt_log2_self
    have h1 : m.lcm n ≤ m * n := PySem.W.mc_lcm_le m n
    have h2 : m * n < 2 ^ (m.log2 + 1) * 2 ^ (n.log2 + 1) := Nat.mul_lt_mul'' hm hn
    rw [← Nat.pow_add] at h2
    have h3 : (m.lcm n).log2 < m.log2 + 1 + (n.log2 + 1) := (Nat.log2_lt h0).mpr (Nat.lt_of_le_of_lt h1 h2)
    omega
theorem cr_lcm {X : Cx} : CallR X (.builtin "math.lcm") rLcm := by
  intro pins s σ H vs us Q I r h
  obtain ⟨a, b, rfl, ⟨ha, hb⟩, q⟩ := h
  obtain ⟨t, u, rfl⟩ := Vals.int2 r
  have e1 : Nat.lcm 1 a.natAbs = a.natAbs := PySem.W.mc_lcm_one _
  have lg : ∀ n m : Nat, n.log2 < 13000 → m.log2 < 13000 → (max n m).log2 < 13000 := fun n m x y => by
    rcases Nat.le_total n m with z | z
    · rw [Nat.max_eq_right z]; exact y
    · rw [Nat.max_eq_left z]; exact x
  have c0 : ¬(max 1 a.natAbs).log2 / 30 + 1 > 450 := by
    have := lg 1 a.natAbs (by decide) ha
    omega
  have c1 : ¬(max a.natAbs b.natAbs).log2 / 30 + 1 > 450 := by
    have := lg a.natAbs b.natAbs ha hb
    omega
  have hz : ((((Nat.lcm 1 a.natAbs).lcm b.natAbs : Nat) : Int)).natAbs.log2 < bitsLine := by
    rw [e1, Int.natAbs_natCast]
    have := log2_lcm a.natAbs b.natAbs
    have e : bitsLine = 134217728 := by decide
    omega
  have g := PySem.W.mg_run_lcm a t b u c0 c1 hz
  rw [e1] at g
  exact call_function_meets PySem.W.MGF.kind_lcm PySem.W.MGF.plain_lcm PySem.W.MGF.entry_lcm (PySem.W.MGF.args_lcm _ _) g.meets ⟨.int _, H, I.tok _, ⟨_, rfl⟩, q⟩
end
end Ml

set_option maxHeartbeats 4000000
/-! Names, constants, fields, displays, slices, and, or, not, tests. -/
namespace Ml
open PySem L2 PyProof.Rows

/-! ### names, constants -/
/-- a name's value, frozen -/
def mV (j : Nat) : M := fun sl => match sl[j]? with
  | some (.sh d) => .ok (.sh d, sl)
  | some (.ow o) => .ok (.sh o.d, sl.set j (.sh o.d))
  | _ => .bad
/-- a name's value, moved out -/
def mMv (j : Nat) : M := fun sl => match sl[j]? with
  | some (.sh d) => .ok (.sh d, sl)
  | some (.ow o) => .ok (.fr o, sl.set j .no)
  | _ => .bad
def mC (d : D) : M := fun sl => .ok (.sh d, sl)
section
variable {K : PySem.W.Frag} {ct : Nat → Addr} {W : WX} {bo : Nat → Addr} {F H : Hp} {σ : L2.St} {sl : List Sl} {X : Cx}
theorem has_set {j : Nat} {s' : Sl} (hs : s'.hasB = false) {i : Nat} {a : Addr} (h : Has σ (sl.set j s') i a) : Has σ sl i a ∧ i ≠ j := by
  obtain ⟨s, h1, h2, h3⟩ := h
  by_cases e : i = j
  · subst e
    rw [List.getElem?_set] at h1
    simp only [if_true] at h1
    split at h1
    · cases h1; rw [hs] at h2; cases h2
    · cases h1
  · rw [List.getElem?_set_ne (Ne.symm e)] at h1
    exact ⟨⟨s, h1, h2, h3⟩, e⟩
theorem own_set {j : Nat} {s' : Sl} (hs : s'.mutB = false) {a : Addr} (h : Own σ (sl.set j s') a) : Own σ sl a := by
  obtain ⟨i, s, h1, h2, h3⟩ := h
  by_cases e : i = j
  · subst e
    rw [List.getElem?_set] at h1
    simp only [if_true] at h1
    split at h1
    · cases h1; rw [hs] at h2; cases h2
    · cases h1
  · rw [List.getElem?_set_ne (Ne.symm e)] at h1
    exact ⟨i, s, h1, h2, h3⟩
/-- a slot is forgotten -/
theorem Rst.forget (R : Rst K ct bo F H σ sl) (j : Nat) : Rst K ct bo F H σ (sl.set j .no) := by
  refine ⟨R.ex, fun i s h => ?_, fun i i' a h h' => R.ds i i' a (has_set rfl h).1 (has_set rfl h').1, by rw [R.len, List.length_set]⟩
  by_cases e : i = j
  · subst e
    rw [List.getElem?_set] at h
    simp only [if_true] at h
    split at h
    · cases h; trivial
    · cases h
  · rw [List.getElem?_set_ne (Ne.symm e)] at h
    exact R.rel i s h
/-- an own object that slot j lets go -/
theorem Rst.give (R : Rst K ct bo F H σ sl) {j : Nat} {o : Ob} (e : sl[j]? = some (.ow o)) : ∃ a, σ[j]? = some (some (.ref a)) ∧ RvAt K ct F H σ (sl.set j .no) (.fr o) (.ref a) ∧ Ext (Own σ sl) F H (fun b => Own σ (sl.set j .no) b ∨ OwnR (.fr o) (.ref a) b) F H := by
  obtain ⟨a, h, e1, e2, e3, e4⟩ := R.rel j _ e
  have hh : Has σ sl j a := ⟨_, e, rfl, e1⟩
  refine ⟨a, e1, ⟨a, h, rfl, e2, e3, e4, fun i z => (has_set rfl z).2 (R.ds i j a (has_set rfl z).1 hh)⟩, ⟨Ex.refl F, fun b u z => .inr z, fun b z => .inl z, fun b z => ?_⟩⟩
  rcases z with z | z
  · exact .inl (own_set rfl z)
  · have : a = b := by injection z
    subst this
    exact .inl ⟨j, _, e, rfl, e1⟩
theorem set_set_no {j : Nat} {s : Sl} : (sl.set j .no).set j s = sl.set j s := by rw [List.set_set]
theorem se_mv {j : Nat} {e : Expr} (h : PE X e (tVar j)) : PE X e (tM K ct W (mMv j)) := pe_imp h fun σ H Q x => by
  obtain ⟨bo, F, sl, R, g⟩ := x
  cases e : sl[j]? with
  | none => simp only [mMv, e] at g; exact g.elim
  | some s =>
    have q := R.rel j s e
    cases s <;> simp only [mMv, e] at g
    case no => exact g.elim
    case sh d =>
      obtain ⟨v, q1, q2⟩ := q
      exact ⟨v, q1, g v F H R q2 (Ext.refl.less fun b z => by rcases z with z | z; exact z; exact z.elim)⟩
    case ow o =>
      obtain ⟨a, q1, q2, q3⟩ := R.give e
      exact ⟨_, q1, g _ F H (R.forget j) q2 q3⟩
    case bo o => exact g.elim
    case lk b o => exact g.elim
/-- slot j takes data -/
theorem Rst.put {j : Nat} {d : D} {v : V} (R : Rst K ct bo F H σ (sl.set j .no)) (h : At K ct F d v) (hj : σ[j]? = some (some v)) : Rst K ct bo F H σ (sl.set j (.sh d)) := by
  have l := R.len
  rw [List.length_set] at l
  refine ⟨R.ex, fun i s e => ?_, fun i i' a x y => ?_, by rw [l, List.length_set]⟩
  · by_cases q : i = j
    · subst q
      rw [List.getElem?_set] at e
      simp only [if_true] at e
      split at e
      · cases e; exact ⟨v, hj, h⟩
      · cases e
    · rw [List.getElem?_set_ne (Ne.symm q)] at e
      exact R.rel i s (by rw [List.getElem?_set_ne (Ne.symm q)]; exact e)
  · have key : ∀ {i : Nat}, Has σ (sl.set j (.sh d)) i a → Has σ (sl.set j .no) i a := fun {i} z => by
      obtain ⟨⟨s, h1, h2, h3⟩, ne⟩ := has_set (s' := .sh d) rfl z
      exact ⟨s, by rw [List.getElem?_set_ne (Ne.symm ne)]; exact h1, h2, h3⟩
    exact R.ds i i' a (key x) (key y)
theorem se_var {j : Nat} {e : Expr} (h : PE X e (tVar j)) : PE X e (tM K ct W (mV j)) := pe_imp h fun σ H Q x => by
  obtain ⟨bo, F, sl, R, g⟩ := x
  cases e : sl[j]? with
  | none => simp only [mV, e] at g; exact g.elim
  | some s =>
    have q := R.rel j s e
    cases s <;> simp only [mV, e] at g
    case no => exact g.elim
    case sh d =>
      obtain ⟨v, q1, q2⟩ := q
      exact ⟨v, q1, g v F H R q2 (Ext.refl.less fun b z => by rcases z with z | z; exact z; exact z.elim)⟩
    case ow o =>
      obtain ⟨a, q1, q2, q3⟩ := R.give e
      obtain ⟨F', R', a', E', fx⟩ := (R.forget j).freeze q2 q3
      refine ⟨_, q1, g _ F' H (R'.put a' q1) a' (E'.less fun b z => ?_)⟩
      rcases z with z | z
      · obtain ⟨i, s, h1, h2, h3⟩ := z
        by_cases ne : i = j
        · subst ne
          rw [List.getElem?_set] at h1
          simp only [if_true] at h1
          split at h1
          · cases h1; cases h2
          · cases h1
        · exact ⟨i, s, by rw [List.getElem?_set_ne (Ne.symm ne)] at h1 ⊢; exact h1, h2, h3⟩
      · exact z.elim
    case bo o => exact g.elim
    case lk b o => exact g.elim
theorem se_const {e : Expr} {d : D} {v : V} (h : PE X e (tC v)) (hd : ∀ F, At K ct F d v) : PE X e (tM K ct W (mC d)) := pe_imp h fun σ H Q x => by
  obtain ⟨bo, F, sl, R, g⟩ := x
  exact g v F H R (hd F) (Ext.refl.less fun b z => by rcases z with z | z; exact z; exact z.elim)
theorem se_int {i j pos} : PE X (.Constant (.int i) j pos) (tM K ct W (mC (.int i))) := se_const pe_int fun F => by simp only [At]
theorem se_bl {b j pos} : PE X (.Constant (.bool b) j pos) (tM K ct W (mC (.bl b))) := se_const pe_bl fun F => by simp only [At]
theorem se_non {j pos} : PE X (.Constant .none j pos) (tM K ct W (mC .non)) := se_const pe_non fun F => by simp only [At]
theorem se_str {x j pos} : PE X (.Constant (.str x) j pos) (tM K ct W (mC (.str x))) := se_const pe_str fun F => by simp only [At]
end

/-! ### fields -/
def fFld (cs : List Nat) (f : Str) : List D → Option RK
  | [.ins c ns ds] => if c ∈ cs then ((ns.zip ds).lookup f).map RK.v else none
  | _ => none
structure FldOk (K : PySem.W.Frag) (ct : Nat → Addr) (f : Str) (c : Nat) : Prop where
  cl : Cls K (ct c)
  no : NoAttr K (ct c) f
section
variable {K : PySem.W.Frag} {ct : Nat → Addr} {W : WX} {X : Cx}
theorem lookup_zip {F : Hp} {f : Str} : ∀ {ns : List Str} {ds : List D} {vs : List V} {d : D}, AtL K ct F ds vs → (ns.zip ds).lookup f = some d → ∃ v, (ns.zip vs).lookup f = some v ∧ At K ct F d v
  | [], ds, vs, d, h, g => by simp at g
  | n :: ns, [], vs, d, h, g => by simp at g
  | n :: ns, d0 :: ds, vs, d, h, g => by
    simp only [AtL] at h
    obtain ⟨v, r, h1, h2, h3⟩ := h
    subst h1
    simp only [List.zip_cons_cons, List.lookup_cons] at g ⊢
    cases e : (f == n) with
    | true =>
      rw [e] at g
      simp only at g
      cases g
      exact ⟨v, by simp, h2⟩
    | false =>
      rw [e] at g
      simp only at g
      obtain ⟨u, g1, g2⟩ := lookup_zip h3 g
      exact ⟨u, by simpa using g1, g2⟩
def rFld (K : PySem.W.Frag) (f : Str) : V → Hp → VK → Prop := fun x H Q => ∃ a C dx fs v, x = .ref a ∧ H a = some (.ins C dx fs) ∧ Cls K C ∧ NoAttr K C f ∧ fs.lookup f = some v ∧ Q v H
theorem ol_fld {cs : List Nat} {f : Str} (hc : ∀ c ∈ cs, FldOk K ct f c) : OpL K ct (l1 (rFld K f)) (fFld cs f) := by
  intro F H vs ds k Q e a h q
  unfold fFld at h
  split at h
  · rename_i c ns ds
    split at h
    · rename_i hm
      obtain ⟨v, rfl, ⟨p, dx, us, rfl, e3, e4, _⟩⟩ := ap1 a
      cases g : (ns.zip ds).lookup f with
      | none => rw [g] at h; cases h
      | some d =>
        rw [g] at h
        cases h
        obtain ⟨u, g1, g2⟩ := lookup_zip e4 g
        exact ⟨_, rfl, p, ct c, dx, _, u, rfl, e3, (hc c hm).cl, (hc c hm).no, g1, q u g2⟩
    · cases h
  · cases h
theorem se_fld {cs : List Nat} {f : Str} {e : Expr} {ar : Ar} {pos : Pos} (hK : K = X.K) (hc : ∀ c ∈ cs, FldOk K ct f c) (he : PE X e (tAr K ct W ar)) (hb : attributeBase e f X.env (eval e X.env) = eval e X.env := by rfl) : PE X (.Attribute e f pos) (tM K ct W (mOp (fFld cs f) [ar])) := by
  subst hK
  exact pe_imp (pe_fld he hb) fun σ H Q x => go1 (ol_fld hc) x

/-! ### displays -/
def fLst : List D → Option RK := fun ds => if ds.length ≤ sizeLine then some (.n (.lst ds)) else none
def fTup : List D → Option RK := fun ds => if ds.length ≤ sizeLine then some (.t ds) else none
theorem AtPs.atl {F H : Hp} : ∀ {ds : List D} {vs : List V}, AtPs K ct F H ds vs → vs.length = ds.length
  | [], vs, h => by have h' : vs = [] := h; subst h'; rfl
  | d :: ds, vs, h => by
    obtain ⟨v, us, h1, h2, h3⟩ := h
    rw [h1, List.length_cons, List.length_cons, AtPs.atl h3]
/-- a display's items are frozen -/
def evFs (as : List M) : List Ar := as.map Ar.e
theorem getAll_sh (sl : List Sl) : ∀ {rs : List Rf} {ds : List D}, (∀ r ∈ rs, ∃ d, r = .sh d) → getAll sl rs = some ds → rs = ds.map Rf.sh
  | [], ds, _, g => by cases g; rfl
  | r :: rs, ds, h, g => by
    obtain ⟨d, rfl⟩ := h r List.mem_cons_self
    simp only [getAll, Rf.get] at g
    split at g
    · rename_i ds' e
      cases g
      rw [getAll_sh sl (fun r hr => h r (List.mem_cons_of_mem _ hr)) e]
      rfl
    · cases g
theorem evAs_sh : ∀ {as : List M} {sl : List Sl} {rs : List Rf} {sl' : List Sl}, evAs (evFs as) sl = .ok (rs, sl') → ∀ r ∈ rs, ∃ d, r = .sh d
  | [], sl, rs, sl', e => by
    simp only [evFs, List.map_nil, evAs] at e
    cases e
    intro r hr
    cases hr
  | m :: as, sl, rs, sl', e => by
    simp only [evFs, List.map_cons, evAs, evA] at e
    cases q : m sl with
    | ok p =>
      obtain ⟨rv, sl1⟩ := p
      rw [q] at e
      simp only at e
      cases q2 : evAs (as.map Ar.e) sl1 with
      | ok p2 =>
        obtain ⟨rs2, sl2⟩ := p2
        rw [q2] at e
        simp only at e
        cases e
        intro r hr
        rcases List.mem_cons.mp hr with z | z
        · exact ⟨_, z⟩
        · exact evAs_sh (as := as) q2 r z
      | exc c ns ds sl' => rw [q2] at e; cases e
      | bad => rw [q2] at e; cases e
    | exc c ns ds sl' => rw [q] at e; cases e
    | bad => rw [q] at e; cases e
theorem rfs_at {F : Hp} {σ : L2.St} : ∀ {ds : List D} {vs : List V}, RfsAt K ct F σ (ds.map Rf.sh) vs → AtL K ct F ds vs
  | [], vs, h => h
  | d :: ds, vs, h => by
    obtain ⟨v, us, h1, h2, h3⟩ := h
    exact ⟨v, us, h1, h2, rfs_at h3⟩
/-- items frozen, then f of them; f needs them frozen -/
def mDis (f : List D → Option RK) (as : List M) : M := mOp f (evFs as)
theorem dis_core {as : List M} {f : List D → Option RK} {P : List V → Hp → VK → Prop} {bo : Nat → Addr} {F H : Hp} {σ : L2.St} {sl : List Sl} {Q : VK} (hf : ∀ F H ds vs k Q, AtL K ct F ds vs → f ds = some k → ResOk K ct F H Q k → P vs H Q)
    (R : Rst K ct bo F H σ sl) (g : GoE K ct W bo (Own σ sl) σ F H (mDis f as sl) Q) : tArs K ct W (evFs as) σ H (fun vs H1 => P vs H1 Q) := by
  refine args_go (evFs as) (O := Own σ sl) _ R ?_
  unfold mDis mOp at g
  cases e : evAs (evFs as) sl with
  | ok p =>
    obtain ⟨rs, sl'⟩ := p
    rw [e] at g
    simp only at g
    intro vs F' H' R' x E
    cases e2 : getAll sl' rs with
    | none => rw [e2] at g; exact g.elim
    | some ds =>
      rw [e2] at g
      simp only at g
      cases e3 : f ds with
      | none => rw [e3] at g; exact g.elim
      | some k =>
        rw [e3] at g
        have er := getAll_sh sl' (evAs_sh e) e2
        subst er
        exact hf F' H' ds vs k Q (rfs_at x) e3 (res_ok R' fun v F2 H2 R2 x2 E2 => g v F2 H2 R2 x2 (E.trans E2))
  | exc c ns ds sl' => rw [e] at g; exact g
  | bad => rw [e] at g; exact g
theorem se_lst {es : List Expr} {as : List M} {pos : Pos} (h : PA X es (tArs K ct W (evFs as))) : PE X (.List es pos) (tM K ct W (mDis fLst as)) := pe_imp (pe_lst h) fun σ H Q x => by
  obtain ⟨bo, F, sl, R, g⟩ := x
  refine dis_core (P := fun vs H Q => vs.length ≤ sizeLine ∧ ∀ p, H p = none → Q (.ref p) (upd H p (.lst vs))) (fun F H ds vs k Q a h q => ?_) R g
  unfold fLst at h
  split at h
  · rename_i hl
    cases h
    exact ⟨by rw [a.length]; exact hl, fun p np => q p _ np ⟨vs, rfl, a⟩⟩
  · cases h
theorem se_tup {es : List Expr} {as : List M} {x1} {pos : Pos} (h : PA X es (tArs K ct W (evFs as))) : PE X (.Tuple es x1 pos) (tM K ct W (mDis fTup as)) := pe_imp (pe_tup h) fun σ H Q x => by
  obtain ⟨bo, F, sl, R, g⟩ := x
  refine dis_core (P := fun vs H Q => vs.length ≤ sizeLine ∧ ∀ p, H p = none → Q (.ref p) (upd H p (.tup vs))) (fun F H ds vs k Q a h q => ?_) R g
  unfold fTup at h
  split at h
  · rename_i hl
    cases h
    exact ⟨by rw [a.length]; exact hl, fun p np => q p _ np a⟩
  · cases h
theorem af_nil : PA X [] (tArs K ct W (evFs [])) := pa_nil
theorem af_cons {e : Expr} {es : List Expr} {m : M} {as : List M} (ha : PE X e (tM K ct W m)) (hr : PA X es (tArs K ct W (evFs as))) (hs : starEach (e :: es) X.env = (false, eval e X.env) :: starEach es X.env := by rfl) : PA X (e :: es) (tArs K ct W (evFs (m :: as))) := pa_cons (ae_e ha) hr hs

/-! ### slices -/
/-- a slice by data; the whole of a tuple is refused -/
def fSlW (lo hi : Option Int) : D → Option RK
  | .lst xs => some (.n (.lst (ixP xs lo hi)))
  | .scr xs => some (.n (.lst (ixP xs lo hi)))
  | .tup xs => if HT.sIx xs.length 0 lo = 0 ∧ HT.sIx xs.length xs.length hi = xs.length then none else some (.t (ixP xs lo hi))
  | .str z => if z.length ≤ sizeLine then some (.v (.str (cutS z lo hi))) else none
  | _ => none
def rSlB (K : PySem.W.Frag) : V → Option Int → Option Int → Hp → VK → Prop := fun x lo hi H Q => rSlL K x lo hi H Q ∨ (rSlT K x lo hi H Q ∨ rSlS x lo hi H Q)
theorem AtL.cut {F : Hp} {ds : List D} {vs : List V} (h : AtL K ct F ds vs) (lo hi : Option Int) : AtL K ct F (ixP ds lo hi) (cutV vs lo hi) := by
  unfold ixP cutV
  rw [h.length]
  exact (h.drop).take
theorem ol_sl {F H : Hp} {d : D} {v : V} {lo hi : Option Int} {k : RK} {Q : VK} (e : Ex F H) (a : AtP K ct F H d v) (h : fSlW lo hi d = some k) (q : ResOk K ct F H Q k) : rSlB K v lo hi H Q := by
  cases d with
  | lst xs =>
    obtain ⟨p, us, rfl, e3, e4⟩ := a
    cases h
    exact .inl ⟨p, us, rfl, SqL.of e3, fun l nl => q l _ nl ⟨_, rfl, e4.cut lo hi⟩⟩
  | scr xs =>
    obtain ⟨p, us, rfl, e3, e4⟩ := a
    cases h
    exact .inl ⟨p, us, rfl, e3, fun l nl => q l _ nl ⟨_, rfl, e4.cut lo hi⟩⟩
  | tup xs =>
    obtain ⟨p, us, rfl, e3, e4⟩ := a
    simp only [fSlW] at h
    split at h
    · cases h
    · rename_i n
      cases h
      exact .inr (.inl ⟨p, us, rfl, e3, by rw [e4.length]; exact n, fun l nl => q l _ nl (e4.cut lo hi)⟩)
  | str z =>
    cases a
    simp only [fSlW] at h
    split at h
    · rename_i hl
      cases h
      exact .inr (.inr ⟨z, rfl, hl, q _ (by simp only [At])⟩)
    · cases h
  | non => cases h
  | bl b => cases h
  | int i => cases h
  | ins c ns ds => cases h
def evP : Option M → List Sl → Out (Option Int × List Sl)
  | none, sl => .ok (none, sl)
  | some m, sl => match m sl with
    | .ok (.sh (.int i), sl') => .ok (some i, sl')
    | .ok _ => .bad
    | .exc c ns ds sl' => .exc c ns ds sl'
    | .bad => .bad
def mSl (ar : Ar) (lo hi : Option M) : M := fun sl => match evA ar sl with
  | .ok (r, sl1) => match evP lo sl1 with
    | .ok (l, sl2) => match evP hi sl2 with
      | .ok (h, sl3) => match r.get sl3 with
        | some d => match fSlW l h d with
          | some k => .ok (k.rv, sl3)
          | none => .bad
        | none => .bad
      | .exc c ns ds sl' => .exc c ns ds sl'
      | .bad => .bad
    | .exc c ns ds sl' => .exc c ns ds sl'
    | .bad => .bad
  | .exc c ns ds sl' => .exc c ns ds sl'
  | .bad => .bad
def GoP (K : PySem.W.Frag) (ct : Nat → Addr) (W : WX) (bo : Nat → Addr) (O : Addr → Prop) (σ : L2.St) (F H : Hp) (r : Out (Option Int × List Sl)) (Q : Option Int → Hp → Prop) : Prop :=
  match r with
  | .ok (o, sl') => ∀ F' H', Rst K ct bo F' H' σ sl' → Ext O F H (Own σ sl') F' H' → Q o H'
  | .exc c ns ds sl' => GoX K ct W bo O F H c ns ds sl' (fun σ' => σ' = σ)
  | .bad => False
def tPt (K : PySem.W.Frag) (ct : Nat → Addr) (W : WX) (p : Option M) : TO := fun σ H Q => ∃ bo F sl, Rst K ct bo F H σ sl ∧ GoP K ct W bo (Own σ sl) σ F H (evP p sl) Q
theorem po_n : PO X none (tPt K ct W none) := ⟨fun pins s σ H Q I h => by
  obtain ⟨bo, F, sl, R, g⟩ := h
  exact po_none.run pins s σ H Q I (g F H R Ext.refl)⟩
theorem po_s {e : Expr} {m : M} (h : PE X e (tM K ct W m)) : PO X (some e) (tPt K ct W (some m)) := ⟨fun pins s σ H Q I x => by
  refine (po_some h).run pins s σ H Q I ?_
  obtain ⟨bo, F, sl, R, g⟩ := x
  refine use_d (Q := fun x H1 => ∃ i, x = .int i ∧ Q (some i) H1) R ?_
  cases e : m sl with
  | ok p =>
    obtain ⟨rv, sl'⟩ := p
    cases rv with
    | sh d =>
      cases d with
      | int i =>
        simp only [evP, e] at g
        intro v F' H' R' a E
        simp only [RV.d, At] at a
        exact ⟨i, a, g F' H' R' E⟩
      | _ => simp only [evP, e] at g; exact g.elim
    | fr o => simp only [evP, e] at g; exact g.elim
  | exc c ns ds sl' => simp only [evP, e] at g; exact g
  | bad => simp only [evP, e] at g; exact g⟩
theorem sl_B {X : Cx} : SlR X (rSlB X.K) := sl_list.or (sl_tup.or sl_str)
theorem se_sl {e : Expr} {lo hi : Option Expr} {ar : Ar} {pl ph : Option M} {pos p2 : Pos} (hK : K = X.K) (he : PE X e (tAr K ct W ar)) (hl : PO X lo (tPt K ct W pl)) (hh : PO X hi (tPt K ct W ph)) : PE X (.Subscript e (.Slice lo hi none p2) pos) (tM K ct W (mSl ar pl ph)) := by
  subst hK
  refine pe_imp (pe_slice sl_B he hl hh) fun σ H Q x => ?_
  obtain ⟨bo, F, sl, R, g⟩ := x
  refine ⟨bo, F, sl, R, ?_⟩
  unfold mSl at g
  cases e1 : evA ar sl with
  | ok p1 =>
    obtain ⟨r, sl1⟩ := p1
    rw [e1] at g
    intro v F1 H1 R1 a1 E1
    refine ⟨bo, F1, sl1, R1, ?_⟩
    simp only at g
    cases e2 : evP pl sl1 with
    | ok p2 =>
      obtain ⟨l, sl2⟩ := p2
      rw [e2] at g
      intro F2 H2 R2 E2
      refine ⟨bo, F2, sl2, R2, ?_⟩
      simp only at g
      cases e3 : evP ph sl2 with
      | ok p3 =>
        obtain ⟨h, sl3⟩ := p3
        rw [e3] at g
        intro F3 H3 R3 E3
        simp only at g
        cases e4 : r.get sl3 with
        | none => rw [e4] at g; exact g.elim
        | some d =>
          rw [e4] at g
          simp only at g
          cases e5 : fSlW l h d with
          | none => rw [e5] at g; exact g.elim
          | some k =>
            rw [e5] at g
            have pk := Rf.peek R3 (a1.mono (E2.trans E3).fex) e4
            exact ol_sl R3.ex pk e5 (res_ok R3 fun v F' H' R' x E => g v F' H' R' x (((E1.trans E2).trans E3).trans E))
      | exc c ns ds sl' => rw [e3] at g; exact GoX.step (P := fun σ' => σ' = σ) g (E1.trans E2) fun _ z => z
      | bad => rw [e3] at g; exact g
    | exc c ns ds sl' => rw [e2] at g; exact GoX.step (P := fun σ' => σ' = σ) g E1 fun _ z => z
    | bad => rw [e2] at g; exact g
  | exc c ns ds sl' => rw [e1] at g; exact g
  | bad => rw [e1] at g; exact g
end
end Ml

set_option maxHeartbeats 4000000
/-! Truth, tests, and, or, not, conditional expressions, isinstance. -/
namespace Ml
open PySem L2 PyProof.Rows

def truD : D → Option Bool
  | .non => some false
  | .bl b => some b
  | .int i => some (i != 0)
  | .str x => if x.length ≤ sizeLine then some ((x.length : Int) != 0) else none
  | .lst xs => some (!xs.isEmpty)
  | .scr xs => some (!xs.isEmpty)
  | .tup xs => some (!xs.isEmpty)
  | .ins _ _ _ => none
/-- a test: its answer -/
abbrev TB := List Sl → Out (Bool × List Sl)
def mT (m : M) : TB := fun sl => match m sl with
  | .ok (rv, sl') => match truD rv.d with
    | some b => .ok (b, sl')
    | none => .bad
  | .exc c ns ds sl' => .exc c ns ds sl'
  | .bad => .bad
def notT (t : TB) : TB := fun sl => match t sl with
  | .ok (b, sl') => .ok (!b, sl')
  | .exc c ns ds sl' => .exc c ns ds sl'
  | .bad => .bad
def andT (t u : TB) : TB := fun sl => match t sl with
  | .ok (b, sl') => if b = true then u sl' else .ok (false, sl')
  | .exc c ns ds sl' => .exc c ns ds sl'
  | .bad => .bad
def orT (t u : TB) : TB := fun sl => match t sl with
  | .ok (b, sl') => if b = true then .ok (true, sl') else u sl'
  | .exc c ns ds sl' => .exc c ns ds sl'
  | .bad => .bad
/-- a or b, a and b by value -/
def mOr (m n : M) : M := fun sl => match m sl with
  | .ok (rv, sl') => match truD rv.d with
    | some b => if b = true then .ok (.sh rv.d, sl') else n sl'
    | none => .bad
  | .exc c ns ds sl' => .exc c ns ds sl'
  | .bad => .bad
def mAnd (m n : M) : M := fun sl => match m sl with
  | .ok (rv, sl') => match truD rv.d with
    | some b => if b = true then n sl' else .ok (.sh rv.d, sl')
    | none => .bad
  | .exc c ns ds sl' => .exc c ns ds sl'
  | .bad => .bad
def mNot (m : M) : M := fun sl => match m sl with
  | .ok (rv, sl') => match truD rv.d with
    | some b => .ok (.sh (.bl (!b)), sl')
    | none => .bad
  | .exc c ns ds sl' => .exc c ns ds sl'
  | .bad => .bad
def mIf (t : TB) (m n : M) : M := fun sl => match t sl with
  | .ok (b, sl') => if b = true then m sl' else n sl'
  | .exc c ns ds sl' => .exc c ns ds sl'
  | .bad => .bad
section
variable (K : PySem.W.Frag) (ct : Nat → Addr) (W : WX) (bo : Nat → Addr)
def GoB (O : Addr → Prop) (σ : L2.St) (F H : Hp) (r : Out (Bool × List Sl)) (Q : Bool → Hp → Prop) : Prop :=
  match r with
  | .ok (b, sl') => ∀ F' H', Rst K ct bo F' H' σ sl' → Ext O F H (Own σ sl') F' H' → Q b H'
  | .exc c ns ds sl' => GoX K ct W bo O F H c ns ds sl' (fun σ' => σ' = σ)
  | .bad => False
def tTT (t : TB) : TT := fun σ H Q => ∃ bo F sl, Rst K ct bo F H σ sl ∧ GoB K ct W bo (Own σ sl) σ F H (t sl) Q
end
section
variable {K : PySem.W.Frag} {ct : Nat → Addr} {W : WX} {bo : Nat → Addr} {F H : Hp} {σ : L2.St} {sl : List Sl} {X : Cx} {e a b : Expr} {pos : Pos} {rest : List Expr}
theorem GoB.step {O O1 : Addr → Prop} {F1 H1 : Hp} {r : Out (Bool × List Sl)} {Q : Bool → Hp → Prop} (g : GoB K ct W bo O σ F H r Q) (e : Ext O F H O1 F1 H1) : GoB K ct W bo O1 σ F1 H1 r Q := by
  cases r with
  | ok p => obtain ⟨b, sl'⟩ := p; exact fun F' H' R y => g F' H' R (e.trans y)
  | exc c ns ds sl' => exact GoX.step (P := fun σ' => σ' = σ) g e fun _ z => z
  | bad => exact g
theorem At.tru {d : D} {v : V} {k : Bool} (e : Ex F H) (h : At K ct F d v) (g : truD d = some k) : TruV K v H k := by
  cases d with
  | non => simp only [At] at h; subst h; cases g; rfl
  | bl b => simp only [At] at h; subst h; cases g; rfl
  | int i => simp only [At] at h; subst h; cases g; rfl
  | str x =>
    simp only [At] at h
    subst h
    simp only [truD] at g
    split at g
    · rename_i hl; cases g; exact ⟨hl, rfl⟩
    · cases g
  | lst xs =>
    simp only [At] at h
    obtain ⟨p, us, rfl, e3, e4⟩ := h
    cases g
    refine .inl ⟨us, SqL.of (e _ _ e3), ?_⟩
    have := e4.length
    cases us <;> cases xs <;> first | rfl | cases this
  | scr xs =>
    simp only [At] at h
    obtain ⟨p, us, rfl, e3, e4⟩ := h
    cases g
    refine .inl ⟨us, ex_l e e3, ?_⟩
    have := e4.length
    cases us <;> cases xs <;> first | rfl | cases this
  | tup xs =>
    simp only [At] at h
    obtain ⟨p, us, rfl, e3, e4⟩ := h
    cases g
    refine .inr (.inl ⟨us, ex_t e e3, ?_⟩)
    have := e4.length
    cases us <;> cases xs <;> first | rfl | cases this
  | ins c ns ds => cases g
/-- a value asked for its truth -/
theorem use_t {m : M} {Q : Bool → Hp → Prop} (R : Rst K ct bo F H σ sl) (g : GoB K ct W bo (Own σ sl) σ F H (mT m sl) Q) : tM K ct W m σ H (fun x H1 => ∃ k, TruV K x H1 k ∧ Q k H1) := by
  refine use_d R ?_
  unfold mT at g
  cases e : m sl with
  | ok p =>
    obtain ⟨rv, sl'⟩ := p
    rw [e] at g
    simp only at g
    intro v F' H' R' a E
    cases e2 : truD rv.d with
    | none => rw [e2] at g; exact g.elim
    | some k => rw [e2] at g; exact ⟨k, a.tru R'.ex e2, g F' H' R' E⟩
  | exc c ns ds sl' => rw [e] at g; exact g
  | bad => rw [e] at g; exact g
theorem te_val {m : M} (hK : K = X.K) (h : PE X e (tM K ct W m)) (he : ∀ whole, isTrue e X.env whole = (do let v ← whole; standAt e.pos; holding [v] (truthy v)) := by intro _; rfl) : PT X e (tTT K ct W (mT m)) := by
  subst hK
  refine pt_imp (pt_truth h he) fun σ H Q x => ?_
  obtain ⟨bo, F, sl, R, g⟩ := x
  exact use_t R g
theorem te_cmp {op : CmpOp} {r : R2} {f : List D → Option RK} {ar br : Ar} (ho : OpR X (compareOp op) r) (hf : OpL K ct (l2 r) f) (hB : ∀ ds k, f ds = some k → ∃ c, k = .v (.bl c)) (ha : PE X a (tAr K ct W ar)) (hb : PE X b (tAr K ct W br)) (hm : behindInMarks op b = false) :
    PT X (.Compare a [op] [b] pos) (tTT K ct W (mT (mOp f [ar, br]))) := by
  refine pt_imp (pt_cmpR ho ha hb hm) fun σ H Q x => ?_
  obtain ⟨bo, F, sl, R, g⟩ := x
  refine go2 (Q := fun x H' => ∃ k, x = .bl k ∧ Q k H') hf ⟨bo, F, sl, R, ?_⟩
  unfold mT at g
  cases e : mOp f [ar, br] sl with
  | ok p =>
    obtain ⟨rv, sl'⟩ := p
    rw [e] at g
    simp only at g
    have : ∃ c, rv = .sh (.bl c) := by
      unfold mOp at e
      split at e
      · split at e
        · split at e
          · rename_i k hk
            obtain ⟨c, hc⟩ := hB _ _ hk
            subst hc
            cases e
            exact ⟨c, rfl⟩
          · cases e
        · cases e
      · cases e
      · cases e
    obtain ⟨c, rfl⟩ := this
    intro v F' H' R' a E
    simp only [RvAt, At] at a
    exact ⟨c, a, g F' H' R' (E.less fun b z => .inl z)⟩
  | exc c ns ds sl' => rw [e] at g; exact g
  | bad => rw [e] at g; exact g
theorem te_not {t : TB} (h : PT X e (tTT K ct W t)) : PT X (.UnaryOp .Not e pos) (tTT K ct W (notT t)) := pt_imp (pt_not h) fun σ H Q x => by
  obtain ⟨bo, F, sl, R, g⟩ := x
  refine ⟨bo, F, sl, R, ?_⟩
  unfold notT at g
  cases e : t sl with
  | ok p => obtain ⟨b, sl'⟩ := p; rw [e] at g; exact g
  | exc c ns ds sl' => rw [e] at g; exact g
  | bad => rw [e] at g; exact g
theorem tw_and {t u : TB} (h1 : PT X a (tTT K ct W t)) (h2 : PW X (.BoolOp .And (b :: rest) pos) (tTT K ct W u)) : PW X (.BoolOp .And (a :: b :: rest) pos) (tTT K ct W (andT t u)) := pw_imp (pw_and h1 h2) fun σ H Q x => by
  obtain ⟨bo, F, sl, R, g⟩ := x
  refine ⟨bo, F, sl, R, ?_⟩
  unfold andT at g
  cases e : t sl with
  | ok p =>
    obtain ⟨b, sl'⟩ := p
    rw [e] at g
    intro F' H' R' E
    cases b with
    | true =>
      rw [if_pos rfl]
      simp only [if_true] at g
      exact ⟨bo, F', sl', R', g.step E⟩
    | false =>
      rw [if_neg (by decide)]
      exact g F' H' R' E
  | exc c ns ds sl' => rw [e] at g; exact g
  | bad => rw [e] at g; exact g
theorem tw_or {t u : TB} (h1 : PT X a (tTT K ct W t)) (h2 : PW X (.BoolOp .Or (b :: rest) pos) (tTT K ct W u)) : PW X (.BoolOp .Or (a :: b :: rest) pos) (tTT K ct W (orT t u)) := pw_imp (pw_or h1 h2) fun σ H Q x => by
  obtain ⟨bo, F, sl, R, g⟩ := x
  refine ⟨bo, F, sl, R, ?_⟩
  unfold orT at g
  cases e : t sl with
  | ok p =>
    obtain ⟨b, sl'⟩ := p
    rw [e] at g
    intro F' H' R' E
    cases b with
    | true =>
      rw [if_pos rfl]
      exact g F' H' R' E
    | false =>
      rw [if_neg (by decide)]
      simp only [Bool.false_eq_true, if_false] at g
      exact ⟨bo, F', sl', R', g.step E⟩
  | exc c ns ds sl' => rw [e] at g; exact g
  | bad => rw [e] at g; exact g
theorem tw_and1 {t : TB} (h : PT X a (tTT K ct W t)) : PW X (.BoolOp .And [a] pos) (tTT K ct W t) := pw_and1 h
theorem tw_or1 {t : TB} (h : PT X a (tTT K ct W t)) : PW X (.BoolOp .Or [a] pos) (tTT K ct W t) := pw_or1 h
theorem te_w {t : TB} (h : PW X e (tTT K ct W t)) : PT X e (tTT K ct W t) := h.pt
/-! values -/
theorem sv_or {m n : M} (hK : K = X.K) (h1 : PE X a (tM K ct W m)) (h2 : PE X (.BoolOp .Or (b :: rest) pos) (tM K ct W n)) : PE X (.BoolOp .Or (a :: b :: rest) pos) (tM K ct W (mOr m n)) := by
  subst hK
  refine pe_imp (pe_orT h1 h2) fun σ H Q x => ?_
  obtain ⟨bo, F, sl, R, g⟩ := x
  refine use_d R ?_
  unfold mOr at g
  cases e : m sl with
  | ok p =>
    obtain ⟨rv, sl'⟩ := p
    rw [e] at g
    simp only at g
    intro v F' H' R' a' E
    cases e2 : truD rv.d with
    | none => rw [e2] at g; exact g.elim
    | some k =>
      rw [e2] at g
      refine ⟨k, a'.tru R'.ex e2, ?_⟩
      cases k with
      | true =>
        rw [if_pos rfl]
        simp only [if_true] at g
        exact g v F' H' R' a' (E.less fun b z => by rcases z with z | z; exact z; exact z.elim)
      | false =>
        rw [if_neg (by decide)]
        simp only [Bool.false_eq_true, if_false] at g
        exact ⟨bo, F', sl', R', g.step E⟩
  | exc c ns ds sl' => rw [e] at g; exact g
  | bad => rw [e] at g; exact g
theorem sv_and {m n : M} (hK : K = X.K) (h1 : PE X a (tM K ct W m)) (h2 : PE X (.BoolOp .And (b :: rest) pos) (tM K ct W n)) : PE X (.BoolOp .And (a :: b :: rest) pos) (tM K ct W (mAnd m n)) := by
  subst hK
  refine pe_imp (pe_andT h1 h2) fun σ H Q x => ?_
  obtain ⟨bo, F, sl, R, g⟩ := x
  refine use_d R ?_
  unfold mAnd at g
  cases e : m sl with
  | ok p =>
    obtain ⟨rv, sl'⟩ := p
    rw [e] at g
    simp only at g
    intro v F' H' R' a' E
    cases e2 : truD rv.d with
    | none => rw [e2] at g; exact g.elim
    | some k =>
      rw [e2] at g
      refine ⟨k, a'.tru R'.ex e2, ?_⟩
      cases k with
      | true =>
        rw [if_pos rfl]
        simp only [if_true] at g
        exact ⟨bo, F', sl', R', g.step E⟩
      | false =>
        rw [if_neg (by decide)]
        simp only [Bool.false_eq_true, if_false] at g
        exact g v F' H' R' a' (E.less fun b z => by rcases z with z | z; exact z; exact z.elim)
  | exc c ns ds sl' => rw [e] at g; exact g
  | bad => rw [e] at g; exact g
theorem sv_one {op : PySem.BoolOp} {m : M} (h : PE X a (tM K ct W m)) : PE X (.BoolOp op [a] pos) (tM K ct W m) := pe_one h
theorem sv_not {m : M} (hK : K = X.K) (h : PE X a (tM K ct W m)) : PE X (.UnaryOp .Not a pos) (tM K ct W (mNot m)) := by
  subst hK
  refine pe_imp (pe_notT h) fun σ H Q x => ?_
  obtain ⟨bo, F, sl, R, g⟩ := x
  refine use_d R ?_
  unfold mNot at g
  cases e : m sl with
  | ok p =>
    obtain ⟨rv, sl'⟩ := p
    rw [e] at g
    simp only at g
    intro v F' H' R' a' E
    cases e2 : truD rv.d with
    | none => rw [e2] at g; exact g.elim
    | some k =>
      rw [e2] at g
      exact ⟨k, a'.tru R'.ex e2, g _ F' H' R' (by simp only [RvAt, At]) (E.less fun b z => by rcases z with z | z; exact z; exact z.elim)⟩
  | exc c ns ds sl' => rw [e] at g; exact g
  | bad => rw [e] at g; exact g
theorem sv_if {c : Expr} {t : TB} {m n : M} (h : PT X c (tTT K ct W t)) (h1 : PE X a (tM K ct W m)) (h2 : PE X b (tM K ct W n)) : PE X (.IfExp c a b pos) (tM K ct W (mIf t m n)) := pe_imp (pe_ifExp h h1 h2) fun σ H Q x => by
  obtain ⟨bo, F, sl, R, g⟩ := x
  refine ⟨bo, F, sl, R, ?_⟩
  unfold mIf at g
  cases e : t sl with
  | ok p =>
    obtain ⟨k, sl'⟩ := p
    rw [e] at g
    intro F' H' R' E
    cases k with
    | true =>
      rw [if_pos rfl]
      simp only [if_true] at g
      exact ⟨bo, F', sl', R', g.step E⟩
    | false =>
      rw [if_neg (by decide)]
      simp only [Bool.false_eq_true, if_false] at g
      exact ⟨bo, F', sl', R', g.step E⟩
  | exc c ns ds sl' => rw [e] at g; exact g
  | bad => rw [e] at g; exact g
end

/-! ### isinstance -/
inductive TK where
  | non | bl | int | str | lst | tup | ins (c : Nat)
  deriving DecidableEq
def D.tk : D → Option TK
  | .non => some .non
  | .bl _ => some .bl
  | .int _ => some .int
  | .str _ => some .str
  | .lst _ => some .lst
  | .scr _ => none
  | .tup _ => some .tup
  | .ins c _ _ => some (.ins c)
def TK.v (ct : Nat → Addr) : TK → Value
  | .non => .type "NoneType"
  | .bl => .type "bool"
  | .int => .type "int"
  | .str => .type "str"
  | .lst => .type "list"
  | .tup => .type "tuple"
  | .ins c => .ref (ct c)
def fIsi (g : TK → Option Bool) : List D → Option RK
  | [d] => match d.tk with
    | some t => (g t).map fun b => .v (.bl b)
    | none => none
  | _ => none
/-- what is known of an own class, for isinstance -/
structure ClsIs (K : PySem.W.Frag) (C : Addr) : Prop where
  cl : Cls K C
  ha : PySem.W.findIn K (.ref C) "__class__" = some (some (.builtin "object.__class__"))
  hn : PySem.W.specialIn K (.builtin "object.__class__") "__get__" = some (some (.builtin "getset_descriptor.__get__"))
  ht : PySem.W.takesIn K (.builtin "object.__class__") = some true
  hm : PySem.W.mroIn K C (.type "object") = some true
structure IsiOk (K : PySem.W.Frag) (ct : Nat → Addr) (g : TK → Option Bool) (u : Value) : Prop where
  kit : ∀ t b, g t = some b → PySem.W.kitOne K (t.v ct) u = some b
  ins : ∀ c b, g (.ins c) = some b → ClsIs K (ct c)
section
variable {K : PySem.W.Frag} {ct : Nat → Addr} {W : WX} {X : Cx} {e T : Expr} {ar : Ar} {p pos : Pos} {cv : V} {u : Value} {g : TK → Option Bool}
theorem AtP.ty {F H : Hp} {d : D} {v : V} {t : TK} {b : Bool} (ok : IsiOk K ct g u) (h : AtP K ct F H d v) (ht : d.tk = some t) (hb : g t = some b) : TyX K H v (t.v ct) := by
  cases d with
  | non => cases h; cases ht; exact .base .non
  | bl b => cases h; cases ht; exact .base (.bl _)
  | int i => cases h; cases ht; exact .base (.int _)
  | str x => cases h; cases ht; exact .base (.str _)
  | lst xs => obtain ⟨p, us, rfl, e3, e4⟩ := h; cases ht; exact .base (.lst e3)
  | scr xs => cases ht
  | tup xs =>
    obtain ⟨p, us, rfl, e3, e4⟩ := h
    cases ht
    rcases e3 with (e3 | ⟨o, e3⟩) | ⟨o, its, n, e3, e5, _⟩
    · exact .base (.tup e3)
    · exact .fTuple e3
    · exact .kTuple e3 e5
  | ins c ns ds =>
    obtain ⟨p, dx, us, rfl, e3, e4, _⟩ := h
    cases ht
    have q := ok.ins c b hb
    exact .base (.ins e3 q.cl q.ha q.hn q.ht q.hm)
theorem se_isi (hK : K = X.K) (ok : IsiOk K ct g u) (hv : ClsV cv u) (hg : Gl X "isinstance") (hm : X.mg "isinstance" = none) (he : PE X e (tAr K ct W ar)) (hT : PE X T (tC cv))
    (hs1 : starEach [T] X.env = (false, eval T X.env) :: starEach [] X.env := by rfl) (hs2 : starEach [e, T] X.env = (false, eval e X.env) :: starEach [T] X.env := by rfl) (hpl : (backTo pos (starEach [T] X.env)).any (·.1) = false := by rfl) :
    PE X (.Call (.Name "isinstance" p) [e, T] [] pos) (tM K ct W (mOp (fIsi g) [ar])) := by
  subst hK
  refine pe_imp (pe_callB call_isi hg hm PyProof.Rows.boot_isinstance (pa_cons he (pa_cons hT pa_nil hs1) hs2) (by decide) (by decide) hs2 hpl) fun σ H Q x => ?_
  obtain ⟨bo, F, sl, R, gg⟩ := x
  have q := op_core (r := fun vs H Q => ∃ x, vs = [x] ∧ rIsi X.K [x, cv] H Q) (fun F H vs ds k Q ex a h q => by
    unfold fIsi at h
    split at h
    · split at h
      · rename_i t ht
        cases hb : g t with
        | none => rw [hb] at h; cases h
        | some b =>
          rw [hb] at h
          cases h
          obtain ⟨v, rfl, e1⟩ := ap1 a
          exact ⟨v, rfl, v, cv, t.v ct, u, b, rfl, hv, e1.ty ok ht hb, ok.kit t b hb, q _ (by simp only [At])⟩
      · cases h
    · cases h) R gg
  refine go2.tAr_mono q fun v H1 h1 => ?_
  obtain ⟨x, e1, h⟩ := h1
  cases e1
  exact h
end
end Ml

set_option maxHeartbeats 4000000
/-! Statements that store. -/
namespace Ml
open PySem L2 PyProof.Rows

def RV.sl : RV → Sl
  | .sh d => .sh d
  | .fr o => .ow o
def Sl.free : Sl → Bool
  | .no | .sh _ | .ow _ => true
  | _ => false
def Sl.upd : Sl → Ob → Sl
  | .ow _, o => .ow o
  | .bo _, o => .bo o
  | s, _ => s
/-- an object that may be changed -/
def Sl.mob : Sl → Option Ob
  | .ow o => some o
  | .bo o => some o
  | _ => none
section
variable {K : PySem.W.Frag} {ct : Nat → Addr} {W : WX} {bo : Nat → Addr} {F H : Hp} {σ : L2.St} {sl : List Sl} {X : Cx} {e a b : Expr} {pos : Pos}
theorem get_set_eq {α : Type} {l : List α} {j : Nat} {x y : α} (h : l[j]? = some y) : (l.set j x)[j]? = some x := by
  rw [List.getElem?_set]
  simp only [if_true]
  rw [if_pos (List.getElem?_eq_some_iff.mp h).1]
theorem get_set_ne {α : Type} {l : List α} {i j : Nat} {x : α} (h : i ≠ j) : (l.set j x)[i]? = l[i]? := List.getElem?_set_ne (Ne.symm h)
theorem get_some_lt {α β : Type} {l : List α} {m : List β} (h : l.length = m.length) {j : Nat} {y : β} (e : m[j]? = some y) : ∃ x, l[j]? = some x := by
  have := (List.getElem?_eq_some_iff.mp e).1
  exact ⟨_, List.getElem?_eq_getElem (by omega)⟩
/-- a name takes what an expression gave -/
theorem Rst.store (R : Rst K ct bo F H σ sl) {j : Nat} {s : Sl} {rv : RV} {v : V} (e : sl[j]? = some s) (hf : s.free = true) (x : RvAt K ct F H σ sl rv v) :
    Rst K ct bo F H (σ.set j (some v)) (sl.set j rv.sl) ∧ ∀ b, Own (σ.set j (some v)) (sl.set j rv.sl) b → Own σ sl b ∨ OwnR rv v b := by
  obtain ⟨y, ey⟩ := get_some_lt R.len e
  have key : ∀ {i : Nat} {a : Addr}, Has (σ.set j (some v)) (sl.set j rv.sl) i a → (i ≠ j ∧ Has σ sl i a) ∨ (i = j ∧ ∃ o, rv = .fr o ∧ v = .ref a) := fun {i a} z => by
    obtain ⟨s', h1, h2, h3⟩ := z
    by_cases q : i = j
    · subst q
      rw [get_set_eq e] at h1
      rw [get_set_eq ey] at h3
      cases h1
      have := Option.some.inj (Option.some.inj h3)
      cases rv with
      | sh d => cases h2
      | fr o => exact .inr ⟨rfl, o, rfl, this⟩
    · rw [get_set_ne q] at h1 h3
      exact .inl ⟨q, s', h1, h2, h3⟩
  refine ⟨⟨R.ex, fun i s' h => ?_, fun i i' a z z' => ?_, by rw [List.length_set, List.length_set, R.len]⟩, fun b z => ?_⟩
  · by_cases q : i = j
    · subst q
      rw [get_set_eq e] at h
      rw [get_set_eq ey]
      cases h
      cases rv with
      | sh d => exact ⟨v, rfl, x⟩
      | fr o => obtain ⟨p, h, x1, x2, x3, x4, x5⟩ := x; exact ⟨p, h, by rw [x1], x2, x3, x4⟩
    · rw [get_set_ne q] at h
      rw [get_set_ne q]
      exact R.rel i s' h
  · rcases key z with ⟨q, w⟩ | ⟨q, o, w1, w2⟩
    · rcases key z' with ⟨q', w'⟩ | ⟨q', o', w1', w2'⟩
      · exact R.ds i i' a w w'
      · subst w1'
        obtain ⟨p, h, x1, x2, x3, x4, x5⟩ := x
        rw [x1] at w2'
        have : p = a := by injection w2'
        subst this
        exact absurd w (x5 i)
    · rcases key z' with ⟨q', w'⟩ | ⟨q', o', w1', w2'⟩
      · subst w1
        obtain ⟨p, h, x1, x2, x3, x4, x5⟩ := x
        rw [x1] at w2
        have : p = a := by injection w2
        subst this
        exact absurd w' (x5 i')
      · rw [q, q']
  · obtain ⟨i, s', h1, h2, h3⟩ := z
    by_cases q : i = j
    · subst q
      rw [get_set_eq e] at h1
      rw [get_set_eq ey] at h3
      cases h1
      have := Option.some.inj (Option.some.inj h3)
      cases rv with
      | sh d => cases h2
      | fr o => exact .inr this
    · rw [get_set_ne q] at h1 h3
      exact .inl ⟨i, s', h1, h2, h3⟩
theorem Sl.upd_has {s : Sl} {o : Ob} : (s.upd o).hasB = s.hasB := by cases s <;> rfl
theorem Sl.upd_mut {s : Sl} {o : Ob} : (s.upd o).mutB = s.mutB := by cases s <;> rfl
/-- an object that slot j may change is changed -/
theorem Rst.mut (R : Rst K ct bo F H σ sl) {j : Nat} {s : Sl} {a : Addr} {o : Ob} {h : HO} (e : sl[j]? = some s) (hm : s.mutB = true) (ea : σ[j]? = some (some (.ref a))) (x : ObAt K ct F o h) :
    Rst K ct bo F (upd H a h) σ (sl.set j (s.upd o)) ∧ Ext (Own σ sl) F H (Own σ (sl.set j (s.upd o))) F (upd H a h) := by
  have hj : Has σ sl j a := ⟨s, e, Sl.has_of_mut hm, ea⟩
  have fa := (R.out hj).1
  have key : ∀ {i : Nat} {b : Addr}, Has σ (sl.set j (s.upd o)) i b → Has σ sl i b := fun {i b} z => by
    obtain ⟨s', h1, h2, h3⟩ := z
    by_cases q : i = j
    · subst q
      rw [get_set_eq e] at h1
      cases h1
      rw [Sl.upd_has] at h2
      exact ⟨s, e, h2, h3⟩
    · rw [get_set_ne q] at h1
      exact ⟨s', h1, h2, h3⟩
  refine ⟨⟨fun b u z => ?_, fun i s' z => ?_, fun i i' b z z' => R.ds i i' b (key z) (key z'), by rw [List.length_set, R.len]⟩, ⟨Ex.refl F, fun b u z => ?_, fun b z => .inl z, fun b z => ?_⟩⟩
  · have ne : b ≠ a := fun w => by rw [w, fa] at z; cases z
    rw [upd_ne ne]
    exact R.ex b u z
  · by_cases q : i = j
    · subst q
      rw [get_set_eq e] at z
      cases z
      have qr := R.rel i s e
      cases s with
      | no => cases hm
      | sh d => cases hm
      | lk b o => cases hm
      | ow o0 => exact ⟨a, h, ea, fa, upd_same, x⟩
      | bo o0 =>
        obtain ⟨h0, e1, _⟩ := qr
        rw [ea] at e1
        have : a = bo i := by injection Option.some.inj (Option.some.inj e1)
        subst this
        exact ⟨h, ea, fa, upd_same, x⟩
    · rw [get_set_ne q] at z
      have qr := R.rel i s' z
      have away : ∀ {b : Addr}, s'.hasB = true → σ[i]? = some (some (.ref b)) → upd H a h b = H b := fun {b} h2 h3 => by
        have ne : b ≠ a := fun w => q (R.ds i j a ⟨s', z, h2, by rw [← w]; exact h3⟩ hj)
        exact upd_ne ne
      cases s' with
      | no => trivial
      | sh d => exact qr
      | ow o => obtain ⟨b, u, q1, q2, q3, q4⟩ := qr; exact ⟨b, u, q1, q2, by rw [away rfl q1]; exact q3, q4⟩
      | bo o => obtain ⟨u, q1, q2, q3, q4⟩ := qr; exact ⟨u, q1, q2, by rw [away rfl q1]; exact q3, q4⟩
      | lk b o => obtain ⟨u, q1, q2, q3, q4⟩ := qr; exact ⟨u, q1, q2, by rw [away rfl q1]; exact q3, q4⟩
  · by_cases w : b = a
    · exact .inl ⟨j, s, e, hm, by rw [w]; exact ea⟩
    · exact .inr (by rw [upd_ne w]; exact z)
  · obtain ⟨i, s', h1, h2, h3⟩ := z
    by_cases q : i = j
    · subst q
      rw [get_set_eq e] at h1
      cases h1
      rw [Sl.upd_mut] at h2
      exact .inl ⟨i, s, e, h2, h3⟩
    · rw [get_set_ne q] at h1
      exact .inl ⟨i, s', h1, h2, h3⟩
/-- the object that slot j may change, as it stands -/
theorem Rst.mobj (R : Rst K ct bo F H σ sl) {j : Nat} {s : Sl} {o : Ob} (e : sl[j]? = some s) (hm : s.mob = some o) : s.mutB = true ∧ ∃ a h, σ[j]? = some (some (.ref a)) ∧ H a = some h ∧ ObAt K ct F o h := by
  have q := R.rel j s e
  cases s with
  | no => cases hm
  | sh d => cases hm
  | lk b o => cases hm
  | ow o0 => cases hm; obtain ⟨a, h, q1, q2, q3, q4⟩ := q; exact ⟨rfl, a, h, q1, q3, q4⟩
  | bo o0 => cases hm; obtain ⟨h, q1, q2, q3, q4⟩ := q; exact ⟨rfl, _, h, q1, q3, q4⟩

theorem GoS.x {O : Addr → Prop} {c : Nat} {ns : List Str} {ds : List D} {sl' : List Sl} {D : Ends} {σ : L2.St} (g : GoS K ct W bo O F H (.exc c ns ds sl') D) : GoX K ct W bo O F H c ns ds sl' (fun σ' => σ' = σ) :=
  GoX.step (P := fun _ => True) g Ext.refl fun _ _ => trivial

/-! ### sequences -/
def mSeq (m n : MS) : MS := fun sl => match m sl with
  | .ok (.nx, sl') => n sl'
  | r => r
def mNx : MS := fun sl => .ok (.nx, sl)
/-- slots that are dead are forgotten -/
def fgs : List Nat → List Sl → List Sl
  | [], sl => sl
  | j :: js, sl => fgs js (sl.set j .no)
def fgt (js : List Nat) (m : MS) : MS := fun sl => match m sl with
  | .ok (f, sl') => .ok (f, fgs js sl')
  | r => r
theorem ss_nil : PSs X [] (tS K ct W mNx) := pss_imp pss_nil fun D σ H x => by
  obtain ⟨bo, F, sl, R, g⟩ := x
  exact g σ F H R Ext.refl
theorem ss_cons {st : Stmt} {rest : List Stmt} {m n : MS} (h1 : PS X st (tS K ct W m)) (h2 : PSs X rest (tS K ct W n)) : PSs X (st :: rest) (tS K ct W (mSeq m n)) := pss_imp (pss_cons h1 h2) fun D σ H x => by
  obtain ⟨bo, F, sl, R, g⟩ := x
  refine ⟨bo, F, sl, R, ?_⟩
  unfold mSeq at g
  cases e : m sl with
  | ok p =>
    obtain ⟨f, sl'⟩ := p
    rw [e] at g
    cases f with
    | nx => exact fun σ' F' H' R' E => ⟨bo, F', sl', R', g.step E⟩
    | bk => exact g
    | ct => exact g
    | rt rv => exact g
  | exc c ns ds sl' => rw [e] at g; exact g
  | bad => rw [e] at g; exact g
theorem ss_one {st : Stmt} {m : MS} (h1 : PS X st (tS K ct W m)) : PSs X [st] (tS K ct W m) := pss_one h1
theorem fgs_ok (js : List Nat) : ∀ {sl : List Sl}, Rst K ct bo F H σ sl → Rst K ct bo F H σ (fgs js sl) ∧ ∀ b, Own σ (fgs js sl) b → Own σ sl b := by
  induction js with
  | nil => exact fun R => ⟨R, fun _ h => h⟩
  | cons j js ih => exact fun R => ⟨(ih (R.forget j)).1, fun b h => own_set rfl ((ih (R.forget j)).2 b h)⟩
theorem fgs_has (js : List Nat) {i : Nat} {c : Addr} : ∀ {sl : List Sl}, Has σ (fgs js sl) i c → Has σ sl i c := by
  induction js with
  | nil => exact fun h => h
  | cons j js ih => exact fun h => (has_set rfl (ih h)).1
theorem fgt_ok {js : List Nat} {m : MS} {D : Ends} (x : tS K ct W (fgt js m) D σ H) : tS K ct W m D σ H := by
  obtain ⟨bo, F, sl, R, g⟩ := x
  refine ⟨bo, F, sl, R, ?_⟩
  unfold fgt at g
  cases e : m sl with
  | ok p =>
    obtain ⟨f, sl'⟩ := p
    rw [e] at g
    cases f with
    | nx => exact fun σ' F' H' R' E => g σ' F' H' (fgs_ok js R').1 (E.less (fgs_ok js R').2)
    | bk => exact fun σ' F' H' R' E => g σ' F' H' (fgs_ok js R').1 (E.less (fgs_ok js R').2)
    | ct => exact fun σ' F' H' R' E => g σ' F' H' (fgs_ok js R').1 (E.less (fgs_ok js R').2)
    | rt rv =>
      intro v σ' F' H' R' x E
      refine g v σ' F' H' (fgs_ok js R').1 ?_ (E.less fun b z => z.imp ((fgs_ok js R').2 b) id)
      cases rv with
      | sh d => exact x
      | fr o => obtain ⟨p, h, x1, x2, x3, x4, x5⟩ := x; exact ⟨p, h, x1, x2, x3, x4, fun i z => x5 i (fgs_has js z)⟩
  | exc c ns ds sl' => rw [e] at g; exact g
  | bad => rw [e] at g; exact g
theorem ss_fgt {sts : List Stmt} (js : List Nat) {m : MS} (h : PSs X sts (tS K ct W m)) : PSs X sts (tS K ct W (fgt js m)) := pss_imp h fun D σ H x => fgt_ok x
theorem st_fgt {st : Stmt} (js : List Nat) {m : MS} (h : PS X st (tS K ct W m)) : PS X st (tS K ct W (fgt js m)) := ps_imp h fun D σ H x => fgt_ok x

/-! ### x = e -/
def mAsg (j : Nat) (m : M) : MS := fun sl => match m sl with
  | .ok (rv, sl') => match sl'[j]? with
    | some s => if s.free = true then .ok (.nx, sl'.set j rv.sl) else .bad
    | none => .bad
  | .exc c ns ds sl' => .exc c ns ds sl'
  | .bad => .bad
theorem asg_core {j : Nat} {m : M} {D : Ends} (x : tS K ct W (mAsg j m) D σ H) : tAsg (tM K ct W m) (gName j) D σ H := by
  obtain ⟨bo, F, sl, R, g⟩ := x
  refine ⟨bo, F, sl, R, ?_⟩
  unfold mAsg at g
  cases e : m sl with
  | ok p =>
    obtain ⟨rv, sl'⟩ := p
    rw [e] at g
    simp only at g
    intro v F' H' R' x E
    cases e2 : sl'[j]? with
    | none => rw [e2] at g; exact g.elim
    | some s =>
      rw [e2] at g
      simp only at g
      split at g
      · rename_i hf
        obtain ⟨R2, o2⟩ := R'.store e2 hf x
        exact g _ F' H' R2 (E.less o2)
      · exact g.elim
  | exc c ns ds sl' => rw [e] at g; exact g.x
  | bad => rw [e] at g; exact g
theorem st_asg {x : Str} {p : Pos} {j : Nat} {m : M} (hN : X.N.Nodup) (hi : X.N[j]? = some x) (hx : Loc X.env.scope x) (he : PE X e (tM K ct W m)) (hs : swapsWith e (some (.Name x p)) pos.line X.env = pure false := by rfl)
    (hf : X.fn x = true ∨ X.env.scope.names.lookup x = some .local := by first | exact .inl rfl | exact .inr rfl | assumption) : PS X (.Assign [.Name x p] e pos) (tS K ct W (mAsg j m)) :=
  ps_imp (ps_set hN hi hx he hs hf) fun D σ H x => asg_core x

/-! ### e as a statement -/
def mEx (m : M) : MS := fun sl => match m sl with
  | .ok (_, sl') => .ok (.nx, sl')
  | .exc c ns ds sl' => .exc c ns ds sl'
  | .bad => .bad
theorem st_ex {m : M} (he : PE X e (tM K ct W m)) (hs : swapsWith e none pos.line X.env = pure false := by rfl) : PS X (.Expr e pos) (tS K ct W (mEx m)) := ps_imp (ps_expr he hs) fun D σ H x => by
  obtain ⟨bo, F, sl, R, g⟩ := x
  refine ⟨bo, F, sl, R, ?_⟩
  unfold mEx at g
  cases e : m sl with
  | ok p => obtain ⟨rv, sl'⟩ := p; rw [e] at g; exact fun v F' H' R' x E => g σ F' H' R' (E.less fun b z => .inl z)
  | exc c ns ds sl' => rw [e] at g; exact g.x
  | bad => rw [e] at g; exact g

/-! ### return, pass, break, continue, if -/
def mRt (m : M) : MS := fun sl => match m sl with
  | .ok (rv, sl') => .ok (.rt rv, sl')
  | .exc c ns ds sl' => .exc c ns ds sl'
  | .bad => .bad
theorem st_rt {m : M} (he : PE X e (tM K ct W m)) : PS X (.Return (some e) pos) (tS K ct W (mRt m)) := ps_imp (ps_ret he) fun D σ H x => by
  obtain ⟨bo, F, sl, R, g⟩ := x
  refine ⟨bo, F, sl, R, ?_⟩
  unfold mRt at g
  cases e : m sl with
  | ok p => obtain ⟨rv, sl'⟩ := p; rw [e] at g; exact fun v F' H' R' x E => g v σ F' H' R' x E
  | exc c ns ds sl' => rw [e] at g; exact g.x
  | bad => rw [e] at g; exact g
def mRtN : MS := fun sl => .ok (.rt (.sh .non), sl)
theorem st_rtN : PS X (.Return none pos) (tS K ct W mRtN) := ps_imp ps_retN fun D σ H x => by
  obtain ⟨bo, F, sl, R, g⟩ := x
  exact g .non σ F H R (by simp only [RvAt, At]) (Ext.refl.less fun b z => by rcases z with z | z; exact z; exact z.elim)
theorem st_pass : PS X (.Pass pos) (tS K ct W mNx) := ps_imp ps_pass fun D σ H x => by
  obtain ⟨bo, F, sl, R, g⟩ := x
  exact g σ F H R Ext.refl
def mBk : MS := fun sl => .ok (.bk, sl)
def mCt : MS := fun sl => .ok (.ct, sl)
theorem st_break : PS X (.Break pos) (tS K ct W mBk) := ps_imp ps_break fun D σ H x => by
  obtain ⟨bo, F, sl, R, g⟩ := x
  exact g σ F H R Ext.refl
theorem st_continue : PS X (.Continue pos) (tS K ct W mCt) := ps_imp ps_continue fun D σ H x => by
  obtain ⟨bo, F, sl, R, g⟩ := x
  exact g σ F H R Ext.refl
def mIfS (t : TB) (m n : MS) : MS := fun sl => match t sl with
  | .ok (b, sl') => if b = true then m sl' else n sl'
  | .exc c ns ds sl' => .exc c ns ds sl'
  | .bad => .bad
theorem st_if {c : Expr} {sa sb : List Stmt} {t : TB} {m n : MS} (hc : PT X c (tTT K ct W t)) (ha : PSs X sa (tS K ct W m)) (hb : PSs X sb (tS K ct W n)) : PS X (.If c sa sb pos) (tS K ct W (mIfS t m n)) := ps_imp (ps_if hc ha hb) fun D σ H x => by
  obtain ⟨bo, F, sl, R, g⟩ := x
  refine ⟨bo, F, sl, R, ?_⟩
  unfold mIfS at g
  cases e : t sl with
  | ok p =>
    obtain ⟨k, sl'⟩ := p
    rw [e] at g
    intro F' H' R' E
    cases k with
    | true =>
      rw [if_pos rfl]
      simp only [if_true] at g
      exact ⟨bo, F', sl', R', g.step E⟩
    | false =>
      rw [if_neg (by decide)]
      simp only [Bool.false_eq_true, if_false] at g
      exact ⟨bo, F', sl', R', g.step E⟩
  | exc c ns ds sl' => rw [e] at g; exact g.x
  | bad => rw [e] at g; exact g

/-! ### xs.append(e), xs[i] = e, o.f = e -/
def mApp (j : Nat) (m : M) : MS := fun sl => match sl[j]? with
  | some s0 => match s0.mob with
    | some (.lst _) => match m sl with
      | .ok (rv, sl') => match sl'[j]? with
        | some s => match s.mob with
          | some (.lst xs) => if xs.length < sizeLine then .ok (.nx, sl'.set j (s.upd (.lst (xs ++ [rv.d])))) else .bad
          | _ => .bad
        | none => .bad
      | .exc c ns ds sl' => .exc c ns ds sl'
      | .bad => .bad
    | _ => .bad
  | none => .bad
theorem st_app {j : Nat} {o : Expr} {m : M} {apos cpos : Pos} (hK : K = X.K) (ho : PE X o (tVar j)) (he : PE X e (tM K ct W m))
    (hs0 : swapsWith (.Call (.Attribute o "append" apos) [e] [] cpos) none pos.line X.env = pure false := by rfl)
    (hbase : attributeBase o "append" X.env (eval o X.env) = eval o X.env := by rfl)
    (hfew : ((backTo cpos (starEach (e :: []) X.env)).all (fun x => !x.1) && (backToKw cpos (keywordEach [] X.env)).all (fun x => x.1.isSome)
      && decide ((e :: []).length + ([] : List Keyword).length + (if ([] : List Keyword).isEmpty then 0 else 1) < 30)) = true := by rfl)
    (hline : (apos.endLine == cpos.line) = true := by rfl) (hs : starEach (e :: []) X.env = (false, eval e X.env) :: starEach [] X.env := by rfl) (hplain : (backTo cpos (starEach [] X.env)).any (·.1) = false := by rfl) :
    PS X (.Expr (.Call (.Attribute o "append" apos) [e] [] cpos) pos) (tS K ct W (mApp j m)) := by
  subst hK
  refine ps_imp (ps_expr (pe_bm PySem.F.plainAttrs_list PySem.F.slot_list_append PySem.F.type_list_append mt_append ho (pa_cons he pa_nil hs) hbase hfew hline hs hplain) hs0) fun D σ H x => ?_
  obtain ⟨bo, F, sl, R, g⟩ := x
  unfold mApp at g
  cases e0 : sl[j]? with
  | none => rw [e0] at g; exact g.elim
  | some s0 =>
    rw [e0] at g
    simp only at g
    cases e1 : s0.mob with
    | none => rw [e1] at g; exact g.elim
    | some o0 =>
      rw [e1] at g
      cases o0 with
      | ins c ns ds => exact g.elim
      | lst xs0 =>
        simp only at g
        obtain ⟨_, p, h, q1, q2, us0, q3, q4⟩ := R.mobj e0 e1
        subst q3
        refine ⟨.ref p, q1, .inl ⟨rfl, us0, SqL.of q2⟩, ?_⟩
        refine (show tM X.K ct W m σ H (fun x H1 => rAppend (.ref p) [x] H1 fun _ H' => D.nx σ H') from ?_)
        refine use_d R ?_
        cases e2 : m sl with
        | ok pr =>
          obtain ⟨rv, sl'⟩ := pr
          rw [e2] at g
          simp only at g
          intro v F' H' R' a' E
          cases e3 : sl'[j]? with
          | none => rw [e3] at g; exact g.elim
          | some s =>
            rw [e3] at g
            simp only at g
            cases e4 : s.mob with
            | none => rw [e4] at g; exact g.elim
            | some o1 =>
              rw [e4] at g
              cases o1 with
              | ins c ns ds => exact g.elim
              | lst xs =>
                simp only at g
                split at g
                · rename_i hl
                  obtain ⟨hm, p', h', w1, w2, us, w3, w4⟩ := R'.mobj e3 e4
                  rw [q1] at w1
                  have : p = p' := by injection Option.some.inj (Option.some.inj w1)
                  subst this
                  subst w3
                  refine ⟨p, us, v, rfl, rfl, w2, by rw [w4.length]; exact hl, ?_⟩
                  obtain ⟨R2, E2⟩ := R'.mut (o := .lst (xs ++ [rv.d])) (h := .lst (us ++ [v])) e3 hm q1 ⟨_, rfl, w4.append ⟨v, [], rfl, a', rfl⟩⟩
                  exact g σ F' _ R2 (E.trans E2)
                · exact g.elim
        | exc c ns ds sl' => rw [e2] at g; exact g.x
        | bad => rw [e2] at g; exact g
def mSet (j : Nat) (mi : M) (m : M) : MS := fun sl => match m sl with
  | .ok (rv, sl1) => match sl1[j]? with
    | some s1 => match s1.mob with
      | some _ => match mi sl1 with
        | .ok (ri, sl2) => match ri.d with
          | .int i => match sl2[j]? with
            | some s => match s.mob with
              | some (.lst xs) => match ixN xs.length i with
                | some k => .ok (.nx, sl2.set j (s.upd (.lst (xs.set k rv.d))))
                | none => .bad
              | _ => .bad
            | none => .bad
          | _ => .bad
        | .exc c ns ds sl' => .exc c ns ds sl'
        | .bad => .bad
      | none => .bad
    | none => .bad
  | .exc c ns ds sl' => .exc c ns ds sl'
  | .bad => .bad
theorem st_set {j : Nat} {o i : Expr} {m mi : M} {p2 : Pos} (he : PE X e (tM K ct W m)) (hg : PG X (.Subscript o i p2) (gSub (tVar j) (tM K ct W mi) rSetL))
    (hs : swapsWithSole [.Subscript o i p2] e pos.line X.env = pure false := by rfl) (hw : swappedStores [.Subscript o i p2] e X.env = pure none := by rfl) : PS X (.Assign [.Subscript o i p2] e pos) (tS K ct W (mSet j mi m)) := by
  refine ps_imp (ps_asg he hg hs hw) fun D σ H x => ?_
  obtain ⟨bo, F, sl, R, g⟩ := x
  refine use_d R ?_
  unfold mSet at g
  cases e1 : m sl with
  | ok p1 =>
    obtain ⟨rv, sl1⟩ := p1
    rw [e1] at g
    simp only at g
    intro v F1 H1 R1 a1 E1
    cases e2 : sl1[j]? with
    | none => rw [e2] at g; exact g.elim
    | some s1 =>
      rw [e2] at g
      simp only at g
      cases e3 : s1.mob with
      | none => rw [e3] at g; exact g.elim
      | some o1 =>
        rw [e3] at g
        simp only at g
        obtain ⟨_, p, h, q1, q2, q3⟩ := R1.mobj e2 e3
        refine ⟨.ref p, q1, ?_⟩
        refine use_d (Q := fun iv H2 => rSetL (.ref p) iv v H2 fun H3 => D.nx σ H3) R1 ?_
        cases e4 : mi sl1 with
        | ok p4 =>
          obtain ⟨ri, sl2⟩ := p4
          rw [e4] at g
          simp only at g
          intro iv F2 H2 R2 a2 E2
          cases e5 : ri.d with
          | int i =>
            rw [e5] at g a2
            simp only at g
            simp only [At] at a2
            cases e6 : sl2[j]? with
            | none => rw [e6] at g; exact g.elim
            | some s =>
              rw [e6] at g
              simp only at g
              cases e7 : s.mob with
              | none => rw [e7] at g; exact g.elim
              | some o2 =>
                rw [e7] at g
                cases o2 with
                | ins c ns ds => exact g.elim
                | lst xs =>
                  simp only at g
                  cases e8 : ixN xs.length i with
                  | none => rw [e8] at g; exact g.elim
                  | some k =>
                    rw [e8] at g
                    obtain ⟨hm, p', h', w1, w2, us, w3, w4⟩ := R2.mobj e6 e7
                    rw [q1] at w1
                    have : p = p' := by injection Option.some.inj (Option.some.inj w1)
                    subst this
                    subst w3
                    refine ⟨p, us, i, k, rfl, a2, w2, by rw [w4.length]; exact e8, ?_⟩
                    obtain ⟨R3, E3⟩ := R2.mut (o := .lst (xs.set k rv.d)) (h := .lst (us.set k v)) e6 hm q1 ⟨_, rfl, w4.set (a1.mono E2.fex)⟩
                    exact g σ F2 _ R3 ((E1.trans E2).trans E3)
          | _ => rw [e5] at g; exact g.elim
        | exc c ns ds sl' => rw [e4] at g; exact GoX.step (P := fun _ => True) g E1 fun _ _ => trivial
        | bad => rw [e4] at g; exact g
  | exc c ns ds sl' => rw [e1] at g; exact g.x
  | bad => rw [e1] at g; exact g
/-- a field's store, by names and data -/
def putD (f : Str) (d : D) : List Str → List D → List Str × List D
  | n :: ns, x :: ds => if n = f then (n :: ns, d :: ds) else ((n :: (putD f d ns ds).1), (x :: (putD f d ns ds).2))
  | _, _ => ([f], [d])
theorem putD_len {f : Str} {d : D} : ∀ {ns : List Str} {ds : List D}, ns.length = ds.length → (putD f d ns ds).1.length = (putD f d ns ds).2.length
  | [], [], _ => rfl
  | n :: ns, x :: ds, h => by
    unfold putD
    split
    · exact h
    · simp only [List.length_cons]
      rw [putD_len (by simpa using h)]
  | [], _ :: _, h => by cases h
  | _ :: _, [], h => by cases h
theorem putD_at {F : Hp} {f : Str} {d : D} {v : V} (x : At K ct F d v) : ∀ {ns : List Str} {ds : List D} {vs : List V}, ns.length = ds.length → AtL K ct F ds vs → ∃ us, putF f v (ns.zip vs) = (putD f d ns ds).1.zip us ∧ AtL K ct F (putD f d ns ds).2 us
  | [], [], vs, _, h => by
    have h' : vs = [] := h
    subst h'
    exact ⟨[v], rfl, v, [], rfl, x, rfl⟩
  | n :: ns, y :: ds, vs, hl, h => by
    obtain ⟨w, r, rfl, h2, h3⟩ := h
    unfold putD
    by_cases q : n = f
    · rw [if_pos q]
      refine ⟨v :: r, ?_, v, r, rfl, x, h3⟩
      show (if n = f then (n, v) :: ns.zip r else _) = _
      rw [if_pos q]
      rfl
    · rw [if_neg q]
      obtain ⟨us, g1, g2⟩ := putD_at x (ns := ns) (ds := ds) (by simpa using hl) h3
      refine ⟨w :: us, ?_, w, us, rfl, h2, g2⟩
      show (if n = f then _ else (n, w) :: putF f v (ns.zip r)) = _
      rw [if_neg q, g1]
      rfl
  | [], _ :: _, _, h, _ => by cases h
  | _ :: _, [], _, h, _ => by cases h
def mFld (cs : List Nat) (f : Str) (j : Nat) (m : M) : MS := fun sl => match m sl with
  | .ok (rv, sl') => match sl'[j]? with
    | some s => match s.mob with
      | some (.ins c ns ds) => if c ∈ cs ∧ ns.length = ds.length ∧ ns.length < 1000 then .ok (.nx, sl'.set j (s.upd (.ins c (putD f rv.d ns ds).1 (putD f rv.d ns ds).2))) else .bad
      | _ => .bad
    | none => .bad
  | .exc c ns ds sl' => .exc c ns ds sl'
  | .bad => .bad
theorem st_fld {cs : List Nat} {f : Str} {j : Nat} {o : Expr} {m : M} {pos' : Pos} (hK : K = X.K) (hc : ∀ c ∈ cs, FldOk K ct f c) (ho : PE X o (tVar j)) (he : PE X e (tM K ct W m)) (hs : swapsWith e (some (.Attribute o f pos')) pos.line X.env = pure false := by rfl) :
    PS X (.Assign [.Attribute o f pos'] e pos) (tS K ct W (mFld cs f j m)) := by
  subst hK
  refine ps_imp (ps_fld ho he hs) fun D σ H x => ?_
  obtain ⟨bo, F, sl, R, g⟩ := x
  refine use_d R ?_
  unfold mFld at g
  cases e1 : m sl with
  | ok p1 =>
    obtain ⟨rv, sl1⟩ := p1
    rw [e1] at g
    simp only at g
    intro v F1 H1 R1 a1 E1
    cases e2 : sl1[j]? with
    | none => rw [e2] at g; exact g.elim
    | some s =>
      rw [e2] at g
      simp only at g
      cases e3 : s.mob with
      | none => rw [e3] at g; exact g.elim
      | some o1 =>
        rw [e3] at g
        cases o1 with
        | lst xs => exact g.elim
        | ins c ns ds =>
          simp only at g
          split at g
          · rename_i hl
            obtain ⟨hm, p, h, q1, q2, dx, us, q3, q4, q5⟩ := R1.mobj e2 e3
            subst q3
            obtain ⟨ws, g1, g2⟩ := putD_at (f := f) a1 q5 q4
            refine ⟨.ref p, q1, p, ct c, dx, _, rfl, q2, (hc c hl.1).cl, (hc c hl.1).no, ?_, ?_⟩
            · rw [List.length_zip]
              omega
            · obtain ⟨R3, E3⟩ := R1.mut (o := .ins c (putD f rv.d ns ds).1 (putD f rv.d ns ds).2) (h := .ins (ct c) dx (putF f v (ns.zip us))) e2 hm q1 ⟨dx, ws, by rw [g1], g2, putD_len q5⟩
              exact g σ F1 _ R3 (E1.trans E3)
          · exact g.elim
  | exc c ns ds sl' => rw [e1] at g; exact g.x
  | bad => rw [e1] at g; exact g

/-! ### x op= e -/
def mAug (f : List D → Option RK) (j : Nat) (m : M) : MS := fun sl => match sl[j]? with
  | some (.sh d) => match m sl with
    | .ok (rv, sl') => match sl'[j]? with
      | some s => if s.free = true then (match f [d, rv.d] with
        | some k => .ok (.nx, sl'.set j k.rv.sl)
        | none => .bad) else .bad
      | none => .bad
    | .exc c ns ds sl' => .exc c ns ds sl'
    | .bad => .bad
  | _ => .bad
theorem st_aug {x : Str} {op : Operator} {r : R2} {f : List D → Option RK} {j : Nat} {m : M} {p : Pos} (ho : OpR X (inplaceOp op) r) (hf : OpL K ct (l2 r) f) (hN : X.N.Nodup) (hi : X.N[j]? = some x) (hx : Loc X.env.scope x) (he : PE X e (tM K ct W m))
    (hfn : X.fn x = true ∨ X.env.scope.names.lookup x = some .local := by first | exact .inl rfl | exact .inr rfl | assumption) : PS X (.AugAssign (.Name x p) op e pos) (tS K ct W (mAug f j m)) := by
  refine ps_imp (ps_aug hN hi hx he (show PIp X op r from ho) hfn) fun D σ H x => ?_
  obtain ⟨bo, F, sl, R, g⟩ := x
  unfold mAug at g
  cases e0 : sl[j]? with
  | none => rw [e0] at g; exact g.elim
  | some s0 =>
    rw [e0] at g
    cases s0 with
    | sh d =>
      simp only at g
      obtain ⟨x, q1, q2⟩ := R.rel j _ e0
      refine ⟨x, q1, use_d R ?_⟩
      cases e1 : m sl with
      | ok p1 =>
        obtain ⟨rv, sl1⟩ := p1
        rw [e1] at g
        simp only at g
        intro v F1 H1 R1 a1 E1
        cases e2 : sl1[j]? with
        | none => rw [e2] at g; exact g.elim
        | some s =>
          rw [e2] at g
          simp only at g
          split at g
          · rename_i hfr
            cases e3 : f [d, rv.d] with
            | none => rw [e3] at g; exact g.elim
            | some k =>
              rw [e3] at g
              have key := hf F1 H1 [x, v] [d, rv.d] k (fun z H2 => D.nx (σ.set j (some z)) H2) R1.ex ⟨x, [v], rfl, (q2.mono E1.fex).peek R1.ex, v, [], rfl, a1.peek R1.ex, rfl⟩ e3
                (res_ok R1 fun w F2 H2 R2 x2 E2 => by
                  obtain ⟨R3, o3⟩ := R2.store e2 hfr x2
                  exact g _ F2 H2 R3 (E1.trans (E2.less o3)))
              obtain ⟨x', v', ee, key⟩ := key
              cases ee
              exact key
          · exact g.elim
      | exc c ns ds sl' => rw [e1] at g; exact g.x
      | bad => rw [e1] at g; exact g
    | _ => exact g.elim
end
end Ml

set_option maxHeartbeats 4000000
/-! Targets, what is walked, for, while. -/
namespace Ml
open PySem L2 PyProof.Rows

/-! ### targets -/
inductive Tg where
  | nm (j : Nat) | tp (ts : List Tg)
mutual
def stT : Tg → D → List Sl → Option (List Sl)
  | .nm j, d, sl => match sl[j]? with
    | some s => if s.free = true then some (sl.set j (.sh d)) else none
    | none => none
  | .tp ts, .tup ds, sl => stTs ts ds sl
  | .tp _, _, _ => none
def stTs : List Tg → List D → List Sl → Option (List Sl)
  | [], [], sl => some sl
  | t :: ts, d :: ds, sl => match stT t d sl with
    | some sl' => stTs ts ds sl'
    | none => none
  | _, _, _ => none
end
mutual
def Tg.names : Tg → List Nat
  | .nm j => [j]
  | .tp ts => Tg.namesL ts
def Tg.namesL : List Tg → List Nat
  | [] => []
  | t :: ts => t.names ++ Tg.namesL ts
end
section
variable (K : PySem.W.Frag) (ct : Nat → Addr)
/-- what a target leaves -/
def Left (bo : Nat → Addr) (F H : Hp) (σ : L2.St) (sl : List Sl) (js : List Nat) (sl' : List Sl) (σ' : L2.St) : Prop :=
  Rst K ct bo F H σ' sl' ∧ (∀ b, Own σ' sl' b → Own σ sl b) ∧ (∀ i, i ∉ js → σ'[i]? = σ[i]?)
def gTg (t : Tg) : TG := fun v σ H Q => ∃ bo F sl d, Rst K ct bo F H σ sl ∧ At K ct F d v ∧ ∃ sl', stT t d sl = some sl' ∧ ∀ σ', Left K ct bo F H σ sl t.names sl' σ' → Q σ' H
def gTgs (ts : List Tg) : TGs := fun vs σ H Q => ∃ bo F sl ds, Rst K ct bo F H σ sl ∧ AtL K ct F ds vs ∧ ∃ sl', stTs ts ds sl = some sl' ∧ ∀ σ', Left K ct bo F H σ sl (Tg.namesL ts) sl' σ' → Q σ' H
end
section
variable {K : PySem.W.Frag} {ct : Nat → Addr} {W : WX} {bo : Nat → Addr} {F H : Hp} {σ : L2.St} {sl : List Sl} {X : Cx} {e a b : Expr} {pos : Pos}
theorem pg_imp {g g' : TG} (h : PG X e g) (i : ∀ v σ H Q, g' v σ H Q → g v σ H Q) : PG X e g' := ⟨fun pins s σ H v u Q I r x => h.run pins s σ H v u Q I r (i v σ H Q x)⟩
theorem pgs_imp {es : List Expr} {g g' : TGs} (h : PGs X es g) (i : ∀ v σ H Q, g' v σ H Q → g v σ H Q) : PGs X es g' := ⟨fun pins s σ H v u Q I r x => h.run pins s σ H v u Q I r (i v σ H Q x)⟩
theorem tg_n {j : Nat} {x : Str} (hN : X.N.Nodup) (hi : X.N[j]? = some x) (hx : Loc X.env.scope x) (hf : X.fn x = true ∨ X.env.scope.names.lookup x = some .local := by first | exact .inl rfl | exact .inr rfl | assumption) : PG X (.Name x pos) (gTg K ct (.nm j)) :=
  pg_imp (pg_name hN hi hx hf) fun v σ H Q h => by
    obtain ⟨bo, F, sl, d, R, a, sl', e, q⟩ := h
    simp only [stT] at e
    split at e
    · rename_i s es
      split at e
      · rename_i hfr
        cases e
        obtain ⟨R2, o2⟩ := R.store (rv := .sh d) (v := v) es hfr a
        refine q _ ⟨R2, fun b hb => (o2 b hb).elim id fun z => z.elim, fun i hi => ?_⟩
        simp only [Tg.names, List.mem_singleton] at hi
        exact get_set_ne hi
      · cases e
    · cases e
theorem tg_nil : PGs X [] (gTgs K ct []) := pgs_imp pgs_nil fun vs σ H Q h => by
  obtain ⟨bo, F, sl, ds, R, a, sl', e, q⟩ := h
  cases ds with
  | nil =>
    simp only [stTs] at e
    cases e
    exact ⟨a, q σ ⟨R, fun _ h => h, fun _ _ => rfl⟩⟩
  | cons d ds => simp only [stTs] at e; cases e
theorem tg_cons {es : List Expr} {t : Tg} {ts : List Tg} (h1 : PG X e (gTg K ct t)) (h2 : PGs X es (gTgs K ct ts))
    (hs : (assignEach (e :: es) X.env).map (·.2) = assign e X.env :: (assignEach es X.env).map (·.2) := by rfl) : PGs X (e :: es) (gTgs K ct (t :: ts)) := pgs_imp (pgs_cons h1 h2 hs) fun vs σ H Q h => by
  obtain ⟨bo, F, sl, ds, R, a, sl', e, q⟩ := h
  cases ds with
  | nil => simp only [stTs] at e; cases e
  | cons d ds =>
    obtain ⟨v, r, rfl, a1, a2⟩ := a
    simp only [stTs] at e
    split at e
    · rename_i sl1 e1
      refine ⟨v, r, rfl, bo, F, sl, d, R, a1, sl1, e1, fun σ1 L1 => ?_⟩
      refine ⟨bo, F, sl1, ds, L1.1, a2, sl', e, fun σ2 L2 => q σ2 ⟨L2.1, fun b hb => L1.2.1 b (L2.2.1 b hb), fun i hi => ?_⟩⟩
      simp only [Tg.namesL, List.mem_append, not_or] at hi
      rw [L2.2.2 i hi.2, L1.2.2 i hi.1]
    · cases e
theorem tg_t {es : List Expr} {k : Nat} {ts : List Tg} {n : Nat} (hK : K = X.K) (hc : X.calm = true) (h : PGs X es (gTgs K ct ts)) (hl : ts.length = n)
    (hn : (assignEach es X.env).length = n := by rfl) (hst : (assignEach es X.env).findIdx? (·.1) = none := by rfl) : PG X (.Tuple es k pos) (gTg K ct (.tp ts)) := by
  subst hK
  refine pg_imp (pg_tup hc h hn hst) fun v σ H Q h => ?_
  obtain ⟨bo, F, sl, d, R, a, sl', e, q⟩ := h
  cases d with
  | tup ds =>
    simp only [stT] at e
    simp only [At] at a
    obtain ⟨p, us, rfl, e3, e4⟩ := a
    have len : ∀ (ts : List Tg) (ds : List D) (sl sl' : List Sl), stTs ts ds sl = some sl' → ds.length = ts.length := by
      intro ts
      induction ts with
      | nil => intro ds sl sl' h; cases ds with
        | nil => rfl
        | cons d ds => simp only [stTs] at h; cases h
      | cons t ts ih => intro ds sl sl' h; cases ds with
        | nil => simp only [stTs] at h; cases h
        | cons d ds =>
          simp only [stTs] at h
          split at h
          · rw [List.length_cons, List.length_cons, ih _ _ _ h]
          · cases h
    exact ⟨p, us, rfl, ex_t R.ex e3, by rw [e4.length, len _ _ _ _ e, hl], bo, F, sl, ds, R, e4, sl', e, fun σ' L => q σ' L⟩
  | _ => simp only [stT] at e; cases e

/-! ### (a, b) = e, unpacking -/
def mUnp (t : Tg) (m : M) : MS := fun sl => match m sl with
  | .ok (rv, sl') => match stT t rv.d sl' with
    | some sl2 => .ok (.nx, sl2)
    | none => .bad
  | .exc c ns ds sl' => .exc c ns ds sl'
  | .bad => .bad
theorem st_unp {tgt : Expr} {t : Tg} {m : M} (he : PE X e (tM K ct W m)) (hg : PG X tgt (gTg K ct t)) (hs : swapsWithSole [tgt] e pos.line X.env = pure false := by rfl) (hw : swappedStores [tgt] e X.env = pure none := by rfl)
    (h1 : (assignEach [tgt] X.env).map (·.2) = [assign tgt X.env] := by rfl) : PS X (.Assign [tgt] e pos) (tS K ct W (mUnp t m)) := ps_imp (ps_asg he hg hs hw h1) fun D σ H x => by
  obtain ⟨bo, F, sl, R, g⟩ := x
  refine use_d R ?_
  unfold mUnp at g
  cases e1 : m sl with
  | ok p1 =>
    obtain ⟨rv, sl1⟩ := p1
    rw [e1] at g
    simp only at g
    intro v F1 H1 R1 a1 E1
    cases e2 : stT t rv.d sl1 with
    | none => rw [e2] at g; exact g.elim
    | some sl2 =>
      rw [e2] at g
      exact ⟨bo, F1, sl1, rv.d, R1, a1, sl2, e2, fun σ' L => g σ' F1 H1 L.1 (E1.less L.2.1)⟩
  | exc c ns ds sl' => rw [e1] at g; exact g.x
  | bad => rw [e1] at g; exact g
/-- what is held behind was held ahead -/
def heldLe : List Sl → List Sl → Bool
  | s :: sl, s' :: sl' => (!s'.hasB || s.hasB) && heldLe sl sl'
  | [], [] => true
  | _, _ => false
theorem heldLe_get : ∀ {sl sl' : List Sl}, heldLe sl sl' = true → ∀ {i : Nat} {s' : Sl}, sl'[i]? = some s' → s'.hasB = true → ∃ s, sl[i]? = some s ∧ s.hasB = true
  | s :: sl, t :: sl', h, 0, s', e, hb => by
    simp only [heldLe, Bool.and_eq_true, Bool.or_eq_true, Bool.not_eq_true'] at h
    have : t = s' := by simpa using e
    subst this
    refine ⟨s, rfl, ?_⟩
    rcases h.1 with z | z
    · rw [hb] at z; cases z
    · exact z
  | s :: sl, t :: sl', h, i + 1, s', e, hb => by
    simp only [heldLe, Bool.and_eq_true] at h
    obtain ⟨y, h1, h2⟩ := heldLe_get h.2 (i := i) (by simpa using e) hb
    exact ⟨y, by simpa using h1, h2⟩
  | [], [], h, i, s', e, hb => by simp at e
  | [], _ :: _, h, _, _, _, _ => by cases h
  | _ :: _, [], h, _, _, _, _ => by cases h
/-- a value that waits is as it was -/
theorem RvAt.wait {O : Addr → Prop} {F' H' : Hp} {sl' : List Sl} {rv : RV} {v : V} (R : Rst K ct bo F H σ sl) (x : RvAt K ct F H σ sl rv v) (E : Ext (Own σ sl) F H O F' H') (hl : heldLe sl sl' = true) : RvAt K ct F' H' σ sl' rv v := by
  cases rv with
  | sh d => exact At.mono E.fex x
  | fr o =>
    obtain ⟨p, h, x1, x2, x3, x4, x5⟩ := x
    have no : ¬ Own σ sl p := fun z => by obtain ⟨i, hi⟩ := z.has; exact x5 i hi
    refine ⟨p, h, x1, ?_, ?_, x4.mono E.fex, fun i z => ?_⟩
    · cases q : F' p with
      | none => rfl
      | some u =>
        rcases E.fresh p (by rw [q]; exact fun z => by cases z) with z | z | z
        · exact absurd x2 z
        · exact absurd z no
        · rw [x3] at z; cases z
    · rcases E.fr p h x3 with z | z
      · exact absurd z no
      · exact z
    · obtain ⟨s', h1, h2, h3⟩ := z
      obtain ⟨s, g1, g2⟩ := heldLe_get hl h1 h2
      exact x5 i ⟨s, g1, g2, h3⟩
def mPar (i j : Nat) (m n : M) : MS := fun sl => match m sl with
  | .ok (rv, sl1) => match n sl1 with
    | .ok (rw, sl2) => if heldLe sl1 sl2 = true then (match sl2[i]?, sl2[j]? with
      | some s, some t => if s.free = true ∧ t.free = true then .ok (.nx, (sl2.set i rv.sl).set j rw.sl) else .bad
      | _, _ => .bad) else .bad
    | .exc c ns ds sl' => .exc c ns ds sl'
    | .bad => .bad
  | .exc c ns ds sl' => .exc c ns ds sl'
  | .bad => .bad
theorem st_par {i j : Nat} {x y : Str} {m n : M} {px py pt : Pos} {kt k2 pt2} (hc : X.calm = true) (hN : X.N.Nodup) (hi : X.N[i]? = some x) (hj : X.N[j]? = some y) (hij : i ≠ j)
    (hx : X.env.scope.names.lookup x = some .local) (hy : X.env.scope.names.lookup y = some .local) (ha : PE X a (tM K ct W m)) (hb : PE X b (tM K ct W n))
    (hw : swappedStores [.Tuple [.Name x px, .Name y py] kt pt] (.Tuple [a, b] k2 pt2) X.env = pure (some [x, y]))
    (hs1 : starEach [b] X.env = (false, eval b X.env) :: starEach [] X.env := by rfl) (hs2 : starEach [a, b] X.env = (false, eval a X.env) :: starEach [b] X.env := by rfl)
    (hs : swapsWithSole [.Tuple [.Name x px, .Name y py] kt pt] (.Tuple [a, b] k2 pt2) pos.line X.env = pure false := by rfl) :
    PS X (.Assign [.Tuple [.Name x px, .Name y py] kt pt] (.Tuple [a, b] k2 pt2) pos) (tS K ct W (mPar i j m n)) := ps_imp (ps_par hc hN hi hj hij hx hy (pa_cons ha (pa_cons hb pa_nil hs1) hs2) hw hs) fun D σ H x => by
  obtain ⟨bo, F, sl, R, g⟩ := x
  refine (show tM K ct W m σ H (fun v H1 => tM K ct W n σ H1 fun w H2 => ∃ v' w', [v, w] = [v', w'] ∧ D.nx ((σ.set i (some v')).set j (some w')) H2) from ?_)
  refine ⟨bo, F, sl, R, ?_⟩
  unfold mPar at g
  cases e1 : m sl with
  | ok p1 =>
    obtain ⟨rv, sl1⟩ := p1
    rw [e1] at g
    simp only at g
    intro v F1 H1 R1 x1 E1
    refine ⟨bo, F1, sl1, R1, ?_⟩
    have E1' : Ext (Own σ sl) F H (Own σ sl1) F1 H1 := E1.less fun b z => .inl z
    cases e2 : n sl1 with
    | ok p2 =>
      obtain ⟨rw_, sl2⟩ := p2
      rw [e2] at g
      simp only at g
      intro w F2 H2 R2 x2 E2
      refine ⟨v, w, rfl, ?_⟩
      split at g
      · rename_i hl
        have x1' : RvAt K ct F2 H2 σ sl2 rv v := x1.wait R1 E2 hl
        split at g
        · rename_i s t es et
          split at g
          · rename_i hf
            obtain ⟨R3, o3⟩ := R2.store es hf.1 x1'
            have x2' : RvAt K ct F2 H2 (σ.set i (some v)) (sl2.set i rv.sl) rw_ w := by
              cases rw_ with
              | sh d => exact x2
              | fr o =>
                obtain ⟨p, h, y1, y2, y3, y4, y5⟩ := x2
                refine ⟨p, h, y1, y2, y3, y4, fun k z => ?_⟩
                obtain ⟨s', h1, h2, h3⟩ := z
                by_cases q : k = i
                · subst q
                  obtain ⟨y0, ey⟩ := get_some_lt R2.len es
                  rw [get_set_eq es] at h1
                  rw [get_set_eq ey] at h3
                  cases h1
                  cases rv with
                  | sh d => cases h2
                  | fr o' =>
                    obtain ⟨p', h', z1, z2, z3, z4, z5⟩ := x1
                    have h3' := Option.some.inj (Option.some.inj h3)
                    rw [z1] at h3'
                    have : p' = p := by injection h3'
                    subst this
                    rcases E2.own p' (.inr y1) with w1 | w1
                    · obtain ⟨k', hk'⟩ := w1.has
                      exact z5 k' hk'
                    · rw [z3] at w1; cases w1
                · rw [get_set_ne q] at h1 h3
                  exact y5 k ⟨s', h1, h2, h3⟩
            have et' : (sl2.set i rv.sl)[j]? = some t := by rw [get_set_ne (Ne.symm hij)]; exact et
            obtain ⟨R4, o4⟩ := R3.store et' hf.2 x2'
            refine g _ F2 H2 R4 ⟨(E1.fex).trans E2.fex, fun b u z => (E1'.trans (E2.less (O2 := fun _ => False) fun _ z => z.elim)).fr b u z, fun b z => (E1'.trans (E2.less (O2 := fun _ => False) fun _ z => z.elim)).fresh b z, fun b z => ?_⟩
            rcases o4 b z with z | z
            · rcases o3 b z with z | z
              · exact (E1'.trans (E2.less (O2 := Own σ sl2) fun b y => .inl y)).own b z
              · exact E1.own b (.inr z)
            · exact (E1'.trans (E2.less (O2 := OwnR rw_ w) fun b y => .inr y)).own b z
          · exact g.elim
        · exact g.elim
      · exact g.elim
    | exc c ns ds sl' => rw [e2] at g; exact GoX.step (P := fun _ => True) g E1' fun _ _ => trivial
    | bad => rw [e2] at g; exact g
  | exc c ns ds sl' => rw [e1] at g; exact g.x
  | bad => rw [e1] at g; exact g
end
end Ml

set_option maxHeartbeats 4000000
/-! What is walked; for, while, comprehensions. -/
namespace Ml
open PySem L2 PyProof.Rows

/-! ### locks -/
def lock1 (j : Nat) (sl : List Sl) : Option (List Sl) := match sl[j]? with
  | some (.ow o) => some (sl.set j (.lk false o))
  | _ => none
def lockL : List Nat → List Sl → Option (List Sl)
  | [], sl => some sl
  | j :: js, sl => match lock1 j sl with
    | some sl' => lockL js sl'
    | none => none
def unl1 (j : Nat) (sl : List Sl) : Option (List Sl) := match sl[j]? with
  | some (.lk _ o) => some (sl.set j (.ow o))
  | some (.bo _) => none
  | _ => some sl
def unlL : List Nat → List Sl → Option (List Sl)
  | [], sl => some sl
  | j :: js, sl => match unlL js sl with
    | some sl' => unl1 j sl'
    | none => none
def unlO (js : List Nat) (r : Out (Fl × List Sl)) : Out (Fl × List Sl) := match r with
  | .ok (f, sl) => match unlL js sl with
    | some sl' => .ok (f, sl')
    | none => .bad
  | .exc c ns ds sl => match unlL js sl with
    | some sl' => .exc c ns ds sl'
    | none => .bad
  | .bad => .bad
def bset (bo : Nat → Addr) (j : Nat) (a : Addr) : Nat → Addr := fun i => if i = j then a else bo i
theorem bset_same {bo : Nat → Addr} {j : Nat} {a : Addr} : bset bo j a j = a := if_pos rfl
theorem bset_ne {bo : Nat → Addr} {i j : Nat} {a : Addr} (h : i ≠ j) : bset bo j a i = bo i := if_neg h
section
variable {K : PySem.W.Frag} {ct : Nat → Addr} {W : WX} {bo : Nat → Addr} {F H : Hp} {σ : L2.St} {sl : List Sl}
/-- what locking keeps: bo' serves while it is locked -/
structure Lckd (K : PySem.W.Frag) (ct : Nat → Addr) (bo bo' : Nat → Addr) (js : List Nat) (P : Addr → Prop) : Prop where
  back : ∀ {F H : Hp} {σ : L2.St} {sl sl' : List Sl}, Rst K ct bo' F H σ sl → unlL js sl = some sl' → Rst K ct bo F H σ sl' ∧ (∀ b, Own σ sl' b → Own σ sl b ∨ P b) ∧ ∀ i b, Has σ sl' i b → Has σ sl i b
theorem Rst.lock1 (R : Rst K ct bo F H σ sl) {j : Nat} {o : Ob} (e : sl[j]? = some (.ow o)) : ∃ a h, σ[j]? = some (some (.ref a)) ∧ H a = some h ∧ ObAt K ct F o h ∧ F a = none ∧ Own σ sl a ∧
    Rst K ct (bset bo j a) F H σ (sl.set j (.lk false o)) ∧ (∀ b, Own σ (sl.set j (.lk false o)) b → Own σ sl b ∧ b ≠ a) := by
  obtain ⟨a, h, q1, q2, q3, q4⟩ := R.rel j _ e
  have hj : Has σ sl j a := ⟨_, e, rfl, q1⟩
  have key : ∀ {i : Nat} {b : Addr}, Has σ (sl.set j (.lk false o)) i b → Has σ sl i b := fun {i b} z => by
    obtain ⟨s', h1, h2, h3⟩ := z
    by_cases q : i = j
    · subst q
      exact ⟨_, e, rfl, h3⟩
    · rw [get_set_ne q] at h1
      exact ⟨s', h1, h2, h3⟩
  refine ⟨a, h, q1, q3, q4, q2, ⟨j, _, e, rfl, q1⟩, ⟨R.ex, fun i s' z => ?_, fun i i' b z z' => R.ds i i' b (key z) (key z'), by rw [List.length_set, R.len]⟩, fun b z => ?_⟩
  · by_cases q : i = j
    · subst q
      rw [get_set_eq e] at z
      cases z
      refine ⟨h, ?_, ?_, ?_, q4⟩
      · rw [bset_same]; exact q1
      · rw [bset_same]; exact q2
      · rw [bset_same]; exact q3
    · rw [get_set_ne q] at z
      have qr := R.rel i s' z
      cases s' with
      | no => trivial
      | sh d => exact qr
      | ow o => exact qr
      | bo o => obtain ⟨u, w1, w2, w3, w4⟩ := qr; exact ⟨u, by rw [bset_ne q]; exact w1, by rw [bset_ne q]; exact w2, by rw [bset_ne q]; exact w3, w4⟩
      | lk b o => obtain ⟨u, w1, w2, w3, w4⟩ := qr; exact ⟨u, by rw [bset_ne q]; exact w1, by rw [bset_ne q]; exact w2, by rw [bset_ne q]; exact w3, w4⟩
  · obtain ⟨i, s', h1, h2, h3⟩ := z
    by_cases q : i = j
    · subst q
      rw [get_set_eq e] at h1
      cases h1
      cases h2
    · rw [get_set_ne q] at h1
      exact ⟨⟨i, s', h1, h2, h3⟩, fun w => q (R.ds i j b ⟨s', h1, Sl.has_of_mut h2, h3⟩ (by rw [w]; exact hj))⟩
theorem unl1_ok {j : Nat} {a : Addr} {sl' : List Sl} (R : Rst K ct (bset bo j a) F H σ sl) (e : unl1 j sl = some sl') : Rst K ct bo F H σ sl' ∧ (∀ b, Own σ sl' b → Own σ sl b ∨ b = a) ∧ ∀ i b, Has σ sl' i b → Has σ sl i b := by
  have other : ∀ {i : Nat} {s' : Sl}, i ≠ j → sl[i]? = some s' → Rsl K ct bo F H i s' σ[i]? := fun {i s'} q z => by
    have qr := R.rel i s' z
    cases s' with
    | no => trivial
    | sh d => exact qr
    | ow o => exact qr
    | bo o => obtain ⟨u, w1, w2, w3, w4⟩ := qr; rw [bset_ne q] at w1 w2 w3; exact ⟨u, w1, w2, w3, w4⟩
    | lk b o => obtain ⟨u, w1, w2, w3, w4⟩ := qr; rw [bset_ne q] at w1 w2 w3; exact ⟨u, w1, w2, w3, w4⟩
  unfold unl1 at e
  split at e
  · rename_i b0 o ej
    cases e
    obtain ⟨u, w1, w2, w3, w4⟩ := R.rel j _ ej
    rw [bset_same] at w1 w2 w3
    have key : ∀ {i : Nat} {b : Addr}, Has σ (sl.set j (.ow o)) i b → Has σ sl i b := fun {i b} z => by
      obtain ⟨s', h1, h2, h3⟩ := z
      by_cases q : i = j
      · subst q
        exact ⟨_, ej, rfl, h3⟩
      · rw [get_set_ne q] at h1
        exact ⟨s', h1, h2, h3⟩
    refine ⟨⟨R.ex, fun i s' z => ?_, fun i i' b z z' => R.ds i i' b (key z) (key z'), by rw [List.length_set, R.len]⟩, fun b z => ?_, fun i b z => key z⟩
    · by_cases q : i = j
      · subst q
        rw [get_set_eq ej] at z
        cases z
        exact ⟨a, u, w1, w2, w3, w4⟩
      · rw [get_set_ne q] at z
        exact other q z
    · obtain ⟨i, s', h1, h2, h3⟩ := z
      by_cases q : i = j
      · subst q
        rw [w1] at h3
        have := Option.some.inj (Option.some.inj h3)
        exact .inr (by injection this with this; exact this.symm)
      · rw [get_set_ne q] at h1
        exact .inl ⟨i, s', h1, h2, h3⟩
  · cases e
  · rename_i n1 n2
    cases e
    refine ⟨⟨R.ex, fun i s' z => ?_, R.ds, R.len⟩, fun b z => .inl z, fun i b z => z⟩
    by_cases q : i = j
    · subst q
      cases s' with
      | no => trivial
      | sh d => exact R.rel i _ z
      | ow o => exact R.rel i _ z
      | bo o => exact absurd z (by intro z; exact n2 o z)
      | lk b o => exact absurd z (by intro z; exact n1 b o z)
    · exact other q z
theorem Rst.lockL : ∀ {js : List Nat} {bo : Nat → Addr} {sl sl' : List Sl}, Rst K ct bo F H σ sl → Ml.lockL js sl = some sl' → ∃ bo', Rst K ct bo' F H σ sl' ∧ (∀ b, Own σ sl' b → Own σ sl b) ∧ Lckd K ct bo bo' js (Own σ sl) ∧
    ∀ j ∈ js, ∃ a h o, sl[j]? = some (.ow o) ∧ σ[j]? = some (some (.ref a)) ∧ H a = some h ∧ ObAt K ct F o h ∧ ¬ Own σ sl' a
  | [], bo, sl, sl', R, e => by
    cases e
    exact ⟨bo, R, fun _ h => h, ⟨fun R' e' => by cases e'; exact ⟨R', fun _ h => .inl h, fun _ _ h => h⟩⟩, fun j hj => by cases hj⟩
  | j :: js, bo, sl, sl', R, e => by
    unfold Ml.lockL at e
    split at e
    · rename_i sl1 e1
      unfold Ml.lock1 at e1
      split at e1
      · rename_i o ej
        cases e1
        obtain ⟨a, h, q1, q3, q4, q2, q5, R1, o1⟩ := R.lock1 ej
        obtain ⟨bo', R2, o2, L2, k2⟩ := Rst.lockL R1 e
        refine ⟨bo', R2, fun b z => (o1 b (o2 b z)).1, ⟨fun {F' H' σ' s s'} R' e' => ?_⟩, fun i hi => ?_⟩
        · unfold unlL at e'
          split at e'
          · rename_i s1 e2
            obtain ⟨R3, o3, h3⟩ := L2.back R' e2
            obtain ⟨R4, o4, h4⟩ := unl1_ok R3 e'
            refine ⟨R4, fun b z => ?_, fun i b z => h3 i b (h4 i b z)⟩
            rcases o4 b z with z | z
            · rcases o3 b z with z | z
              · exact .inl z
              · exact .inr (o1 b z).1
            · exact .inr (by rw [z]; exact q5)
          · cases e'
        · rcases List.mem_cons.mp hi with z | z
          · subst z
            exact ⟨a, h, o, ej, q1, q3, q4, fun w => (o1 a (o2 a w)).2 rfl⟩
          · obtain ⟨b, u, o', r1, r2, r3, r4, r5⟩ := k2 i z
            by_cases q : i = j
            · subst q
              rw [get_set_eq ej] at r1
              cases r1
            · rw [get_set_ne q] at r1
              exact ⟨b, u, o', r1, r2, r3, r4, r5⟩
      · cases e1
    · cases e
end

/-! ### walks -/
section
variable (K : PySem.W.Frag) (ct : Nat → Addr)
/-- J walks the items ds, which stand in F, as long as the objects LK stay -/
structure Wk (J : It) (ds : List D) (F : Hp) (LK : List (Addr × HO)) : Prop where
  go : ∀ i F2 H2, i < ds.length → Ex F F2 → Ex F2 H2 → (∀ p ∈ LK, H2 p.1 = some p.2) → J.go i H2
  stop : ∀ F2 H2, Ex F F2 → Ex F2 H2 → (∀ p ∈ LK, H2 p.1 = some p.2) → J.stop ds.length H2
  yld : ∀ i F2 H2 d x H', ds[i]? = some d → Ex F F2 → Ex F2 H2 → (∀ p ∈ LK, H2 p.1 = some p.2) → J.yld i H2 x H' →
    (H' = H2 ∧ At K ct F2 d x) ∨ ∃ T us es, x = .ref T ∧ H2 T = none ∧ H' = upd H2 T (.tup us) ∧ d = .tup es ∧ AtL K ct F2 es us
end
abbrev MI := List Sl → Out (List D × List Nat × List Sl)
section
variable (K : PySem.W.Frag) (ct : Nat → Addr) (W : WX)
def GoI (bo : Nat → Addr) (O : Addr → Prop) (σ : L2.St) (F H : Hp) (r : Out (List D × List Nat × List Sl)) (R : It → Hp → Prop) : Prop :=
  match r with
  | .ok (ds, js, sl') => ∀ J F' H' LK, Rst K ct bo F' H' σ sl' → Ext O F H (Own σ sl') F' H' → Wk K ct J ds F' LK → (∀ p ∈ LK, H' p.1 = some p.2 ∧ ∃ j ∈ js, σ[j]? = some (some (.ref p.1))) → R J H'
  | .exc c ns ds sl' => GoX K ct W bo O F H c ns ds sl' (fun σ' => σ' = σ)
  | .bad => False
def tIt (mi : MI) : TI := fun σ H R => ∃ bo F sl, Rst K ct bo F H σ sl ∧ GoI K ct W bo (Own σ sl) σ F H (mi sl) R
end
def evI (as : List Ar) (f : List D → Option (List D)) : MI := fun sl => match evAs as sl with
  | .ok (rs, sl') => match getAll sl' rs with
    | some ds => match f ds with
      | some items => .ok (items, rs.filterMap (fun r => match r with | .rf j => some j | _ => none), sl')
      | none => .bad
    | none => .bad
  | .exc c ns ds sl' => .exc c ns ds sl'
  | .bad => .bad
section
variable {K : PySem.W.Frag} {ct : Nat → Addr} {W : WX} {bo : Nat → Addr} {F H : Hp} {σ : L2.St} {sl : List Sl} {X : Cx} {e a b tg : Expr} {pos p : Pos} {ar br : Ar}
theorem pi_imp {wi wi' : TI} (h : PI X tg e wi) (i : ∀ σ H R, wi' σ H R → wi σ H R) : PI X tg e wi' := ⟨fun pins s σ H R I x => h.run pins s σ H R I (i σ H R x)⟩
theorem pi_or {wi wi' : TI} (h : PI X tg e wi) (h' : PI X tg e wi') : PI X tg e (fun σ H R => wi σ H R ∨ wi' σ H R) := ⟨fun pins s σ H R I x => by
  rcases x with x | x
  · exact h.run pins s σ H R I x
  · exact h'.run pins s σ H R I x⟩
/-- the objects that are to stay: those of the slots that are walked in place -/
def lkOf (σ : L2.St) (H : Hp) : List Rf → List (Addr × HO)
  | [] => []
  | .rf j :: rs => (match σ[j]? with
    | some (some (.ref a)) => (match H a with
      | some h => [(a, h)]
      | none => [])
    | _ => []) ++ lkOf σ H rs
  | .sh _ :: rs => lkOf σ H rs
theorem lkOf_ok {H : Hp} : ∀ {rs : List Rf} {p : Addr × HO}, p ∈ lkOf σ H rs → H p.1 = some p.2 ∧ ∃ j ∈ rs.filterMap (fun r => match r with | .rf j => some j | _ => none), σ[j]? = some (some (.ref p.1))
  | [], p, h => by cases h
  | .rf j :: rs, p, h => by
    unfold lkOf at h
    rcases List.mem_append.mp h with z | z
    · split at z
      · rename_i a ea
        split at z
        · rename_i u eu
          have : p = (a, u) := by simpa using z
          subst this
          exact ⟨eu, j, by simp, ea⟩
        · cases z
      · cases z
    · obtain ⟨h1, j', h2, h3⟩ := lkOf_ok z
      exact ⟨h1, j', by simp [h2], h3⟩
  | .sh d :: rs, p, h => by
    unfold lkOf at h
    obtain ⟨h1, j', h2, h3⟩ := lkOf_ok h
    exact ⟨h1, j', by simpa using h2, h3⟩
/-- as data that is walked: it stays while LK stays -/
def Stay (K : PySem.W.Frag) (ct : Nat → Addr) (F : Hp) (LK : List (Addr × HO)) (d : D) (v : V) : Prop := ∀ F2 H2, Ex F F2 → Ex F2 H2 → (∀ p ∈ LK, H2 p.1 = some p.2) → AtP K ct F2 H2 d v
theorem AtP.mono {F F' H : Hp} (e : Ex F F') {d : D} {v : V} (h : AtP K ct F H d v) : AtP K ct F' H d v := by
  cases d with
  | non => exact h
  | bl b => exact h
  | int i => exact h
  | str x => exact h
  | lst ds => obtain ⟨p, us, h1, h2, h3⟩ := h; exact ⟨p, us, h1, h2, h3.mono e⟩
  | scr ds => obtain ⟨p, us, h1, h2, h3⟩ := h; exact ⟨p, us, h1, h2, h3.mono e⟩
  | tup ds => obtain ⟨p, us, h1, h2, h3⟩ := h; exact ⟨p, us, h1, h2, h3.mono e⟩
  | ins c ns ds => obtain ⟨p, dx, us, h1, h2, h3, h4⟩ := h; exact ⟨p, dx, us, h1, h2, h3.mono e, h4⟩
theorem stay_of (R : Rst K ct bo F H σ sl) {rs : List Rf} {r : Rf} (hr : r ∈ rs) {v : V} {d : D} (h : RfAt K ct F σ r v) (g : r.get sl = some d) : Stay K ct F (lkOf σ H rs) d v := by
  cases r with
  | sh d0 =>
    have : d0 = d := Option.some.inj g
    subst this
    intro F2 H2 e1 e2 _
    exact At.peek e2 (At.mono e1 h)
  | rf j =>
    have h' : σ[j]? = some (some v) := h
    have main : ∀ {o : Ob} {a : Addr} {u : HO}, v = .ref a → H a = some u → ObAt K ct F o u → Stay K ct F (lkOf σ H rs) o.d v := fun {o a u} e1 e2 e3 F2 H2 x1 x2 x3 => by
      subst e1
      have hm : (a, u) ∈ lkOf σ H rs := by
        clear h g x3
        induction rs with
        | nil => cases hr
        | cons r0 rs ih =>
          rcases List.mem_cons.mp hr with z | z
          · subst z
            unfold lkOf
            simp only [h', e2]
            simp
          · cases r0 with
            | sh d => unfold lkOf; exact ih z
            | rf i => unfold lkOf; exact List.mem_append_right _ (ih z)
      have := x3 _ hm
      exact (e3.mono x1).peek this
    simp only [Rf.get] at g
    cases e : sl[j]? with
    | none => rw [e] at g; cases g
    | some s =>
      rw [e] at g
      have q := R.rel j s e
      cases s with
      | no => cases g
      | sh d => cases g
      | ow o =>
        obtain ⟨a, hh, e1, _, e3, e4⟩ := q
        rw [h'] at e1
        cases g
        exact main (Option.some.inj (Option.some.inj e1)) e3 e4
      | bo o =>
        obtain ⟨hh, e1, _, e3, e4⟩ := q
        rw [h'] at e1
        cases g
        exact main (Option.some.inj (Option.some.inj e1)) e3 e4
      | lk b o =>
        obtain ⟨hh, e1, _, e3, e4⟩ := q
        rw [h'] at e1
        cases g
        exact main (Option.some.inj (Option.some.inj e1)) e3 e4
def StayL (K : PySem.W.Frag) (ct : Nat → Addr) (F : Hp) (LK : List (Addr × HO)) : List D → List V → Prop
  | [], vs => vs = []
  | d :: ds, vs => ∃ v us, vs = v :: us ∧ Stay K ct F LK d v ∧ StayL K ct F LK ds us
theorem stayL_of (R : Rst K ct bo F H σ sl) (all : List Rf) : ∀ {rs : List Rf} {vs : List V} {ds : List D}, (∀ r ∈ rs, r ∈ all) → RfsAt K ct F σ rs vs → getAll sl rs = some ds → StayL K ct F (lkOf σ H all) ds vs
  | [], vs, ds, _, h, g => by
    have : ([] : List D) = ds := Option.some.inj g
    subst this
    exact h
  | r :: rs, vs, ds, hm, h, g => by
    obtain ⟨v, us, h1, h2, h3⟩ := h
    unfold getAll at g
    cases e : r.get sl with
    | none => rw [e] at g; cases g
    | some d =>
      rw [e] at g
      cases e2 : getAll sl rs with
      | none => rw [e2] at g; cases g
      | some ds' =>
        rw [e2] at g
        cases g
        exact ⟨v, us, h1, stay_of R (hm r List.mem_cons_self) h2 e, stayL_of R all (fun r hr => hm r (List.mem_cons_of_mem _ hr)) h3 e2⟩
/-- the rule of an iterable by values -/
def ItL (K : PySem.W.Frag) (ct : Nat → Addr) (r : List V → Hp → (It → Hp → Prop) → Prop) (f : List D → Option (List D)) : Prop :=
  ∀ (F H : Hp) (LK : List (Addr × HO)) (vs : List V) (ds items : List D) (R : It → Hp → Prop), Ex F H → (∀ p ∈ LK, H p.1 = some p.2) → StayL K ct F LK ds vs → f ds = some items → (∀ J, Wk K ct J items F LK → R J H) → r vs H R
theorem it_core {as : List Ar} {f : List D → Option (List D)} {r : List V → Hp → (It → Hp → Prop) → Prop} {Q : It → Hp → Prop} (hf : ItL K ct r f) (R : Rst K ct bo F H σ sl) (g : GoI K ct W bo (Own σ sl) σ F H (evI as f sl) Q) : tArs K ct W as σ H (fun vs H1 => r vs H1 Q) := by
  refine args_go as (O := Own σ sl) _ R ?_
  unfold evI at g
  cases e : evAs as sl with
  | ok p =>
    obtain ⟨rs, sl'⟩ := p
    rw [e] at g
    simp only at g
    intro vs F' H' R' x E
    cases e2 : getAll sl' rs with
    | none => rw [e2] at g; exact g.elim
    | some ds =>
      rw [e2] at g
      simp only at g
      cases e3 : f ds with
      | none => rw [e3] at g; exact g.elim
      | some items =>
        rw [e3] at g
        exact hf F' H' (lkOf σ H' rs) vs ds items Q R'.ex (fun p hp => (lkOf_ok hp).1) (stayL_of R' rs (fun _ h => h) x e2) e3 fun J wk => g J F' H' _ R' E wk fun p hp => lkOf_ok hp
  | exc c ns ds sl' => rw [e] at g; exact g
  | bad => rw [e] at g; exact g
/-! #### a list, a tuple, a text -/
def fItL : List D → Option (List D)
  | [.lst xs] => some xs
  | [.scr xs] => some xs
  | _ => none
def fItT : List D → Option (List D)
  | [.tup xs] => some xs
  | _ => none
def fItS : List D → Option (List D)
  | [.str z] => some (z.cps.toList.map fun c => .str ⟨#[c]⟩)
  | _ => none
def rItL (K : PySem.W.Frag) : List V → Hp → (It → Hp → Prop) → Prop := fun vs H R => ∃ x, vs = [x] ∧ ∃ a, x = .ref a ∧ (∃ xs, SqL K H a xs) ∧ R (Itl K a) H
def rItT (K : PySem.W.Frag) : List V → Hp → (It → Hp → Prop) → Prop := fun vs H R => ∃ x, vs = [x] ∧ ∃ a, x = .ref a ∧ (∃ xs, SqT K H a xs) ∧ R (Itt K a) H
def rItS : List V → Hp → (It → Hp → Prop) → Prop := fun vs H R => ∃ x, vs = [x] ∧ ∃ z, x = .str z ∧ R (Its z) H
theorem wk_list {LK : List (Addr × HO)} {ds : List D} {p : Addr} (h : ∀ F2 H2, Ex F F2 → Ex F2 H2 → (∀ p ∈ LK, H2 p.1 = some p.2) → ∃ us, SqL K H2 p us ∧ AtL K ct F2 ds us) : Wk K ct (Itl K p) ds F LK where
  go i F2 H2 hi e1 e2 l := by
    obtain ⟨us, h1, h2⟩ := h F2 H2 e1 e2 l
    have : i < us.length := by rw [h2.length]; exact hi
    exact ⟨us, us[i], h1, by simp [this]⟩
  stop F2 H2 e1 e2 l := by
    obtain ⟨us, h1, h2⟩ := h F2 H2 e1 e2 l
    exact ⟨us, h1, by rw [h2.length]; exact Nat.le_refl _⟩
  yld i F2 H2 d x H' hd e1 e2 l y := by
    obtain ⟨us, h1, h2⟩ := h F2 H2 e1 e2 l
    obtain ⟨y1, y2⟩ := y
    obtain ⟨v, g1, g2⟩ := h2.get hd
    have := y2 us h1
    rw [g1] at this
    cases this
    exact .inl ⟨y1, g2⟩
theorem wk_tup {LK : List (Addr × HO)} {ds : List D} {p : Addr} (h : ∀ F2 H2, Ex F F2 → Ex F2 H2 → (∀ p ∈ LK, H2 p.1 = some p.2) → ∃ us, SqT K H2 p us ∧ AtL K ct F2 ds us) : Wk K ct (Itt K p) ds F LK where
  go i F2 H2 hi e1 e2 l := by
    obtain ⟨us, h1, h2⟩ := h F2 H2 e1 e2 l
    have : i < us.length := by rw [h2.length]; exact hi
    exact ⟨us, us[i], h1, by simp [this]⟩
  stop F2 H2 e1 e2 l := by
    obtain ⟨us, h1, h2⟩ := h F2 H2 e1 e2 l
    exact ⟨us, h1, by rw [h2.length]; exact Nat.le_refl _⟩
  yld i F2 H2 d x H' hd e1 e2 l y := by
    obtain ⟨us, h1, h2⟩ := h F2 H2 e1 e2 l
    obtain ⟨y1, y2⟩ := y
    obtain ⟨v, g1, g2⟩ := h2.get hd
    have := y2 us h1
    rw [g1] at this
    cases this
    exact .inl ⟨y1, g2⟩
theorem stay1 {LK : List (Addr × HO)} {d : D} {vs : List V} (a : StayL K ct F LK [d] vs) : ∃ v, vs = [v] ∧ Stay K ct F LK d v := by
  obtain ⟨v, us, h1, s1, s2⟩ := a
  have s2' : us = [] := s2
  subst s2'
  exact ⟨v, h1, s1⟩
theorem stay2 {LK : List (Addr × HO)} {d d' : D} {vs : List V} (a : StayL K ct F LK [d, d'] vs) : ∃ v w, vs = [v, w] ∧ Stay K ct F LK d v ∧ Stay K ct F LK d' w := by
  obtain ⟨v, us, h1, s1, s2⟩ := a
  obtain ⟨w, h2, s3⟩ := stay1 s2
  exact ⟨v, w, by rw [h1, h2], s1, s3⟩
theorem it_lst : ItL K ct (rItL K) fItL := by
  intro F H LK vs ds items R e l a h q
  unfold fItL at h
  split at h
  · cases h
    obtain ⟨v, rfl, s1⟩ := stay1 a
    obtain ⟨p, ws, h1, h2, h3⟩ := s1 F H (Ex.refl F) e l
    subst h1
    refine ⟨_, rfl, p, rfl, ⟨ws, SqL.of h2⟩, q _ (wk_list fun F2 H2 e1 e2 l2 => ?_)⟩
    obtain ⟨p', ws', g1, g2, g3⟩ := s1 F2 H2 e1 e2 l2
    cases g1
    exact ⟨ws', SqL.of g2, g3⟩
  · cases h
    obtain ⟨v, rfl, s1⟩ := stay1 a
    obtain ⟨p, ws, h1, h2, h3⟩ := s1 F H (Ex.refl F) e l
    subst h1
    refine ⟨_, rfl, p, rfl, ⟨ws, h2⟩, q _ (wk_list fun F2 H2 e1 e2 l2 => ?_)⟩
    obtain ⟨p', ws', g1, g2, g3⟩ := s1 F2 H2 e1 e2 l2
    cases g1
    exact ⟨ws', g2, g3⟩
  · cases h
theorem it_tup : ItL K ct (rItT K) fItT := by
  intro F H LK vs ds items R e l a h q
  unfold fItT at h
  split at h
  · cases h
    obtain ⟨v, rfl, s1⟩ := stay1 a
    obtain ⟨p, ws, h1, h2, h3⟩ := s1 F H (Ex.refl F) e l
    subst h1
    refine ⟨_, rfl, p, rfl, ⟨ws, h2⟩, q _ (wk_tup fun F2 H2 e1 e2 l2 => ?_)⟩
    obtain ⟨p', ws', g1, g2, g3⟩ := s1 F2 H2 e1 e2 l2
    cases g1
    exact ⟨ws', g2, g3⟩
  · cases h
theorem it_str : ItL K ct rItS fItS := by
  intro F H LK vs ds items R e l a h q
  unfold fItS at h
  split at h
  · rename_i z
    cases h
    obtain ⟨v, rfl, s1⟩ := stay1 a
    have h1 := s1 F H (Ex.refl F) e l
    cases h1
    refine ⟨_, rfl, z, rfl, q _ ⟨fun i F2 H2 hi _ _ _ => by simpa [Its] using hi, fun F2 H2 _ _ _ => by simp [Its], fun i F2 H2 d x H' hd _ _ _ y => ?_⟩⟩
    obtain ⟨y1, c, y2, y3⟩ := y
    refine .inl ⟨y1, ?_⟩
    rw [List.getElem?_map] at hd
    have : z.cps.toList[i]? = some c := by simpa using y2
    rw [this] at hd
    cases hd
    subst y3
    simp only [At]
  · cases h
/-- one argument -/
theorem go_it1 {f : List D → Option (List D)} {r : List V → Hp → (It → Hp → Prop) → Prop} {R : It → Hp → Prop} (hf : ItL K ct r f) (x : tIt K ct W (evI [ar] f) σ H R) : tAr K ct W ar σ H (fun v H1 => r [v] H1 R) := by
  obtain ⟨bo, F, sl, Rs, g⟩ := x
  exact it_core hf Rs g
theorem go_it2 {f : List D → Option (List D)} {r : List V → Hp → (It → Hp → Prop) → Prop} {R : It → Hp → Prop} (hf : ItL K ct r f) (x : tIt K ct W (evI [ar, br] f) σ H R) : tAr K ct W ar σ H (fun v H1 => tAr K ct W br σ H1 fun w H2 => r [v, w] H2 R) := by
  obtain ⟨bo, F, sl, Rs, g⟩ := x
  exact it_core hf Rs g
theorem it_l (hK : K = X.K) (he : PE X e (tAr K ct W ar)) : PI X tg e (tIt K ct W (evI [ar] fItL)) := by
  subst hK
  refine pi_imp (pi_list he) fun σ H R x => go2.tAr_mono (go_it1 it_lst x) fun v H1 h => ?_
  obtain ⟨x', e1, h⟩ := h
  cases e1
  exact h
theorem it_t (hK : K = X.K) (he : PE X e (tAr K ct W ar)) : PI X tg e (tIt K ct W (evI [ar] fItT)) := by
  subst hK
  refine pi_imp (pi_tup he) fun σ H R x => go2.tAr_mono (go_it1 it_tup x) fun v H1 h => ?_
  obtain ⟨x', e1, h⟩ := h
  cases e1
  exact h
theorem it_s (he : PE X e (tAr K ct W ar)) : PI X tg e (tIt K ct W (evI [ar] fItS)) := by
  refine pi_imp (pi_str he) fun σ H R x => go2.tAr_mono (go_it1 it_str x) fun v H1 h => ?_
  obtain ⟨x', e1, h⟩ := h
  cases e1
  exact h

/-! #### range, zip, enumerate, reversed -/
def rgD (lo : Int) (n : Nat) : List D := (List.range n).map fun (i : Nat) => .int (lo + i)
def rgC (lo c : Int) (n : Nat) : List D := (List.range n).map fun (i : Nat) => .int (lo + (i : Nat) * c)
def fR1 : List D → Option (List D)
  | [.int j] => if -(2 ^ 62) ≤ j ∧ j < 2 ^ 62 then some (rgD 0 j.toNat) else none
  | _ => none
def fR2 : List D → Option (List D)
  | [.int i, .int j] => if -(2 ^ 62) ≤ i ∧ i < 2 ^ 62 ∧ -(2 ^ 62) ≤ j ∧ j < 2 ^ 62 then some (rgD i (j - i).toNat) else none
  | _ => none
/-- downward, by ones -/
def fRd : List D → Option (List D)
  | [.int i, .int j, .int c] => if (-(2 ^ 62) ≤ i ∧ i < 2 ^ 62 ∧ -(2 ^ 62) ≤ j ∧ j < 2 ^ 62) ∧ c = -1 then some (rgC i (-1) (i - j).toNat) else none
  | _ => none
def rR1 : List V → Hp → (It → Hp → Prop) → Prop := fun vs H R => ∃ j : Int, vs = [.int j] ∧ -(2 ^ 62) ≤ j ∧ j < 2 ^ 62 ∧ R (Itr 0 j.toNat) H
def rR2 : List V → Hp → (It → Hp → Prop) → Prop := fun vs H R => ∃ i j : Int, vs = [.int i, .int j] ∧ (-(2 ^ 62) ≤ i ∧ i < 2 ^ 62 ∧ -(2 ^ 62) ≤ j ∧ j < 2 ^ 62) ∧ R (Itr i (j - i).toNat) H
def rR3 : List V → Hp → (It → Hp → Prop) → Prop := fun vs H R => ∃ (i j c : Int) (n : Nat), vs = [.int i, .int j, .int c] ∧ RgC i j c n ∧ R (Itc i c n) H
theorem wk_range {LK : List (Addr × HO)} {lo : Int} {n : Nat} : Wk K ct (Itr lo n) (rgD lo n) F LK where
  go i F2 H2 hi _ _ _ := by simpa [rgD, Itr] using hi
  stop F2 H2 _ _ _ := by simp [rgD, Itr]
  yld i F2 H2 d x H' hd _ _ _ y := by
    obtain ⟨y1, y2⟩ := y
    refine .inl ⟨y1, ?_⟩
    unfold rgD at hd
    rw [List.getElem?_map] at hd
    cases q : (List.range n)[i]? with
    | none => rw [q] at hd; cases hd
    | some k =>
      rw [q] at hd
      have := List.getElem?_eq_some_iff.mp q
      obtain ⟨h1, h2⟩ := this
      rw [List.getElem_range] at h2
      subst h2
      cases hd
      subst y2
      simp only [At]
theorem wk_rangeC {LK : List (Addr × HO)} {lo c : Int} {n : Nat} : Wk K ct (Itc lo c n) (rgC lo c n) F LK where
  go i F2 H2 hi _ _ _ := by simpa [rgC, Itc] using hi
  stop F2 H2 _ _ _ := by simp [rgC, Itc]
  yld i F2 H2 d x H' hd _ _ _ y := by
    obtain ⟨y1, y2⟩ := y
    refine .inl ⟨y1, ?_⟩
    unfold rgC at hd
    rw [List.getElem?_map] at hd
    cases q : (List.range n)[i]? with
    | none => rw [q] at hd; cases hd
    | some k =>
      rw [q] at hd
      have := List.getElem?_eq_some_iff.mp q
      obtain ⟨h1, h2⟩ := this
      rw [List.getElem_range] at h2
      subst h2
      cases hd
      subst y2
      simp only [At]
theorem it_r1' : ItL K ct rR1 fR1 := by
  intro F H LK vs ds items R e l a h q
  unfold fR1 at h
  split at h
  · split at h
    · rename_i hb
      cases h
      obtain ⟨v, rfl, s1⟩ := stay1 a
      have h1 := s1 F H (Ex.refl F) e l
      cases h1
      exact ⟨_, rfl, hb.1, hb.2, q _ wk_range⟩
    · cases h
  · cases h
theorem it_r2' : ItL K ct rR2 fR2 := by
  intro F H LK vs ds items R e l a h q
  unfold fR2 at h
  split at h
  · split at h
    · rename_i hb
      cases h
      obtain ⟨v, w, rfl, s1, s2⟩ := stay2 a
      have h1 := s1 F H (Ex.refl F) e l
      have h2 := s2 F H (Ex.refl F) e l
      cases h1; cases h2
      exact ⟨_, _, rfl, hb, q _ wk_range⟩
    · cases h
  · cases h
theorem it_r3' : ItL K ct rR3 fRd := by
  intro F H LK vs ds items R e l a h q
  unfold fRd at h
  split at h
  · split at h
    · rename_i hb
      cases h
      obtain ⟨v, us, rfl, s1, s2⟩ := a
      obtain ⟨w, u, rfl, s2, s3⟩ := stay2 s2
      have h1 := s1 F H (Ex.refl F) e l
      have h2 := s2 F H (Ex.refl F) e l
      have h3 := s3 F H (Ex.refl F) e l
      cases h1; cases h2; cases h3
      obtain ⟨⟨b1, b2, b3, b4⟩, b5⟩ := hb
      subst b5
      exact ⟨_, _, _, _, rfl, RgC.neg b1 b2 b3 b4, q _ wk_rangeC⟩
    · cases h
  · cases h
variable {cr : Ar} {c : Expr}
theorem it_r1 (hg : Gl X "range") (hm : X.mg "range" = none) (ha : PE X a (tAr K ct W ar)) (hs : starEach [a] X.env = (false, eval a X.env) :: starEach [] X.env := by rfl) : PI X tg (.Call (.Name "range" p) [a] [] pos) (tIt K ct W (evI [ar] fR1)) :=
  pi_imp (pi_range1 hg hm (pa_cons ha pa_nil hs) hs) fun σ H R x => go_it1 it_r1' x
theorem it_r2 (hg : Gl X "range") (hm : X.mg "range" = none) (ha : PE X a (tAr K ct W ar)) (hb : PE X b (tAr K ct W br)) (hs1 : starEach [b] X.env = (false, eval b X.env) :: starEach [] X.env := by rfl) (hs : starEach [a, b] X.env = (false, eval a X.env) :: starEach [b] X.env := by rfl) :
    PI X tg (.Call (.Name "range" p) [a, b] [] pos) (tIt K ct W (evI [ar, br] fR2)) :=
  pi_imp (pi_range2 hg hm (pa_cons ha (pa_cons hb pa_nil hs1) hs) (by rw [hs, hs1]; rfl) hs1) fun σ H R x => go_it2 it_r2' x
theorem it_r3 (hg : Gl X "range") (hm : X.mg "range" = none) (ha : PE X a (tAr K ct W ar)) (hb : PE X b (tAr K ct W br)) (hc : PE X c (tAr K ct W cr)) (hs1 : starEach [c] X.env = (false, eval c X.env) :: starEach [] X.env := by rfl)
    (hs2 : starEach [b, c] X.env = (false, eval b X.env) :: starEach [c] X.env := by rfl) (hs : starEach [a, b, c] X.env = (false, eval a X.env) :: starEach [b, c] X.env := by rfl) (hpl : (backTo pos (starEach [b, c] X.env)).any (·.1) = false := by rfl) :
    PI X tg (.Call (.Name "range" p) [a, b, c] [] pos) (tIt K ct W (evI [ar, br, cr] fRd)) :=
  pi_imp (pi_range3 hg hm (pa_cons ha (pa_cons hb (pa_cons hc pa_nil hs1) hs2) hs) hs hpl) fun σ H R x => by
    obtain ⟨bo, F, sl, Rs, g⟩ := x
    exact it_core it_r3' Rs g
def zipD (xs ys : List D) : List D := (xs.zip ys).map fun p => .tup [p.1, p.2]
def fZip : List D → Option (List D)
  | [.lst xs, .lst ys] => some (zipD xs ys)
  | [.tup xs, .tup ys] => some (zipD xs ys)
  | _ => none
def rZip (K : PySem.W.Frag) : List V → Hp → (It → Hp → Prop) → Prop := fun vs H R => ∃ a b xs ys, vs = [.ref a, .ref b] ∧ ((SqL K H a xs ∧ SqL K H b ys ∧ R (Itz K a b) H) ∨ (SqT K H a xs ∧ SqT K H b ys ∧ R (RZ.ItzT K a b) H))
theorem zipD_get {xs ys : List D} {i : Nat} {d : D} (h : (zipD xs ys)[i]? = some d) : ∃ x y, xs[i]? = some x ∧ ys[i]? = some y ∧ d = .tup [x, y] := by
  unfold zipD at h
  rw [List.getElem?_map] at h
  cases q : (xs.zip ys)[i]? with
  | none => rw [q] at h; cases h
  | some p =>
    rw [q] at h
    cases h
    rw [List.getElem?_zip_eq_some] at q
    exact ⟨p.1, p.2, q.1, q.2, rfl⟩
theorem it_zip' : ItL K ct (rZip K) fZip := by
  intro F H LK vs ds items R e l a h q
  unfold fZip at h
  split at h
  · rename_i xs ys
    cases h
    obtain ⟨v, w, rfl, s1, s2⟩ := stay2 a
    obtain ⟨p1, us1, h1, h2, h3⟩ := s1 F H (Ex.refl F) e l
    obtain ⟨p2, us2, h4, h5, h6⟩ := s2 F H (Ex.refl F) e l
    subst h1; subst h4
    have at1 : ∀ F2 H2, Ex F F2 → Ex F2 H2 → (∀ p ∈ LK, H2 p.1 = some p.2) → ∃ us, SqL K H2 p1 us ∧ AtL K ct F2 xs us := fun F2 H2 e1 e2 l2 => by
      obtain ⟨p', ws', g1, g2, g3⟩ := s1 F2 H2 e1 e2 l2
      cases g1
      exact ⟨ws', SqL.of g2, g3⟩
    have at2 : ∀ F2 H2, Ex F F2 → Ex F2 H2 → (∀ p ∈ LK, H2 p.1 = some p.2) → ∃ us, SqL K H2 p2 us ∧ AtL K ct F2 ys us := fun F2 H2 e1 e2 l2 => by
      obtain ⟨p', ws', g1, g2, g3⟩ := s2 F2 H2 e1 e2 l2
      cases g1
      exact ⟨ws', SqL.of g2, g3⟩
    refine ⟨p1, p2, us1, us2, rfl, .inl ⟨SqL.of h2, SqL.of h5, q _ ⟨fun i F2 H2 hi e1 e2 l2 => ?_, fun F2 H2 e1 e2 l2 => ?_, fun i F2 H2 d x H' hd e1 e2 l2 y => ?_⟩⟩⟩
    · obtain ⟨w1, a1, b1⟩ := at1 F2 H2 e1 e2 l2
      obtain ⟨w2, a2, b2⟩ := at2 F2 H2 e1 e2 l2
      have hi1 : i < w1.length := by rw [b1.length]; simp [zipD] at hi; omega
      have hi2 : i < w2.length := by rw [b2.length]; simp [zipD] at hi; omega
      exact ⟨w1, w2, w1[i], w2[i], a1, a2, by simp [hi1], by simp [hi2]⟩
    · obtain ⟨w1, a1, b1⟩ := at1 F2 H2 e1 e2 l2
      obtain ⟨w2, a2, b2⟩ := at2 F2 H2 e1 e2 l2
      refine ⟨w1, w2, a1, a2, ?_⟩
      rw [b1.length, b2.length]
      simp [zipD]
      omega
    · obtain ⟨w1, a1, b1⟩ := at1 F2 H2 e1 e2 l2
      obtain ⟨w2, a2, b2⟩ := at2 F2 H2 e1 e2 l2
      obtain ⟨x0, y0, g1, g2, rfl⟩ := zipD_get hd
      obtain ⟨T, x1, y1, k1, k2, k3, k4, k5⟩ := y
      obtain ⟨u1, m1, m2⟩ := b1.get g1
      obtain ⟨u2, m3, m4⟩ := b2.get g2
      have r1 := k4 w1 a1
      have r2 := k5 w2 a2
      rw [m1] at r1
      rw [m3] at r2
      cases r1; cases r2
      exact .inr ⟨T, [x1, y1], [x0, y0], k1, k2, k3, rfl, x1, [y1], rfl, m2, y1, [], rfl, m4, rfl⟩
  · rename_i xs ys
    cases h
    obtain ⟨v, w, rfl, s1, s2⟩ := stay2 a
    obtain ⟨p1, us1, h1, h2, h3⟩ := s1 F H (Ex.refl F) e l
    obtain ⟨p2, us2, h4, h5, h6⟩ := s2 F H (Ex.refl F) e l
    subst h1; subst h4
    have at1 : ∀ F2 H2, Ex F F2 → Ex F2 H2 → (∀ p ∈ LK, H2 p.1 = some p.2) → ∃ us, SqT K H2 p1 us ∧ AtL K ct F2 xs us := fun F2 H2 e1 e2 l2 => by
      obtain ⟨p', ws', g1, g2, g3⟩ := s1 F2 H2 e1 e2 l2
      cases g1
      exact ⟨ws', g2, g3⟩
    have at2 : ∀ F2 H2, Ex F F2 → Ex F2 H2 → (∀ p ∈ LK, H2 p.1 = some p.2) → ∃ us, SqT K H2 p2 us ∧ AtL K ct F2 ys us := fun F2 H2 e1 e2 l2 => by
      obtain ⟨p', ws', g1, g2, g3⟩ := s2 F2 H2 e1 e2 l2
      cases g1
      exact ⟨ws', g2, g3⟩
    refine ⟨p1, p2, us1, us2, rfl, .inr ⟨h2, h5, q _ ⟨fun i F2 H2 hi e1 e2 l2 => ?_, fun F2 H2 e1 e2 l2 => ?_, fun i F2 H2 d x H' hd e1 e2 l2 y => ?_⟩⟩⟩
    · obtain ⟨w1, a1, b1⟩ := at1 F2 H2 e1 e2 l2
      obtain ⟨w2, a2, b2⟩ := at2 F2 H2 e1 e2 l2
      have hi1 : i < w1.length := by rw [b1.length]; simp [zipD] at hi; omega
      have hi2 : i < w2.length := by rw [b2.length]; simp [zipD] at hi; omega
      exact ⟨w1, w2, w1[i], w2[i], a1, a2, by simp [hi1], by simp [hi2]⟩
    · obtain ⟨w1, a1, b1⟩ := at1 F2 H2 e1 e2 l2
      obtain ⟨w2, a2, b2⟩ := at2 F2 H2 e1 e2 l2
      refine ⟨w1, w2, a1, a2, ?_⟩
      rw [b1.length, b2.length]
      simp [zipD]
      omega
    · obtain ⟨w1, a1, b1⟩ := at1 F2 H2 e1 e2 l2
      obtain ⟨w2, a2, b2⟩ := at2 F2 H2 e1 e2 l2
      obtain ⟨x0, y0, g1, g2, rfl⟩ := zipD_get hd
      obtain ⟨T, x1, y1, k1, k2, k3, k4, k5⟩ := y
      obtain ⟨u1, m1, m2⟩ := b1.get g1
      obtain ⟨u2, m3, m4⟩ := b2.get g2
      have r1 := k4 w1 a1
      have r2 := k5 w2 a2
      rw [m1] at r1
      rw [m3] at r2
      cases r1; cases r2
      exact .inr ⟨T, [x1, y1], [x0, y0], k1, k2, k3, rfl, x1, [y1], rfl, m2, y1, [], rfl, m4, rfl⟩
  · cases h
theorem it_zip {elts : List Expr} {kk : Nat} {tpos : Pos} (hK : K = X.K) (hg : Gl X "zip") (hm : X.mg "zip" = none) (ha : PE X a (tAr K ct W ar)) (hb : PE X b (tAr K ct W br))
    (hs1 : starEach [b] X.env = (false, eval b X.env) :: starEach [] X.env := by rfl) (hs : starEach [a, b] X.env = (false, eval a X.env) :: starEach [b] X.env := by rfl) (hpl : (backTo pos (starEach [b] X.env)).any (·.1) = false := by rfl) :
    PI X (.Tuple elts kk tpos) (.Call (.Name "zip" p) [a, b] [] pos) (tIt K ct W (evI [ar, br] fZip)) := by
  subst hK
  exact pi_imp (RZ.pi_zipA hg hm (pa_cons ha (pa_cons hb pa_nil hs1) hs) hs hpl) fun σ H R x => go_it2 it_zip' x

/-! ### for -/
def loopF (tg : Tg) (body : MS) : List D → MS
  | [], sl => .ok (.nx, sl)
  | d :: ds, sl => match stT tg d sl with
    | some sl1 => match body sl1 with
      | .ok (.nx, sl2) => loopF tg body ds sl2
      | .ok (.ct, sl2) => loopF tg body ds sl2
      | .ok (.bk, sl2) => .ok (.nx, sl2)
      | r => r
    | none => .bad
def mFor (mi : MI) (tg : Tg) (body : MS) : MS := fun sl => match mi sl with
  | .ok (ds, js, sl1) => match Ml.lockL js sl1 with
    | some sl2 => unlO js (loopF tg body ds sl2)
    | none => .bad
  | .exc c ns ds sl' => .exc c ns ds sl'
  | .bad => .bad
/-- a locked loop's end serves the unlocked one -/
theorem unlO_ok {bo' : Nat → Addr} {js : List Nat} {P O : Addr → Prop} {r : Out (Fl × List Sl)} {D : Ends} (L : Lckd K ct bo bo' js P) (hP : ∀ b, P b → O b ∨ H b = none) (g : GoS K ct W bo O F H (unlO js r) D) : GoS K ct W bo' O F H r D := by
  have wide : ∀ {O1 : Addr → Prop} {F' H' : Hp} {O2 : Addr → Prop}, Ext O F H O1 F' H' → (∀ b, O2 b → O1 b ∨ P b) → Ext O F H O2 F' H' := fun {O1 F' H' O2} E h =>
    ⟨E.fex, E.fr, E.fresh, fun b z => (h b z).elim (E.own b) (hP b)⟩
  cases r with
  | ok p =>
    obtain ⟨f, sl'⟩ := p
    unfold unlO at g
    simp only at g
    cases e : unlL js sl' with
    | none => rw [e] at g; exact g.elim
    | some s2 =>
      rw [e] at g
      cases f with
      | nx => exact fun σ' F' H' R E => g σ' F' H' (L.back R e).1 (wide E (L.back R e).2.1)
      | bk => exact fun σ' F' H' R E => g σ' F' H' (L.back R e).1 (wide E (L.back R e).2.1)
      | ct => exact fun σ' F' H' R E => g σ' F' H' (L.back R e).1 (wide E (L.back R e).2.1)
      | rt rv =>
        intro v σ' F' H' R x E
        refine g v σ' F' H' (L.back R e).1 ?_ (wide E fun b z => ?_)
        · cases rv with
          | sh d => exact x
          | fr o => obtain ⟨p, h, x1, x2, x3, x4, x5⟩ := x; exact ⟨p, h, x1, x2, x3, x4, fun i z => x5 i ((L.back R e).2.2 i p z)⟩
        · rcases z with z | z
          · exact ((L.back R e).2.1 b z).imp .inl id
          · exact .inl (.inr z)
  | exc c ns ds sl' =>
    unfold unlO at g
    simp only at g
    cases e : unlL js sl' with
    | none => rw [e] at g; exact g.elim
    | some s2 =>
      rw [e] at g
      exact fun d vs σ' F' H' p R E a h => g d vs σ' F' H' p (L.back R e).1 (wide E (L.back R e).2.1) a h
  | bad => exact g
/-- one turn's item comes into the state -/
theorem Wk.item {bo : Nat → Addr} {J : It} {ds : List D} {F0 : Hp} {LK : List (Addr × HO)} {i : Nat} {d : D} {x : V} {H' : Hp} (wk : Wk K ct J ds F0 LK) (R : Rst K ct bo F H σ sl) (hd : ds[i]? = some d) (e1 : Ex F0 F) (l : ∀ p ∈ LK, H p.1 = some p.2) (y : J.yld i H x H') :
    ∃ F', Rst K ct bo F' H' σ sl ∧ At K ct F' d x ∧ Ext (Own σ sl) F H (Own σ sl) F' H' ∧ ∀ p ∈ LK, H' p.1 = some p.2 := by
  rcases wk.yld i F H d x H' hd e1 R.ex l y with ⟨y1, y2⟩ | ⟨T, us, es, y1, y2, y3, y4, y5⟩
  · subst y1
    exact ⟨F, R, y2, Ext.refl, l⟩
  · subst y1; subst y3; subst y4
    obtain ⟨a1, a2, a3⟩ := alloc_tup R y2 y5
    exact ⟨_, a1, a2, a3, fun p hp => ex_upd y2 _ _ (l p hp)⟩
theorem st_for {iter : Expr} {body : List Stmt} {mi : MI} {t : Tg} {m : MS} (hp : PassesOwn (model X.prog X.w) X.A X.env X.xe) (hc : X.calm = true) (hi : PI X tg iter (tIt K ct W mi)) (hg : PG X tg (gTg K ct t)) (hb : PSs X body (tS K ct W m))
    (hs : ∀ x, foldedSetIterable iter X.env x = pure x := by intro _; rfl) : PS X (.For tg iter body [] pos) (tS K ct W (mFor mi t m)) := by
  refine ps_imp (ps_for hp hc hi hg hb hs) fun D σ H x => ?_
  obtain ⟨bo, F, sl, R, g⟩ := x
  refine ⟨bo, F, sl, R, ?_⟩
  unfold mFor at g
  cases e1 : mi sl with
  | exc c ns ds sl' => rw [e1] at g; exact g.x
  | bad => rw [e1] at g; exact g
  | ok p1 =>
    obtain ⟨ds, js, sl1⟩ := p1
    rw [e1] at g
    simp only at g
    intro J F1 H1 LK R1 E1 wk hl
    cases e2 : Ml.lockL js sl1 with
    | none => rw [e2] at g; exact g.elim
    | some sl2 =>
      rw [e2] at g
      simp only at g
      obtain ⟨bo', R2, o2, L2, k2⟩ := R1.lockL e2
      have g1 : GoS K ct W bo' (Own σ sl) F H (loopF t m ds sl2) D := unlO_ok L2 (fun b z => E1.own b z) g
      have g2 : GoS K ct W bo' (Own σ sl2) F1 H1 (loopF t m ds sl2) D := g1.step (E1.less o2)
      have notOwn : ∀ p ∈ LK, ¬ Own σ sl2 p.1 := fun p hp' => by
        obtain ⟨_, j, hj, ej⟩ := hl p hp'
        obtain ⟨a, h, o, q1, q2, q3, q4, q5⟩ := k2 j hj
        rw [ej] at q2
        have : p.1 = a := by injection Option.some.inj (Option.some.inj q2)
        rw [this]
        exact q5
      refine ⟨fun i n σ' H' => i ≤ ds.length ∧ n = ds.length - i ∧ ∃ F' sl', Rst K ct bo' F' H' σ' sl' ∧ Ext (Own σ sl2) F1 H1 (Own σ' sl') F' H' ∧ GoS K ct W bo' (Own σ' sl') F' H' (loopF t m (ds.drop i) sl') D,
        ⟨ds.length, Nat.zero_le _, rfl, F1, sl2, R2, Ext.refl, g2⟩, ?_⟩
      rintro i n σ' H' ⟨hi', rfl, F', sl', R', E', g'⟩
      have lk' : ∀ p ∈ LK, H' p.1 = some p.2 := fun p hp' => (E'.fr p.1 p.2 (hl p hp').1).elim (fun z => absurd z (notOwn p hp')) id
      by_cases hlt : i < ds.length
      · refine .inr ⟨wk.go i F' H' hlt E'.fex R'.ex lk', fun σ2 H2 => ∃ F2 s2, Rst K ct bo' F2 H2 σ2 s2 ∧ Ext (Own σ sl2) F1 H1 (Own σ2 s2) F2 H2 ∧ GoS K ct W bo' (Own σ2 s2) F2 H2 (loopF t m (ds.drop (i + 1)) s2) D,
          fun σ2 H2 h => ⟨ds.length - (i + 1), by omega, hlt, rfl, h⟩, fun x H2 y => ?_⟩
        have hd : ds[i]? = some ds[i] := List.getElem?_eq_getElem hlt
        obtain ⟨F2, R3, a3, E3, l3⟩ := wk.item R' hd E'.fex lk' y
        rw [List.drop_eq_getElem_cons hlt] at g'
        unfold loopF at g'
        cases e3 : stT t ds[i] sl' with
        | none => rw [e3] at g'; exact g'.elim
        | some s3 =>
          rw [e3] at g'
          simp only at g'
          refine ⟨bo', F2, sl', ds[i], R3, a3, s3, e3, fun σ3 L3 => ?_⟩
          refine ⟨bo', F2, s3, L3.1, ?_⟩
          have E4 : Ext (Own σ' sl') F' H' (Own σ3 s3) F2 H2 := E3.less L3.2.1
          cases e4 : m s3 with
          | ok p4 =>
            obtain ⟨f, s4⟩ := p4
            rw [e4] at g'
            cases f with
            | nx => exact fun σ5 F5 H5 R5 E5 => ⟨F5, s4, R5, E'.trans (E4.trans E5), g'.step (E4.trans E5)⟩
            | ct => exact fun σ5 F5 H5 R5 E5 => ⟨F5, s4, R5, E'.trans (E4.trans E5), g'.step (E4.trans E5)⟩
            | bk => exact fun σ5 F5 H5 R5 E5 => g' σ5 F5 H5 R5 (E4.trans E5)
            | rt rv => exact fun v σ5 F5 H5 R5 x5 E5 => g' v σ5 F5 H5 R5 x5 (E4.trans E5)
          | exc c ns es s4 => rw [e4] at g'; exact GoX.step (P := fun _ => True) g' E4 fun _ z => z
          | bad => rw [e4] at g'; exact g'
      · have hi2 : i = ds.length := by omega
        subst hi2
        rw [List.drop_length] at g'
        exact .inl ⟨wk.stop F' H' E'.fex R'.ex lk', g' σ' F' H' R' Ext.refl⟩

/-! ### while -/
def mWhF (t : TB) (body : MS) : Nat → MS
  | 0, _ => .bad
  | n + 1, sl => match t sl with
    | .ok (b, sl1) => if b = true then (match body sl1 with
      | .ok (.nx, sl2) => mWhF t body n sl2
      | .ok (.ct, sl2) => mWhF t body n sl2
      | .ok (.bk, sl2) => .ok (.nx, sl2)
      | r => r) else .ok (.nx, sl1)
    | .exc c ns ds sl' => .exc c ns ds sl'
    | .bad => .bad
def mWh (N : Nat) (t : TB) (body : MS) : MS := mWhF t body N
theorem st_while {N : Nat} {cnd : Expr} {body : List Stmt} {t : TB} {m : MS} (hp : PassesOwn (model X.prog X.w) X.A X.env X.xe) (hc : PT X cnd (tTT K ct W t)) (hb : PSs X body (tS K ct W m)) : PS X (.While cnd body [] pos) (tS K ct W (mWh N t m)) := by
  refine ps_imp (ps_while hp hc hb) fun D σ H x => ?_
  obtain ⟨bo, F, sl, R, g⟩ := x
  refine ⟨fun n σ' H' => ∃ F' sl', Rst K ct bo F' H' σ' sl' ∧ GoS K ct W bo (Own σ' sl') F' H' (mWhF t m n sl') D, ⟨N, F, sl, R, g⟩, ?_⟩
  rintro n σ' H' ⟨F', sl', R', g'⟩
  refine ⟨bo, F', sl', R', ?_⟩
  cases n with
  | zero => exact g'.elim
  | succ n =>
    unfold mWhF at g'
    cases e1 : t sl' with
    | ok p1 =>
      obtain ⟨b, s1⟩ := p1
      rw [e1] at g'
      simp only at g'
      intro F1 H1 R1 E1
      cases b with
      | false =>
        rw [if_neg (by decide)]
        simp only [Bool.false_eq_true, if_false] at g'
        exact g' σ' F1 H1 R1 E1
      | true =>
        rw [if_pos rfl]
        simp only [if_true] at g'
        refine ⟨fun σ2 H2 => ∃ F2 s2, Rst K ct bo F2 H2 σ2 s2 ∧ GoS K ct W bo (Own σ2 s2) F2 H2 (mWhF t m n s2) D, fun σ2 H2 h => ⟨n, Nat.lt_succ_self n, h⟩, bo, F1, s1, R1, ?_⟩
        cases e2 : m s1 with
        | ok p2 =>
          obtain ⟨f, s2⟩ := p2
          rw [e2] at g'
          cases f with
          | nx => exact fun σ5 F5 H5 R5 E5 => ⟨F5, s2, R5, g'.step (E1.trans E5)⟩
          | ct => exact fun σ5 F5 H5 R5 E5 => ⟨F5, s2, R5, g'.step (E1.trans E5)⟩
          | bk => exact fun σ5 F5 H5 R5 E5 => g' σ5 F5 H5 R5 (E1.trans E5)
          | rt rv => exact fun v σ5 F5 H5 R5 x5 E5 => g' v σ5 F5 H5 R5 x5 (E1.trans E5)
        | exc c ns es s4 => rw [e2] at g'; exact GoX.step (P := fun _ => True) g' E1 fun _ z => z
        | bad => rw [e2] at g'; exact g'
    | exc c ns ds sl' => rw [e1] at g'; exact g'.x
    | bad => rw [e1] at g'; exact g'
end
end Ml

set_option maxHeartbeats 4000000
/-! Defs: what a call gives. -/
namespace Ml
open PySem L2 PyProof.Rows

/-- a def's mirror: from its arguments (data, or objects that are lent) to what it returns and what became of the arguments -/
abbrev MF := List Sl → Out (RV × List Sl)
def mFn (n k : Nat) (body : MS) : MF := fun ps => if ps.length = n then (match body (ps ++ List.replicate k .no) with
  | .ok (.rt rv, sl) => .ok (rv, sl.take n)
  | .ok (.nx, sl) => .ok (.sh .non, sl.take n)
  | .exc c ns ds sl => .exc c ns ds (sl.take n)
  | _ => .bad) else .bad
section
variable (K : PySem.W.Frag) (ct : Nat → Addr)
def GoF (bo : Nat → Addr) (O : Addr → Prop) (F H : Hp) (r : Out (RV × List Sl)) (Q : VK) (E : XK) : Prop :=
  match r with
  | .ok (rv, sl') => ∀ v σ' F' H', Rst K ct bo F' H' σ' sl' → RvAt K ct F' H' σ' sl' rv v → Ext O F H (fun b => Own σ' sl' b ∨ OwnR rv v b) F' H' → Q v H'
  | .exc c ns ds sl' => ∀ d vs σ' F' H', Rst K ct bo F' H' σ' sl' → Ext O F H (Own σ' sl') F' H' → AtL K ct F' ds vs → H' d = some (.xd (ns.zip vs)) → E (.ref (ct c)) (some d) H'
  | .bad => False
def spF (f : MF) : Sp := fun vs H Q E => ∃ bo F ps, Rst K ct bo F H (vs.map some) ps ∧ GoF K ct bo (Own (vs.map some) ps) F H (f ps) Q E
end
section
variable {K : PySem.W.Frag} {ct : Nat → Addr} {W : WX} {bo : Nat → Addr} {F H : Hp} {σ : L2.St} {sl : List Sl} {X : Cx}
theorem Rst.grow (R : Rst K ct bo F H σ sl) (k : Nat) (τ : L2.St) (ht : τ.length = k) : Rst K ct bo F H (σ ++ τ) (sl ++ List.replicate k .no) ∧ ∀ b, Own (σ ++ τ) (sl ++ List.replicate k .no) b → Own σ sl b := by
  have hl := R.len
  have key : ∀ {i : Nat} {s : Sl}, (sl ++ List.replicate k Sl.no)[i]? = some s → (sl[i]? = some s ∧ (σ ++ τ)[i]? = σ[i]?) ∨ s = .no := fun {i s} e => by
    by_cases q : i < sl.length
    · rw [List.getElem?_append_left q] at e
      exact .inl ⟨e, List.getElem?_append_left (by omega)⟩
    · rw [List.getElem?_append_right (by omega), List.getElem?_replicate] at e
      split at e
      · cases e; exact .inr rfl
      · cases e
  have hs : ∀ {i : Nat} {a : Addr}, Has (σ ++ τ) (sl ++ List.replicate k .no) i a → Has σ sl i a := fun {i a} z => by
    obtain ⟨s, h1, h2, h3⟩ := z
    rcases key h1 with ⟨q1, q2⟩ | q
    · exact ⟨s, q1, h2, by rw [← q2]; exact h3⟩
    · rw [q] at h2; cases h2
  refine ⟨⟨R.ex, fun i s e => ?_, fun i j a z z' => R.ds i j a (hs z) (hs z'), by simp [hl, ht]⟩, fun b z => ?_⟩
  · rcases key e with ⟨q1, q2⟩ | q
    · rw [q2]; exact R.rel i s q1
    · subst q; trivial
  · obtain ⟨i, s, h1, h2, h3⟩ := z
    rcases key h1 with ⟨q1, q2⟩ | q
    · exact ⟨i, s, q1, h2, by rw [← q2]; exact h3⟩
    · rw [q] at h2; cases h2
theorem take_get {α : Type} {l : List α} {n i : Nat} {x : α} (h : (l.take n)[i]? = some x) : l[i]? = some x ∧ i < n := by
  rw [List.getElem?_take] at h
  split at h
  · rename_i q; exact ⟨h, q⟩
  · cases h
theorem Rst.cut (R : Rst K ct bo F H σ sl) (n : Nat) : Rst K ct bo F H (σ.take n) (sl.take n) ∧ (∀ b, Own (σ.take n) (sl.take n) b → Own σ sl b) ∧ ∀ i b, Has (σ.take n) (sl.take n) i b → Has σ sl i b := by
  have hs : ∀ {i : Nat} {a : Addr}, Has (σ.take n) (sl.take n) i a → Has σ sl i a := fun {i a} z => by
    obtain ⟨s, h1, h2, h3⟩ := z
    exact ⟨s, (take_get h1).1, h2, (take_get h3).1⟩
  refine ⟨⟨R.ex, fun i s e => ?_, fun i j a z z' => R.ds i j a (hs z) (hs z'), by simp [R.len]⟩, fun b z => ?_, fun i b z => hs z⟩
  · obtain ⟨q1, q2⟩ := take_get e
    have := R.rel i s q1
    rw [List.getElem?_take, if_pos q2]
    exact this
  · obtain ⟨i, s, h1, h2, h3⟩ := z
    exact ⟨i, s, (take_get h1).1, h2, (take_get h3).1⟩
theorem RvAt.cut {rv : RV} {v : V} (n : Nat) (R : Rst K ct bo F H σ sl) (x : RvAt K ct F H σ sl rv v) : RvAt K ct F H (σ.take n) (sl.take n) rv v := by
  cases rv with
  | sh d => exact x
  | fr o => obtain ⟨p, h, x1, x2, x3, x4, x5⟩ := x; exact ⟨p, h, x1, x2, x3, x4, fun i z => x5 i ((R.cut n).2.2 i p z)⟩
/-- the def's rule: its body as a mirror -/
theorem fn_ok {P : Program} {w : World} {mg : Str → Option Value} {base : Heap} {x qual : Str} {params : Arguments} {body : List Stmt} {scope : Scope} {dvs : List V} {kws : List (Str × V)} {f : Addr} {fd : FuncData} {N ps : List Str} {k n j : Nat} {m : MS}
    (D : FunD K x qual params body scope dvs kws f fd) (S : FnScope N ps scope) (hn : ps.length = n) (hj : N.length - n = j)
    (hb : ∀ (cdv : Value) (A : Around) (outer : List Env) (s : Shared) (H : Hp) (E : XK), Room k (A.deeper (envOfC qual scope s.heap.objs.size f cdv)) →
      PSs (cxOf (L2.CX P w) P w K mg base N qual scope f cdv A outer s H E) body (tS K ct (fun cls d _ H => E cls d H) m)) : FnOk P w K mg base (L2.CX P w) (k + 1) f fd ps (spF K ct (mFn n j m)) := by
  have len : ∀ vs H Q E, spF K ct (mFn n j m) vs H Q E → vs.length = n := fun vs H Q E h => by
    obtain ⟨bo, F, ps', R, g⟩ := h
    unfold mFn at g
    split at g
    · rename_i hl
      have := R.len
      rw [List.length_map] at this
      omega
    · exact g.elim
  refine D.ok S (fun vs H Q E h => (len vs H Q E h).trans hn.symm) fun cdv A outer s H vs Q E hr h => ⟨_, hb cdv A outer s H E hr, ?_⟩
  have lv := len vs H Q E h
  obtain ⟨bo, F, ps', R, g⟩ := h
  obtain ⟨R2, o2⟩ := R.grow j (List.replicate j none) (by simp)
  refine ⟨bo, F, ps' ++ List.replicate j .no, ?_, ?_⟩
  · have : L2.start N vs = vs.map some ++ List.replicate j none := by
      unfold L2.start
      rw [lv, hj]
    rw [this]
    exact R2
  · have lp : ps'.length = n := by
      have := R.len
      rw [List.length_map] at this
      omega
    have e0 : L2.start N vs = vs.map some ++ List.replicate j none := by
      unfold L2.start
      rw [lv, hj]
    rw [e0]
    unfold mFn at g
    rw [if_pos lp] at g
    cases e : m (ps' ++ List.replicate j .no) with
    | ok p =>
      obtain ⟨fl, sl'⟩ := p
      rw [e] at g
      cases fl with
      | nx => exact fun σ' F' H' R' E' => g .non _ F' H' (R'.cut n).1 (by simp only [RvAt, At]) ((E'.more o2).less fun b z => by rcases z with z | z; exact (R'.cut n).2.1 b z; exact z.elim)
      | rt rv => exact fun v σ' F' H' R' x E' => g v _ F' H' (R'.cut n).1 (x.cut n R') ((E'.more o2).less fun b z => z.imp ((R'.cut n).2.1 b) id)
      | bk => exact g.elim
      | ct => exact g.elim
    | exc c ns ds sl' => rw [e] at g; exact fun d vs' σ' F' H' _ R' E' a h => g d vs' _ F' H' (R'.cut n).1 ((E'.more o2).less (R'.cut n).2.1) a h
    | bad => rw [e] at g; exact g.elim

/-! ### calls: all arguments frozen -/
def runF (f : MF) (ds : List D) (sl : List Sl) : Out (RV × List Sl) := match f (ds.map Sl.sh) with
  | .ok (rv, _) => .ok (rv, sl)
  | .exc c ns es _ => .exc c ns es sl
  | .bad => .bad
def mCall (f : MF) (as : List M) : M := fun sl => match evAs (evFs as) sl with
  | .ok (rs, sl') => match getAll sl' rs with
    | some ds => runF f ds sl'
    | none => .bad
  | .exc c ns ds sl' => .exc c ns ds sl'
  | .bad => .bad
theorem atl_get' : ∀ {ds : List D} {vs : List V} {i : Nat} {d : D}, AtL K ct F ds vs → ds[i]? = some d → ∃ v, vs[i]? = some v ∧ At K ct F d v := fun h e => h.get e
/-- the arguments as the callee's slots -/
theorem args_slots {ds : List D} {vs : List V} (e : Ex F H) (h : AtL K ct F ds vs) : Rst K ct (fun _ => 0) F H (vs.map some) (ds.map Sl.sh) ∧ ∀ b, ¬ Own (vs.map some) (ds.map Sl.sh) b := by
  have no : ∀ {i : Nat} {s : Sl}, (ds.map Sl.sh)[i]? = some s → ∃ d, s = .sh d ∧ ds[i]? = some d := fun {i s} z => by
    rw [List.getElem?_map] at z
    cases q : ds[i]? with
    | none => rw [q] at z; cases z
    | some d => rw [q] at z; cases z; exact ⟨d, rfl, rfl⟩
  refine ⟨⟨e, fun i s z => ?_, fun i j a z => ?_, by simp [h.length]⟩, fun b z => ?_⟩
  · obtain ⟨d, rfl, q⟩ := no z
    obtain ⟨v, h1, h2⟩ := h.get q
    exact ⟨v, by rw [List.getElem?_map, h1]; rfl, h2⟩
  · obtain ⟨s, h1, h2, _⟩ := z
    obtain ⟨d, rfl, q⟩ := no h1
    cases h2
  · obtain ⟨i, s, h1, h2, _⟩ := z
    obtain ⟨d, rfl, q⟩ := no h1
    cases h2
theorem Rst.under {F' H' : Hp} {O' : Addr → Prop} (R : Rst K ct bo F H σ sl) (E : Ext (fun _ => False) F H O' F' H') (ex : Ex F' H') : Rst K ct bo F' H' σ sl ∧ Ext (Own σ sl) F H (Own σ sl) F' H' ∧ ∀ i a, Has σ sl i a → ¬ O' a := by
  have hh : ∀ b o, H b = some o → H' b = some o := fun b o z => (E.fr b o z).elim False.elim id
  have fnone : ∀ {b : Addr} {o : HO}, F b = none → H b = some o → F' b = none := fun {b o} h1 h2 => by
    cases q : F' b with
    | none => rfl
    | some u =>
      rcases E.fresh b (by rw [q]; exact fun z => by cases z) with z | z | z
      · exact absurd h1 z
      · exact z.elim
      · rw [h2] at z; cases z
  refine ⟨⟨ex, fun i s z => ?_, R.ds, R.len⟩, ⟨E.fex, fun b o z => .inr (hh b o z), fun b z => (E.fresh b z).imp id fun y => .inr (y.elim False.elim id), fun b z => .inl z⟩, fun i a z w => ?_⟩
  · have q := R.rel i s z
    cases s with
    | no => trivial
    | sh d => obtain ⟨v, q1, q2⟩ := q; exact ⟨v, q1, q2.mono E.fex⟩
    | ow o => obtain ⟨a, h, q1, q2, q3, q4⟩ := q; exact ⟨a, h, q1, fnone q2 q3, hh _ _ q3, q4.mono E.fex⟩
    | bo o => obtain ⟨h, q1, q2, q3, q4⟩ := q; exact ⟨h, q1, fnone q2 q3, hh _ _ q3, q4.mono E.fex⟩
    | lk b o => obtain ⟨h, q1, q2, q3, q4⟩ := q; exact ⟨h, q1, fnone q2 q3, hh _ _ q3, q4.mono E.fex⟩
  · rcases E.own a w with y | y
    · exact y
    · exact (R.out z).2 y
/-- a callee that is handed data alone -/
theorem run_core {f : MF} {ds : List D} {vs : List V} {Q : VK} {σ0 : L2.St} (R : Rst K ct bo F H σ sl) (h : AtL K ct F ds vs)
    (g : GoE K ct W bo (Own σ sl) σ F H (runF f ds sl) Q) : spF K ct f vs H Q (WE W σ) := by
  obtain ⟨R2, no⟩ := args_slots R.ex h
  refine ⟨_, F, _, R2, ?_⟩
  unfold runF at g
  cases e : f (ds.map Sl.sh) with
  | ok p =>
    obtain ⟨rv, outs⟩ := p
    rw [e] at g
    intro v σ' F' H' R' x E
    have E0 : Ext (fun _ => False) F H (fun b => Own σ' outs b ∨ OwnR rv v b) F' H' := E.more fun b z => no b z
    obtain ⟨R3, E3, d3⟩ := R.under E0 R'.ex
    refine g v F' H' R3 ?_ ⟨E3.fex, E3.fr, E3.fresh, fun b z => ?_⟩
    · cases rv with
      | sh d => exact x
      | fr o => obtain ⟨p, u, x1, x2, x3, x4, x5⟩ := x; exact ⟨p, u, x1, x2, x3, x4, fun i z => d3 i p z (.inr (by rw [x1]; exact rfl))⟩
    · rcases z with z | z
      · exact .inl z
      · exact (E0.own b (.inr z)).elim False.elim .inr
  | exc c ns es outs =>
    rw [e] at g
    intro d us σ' F' H' R' E a hd
    have E0 : Ext (fun _ => False) F H (Own σ' outs) F' H' := E.more fun b z => no b z
    obtain ⟨R3, E3, _⟩ := R.under E0 R'.ex
    exact g d us σ F' H' rfl R3 E3 a hd
  | bad => rw [e] at g; exact g
theorem call_core {f : MF} {as : List M} {Q : VK} (R : Rst K ct bo F H σ sl) (g : GoE K ct W bo (Own σ sl) σ F H (mCall f as sl) Q) : tArs K ct W (evFs as) σ H (fun vs H1 => spF K ct f vs H1 Q (WE W σ)) := by
  refine args_go (evFs as) (O := Own σ sl) _ R ?_
  unfold mCall at g
  cases e : evAs (evFs as) sl with
  | ok p =>
    obtain ⟨rs, sl'⟩ := p
    rw [e] at g
    simp only at g
    intro vs F' H' R' x E
    cases e2 : getAll sl' rs with
    | none => rw [e2] at g; exact g.elim
    | some ds =>
      rw [e2] at g
      have er := getAll_sh sl' (evAs_sh e) e2
      subst er
      exact run_core (σ0 := σ) R' (rfs_at x) (GoE.step g E)
  | exc c ns ds sl' => rw [e] at g; exact g
  | bad => rw [e] at g; exact g
variable {e : Expr} {es : List Expr} {f : MF} {as : List M} {m : M} {p pos : Pos} {x : Str} {k : Nat} {fa : Addr} {fd : FuncData} {ps : List Str}
theorem passW0 {X : Cx} (σ : L2.St) : PassesAt (L2.CX X.prog X.w) X σ (WE (fun _ _ _ _ => False) σ) := fun pins H s e s' I h => passL (X := X) pins σ H s e s' I h
theorem se_call (G : FnOk X.prog X.w X.K X.mg X.base (L2.CX X.prog X.w) k fa fd ps (spF K ct f)) (hr : Room k X.A) (hg : Gl X x) (hm : X.mg x = some (.ref fa)) (hk : PySem.W.keepIn X.K (.ref fa) = true) (hb : Binds X.K fd ps []) (hx : ∀ σ, PassesAt (L2.CX X.prog X.w) X σ (WE W σ))
    (ha : PA X (e :: es) (tArs K ct W (evFs as))) (hdb : (x == ("__debug__" : Str)) = false := by decide) (he : starEach (e :: es) X.env = (false, eval e X.env) :: starEach es X.env := by rfl) (hpl : (backTo pos (starEach es X.env)).any (·.1) = false := by rfl) :
    PE X (.Call (.Name x p) (e :: es) [] pos) (tM K ct W (mCall f as)) := pe_imp (pe_callS G hr hg hm hk hb hx ha hdb he hpl) fun σ H Q x => by
  obtain ⟨bo, F, sl, R, g⟩ := x
  exact call_core R g

/-! ### calls: the first argument lent -/
def mCallB (f : MF) (j : Nat) (as : List M) : M := fun sl => match sl[j]? with
  | some s0 => if s0.mutB = true then (match evAs (evFs as) sl with
    | .ok (rs, sl') => match getAll sl' rs with
      | some ds => match sl'[j]? with
        | some s => match s.mob with
          | some o => match f (.bo o :: ds.map Sl.sh) with
            | .ok (rv, .bo o' :: _) => .ok (rv, sl'.set j (s.upd o'))
            | .exc c ns es (.bo o' :: _) => .exc c ns es (sl'.set j (s.upd o'))
            | _ => .bad
          | none => .bad
        | none => .bad
      | none => .bad
    | .exc c ns ds sl' => .exc c ns ds sl'
    | .bad => .bad) else .bad
  | none => .bad
/-- the caller's state behind a callee to which the object of slot j was lent -/
theorem Rst.lend {F' H' : Hp} {O' : Addr → Prop} {j : Nat} {s : Sl} {a : Addr} {o' : Ob} {h' : HO} (R : Rst K ct bo F H σ sl) (ej : sl[j]? = some s) (hm : s.mutB = true) (ea : σ[j]? = some (some (.ref a)))
    (E : Ext (fun b => b = a) F H O' F' H') (ex : Ex F' H') (hh : H' a = some h') (ho : ObAt K ct F' o' h') (fa : F' a = none) :
    Rst K ct bo F' H' σ (sl.set j (s.upd o')) ∧ Ext (Own σ sl) F H (Own σ (sl.set j (s.upd o'))) F' H' ∧ ∀ i b, Has σ (sl.set j (s.upd o')) i b → b = a ∨ ¬ O' b := by
  have hj : Has σ sl j a := ⟨s, ej, Sl.has_of_mut hm, ea⟩
  have key : ∀ {i : Nat} {b : Addr}, Has σ (sl.set j (s.upd o')) i b → Has σ sl i b := fun {i b} z => by
    obtain ⟨s', h1, h2, h3⟩ := z
    by_cases q : i = j
    · subst q
      rw [get_set_eq ej] at h1
      cases h1
      rw [Sl.upd_has] at h2
      exact ⟨s, ej, h2, h3⟩
    · rw [get_set_ne q] at h1
      exact ⟨s', h1, h2, h3⟩
  have stay : ∀ {b : Addr} {o : HO}, b ≠ a → H b = some o → H' b = some o := fun {b o} ne z => (E.fr b o z).elim (fun w => absurd w ne) id
  have fnone : ∀ {b : Addr} {o : HO}, b ≠ a → F b = none → H b = some o → F' b = none := fun {b o} ne h1 h2 => by
    cases q : F' b with
    | none => rfl
    | some u =>
      rcases E.fresh b (by rw [q]; exact fun z => by cases z) with z | z | z
      · exact absurd h1 z
      · exact absurd z ne
      · rw [h2] at z; cases z
  refine ⟨⟨ex, fun i s' z => ?_, fun i i' b z z' => R.ds i i' b (key z) (key z'), by rw [List.length_set, R.len]⟩, ⟨E.fex, fun b o z => ?_, fun b z => ?_, fun b z => ?_⟩, fun i b z => ?_⟩
  · by_cases q : i = j
    · subst q
      rw [get_set_eq ej] at z
      cases z
      have qr := R.rel i s ej
      cases s with
      | no => cases hm
      | sh d => cases hm
      | lk b o => cases hm
      | ow o0 => exact ⟨a, h', ea, fa, hh, ho⟩
      | bo o0 =>
        obtain ⟨h0, e1, _⟩ := qr
        rw [ea] at e1
        have : a = bo i := by injection Option.some.inj (Option.some.inj e1)
        subst this
        exact ⟨h', ea, fa, hh, ho⟩
    · rw [get_set_ne q] at z
      have qr := R.rel i s' z
      have ne : ∀ {b : Addr}, s'.hasB = true → σ[i]? = some (some (.ref b)) → b ≠ a := fun {b} h2 h3 w => q (R.ds i j a ⟨s', z, h2, by rw [← w]; exact h3⟩ hj)
      cases s' with
      | no => trivial
      | sh d => obtain ⟨v, q1, q2⟩ := qr; exact ⟨v, q1, q2.mono E.fex⟩
      | ow o => obtain ⟨b, u, q1, q2, q3, q4⟩ := qr; exact ⟨b, u, q1, fnone (ne rfl q1) q2 q3, stay (ne rfl q1) q3, q4.mono E.fex⟩
      | bo o => obtain ⟨u, q1, q2, q3, q4⟩ := qr; exact ⟨u, q1, fnone (ne rfl q1) q2 q3, stay (ne rfl q1) q3, q4.mono E.fex⟩
      | lk b o => obtain ⟨u, q1, q2, q3, q4⟩ := qr; exact ⟨u, q1, fnone (ne rfl q1) q2 q3, stay (ne rfl q1) q3, q4.mono E.fex⟩
  · by_cases q : b = a
    · exact .inl ⟨j, s, ej, hm, by rw [q]; exact ea⟩
    · exact .inr (stay q z)
  · rcases E.fresh b z with w | w | w
    · exact .inl w
    · exact .inr (.inl ⟨j, s, ej, hm, by rw [w]; exact ea⟩)
    · exact .inr (.inr w)
  · obtain ⟨i, s', h1, h2, h3⟩ := z
    by_cases q : i = j
    · subst q
      rw [get_set_eq ej] at h1
      cases h1
      rw [Sl.upd_mut] at h2
      exact .inl ⟨i, s, ej, h2, h3⟩
    · rw [get_set_ne q] at h1
      exact .inl ⟨i, s', h1, h2, h3⟩
  · by_cases q : b = a
    · exact .inl q
    · refine .inr fun w => ?_
      rcases E.own b w with y | y
      · exact q y
      · exact (R.out (key z)).2 y
/-- the arguments as the callee's slots, the first one lent -/
theorem args_slotsB {o : Ob} {a : Addr} {h : HO} {ds : List D} {vs : List V} (e : Ex F H) (fa : F a = none) (ha : H a = some h) (ho : ObAt K ct F o h) (x : AtL K ct F ds vs) :
    Rst K ct (fun _ => a) F H ((.ref a :: vs).map some) (.bo o :: ds.map Sl.sh) ∧ ∀ b, Own ((.ref a :: vs).map some) (.bo o :: ds.map Sl.sh) b → b = a := by
  have cs : ∀ {i : Nat} {s : Sl}, (Sl.bo o :: ds.map Sl.sh)[i]? = some s → (i = 0 ∧ s = .bo o) ∨ ∃ k d, i = k + 1 ∧ s = .sh d ∧ ds[k]? = some d := fun {i s} z => by
    cases i with
    | zero => left; exact ⟨rfl, by simpa using z.symm⟩
    | succ k =>
      right
      rw [List.getElem?_cons_succ, List.getElem?_map] at z
      cases q : ds[k]? with
      | none => rw [q] at z; cases z
      | some d => rw [q] at z; cases z; exact ⟨k, d, rfl, rfl, q⟩
  refine ⟨⟨e, fun i s z => ?_, fun i j b z z' => ?_, by simp [x.length]⟩, fun b z => ?_⟩
  · rcases cs z with ⟨rfl, rfl⟩ | ⟨k, d, rfl, rfl, q⟩
    · exact ⟨h, rfl, fa, ha, ho⟩
    · obtain ⟨v, h1, h2⟩ := x.get q
      refine ⟨v, ?_, h2⟩
      rw [List.map_cons, List.getElem?_cons_succ, List.getElem?_map, h1]
      rfl
  · obtain ⟨s, h1, h2, _⟩ := z
    obtain ⟨s', h1', h2', _⟩ := z'
    rcases cs h1 with ⟨rfl, rfl⟩ | ⟨k, d, rfl, rfl, q⟩
    · rcases cs h1' with ⟨rfl, rfl⟩ | ⟨k, d, rfl, rfl, q⟩
      · rfl
      · cases h2'
    · cases h2
  · obtain ⟨i, s, h1, h2, h3⟩ := z
    rcases cs h1 with ⟨rfl, rfl⟩ | ⟨k, d, rfl, rfl, q⟩
    · have h3' : (some (some (V.ref a)) : Option (Option V)) = some (some (.ref b)) := h3
      have := Option.some.inj (Option.some.inj h3')
      injection this with this
      exact this.symm
    · cases h2
theorem se_callB' {j : Nat} {e0 : Expr} (G : FnOk X.prog X.w X.K X.mg X.base (L2.CX X.prog X.w) k fa fd ps (spF K ct f)) (hr : Room k X.A) (hg : Gl X x) (hm : X.mg x = some (.ref fa)) (hk : PySem.W.keepIn X.K (.ref fa) = true) (hb : Binds X.K fd ps []) (hx : ∀ σ, PassesAt (L2.CX X.prog X.w) X σ (WE W σ))
    (h0 : PE X e0 (tVar j)) (ha : PA X es (tArs K ct W (evFs as))) (hdb : (x == ("__debug__" : Str)) = false := by decide) (he : starEach (e0 :: es) X.env = (false, eval e0 X.env) :: starEach es X.env := by rfl) (hpl : (backTo pos (starEach es X.env)).any (·.1) = false := by rfl) :
    PE X (.Call (.Name x p) (e0 :: es) [] pos) (tM K ct W (mCallB f j as)) := pe_imp (pe_callS G hr hg hm hk hb hx (pa_cons h0 ha he) hdb he hpl) fun σ H Q x => by
  obtain ⟨bo, F, sl, R, g⟩ := x
  unfold mCallB at g
  cases e0 : sl[j]? with
  | none => rw [e0] at g; exact g.elim
  | some s0 =>
    rw [e0] at g
    simp only at g
    split at g
    · rename_i hm0
      have hs0 : ∃ a, σ[j]? = some (some (.ref a)) := by
        have q := R.rel j s0 e0
        cases s0 with
        | no => cases hm0
        | sh d => cases hm0
        | lk b o => cases hm0
        | ow o => obtain ⟨a, u, q1, _⟩ := q; exact ⟨a, q1⟩
        | bo o => obtain ⟨u, q1, _⟩ := q; exact ⟨_, q1⟩
      obtain ⟨a, q1⟩ := hs0
      refine ⟨.ref a, q1, ?_⟩
      refine args_go (evFs as) (O := Own σ sl) (fun vs H1 => spF K ct f (.ref a :: vs) H1 Q (WE W σ)) R ?_
      cases e : evAs (evFs as) sl with
      | ok pr =>
        obtain ⟨rs, sl'⟩ := pr
        rw [e] at g
        simp only at g
        intro vs F' H' R' x E
        cases e2 : getAll sl' rs with
        | none => rw [e2] at g; exact g.elim
        | some ds =>
          rw [e2] at g
          have er := getAll_sh sl' (evAs_sh e) e2
          subst er
          simp only at g
          cases e3 : sl'[j]? with
          | none => rw [e3] at g; exact g.elim
          | some s =>
            rw [e3] at g
            simp only at g
            cases e4 : s.mob with
            | none => rw [e4] at g; exact g.elim
            | some o =>
              rw [e4] at g
              simp only at g
              obtain ⟨hmu, a', h, w1, w2, w3⟩ := R'.mobj e3 e4
              rw [q1] at w1
              have : a = a' := by injection Option.some.inj (Option.some.inj w1)
              subst this
              have fa := (R'.out ⟨s, e3, Sl.has_of_mut hmu, q1⟩).1
              obtain ⟨R2, no⟩ := args_slotsB R'.ex fa w2 w3 (rfs_at x)
              refine ⟨_, F', _, R2, ?_⟩
              cases e5 : f (.bo o :: ds.map Sl.sh) with
              | ok p5 =>
                obtain ⟨rv, outs⟩ := p5
                rw [e5] at g
                cases outs with
                | nil => exact g.elim
                | cons s1 outs =>
                  cases s1 with
                  | bo o' =>
                    simp only at g
                    intro v σ5 F5 H5 R5 x5 E5
                    obtain ⟨h5, y1, y2, y3, y4⟩ := R5.rel 0 _ rfl
                    have E6 : Ext (fun b => b = a) F' H' (fun b => Own σ5 (.bo o' :: outs) b ∨ OwnR rv v b) F5 H5 := E5.more no
                    obtain ⟨R7, E7, d7⟩ := R'.lend e3 hmu q1 E6 R5.ex y3 y4 y2
                    refine g v F5 H5 R7 ?_ ⟨E.fex.trans E7.fex, (E.trans E7).fr, (E.trans E7).fresh, fun b z => ?_⟩
                    · cases rv with
                      | sh d => exact x5
                      | fr o6 =>
                        obtain ⟨p6, u6, x1, x2, x3, x4, x5'⟩ := x5
                        refine ⟨p6, u6, x1, x2, x3, x4, fun i z => ?_⟩
                        rcases d7 i p6 z with w | w
                        · exact x5' 0 ⟨_, rfl, rfl, by rw [w]; exact y1⟩
                        · exact w (.inr (by rw [x1]; exact rfl))
                    · rcases z with z | z
                      · exact (E.trans E7).own b z
                      · rcases E6.own b (.inr z) with w | w
                        · exact E.own b ⟨j, s, e3, hmu, by rw [w]; exact q1⟩
                        · cases q : H b with
                          | none => exact .inr rfl
                          | some u =>
                            rcases E.fr b u q with w' | w'
                            · exact .inl w'
                            · rw [w] at w'; cases w'
                  | _ => exact g.elim
              | exc c ns es' outs =>
                rw [e5] at g
                cases outs with
                | nil => exact g.elim
                | cons s1 outs =>
                  cases s1 with
                  | bo o' =>
                    simp only at g
                    intro d us σ5 F5 H5 R5 E5 a5 hd
                    obtain ⟨h5, y1, y2, y3, y4⟩ := R5.rel 0 _ rfl
                    have E6 : Ext (fun b => b = a) F' H' (Own σ5 (.bo o' :: outs)) F5 H5 := E5.more no
                    obtain ⟨R7, E7, d7⟩ := R'.lend e3 hmu q1 E6 R5.ex y3 y4 y2
                    exact g d us σ F5 H5 rfl R7 (E.trans E7) a5 hd
                  | _ => exact g.elim
              | bad => rw [e5] at g; exact g.elim
      | exc c ns ds sl' => rw [e] at g; exact g
      | bad => rw [e] at g; exact g
    · exact g.elim

/-! ### calls that raise nothing: defaults, keywords, an own class -/
def noX (r : Out (RV × List Sl)) : Out (RV × List Sl) := match r with
  | .ok p => .ok p
  | _ => .bad
/-- dds: the defaults that fill up -/
def mCallD (f : MF) (as : List M) (dds : List D) : M := fun sl => match evAs (evFs as) sl with
  | .ok (rs, sl') => match getAll sl' rs with
    | some ds => noX (runF f (ds ++ dds) sl')
    | none => .bad
  | .exc c ns ds sl' => .exc c ns ds sl'
  | .bad => .bad
theorem run_coreN {f : MF} {ds : List D} {vs : List V} {Q : VK} (R : Rst K ct bo F H σ sl) (h : AtL K ct F ds vs)
    (g : GoE K ct W bo (Own σ sl) σ F H (noX (runF f ds sl)) Q) : spF K ct f vs H Q E0 := by
  have : GoE K ct (fun _ _ _ _ => False) bo (Own σ sl) σ F H (runF f ds sl) Q := by
    cases e : runF f ds sl with
    | ok p => rw [e] at g; exact g
    | exc c ns es sl' => rw [e] at g; exact g.elim
    | bad => rw [e] at g; exact g.elim
  exact run_core (W := fun _ _ _ _ => False) (σ0 := σ) R h this
variable {ds0 : List Value} {dvs : List V} {dds : List D}
theorem se_callD (G : FnOk X.prog X.w X.K X.mg X.base (L2.CX X.prog X.w) k fa fd ps (spF K ct f)) (hr : Room k X.A) (hg : Gl X x) (hm : X.mg x = some (.ref fa)) (hk : PySem.W.keepIn X.K (.ref fa) = true) (hb : Binds X.K fd ps ds0) (hd : Vals dvs ds0) (hdd : ∀ F, AtL K ct F dds dvs)
    (ha : PA X (e :: es) (tArs K ct W (evFs as))) (hdb : (x == ("__debug__" : Str)) = false := by decide) (he : starEach (e :: es) X.env = (false, eval e X.env) :: starEach es X.env := by rfl) (hpl : (backTo pos (starEach es X.env)).any (·.1) = false := by rfl) :
    PE X (.Call (.Name x p) (e :: es) [] pos) (tM K ct W (mCallD f as dds)) := pe_imp (pe_call G hr hg hm hk hb hd passL ha hdb he hpl) fun σ H Q x => by
  obtain ⟨bo, F, sl, R, g⟩ := x
  refine args_go (evFs as) (O := Own σ sl) (fun vs H1 => spF K ct f (vs ++ dvs) H1 Q E0) R ?_
  unfold mCallD at g
  cases e : evAs (evFs as) sl with
  | ok p =>
    obtain ⟨rs, sl'⟩ := p
    rw [e] at g
    simp only at g
    intro vs F' H' R' x E
    cases e2 : getAll sl' rs with
    | none => rw [e2] at g; exact g.elim
    | some ds =>
      rw [e2] at g
      have er := getAll_sh sl' (evAs_sh e) e2
      subst er
      exact run_coreN R' ((rfs_at x).append (hdd F')) (GoE.step g E)
  | exc c ns ds sl' => rw [e] at g; exact g
  | bad => rw [e] at g; exact g
end
end Ml

set_option maxHeartbeats 4000000
/-! Instances made, calls by keywords, comprehensions, errors. -/
namespace Ml
open PySem L2 PyProof.Rows

/-! ### C(..) -/
def mMake (f : MF) (c : Nat) (as : List M) (dds : List D) : M := fun sl => match evAs (evFs as) sl with
  | .ok (rs, sl') => match getAll sl' rs with
    | some ds => match f (.bo (.ins c [] []) :: (ds ++ dds).map Sl.sh) with
      | .ok (.sh .non, .bo o' :: _) => .ok (.fr o', sl')
      | _ => .bad
    | none => .bad
  | .exc c ns ds sl' => .exc c ns ds sl'
  | .bad => .bad
section
variable {K : PySem.W.Frag} {ct : Nat → Addr} {W : WX} {bo : Nat → Addr} {F H : Hp} {σ : L2.St} {sl : List Sl} {X : Cx} {e : Expr} {es : List Expr} {f : MF} {as : List M} {m : M} {p pos : Pos} {x : Str} {k : Nat} {fa : Addr} {fd : FuncData} {ps : List Str}
variable {ds0 : List Value} {dvs : List V} {dds : List D}
theorem se_make {c : Nat} (MK : Mk X.K (ct c) fa) (G : FnOk X.prog X.w X.K X.mg X.base (L2.CX X.prog X.w) k fa fd ps (spF K ct f)) (hr : Room (k + 1) X.A) (hg : Gl X x) (hm : X.mg x = some (.ref (ct c))) (hb : Binds X.K fd ps ds0) (hd : Vals dvs ds0) (hdd : ∀ F, AtL K ct F dds dvs)
    (ha : PA X (e :: es) (tArs K ct W (evFs as))) (hdb : (x == ("__debug__" : Str)) = false := by decide) (he : starEach (e :: es) X.env = (false, eval e X.env) :: starEach es X.env := by rfl) (hpl : (backTo pos (starEach es X.env)).any (·.1) = false := by rfl) :
    PE X (.Call (.Name x p) (e :: es) [] pos) (tM K ct W (mMake f c as dds)) := pe_imp (pe_make MK G hr hg hm hb hd passL ha hdb he hpl) fun σ H Q x => by
  obtain ⟨bo, F, sl, R, g⟩ := x
  refine args_go (evFs as) (O := Own σ sl) _ R ?_
  unfold mMake at g
  cases e : evAs (evFs as) sl with
  | ok p =>
    obtain ⟨rs, sl'⟩ := p
    rw [e] at g
    simp only at g
    intro vs F' H' R' x E
    cases e2 : getAll sl' rs with
    | none => rw [e2] at g; exact g.elim
    | some ds =>
      rw [e2] at g
      have er := getAll_sh sl' (evAs_sh e) e2
      subst er
      simp only at g
      intro y dx ny ndx ne
      have fy := ex_none R'.ex ny
      have e1 : Ex H' (upd H' dx (.own y)) := ex_upd ndx
      have ny' : upd H' dx (.own y) y = none := by rw [upd_ne (Ne.symm ne)]; exact ny
      have e2' : Ex H' (upd (upd H' dx (.own y)) y (.ins (ct c) dx [])) := e1.trans (ex_upd ny')
      obtain ⟨R2, no⟩ := args_slotsB (o := .ins c [] []) (a := y) (h := .ins (ct c) dx []) (R'.ex.trans e2') fy upd_same ⟨dx, [], rfl, rfl, rfl⟩ ((rfs_at x).append (hdd F'))
      refine ⟨_, F', _, R2, ?_⟩
      cases e5 : f (.bo (.ins c [] []) :: (ds ++ dds).map Sl.sh) with
      | ok p5 =>
        obtain ⟨rv, outs⟩ := p5
        rw [e5] at g
        cases rv with
        | fr o => exact g.elim
        | sh d =>
          cases d with
          | non =>
            cases outs with
            | nil => exact g.elim
            | cons s1 outs =>
              cases s1 with
              | bo o' =>
                simp only at g
                intro v σ5 F5 H5 R5 x5 E5
                simp only [RvAt, At] at x5
                refine ⟨x5, ?_⟩
                obtain ⟨h5, y1, y2, y3, y4⟩ := R5.rel 0 _ rfl
                have A0 : Ext (fun _ => False) F' H' (fun b => b = y) F' (upd (upd H' dx (.own y)) y (.ins (ct c) dx [])) := ⟨Ex.refl F', fun b u z => .inr (e2' b u z), fun b z => .inl z, fun b z => .inr (by rw [z]; exact ny)⟩
                have A1 := A0.trans (E5.more (O2 := fun b => b = y) no)
                obtain ⟨R7, E7, d7⟩ := R'.under A1 R5.ex
                refine g _ F5 H5 R7 ⟨y, h5, rfl, y2, y3, y4, fun i z => d7 i y z (.inl ⟨0, _, rfl, rfl, y1⟩)⟩ ⟨E.fex.trans E7.fex, (E.trans E7).fr, (E.trans E7).fresh, fun b z => ?_⟩
                rcases z with z | z
                · exact (E.trans E7).own b z
                · have : y = b := by injection z
                  subst this
                  cases q : H y with
                  | none => exact .inr rfl
                  | some u =>
                    rcases E.fr y u q with w | w
                    · exact .inl w
                    · rw [ny] at w; cases w
              | _ => exact g.elim
          | _ => exact g.elim
      | exc c' ns es' outs => rw [e5] at g; exact g.elim
      | bad => rw [e5] at g; exact g.elim
  | exc c ns ds sl' => rw [e] at g; exact g
  | bad => rw [e] at g; exact g

/-! ### f(a = .., b = ..), keywords alone, in the parameters' order -/
theorem as_kw {W : WX} : ∀ {kws : List Keyword} {ms : List M} {t : TA}, PK X kws t → PK X kws t := fun h => h
theorem pk_nil' : PK X [] (tArs K ct W (evFs [])) := pk_nil
theorem pk_cons' {nm : Option Str} {kpos : Pos} {kws : List Keyword} (ha : PE X e (tM K ct W m)) (hr : PK X kws (tArs K ct W (evFs as))) : PK X (⟨nm, e, kpos⟩ :: kws) (tArs K ct W (evFs (m :: as))) := pk_cons (ae_e ha) hr
theorem se_callK {ks : List Str} {kws : List Keyword} (G : FnOk X.prog X.w X.K X.mg X.base (L2.CX X.prog X.w) k fa fd ps (spF K ct f)) (hr : Room k X.A) (hg : Gl X x) (hm : X.mg x = some (.ref fa)) (hk : PySem.W.keepIn X.K (.ref fa) = true)
    (hb : ∀ (s : Shared) (ws : List Value), ws.length = ps.length → BindsTo s fd ⟨[], ks.zip ws⟩ (ps.zip ws)) (hkw : PK X kws (tArs K ct W (evFs as))) (hall : (backToKw pos (keywordEach kws X.env)).all (·.1.isSome) = true := by rfl) (hks : (backToKw pos (keywordEach kws X.env)).filterMap (·.1) = ks := by rfl)
    (hdb : (x == ("__debug__" : Str)) = false := by decide) (hpl : ((backTo pos (starEach [] X.env)).any (·.1) || (backToKw pos (keywordEach kws X.env)).any (·.1.isNone)) = false := by rfl) :
    PE X (.Call (.Name x p) [] kws pos) (tM K ct W (mCallD f as [])) := by
  refine ⟨fun pins s σ H Q I x => ?_⟩
  obtain ⟨bo, F, sl, R, g⟩ := x
  have q : tArs K ct W (evFs as) σ H (fun vs H1 => spF K ct f vs H1 Q E0) := by
    refine args_go (evFs as) (O := Own σ sl) _ R ?_
    unfold mCallD at g
    cases e : evAs (evFs as) sl with
    | ok p =>
      obtain ⟨rs, sl'⟩ := p
      rw [e] at g
      simp only at g
      intro vs F' H' R' x E
      cases e2 : getAll sl' rs with
      | none => rw [e2] at g; exact g.elim
      | some ds =>
        rw [e2] at g
        have er := getAll_sh sl' (evAs_sh e) e2
        subst er
        simp only [List.append_nil] at g
        exact run_coreN R' (rfs_at x) (GoE.step g E)
    | exc c ns ds sl' => rw [e] at g; exact g
    | bad => rw [e] at g; exact g
  refine wpAny_Call_Name_kw (ld_glob I hg hm ?_ hdb)
  refine PySem.W.callWith_KW0 (h₀ := X.base) I.ok.mod.kin hk hall (thn (hkw.run pos pins s σ H _ I q) fun ws s2 ⟨zs, H2, I2, rz, q2⟩ => ⟨I2.kIn, ?_⟩) hpl
  rw [hks]
  have hl : ws.length = ps.length := by
    rw [← rz.length]
    exact G.len _ _ _ _ q2
  refine wpAny_call (codeAny_mono (G.run X.A X.stack s2 H2 ⟨[], ks.zip ws⟩ ws zs Q E0 hr I2.env0 (hb s2 ws hl) rz q2) fun r s' hq => ?_)
  cases r with
  | error er => exact passL (X := X) pins σ H2 s2 er s' I2 hq
  | ok fl =>
    cases fl with
    | ret u => exact I2.after hq
    | next => exact False.elim hq
    | brk => exact False.elim hq
    | cont => exact False.elim hq

/-! ### [e for t in xs if c] -/
def lcF (vs : List Nat) (t : Tg) (tt : TB) (te : M) : List D → List Sl → Out (List D × List Sl)
  | [], sl => .ok ([], sl)
  | d :: ds, sl => match stT t d sl with
    | some s1 => match tt s1 with
      | .ok (b, s2) => if b = true then (match te s2 with
        | .ok (rv, s3) => if heldLe sl (fgs vs s3) = true then (match lcF vs t tt te ds (fgs vs s3) with
          | .ok (rs, s4) => .ok (rv.d :: rs, s4)
          | _ => .bad) else .bad
        | _ => .bad) else (if heldLe sl (fgs vs s2) = true then lcF vs t tt te ds (fgs vs s2) else .bad)
      | _ => .bad
    | none => .bad
def mLc (vs : List Nat) (mi : MI) (t : Tg) (tt : TB) (te : M) : M := fun sl => match mi sl with
  | .ok (ds, js, sl1) => match Ml.lockL js (fgs vs sl1) with
    | some sl2 => if ds.length ≤ sizeLine ∧ t.names.all (fun i => decide (i ∈ vs)) = true then (match lcF vs t tt te ds sl2 with
      | .ok (rs, sl3) => match unlL js sl3 with
        | some sl4 => if heldLe sl2 sl3 = true then .ok (.fr (.lst rs), sl4) else .bad
        | none => .bad
      | _ => .bad) else .bad
    | none => .bad
  | .exc c ns ds sl' => .exc c ns ds sl'
  | .bad => .bad
theorem fgs_get (js : List Nat) : ∀ {sl : List Sl} {i : Nat} {s : Sl}, (fgs js sl)[i]? = some s → i ∈ js → s = .no := by
  induction js with
  | nil => intro sl i s _ h; cases h
  | cons j js ih =>
    intro sl i s e h
    by_cases q : i ∈ js
    · exact ih e q
    · rcases List.mem_cons.mp h with z | z
      · subst z
        have : ∀ (js : List Nat) (sl : List Sl), i ∉ js → (fgs js sl)[i]? = sl[i]? := by
          intro js
          induction js with
          | nil => intro sl _; rfl
          | cons k ks ih2 =>
            intro sl hk
            simp only [List.mem_cons, not_or] at hk
            show (fgs ks (sl.set k .no))[i]? = sl[i]?
            rw [ih2 _ hk.2, get_set_ne hk.1]
        have e' : (fgs js (sl.set i .no))[i]? = some s := e
        rw [this js _ q, List.getElem?_set] at e'
        simp only [if_true] at e'
        split at e'
        · cases e'; rfl
        · cases e'
      · exact absurd z q
theorem wipe_at {σ : L2.St} {i : Nat} : ∀ {vs : List Nat}, i ∉ vs → (wipe σ vs)[i]? = σ[i]?
  | [], _ => rfl
  | v :: vs, h => by
    simp only [List.mem_cons, not_or] at h
    show ((wipe σ vs).set v none)[i]? = σ[i]?
    rw [get_set_ne h.1]
    exact wipe_at h.2
/-- slots vs are unknown: what they hold does not matter -/
def Nos (vs : List Nat) (sl : List Sl) : Prop := ∀ i s, sl[i]? = some s → i ∈ vs → s = .no
theorem Rst.other {σ' : L2.St} {vs : List Nat} (R : Rst K ct bo F H σ sl) (n : Nos vs sl) (hs : ∀ i, i ∉ vs → σ'[i]? = σ[i]?) (hl : σ'.length = σ.length) : Rst K ct bo F H σ' sl ∧ (∀ b, Own σ' sl b → Own σ sl b) ∧ ∀ i b, Has σ' sl i b → Has σ sl i b := by
  have key : ∀ {i : Nat} {s : Sl}, sl[i]? = some s → s = .no ∨ σ'[i]? = σ[i]? := fun {i s} e => by
    by_cases q : i ∈ vs
    · exact .inl (n i s e q)
    · exact .inr (hs i q)
  have hh : ∀ {i : Nat} {b : Addr}, Has σ' sl i b → Has σ sl i b := fun {i b} z => by
    obtain ⟨s, h1, h2, h3⟩ := z
    rcases key h1 with q | q
    · rw [q] at h2; cases h2
    · exact ⟨s, h1, h2, by rw [← q]; exact h3⟩
  refine ⟨⟨R.ex, fun i s e => ?_, fun i j a z z' => R.ds i j a (hh z) (hh z'), hl.trans R.len⟩, fun b z => ?_, fun i b z => hh z⟩
  · rcases key e with q | q
    · subst q; trivial
    · rw [q]; exact R.rel i s e
  · obtain ⟨i, s, h1, h2, h3⟩ := z
    rcases key h1 with q | q
    · rw [q] at h2; cases h2
    · exact ⟨i, s, h1, h2, by rw [← q]; exact h3⟩
/-- an object beside the slots is changed -/
theorem Rst.aside {a : Addr} {h : HO} (R : Rst K ct bo F H σ sl) (fa : F a = none) (nh : ∀ i, ¬ Has σ sl i a) : Rst K ct bo F (upd H a h) σ sl := by
  have away : ∀ {i : Nat} {s : Sl} {b : Addr}, sl[i]? = some s → s.hasB = true → σ[i]? = some (some (.ref b)) → upd H a h b = H b := fun {i s b} e1 e2 e3 => upd_ne fun w => nh i ⟨s, e1, e2, by rw [← w]; exact e3⟩
  refine ⟨fun b u z => ?_, fun i s z => ?_, R.ds, R.len⟩
  · rw [upd_ne fun w => by rw [w, fa] at z; cases z]
    exact R.ex b u z
  · have q := R.rel i s z
    cases s with
    | no => trivial
    | sh d => exact q
    | ow o => obtain ⟨b, u, q1, q2, q3, q4⟩ := q; exact ⟨b, u, q1, q2, by rw [away z rfl q1]; exact q3, q4⟩
    | bo o => obtain ⟨u, q1, q2, q3, q4⟩ := q; exact ⟨u, q1, q2, by rw [away z rfl q1]; exact q3, q4⟩
    | lk b o => obtain ⟨u, q1, q2, q3, q4⟩ := q; exact ⟨u, q1, q2, by rw [away z rfl q1]; exact q3, q4⟩
theorem Ext.add {O O' : Addr → Prop} {F H F' H' : Hp} (E : Ext O F H O' F' H') (a : Addr) : Ext (fun b => O b ∨ b = a) F H (fun b => O' b ∨ b = a) F' H' :=
  ⟨E.fex, fun b o z => (E.fr b o z).imp .inl id, fun b z => (E.fresh b z).imp id (fun y => y.imp .inl id), fun b z => z.elim (fun y => (E.own b y).imp .inl id) fun y => .inl (.inr y)⟩
theorem Ext.at {O : Addr → Prop} {F H : Hp} {a : Addr} {h : HO} (ha : H a ≠ none) : Ext (fun b => O b ∨ b = a) F H (fun b => O b ∨ b = a) F (upd H a h) :=
  ⟨Ex.refl F, fun b o z => by
    by_cases q : b = a
    · exact .inl (.inr q)
    · exact .inr (by rw [upd_ne q]; exact z), fun b z => .inl z, fun b z => .inl z⟩
/-- an object that no slot holds stays as it is, and outside -/
theorem aside_stay {O' : Addr → Prop} {F' H' : Hp} {a : Addr} {h : HO} (E : Ext (Own σ sl) F H O' F' H') (nh : ∀ i, ¬ Has σ sl i a) (fa : F a = none) (ha : H a = some h) : F' a = none ∧ H' a = some h := by
  have no : ¬ Own σ sl a := fun z => by obtain ⟨i, hi⟩ := z.has; exact nh i hi
  constructor
  · cases q : F' a with
    | none => rfl
    | some u =>
      rcases E.fresh a (by rw [q]; exact fun z => by cases z) with z | z | z
      · exact absurd fa z
      · exact absurd z no
      · rw [ha] at z; cases z
  · exact (E.fr a h ha).elim (fun z => absurd z no) id
theorem heldLe_trans : ∀ {a b c : List Sl}, heldLe a b = true → heldLe b c = true → heldLe a c = true
  | [], [], [], _, _ => rfl
  | x :: a, y :: b, z :: c, h1, h2 => by
    simp only [heldLe, Bool.and_eq_true, Bool.or_eq_true, Bool.not_eq_true'] at h1 h2 ⊢
    refine ⟨?_, heldLe_trans h1.2 h2.2⟩
    rcases h2.1 with q | q
    · exact .inl q
    · rcases h1.1 with w | w
      · rw [q] at w; cases w
      · exact .inr w
  | [], _ :: _, _, h, _ => by cases h
  | _ :: _, [], _, h, _ => by cases h
  | [], [], _ :: _, _, h => by cases h
  | _ :: _, _ :: _, [], _, h => by cases h
theorem heldLe_refl : ∀ (a : List Sl), heldLe a a = true
  | [] => rfl
  | x :: a => by
    simp only [heldLe, Bool.and_eq_true, Bool.or_eq_true, Bool.not_eq_true']
    refine ⟨?_, heldLe_refl a⟩
    cases x.hasB <;> simp
abbrev W0 : WX := fun _ _ _ _ => False
mutual
theorem stT_len : ∀ {t : Tg} {d : D} {sl sl' : List Sl}, stT t d sl = some sl' → sl'.length = sl.length
  | .nm j, d, sl, sl', h => by
    simp only [stT] at h
    split at h
    · split at h
      · cases h; rw [List.length_set]
      · cases h
    · cases h
  | .tp ts, .tup ds, sl, sl', h => by
    simp only [stT] at h
    exact stTs_len h
  | .tp ts, .non, sl, sl', h => by simp only [stT] at h; cases h
  | .tp ts, .bl _, sl, sl', h => by simp only [stT] at h; cases h
  | .tp ts, .int _, sl, sl', h => by simp only [stT] at h; cases h
  | .tp ts, .str _, sl, sl', h => by simp only [stT] at h; cases h
  | .tp ts, .lst _, sl, sl', h => by simp only [stT] at h; cases h
  | .tp ts, .scr _, sl, sl', h => by simp only [stT] at h; cases h
  | .tp ts, .ins _ _ _, sl, sl', h => by simp only [stT] at h; cases h
theorem stTs_len : ∀ {ts : List Tg} {ds : List D} {sl sl' : List Sl}, stTs ts ds sl = some sl' → sl'.length = sl.length
  | [], [], sl, sl', h => by simp only [stTs] at h; cases h; rfl
  | t :: ts, d :: ds, sl, sl', h => by
    simp only [stTs] at h
    split at h
    · rename_i s1 h1
      rw [stTs_len h, stT_len h1]
    · cases h
  | [], _ :: _, sl, sl', h => by simp only [stTs] at h; cases h
  | _ :: _, [], sl, sl', h => by simp only [stTs] at h; cases h
end
theorem wipe_in {σ : L2.St} {i : Nat} : ∀ {vs : List Nat}, i ∈ vs → (wipe σ vs)[i]? = if i < σ.length then some none else none
  | v :: vs, h => by
    show ((wipe σ vs).set v none)[i]? = _
    by_cases q : v = i
    · subst q
      rw [List.getElem?_set]
      simp only [if_true, wipe_length]
    · rw [get_set_ne (Ne.symm q)]
      exact wipe_in ((List.mem_cons.mp h).resolve_left fun z => q z.symm)
theorem wipe_same {σ1 σ2 : L2.St} {vs : List Nat} (hl : σ1.length = σ2.length) (h : ∀ i, i ∉ vs → σ1[i]? = σ2[i]?) : wipe σ1 vs = wipe σ2 vs := by
  refine List.ext_getElem? fun i => ?_
  by_cases q : i ∈ vs
  · rw [wipe_in q, wipe_in q, hl]
  · rw [wipe_at q, wipe_at q, h i q]
theorem wipe_wipe (σ : L2.St) (vs : List Nat) : wipe (wipe σ vs) vs = wipe σ vs := wipe_same (wipe_length σ vs) fun i hi => wipe_at hi
theorem lc_core' {t : Tg} {tt : TB} {te : M} {mi : MI} {vs : List Nat} {Q : VK} (R : Rst K ct bo F H σ sl) (g : GoE K ct W bo (Own σ sl) σ F H (mLc vs mi t tt te sl) Q) :
    tLc (tIt K ct W mi) (gTg K ct t) (tTT K ct W0 tt) (tM K ct W0 te) vs σ H Q := by
  refine ⟨bo, F, sl, R, ?_⟩
  unfold mLc at g
  cases e1 : mi sl with
  | exc c ns ds sl' => rw [e1] at g; exact g
  | bad => rw [e1] at g; exact g
  | ok p1 =>
    obtain ⟨ds, js, sl1⟩ := p1
    rw [e1] at g
    simp only at g
    intro J F1 H1 LK R1 E1 wk hl Dp nD
    cases e2 : Ml.lockL js (fgs vs sl1) with
    | none => rw [e2] at g; exact g.elim
    | some sl2 =>
      rw [e2] at g
      simp only at g
      split at g
      · rename_i hz
        obtain ⟨hz, hnm⟩ := hz
        cases e3 : lcF vs t tt te ds sl2 with
        | exc c ns es s => rw [e3] at g; exact g.elim
        | bad => rw [e3] at g; exact g.elim
        | ok p3 =>
          obtain ⟨rs, sl3⟩ := p3
          rw [e3] at g
          simp only at g
          cases e4 : unlL js sl3 with
          | none => rw [e4] at g; exact g.elim
          | some sl4 =>
            rw [e4] at g
            simp only at g
            split at g
            · rename_i hheld
              obtain ⟨R1f, o1f⟩ := fgs_ok vs R1
              obtain ⟨bo', R2, o2, L2, k2⟩ := R1f.lockL e2
              have nos1 : Nos vs (fgs vs sl1) := fun i s e h => fgs_get vs e h
              -- locking names no slot of vs
              have nos2 : Nos vs sl2 := by
                clear g wk hl k2 L2 R2 o2 e3 e4 hheld
                revert sl2
                have main : ∀ (js : List Nat) (s : List Sl), Nos vs s → ∀ s2, Ml.lockL js s = some s2 → Nos vs s2 := by
                  intro js
                  induction js with
                  | nil => intro s n s2 h; cases h; exact n
                  | cons j js ih =>
                    intro s n s2 h
                    unfold Ml.lockL at h
                    split at h
                    · rename_i s1 h1
                      refine ih s1 ?_ s2 h
                      unfold Ml.lock1 at h1
                      split at h1
                      · rename_i o ej
                        cases h1
                        intro i s' e' hi
                        by_cases q : i = j
                        · subst q
                          have := n i _ ej hi
                          cases this
                        · rw [get_set_ne q] at e'
                          exact n i s' e' hi
                      · cases h1
                    · cases h
                intro sl2 e2
                exact main js _ nos1 sl2 e2
              have lw : (wipe σ vs).length = σ.length := wipe_length σ vs
              obtain ⟨R2w, o2w, h2w⟩ := R2.other (σ' := wipe σ vs) nos2 (fun i hi => wipe_at hi) lw
              have notOwn : ∀ p ∈ LK, ¬ Own (wipe σ vs) sl2 p.1 := fun p hp' z => by
                obtain ⟨_, j, hj, ej⟩ := hl p hp'
                obtain ⟨a, h, o, q1, q2, q3, q4, q5⟩ := k2 j hj
                rw [ej] at q2
                have : p.1 = a := by injection Option.some.inj (Option.some.inj q2)
                rw [this] at z
                exact q5 (o2w a z)
              have fD := ex_none R1.ex nD
              have lkD : ∀ p ∈ LK, p.1 ≠ Dp := fun p hp' w => by
                have := (hl p hp').1
                rw [w, nD] at this
                cases this
              have hasD : ∀ i, ¬ Has (wipe σ vs) sl2 i Dp := fun i z => (R2w.out z).2 nD
              have up1 : Ex H1 (upd H1 Dp (.lst [])) := ex_upd nD
              -- the state at turn i
              refine ⟨fun i n H' => i ≤ ds.length ∧ n = ds.length - i ∧ ∃ F' sl' accD accV, Rst K ct bo' F' H' (wipe σ vs) sl' ∧ Nos vs sl' ∧ heldLe sl2 sl' = true ∧
                  Ext (fun b => Own (wipe σ vs) sl2 b ∨ b = Dp) F1 (upd H1 Dp (.lst [])) (fun b => Own (wipe σ vs) sl' b ∨ b = Dp) F' H' ∧ F' Dp = none ∧ H' Dp = some (.lst accV) ∧ AtL K ct F' accD accV ∧ accD.length ≤ i ∧
                  ∃ rr, lcF vs t tt te (ds.drop i) sl' = .ok (rr, sl3) ∧ rs = accD ++ rr,
                ⟨ds.length, Nat.zero_le _, rfl, F1, sl2, [], [], R2w.aside fD hasD, nos2, heldLe_refl _, Ext.refl, fD, upd_same, rfl, Nat.zero_le _, rs, e3, rfl⟩, ?_⟩
              rintro i n H' ⟨hi', rfl, F', sl', accD, accV, R', nos', held', E', fD', hD', aD', lD', rr, e5, e6⟩
              have lk' : ∀ p ∈ LK, H' p.1 = some p.2 := fun p hp' => by
                have h0 : upd H1 Dp (.lst []) p.1 = some p.2 := by rw [upd_ne (lkD p hp')]; exact (hl p hp').1
                rcases E'.fr p.1 p.2 h0 with z | z
                · rcases z with z | z
                  · exact absurd z (notOwn p hp')
                  · exact absurd z (lkD p hp')
                · exact z
              have hasD' : ∀ i, ¬ Has (wipe σ vs) sl' i Dp := fun i z => by
                obtain ⟨s, z1, z2, z3⟩ := z
                obtain ⟨s0, w1, w2⟩ := heldLe_get held' z1 z2
                exact hasD i ⟨s0, w1, w2, z3⟩
              by_cases hlt : i < ds.length
              · refine .inr ⟨wk.go i F' H' hlt E'.fex R'.ex lk', fun H2 => ∃ F2 s2 accD2 accV2, Rst K ct bo' F2 H2 (wipe σ vs) s2 ∧ Nos vs s2 ∧ heldLe sl2 s2 = true ∧
                    Ext (fun b => Own (wipe σ vs) sl2 b ∨ b = Dp) F1 (upd H1 Dp (.lst [])) (fun b => Own (wipe σ vs) s2 b ∨ b = Dp) F2 H2 ∧ F2 Dp = none ∧ H2 Dp = some (.lst accV2) ∧ AtL K ct F2 accD2 accV2 ∧ accD2.length ≤ i + 1 ∧
                    ∃ rr2, lcF vs t tt te (ds.drop (i + 1)) s2 = .ok (rr2, sl3) ∧ rs = accD2 ++ rr2,
                  fun H2 h => ⟨ds.length - (i + 1), by omega, hlt, rfl, h⟩, fun x H2 y => ?_⟩
                have hd : ds[i]? = some ds[i] := List.getElem?_eq_getElem hlt
                obtain ⟨F2, R3, a3, E3, l3⟩ := wk.item R' hd E'.fex lk' y
                rw [List.drop_eq_getElem_cons hlt] at e5
                unfold lcF at e5
                cases e7 : stT t ds[i] sl' with
                | none => rw [e7] at e5; cases e5
                | some s3 =>
                  rw [e7] at e5
                  simp only at e5
                  refine ⟨bo', F2, sl', ds[i], R3, a3, s3, e7, fun σ3 L3 => ?_⟩
                  have names_in : ∀ i, i ∉ vs → i ∉ t.names := fun i hi z => by
                    have := List.all_eq_true.mp hnm i z
                    exact hi (of_decide_eq_true this)
                  have l3' : σ3.length = (wipe σ vs).length := by rw [L3.1.len, R'.len]; exact (stT_len e7)
                  have weq : wipe σ3 vs = wipe (wipe σ vs) vs := wipe_same l3' fun i hi => L3.2.2 i (names_in i hi)
                  refine ⟨by rw [weq]; exact wipe_wipe σ vs, ?_⟩
                  -- the test
                  refine ⟨bo', F2, s3, L3.1, ?_⟩
                  have E4 : Ext (Own (wipe σ vs) sl') F' H' (Own σ3 s3) F2 H2 := E3.less L3.2.1
                  cases e8 : tt s3 with
                  | exc c ns es s => rw [e8] at e5; cases e5
                  | bad => rw [e8] at e5; cases e5
                  | ok p8 =>
                    obtain ⟨b, s4⟩ := p8
                    rw [e8] at e5
                    simp only at e5
                    intro F4 H4 R4 E5
                    have E45 := E4.trans E5
                    -- back from the block's slots
                    have back : ∀ {F9 H9 : Hp} {s9 : List Sl}, Rst K ct bo' F9 H9 σ3 s9 → Ext (Own (wipe σ vs) sl') F' H' (Own σ3 s9) F9 H9 → Rst K ct bo' F9 H9 (wipe σ vs) (fgs vs s9) ∧ Nos vs (fgs vs s9) ∧ Ext (Own (wipe σ vs) sl') F' H' (Own (wipe σ vs) (fgs vs s9)) F9 H9 := fun {F9 H9 s9} R9 E9 => by
                      obtain ⟨Rf, of⟩ := fgs_ok vs R9
                      have nf : Nos vs (fgs vs s9) := fun i s e h => fgs_get vs e h
                      obtain ⟨Ro, oo, _⟩ := Rf.other (σ' := wipe σ vs) nf (fun i hi => (L3.2.2 i (names_in i hi)).symm) l3'.symm
                      exact ⟨Ro, nf, E9.less fun b z => of b (oo b z)⟩
                    cases b with
                    | false =>
                      rw [if_neg (by decide)]
                      simp only [Bool.false_eq_true, if_false] at e5
                      split at e5
                      · rename_i hh
                        obtain ⟨Rb, nb, Eb⟩ := back R4 E45
                        obtain ⟨st1, st2⟩ := aside_stay Eb hasD' fD' hD'
                        exact ⟨F4, _, accD, accV, Rb, nb, heldLe_trans held' hh, E'.trans (Eb.add Dp), st1, st2, aD'.mono Eb.fex, Nat.le_succ_of_le lD', rr, e5, e6⟩
                      · cases e5
                    | true =>
                      rw [if_pos rfl]
                      simp only [if_true] at e5
                      refine use_d R4 ?_
                      cases e9 : te s4 with
                      | exc c ns es s => rw [e9] at e5; cases e5
                      | bad => rw [e9] at e5; cases e5
                      | ok p9 =>
                        obtain ⟨rv, s5⟩ := p9
                        rw [e9] at e5
                        simp only at e5
                        intro v F5 H5 R5 a5 E6
                        split at e5
                        · rename_i hh
                          obtain ⟨Rb, nb, Eb⟩ := back R5 (E45.trans E6)
                          obtain ⟨st1, st2⟩ := aside_stay Eb hasD' fD' hD'
                          cases e10 : lcF vs t tt te (ds.drop (i + 1)) (fgs vs s5) with
                          | exc c ns es s => rw [e10] at e5; cases e5
                          | bad => rw [e10] at e5; cases e5
                          | ok p10 =>
                            obtain ⟨rr2, s6⟩ := p10
                            rw [e10] at e5
                            simp only at e5
                            cases e5
                            have hasDb : ∀ i, ¬ Has (wipe σ vs) (fgs vs s5) i Dp := fun i z => by
                              obtain ⟨s, z1, z2, z3⟩ := z
                              obtain ⟨s0, w1, w2⟩ := heldLe_get (heldLe_trans held' hh) z1 z2
                              exact hasD i ⟨s0, w1, w2, z3⟩
                            refine ⟨accV, st2, ?_, F5, _, accD ++ [rv.d], accV ++ [v], Rb.aside st1 hasDb, nb, heldLe_trans held' hh, (E'.trans (Eb.add Dp)).trans (Ext.at (by rw [st2]; exact fun z => by cases z)), st1, upd_same,
                              (aD'.mono Eb.fex).append ⟨v, [], rfl, a5, rfl⟩, by simp; omega, rr2, e10, by rw [e6]; simp⟩
                            rw [aD'.length]
                            omega
                        · cases e5
              · have hi2 : i = ds.length := by omega
                subst hi2
                rw [List.drop_length] at e5
                unfold lcF at e5
                cases e5
                refine .inl ⟨wk.stop F' H' E'.fex R'.ex lk', ?_⟩
                obtain ⟨Ro, oo, ho⟩ := R'.other (σ' := σ) nos' (fun i hi => (wipe_at hi).symm) lw.symm
                obtain ⟨R9, o9, h9⟩ := L2.back Ro e4
                have hrs : rs = accD := by rw [e6]; simp
                subst hrs
                refine g _ F' H' R9 ⟨Dp, _, rfl, fD', hD', ⟨_, rfl, aD'⟩, fun i z => hasD' i ?_⟩ ?_
                · obtain ⟨s, z1, z2, z3⟩ := ho i Dp (h9 i Dp z)
                  exact ⟨s, z1, z2, by
                    by_cases q : i ∈ vs
                    · rw [nos' i s z1 q] at z2; cases z2
                    · rw [wipe_at q]
                      obtain ⟨s', y1, y2, y3⟩ := h9 i Dp z
                      exact y3⟩
                · have A : Ext (Own σ sl1) F1 H1 (fun b => Own (wipe σ vs) sl2 b ∨ b = Dp) F1 (upd H1 Dp (.lst [])) :=
                    ⟨Ex.refl F1, fun b u z => .inr (up1 b u z), fun b z => .inl z, fun b z => z.elim (fun y => .inl (o1f b (o2 b (o2w b y)))) fun y => .inr (by rw [y]; exact nD)⟩
                  have B := E1.trans (A.trans E')
                  refine ⟨B.fex, B.fr, B.fresh, fun b z => ?_⟩
                  rcases z with z | z
                  · rcases o9 b z with y | y
                    · refine B.own b (.inl ?_)
                      obtain ⟨i, s, z1, z2, z3⟩ := y
                      refine ⟨i, s, z1, z2, ?_⟩
                      by_cases q : i ∈ vs
                      · rw [nos' i s z1 q] at z2; cases z2
                      · rw [wipe_at q]; exact z3
                    · exact E1.own b (o1f b y)
                  · exact B.own b (.inr (by injection z with z; exact z.symm))
            · exact g.elim
      · exact g.elim
theorem se_lc {elt tgt iter : Expr} {ifs : List Expr} {scope : Scope} {own : List (Str × Nat)} {mi : MI} {t : Tg} {tt : TB} {te : M} {vs : List Nat} (hv : own.map (·.2) = vs) (hc : X.calm = true) (hN : X.N.Nodup) (hi : PI X tgt iter (tIt K ct W mi)) (ok : BlkOk X.N X.env.scope scope own)
    (hg : ∀ (s : Shared) (H : Hp) (C : Addr) (cl : List (Str × Addr)) (fp : List Addr), PG (X.blk s H scope (compEnvC scope cl C X.env) fp) tgt (gTg K ct t)) (ht : ∀ (s : Shared) (H : Hp) (C : Addr) (cl : List (Str × Addr)) (fp : List Addr), PTs (X.blk s H scope (compEnvC scope cl C X.env) fp) ifs (tTT K ct W0 tt))
    (he : ∀ (s : Shared) (H : Hp) (C : Addr) (cl : List (Str × Addr)) (fp : List Addr), PE (X.blk s H scope (compEnvC scope cl C X.env) fp) elt (tM K ct W0 te)) (hs : ∀ x, foldedSetIterable iter X.env x = pure x := by intro _; rfl) :
    PE X (.ListComp elt [⟨tgt, iter, ifs, 0⟩] scope pos) (tM K ct W (mLc vs mi t tt te)) := by
  subst hv
  refine pe_imp (pe_lc hc hN hi ok hg ht he hs) fun σ H Q x => ?_
  obtain ⟨bo, F, sl, R, g⟩ := x
  exact lc_core' R g
def mYes : TB := fun sl => .ok (true, sl)
theorem pts_n : PTs X [] (tTT K ct W mYes) := ⟨fun pins s σ H Q I h => by
  obtain ⟨bo, F, sl, R, g⟩ := h
  exact pts_nil.run pins s σ H Q I (g F H R Ext.refl)⟩
theorem pts_1 {c : Expr} {tt : TB} (h : PT X c (tTT K ct W tt)) : PTs X [c] (tTT K ct W tt) := pts_one h
/-- y = [..] -/
theorem st_lc {elt tgt iter : Expr} {ifs : List Expr} {scope : Scope} {own : List (Str × Nat)} {mi : MI} {t : Tg} {tt : TB} {te : M} {vs : List Nat} {j : Nat} {y : Str} {py spos : Pos} (hv : own.map (·.2) = vs) (hc : X.calm = true) (hN : X.N.Nodup) (hy : X.N[j]? = some y) (hyl : X.env.scope.names.lookup y = some .local)
    (hsw : swapsWith (.ListComp elt [⟨tgt, iter, ifs, 0⟩] scope pos) (some (.Name y py)) spos.line X.env = pure true) (hi : PI X tgt iter (tIt K ct W mi)) (ok : BlkOk X.N X.env.scope scope own)
    (hg : ∀ (s : Shared) (H : Hp) (C : Addr) (cl : List (Str × Addr)) (fp : List Addr), PG (X.blk s H scope (compEnvC scope cl C X.env) fp) tgt (gTg K ct t)) (ht : ∀ (s : Shared) (H : Hp) (C : Addr) (cl : List (Str × Addr)) (fp : List Addr), PTs (X.blk s H scope (compEnvC scope cl C X.env) fp) ifs (tTT K ct W0 tt))
    (he : ∀ (s : Shared) (H : Hp) (C : Addr) (cl : List (Str × Addr)) (fp : List Addr), PE (X.blk s H scope (compEnvC scope cl C X.env) fp) elt (tM K ct W0 te)) (hs : ∀ x, foldedSetIterable iter X.env x = pure x := by intro _; rfl) :
    PS X (.Assign [.Name y py] (.ListComp elt [⟨tgt, iter, ifs, 0⟩] scope pos) spos) (tS K ct W (mAsg j (mLc vs mi t tt te))) := by
  subst hv
  refine ps_imp (ps_setLc hc hN hy hyl hsw hi ok hg ht he hs) fun D σ H x => ?_
  have q := asg_core x
  obtain ⟨bo, F, sl, R, g⟩ := q
  exact lc_core' R g

/-! ### errors of one's own -/
/-- an own error's __init__ that stores its two arguments -/
def spI2 (K : PySem.W.Frag) (f1 f2 : Str) : Sp := fun vs H Q _ => ∃ (a C : Addr) (y1 y2 : V), vs = [.ref a, y1, y2] ∧ OexC K C ∧ PySem.W.findIn K (.ref C) f1 = some none ∧ PySem.W.findIn K (.ref C) f2 = some none ∧ H a = some (exo a C none) ∧
  ∀ dx, H dx = none → dx ≠ a → Q .non (upd (upd (upd H dx (exd dx [(f1, y1)])) a (exo a C (some dx))) dx (exd dx [(f2, y2), (f1, y1)]))
def mRaise (c : Nat) (f1 f2 : Str) (as : List M) : MS := fun sl => match evAs (evFs as) sl with
  | .ok (rs, sl') => match getAll sl' rs with
    | some [d1, d2] => .exc c [f2, f1] [d2, d1] sl'
    | _ => .bad
  | .exc c ns ds sl' => .exc c ns ds sl'
  | .bad => .bad
structure ErrOk (K : PySem.W.Frag) (C fI : Addr) (f1 f2 : Str) : Prop where
  ox : OexC K C
  iC : PySem.W.findIn K (.ref C) "__init__" = some (some (.ref fI))
  tI : PySem.W.typeIn K (.ref fI) = some (.type "function")
  n1 : PySem.W.findIn K (.ref C) f1 = some none
  n2 : PySem.W.findIn K (.ref C) f2 = some none
theorem st_raise {c : Nat} {f1 f2 : Str} (T : ErrOk X.K (ct c) fa f1 f2) (G : FnOk X.prog X.w X.K X.mg X.base (L2.CX X.prog X.w) k fa fd ps (spI2 X.K f1 f2)) (hc : X.calm = true) (tk : Takes X W) (hr : Room (k + 1) X.A) (hb : Binds X.K fd ps []) (hg : Gl X x) (hm : X.mg x = some (.ref (ct c)))
    (ha : PA X (e :: es) (tArs K ct W (evFs as))) {pos2 : Pos} (hdb : (x == ("__debug__" : Str)) = false := by decide) (he : starEach (e :: es) X.env = (false, eval e X.env) :: starEach es X.env := by rfl) (hpl : (backTo pos (starEach es X.env)).any (·.1) = false := by rfl) :
    PS X (.Raise (some (.Call (.Name x p) (e :: es) [] pos)) none pos2) (tS K ct W (mRaise c f1 f2 as)) := by
  refine ps_imp (ps_raise hc tk (pmk_oex T.ox T.iC T.tI G hr hb .nil passL hg hm ha hdb he hpl)) fun D σ H x => ?_
  obtain ⟨bo, F, sl, R, g⟩ := x
  refine args_go (evFs as) (O := Own σ sl) _ R ?_
  unfold mRaise at g
  cases e : evAs (evFs as) sl with
  | ok p =>
    obtain ⟨rs, sl'⟩ := p
    rw [e] at g
    simp only at g
    intro vs F' H' R' x E
    cases e2 : getAll sl' rs with
    | none => rw [e2] at g; exact g.elim
    | some ds =>
      rw [e2] at g
      have er := getAll_sh sl' (evAs_sh e) e2
      subst er
      have ad := rfs_at x
      match ds, ad, g with
      | [d1, d2], ad, g =>
        obtain ⟨y1, r, rfl, a1, a2⟩ := ad
        obtain ⟨y2, r, rfl, a2, a3⟩ := a2
        have a3' : r = [] := a3
        subst a3'
        refine ⟨by show 2 ≤ 1000; decide, fun a na => ⟨a, ct c, y1, y2, rfl, T.ox, T.n1, T.n2, upd_same, fun dx ndx ne => ⟨rfl, dx, [(f2, y2), (f1, y1)], ?_, upd_same, ?_, ?_⟩⟩⟩
        · rw [upd_ne (Ne.symm ne), upd_same]
        · rw [upd_ne ne] at ndx; exact ndx
        · have nd : H' dx = none := by rw [upd_ne ne] at ndx; exact ndx
          have eq : upd (del (upd (upd (upd (upd H' a (exo a (ct c) none)) dx (exd dx [(f1, y1)])) a (exo a (ct c) (some dx))) dx (exd dx [(f2, y2), (f1, y1)])) a) dx (.xd [(f2, y2), (f1, y1)]) = upd H' dx (.xd [(f2, y2), (f1, y1)]) := by
            funext b
            by_cases q : b = dx
            · subst q
              rw [upd_same, upd_same]
            · rw [upd_ne q, upd_ne q]
              by_cases w : b = a
              · subst w
                rw [del_same, na]
              · rw [del_ne w, upd_ne q, upd_ne w, upd_ne q, upd_ne w]
          rw [eq]
          have e1 : Ex H' (upd H' dx (.xd [(f2, y2), (f1, y1)])) := ex_upd nd
          have R4 := R'.alloc (h := .xd [(f2, y2), (f1, y1)]) nd
          exact g dx [y2, y1] σ F' _ trivial R4 (E.trans ⟨Ex.refl F', fun b u z => .inr (e1 b u z), fun b z => .inl z, fun b z => .inl z⟩) ⟨y2, [y1], rfl, a2, y1, [], rfl, a1, rfl⟩ upd_same
  | exc c ns ds sl' => rw [e] at g; exact g.x
  | bad => rw [e] at g; exact g
/-- try: .. except C as e: return (e.f1, e.f2) -/
def mTry2 (j : Nat) (c : Nat) (f1 f2 : Str) (m : MS) : MS := fun sl => match m sl with
  | .ok (f, sl') => .ok (f, sl')
  | .exc c' ns ds sl' => if c' = c ∧ j < sl'.length then (match (ns.zip ds).lookup f1, (ns.zip ds).lookup f2 with
    | some d1, some d2 => .ok (.rt (.sh (.tup [d1, d2])), sl')
    | _, _ => .bad) else .bad
  | .bad => .bad
structure CatOk (K : PySem.W.Frag) (C : Addr) (f1 f2 : Str) : Prop where
  xf : XfC K C
  ex : PySem.W.exmOne K (.ref C) (.ref C) = some true
  n1 : PySem.W.findIn K (.ref C) f1 = some none
  n2 : PySem.W.findIn K (.ref C) f2 = some none
theorem st_try2 {c : Nat} {f1 f2 : Str} {n : Str} {j : Nat} {body : List Stmt} {np pos' : Pos} {e1 e2 : Expr} {q1 q2 q3 q4 q5 : Pos} {kk} {m : MS} {Wout : WX} (hK : K = X.K) (T : CatOk X.K (ct c) f1 f2) (hs : X.stack = X.env :: X.outer) (hf : X.env.frame = some X.env.locals) (hN : X.N.Nodup) (hi : X.N[j]? = some n) (hln : X.env.kindOf n = some .local) (hc : Names X x (.ref (ct c))) (tk : Takes X Wout)
    (hb : ∀ (W : WX) (pn : List (Addr × Obj)) (xe : Value → Shared → Prop), Takes (X.tr pn xe) W → PassesOwn (model X.prog X.w) X.A X.env xe → PSs (X.tr pn xe) body (tS K ct W m))
    (hv : ∀ (a : Addr) (oe : Obj) (pn : List (Addr × Obj)), PE (X.suite a ((a, oe) :: pn)) (.Name n q1) (tVar j) ∧ PE (X.suite a ((a, oe) :: pn)) (.Name n q2) (tVar j))
    (hb1 : ∀ (a : Addr) (oe : Obj) (pn : List (Addr × Obj)), attributeBase (.Name n q1) f1 (X.suite a ((a, oe) :: pn)).env (eval (.Name n q1) (X.suite a ((a, oe) :: pn)).env) = eval (.Name n q1) (X.suite a ((a, oe) :: pn)).env := by intros; rfl)
    (hb2 : ∀ (a : Addr) (oe : Obj) (pn : List (Addr × Obj)), attributeBase (.Name n q2) f2 (X.suite a ((a, oe) :: pn)).env (eval (.Name n q2) (X.suite a ((a, oe) :: pn)).env) = eval (.Name n q2) (X.suite a ((a, oe) :: pn)).env := by intros; rfl) :
    PS X (.Try body [.ExceptHandler (some (.Name x np)) (some n) [.Return (some (.Tuple [.Attribute (.Name n q1) f1 q3, .Attribute (.Name n q2) f2 q4] kk q5)) p] pos'] [] [] pos) (tS K ct Wout (mTry2 j c f1 f2 m)) := by
  subst hK
  refine ps_imp (ps_try_as (i := j) (tb := fun W => tS X.K ct W m) (ts := fun a cls d => tRet (tTup (tCons (tXf a cls d (ct c) f1 (tVar j)) (tCons (tXf a cls d (ct c) f2 (tVar j)) tNil)))) hs hf hN hi hln hc tk hb
    (fun a oe cls d pn hz hof => pss_one (ps_ret (pe_tup (pa_cons (pe_xf T.xf T.n1 hz hof (hv a oe pn).1 (hb1 a oe pn)) (pa_cons (pe_xf T.xf T.n2 hz hof (hv a oe pn).2 (hb2 a oe pn)) pa_nil)))))) fun D σ H x => ?_
  obtain ⟨bo, F, sl, R, g⟩ := x
  refine ⟨bo, F, sl, R, ?_⟩
  unfold mTry2 at g
  cases e : m sl with
  | ok p =>
    obtain ⟨f, sl'⟩ := p
    rw [e] at g
    cases f with
    | nx => exact g
    | bk => exact g
    | ct => exact g
    | rt rv => exact g
  | bad => rw [e] at g; exact g
  | exc c' ns ds sl' =>
    rw [e] at g
    simp only at g
    split at g
    · rename_i hcc
      obtain ⟨hcc, hjl⟩ := hcc
      subst hcc
      split at g
      · rename_i d1 d2 l1 l2
        intro d vs σ' F' H' _ R' E a hd
        refine ⟨true, T.ex, fun _ b nb => ?_, fun z => by cases z⟩
        obtain ⟨v1, w1, x1⟩ := lookup_zip a l1
        obtain ⟨v2, w2, x2⟩ := lookup_zip a l2
        have hj : ∃ y, σ'[j]? = some y := ⟨_, List.getElem?_eq_getElem (by rw [R'.len]; exact hjl)⟩
        obtain ⟨y, hj⟩ := hj
        have hv' : (σ'.set j (some (.ref b)))[j]? = some (some (.ref b)) := get_set_eq hj
        refine ⟨.ref b, hv', rfl, rfl, d, _, v1, rfl, hd, w1, ?_⟩
        refine ⟨.ref b, hv', rfl, rfl, d, _, v2, rfl, hd, w2, ?_⟩
        refine ⟨by show 2 ≤ sizeLine; decide, fun p np => ?_⟩
        obtain ⟨a1, a2, a3⟩ := alloc_tup R' np (ds := [d1, d2]) (vs := [v1, v2]) ⟨v1, [v2], rfl, x1, v2, [], rfl, x2, rfl⟩
        exact g _ σ' _ _ a1 a2 ((E.trans a3).less fun b z => by rcases z with z | z; exact z; exact z.elim)
      · exact g.elim
    · exact g.elim
end
end Ml

set_option maxHeartbeats 4000000
/-! What the head tells of classes of one's own; the end. -/
namespace Ml
open PySem L2 PyProof.Rows

/-! ### an own error -/
def oexB (K : PySem.W.Frag) (C : Addr) : Bool := (match K.lookup C with
  | some ⟨.type t, _, .cls cd, sl⟩ => (match cd.mro, sl.toList with
    | .ref C' :: bm, [_, _, _, _, some (.builtin n), _] => decide (t = "type") && (decide (C' = C) && (decide (n = "ValueError.__new__") && (!cd.hasDel && (cd.hasDict && PySem.HandSPX.refsVE bm))))
    | _, _ => false)
  | _ => false) && (decide (PySem.W.findIn K (.ref C) "__setattr__" = some (some (.builtin "object.__setattr__"))) && (decide (PySem.W.subIn K (.ref C) (.type "BaseException") = some true) && (decide (PySem.W.typeIn K (.ref C) = some (.type "type")) && PySem.W.keepIn K (.ref C))))
theorem oexB_ok {K : PySem.W.Frag} {C : Addr} (h : oexB K C = true) : OexC K C := by
  unfold oexB at h
  obtain ⟨h0, h1⟩ := He.ba h
  obtain ⟨h1, h2⟩ := He.ba h1
  obtain ⟨h2, h3⟩ := He.ba h2
  obtain ⟨h3, h4⟩ := He.ba h3
  refine ⟨?_, of_decide_eq_true h1, of_decide_eq_true h2, of_decide_eq_true h3, h4⟩
  split at h0
  · rename_i t dd cd sl ho
    split at h0
    · rename_i C' bm k0 k1 k2 k3 n k5 hm hs
      obtain ⟨g0, g1⟩ := He.ba h0
      obtain ⟨g1, g2⟩ := He.ba g1
      obtain ⟨g2, g3⟩ := He.ba g2
      obtain ⟨g3, g4⟩ := He.ba g3
      obtain ⟨g4, g5⟩ := He.ba g4
      have e1 := of_decide_eq_true g0
      have e2 := of_decide_eq_true g1
      have e3 := of_decide_eq_true g2
      subst e1
      subst e2
      subst e3
      obtain ⟨nm, bs, mro, ns, qn, hd, sn, sub, ab, col, hdel⟩ := cd
      have e4 : hdel = false := by simpa using g3
      have e5 : hd = true := g4
      have e6 : mro = .ref C' :: bm := hm
      subst e4
      subst e5
      subst e6
      obtain ⟨l⟩ := sl
      have e7 : l = [k0, k1, k2, k3, some (.builtin "ValueError.__new__"), k5] := hs
      subst e7
      exact ⟨nm, qn, ns, bs, bm, sn, sub, ab, col, dd, k0, k1, k2, k3, k5, ho, g5⟩
    · cases h0
  · cases h0
def clsIsB (K : PySem.W.Frag) (C : Addr) : Bool := (decide (PySem.W.findIn K (.ref C) "__class__" = some (some (.builtin "object.__class__"))) && (decide (PySem.W.specialIn K (.builtin "object.__class__") "__get__" = some (some (.builtin "getset_descriptor.__get__")))
  && (decide (PySem.W.takesIn K (.builtin "object.__class__") = some true) && decide (PySem.W.mroIn K C (.type "object") = some true))))
theorem clsIsB_ok {K : PySem.W.Frag} {C : Addr} (c : Cls K C) (h : clsIsB K C = true) : ClsIs K C := by
  unfold clsIsB at h
  obtain ⟨h1, h⟩ := He.ba h
  obtain ⟨h2, h⟩ := He.ba h
  obtain ⟨h3, h4⟩ := He.ba h
  exact ⟨c, of_decide_eq_true h1, of_decide_eq_true h2, of_decide_eq_true h3, of_decide_eq_true h4⟩
/-- a global that stands for a builtin -/
def bltB (K : PySem.W.Frag) (x : Str) (id : String) : Bool := decide (PySem.W.nsIn K mainGlobals x = some (some (.builtin id)))
theorem bltB_ok {K : PySem.W.Frag} {h : Heap} {mg : Str → Option Value} {x : Str} {id : String} (X : K.In h) (G : h.Ns mainGlobals mg) (c : bltB K x id = true) : mg x = some (.builtin id) := PySem.W.mg_of X G (of_decide_eq_true c)
def errB (K : PySem.W.Frag) (C fI : Addr) (f1 f2 : Str) : Bool := oexB K C && (decide (PySem.W.findIn K (.ref C) "__init__" = some (some (.ref fI))) && (decide (PySem.W.typeIn K (.ref fI) = some (.type "function")) && (decide (PySem.W.findIn K (.ref C) f1 = some none) && decide (PySem.W.findIn K (.ref C) f2 = some none))))
theorem errB_ok {K : PySem.W.Frag} {C fI : Addr} {f1 f2 : Str} (h : errB K C fI f1 f2 = true) : ErrOk K C fI f1 f2 := by
  unfold errB at h
  obtain ⟨h1, h⟩ := He.ba h
  obtain ⟨h2, h⟩ := He.ba h
  obtain ⟨h3, h⟩ := He.ba h
  obtain ⟨h4, h5⟩ := He.ba h
  exact ⟨oexB_ok h1, of_decide_eq_true h2, of_decide_eq_true h3, of_decide_eq_true h4, of_decide_eq_true h5⟩
def catB (K : PySem.W.Frag) (C : Addr) (f1 f2 : Str) : Bool := xfB K C && (decide (PySem.W.exmOne K (.ref C) (.ref C) = some true) && (decide (PySem.W.findIn K (.ref C) f1 = some none) && decide (PySem.W.findIn K (.ref C) f2 = some none)))
theorem catB_ok {K : PySem.W.Frag} {C : Addr} {f1 f2 : Str} (h : catB K C f1 f2 = true) : CatOk K C f1 f2 := by
  unfold catB at h
  obtain ⟨h1, h⟩ := He.ba h
  obtain ⟨h2, h⟩ := He.ba h
  obtain ⟨h3, h4⟩ := He.ba h
  exact ⟨xfB_ok h1, of_decide_eq_true h2, of_decide_eq_true h3, of_decide_eq_true h4⟩
/-! ### isinstance: which kinds there are is told -/
def isiB (K : PySem.W.Frag) (ct : Nat → Addr) (g : TK → Option Bool) (u : Value) (ts : List TK) : Bool := ts.all fun t => match g t with
  | some b => decide (PySem.W.kitOne K (t.v ct) u = some b)
  | none => true
theorem isiB_ok {K : PySem.W.Frag} {ct : Nat → Addr} {g : TK → Option Bool} {u : Value} (ts : List TK) (h : isiB K ct g u ts = true) (hg : ∀ t b, g t = some b → t ∈ ts) (hi : ∀ c b, g (.ins c) = some b → ClsIs K (ct c)) : IsiOk K ct g u := by
  refine ⟨fun t b e => ?_, hi⟩
  have q := List.all_eq_true.mp h t (hg t b e)
  rw [e] at q
  exact of_decide_eq_true q
/-- the kinds of a law with one class of instances (number c) -/
def gK (c : Nat) (f : TK → Bool) : TK → Option Bool
  | .ins d => if d = c then some (f (.ins d)) else none
  | t => some (f t)
def gKs (c : Nat) : List TK := [.non, .bl, .int, .str, .lst, .tup, .ins c]
theorem gK_ins {c : Nat} {f : TK → Bool} : ∀ d b, gK c f (.ins d) = some b → d = c := fun d b e => by
  by_cases h : d = c
  · exact h
  · have e' : (if d = c then some (f (.ins d)) else none) = some b := e
    rw [if_neg h] at e'
    cases e'
theorem gK_mem {c : Nat} {f : TK → Bool} : ∀ t b, gK c f t = some b → t ∈ gKs c := fun t b e => by
  cases t with
  | ins d => rw [gK_ins d b e]; simp [gKs]
  | _ => simp [gKs]
/-! ### __init__ of an own error with two fields -/
theorem init2_ok {P : Program} {w : World} {K : PySem.W.Frag} {mg : Str → Option Value} {base : Heap} {x qual : Str} {params : Arguments} {scope : Scope} {f : Addr} {fd : FuncData} {f1 f2 : Str} {k : Nat} {p1 p2 p3 p4 p5 p6 p7 p8 : Pos} {s n1 n2 : Str}
    (D : FunD K x qual params [.Assign [.Attribute (.Name s p1) f1 p2] (.Name n1 p3) p4, .Assign [.Attribute (.Name s p5) f2 p6] (.Name n2 p7) p8] scope [] [] f fd) (S : FnScope [s, n1, n2] [s, n1, n2] scope)
    (hb : ∀ (cdv : Value) (A : Around) (outer : List Env) (s0 : Shared) (H : Hp) (E : XK), (PE (cxOf (L2.CX P w) P w K mg base [s, n1, n2] qual scope f cdv A outer s0 H E) (.Name s p1) (tVar 0) ∧ PE (cxOf (L2.CX P w) P w K mg base [s, n1, n2] qual scope f cdv A outer s0 H E) (.Name n1 p3) (tVar 1))
      ∧ (PE (cxOf (L2.CX P w) P w K mg base [s, n1, n2] qual scope f cdv A outer s0 H E) (.Name s p5) (tVar 0) ∧ PE (cxOf (L2.CX P w) P w K mg base [s, n1, n2] qual scope f cdv A outer s0 H E) (.Name n2 p7) (tVar 2))) : FnOk P w K mg base (L2.CX P w) (k + 1) f fd [s, n1, n2] (spI2 K f1 f2) := by
  refine D.ok S (fun vs H Q E h => ?_) fun cdv A outer s0 H vs Q E hr h => ⟨tSeq (tOst K f1 (tVar 0) (tVar 1)) (tOst K f2 (tVar 0) (tVar 2)), ?_, ?_⟩
  · obtain ⟨a, C, y1, y2, rfl, _⟩ := h
    rfl
  · obtain ⟨⟨a0, a1⟩, a2, a3⟩ := hb cdv A outer s0 H E
    exact pss_cons (ps_ost a0 a1) (pss_one (ps_ost a2 a3))
  · obtain ⟨a, C, y1, y2, rfl, ox, g1, g2, ha, q⟩ := h
    refine ⟨y1, rfl, .ref a, rfl, a, C, rfl, ox, g1, .inl ⟨ha, fun dx hn hne => ?_⟩⟩
    refine ⟨y2, rfl, .ref a, rfl, a, C, rfl, ox, g2, .inr ⟨dx, [(f1, y1)], upd_same, ?_, by simp, q dx hn hne⟩⟩
    rw [upd_ne hne, upd_same]
end Ml

set_option maxHeartbeats 4000000
/-! Small things that the printed derivations lean on. -/
namespace Ml
open PySem L2 PyProof.Rows

def mDead : MS := fun _ => .bad
theorem st_dead {K : PySem.W.Frag} {ct : Nat → Addr} {W : WX} {X : Cx} {st : Stmt} : PS X st (tS K ct W mDead) := ⟨fun pins s σ H D I x => by
  obtain ⟨bo, F, sl, R, g⟩ := x
  exact g.elim⟩
def mDeadE : M := fun _ => .bad
theorem se_dead {K : PySem.W.Frag} {ct : Nat → Addr} {W : WX} {X : Cx} {e : Expr} : PE X e (tM K ct W mDeadE) := ⟨fun pins s σ H Q I x => by
  obtain ⟨bo, F, sl, R, g⟩ := x
  exact g.elim⟩
def fdOf (K : PySem.W.Frag) (p : Str × Option Str) : FuncData := match K.lookup (He.fAd K p) with
  | some ⟨_, _, .func fd, _⟩ => fd
  | _ => PySem.W.fnOf "" "" ⟨[], [], none, [], [], none, []⟩ [] ⟨.function, [], false, false, []⟩ .none .none .none .none none .none .none
abbrev FnF (K : PySem.W.Frag) (d : He.DefD) : Prop := FunD K d.name d.qual d.params d.body d.scope (d.dvs K) (d.kws K) (He.fAd K d.at_) (fdOf K d.at_)
theorem says_fn {fa : List He.Fa} {fn : List He.DefD} {K : PySem.W.Frag} (c : He.SaysD fa fn K) (i : Nat) {d : He.DefD} (h : fn[i]? = some d) : FnF K d := by
  obtain ⟨fd, F⟩ := c.def_ i h
  have e : fdOf K d.at_ = fd := by
    obtain ⟨oc, od, dV, kV, doc, pm, an, cdv, ct, osl, _, lk, _⟩ := F.ex
    unfold fdOf
    rw [lk]
  unfold FnF
  rw [e]
  exact F
section
variable {K : PySem.W.Frag} {x qual : Str} {params : Arguments} {body : List Stmt} {scope : Scope} {dvs : List V} {kws : List (Str × V)} {f : Addr} {fd : FuncData} {ps ks : List Str}
theorem binds_all {n : Nat} (h : ∃ ds, Vals (dvs.drop n) ds ∧ Binds K fd ps ds) (e : dvs.drop n = [] := by rfl) : Binds K fd ps [] := by
  obtain ⟨ds, h1, h2⟩ := h
  rw [e] at h1
  cases h1
  exact h2
theorem bindsKw (F : FunD K x qual params body scope [] kws f fd)
    (h : ∀ (kV doc pm : Value) (an : Option Addr) (cdv ct : Value) (us : List Value), us.length = ps.length → bindArgs (PySem.W.fnOf x qual params body scope .none kV doc pm an cdv ct) ⟨[], ks.zip us⟩ = pure (ps.zip us)) : ∀ (s : Shared) (us : List Value), us.length = ps.length → BindsTo s fd ⟨[], ks.zip us⟩ (ps.zip us) := fun s us hl => by
  obtain ⟨oc, od, dV, kV, doc, pm, an, cdv, ct, osl, rfl, lk, hcd, hD, hK⟩ := F.ex
  rcases hD with ⟨_, rfl⟩ | ⟨e, _⟩
  · exact .of_eq (h kV doc pm an cdv ct us hl)
  · exact absurd rfl e
end
section
variable {K : PySem.W.Frag} {ct : Nat → Addr} {W : WX} {X : Cx}
theorem ak_nil : PK X [] (tArs K ct W (evFs [])) := pk_nil
theorem ak_cons {e : Expr} {kws : List Keyword} {m : M} {as : List M} {nm : Option Str} {kpos : Pos} (ha : PE X e (tM K ct W m)) (hr : PK X kws (tArs K ct W (evFs as))) : PK X (⟨nm, e, kpos⟩ :: kws) (tArs K ct W (evFs (m :: as))) := pk_cons (ae_e ha) hr
end
theorem nox_cx {P : Program} {w : World} {K : PySem.W.Frag} {mg : Str → Option Value} {base : Heap} {k : Nat} {f : Addr} {fd : FuncData} {ps : List Str} {sp : Sp} (F : FnOk P w K mg base (L2.CX P w) k f fd ps sp) :
    FnOk P w K mg base CX0 k f fd ps (fun vs H Q _ => sp vs H Q fun _ _ _ => False) :=
  ⟨fun vs H Q E h => F.len _ _ _ _ h, fun A outer s H args us vs Q E hr he hb hv hs => codeAny_mono (F.run A outer s H args us vs Q _ hr he hb hv hs) fun r s' h => by
    cases r with
    | ok c => cases c <;> exact h
    | error e =>
      obtain ⟨a, B, H', cls, d, _, _, _, _, _, _, _, z⟩ := h
      exact z.elim⟩
def fAddI : List D → Option RK
  | [.int a, .int b] => some (.v (.int (a + b)))
  | _ => none
theorem ol_addI {K : PySem.W.Frag} {ct : Nat → Addr} : OpL K ct (l2 (rI0 fun i j => .int (i + j))) fAddI := ol_I0 fun ds k h => by
  unfold fAddI at h
  split at h
  · cases h; exact ⟨_, _, _, rfl, rfl, fun F => by simp only [At]⟩
  · cases h
def IsB (f : List D → Option RK) : Prop := ∀ ds k, f ds = some k → ∃ c, k = .v (.bl c)
theorem bl_lt : IsB fLt := fun ds k h => by unfold fLt at h; split at h <;> cases h; exact ⟨_, rfl⟩
theorem bl_le : IsB fLe := fun ds k h => by unfold fLe at h; split at h <;> cases h; exact ⟨_, rfl⟩
theorem bl_gt : IsB fGt := fun ds k h => by unfold fGt at h; split at h <;> cases h; exact ⟨_, rfl⟩
theorem bl_ge : IsB fGe := fun ds k h => by unfold fGe at h; split at h <;> cases h; exact ⟨_, rfl⟩
theorem bl_eq : IsB fEq := fun ds k h => by
  match ds, h with
  | [a, b], h =>
    simp only [fEq] at h
    cases e1 : a.py with
    | none => rw [e1] at h; cases h
    | some p =>
      cases e2 : b.py with
      | none => rw [e1, e2] at h; cases h
      | some q =>
        rw [e1, e2] at h
        simp only at h
        split at h
        · cases h; exact ⟨_, rfl⟩
        · cases h
theorem bl_ne : IsB fNe := fun ds k h => by
  match ds, h with
  | [a, b], h =>
    simp only [fNe] at h
    cases e1 : a.py with
    | none => rw [e1] at h; cases h
    | some p =>
      cases e2 : b.py with
      | none => rw [e1, e2] at h; cases h
      | some q =>
        rw [e1, e2] at h
        simp only at h
        split at h
        · cases h; exact ⟨_, rfl⟩
        · cases h
theorem bl_in : IsB fIn := fun ds k h => by
  match ds, h with
  | [a, .lst bs], h =>
    simp only [fIn] at h
    cases e1 : a.py with
    | none => rw [e1] at h; cases h
    | some p =>
      cases e2 : D.pyL bs with
      | none => rw [e1, e2] at h; cases h
      | some q =>
        rw [e1, e2] at h
        simp only at h
        split at h
        · cases h; exact ⟨_, rfl⟩
        · cases h
theorem bl_notIn : IsB fNotIn := fun ds k h => by
  match ds, h with
  | [a, .lst bs], h =>
    simp only [fNotIn] at h
    cases e1 : a.py with
    | none => rw [e1] at h; cases h
    | some p =>
      cases e2 : D.pyL bs with
      | none => rw [e1, e2] at h; cases h
      | some q =>
        rw [e1, e2] at h
        simp only at h
        split at h
        · cases h; exact ⟨_, rfl⟩
        · cases h
theorem bl_isN : IsB fIsN := fun ds k h => by unfold fIsN at h; repeat' split at h; all_goals first | (cases h; done) | (cases h; exact ⟨_, rfl⟩)
theorem bl_notN : IsB fNotN := fun ds k h => by unfold fNotN at h; repeat' split at h; all_goals first | (cases h; done) | (cases h; exact ⟨_, rfl⟩)
end Ml

set_option maxHeartbeats 4000000
/-! zip of a tuple and a list. -/
namespace Ml
open PySem PySem.Spec L2 PyProof.Rows

def ItzM (K : PySem.W.Frag) (a b : Addr) : It where
  go i H := ∃ (xs ys : List V) (x y : V), SqT K H a xs ∧ SqL K H b ys ∧ xs[i]? = some x ∧ ys[i]? = some y
  yld i H v H' := ∃ T x y, v = .ref T ∧ H T = none ∧ H' = upd H T (.tup [x, y]) ∧ (∀ xs, SqT K H a xs → xs[i]? = some x) ∧ ∀ ys, SqL K H b ys → ys[i]? = some y
  stop i H := ∃ xs ys : List V, SqT K H a xs ∧ SqL K H b ys ∧ i ≤ xs.length ∧ i ≤ ys.length ∧ (i = xs.length ∨ i = ys.length)
/-- the cells of the zip at turn i -/
structure ZSt (z TI TO i1 i2 a b : Addr) (i : Nat) (h : Heap) : Prop where
  hz : IsZip h z TI TO .none
  hI : IsTupOf2 h TI (.ref i1) (.ref i2)
  hO : ∃ x y, IsTupOf2 h TO x y
  h1 : h.IsTupleIter i1 a i
  h2 : h.IsListIter i2 b i
theorem ZSt.there {z TI TO i1 i2 a b : Addr} {i : Nat} {h : Heap} (S : ZSt z TI TO i1 i2 a b i h) {c : Addr} (hc : c ∈ [z, TI, TO, i1, i2]) : ∃ o, h.get? c = some o ∧ ∀ v, o.data ≠ .cell v := by
  obtain ⟨hz, hI, ⟨x, y, hO⟩, ⟨o1, e1, _, d1⟩, ⟨o2, e2, _, d2⟩⟩ := S
  have hc' : c = z ∨ c = TI ∨ c = TO ∨ c = i1 ∨ c = i2 := by simpa using hc
  rcases hc' with r | r | r | r | r <;> subst r
  · exact ⟨_, hz, fun v q => nomatch q⟩
  · exact ⟨_, hI, fun v q => nomatch q⟩
  · exact ⟨_, hO, fun v q => nomatch q⟩
  · exact ⟨o1, e1, fun v q => by rw [d1] at q; cases q⟩
  · exact ⟨o2, e2, fun v q => by rw [d2] at q; cases q⟩
theorem turnM {P : Program} {w : World} {K : PySem.W.Frag} {elts : List Expr} {kk : Nat} {tpos : Pos} {a b z TI TO i1 i2 : Addr} (D : ZipSep2 z TI TO i1 i2 [i1, a] [i2, b]) : Turn P w K (.Tuple elts kk tpos) (ItzM K a b) [z, TI, TO, i1, i2] z (ZSt z TI TO i1 i2 a b) := by
  have ai : a ≠ i1 ∧ b ≠ i2 ∨ True := .inr trivial
  refine ⟨List.mem_cons_self .., fun i h S c hc => S.there hc, fun i h h' S k => ?_, ?_, ?_, fun A i s Q E S h => wpAny_pyIter_zip S.hz h⟩
  · obtain ⟨hz, hI, ⟨x, y, hO⟩, h1, h2⟩ := S
    exact ⟨k z (by simp) _ hz, k TI (by simp) _ hI, ⟨x, y, k TO (by simp) _ hO⟩, h1.at fun o q => k i1 (by simp) o q, h2.at fun o q => k i2 (by simp) o q⟩
  · intro X hP hw hK hc i pins s σ H E I hf S hg
    subst hP
    subst hw
    subst hK
    have low : ∀ c ∈ [z, TI, TO, i1, i2], c < s.heap.objs.size := fun c hc => by
      obtain ⟨o, e, _⟩ := S.there hc
      exact Heap.lt_size e
    obtain ⟨hz, hI, ⟨x0, y0, hO⟩, h1, h2⟩ := S
    obtain ⟨xs, ys, x, y, qa, qb, ex, ey⟩ := hg
    obtain ⟨us, ru, pu, _⟩ := I.tuple qa
    obtain ⟨ws, rw_, pw, _⟩ := I.list qb
    obtain ⟨u, hu, r1⟩ := ru.get ex
    obtain ⟨w2, hw2, r2⟩ := rw_.get ey
    have hd : X.A.in1.handled = none := I.ok.hd hc
    have apart : a ≠ i1 ∧ b ≠ i2 := by
      refine ⟨fun e => ?_, fun e => ?_⟩
      · obtain ⟨o, e1, e2, _⟩ := id h1
        obtain ⟨o', e3, e4, _⟩ := id pu
        rw [e, e1] at e3
        have q := (congrArg Obj.cls (Option.some.inj e3)).symm.trans e2
        rw [e4] at q
        exact absurd (Value.type.inj q) (by decide)
      · obtain ⟨o, e1, e2, _⟩ := id h2
        obtain ⟨o', e3, e4, _⟩ := id pw.isList
        rw [e, e1] at e3
        have q := (congrArg Obj.cls (Option.some.inj e3)).symm.trans e2
        rw [e4] at q
        exact absurd (Value.type.inj q) (by decide)
    have l1 : i < us.toArray.size := by have := (List.getElem?_eq_some_iff.mp hu).1; simpa using this
    have l2 : i < ws.toArray.size := by have := (List.getElem?_eq_some_iff.mp hw2).1; simpa using this
    refine wpAny_pyNext_zipD2_item D (Draws.tuple hd i1 a apart.1 us.toArray) (Draws.list hd i2 b apart.2 ws.toArray) hz hI hO ⟨h1, pu⟩ ⟨h2, pw.isList⟩ l1 l2 fun v1 v2 h' tk g1 g2 k1 k2 k3 k4 k5 k6 k7 => ?_
    have ev1 : v1 = u := by
      have g1' : us.toArray[i]? = some v1 := g1
      rw [List.getElem?_toArray, hu] at g1'
      exact (Option.some.inj g1').symm
    have ev2 : v2 = w2 := by
      have g2' : ws.toArray[i]? = some v2 := g2
      rw [List.getElem?_toArray, hw2] at g2'
      exact (Option.some.inj g2').symm
    subst ev1
    subst ev2
    refine ⟨_, rfl, wpAny_letOwnedTupleGo_zip (s := { s with heap := h', toks := tk }) k1 fun h'' m1 m2 => ?_⟩
    have zl : z < s.heap.objs.size := low z (by simp)
    have nt : h''.get? s.heap.objs.size = some { cls := .type "tuple", data := .seq #[v1, v2] } := (m2.2 _ (Nat.ne_of_gt zl)).trans k5
    have fresh : ObjOk X.prog X.w (upd H s.heap.objs.size (.tup [x, y])) h'' s.heap.objs.size (.tup [x, y]) :=
      ⟨by show 2 ≤ sizeLine; decide, [v1, v2], .cons r1 (.cons r2 .nil), _, nt, rfl, _, rfl⟩
    have kp : ∀ c o, c ∉ [z, TI, TO, i1, i2] → s.heap.get? c = some o → h''.get? c = some o := fun c o hn q => by
      simp only [List.mem_cons, List.not_mem_nil, or_false, not_or] at hn
      exact (m2.2 c hn.1).trans (k7 c o hn.1 hn.2.2.1 hn.2.2.2.1 hn.2.2.2.2 q)
    refine ⟨.ref s.heap.objs.size, _, I.turnedNew (t' := tk) kp hf (Nat.le_refl _) fresh, rfl, ⟨_, x, y, rfl, I.hok.fresh (Nat.le_refl _), rfl, fun l q => ?_, fun l q => ?_⟩, ⟨m1, ?_, ⟨v1, v2, ?_⟩, ?_, ?_⟩, fun c q => ?_⟩
    · rw [I.tuple_inj q qa]
      exact ex
    · rw [I.list_inj q qb]
      exact ey
    · exact (m2.2 TI D.TIz).trans (k7 TI _ D.TIz D.TITO D.TIi1 D.TIi2 hI)
    · exact (m2.2 TO D.TOz).trans k2
    · exact k3.1.at fun o q => (m2.2 i1 (Ne.symm D.zi1)).trans q
    · exact k4.1.at fun o q => (m2.2 i2 (Ne.symm D.zi2)).trans q
    · rw [upd_ne (Nat.ne_of_lt (low c q))]
      exact (hf c q).1
  · intro X hP hw hK hc i pins s σ H E I hf S hg
    subst hP
    subst hw
    subst hK
    obtain ⟨hz, hI, ⟨x0, y0, hO⟩, h1, h2⟩ := S
    obtain ⟨xs, ys, qa, qb, b1, b2, b3⟩ := hg
    obtain ⟨us, ru, pu, _⟩ := I.tuple qa
    obtain ⟨ws, rw_, pw, _⟩ := I.list qb
    have hd : X.A.in1.handled = none := I.ok.hd hc
    have apart : a ≠ i1 ∧ b ≠ i2 := by
      refine ⟨fun e => ?_, fun e => ?_⟩
      · obtain ⟨o, e1, e2, _⟩ := id h1
        obtain ⟨o', e3, e4, _⟩ := id pu
        rw [e, e1] at e3
        have q := (congrArg Obj.cls (Option.some.inj e3)).symm.trans e2
        rw [e4] at q
        exact absurd (Value.type.inj q) (by decide)
      · obtain ⟨o, e1, e2, _⟩ := id h2
        obtain ⟨o', e3, e4, _⟩ := id pw.isList
        rw [e, e1] at e3
        have q := (congrArg Obj.cls (Option.some.inj e3)).symm.trans e2
        rw [e4] at q
        exact absurd (Value.type.inj q) (by decide)
    have n1 : xs.length = us.toArray.size := by simpa using ru.length
    have n2 : ys.length = ws.toArray.size := by simpa using rw_.length
    exact wpAny_pyNext_zipD2_end D (Draws.tuple hd i1 a apart.1 us.toArray) (Draws.list hd i2 b apart.2 ws.toArray) hz hI hO ⟨h1, pu⟩ ⟨h2, pw.isList⟩ (by omega) (by omega) (by omega) fun h' tk k =>
      ⟨rfl, I.turnedL (t' := tk) (ch := [z, TI, TO, i1, i2]) (fun c o hn q => by
        simp only [List.mem_cons, List.not_mem_nil, or_false, not_or] at hn
        exact k c o hn.1 hn.2.2.1 hn.2.2.2.1 hn.2.2.2.2 q) hf⟩
end Ml

set_option maxHeartbeats 400000
/-! .. as an iterable. -/
namespace Ml
open PySem PySem.Spec L2 PyProof.Rows
def rZipM (K : PySem.W.Frag) : List V → Hp → (It → Hp → Prop) → Prop := fun vs H R => ∃ a b xs ys, vs = [.ref a, .ref b] ∧ SqT K H a xs ∧ SqL K H b ys ∧ R (ItzM K a b) H
theorem pairV {a b : Addr} {us : List Value} (r : Vals [V.ref a, V.ref b] us) : us = [.ref a, .ref b] := by
  cases r with
  | cons r rr =>
    cases rr with
    | cons r' rr =>
      cases rr
      cases r
      cases r'
      rfl
theorem five {n c : Nat} (h : c ∈ [n + 4, n + 2, n + 3, n, n + 1]) : n ≤ c := by
  simp only [List.mem_cons, List.not_mem_nil, or_false] at h
  omega
theorem zipM_new {X : Cx} {pins : List (Addr × Obj)} {σ : L2.St} {H1 : Hp} {s1 : Shared} {a b : Addr} {xs ys : List V} {elts : List Expr} {kk : Nat} {tpos : Pos} {R : It → Hp → Prop} (I1 : Inv X pins σ H1 s1) (qa : SqT X.K H1 a xs) (qb : SqL X.K H1 b ys) (q : R (ItzM X.K a b) H1) :
    wpAny (model X.prog X.w) X.A (call (.type "zip") [.ref a, .ref b]) (fun v s2 => wpAny (model X.prog X.w) X.A (pyIter v) (PIE X pins σ (.Tuple elts kk tpos) R) X.xe s2) X.xe s1 := by
  obtain ⟨us, _, pu, _⟩ := I1.tuple qa
  obtain ⟨ws, _, pw, _⟩ := I1.list qb
  have la : a < s1.heap.objs.size := by obtain ⟨o, e, _⟩ := id pu; exact Heap.lt_size e
  have lb : b < s1.heap.objs.size := by obtain ⟨o, e, _⟩ := id pw.isList; exact Heap.lt_size e
  have D : ZipSep2 (s1.heap.objs.size + 4) (s1.heap.objs.size + 2) (s1.heap.objs.size + 3) s1.heap.objs.size (s1.heap.objs.size + 1) [s1.heap.objs.size, a] [s1.heap.objs.size + 1, b] :=
    zip_sep2 (fp1 := [a]) (fp2 := [b]) (fun c hc => by rw [List.mem_singleton.mp hc]; exact la) fun c hc => by rw [List.mem_singleton.mp hc]; exact lb
  refine zip_begins2 (begins_tuple a us.toArray) (begins_list b ws.toArray) pu pw.isList fun h' z1 z2 z3 z4 z5 z6 z7 => wpAny_pyIter_zip z1 ?_
  have I2 : Inv X pins σ H1 { s1 with heap := h' } := I1.kept (t' := s1.toks) z7
  have Z : ZSt (s1.heap.objs.size + 4) (s1.heap.objs.size + 2) (s1.heap.objs.size + 3) s1.heap.objs.size (s1.heap.objs.size + 1) a b 0 h' := ⟨z1, z2, ⟨_, _, z3⟩, ⟨_, z4, rfl, rfl⟩, ⟨_, z5, rfl, rfl⟩⟩
  exact ⟨s1.heap.objs.size + 4, [s1.heap.objs.size + 4, s1.heap.objs.size + 2, s1.heap.objs.size + 3, s1.heap.objs.size, s1.heap.objs.size + 1], _, ItzM X.K a b, H1, rfl, I2, turnM D, Z, fun c hc => I1.fpOk (five hc) (I1.hok.fresh (five hc)), q⟩
theorem pi_zipM {X : Cx} {e e2 : Expr} {ta : TA} {p pos tpos : Pos} {elts : List Expr} {kk : Nat} (hg : Gl X "zip") (hm : X.mg "zip" = none) (ha : PA X [e, e2] ta)
    (hs : starEach [e, e2] X.env = (false, eval e X.env) :: starEach [e2] X.env := by rfl) (hpl : (backTo pos (starEach [e2] X.env)).any (·.1) = false := by rfl) :
    PI X (.Tuple elts kk tpos) (.Call (.Name "zip" p) [e, e2] [] pos) (fun σ H R => ta σ H fun vs H1 => rZipM X.K vs H1 R) := by
  refine ⟨fun pins s σ H R I h => ?_⟩
  refine Call_ (ld_blt I hg hm PyProof.Rows.boot_zip (PyProof.Rows.callWith_type1 (thn (ha.run pos pins s σ H _ I h) fun us s1 ⟨vs, H1, I1, r1, q1⟩ => ?_) hs hpl))
  obtain ⟨a, b, xs, ys, ex, qa, qb, q⟩ := q1
  subst ex
  rw [pairV r1]
  exact zipM_new I1 qa qb q
def fZipM : List D → Option (List D)
  | [.tup xs, .lst ys] => some (zipD xs ys)
  | _ => none
section
variable {K : PySem.W.Frag} {ct : Nat → Addr}
theorem it_zipM' : ItL K ct (rZipM K) fZipM := by
  intro F H LK vs ds items R e l a h q
  unfold fZipM at h
  split at h
  · rename_i xs ys
    cases h
    obtain ⟨v, w, rfl, s1, s2⟩ := stay2 a
    obtain ⟨p1, us1, h1, h2, h3⟩ := s1 F H (Ex.refl F) e l
    obtain ⟨p2, us2, h4, h5, h6⟩ := s2 F H (Ex.refl F) e l
    subst h1
    subst h4
    have tA : ∀ F2 H2, Ex F F2 → Ex F2 H2 → (∀ p ∈ LK, H2 p.1 = some p.2) → ∃ us, SqT K H2 p1 us ∧ AtL K ct F2 xs us := fun F2 H2 e1 e2 l2 => by
      obtain ⟨p', ws', g1, g2, g3⟩ := s1 F2 H2 e1 e2 l2
      cases g1
      exact ⟨ws', g2, g3⟩
    have tB : ∀ F2 H2, Ex F F2 → Ex F2 H2 → (∀ p ∈ LK, H2 p.1 = some p.2) → ∃ us, SqL K H2 p2 us ∧ AtL K ct F2 ys us := fun F2 H2 e1 e2 l2 => by
      obtain ⟨p', ws', g1, g2, g3⟩ := s2 F2 H2 e1 e2 l2
      cases g1
      exact ⟨ws', SqL.of g2, g3⟩
    refine ⟨p1, p2, us1, us2, rfl, h2, SqL.of h5, q _ ⟨fun i F2 H2 hi e1 e2 l2 => ?_, fun F2 H2 e1 e2 l2 => ?_, fun i F2 H2 d x H' hd e1 e2 l2 y => ?_⟩⟩
    · obtain ⟨w1, a1, b1⟩ := tA F2 H2 e1 e2 l2
      obtain ⟨w2, a2, b2⟩ := tB F2 H2 e1 e2 l2
      have hi1 : i < w1.length := by rw [b1.length]; simp [zipD] at hi; omega
      have hi2 : i < w2.length := by rw [b2.length]; simp [zipD] at hi; omega
      exact ⟨w1, w2, w1[i], w2[i], a1, a2, by simp [hi1], by simp [hi2]⟩
    · obtain ⟨w1, a1, b1⟩ := tA F2 H2 e1 e2 l2
      obtain ⟨w2, a2, b2⟩ := tB F2 H2 e1 e2 l2
      refine ⟨w1, w2, a1, a2, ?_⟩
      rw [b1.length, b2.length]
      simp [zipD]
      omega
    · obtain ⟨w1, a1, b1⟩ := tA F2 H2 e1 e2 l2
      obtain ⟨w2, a2, b2⟩ := tB F2 H2 e1 e2 l2
      obtain ⟨x0, y0, g1, g2, rfl⟩ := zipD_get hd
      obtain ⟨T, x1, y1, k1, k2, k3, k4, k5⟩ := y
      obtain ⟨u1, m1, m2⟩ := b1.get g1
      obtain ⟨u2, m3, m4⟩ := b2.get g2
      have r1 := k4 w1 a1
      have r2 := k5 w2 a2
      rw [m1] at r1
      rw [m3] at r2
      cases r1
      cases r2
      exact .inr ⟨T, [x1, y1], [x0, y0], k1, k2, k3, rfl, x1, [y1], rfl, m2, y1, [], rfl, m4, rfl⟩
  · cases h
end
section
variable {K : PySem.W.Frag} {ct : Nat → Addr} {W : WX} {X : Cx} {a b : Expr} {p pos : Pos} {ar br : Ar}
theorem it_zipM {elts : List Expr} {kk : Nat} {tpos : Pos} (hK : K = X.K) (hg : Gl X "zip") (hm : X.mg "zip" = none) (ha : PE X a (tAr K ct W ar)) (hb : PE X b (tAr K ct W br))
    (hs1 : starEach [b] X.env = (false, eval b X.env) :: starEach [] X.env := by rfl) (hs : starEach [a, b] X.env = (false, eval a X.env) :: starEach [b] X.env := by rfl) (hpl : (backTo pos (starEach [b] X.env)).any (·.1) = false := by rfl) :
    PI X (.Tuple elts kk tpos) (.Call (.Name "zip" p) [a, b] [] pos) (tIt K ct W (evI [ar, br] fZipM)) := by
  subst hK
  refine pi_imp (pi_zipM hg hm (as_cons ha (as_cons hb as_nil hs1) hs) hs hpl) fun σ H R x => ?_
  obtain ⟨bo, F, sl, R0, g⟩ := x
  exact it_core it_zipM' R0 g
end
end Ml

set_option maxHeartbeats 4000000
/-! The mirrors of eachlength_k22_products_of_roots, printed by gen.py. -/
namespace K22
open PySem L2 Ml
def g_bool : TK → Option Bool := gK 0 (fun t => t == .bl)
def g_int : TK → Option Bool := gK 0 (fun t => t == .int || t == .bl)
def g_tuple : TK → Option Bool := gK 0 (fun t => t == .tup)
def g_Ratio : TK → Option Bool := gK 0 fun t => t == .ins 0
def g_str : TK → Option Bool := gK 0 (fun t => t == .str)
/- _law_bag: 0=script 1=stir 2=grain -/
def b_law_bag (N : Nat) : MS :=
  (mSeq (mAsg 1 (mC (D.int (2200371)))) (mSeq (mFor (evI [(.e (mSl (.b 0) none (some (mC (D.int (63))))))] fItL) (.nm 2) (fgt [2] (mAsg 1 (mOp fMod [(.e (mOp fInt1 [(.e (mOp fAdd [(.e (mOp fAdd [(.e (mOp fMul [(.b 1), (.e (mC (D.int (48611))))])), (.e (mOp fMod [(.e (mOp fInt1 [(.b 2)])), (.e (mC (D.int (2147483549))))]))])), (.e (mC (D.int (919))))]))])), (.e (mC (D.int (2147483563))))])))) (mRt
  (mDis fLst [(mOp fList [(.e (mSl (.b 0) none (some (mC (D.int (63))))))]), (mC (D.int (0))), (mC (D.int (0))), (mV 1), (mC (D.int (0)))]))))
def f_law_bag (N : Nat) : MF := mFn 1 2 (b_law_bag N)
/- _law_draw: 0=bag 1=limit 2=grain 3=digit 4=stir -/
def b_law_draw (N : Nat) : MS :=
  (mSeq (mSet 0 (mC (D.int (4))) (mOp fAdd [(.e (mOp fIdx [(.b 0), (.e (mC (D.int (4))))])), (.e (mC (D.int (1))))])) (mSeq (fgt [2] (mIfS (andT (mT (mOp fEq [(.e (mOp fIdx [(.b 0), (.e (mC (D.int (2))))])), (.e (mC (D.int (0))))])) (mT (mOp fLt [(.e (mOp fIdx [(.b 0), (.e (mC (D.int (1))))])), (.e (mOp fLen [(.e (mOp fIdx [(.b 0), (.e (mC (D.int (0))))]))]))]))) (mSeq (mAsg 2 (mOp fInt1 [(.e (mOp
  fIdx [(.e (mOp fIdx [(.b 0), (.e (mC (D.int (0))))])), (.e (mOp fIdx [(.b 0), (.e (mC (D.int (1))))]))]))])) (mSeq (mSet 0 (mC (D.int (1))) (mOp fAdd [(.e (mOp fIdx [(.b 0), (.e (mC (D.int (1))))])), (.e (mC (D.int (1))))])) (mIfS (mT (mOp fGe [(.b 2), (.e (mOp fPow [(.e (mC (D.int (10)))), (.e (mC (D.int (18))))]))])) (mSet 0 (mC (D.int (2))) (mV 2)) (mSet 0 (mC (D.int (3))) (mOp fMod [(.e (mOp
  fInt1 [(.e (mOp fAdd [(.e (mOp fAdd [(.e (mOp fMul [(.e (mOp fIdx [(.b 0), (.e (mC (D.int (3))))])), (.e (mC (D.int (59447))))])), (.e (mOp fMul [(.e (mOp fMod [(.e (mOp fInt1 [(.b 2)])), (.e (mC (D.int (2147483543))))])), (.e (mC (D.int (25111))))]))])), (.e (mC (D.int (401))))]))])), (.e (mC (D.int (2147483563))))]))))) mNx)) (mSeq (fgt [3] (mIfS (mT (mOp fGt [(.e (mOp fIdx [(.b 0), (.e (mC
  (D.int (2))))])), (.e (mC (D.int (0))))])) (mSeq (mAsg 3 (mOp fMod [(.e (mOp fInt1 [(.e (mOp fIdx [(.b 0), (.e (mC (D.int (2))))]))])), (.b 1)])) (mSeq (mSet 0 (mC (D.int (2))) (mOp fDiv [(.e (mOp fIdx [(.b 0), (.e (mC (D.int (2))))])), (.b 1)])) (mRt (mV 3)))) mNx)) (mSeq (mAsg 4 (mOp fInt1 [(.e (mOp fIdx [(.b 0), (.e (mC (D.int (3))))]))])) (mSeq (mSet 0 (mC (D.int (3))) (mOp fMod [(.e (mOp
  fInt1 [(.e (mOp fAdd [(.e (mOp fAdd [(.e (mOp fAdd [(.e (mOp fPow [(.b 4), (.e (mC (D.int (3))))])), (.e (mOp fMul [(.b 4), (.e (mC (D.int (47051))))]))])), (.e (mOp fMul [(.e (mOp fIdx [(.b 0), (.e (mC (D.int (4))))])), (.e (mC (D.int (1900037))))]))])), (.e (mC (D.int (60013))))]))])), (.e (mC (D.int (2147483563))))])) (mRt (mOp fMod [(.e (mOp fInt1 [(.e (mOp fAdd [(.e (mOp fDiv [(.e (mOp fIdx
  [(.b 0), (.e (mC (D.int (3))))])), (.e (mC (D.int (89))))])), (.e (mOp fMul [(.e (mOp fMod [(.e (mOp fInt1 [(.e (mOp fIdx [(.b 0), (.e (mC (D.int (3))))]))])), (.e (mC (D.int (7919))))])), (.e (mC (D.int (67))))]))]))])), (.b 1)])))))))
def f_law_draw (N : Nat) : MF := mFn 2 3 (b_law_draw N)
/- _law_of: 0=bag 1=things -/
def b_law_of (N : Nat) : MS :=
  (mRt (mOp fIdx [(.b 1), (.e (mCallB (f_law_draw N) 0 [(mOp fLen [(.b 1)])]))]))
def f_law_of (N : Nat) : MF := mFn 2 0 (b_law_of N)
/- _law_knot: 0=bag 1=way 2=real 3=high 4=mid -/
def b_law_knot (N : Nat) : MS :=
  (mSeq (mAsg 1 (mCallB (f_law_of N) 0 [(mDis fLst [(mC (D.int (0))), (mC (D.int (1))), (mC (D.int (3))), (mC (D.int (0))), (mC (D.int (2))), (mC (D.int (0))), (mC (D.int (1)))])])) (mSeq (mIfS (mT (mOp fEq [(.b 1), (.e (mC (D.int (0))))])) (mRt (mDis fTup [(mC (D.int (1))), (mCallB (f_law_of N) 0 [(mDis fLst [(mC (D.int (2))), (mC (D.int (1))), (mC (D.int (3))), (mOp fNeg [(.e (mC (D.int (1))))]),
  (mC (D.int (4))), (mOp fNeg [(.e (mC (D.int (2))))]), (mC (D.int (1))), (mOp fNeg [(.e (mC (D.int (3))))]), (mC (D.int (2))), (mOp fNeg [(.e (mC (D.int (4))))])])]), (mC (D.int (0)))])) mNx) (mSeq (fgt [2, 3] (mIfS (mT (mOp fEq [(.b 1), (.e (mC (D.int (1))))])) (mSeq (mPar 2 3 (mOp fSub [(.e (mCallB (f_law_draw N) 0 [(mC (D.int (7)))])), (.e (mC (D.int (3))))]) (mOp fAdd [(.e (mC (D.int (1)))),
  (.e (mCallB (f_law_draw N) 0 [(mC (D.int (3)))]))])) (mRt (mDis fTup [(mC (D.int (2))), (mOp fMul [(.e (mC (D.int (2)))), (.b 2)]), (mOp fAdd [(.e (mOp fMul [(.b 2), (.b 2)])), (.e (mOp fMul [(.b 3), (.b 3)]))])]))) mNx)) (mSeq (mIfS (mT (mOp fEq [(.b 1), (.e (mC (D.int (2))))])) (mRt (mDis fTup [(mC (D.int (2))), (mC (D.int (0))), (mOp fNeg [(.e (mCallB (f_law_of N) 0 [(mDis fLst [(mC (D.int
  (2))), (mC (D.int (3))), (mC (D.int (5)))])]))])])) mNx) (mSeq (mAsg 4 (mCallB (f_law_of N) 0 [(mDis fLst [(mC (D.int (1))), (mOp fNeg [(.e (mC (D.int (1))))]), (mC (D.int (2))), (mC (D.int (3))), (mOp fNeg [(.e (mC (D.int (2))))]), (mOp fNeg [(.e (mC (D.int (3))))]), (mC (D.int (0))), (mC (D.int (4))), (mOp fNeg [(.e (mC (D.int (5))))])])])) (mRt (mDis fTup [(mC (D.int (2))), (mV 4), (mOp fAdd
  [(.e (mOp fAdd [(.e (mOp fDiv [(.e (mOp fMul [(.b 4), (.b 4)])), (.e (mC (D.int (4))))])), (.e (mC (D.int (1))))])), (.e (mCallB (f_law_draw N) 0 [(mC (D.int (5)))]))])])))))))
def f_law_knot (N : Nat) : MF := mFn 1 4 (b_law_knot N)
/- _law_factor: 0=bag 1=knot -/
def b_law_factor (N : Nat) : MS :=
  (mSeq (mAsg 1 (mIf (mT (mOp fEq [(.e (mCallB (f_law_draw N) 0 [(mC (D.int (9)))])), (.e (mC (D.int (1))))])) (mDis fTup [(mC (D.int (1))), (mC (D.int (0))), (mC (D.int (0)))]) (mCallB (f_law_knot N) 0 []))) (mRt (mDis fTup [(mV 1), (mCallB (f_law_of N) 0 [(mDis fLst [(mC (D.int (1))), (mC (D.int (1))), (mC (D.int (2))), (mC (D.int (1))), (mC (D.int (3))), (mC (D.int (5)))])])])))
def f_law_factor (N : Nat) : MF := mFn 1 1 (b_law_factor N)
/- _law_gcd: 0=one 1=two 2=big 3=less -/
def b_law_gcd (N : Nat) : MS :=
  (mSeq (mPar 2 3 (mOp fAbs [(.b 0)]) (mOp fAbs [(.b 1)])) (mSeq (fgt [3] (mWh N (mT (mOp fGt [(.b 3), (.e (mC (D.int (0))))])) (mPar 2 3 (mV 3) (mOp fMod [(.e (mOp fInt1 [(.b 2)])), (.b 3)])))) (mRt (mV 2))))
def f_law_gcd (N : Nat) : MF := mFn 2 2 (b_law_gcd N)
/- _law_low: 0=one 1=two 2=share_of -/
def b_law_low (N : Nat) : MS :=
  (mSeq (mIfS (mT (mOp fLt [(.b 1), (.e (mC (D.int (0))))])) (mPar 0 1 (mOp fNeg [(.b 0)]) (mOp fNeg [(.b 1)])) mNx) (mSeq (mAsg 2 (mCall (f_law_gcd N) [(mV 0), (mV 1)])) (mRt (mDis fTup [(mOp fDiv [(.b 0), (.b 2)]), (mOp fDiv [(.b 1), (.b 2)])]))))
def f_law_low (N : Nat) : MF := mFn 2 1 (b_law_low N)
/- _law_key: 0=one 1=knot 2=under -/
def b_law_key (N : Nat) : MS :=
  (mSeq (mUnp (.tp [(.nm 1), (.nm 2)]) (mV 0)) (mRt (mDis fTup [(mCall (f_law_low N) [(mOp fIdx [(.b 1), (.e (mC (D.int (1))))]), (mV 2)]), (mCall (f_law_low N) [(mOp fIdx [(.b 1), (.e (mC (D.int (2))))]), (mOp fMul [(.b 2), (.b 2)])]), (mOp fIdx [(.b 1), (.e (mC (D.int (0))))])])))
def f_law_key (N : Nat) : MF := mFn 1 2 (b_law_key N)
/- _law_pool: 0=bag 1=many 2=told 3=i 4=one 5=two -/
def b_law_pool (N : Nat) : MS :=
  (mSeq (mAsg 2 (mDis fLst [])) (mSeq (fgt [5] (mFor (evI [(.b 1)] fR1) (.nm 3) (fgt [3, 4] (mSeq (mAsg 4 (mCallB (f_law_factor N) 0 [])) (mIfS (mT (mOp fNotIn [(.e (mCall (f_law_key N) [(mV 4)])), (.e (mLc [5] (evI [(.b 2)] fItL) (.nm 5) mYes (mCall (f_law_key N) [(mV 5)])))])) (mApp 2 (mV 4)) mNx))))) (mRt (mV 2))))
def f_law_pool (N : Nat) : MF := mFn 2 4 (b_law_pool N)
/- _law_lesser: 0=one 1=two -/
def b_law_lesser (N : Nat) : MS :=
  (mRt (mIf (mT (mOp fLt [(.b 0), (.b 1)])) (mV 0) (mV 1)))
def f_law_lesser (N : Nat) : MF := mFn 2 0 (b_law_lesser N)
/- _law_counts: 0=bag 1=pool 2=cap 3=told 4=left 5=knot 6=under 7=many -/
def b_law_counts (N : Nat) : MS :=
  (mSeq (mPar 3 4 (mDis fLst []) (mV 2)) (mSeq (fgt [4] (mFor (evI [(.b 1)] fItL) (.tp [(.nm 5), (.nm 6)]) (fgt [5, 6, 7] (mSeq (mAsg 7 (mCall (f_law_lesser N) [(mCallB (f_law_of N) 0 [(mDis fLst [(mC (D.int (1))), (mC (D.int (0))), (mC (D.int (2))), (mC (D.int (1))), (mC (D.int (0))), (mC (D.int (3)))])]), (mOp fDiv [(.b 4), (.e (mOp fIdx [(.b 5), (.e (mC (D.int (0))))]))])])) (mSeq (mAsg 4 (mOp
  fSub [(.b 4), (.e (mOp fMul [(.b 7), (.e (mOp fIdx [(.b 5), (.e (mC (D.int (0))))]))]))])) (mApp 3 (mV 7))))))) (mRt (mV 3))))
def f_law_counts (N : Nat) : MF := mFn 3 5 (b_law_counts N)
/- _law_scaled: 0=coefs 1=scale 2=value -/
def b_law_scaled (N : Nat) : MS :=
  (mRt (mDis fTup [(mLc [2] (evI [(.b 0)] fItL) (.nm 2) mYes (mOp fMul [(.b 2), (.e (mOp fIdx [(.b 1), (.e (mC (D.int (0))))]))])), (mOp fMul [(.e (mOp fIdx [(.b 0), (.e (mOp fNeg [(.e (mC (D.int (1))))]))])), (.e (mOp fIdx [(.b 1), (.e (mC (D.int (1))))]))])]))
def f_law_scaled (N : Nat) : MF := mFn 2 1 (b_law_scaled N)
/- _law_mul: 0=one 1=two 2=told 3=i 4=j -/
def b_law_mul (N : Nat) : MS :=
  (mSeq (mIfS (orT (notT (mT (mV 0))) (notT (mT (mV 1)))) (mRt (mDis fLst [])) mNx) (mSeq (mAsg 2 (mLc [3] (evI [(.e (mOp fSub [(.e (mOp fAdd [(.e (mOp fLen [(.b 0)])), (.e (mOp fLen [(.b 1)]))])), (.e (mC (D.int (1))))]))] fR1) (.nm 3) mYes (mC (D.int (0))))) (mSeq (mFor (evI [(.e (mOp fLen [(.b 0)]))] fR1) (.nm 3) (fgt [3, 4] (mFor (evI [(.e (mOp fLen [(.b 1)]))] fR1) (.nm 4) (fgt [4] (mSet 2 (mOp
  fAdd [(.b 3), (.b 4)]) (mOp fAdd [(.e (mOp fIdx [(.b 2), (.e (mOp fAdd [(.b 3), (.b 4)]))])), (.e (mOp fMul [(.e (mOp fIdx [(.b 0), (.b 3)])), (.e (mOp fIdx [(.b 1), (.b 4)]))]))])))))) (mRt (mV 2)))))
def f_law_mul (N : Nat) : MF := mFn 2 3 (b_law_mul N)
/- _law_knot_poly: 0=knot 1=under -/
def b_law_knot_poly (N : Nat) : MS :=
  (mSeq (mIfS (mT (mOp fEq [(.e (mOp fIdx [(.b 0), (.e (mC (D.int (0))))])), (.e (mC (D.int (1))))])) (mRt (mDis fLst [(mOp fNeg [(.e (mOp fIdx [(.b 0), (.e (mC (D.int (1))))]))]), (mV 1)])) mNx) (mRt (mDis fLst [(mOp fIdx [(.b 0), (.e (mC (D.int (2))))]), (mOp fMul [(.e (mOp fNeg [(.e (mOp fIdx [(.b 0), (.e (mC (D.int (1))))]))])), (.b 1)]), (mOp fMul [(.b 1), (.b 1)])])))
def f_law_knot_poly (N : Nat) : MF := mFn 2 0 (b_law_knot_poly N)
/- _law_joined: 0=pool 1=counts 2=told 3=knot 4=under 5=many 6=i -/
def b_law_joined (N : Nat) : MS :=
  (mSeq (mAsg 2 (mDis fLst [(mC (D.int (1)))])) (mSeq (mFor (evI [(.b 0), (.b 1)] fZip) (.tp [(.tp [(.nm 3), (.nm 4)]), (.nm 5)]) (fgt [3, 4, 5, 6] (mFor (evI [(.b 5)] fR1) (.nm 6) (fgt [6] (mAsg 2 (mCall (f_law_mul N) [(mV 2), (mCall (f_law_knot_poly N) [(mV 3), (mV 4)])])))))) (mRt (mV 2))))
def f_law_joined (N : Nat) : MF := mFn 2 5 (b_law_joined N)
/- _law_scale: 0=bag -/
def b_law_scale (N : Nat) : MS :=
  (mRt (mDis fTup [(mCallB (f_law_of N) 0 [(mDis fLst [(mC (D.int (1))), (mOp fNeg [(.e (mC (D.int (1))))]), (mC (D.int (2))), (mC (D.int (1))), (mC (D.int (7))), (mOp fNeg [(.e (mC (D.int (3))))]), (mOp fAdd [(.e (mOp fPow [(.e (mC (D.int (10)))), (.e (mC (D.int (20))))])), (.e (mC (D.int (1))))])])]), (mCallB (f_law_of N) 0 [(mDis fLst [(mC (D.int (1))), (mC (D.int (1))), (mC (D.int (2))), (mC
  (D.int (3))), (mC (D.int (1))), (mOp fPow [(.e (mC (D.int (10)))), (.e (mC (D.int (15))))])])])]))
def f_law_scale (N : Nat) : MF := mFn 1 0 (b_law_scale N)
/- is_integer: 0=value -/
def b_is_integer (N : Nat) : MS :=
  (mRt (mAnd (mOp (fIsi (g_int)) [(.b 0)]) (mNot (mOp (fIsi (g_bool)) [(.b 0)]))))
def f_is_integer (N : Nat) : MF := mFn 1 0 (b_is_integer N)
/- Ratio.__init__: 0=self 1=top 2=bottom 3=shared -/
def b_Ratio_init (N : Nat) : MS :=
  (mSeq (mIfS (notT (mT (mCall (f_is_integer N) [(mV 1)]))) mDead mNx) (mSeq (mIfS (orT (notT (mT (mCall (f_is_integer N) [(mV 2)]))) (mT (mOp fEq [(.b 2), (.e (mC (D.int (0))))]))) mDead mNx) (mSeq (mAsg 3 (mOp fGcd [(.b 1), (.b 2)])) (mSeq (mIfS (mT (mOp fLt [(.b 2), (.e (mC (D.int (0))))])) (mAsg 3 (mOp fNeg [(.b 3)])) mNx) (mSeq (mFld [0] "top" 0 (mOp fDiv [(.b 1), (.b 3)])) (mFld [0] "bottom" 0
  (mOp fDiv [(.b 2), (.b 3)])))))))
def f_Ratio_init (N : Nat) : MF := mFn 3 1 (b_Ratio_init N)
/- _law_number: 0=bag 1=one 2=two -/
def b_law_number (N : Nat) : MS :=
  (mSeq (mUnp (.tp [(.nm 1), (.nm 2)]) (mCall (f_law_low N) [(mV 1), (mV 2)])) (mSeq (mIfS (andT (mT (mOp fEq [(.b 2), (.e (mC (D.int (1))))])) (mT (mOp fNe [(.e (mCallB (f_law_draw N) 0 [(mC (D.int (16)))])), (.e (mC (D.int (1))))]))) (mRt (mV 1)) mNx) (mRt (mMake (f_Ratio_init N) 0 [(mV 1), (mV 2)] []))))
def f_law_number (N : Nat) : MF := mFn 3 0 (b_law_number N)
/- _law_poly: 0=bag 1=coefs 2=under 3=due -/
def b_law_poly (N : Nat) : MS :=
  (mRt (mOp fTuple [(.e (mLc [3] (evI [(.b 1)] fItL) (.nm 3) mYes (mCallB (f_law_number N) 0 [(mV 3), (mV 2)])))]))
def f_law_poly (N : Nat) : MF := mFn 3 1 (b_law_poly N)
/- _law_items: 0=pool 1=counts 2=told 3=one 4=many 5=i -/
def b_law_items (N : Nat) : MS :=
  (mSeq (mAsg 2 (mDis fLst [])) (mSeq (mFor (evI [(.b 0), (.b 1)] fZip) (.tp [(.nm 3), (.nm 4)]) (fgt [3, 4, 5] (mAsg 2 (mOp fAdd [(.b 2), (.e (mLc [5] (evI [(.b 4)] fR1) (.nm 5) mYes (mV 3)))])))) (mRt (mV 2))))
def f_law_items (N : Nat) : MF := mFn 2 4 (b_law_items N)
/- _law_power: 0=base 1=many 2=told 3=i -/
def b_law_power (N : Nat) : MS :=
  (mSeq (mAsg 2 (mC (D.int (1)))) (mSeq (mFor (evI [(.b 1)] fR1) (.nm 3) (fgt [3] (mAsg 2 (mOp fMul [(.b 2), (.b 0)])))) (mRt (mV 2))))
def f_law_power (N : Nat) : MF := mFn 2 2 (b_law_power N)
/- _law_across: 0=one 1=two 2=knot 3=under 4=other 5=below 6=scale 7=root 8=a 9=b 10=s 11=t 12=middle -/
def b_law_across (N : Nat) : MS :=
  (mSeq (mUnp (.tp [(.tp [(.nm 2), (.nm 3)]), (.tp [(.nm 4), (.nm 5)])]) (mDis fTup [(mV 0), (mV 1)])) (mSeq (mIfS (andT (mT (mOp fEq [(.e (mOp fIdx [(.b 2), (.e (mC (D.int (0))))])), (.e (mC (D.int (2))))])) (mT (mOp fEq [(.e (mOp fIdx [(.b 4), (.e (mC (D.int (0))))])), (.e (mC (D.int (1))))]))) (mUnp (.tp [(.nm 2), (.nm 3), (.nm 4), (.nm 5)]) (mDis fTup [(mV 4), (mV 5), (mV 2), (mV 3)])) mNx)
  (mSeq (mAsg 6 (mOp fMul [(.b 3), (.b 5)])) (mSeq (mIfS (mT (mOp fEq [(.e (mOp fIdx [(.b 4), (.e (mC (D.int (0))))])), (.e (mC (D.int (1))))])) (mRt (mDis fLst [(mOp fMul [(.e (mOp fNeg [(.e (mOp fIdx [(.b 2), (.e (mC (D.int (1))))]))])), (.e (mOp fIdx [(.b 4), (.e (mC (D.int (1))))]))]), (mV 6)])) mNx) (mSeq (fgt [7] (mIfS (mT (mOp fEq [(.e (mOp fIdx [(.b 2), (.e (mC (D.int (0))))])), (.e (mC
  (D.int (1))))])) (mSeq (mAsg 7 (mOp fIdx [(.b 2), (.e (mC (D.int (1))))])) (mRt (mDis fLst [(mOp fMul [(.e (mOp fMul [(.b 7), (.b 7)])), (.e (mOp fIdx [(.b 4), (.e (mC (D.int (2))))]))]), (mOp fMul [(.e (mOp fMul [(.e (mOp fNeg [(.b 7)])), (.e (mOp fIdx [(.b 4), (.e (mC (D.int (1))))]))])), (.b 6)]), (mOp fMul [(.b 6), (.b 6)])]))) mNx)) (mSeq (mUnp (.tp [(.nm 8), (.nm 9), (.nm 10), (.nm 11)])
  (mDis fTup [(mOp fIdx [(.b 2), (.e (mC (D.int (1))))]), (mOp fIdx [(.b 2), (.e (mC (D.int (2))))]), (mOp fIdx [(.b 4), (.e (mC (D.int (1))))]), (mOp fIdx [(.b 4), (.e (mC (D.int (2))))])])) (mSeq (mAsg 12 (mOp fMul [(.e (mOp fMul [(.e (mOp fSub [(.e (mOp fAdd [(.e (mOp fMul [(.e (mOp fMul [(.b 8), (.b 8)])), (.b 11)])), (.e (mOp fMul [(.e (mOp fMul [(.b 10), (.b 10)])), (.b 9)]))])), (.e (mOp
  fMul [(.e (mOp fMul [(.e (mC (D.int (2)))), (.b 9)])), (.b 11)]))])), (.b 6)])), (.b 6)])) (mRt (mDis fLst [(mOp fMul [(.e (mOp fMul [(.e (mOp fMul [(.b 9), (.b 9)])), (.b 11)])), (.b 11)]), (mOp fMul [(.e (mOp fMul [(.e (mOp fMul [(.e (mOp fMul [(.e (mOp fNeg [(.b 8)])), (.b 9)])), (.b 10)])), (.b 11)])), (.b 6)]), (mV 12), (mOp fMul [(.e (mOp fMul [(.e (mOp fNeg [(.b 8)])), (.b 10)])), (.e
  (mCall (f_law_power N) [(mV 6), (mC (D.int (3)))]))]), (mCall (f_law_power N) [(mV 6), (mC (D.int (4)))])])))))))))
def f_law_across (N : Nat) : MF := mFn 2 11 (b_law_across N)
/- _law_all_pairs: 0=items 1=told 2=i 3=knot 4=under 5=other -/
def b_law_all_pairs (N : Nat) : MS :=
  (mSeq (mAsg 1 (mDis fLst [(mC (D.int (1)))])) (mSeq (mFor (evI [(.e (mOp fLen [(.b 0)]))] fR1) (.nm 2) (fgt [2, 3, 4, 5] (mSeq (mUnp (.tp [(.nm 3), (.nm 4)]) (mOp fIdx [(.b 0), (.b 2)])) (mSeq (mIfS (mT (mOp fEq [(.e (mOp fIdx [(.b 3), (.e (mC (D.int (0))))])), (.e (mC (D.int (2))))])) (mAsg 1 (mCall (f_law_mul N) [(mV 1), (mDis fLst [(mOp fNeg [(.e (mOp fIdx [(.b 3), (.e (mC (D.int (2))))]))]),
  (mOp fMul [(.b 4), (.b 4)])])])) mNx) (mFor (evI [(.e (mSl (.b 0) none (some (mV 2))))] fItL) (.nm 5) (fgt [5] (mAsg 1 (mCall (f_law_mul N) [(mV 1), (mCall (f_law_across N) [(mOp fIdx [(.b 0), (.b 2)]), (mV 5)])])))))))) (mRt (mV 1))))
def f_law_all_pairs (N : Nat) : MF := mFn 1 5 (b_law_all_pairs N)
/- _law_is_int: 0=value -/
def b_law_is_int (N : Nat) : MS :=
  (mRt (mAnd (mOp (fIsi (g_int)) [(.b 0)]) (mNot (mOp (fIsi (g_bool)) [(.b 0)]))))
def f_law_is_int (N : Nat) : MF := mFn 1 0 (b_law_is_int N)
/- _law_pair: 0=value -/
def b_law_pair (N : Nat) : MS :=
  (mSeq (mIfS (mT (mCall (f_law_is_int N) [(mV 0)])) (mRt (mDis fTup [(mV 0), (mC (D.int (1)))])) mNx) (mSeq (mIfS (orT (notT (mT (mOp (fIsi (g_Ratio)) [(.b 0)]))) (orT (notT (mT (mCall (f_law_is_int N) [(mOp (fFld [0] "top") [(.b 0)])]))) (notT (mT (mCall (f_law_is_int N) [(mOp (fFld [0] "bottom") [(.b 0)])]))))) (mRt (mC (D.non))) mNx) (mSeq (mIfS (orT (mT (mOp fLt [(.e (mOp (fFld [0] "bottom")
  [(.b 0)])), (.e (mC (D.int (2))))])) (mT (mOp fNe [(.e (mCall (f_law_low N) [(mOp (fFld [0] "top") [(.b 0)]), (mOp (fFld [0] "bottom") [(.b 0)])])), (.e (mDis fTup [(mOp (fFld [0] "top") [(.b 0)]), (mOp (fFld [0] "bottom") [(.b 0)])]))]))) (mRt (mC (D.non))) mNx) (mRt (mDis fTup [(mOp (fFld [0] "top") [(.b 0)]), (mOp (fFld [0] "bottom") [(.b 0)])])))))
def f_law_pair (N : Nat) : MF := mFn 1 0 (b_law_pair N)
/- _law_same_poly: 0=told 1=coefs 2=under 3=value 4=due 5=got -/
def b_law_same_poly (N : Nat) : MS :=
  (mSeq (mIfS (orT (notT (mT (mOp (fIsi (g_tuple)) [(.b 0)]))) (mT (mOp fNe [(.e (mOp fLen [(.b 0)])), (.e (mOp fLen [(.b 1)]))]))) (mRt (mC (D.bl false))) mNx) (mSeq (mFor (evI [(.b 0), (.b 1)] fZipM) (.tp [(.nm 3), (.nm 4)]) (fgt [3, 4, 5] (mSeq (mAsg 5 (mCall (f_law_pair N) [(mV 3)])) (mIfS (orT (mT (mOp fIsN [(.b 5), (.e (mC (D.non)))])) (mT (mOp fNe [(.e (mOp fMul [(.e (mOp fIdx [(.b 5), (.e
  (mC (D.int (0))))])), (.b 2)])), (.e (mOp fMul [(.b 4), (.e (mOp fIdx [(.b 5), (.e (mC (D.int (1))))]))]))]))) (mRt (mC (D.bl false))) mNx)))) (mRt (mC (D.bl true)))))
def f_law_same_poly (N : Nat) : MF := mFn 3 3 (b_law_same_poly N)
/- _law_monic: 0=told 1=coefs -/
def b_law_monic (N : Nat) : MS :=
  (mRt (mCall (f_law_same_poly N) [(mV 0), (mV 1), (mOp fIdx [(.b 1), (.e (mOp fNeg [(.e (mC (D.int (1))))]))])]))
def f_law_monic (N : Nat) : MF := mFn 2 0 (b_law_monic N)
/- bounded: 0=p 1=most -/
def b_bounded (N : Nat) : MS :=
  (mIfS (mT (mOp fGt [(.e (mOp fLen [(.b 0)])), (.e (mOp fAdd [(.b 1), (.e (mC (D.int (1))))]))])) (mRaise 2 "what" "most" [(mC (D.str "polynomial")), (mV 1)]) mNx)
def f_bounded (N : Nat) : MF := mFn 2 0 (b_bounded N)
/- number_over: 0=top 1=bottom -/
def b_number_over (N : Nat) : MS :=
  (mSeq (mIfS (mT (mOp fEq [(.e (mOp fMod [(.b 0), (.b 1)])), (.e (mC (D.int (0))))])) (mRt (mOp fDiv [(.b 0), (.b 1)])) mNx) (mRt (mMake (f_Ratio_init N) 0 [(mV 0), (mV 1)] [])))
def f_number_over (N : Nat) : MF := mFn 2 0 (b_number_over N)
/- numbers_over: 0=values 1=bottom 2=value -/
def b_numbers_over (N : Nat) : MS :=
  (mRt (mOp fTuple [(.e (mLc [2] (evI [(.b 0)] fItL) (.nm 2) mYes (mCall (f_number_over N) [(mV 2), (mV 1)])))]))
def f_numbers_over (N : Nat) : MF := mFn 2 1 (b_numbers_over N)
/- monic: 0=values -/
def b_monic (N : Nat) : MS :=
  (mRt (mCall (f_numbers_over N) [(mV 0), (mOp fIdx [(.b 0), (.e (mOp fNeg [(.e (mC (D.int (1))))]))])]))
def f_monic (N : Nat) : MF := mFn 1 0 (b_monic N)
/- power_sums: 0=a 1=count 2=modulus 3=size 4=sums 5=k 6=total 7=back -/
def b_power_sums (N : Nat) : MS :=
  (mSeq (mAsg 3 (mOp fSub [(.e (mOp fLen [(.b 0)])), (.e (mC (D.int (1))))])) (mSeq (mAsg 4 (mDis fLst [(mV 3)])) (mSeq (mFor (evI [(.e (mC (D.int (1)))), (.e (mOp fAdd [(.b 1), (.e (mC (D.int (1))))]))] fR2) (.nm 5) (fgt [5, 6, 7] (mSeq (mAsg 6 (mIf (mT (mOp fLe [(.b 5), (.b 3)])) (mOp fMul [(.b 5), (.e (mOp fIdx [(.b 0), (.e (mOp fSub [(.b 3), (.b 5)]))]))]) (mC (D.int (0))))) (mSeq (mFor (evI
  [(.e (mC (D.int (1)))), (.e (mOp fMin [(.e (mOp fLen [(.b 0)])), (.b 5)]))] fR2) (.nm 7) (fgt [7] (mAug fAddI 6 (mOp fMul [(.e (mOp fIdx [(.b 0), (.e (mOp fSub [(.b 3), (.b 7)]))])), (.e (mOp fIdx [(.b 4), (.e (mOp fSub [(.b 5), (.b 7)]))]))])))) (mApp 4 (mIf (mT (mV 2)) (mOp fMod [(.e (mOp fNeg [(.b 6)])), (.b 2)]) (mOp fNeg [(.b 6)]))))))) (mRt (mV 4)))))
def f_power_sums (N : Nat) : MF := mFn 3 5 (b_power_sums N)
/- lifted: 0=a 1=values 2=factor 3=at -/
def b_lifted (N : Nat) : MS :=
  (mSeq (mAsg 1 (mOp fList [(.b 0)])) (mSeq (mSet 1 (mOp fNeg [(.e (mC (D.int (1))))]) (mC (D.int (1)))) (mSeq (mAsg 2 (mC (D.int (1)))) (mSeq (fgt [2] (mFor (evI [(.e (mOp fSub [(.e (mOp fLen [(.b 0)])), (.e (mC (D.int (2))))])), (.e (mOp fNeg [(.e (mC (D.int (1))))])), (.e (mOp fNeg [(.e (mC (D.int (1))))]))] fRd) (.nm 3) (fgt [3] (mSeq (mSet 1 (mV 3) (mOp fMul [(.e (mOp fIdx [(.b 0), (.b 3)])),
  (.b 2)])) (mAsg 2 (mOp fMul [(.b 2), (.e (mOp fIdx [(.b 0), (.e (mOp fNeg [(.e (mC (D.int (1))))]))]))])))))) (mRt (mV 1))))))
def f_lifted (N : Nat) : MF := mFn 1 3 (b_lifted N)
/- primitive: 0=values 1=divisor 2=value -/
def b_primitive (N : Nat) : MS :=
  (mSeq (mAsg 1 (mC (D.int (0)))) (mSeq (mFor (evI [(.b 0)] fItL) (.nm 2) (mAsg 1 (mOp fGcd [(.b 1), (.b 2)]))) (mSeq (mIfS (mT (mOp fLt [(.e (mOp fIdx [(.b 0), (.e (mOp fNeg [(.e (mC (D.int (1))))]))])), (.e (mC (D.int (0))))])) (mAsg 1 (mOp fNeg [(.b 1)])) mNx) (mRt (mLc [2] (evI [(.b 0)] fItL) (.nm 2) mYes (mOp fDiv [(.b 2), (.b 1)]))))))
def f_primitive (N : Nat) : MF := mFn 1 2 (b_primitive N)
/- lowered: 0=a 1=scale 2=values 3=factor 4=value -/
def b_lowered (N : Nat) : MS :=
  (mSeq (mAsg 2 (mDis fLst [])) (mSeq (mAsg 3 (mC (D.int (1)))) (mSeq (fgt [3] (mFor (evI [(.b 0)] fItL) (.nm 4) (fgt [4] (mSeq (mApp 2 (mOp fMul [(.b 4), (.b 3)])) (mAsg 3 (mOp fMul [(.b 3), (.b 1)])))))) (mRt (mCall (f_primitive N) [(mV 2)])))))
def f_lowered (N : Nat) : MF := mFn 2 3 (b_lowered N)
/- inverse: 0=value 1=modulus 2=low 3=high 4=factor 5=other 6=count -/
def b_inverse (N : Nat) : MS :=
  (mSeq (mPar 2 3 (mOp fMod [(.b 0), (.b 1)]) (mV 1)) (mSeq mDead (mSeq (fgt [2, 3, 5] (mWh N (mT (mOp fNe [(.b 2), (.e (mC (D.int (1))))])) (fgt [6] (mSeq (mAsg 6 (mOp fDiv [(.b 3), (.b 2)])) (mSeq (mPar 2 3 (mOp fSub [(.b 3), (.e (mOp fMul [(.b 6), (.b 2)]))]) (mV 2)) (mPar 4 5 (mOp fSub [(.b 5), (.e (mOp fMul [(.b 6), (.b 4)]))]) (mV 4))))))) (mRt (mOp fMod [(.b 4), (.b 1)])))))
def f_inverse (N : Nat) : MF := mFn 2 5 (b_inverse N)
/- from_power_sums: 0=sums 1=modulus 2=size 3=values 4=k 5=total 6=back -/
def b_from_power_sums (N : Nat) : MS :=
  (mSeq (mAsg 2 (mOp fSub [(.e (mOp fLen [(.b 0)])), (.e (mC (D.int (1))))])) (mSeq (mAsg 3 (mOp fAdd [(.e (mOp fMul [(.e (mDis fLst [(mC (D.int (0)))])), (.b 2)])), (.e (mDis fLst [(mC (D.int (1)))]))])) (mSeq (mFor (evI [(.e (mC (D.int (1)))), (.e (mOp fAdd [(.b 2), (.e (mC (D.int (1))))]))] fR2) (.nm 4) (fgt [4, 5, 6] (mSeq (mAsg 5 (mOp fIdx [(.b 0), (.b 4)])) (mSeq (mFor (evI [(.e (mC (D.int
  (1)))), (.b 4)] fR2) (.nm 6) (fgt [6] (mAug fAddI 5 (mOp fMul [(.e (mOp fIdx [(.b 3), (.e (mOp fSub [(.b 2), (.b 6)]))])), (.e (mOp fIdx [(.b 0), (.e (mOp fSub [(.b 4), (.b 6)]))]))])))) (mIfS (mT (mV 1)) (mSet 3 (mOp fSub [(.b 2), (.b 4)]) (mOp fMod [(.e (mOp fMul [(.e (mOp fNeg [(.b 5)])), (.e (mCall (f_inverse N) [(mV 4), (mV 1)]))])), (.b 1)])) (mSet 3 (mOp fSub [(.b 2), (.b 4)]) (mOp fDiv
  [(.e (mOp fNeg [(.b 5)])), (.b 4)]))))))) (mRt (mV 3)))))
def f_from_power_sums (N : Nat) : MF := mFn 2 5 (b_from_power_sums N)
/- raised: 0=base 1=exponent 2=result 3=_ -/
def b_raised (N : Nat) : MS :=
  (mSeq (mAsg 2 (mC (D.int (1)))) (mSeq (mFor (evI [(.b 1)] fR1) (.nm 3) (fgt [3] (mAsg 2 (mOp fMul [(.b 2), (.b 0)])))) (mRt (mV 2))))
def f_raised (N : Nat) : MF := mFn 2 2 (b_raised N)
/- powers_of: 0=a 1=exponent 2=size 3=sums 4=chosen 5=k -/
def b_powers_of (N : Nat) : MS :=
  (mSeq (mAsg 2 (mOp fSub [(.e (mOp fLen [(.b 0)])), (.e (mC (D.int (1))))])) (mSeq (mIfS (mT (mOp fEq [(.b 2), (.e (mC (D.int (0))))])) (mRt (mDis fLst [(mC (D.int (1)))])) mNx) (mSeq (mAsg 3 (mCallD (f_power_sums N) [(mCall (f_lifted N) [(mV 0)]), (mOp fMul [(.b 2), (.b 1)])] [D.int (0)])) (mSeq (mAsg 4 (mLc [5] (evI [(.e (mOp fAdd [(.b 2), (.e (mC (D.int (1))))]))] fR1) (.nm 5) mYes (mOp fIdx
  [(.b 3), (.e (mOp fMul [(.b 1), (.b 5)]))]))) (mRt (mCall (f_lowered N) [(mCallD (f_from_power_sums N) [(mV 4)] [D.int (0)]), (mCall (f_raised N) [(mOp fIdx [(.b 0), (.e (mOp fNeg [(.e (mC (D.int (1))))]))]), (mV 1)])]))))))
def f_powers_of (N : Nat) : MF := mFn 2 4 (b_powers_of N)
/- fraction: 0=number -/
def b_fraction (N : Nat) : MS :=
  (mSeq (mIfS (mT (mOp (fIsi (g_int)) [(.b 0)])) (mRt (mDis fTup [(mV 0), (mC (D.int (1)))])) mNx) (mRt (mDis fTup [(mOp (fFld [0] "top") [(.b 0)]), (mOp (fFld [0] "bottom") [(.b 0)])])))
def f_fraction (N : Nat) : MF := mFn 1 0 (b_fraction N)
/- integers: 0=numbers 1=parts 2=bottom 3=_ 4=below 5=number 6=top -/
def b_integers (N : Nat) : MS :=
  (mSeq (mAsg 1 (mLc [5] (evI [(.b 0)] fItT) (.nm 5) mYes (mCall (f_fraction N) [(mV 5)]))) (mSeq (mAsg 2 (mC (D.int (1)))) (mSeq (mFor (evI [(.b 1)] fItL) (.tp [(.nm 3), (.nm 4)]) (fgt [3] (mAsg 2 (mOp fLcm [(.b 2), (.b 4)])))) (mRt (mDis fTup [(mLc [6, 4] (evI [(.b 1)] fItL) (.tp [(.nm 6), (.nm 4)]) mYes (mOp fMul [(.b 6), (.e (mOp fDiv [(.b 2), (.b 4)]))])), (mV 2)])))))
def f_integers (N : Nat) : MF := mFn 1 6 (b_integers N)
/- powers: 0=p 1=l -/
def b_powers (N : Nat) : MS :=
  (mSeq (mEx (mCall (f_bounded N) [(mV 0), (mC (D.int (12)))])) (mSeq (mIfS (mT (mOp fGt [(.b 1), (.e (mC (D.int (40))))])) (mRaise 2 "what" "most" [(mC (D.str "powers")), (mC (D.int (40)))]) mNx) (mRt (mCall (f_monic N) [(mCall (f_powers_of N) [(mOp fIdx [(.e (mCall (f_integers N) [(mV 0)])), (.e (mC (D.int (0))))]), (mV 1)])]))))
def f_powers (N : Nat) : MF := mFn 2 0 (b_powers N)
/- _law_trace: 0=mid 1=end 2=many 3=old 4=new 5=i -/
def b_law_trace (N : Nat) : MS :=
  (mSeq (mPar 3 4 (mC (D.int (2))) (mV 0)) (mSeq (fgt [4] (mFor (evI [(.b 2)] fR1) (.nm 5) (fgt [5] (mPar 3 4 (mV 4) (mOp fSub [(.e (mOp fMul [(.b 0), (.b 4)])), (.e (mOp fMul [(.b 1), (.b 3)]))]))))) (mRt (mV 3))))
def f_law_trace (N : Nat) : MF := mFn 3 3 (b_law_trace N)
/- _law_all_squares: 0=items 1=told 2=knot 3=under 4=scale -/
def b_law_all_squares (N : Nat) : MS :=
  (mSeq (mAsg 1 (mDis fLst [(mC (D.int (1)))])) (mSeq (mFor (evI [(.b 0)] fItL) (.tp [(.nm 2), (.nm 3)]) (fgt [2, 3, 4] (fgt [4] (mIfS (mT (mOp fEq [(.e (mOp fIdx [(.b 2), (.e (mC (D.int (0))))])), (.e (mC (D.int (1))))])) (mAsg 1 (mCall (f_law_mul N) [(mV 1), (mDis fLst [(mOp fMul [(.e (mOp fNeg [(.e (mOp fIdx [(.b 2), (.e (mC (D.int (1))))]))])), (.e (mOp fIdx [(.b 2), (.e (mC (D.int (1))))]))]),
  (mOp fMul [(.b 3), (.b 3)])])])) (mSeq (mAsg 4 (mOp fMul [(.b 3), (.b 3)])) (mAsg 1 (mCall (f_law_mul N) [(mV 1), (mDis fLst [(mOp fMul [(.e (mOp fIdx [(.b 2), (.e (mC (D.int (2))))])), (.e (mOp fIdx [(.b 2), (.e (mC (D.int (2))))]))]), (mOp fMul [(.e (mOp fNeg [(.e (mCall (f_law_trace N) [(mOp fIdx [(.b 2), (.e (mC (D.int (1))))]), (mOp fIdx [(.b 2), (.e (mC (D.int (2))))]), (mC (D.int
  (2)))]))])), (.b 4)]), (mOp fMul [(.b 4), (.b 4)])])]))))))) (mRt (mV 1))))
def f_law_all_squares (N : Nat) : MF := mFn 1 4 (b_law_all_squares N)
/- pairs_of: 0=a 1=size 2=many 3=sums 4=chosen 5=k -/
def b_pairs_of (N : Nat) : MS :=
  (mSeq (mAsg 1 (mOp fSub [(.e (mOp fLen [(.b 0)])), (.e (mC (D.int (1))))])) (mSeq (mAsg 2 (mOp fDiv [(.e (mOp fMul [(.b 1), (.e (mOp fSub [(.b 1), (.e (mC (D.int (1))))]))])), (.e (mC (D.int (2))))])) (mSeq (mIfS (mT (mOp fEq [(.b 2), (.e (mC (D.int (0))))])) (mRt (mDis fLst [(mC (D.int (1)))])) mNx) (mSeq (mAsg 3 (mCallD (f_power_sums N) [(mCall (f_lifted N) [(mV 0)]), (mOp fMul [(.e (mC (D.int
  (2)))), (.b 2)])] [D.int (0)])) (mSeq (mAsg 4 (mOp fAdd [(.e (mDis fLst [(mV 2)])), (.e (mLc [5] (evI [(.e (mC (D.int (1)))), (.e (mOp fAdd [(.b 2), (.e (mC (D.int (1))))]))] fR2) (.nm 5) mYes (mOp fDiv [(.e (mOp fSub [(.e (mOp fMul [(.e (mOp fIdx [(.b 3), (.b 5)])), (.e (mOp fIdx [(.b 3), (.b 5)]))])), (.e (mOp fIdx [(.b 3), (.e (mOp fMul [(.e (mC (D.int (2)))), (.b 5)]))]))])), (.e (mC (D.int
  (2))))])))])) (mRt (mCall (f_lowered N) [(mCallD (f_from_power_sums N) [(mV 4)] [D.int (0)]), (mOp fMul [(.e (mOp fIdx [(.b 0), (.e (mOp fNeg [(.e (mC (D.int (1))))]))])), (.e (mOp fIdx [(.b 0), (.e (mOp fNeg [(.e (mC (D.int (1))))]))]))])])))))))
def f_pairs_of (N : Nat) : MF := mFn 1 5 (b_pairs_of N)
/- pairs: 0=p -/
def b_pairs (N : Nat) : MS :=
  (mSeq (mEx (mCall (f_bounded N) [(mV 0), (mC (D.int (12)))])) (mRt (mCall (f_monic N) [(mCall (f_pairs_of N) [(mOp fIdx [(.e (mCall (f_integers N) [(mV 0)])), (.e (mC (D.int (0))))])])])))
def f_pairs (N : Nat) : MF := mFn 1 0 (b_pairs N)
/- _law_product: 0=knots 1=under 2=told 3=knot 4=often 5=i -/
def b_law_product (N : Nat) : MS :=
  (mSeq (mAsg 2 (mDis fLst [(mC (D.int (1)))])) (mSeq (mFor (evI [(.b 0)] fItL) (.tp [(.nm 3), (.nm 4)]) (fgt [3, 4, 5] (mFor (evI [(.b 4)] fR1) (.nm 5) (fgt [5] (mAsg 2 (mCall (f_law_mul N) [(mV 2), (mCall (f_law_knot_poly N) [(mV 3), (mV 1)])])))))) (mRt (mV 2))))
def f_law_product (N : Nat) : MF := mFn 2 4 (b_law_product N)
/- _law_is_too: 0=got 1=word 2=bound -/
def b_law_is_too (N : Nat) : MS :=
  (mSeq (mIfS (orT (notT (mT (mOp (fIsi (g_tuple)) [(.b 0)]))) (orT (mT (mOp fNe [(.e (mOp fLen [(.b 0)])), (.e (mC (D.int (2))))])) (orT (notT (mT (mOp (fIsi (g_str)) [(.e (mOp fIdx [(.b 0), (.e (mC (D.int (0))))]))]))) (notT (mT (mCall (f_law_is_int N) [(mOp fIdx [(.b 0), (.e (mC (D.int (1))))])])))))) (mRt (mC (D.bl false))) mNx) (mRt (mAnd (mOp fEq [(.e (mOp fIdx [(.b 0), (.e (mC (D.int
  (0))))])), (.b 1)]) (mOp fEq [(.e (mOp fIdx [(.b 0), (.e (mC (D.int (1))))])), (.b 2)]))))
def f_law_is_too (N : Nat) : MF := mFn 3 0 (b_law_is_too N)
/- _law_refused: 0=poly 1=e -/
def b_law_refused (N : Nat) : MS :=
  (mSeq (mTry2 1 2 "what" "most" (mEx (mCall (f_pairs N) [(mV 0)]))) (mRt (mC (D.non))))
def f_law_refused (N : Nat) : MF := mFn 1 1 (b_law_refused N)
/- _law_at_bounds: 0=bag 1=base 2=let -/
def b_law_at_bounds (N : Nat) : MS :=
  (mSeq (mAsg 1 (mCallB (f_law_of N) 0 [(mDis fLst [(mC (D.int (1))), (mOp fNeg [(.e (mC (D.int (1))))]), (mC (D.int (2)))])])) (mSeq (mAsg 2 (mCall (f_law_product N) [(mDis fLst [(mDis fTup [(mDis fTup [(mC (D.int (1))), (mV 1), (mC (D.int (0)))]), (mC (D.int (12)))])]), (mC (D.int (1)))])) (mSeq (mIfS (notT (mT (mCall (f_law_is_too N) [(mCall (f_law_refused N) [(mOp fTuple [(.e (mOp fAdd [(.e
  (mDis fLst [(mC (D.int (0)))])), (.b 2)]))])]), (mC (D.str "polynomial")), (mC (D.int (12)))]))) (mRt (mC (D.bl false))) mNx) (mRt (mCall (f_law_monic N) [(mCall (f_pairs N) [(mOp fTuple [(.b 2)])]), (mCall (f_law_product N) [(mDis fLst [(mDis fTup [(mDis fTup [(mC (D.int (1))), (mOp fMul [(.b 1), (.b 1)]), (mC (D.int (0)))]), (mC (D.int (66)))])]), (mC (D.int (1)))])])))))
def f_law_at_bounds (N : Nat) : MF := mFn 1 2 (b_law_at_bounds N)
/- law: 0=script 1=bag 2=pool 3=counts 4=coefs 5=under 6=handed 7=items 8=due 9=one 10=two 11=small -/
def b_law (N : Nat) : MS :=
  (mSeq (mAsg 1 (mCall (f_law_bag N) [(mV 0)])) (mSeq (mAsg 2 (mCallB (f_law_pool N) 1 [(mC (D.int (4)))])) (mSeq (mAsg 3 (mCallB (f_law_counts N) 1 [(mV 2), (mCallB (f_law_of N) 1 [(mDis fLst [(mC (D.int (5))), (mC (D.int (3))), (mC (D.int (6))), (mC (D.int (4))), (mC (D.int (2))), (mC (D.int (4))), (mC (D.int (5))), (mC (D.int (6))), (mC (D.int (3))), (mC (D.int (9)))])])])) (mSeq (mUnp (.tp [(.nm
  4), (.nm 5)]) (mCall (f_law_scaled N) [(mCall (f_law_joined N) [(mV 2), (mV 3)]), (mCallB (f_law_scale N) 1 [])])) (mSeq (mPar 6 7 (mCallB (f_law_poly N) 1 [(mV 4), (mV 5)]) (mCall (f_law_items N) [(mV 2), (mV 3)])) (mSeq (mAsg 8 (mCall (f_law_all_pairs N) [(mV 7)])) (mSeq (mIfS (orT (notT (mT (mCall (f_law_monic N) [(mCall (f_pairs N) [(mV 6)]), (mV 8)]))) (notT (mT (mCall (f_law_monic N)
  [(mCall (f_powers N) [(mV 6), (mC (D.int (2)))]), (mCall (f_law_all_squares N) [(mV 7)])])))) (mRt (mC (D.bl false))) mNx) (mSeq (mPar 9 10 (mOp fIdx [(.b 2), (.e (mC (D.int (0))))]) (mOp fIdx [(.b 2), (.e (mOp fNeg [(.e (mC (D.int (1))))]))])) (mSeq (mIfS (orT (notT (mT (mCall (f_law_monic N) [(mCall (f_pairs N) [(mDis fTup [(mCallB (f_law_number N) 1 [(mC (D.int (5))), (mC (D.int (2)))])])]),
  (mDis fLst [(mC (D.int (1)))])]))) (notT (mT (mCall (f_law_monic N) [(mCall (f_pairs N) [(mDis fTup [(mCallB (f_law_number N) 1 [(mOp fNeg [(.e (mC (D.int (7))))]), (mC (D.int (3)))]), (mC (D.int (2)))])]), (mDis fLst [(mC (D.int (1)))])])))) (mRt (mC (D.bl false))) mNx) (mSeq (mAsg 11 (mCall (f_law_mul N) [(mCall (f_law_knot_poly N) [(mOp fIdx [(.b 9), (.e (mC (D.int (0))))]), (mOp fIdx [(.b
  9), (.e (mC (D.int (1))))])]), (mCall (f_law_knot_poly N) [(mOp fIdx [(.b 10), (.e (mC (D.int (0))))]), (mOp fIdx [(.b 10), (.e (mC (D.int (1))))])])])) (mSeq (mIfS (notT (mT (mCall (f_law_monic N) [(mCallD (f_pairs N) [(mCallB (f_law_poly N) 1 [(mV 11), (mC (D.int (1)))])] []), (mCall (f_law_all_pairs N) [(mDis fLst [(mV 9), (mV 10)])])]))) (mRt (mC (D.bl false))) mNx) (mSeq (mIfS (andT (mT
  (mOp fEq [(.e (mCallB (f_law_draw N) 1 [(mC (D.int (12)))])), (.e (mC (D.int (1))))])) (notT (mT (mCallB (f_law_at_bounds N) 1 [])))) (mRt (mC (D.bl false))) mNx) (mRt (mCall (f_law_monic N) [(mCallD (f_pairs N) [(mV 6)] []), (mV 8)]))))))))))))))
def f_law (N : Nat) : MF := mFn 1 11 (b_law N)
end K22

set_option maxHeartbeats 4000000
/-! The derivations of eachlength_k22_products_of_roots, printed by gen.py. -/
namespace K22
open PySem PySem.Spec PyProof.Rows L2 Ml
abbrev prog : Program := PySem.Challenge.pw_eachlength_k22_products_of_roots
def top (i : Nat) : Stmt := prog.main.body.getD i (.Pass ⟨0, 0, 0, 0⟩)
abbrev s_law_bag : Stmt := top 32
def d_law_bag : He.DefD := ⟨("_law_bag", none), "_law_bag", "_law_bag", defArgs s_law_bag, defBody s_law_bag, defScope s_law_bag, [], []⟩
theorem sc_law_bag : FnScope ["script", "stir", "grain"] ["script"] (defScope s_law_bag) := ⟨rfl, rfl, rfl, by decide +kernel, rfl, by decide +kernel, by decide +kernel⟩
abbrev s_law_draw : Stmt := top 33
def d_law_draw : He.DefD := ⟨("_law_draw", none), "_law_draw", "_law_draw", defArgs s_law_draw, defBody s_law_draw, defScope s_law_draw, [], []⟩
theorem sc_law_draw : FnScope ["bag", "limit", "grain", "digit", "stir"] ["bag", "limit"] (defScope s_law_draw) := ⟨rfl, rfl, rfl, by decide +kernel, rfl, by decide +kernel, by decide +kernel⟩
abbrev s_law_of : Stmt := top 34
def d_law_of : He.DefD := ⟨("_law_of", none), "_law_of", "_law_of", defArgs s_law_of, defBody s_law_of, defScope s_law_of, [], []⟩
theorem sc_law_of : FnScope ["bag", "things"] ["bag", "things"] (defScope s_law_of) := ⟨rfl, rfl, rfl, by decide +kernel, rfl, by decide +kernel, by decide +kernel⟩
abbrev s_law_knot : Stmt := top 49
def d_law_knot : He.DefD := ⟨("_law_knot", none), "_law_knot", "_law_knot", defArgs s_law_knot, defBody s_law_knot, defScope s_law_knot, [], []⟩
theorem sc_law_knot : FnScope ["bag", "way", "real", "high", "mid"] ["bag"] (defScope s_law_knot) := ⟨rfl, rfl, rfl, by decide +kernel, rfl, by decide +kernel, by decide +kernel⟩
abbrev s_law_factor : Stmt := top 51
def d_law_factor : He.DefD := ⟨("_law_factor", none), "_law_factor", "_law_factor", defArgs s_law_factor, defBody s_law_factor, defScope s_law_factor, [], []⟩
theorem sc_law_factor : FnScope ["bag", "knot"] ["bag"] (defScope s_law_factor) := ⟨rfl, rfl, rfl, by decide +kernel, rfl, by decide +kernel, by decide +kernel⟩
abbrev s_law_gcd : Stmt := top 36
def d_law_gcd : He.DefD := ⟨("_law_gcd", none), "_law_gcd", "_law_gcd", defArgs s_law_gcd, defBody s_law_gcd, defScope s_law_gcd, [], []⟩
theorem sc_law_gcd : FnScope ["one", "two", "big", "less"] ["one", "two"] (defScope s_law_gcd) := ⟨rfl, rfl, rfl, by decide +kernel, rfl, by decide +kernel, by decide +kernel⟩
abbrev s_law_low : Stmt := top 37
def d_law_low : He.DefD := ⟨("_law_low", none), "_law_low", "_law_low", defArgs s_law_low, defBody s_law_low, defScope s_law_low, [], []⟩
theorem sc_law_low : FnScope ["one", "two", "share_of"] ["one", "two"] (defScope s_law_low) := ⟨rfl, rfl, rfl, by decide +kernel, rfl, by decide +kernel, by decide +kernel⟩
abbrev s_law_key : Stmt := top 52
def d_law_key : He.DefD := ⟨("_law_key", none), "_law_key", "_law_key", defArgs s_law_key, defBody s_law_key, defScope s_law_key, [], []⟩
theorem sc_law_key : FnScope ["one", "knot", "under"] ["one"] (defScope s_law_key) := ⟨rfl, rfl, rfl, by decide +kernel, rfl, by decide +kernel, by decide +kernel⟩
abbrev s_law_pool : Stmt := top 53
def d_law_pool : He.DefD := ⟨("_law_pool", none), "_law_pool", "_law_pool", defArgs s_law_pool, defBody s_law_pool, defScope s_law_pool, [], []⟩
theorem sc_law_pool : FnScope ["bag", "many", "told", "i", "one", "two"] ["bag", "many"] (defScope s_law_pool) := ⟨rfl, rfl, rfl, by decide +kernel, rfl, by decide +kernel, by decide +kernel⟩
abbrev s_law_lesser : Stmt := top 40
def d_law_lesser : He.DefD := ⟨("_law_lesser", none), "_law_lesser", "_law_lesser", defArgs s_law_lesser, defBody s_law_lesser, defScope s_law_lesser, [], []⟩
theorem sc_law_lesser : FnScope ["one", "two"] ["one", "two"] (defScope s_law_lesser) := ⟨rfl, rfl, rfl, by decide +kernel, rfl, by decide +kernel, by decide +kernel⟩
abbrev s_law_counts : Stmt := top 54
def d_law_counts : He.DefD := ⟨("_law_counts", none), "_law_counts", "_law_counts", defArgs s_law_counts, defBody s_law_counts, defScope s_law_counts, [], []⟩
theorem sc_law_counts : FnScope ["bag", "pool", "cap", "told", "left", "knot", "under", "many"] ["bag", "pool", "cap"] (defScope s_law_counts) := ⟨rfl, rfl, rfl, by decide +kernel, rfl, by decide +kernel, by decide +kernel⟩
abbrev s_law_scaled : Stmt := top 57
def d_law_scaled : He.DefD := ⟨("_law_scaled", none), "_law_scaled", "_law_scaled", defArgs s_law_scaled, defBody s_law_scaled, defScope s_law_scaled, [], []⟩
theorem sc_law_scaled : FnScope ["coefs", "scale", "value"] ["coefs", "scale"] (defScope s_law_scaled) := ⟨rfl, rfl, rfl, by decide +kernel, rfl, by decide +kernel, by decide +kernel⟩
abbrev s_law_mul : Stmt := top 43
def d_law_mul : He.DefD := ⟨("_law_mul", none), "_law_mul", "_law_mul", defArgs s_law_mul, defBody s_law_mul, defScope s_law_mul, [], []⟩
theorem sc_law_mul : FnScope ["one", "two", "told", "i", "j"] ["one", "two"] (defScope s_law_mul) := ⟨rfl, rfl, rfl, by decide +kernel, rfl, by decide +kernel, by decide +kernel⟩
abbrev s_law_knot_poly : Stmt := top 44
def d_law_knot_poly : He.DefD := ⟨("_law_knot_poly", none), "_law_knot_poly", "_law_knot_poly", defArgs s_law_knot_poly, defBody s_law_knot_poly, defScope s_law_knot_poly, [], []⟩
theorem sc_law_knot_poly : FnScope ["knot", "under"] ["knot", "under"] (defScope s_law_knot_poly) := ⟨rfl, rfl, rfl, by decide +kernel, rfl, by decide +kernel, by decide +kernel⟩
abbrev s_law_joined : Stmt := top 55
def d_law_joined : He.DefD := ⟨("_law_joined", none), "_law_joined", "_law_joined", defArgs s_law_joined, defBody s_law_joined, defScope s_law_joined, [], []⟩
theorem sc_law_joined : FnScope ["pool", "counts", "told", "knot", "under", "many", "i"] ["pool", "counts"] (defScope s_law_joined) := ⟨rfl, rfl, rfl, by decide +kernel, rfl, by decide +kernel, by decide +kernel⟩
abbrev s_law_scale : Stmt := top 56
def d_law_scale : He.DefD := ⟨("_law_scale", none), "_law_scale", "_law_scale", defArgs s_law_scale, defBody s_law_scale, defScope s_law_scale, [], []⟩
theorem sc_law_scale : FnScope ["bag"] ["bag"] (defScope s_law_scale) := ⟨rfl, rfl, rfl, by decide +kernel, rfl, by decide +kernel, by decide +kernel⟩
abbrev s_is_integer : Stmt := top 6
def d_is_integer : He.DefD := ⟨("is_integer", none), "is_integer", "is_integer", defArgs s_is_integer, defBody s_is_integer, defScope s_is_integer, [], []⟩
theorem sc_is_integer : FnScope ["value"] ["value"] (defScope s_is_integer) := ⟨rfl, rfl, rfl, by decide +kernel, rfl, by decide +kernel, by decide +kernel⟩
abbrev s_Ratio_init : Stmt := inClass (top 9) 0
def d_Ratio_init : He.DefD := ⟨("Ratio", some "__init__"), "__init__", "Ratio.__init__", defArgs s_Ratio_init, defBody s_Ratio_init, defScope s_Ratio_init, [.int (1)], []⟩
theorem sc_Ratio_init : FnScope ["self", "top", "bottom", "shared"] ["self", "top", "bottom"] (defScope s_Ratio_init) := ⟨rfl, rfl, rfl, by decide +kernel, rfl, by decide +kernel, by decide +kernel⟩
abbrev s_law_number : Stmt := top 39
def d_law_number : He.DefD := ⟨("_law_number", none), "_law_number", "_law_number", defArgs s_law_number, defBody s_law_number, defScope s_law_number, [], []⟩
theorem sc_law_number : FnScope ["bag", "one", "two"] ["bag", "one", "two"] (defScope s_law_number) := ⟨rfl, rfl, rfl, by decide +kernel, rfl, by decide +kernel, by decide +kernel⟩
abbrev s_law_poly : Stmt := top 48
def d_law_poly : He.DefD := ⟨("_law_poly", none), "_law_poly", "_law_poly", defArgs s_law_poly, defBody s_law_poly, defScope s_law_poly, [], []⟩
theorem sc_law_poly : FnScope ["bag", "coefs", "under", "due"] ["bag", "coefs", "under"] (defScope s_law_poly) := ⟨rfl, rfl, rfl, by decide +kernel, rfl, by decide +kernel, by decide +kernel⟩
abbrev s_law_items : Stmt := top 58
def d_law_items : He.DefD := ⟨("_law_items", none), "_law_items", "_law_items", defArgs s_law_items, defBody s_law_items, defScope s_law_items, [], []⟩
theorem sc_law_items : FnScope ["pool", "counts", "told", "one", "many", "i"] ["pool", "counts"] (defScope s_law_items) := ⟨rfl, rfl, rfl, by decide +kernel, rfl, by decide +kernel, by decide +kernel⟩
abbrev s_law_power : Stmt := top 41
def d_law_power : He.DefD := ⟨("_law_power", none), "_law_power", "_law_power", defArgs s_law_power, defBody s_law_power, defScope s_law_power, [], []⟩
theorem sc_law_power : FnScope ["base", "many", "told", "i"] ["base", "many"] (defScope s_law_power) := ⟨rfl, rfl, rfl, by decide +kernel, rfl, by decide +kernel, by decide +kernel⟩
abbrev s_law_across : Stmt := top 59
def d_law_across : He.DefD := ⟨("_law_across", none), "_law_across", "_law_across", defArgs s_law_across, defBody s_law_across, defScope s_law_across, [], []⟩
theorem sc_law_across : FnScope ["one", "two", "knot", "under", "other", "below", "scale", "root", "a", "b", "s", "t", "middle"] ["one", "two"] (defScope s_law_across) := ⟨rfl, rfl, rfl, by decide +kernel, rfl, by decide +kernel, by decide +kernel⟩
abbrev s_law_all_pairs : Stmt := top 60
def d_law_all_pairs : He.DefD := ⟨("_law_all_pairs", none), "_law_all_pairs", "_law_all_pairs", defArgs s_law_all_pairs, defBody s_law_all_pairs, defScope s_law_all_pairs, [], []⟩
theorem sc_law_all_pairs : FnScope ["items", "told", "i", "knot", "under", "other"] ["items"] (defScope s_law_all_pairs) := ⟨rfl, rfl, rfl, by decide +kernel, rfl, by decide +kernel, by decide +kernel⟩
abbrev s_law_is_int : Stmt := top 35
def d_law_is_int : He.DefD := ⟨("_law_is_int", none), "_law_is_int", "_law_is_int", defArgs s_law_is_int, defBody s_law_is_int, defScope s_law_is_int, [], []⟩
theorem sc_law_is_int : FnScope ["value"] ["value"] (defScope s_law_is_int) := ⟨rfl, rfl, rfl, by decide +kernel, rfl, by decide +kernel, by decide +kernel⟩
abbrev s_law_pair : Stmt := top 38
def d_law_pair : He.DefD := ⟨("_law_pair", none), "_law_pair", "_law_pair", defArgs s_law_pair, defBody s_law_pair, defScope s_law_pair, [], []⟩
theorem sc_law_pair : FnScope ["value"] ["value"] (defScope s_law_pair) := ⟨rfl, rfl, rfl, by decide +kernel, rfl, by decide +kernel, by decide +kernel⟩
abbrev s_law_same_poly : Stmt := top 46
def d_law_same_poly : He.DefD := ⟨("_law_same_poly", none), "_law_same_poly", "_law_same_poly", defArgs s_law_same_poly, defBody s_law_same_poly, defScope s_law_same_poly, [], []⟩
theorem sc_law_same_poly : FnScope ["told", "coefs", "under", "value", "due", "got"] ["told", "coefs", "under"] (defScope s_law_same_poly) := ⟨rfl, rfl, rfl, by decide +kernel, rfl, by decide +kernel, by decide +kernel⟩
abbrev s_law_monic : Stmt := top 47
def d_law_monic : He.DefD := ⟨("_law_monic", none), "_law_monic", "_law_monic", defArgs s_law_monic, defBody s_law_monic, defScope s_law_monic, [], []⟩
theorem sc_law_monic : FnScope ["told", "coefs"] ["told", "coefs"] (defScope s_law_monic) := ⟨rfl, rfl, rfl, by decide +kernel, rfl, by decide +kernel, by decide +kernel⟩
abbrev s_TooMany_init : Stmt := inClass (top 4) 0
def d_TooMany_init : He.DefD := ⟨("TooMany", some "__init__"), "__init__", "TooMany.__init__", defArgs s_TooMany_init, defBody s_TooMany_init, defScope s_TooMany_init, [], []⟩
theorem sc_TooMany_init : FnScope ["self", "what", "most"] ["self", "what", "most"] (defScope s_TooMany_init) := ⟨rfl, rfl, rfl, by decide +kernel, rfl, by decide +kernel, by decide +kernel⟩
abbrev s_bounded : Stmt := top 27
def d_bounded : He.DefD := ⟨("bounded", none), "bounded", "bounded", defArgs s_bounded, defBody s_bounded, defScope s_bounded, [.int (24)], []⟩
theorem sc_bounded : FnScope ["p", "most"] ["p", "most"] (defScope s_bounded) := ⟨rfl, rfl, rfl, by decide +kernel, rfl, by decide +kernel, by decide +kernel⟩
abbrev s_number_over : Stmt := top 12
def d_number_over : He.DefD := ⟨("number_over", none), "number_over", "number_over", defArgs s_number_over, defBody s_number_over, defScope s_number_over, [], []⟩
theorem sc_number_over : FnScope ["top", "bottom"] ["top", "bottom"] (defScope s_number_over) := ⟨rfl, rfl, rfl, by decide +kernel, rfl, by decide +kernel, by decide +kernel⟩
abbrev s_numbers_over : Stmt := top 14
def d_numbers_over : He.DefD := ⟨("numbers_over", none), "numbers_over", "numbers_over", defArgs s_numbers_over, defBody s_numbers_over, defScope s_numbers_over, [], []⟩
theorem sc_numbers_over : FnScope ["values", "bottom", "value"] ["values", "bottom"] (defScope s_numbers_over) := ⟨rfl, rfl, rfl, by decide +kernel, rfl, by decide +kernel, by decide +kernel⟩
abbrev s_monic : Stmt := top 28
def d_monic : He.DefD := ⟨("monic", none), "monic", "monic", defArgs s_monic, defBody s_monic, defScope s_monic, [], []⟩
theorem sc_monic : FnScope ["values"] ["values"] (defScope s_monic) := ⟨rfl, rfl, rfl, by decide +kernel, rfl, by decide +kernel, by decide +kernel⟩
abbrev s_power_sums : Stmt := top 19
def d_power_sums : He.DefD := ⟨("power_sums", none), "power_sums", "power_sums", defArgs s_power_sums, defBody s_power_sums, defScope s_power_sums, [.int (0)], []⟩
theorem sc_power_sums : FnScope ["a", "count", "modulus", "size", "sums", "k", "total", "back"] ["a", "count", "modulus"] (defScope s_power_sums) := ⟨rfl, rfl, rfl, by decide +kernel, rfl, by decide +kernel, by decide +kernel⟩
abbrev s_lifted : Stmt := top 21
def d_lifted : He.DefD := ⟨("lifted", none), "lifted", "lifted", defArgs s_lifted, defBody s_lifted, defScope s_lifted, [], []⟩
theorem sc_lifted : FnScope ["a", "values", "factor", "at"] ["a"] (defScope s_lifted) := ⟨rfl, rfl, rfl, by decide +kernel, rfl, by decide +kernel, by decide +kernel⟩
abbrev s_primitive : Stmt := top 15
def d_primitive : He.DefD := ⟨("primitive", none), "primitive", "primitive", defArgs s_primitive, defBody s_primitive, defScope s_primitive, [], []⟩
theorem sc_primitive : FnScope ["values", "divisor", "value"] ["values"] (defScope s_primitive) := ⟨rfl, rfl, rfl, by decide +kernel, rfl, by decide +kernel, by decide +kernel⟩
abbrev s_lowered : Stmt := top 22
def d_lowered : He.DefD := ⟨("lowered", none), "lowered", "lowered", defArgs s_lowered, defBody s_lowered, defScope s_lowered, [], []⟩
theorem sc_lowered : FnScope ["a", "scale", "values", "factor", "value"] ["a", "scale"] (defScope s_lowered) := ⟨rfl, rfl, rfl, by decide +kernel, rfl, by decide +kernel, by decide +kernel⟩
abbrev s_inverse : Stmt := top 17
def d_inverse : He.DefD := ⟨("inverse", none), "inverse", "inverse", defArgs s_inverse, defBody s_inverse, defScope s_inverse, [], []⟩
theorem sc_inverse : FnScope ["value", "modulus", "low", "high", "factor", "other", "count"] ["value", "modulus"] (defScope s_inverse) := ⟨rfl, rfl, rfl, by decide +kernel, rfl, by decide +kernel, by decide +kernel⟩
abbrev s_from_power_sums : Stmt := top 20
def d_from_power_sums : He.DefD := ⟨("from_power_sums", none), "from_power_sums", "from_power_sums", defArgs s_from_power_sums, defBody s_from_power_sums, defScope s_from_power_sums, [.int (0)], []⟩
theorem sc_from_power_sums : FnScope ["sums", "modulus", "size", "values", "k", "total", "back"] ["sums", "modulus"] (defScope s_from_power_sums) := ⟨rfl, rfl, rfl, by decide +kernel, rfl, by decide +kernel, by decide +kernel⟩
abbrev s_raised : Stmt := top 23
def d_raised : He.DefD := ⟨("raised", none), "raised", "raised", defArgs s_raised, defBody s_raised, defScope s_raised, [], []⟩
theorem sc_raised : FnScope ["base", "exponent", "result", "_"] ["base", "exponent"] (defScope s_raised) := ⟨rfl, rfl, rfl, by decide +kernel, rfl, by decide +kernel, by decide +kernel⟩
abbrev s_powers_of : Stmt := top 24
def d_powers_of : He.DefD := ⟨("powers_of", none), "powers_of", "powers_of", defArgs s_powers_of, defBody s_powers_of, defScope s_powers_of, [], []⟩
theorem sc_powers_of : FnScope ["a", "exponent", "size", "sums", "chosen", "k"] ["a", "exponent"] (defScope s_powers_of) := ⟨rfl, rfl, rfl, by decide +kernel, rfl, by decide +kernel, by decide +kernel⟩
abbrev s_fraction : Stmt := top 11
def d_fraction : He.DefD := ⟨("fraction", none), "fraction", "fraction", defArgs s_fraction, defBody s_fraction, defScope s_fraction, [], []⟩
theorem sc_fraction : FnScope ["number"] ["number"] (defScope s_fraction) := ⟨rfl, rfl, rfl, by decide +kernel, rfl, by decide +kernel, by decide +kernel⟩
abbrev s_integers : Stmt := top 13
def d_integers : He.DefD := ⟨("integers", none), "integers", "integers", defArgs s_integers, defBody s_integers, defScope s_integers, [], []⟩
theorem sc_integers : FnScope ["numbers", "parts", "bottom", "_", "below", "number", "top"] ["numbers"] (defScope s_integers) := ⟨rfl, rfl, rfl, by decide +kernel, rfl, by decide +kernel, by decide +kernel⟩
abbrev s_powers : Stmt := top 29
def d_powers : He.DefD := ⟨("powers", none), "powers", "powers", defArgs s_powers, defBody s_powers, defScope s_powers, [], []⟩
theorem sc_powers : FnScope ["p", "l"] ["p", "l"] (defScope s_powers) := ⟨rfl, rfl, rfl, by decide +kernel, rfl, by decide +kernel, by decide +kernel⟩
abbrev s_law_trace : Stmt := top 42
def d_law_trace : He.DefD := ⟨("_law_trace", none), "_law_trace", "_law_trace", defArgs s_law_trace, defBody s_law_trace, defScope s_law_trace, [], []⟩
theorem sc_law_trace : FnScope ["mid", "end", "many", "old", "new", "i"] ["mid", "end", "many"] (defScope s_law_trace) := ⟨rfl, rfl, rfl, by decide +kernel, rfl, by decide +kernel, by decide +kernel⟩
abbrev s_law_all_squares : Stmt := top 61
def d_law_all_squares : He.DefD := ⟨("_law_all_squares", none), "_law_all_squares", "_law_all_squares", defArgs s_law_all_squares, defBody s_law_all_squares, defScope s_law_all_squares, [], []⟩
theorem sc_law_all_squares : FnScope ["items", "told", "knot", "under", "scale"] ["items"] (defScope s_law_all_squares) := ⟨rfl, rfl, rfl, by decide +kernel, rfl, by decide +kernel, by decide +kernel⟩
abbrev s_pairs_of : Stmt := top 25
def d_pairs_of : He.DefD := ⟨("pairs_of", none), "pairs_of", "pairs_of", defArgs s_pairs_of, defBody s_pairs_of, defScope s_pairs_of, [], []⟩
theorem sc_pairs_of : FnScope ["a", "size", "many", "sums", "chosen", "k"] ["a"] (defScope s_pairs_of) := ⟨rfl, rfl, rfl, by decide +kernel, rfl, by decide +kernel, by decide +kernel⟩
abbrev s_pairs : Stmt := top 30
def d_pairs : He.DefD := ⟨("pairs", none), "pairs", "pairs", defArgs s_pairs, defBody s_pairs, defScope s_pairs, [], []⟩
theorem sc_pairs : FnScope ["p"] ["p"] (defScope s_pairs) := ⟨rfl, rfl, rfl, by decide +kernel, rfl, by decide +kernel, by decide +kernel⟩
abbrev s_law_product : Stmt := top 45
def d_law_product : He.DefD := ⟨("_law_product", none), "_law_product", "_law_product", defArgs s_law_product, defBody s_law_product, defScope s_law_product, [], []⟩
theorem sc_law_product : FnScope ["knots", "under", "told", "knot", "often", "i"] ["knots", "under"] (defScope s_law_product) := ⟨rfl, rfl, rfl, by decide +kernel, rfl, by decide +kernel, by decide +kernel⟩
abbrev s_law_is_too : Stmt := top 50
def d_law_is_too : He.DefD := ⟨("_law_is_too", none), "_law_is_too", "_law_is_too", defArgs s_law_is_too, defBody s_law_is_too, defScope s_law_is_too, [], []⟩
theorem sc_law_is_too : FnScope ["got", "word", "bound"] ["got", "word", "bound"] (defScope s_law_is_too) := ⟨rfl, rfl, rfl, by decide +kernel, rfl, by decide +kernel, by decide +kernel⟩
abbrev s_law_refused : Stmt := top 62
def d_law_refused : He.DefD := ⟨("_law_refused", none), "_law_refused", "_law_refused", defArgs s_law_refused, defBody s_law_refused, defScope s_law_refused, [], []⟩
theorem sc_law_refused : FnScope ["poly", "e"] ["poly"] (defScope s_law_refused) := ⟨rfl, rfl, rfl, by decide +kernel, rfl, by decide +kernel, by decide +kernel⟩
abbrev s_law_at_bounds : Stmt := top 63
def d_law_at_bounds : He.DefD := ⟨("_law_at_bounds", none), "_law_at_bounds", "_law_at_bounds", defArgs s_law_at_bounds, defBody s_law_at_bounds, defScope s_law_at_bounds, [], []⟩
theorem sc_law_at_bounds : FnScope ["bag", "base", "let"] ["bag"] (defScope s_law_at_bounds) := ⟨rfl, rfl, rfl, by decide +kernel, rfl, by decide +kernel, by decide +kernel⟩
abbrev s_law : Stmt := top 64
def d_law : He.DefD := ⟨("law", none), "law", "law", defArgs s_law, defBody s_law, defScope s_law, [], []⟩
theorem sc_law : FnScope ["script", "bag", "pool", "counts", "coefs", "under", "handed", "items", "due", "one", "two", "small"] ["script"] (defScope s_law) := ⟨rfl, rfl, rfl, by decide +kernel, rfl, by decide +kernel, by decide +kernel⟩
def ct (K : PySem.W.Frag) : Nat → Addr
  | 0 => He.ga K "Ratio"
  | 1 => He.ga K "BadNumber"
  | 2 => He.ga K "TooMany"
  | _ => 0
def fa0 : List He.Fa := [.glo "_law_bag", .glo "_law_draw", .glo "_law_of", .glo "_law_knot", .glo "_law_factor", .glo "_law_gcd", .glo "_law_low", .glo "_law_key", .glo "_law_pool", .glo "_law_lesser", .glo "_law_counts", .glo "_law_scaled", .glo "_law_mul", .glo "_law_knot_poly", .glo "_law_joined", .glo "_law_scale", .glo "is_integer", .glo "_law_number", .glo "_law_poly", .glo "_law_items", .glo "_law_power", .glo "_law_across", .glo "_law_all_pairs", .glo "_law_is_int", .glo "_law_pair", .glo "_law_same_poly", .glo "_law_monic", .glo "bounded", .glo "number_over", .glo "numbers_over", .glo "monic", .glo "power_sums", .glo "lifted", .glo "primitive", .glo "lowered"]
def fa1 : List He.Fa := [.glo "inverse", .glo "from_power_sums", .glo "raised", .glo "powers_of", .glo "fraction", .glo "integers", .glo "powers", .glo "_law_trace", .glo "_law_all_squares", .glo "pairs_of", .glo "pairs", .glo "_law_product", .glo "_law_is_too", .glo "_law_refused", .glo "_law_at_bounds", .glo "law", .glo "Ratio", .glo "BadNumber", .glo "TooMany", .free "abs", .free "bool", .free "int", .free "isinstance", .free "len", .free "list", .free "min", .free "range", .free "str", .free "tuple", .free "zip", .cls "Ratio", .mkr "Ratio", .noat "Ratio" "top", .noat "Ratio" "bottom"]
def fa : List He.Fa := fa0 ++ fa1
def fn0 : List He.DefD := [d_law_bag, d_law_draw, d_law_of, d_law_knot, d_law_factor, d_law_gcd, d_law_low, d_law_key, d_law_pool, d_law_lesser, d_law_counts, d_law_scaled, d_law_mul, d_law_knot_poly, d_law_joined, d_law_scale, d_is_integer, d_Ratio_init, d_law_number, d_law_poly, d_law_items, d_law_power, d_law_across, d_law_all_pairs, d_law_is_int, d_law_pair, d_law_same_poly, d_law_monic, d_TooMany_init, d_bounded, d_number_over, d_numbers_over, d_monic, d_power_sums, d_lifted]
def fn1 : List He.DefD := [d_primitive, d_lowered, d_inverse, d_from_power_sums, d_raised, d_powers_of, d_fraction, d_integers, d_powers, d_law_trace, d_law_all_squares, d_pairs_of, d_pairs, d_law_product, d_law_is_too, d_law_refused, d_law_at_bounds, d_law]
def fn : List He.DefD := fn0 ++ fn1
def ex (K : PySem.W.Frag) : Bool := bltB K "gcd" "math.gcd" && (bltB K "lcm" "math.lcm" && (clsIsB K (He.ga K "Ratio") && (isiB K (ct K) g_bool (.type "bool") (gKs 0) && (isiB K (ct K) g_int (.type "int") (gKs 0) && (isiB K (ct K) g_tuple (.type "tuple") (gKs 0) && (isiB K (ct K) g_Ratio (.ref (He.ga K "Ratio")) (gKs 0) && (isiB K (ct K) g_str (.type "str") (gKs 0) && (errB K (He.ga K "TooMany") (He.fAd K d_TooMany_init.at_) "what" "most" && (catB K (He.ga K "TooMany") "what" "most")))))))))
/-- all that the head tells -/
structure Zd (K : PySem.W.Frag) (mg : Str → Option Value) : Prop where
  h : ∃ h : Heap, K.In h ∧ h.Ns mainGlobals mg
  c : He.SaysD fa fn K
  e : ex K = true
variable {P : Program} {w : World} {K : PySem.W.Frag} {mg : Str → Option Value} {base : Heap}
theorem Zd.gl__law_bag (Z : Zd K mg) : mg "_law_bag" = some (.ref (He.ga K "_law_bag")) := by
  obtain ⟨h, X, G⟩ := Z.h
  exact He.glo_ok X G (Z.c.fact 0 (f := .glo "_law_bag") rfl)
theorem Zd.gl__law_draw (Z : Zd K mg) : mg "_law_draw" = some (.ref (He.ga K "_law_draw")) := by
  obtain ⟨h, X, G⟩ := Z.h
  exact He.glo_ok X G (Z.c.fact 1 (f := .glo "_law_draw") rfl)
theorem Zd.gl__law_of (Z : Zd K mg) : mg "_law_of" = some (.ref (He.ga K "_law_of")) := by
  obtain ⟨h, X, G⟩ := Z.h
  exact He.glo_ok X G (Z.c.fact 2 (f := .glo "_law_of") rfl)
theorem Zd.gl__law_knot (Z : Zd K mg) : mg "_law_knot" = some (.ref (He.ga K "_law_knot")) := by
  obtain ⟨h, X, G⟩ := Z.h
  exact He.glo_ok X G (Z.c.fact 3 (f := .glo "_law_knot") rfl)
theorem Zd.gl__law_factor (Z : Zd K mg) : mg "_law_factor" = some (.ref (He.ga K "_law_factor")) := by
  obtain ⟨h, X, G⟩ := Z.h
  exact He.glo_ok X G (Z.c.fact 4 (f := .glo "_law_factor") rfl)
theorem Zd.gl__law_gcd (Z : Zd K mg) : mg "_law_gcd" = some (.ref (He.ga K "_law_gcd")) := by
  obtain ⟨h, X, G⟩ := Z.h
  exact He.glo_ok X G (Z.c.fact 5 (f := .glo "_law_gcd") rfl)
theorem Zd.gl__law_low (Z : Zd K mg) : mg "_law_low" = some (.ref (He.ga K "_law_low")) := by
  obtain ⟨h, X, G⟩ := Z.h
  exact He.glo_ok X G (Z.c.fact 6 (f := .glo "_law_low") rfl)
theorem Zd.gl__law_key (Z : Zd K mg) : mg "_law_key" = some (.ref (He.ga K "_law_key")) := by
  obtain ⟨h, X, G⟩ := Z.h
  exact He.glo_ok X G (Z.c.fact 7 (f := .glo "_law_key") rfl)
theorem Zd.gl__law_pool (Z : Zd K mg) : mg "_law_pool" = some (.ref (He.ga K "_law_pool")) := by
  obtain ⟨h, X, G⟩ := Z.h
  exact He.glo_ok X G (Z.c.fact 8 (f := .glo "_law_pool") rfl)
theorem Zd.gl__law_lesser (Z : Zd K mg) : mg "_law_lesser" = some (.ref (He.ga K "_law_lesser")) := by
  obtain ⟨h, X, G⟩ := Z.h
  exact He.glo_ok X G (Z.c.fact 9 (f := .glo "_law_lesser") rfl)
theorem Zd.gl__law_counts (Z : Zd K mg) : mg "_law_counts" = some (.ref (He.ga K "_law_counts")) := by
  obtain ⟨h, X, G⟩ := Z.h
  exact He.glo_ok X G (Z.c.fact 10 (f := .glo "_law_counts") rfl)
theorem Zd.gl__law_scaled (Z : Zd K mg) : mg "_law_scaled" = some (.ref (He.ga K "_law_scaled")) := by
  obtain ⟨h, X, G⟩ := Z.h
  exact He.glo_ok X G (Z.c.fact 11 (f := .glo "_law_scaled") rfl)
theorem Zd.gl__law_mul (Z : Zd K mg) : mg "_law_mul" = some (.ref (He.ga K "_law_mul")) := by
  obtain ⟨h, X, G⟩ := Z.h
  exact He.glo_ok X G (Z.c.fact 12 (f := .glo "_law_mul") rfl)
theorem Zd.gl__law_knot_poly (Z : Zd K mg) : mg "_law_knot_poly" = some (.ref (He.ga K "_law_knot_poly")) := by
  obtain ⟨h, X, G⟩ := Z.h
  exact He.glo_ok X G (Z.c.fact 13 (f := .glo "_law_knot_poly") rfl)
theorem Zd.gl__law_joined (Z : Zd K mg) : mg "_law_joined" = some (.ref (He.ga K "_law_joined")) := by
  obtain ⟨h, X, G⟩ := Z.h
  exact He.glo_ok X G (Z.c.fact 14 (f := .glo "_law_joined") rfl)
theorem Zd.gl__law_scale (Z : Zd K mg) : mg "_law_scale" = some (.ref (He.ga K "_law_scale")) := by
  obtain ⟨h, X, G⟩ := Z.h
  exact He.glo_ok X G (Z.c.fact 15 (f := .glo "_law_scale") rfl)
theorem Zd.gl_is_integer (Z : Zd K mg) : mg "is_integer" = some (.ref (He.ga K "is_integer")) := by
  obtain ⟨h, X, G⟩ := Z.h
  exact He.glo_ok X G (Z.c.fact 16 (f := .glo "is_integer") rfl)
theorem Zd.gl__law_number (Z : Zd K mg) : mg "_law_number" = some (.ref (He.ga K "_law_number")) := by
  obtain ⟨h, X, G⟩ := Z.h
  exact He.glo_ok X G (Z.c.fact 17 (f := .glo "_law_number") rfl)
theorem Zd.gl__law_poly (Z : Zd K mg) : mg "_law_poly" = some (.ref (He.ga K "_law_poly")) := by
  obtain ⟨h, X, G⟩ := Z.h
  exact He.glo_ok X G (Z.c.fact 18 (f := .glo "_law_poly") rfl)
theorem Zd.gl__law_items (Z : Zd K mg) : mg "_law_items" = some (.ref (He.ga K "_law_items")) := by
  obtain ⟨h, X, G⟩ := Z.h
  exact He.glo_ok X G (Z.c.fact 19 (f := .glo "_law_items") rfl)
theorem Zd.gl__law_power (Z : Zd K mg) : mg "_law_power" = some (.ref (He.ga K "_law_power")) := by
  obtain ⟨h, X, G⟩ := Z.h
  exact He.glo_ok X G (Z.c.fact 20 (f := .glo "_law_power") rfl)
theorem Zd.gl__law_across (Z : Zd K mg) : mg "_law_across" = some (.ref (He.ga K "_law_across")) := by
  obtain ⟨h, X, G⟩ := Z.h
  exact He.glo_ok X G (Z.c.fact 21 (f := .glo "_law_across") rfl)
theorem Zd.gl__law_all_pairs (Z : Zd K mg) : mg "_law_all_pairs" = some (.ref (He.ga K "_law_all_pairs")) := by
  obtain ⟨h, X, G⟩ := Z.h
  exact He.glo_ok X G (Z.c.fact 22 (f := .glo "_law_all_pairs") rfl)
theorem Zd.gl__law_is_int (Z : Zd K mg) : mg "_law_is_int" = some (.ref (He.ga K "_law_is_int")) := by
  obtain ⟨h, X, G⟩ := Z.h
  exact He.glo_ok X G (Z.c.fact 23 (f := .glo "_law_is_int") rfl)
theorem Zd.gl__law_pair (Z : Zd K mg) : mg "_law_pair" = some (.ref (He.ga K "_law_pair")) := by
  obtain ⟨h, X, G⟩ := Z.h
  exact He.glo_ok X G (Z.c.fact 24 (f := .glo "_law_pair") rfl)
theorem Zd.gl__law_same_poly (Z : Zd K mg) : mg "_law_same_poly" = some (.ref (He.ga K "_law_same_poly")) := by
  obtain ⟨h, X, G⟩ := Z.h
  exact He.glo_ok X G (Z.c.fact 25 (f := .glo "_law_same_poly") rfl)
theorem Zd.gl__law_monic (Z : Zd K mg) : mg "_law_monic" = some (.ref (He.ga K "_law_monic")) := by
  obtain ⟨h, X, G⟩ := Z.h
  exact He.glo_ok X G (Z.c.fact 26 (f := .glo "_law_monic") rfl)
theorem Zd.gl_bounded (Z : Zd K mg) : mg "bounded" = some (.ref (He.ga K "bounded")) := by
  obtain ⟨h, X, G⟩ := Z.h
  exact He.glo_ok X G (Z.c.fact 27 (f := .glo "bounded") rfl)
theorem Zd.gl_number_over (Z : Zd K mg) : mg "number_over" = some (.ref (He.ga K "number_over")) := by
  obtain ⟨h, X, G⟩ := Z.h
  exact He.glo_ok X G (Z.c.fact 28 (f := .glo "number_over") rfl)
theorem Zd.gl_numbers_over (Z : Zd K mg) : mg "numbers_over" = some (.ref (He.ga K "numbers_over")) := by
  obtain ⟨h, X, G⟩ := Z.h
  exact He.glo_ok X G (Z.c.fact 29 (f := .glo "numbers_over") rfl)
theorem Zd.gl_monic (Z : Zd K mg) : mg "monic" = some (.ref (He.ga K "monic")) := by
  obtain ⟨h, X, G⟩ := Z.h
  exact He.glo_ok X G (Z.c.fact 30 (f := .glo "monic") rfl)
theorem Zd.gl_power_sums (Z : Zd K mg) : mg "power_sums" = some (.ref (He.ga K "power_sums")) := by
  obtain ⟨h, X, G⟩ := Z.h
  exact He.glo_ok X G (Z.c.fact 31 (f := .glo "power_sums") rfl)
theorem Zd.gl_lifted (Z : Zd K mg) : mg "lifted" = some (.ref (He.ga K "lifted")) := by
  obtain ⟨h, X, G⟩ := Z.h
  exact He.glo_ok X G (Z.c.fact 32 (f := .glo "lifted") rfl)
theorem Zd.gl_primitive (Z : Zd K mg) : mg "primitive" = some (.ref (He.ga K "primitive")) := by
  obtain ⟨h, X, G⟩ := Z.h
  exact He.glo_ok X G (Z.c.fact 33 (f := .glo "primitive") rfl)
theorem Zd.gl_lowered (Z : Zd K mg) : mg "lowered" = some (.ref (He.ga K "lowered")) := by
  obtain ⟨h, X, G⟩ := Z.h
  exact He.glo_ok X G (Z.c.fact 34 (f := .glo "lowered") rfl)
theorem Zd.gl_inverse (Z : Zd K mg) : mg "inverse" = some (.ref (He.ga K "inverse")) := by
  obtain ⟨h, X, G⟩ := Z.h
  exact He.glo_ok X G (Z.c.fact 35 (f := .glo "inverse") rfl)
theorem Zd.gl_from_power_sums (Z : Zd K mg) : mg "from_power_sums" = some (.ref (He.ga K "from_power_sums")) := by
  obtain ⟨h, X, G⟩ := Z.h
  exact He.glo_ok X G (Z.c.fact 36 (f := .glo "from_power_sums") rfl)
theorem Zd.gl_raised (Z : Zd K mg) : mg "raised" = some (.ref (He.ga K "raised")) := by
  obtain ⟨h, X, G⟩ := Z.h
  exact He.glo_ok X G (Z.c.fact 37 (f := .glo "raised") rfl)
theorem Zd.gl_powers_of (Z : Zd K mg) : mg "powers_of" = some (.ref (He.ga K "powers_of")) := by
  obtain ⟨h, X, G⟩ := Z.h
  exact He.glo_ok X G (Z.c.fact 38 (f := .glo "powers_of") rfl)
theorem Zd.gl_fraction (Z : Zd K mg) : mg "fraction" = some (.ref (He.ga K "fraction")) := by
  obtain ⟨h, X, G⟩ := Z.h
  exact He.glo_ok X G (Z.c.fact 39 (f := .glo "fraction") rfl)
theorem Zd.gl_integers (Z : Zd K mg) : mg "integers" = some (.ref (He.ga K "integers")) := by
  obtain ⟨h, X, G⟩ := Z.h
  exact He.glo_ok X G (Z.c.fact 40 (f := .glo "integers") rfl)
theorem Zd.gl_powers (Z : Zd K mg) : mg "powers" = some (.ref (He.ga K "powers")) := by
  obtain ⟨h, X, G⟩ := Z.h
  exact He.glo_ok X G (Z.c.fact 41 (f := .glo "powers") rfl)
theorem Zd.gl__law_trace (Z : Zd K mg) : mg "_law_trace" = some (.ref (He.ga K "_law_trace")) := by
  obtain ⟨h, X, G⟩ := Z.h
  exact He.glo_ok X G (Z.c.fact 42 (f := .glo "_law_trace") rfl)
theorem Zd.gl__law_all_squares (Z : Zd K mg) : mg "_law_all_squares" = some (.ref (He.ga K "_law_all_squares")) := by
  obtain ⟨h, X, G⟩ := Z.h
  exact He.glo_ok X G (Z.c.fact 43 (f := .glo "_law_all_squares") rfl)
theorem Zd.gl_pairs_of (Z : Zd K mg) : mg "pairs_of" = some (.ref (He.ga K "pairs_of")) := by
  obtain ⟨h, X, G⟩ := Z.h
  exact He.glo_ok X G (Z.c.fact 44 (f := .glo "pairs_of") rfl)
theorem Zd.gl_pairs (Z : Zd K mg) : mg "pairs" = some (.ref (He.ga K "pairs")) := by
  obtain ⟨h, X, G⟩ := Z.h
  exact He.glo_ok X G (Z.c.fact 45 (f := .glo "pairs") rfl)
theorem Zd.gl__law_product (Z : Zd K mg) : mg "_law_product" = some (.ref (He.ga K "_law_product")) := by
  obtain ⟨h, X, G⟩ := Z.h
  exact He.glo_ok X G (Z.c.fact 46 (f := .glo "_law_product") rfl)
theorem Zd.gl__law_is_too (Z : Zd K mg) : mg "_law_is_too" = some (.ref (He.ga K "_law_is_too")) := by
  obtain ⟨h, X, G⟩ := Z.h
  exact He.glo_ok X G (Z.c.fact 47 (f := .glo "_law_is_too") rfl)
theorem Zd.gl__law_refused (Z : Zd K mg) : mg "_law_refused" = some (.ref (He.ga K "_law_refused")) := by
  obtain ⟨h, X, G⟩ := Z.h
  exact He.glo_ok X G (Z.c.fact 48 (f := .glo "_law_refused") rfl)
theorem Zd.gl__law_at_bounds (Z : Zd K mg) : mg "_law_at_bounds" = some (.ref (He.ga K "_law_at_bounds")) := by
  obtain ⟨h, X, G⟩ := Z.h
  exact He.glo_ok X G (Z.c.fact 49 (f := .glo "_law_at_bounds") rfl)
theorem Zd.gl_law (Z : Zd K mg) : mg "law" = some (.ref (He.ga K "law")) := by
  obtain ⟨h, X, G⟩ := Z.h
  exact He.glo_ok X G (Z.c.fact 50 (f := .glo "law") rfl)
theorem Zd.gl_Ratio (Z : Zd K mg) : mg "Ratio" = some (.ref (He.ga K "Ratio")) := by
  obtain ⟨h, X, G⟩ := Z.h
  exact He.glo_ok X G (Z.c.fact 51 (f := .glo "Ratio") rfl)
theorem Zd.gl_BadNumber (Z : Zd K mg) : mg "BadNumber" = some (.ref (He.ga K "BadNumber")) := by
  obtain ⟨h, X, G⟩ := Z.h
  exact He.glo_ok X G (Z.c.fact 52 (f := .glo "BadNumber") rfl)
theorem Zd.gl_TooMany (Z : Zd K mg) : mg "TooMany" = some (.ref (He.ga K "TooMany")) := by
  obtain ⟨h, X, G⟩ := Z.h
  exact He.glo_ok X G (Z.c.fact 53 (f := .glo "TooMany") rfl)
theorem Zd.fr_abs (Z : Zd K mg) : mg "abs" = none := by
  obtain ⟨h, X, G⟩ := Z.h
  exact He.free_ok X G (Z.c.fact 54 (f := .free "abs") rfl)
theorem Zd.fr_bool (Z : Zd K mg) : mg "bool" = none := by
  obtain ⟨h, X, G⟩ := Z.h
  exact He.free_ok X G (Z.c.fact 55 (f := .free "bool") rfl)
theorem Zd.fr_int (Z : Zd K mg) : mg "int" = none := by
  obtain ⟨h, X, G⟩ := Z.h
  exact He.free_ok X G (Z.c.fact 56 (f := .free "int") rfl)
theorem Zd.fr_isinstance (Z : Zd K mg) : mg "isinstance" = none := by
  obtain ⟨h, X, G⟩ := Z.h
  exact He.free_ok X G (Z.c.fact 57 (f := .free "isinstance") rfl)
theorem Zd.fr_len (Z : Zd K mg) : mg "len" = none := by
  obtain ⟨h, X, G⟩ := Z.h
  exact He.free_ok X G (Z.c.fact 58 (f := .free "len") rfl)
theorem Zd.fr_list (Z : Zd K mg) : mg "list" = none := by
  obtain ⟨h, X, G⟩ := Z.h
  exact He.free_ok X G (Z.c.fact 59 (f := .free "list") rfl)
theorem Zd.fr_min (Z : Zd K mg) : mg "min" = none := by
  obtain ⟨h, X, G⟩ := Z.h
  exact He.free_ok X G (Z.c.fact 60 (f := .free "min") rfl)
theorem Zd.fr_range (Z : Zd K mg) : mg "range" = none := by
  obtain ⟨h, X, G⟩ := Z.h
  exact He.free_ok X G (Z.c.fact 61 (f := .free "range") rfl)
theorem Zd.fr_str (Z : Zd K mg) : mg "str" = none := by
  obtain ⟨h, X, G⟩ := Z.h
  exact He.free_ok X G (Z.c.fact 62 (f := .free "str") rfl)
theorem Zd.fr_tuple (Z : Zd K mg) : mg "tuple" = none := by
  obtain ⟨h, X, G⟩ := Z.h
  exact He.free_ok X G (Z.c.fact 63 (f := .free "tuple") rfl)
theorem Zd.fr_zip (Z : Zd K mg) : mg "zip" = none := by
  obtain ⟨h, X, G⟩ := Z.h
  exact He.free_ok X G (Z.c.fact 64 (f := .free "zip") rfl)
theorem Zd.mk_Ratio (Z : Zd K mg) : Mk K (ct K 0) (He.fAd K ("Ratio", some "__init__")) := He.mkr_ok (Z.c.fact 66 (f := .mkr "Ratio") rfl)
theorem Zd.fld_top (Z : Zd K mg) : ∀ c ∈ [0], FldOk K (ct K) "top" c := fun c h => by
  have e : c = 0 := by simpa using h
  subst e
  exact ⟨He.cls_ok (Z.c.fact 65 (f := .cls "Ratio") rfl), He.noat_ok (Z.c.fact 67 (f := .noat "Ratio" "top") rfl)⟩
theorem Zd.fld_bottom (Z : Zd K mg) : ∀ c ∈ [0], FldOk K (ct K) "bottom" c := fun c h => by
  have e : c = 0 := by simpa using h
  subst e
  exact ⟨He.cls_ok (Z.c.fact 65 (f := .cls "Ratio") rfl), He.noat_ok (Z.c.fact 68 (f := .noat "Ratio" "bottom") rfl)⟩
theorem Zd.im_gcd (Z : Zd K mg) : mg "gcd" = some (.builtin "math.gcd") := by
  obtain ⟨h, X, G⟩ := Z.h
  exact bltB_ok X G (He.ba Z.e).1
theorem Zd.im_lcm (Z : Zd K mg) : mg "lcm" = some (.builtin "math.lcm") := by
  obtain ⟨h, X, G⟩ := Z.h
  exact bltB_ok X G (He.ba (He.ba Z.e).2).1
theorem Zd.cli_Ratio (Z : Zd K mg) : ClsIs K (ct K 0) := clsIsB_ok (He.cls_ok (Z.c.fact 65 (f := .cls "Ratio") rfl)) (He.ba (He.ba (He.ba Z.e).2).2).1
theorem Zd.isi_bool (Z : Zd K mg) : IsiOk K (ct K) g_bool (.type "bool") := isiB_ok (gKs 0) (He.ba (He.ba (He.ba (He.ba Z.e).2).2).2).1 gK_mem fun c b h => by
  have e := gK_ins c b h
  subst e
  exact Z.cli_Ratio
theorem Zd.isi_int (Z : Zd K mg) : IsiOk K (ct K) g_int (.type "int") := isiB_ok (gKs 0) (He.ba (He.ba (He.ba (He.ba (He.ba Z.e).2).2).2).2).1 gK_mem fun c b h => by
  have e := gK_ins c b h
  subst e
  exact Z.cli_Ratio
theorem Zd.isi_tuple (Z : Zd K mg) : IsiOk K (ct K) g_tuple (.type "tuple") := isiB_ok (gKs 0) (He.ba (He.ba (He.ba (He.ba (He.ba (He.ba Z.e).2).2).2).2).2).1 gK_mem fun c b h => by
  have e := gK_ins c b h
  subst e
  exact Z.cli_Ratio
theorem Zd.isi_Ratio (Z : Zd K mg) : IsiOk K (ct K) g_Ratio (.ref (He.ga K "Ratio")) := isiB_ok (gKs 0) (He.ba (He.ba (He.ba (He.ba (He.ba (He.ba (He.ba Z.e).2).2).2).2).2).2).1 gK_mem fun c b h => by
  have e := gK_ins c b h
  subst e
  exact Z.cli_Ratio
theorem Zd.isi_str (Z : Zd K mg) : IsiOk K (ct K) g_str (.type "str") := isiB_ok (gKs 0) (He.ba (He.ba (He.ba (He.ba (He.ba (He.ba (He.ba (He.ba Z.e).2).2).2).2).2).2).2).1 gK_mem fun c b h => by
  have e := gK_ins c b h
  subst e
  exact Z.cli_Ratio
theorem Zd.er_TooMany (Z : Zd K mg) : ErrOk K (ct K 2) (He.fAd K d_TooMany_init.at_) "what" "most" := errB_ok (He.ba (He.ba (He.ba (He.ba (He.ba (He.ba (He.ba (He.ba (He.ba Z.e).2).2).2).2).2).2).2).2).1
theorem Zd.ca_TooMany (Z : Zd K mg) : CatOk K (ct K 2) "what" "most" := catB_ok (He.ba (He.ba (He.ba (He.ba (He.ba (He.ba (He.ba (He.ba (He.ba Z.e).2).2).2).2).2).2).2).2).2
theorem Zd.F_law_bag (Z : Zd K mg) : FnF K d_law_bag := says_fn Z.c 0 rfl
theorem Zd.kp_law_bag (Z : Zd K mg) : PySem.W.keepIn K (.ref (He.fAd K d_law_bag.at_)) = true := Z.F_law_bag.kp
theorem bi_law_bag (Z : Zd K mg) : Binds K (fdOf K d_law_bag.at_) ["script"] [] := (Z.F_law_bag : FunD K d_law_bag.name d_law_bag.qual d_law_bag.params d_law_bag.body d_law_bag.scope [] [] _ _).bindsN fun _ _ _ _ _ _ us hl => match us, hl with | [_], _ => rfl
theorem Zd.F_law_draw (Z : Zd K mg) : FnF K d_law_draw := says_fn Z.c 1 rfl
theorem Zd.kp_law_draw (Z : Zd K mg) : PySem.W.keepIn K (.ref (He.fAd K d_law_draw.at_)) = true := Z.F_law_draw.kp
theorem bi_law_draw (Z : Zd K mg) : Binds K (fdOf K d_law_draw.at_) ["bag", "limit"] [] := (Z.F_law_draw : FunD K d_law_draw.name d_law_draw.qual d_law_draw.params d_law_draw.body d_law_draw.scope [] [] _ _).bindsN fun _ _ _ _ _ _ us hl => match us, hl with | [_, _], _ => rfl
theorem Zd.F_law_of (Z : Zd K mg) : FnF K d_law_of := says_fn Z.c 2 rfl
theorem Zd.kp_law_of (Z : Zd K mg) : PySem.W.keepIn K (.ref (He.fAd K d_law_of.at_)) = true := Z.F_law_of.kp
theorem bi_law_of (Z : Zd K mg) : Binds K (fdOf K d_law_of.at_) ["bag", "things"] [] := (Z.F_law_of : FunD K d_law_of.name d_law_of.qual d_law_of.params d_law_of.body d_law_of.scope [] [] _ _).bindsN fun _ _ _ _ _ _ us hl => match us, hl with | [_, _], _ => rfl
theorem Zd.F_law_knot (Z : Zd K mg) : FnF K d_law_knot := says_fn Z.c 3 rfl
theorem Zd.kp_law_knot (Z : Zd K mg) : PySem.W.keepIn K (.ref (He.fAd K d_law_knot.at_)) = true := Z.F_law_knot.kp
theorem bi_law_knot (Z : Zd K mg) : Binds K (fdOf K d_law_knot.at_) ["bag"] [] := (Z.F_law_knot : FunD K d_law_knot.name d_law_knot.qual d_law_knot.params d_law_knot.body d_law_knot.scope [] [] _ _).bindsN fun _ _ _ _ _ _ us hl => match us, hl with | [_], _ => rfl
theorem Zd.F_law_factor (Z : Zd K mg) : FnF K d_law_factor := says_fn Z.c 4 rfl
theorem Zd.kp_law_factor (Z : Zd K mg) : PySem.W.keepIn K (.ref (He.fAd K d_law_factor.at_)) = true := Z.F_law_factor.kp
theorem bi_law_factor (Z : Zd K mg) : Binds K (fdOf K d_law_factor.at_) ["bag"] [] := (Z.F_law_factor : FunD K d_law_factor.name d_law_factor.qual d_law_factor.params d_law_factor.body d_law_factor.scope [] [] _ _).bindsN fun _ _ _ _ _ _ us hl => match us, hl with | [_], _ => rfl
theorem Zd.F_law_gcd (Z : Zd K mg) : FnF K d_law_gcd := says_fn Z.c 5 rfl
theorem Zd.kp_law_gcd (Z : Zd K mg) : PySem.W.keepIn K (.ref (He.fAd K d_law_gcd.at_)) = true := Z.F_law_gcd.kp
theorem bi_law_gcd (Z : Zd K mg) : Binds K (fdOf K d_law_gcd.at_) ["one", "two"] [] := (Z.F_law_gcd : FunD K d_law_gcd.name d_law_gcd.qual d_law_gcd.params d_law_gcd.body d_law_gcd.scope [] [] _ _).bindsN fun _ _ _ _ _ _ us hl => match us, hl with | [_, _], _ => rfl
theorem Zd.F_law_low (Z : Zd K mg) : FnF K d_law_low := says_fn Z.c 6 rfl
theorem Zd.kp_law_low (Z : Zd K mg) : PySem.W.keepIn K (.ref (He.fAd K d_law_low.at_)) = true := Z.F_law_low.kp
theorem bi_law_low (Z : Zd K mg) : Binds K (fdOf K d_law_low.at_) ["one", "two"] [] := (Z.F_law_low : FunD K d_law_low.name d_law_low.qual d_law_low.params d_law_low.body d_law_low.scope [] [] _ _).bindsN fun _ _ _ _ _ _ us hl => match us, hl with | [_, _], _ => rfl
theorem Zd.F_law_key (Z : Zd K mg) : FnF K d_law_key := says_fn Z.c 7 rfl
theorem Zd.kp_law_key (Z : Zd K mg) : PySem.W.keepIn K (.ref (He.fAd K d_law_key.at_)) = true := Z.F_law_key.kp
theorem bi_law_key (Z : Zd K mg) : Binds K (fdOf K d_law_key.at_) ["one"] [] := (Z.F_law_key : FunD K d_law_key.name d_law_key.qual d_law_key.params d_law_key.body d_law_key.scope [] [] _ _).bindsN fun _ _ _ _ _ _ us hl => match us, hl with | [_], _ => rfl
theorem Zd.F_law_pool (Z : Zd K mg) : FnF K d_law_pool := says_fn Z.c 8 rfl
theorem Zd.kp_law_pool (Z : Zd K mg) : PySem.W.keepIn K (.ref (He.fAd K d_law_pool.at_)) = true := Z.F_law_pool.kp
theorem bi_law_pool (Z : Zd K mg) : Binds K (fdOf K d_law_pool.at_) ["bag", "many"] [] := (Z.F_law_pool : FunD K d_law_pool.name d_law_pool.qual d_law_pool.params d_law_pool.body d_law_pool.scope [] [] _ _).bindsN fun _ _ _ _ _ _ us hl => match us, hl with | [_, _], _ => rfl
theorem Zd.F_law_lesser (Z : Zd K mg) : FnF K d_law_lesser := says_fn Z.c 9 rfl
theorem Zd.kp_law_lesser (Z : Zd K mg) : PySem.W.keepIn K (.ref (He.fAd K d_law_lesser.at_)) = true := Z.F_law_lesser.kp
theorem bi_law_lesser (Z : Zd K mg) : Binds K (fdOf K d_law_lesser.at_) ["one", "two"] [] := (Z.F_law_lesser : FunD K d_law_lesser.name d_law_lesser.qual d_law_lesser.params d_law_lesser.body d_law_lesser.scope [] [] _ _).bindsN fun _ _ _ _ _ _ us hl => match us, hl with | [_, _], _ => rfl
theorem Zd.F_law_counts (Z : Zd K mg) : FnF K d_law_counts := says_fn Z.c 10 rfl
theorem Zd.kp_law_counts (Z : Zd K mg) : PySem.W.keepIn K (.ref (He.fAd K d_law_counts.at_)) = true := Z.F_law_counts.kp
theorem bi_law_counts (Z : Zd K mg) : Binds K (fdOf K d_law_counts.at_) ["bag", "pool", "cap"] [] := (Z.F_law_counts : FunD K d_law_counts.name d_law_counts.qual d_law_counts.params d_law_counts.body d_law_counts.scope [] [] _ _).bindsN fun _ _ _ _ _ _ us hl => match us, hl with | [_, _, _], _ => rfl
theorem Zd.F_law_scaled (Z : Zd K mg) : FnF K d_law_scaled := says_fn Z.c 11 rfl
theorem Zd.kp_law_scaled (Z : Zd K mg) : PySem.W.keepIn K (.ref (He.fAd K d_law_scaled.at_)) = true := Z.F_law_scaled.kp
theorem bi_law_scaled (Z : Zd K mg) : Binds K (fdOf K d_law_scaled.at_) ["coefs", "scale"] [] := (Z.F_law_scaled : FunD K d_law_scaled.name d_law_scaled.qual d_law_scaled.params d_law_scaled.body d_law_scaled.scope [] [] _ _).bindsN fun _ _ _ _ _ _ us hl => match us, hl with | [_, _], _ => rfl
theorem Zd.F_law_mul (Z : Zd K mg) : FnF K d_law_mul := says_fn Z.c 12 rfl
theorem Zd.kp_law_mul (Z : Zd K mg) : PySem.W.keepIn K (.ref (He.fAd K d_law_mul.at_)) = true := Z.F_law_mul.kp
theorem bi_law_mul (Z : Zd K mg) : Binds K (fdOf K d_law_mul.at_) ["one", "two"] [] := (Z.F_law_mul : FunD K d_law_mul.name d_law_mul.qual d_law_mul.params d_law_mul.body d_law_mul.scope [] [] _ _).bindsN fun _ _ _ _ _ _ us hl => match us, hl with | [_, _], _ => rfl
theorem Zd.F_law_knot_poly (Z : Zd K mg) : FnF K d_law_knot_poly := says_fn Z.c 13 rfl
theorem Zd.kp_law_knot_poly (Z : Zd K mg) : PySem.W.keepIn K (.ref (He.fAd K d_law_knot_poly.at_)) = true := Z.F_law_knot_poly.kp
theorem bi_law_knot_poly (Z : Zd K mg) : Binds K (fdOf K d_law_knot_poly.at_) ["knot", "under"] [] := (Z.F_law_knot_poly : FunD K d_law_knot_poly.name d_law_knot_poly.qual d_law_knot_poly.params d_law_knot_poly.body d_law_knot_poly.scope [] [] _ _).bindsN fun _ _ _ _ _ _ us hl => match us, hl with | [_, _], _ => rfl
theorem Zd.F_law_joined (Z : Zd K mg) : FnF K d_law_joined := says_fn Z.c 14 rfl
theorem Zd.kp_law_joined (Z : Zd K mg) : PySem.W.keepIn K (.ref (He.fAd K d_law_joined.at_)) = true := Z.F_law_joined.kp
theorem bi_law_joined (Z : Zd K mg) : Binds K (fdOf K d_law_joined.at_) ["pool", "counts"] [] := (Z.F_law_joined : FunD K d_law_joined.name d_law_joined.qual d_law_joined.params d_law_joined.body d_law_joined.scope [] [] _ _).bindsN fun _ _ _ _ _ _ us hl => match us, hl with | [_, _], _ => rfl
theorem Zd.F_law_scale (Z : Zd K mg) : FnF K d_law_scale := says_fn Z.c 15 rfl
theorem Zd.kp_law_scale (Z : Zd K mg) : PySem.W.keepIn K (.ref (He.fAd K d_law_scale.at_)) = true := Z.F_law_scale.kp
theorem bi_law_scale (Z : Zd K mg) : Binds K (fdOf K d_law_scale.at_) ["bag"] [] := (Z.F_law_scale : FunD K d_law_scale.name d_law_scale.qual d_law_scale.params d_law_scale.body d_law_scale.scope [] [] _ _).bindsN fun _ _ _ _ _ _ us hl => match us, hl with | [_], _ => rfl
theorem Zd.F_is_integer (Z : Zd K mg) : FnF K d_is_integer := says_fn Z.c 16 rfl
theorem Zd.kp_is_integer (Z : Zd K mg) : PySem.W.keepIn K (.ref (He.fAd K d_is_integer.at_)) = true := Z.F_is_integer.kp
theorem bi_is_integer (Z : Zd K mg) : Binds K (fdOf K d_is_integer.at_) ["value"] [] := (Z.F_is_integer : FunD K d_is_integer.name d_is_integer.qual d_is_integer.params d_is_integer.body d_is_integer.scope [] [] _ _).bindsN fun _ _ _ _ _ _ us hl => match us, hl with | [_], _ => rfl
theorem Zd.F_Ratio_init (Z : Zd K mg) : FnF K d_Ratio_init := says_fn Z.c 17 rfl
theorem Zd.kp_Ratio_init (Z : Zd K mg) : PySem.W.keepIn K (.ref (He.fAd K d_Ratio_init.at_)) = true := Z.F_Ratio_init.kp
theorem ball_Ratio_init (Z : Zd K mg) : Binds K (fdOf K d_Ratio_init.at_) ["self", "top", "bottom"] [] := binds_all (Z.F_Ratio_init.binds1 (ps := ["self", "top", "bottom"]) 3 1 (fun z => by cases z) rfl fun _ _ _ _ _ _ _ us its hu hi => match us, its, hu, hi with | [_, _, _], [_], _, _ => ⟨_, rfl, rfl⟩)
theorem Zd.F_law_number (Z : Zd K mg) : FnF K d_law_number := says_fn Z.c 18 rfl
theorem Zd.kp_law_number (Z : Zd K mg) : PySem.W.keepIn K (.ref (He.fAd K d_law_number.at_)) = true := Z.F_law_number.kp
theorem bi_law_number (Z : Zd K mg) : Binds K (fdOf K d_law_number.at_) ["bag", "one", "two"] [] := (Z.F_law_number : FunD K d_law_number.name d_law_number.qual d_law_number.params d_law_number.body d_law_number.scope [] [] _ _).bindsN fun _ _ _ _ _ _ us hl => match us, hl with | [_, _, _], _ => rfl
theorem Zd.F_law_poly (Z : Zd K mg) : FnF K d_law_poly := says_fn Z.c 19 rfl
theorem Zd.kp_law_poly (Z : Zd K mg) : PySem.W.keepIn K (.ref (He.fAd K d_law_poly.at_)) = true := Z.F_law_poly.kp
theorem bi_law_poly (Z : Zd K mg) : Binds K (fdOf K d_law_poly.at_) ["bag", "coefs", "under"] [] := (Z.F_law_poly : FunD K d_law_poly.name d_law_poly.qual d_law_poly.params d_law_poly.body d_law_poly.scope [] [] _ _).bindsN fun _ _ _ _ _ _ us hl => match us, hl with | [_, _, _], _ => rfl
theorem Zd.F_law_items (Z : Zd K mg) : FnF K d_law_items := says_fn Z.c 20 rfl
theorem Zd.kp_law_items (Z : Zd K mg) : PySem.W.keepIn K (.ref (He.fAd K d_law_items.at_)) = true := Z.F_law_items.kp
theorem bi_law_items (Z : Zd K mg) : Binds K (fdOf K d_law_items.at_) ["pool", "counts"] [] := (Z.F_law_items : FunD K d_law_items.name d_law_items.qual d_law_items.params d_law_items.body d_law_items.scope [] [] _ _).bindsN fun _ _ _ _ _ _ us hl => match us, hl with | [_, _], _ => rfl
theorem Zd.F_law_power (Z : Zd K mg) : FnF K d_law_power := says_fn Z.c 21 rfl
theorem Zd.kp_law_power (Z : Zd K mg) : PySem.W.keepIn K (.ref (He.fAd K d_law_power.at_)) = true := Z.F_law_power.kp
theorem bi_law_power (Z : Zd K mg) : Binds K (fdOf K d_law_power.at_) ["base", "many"] [] := (Z.F_law_power : FunD K d_law_power.name d_law_power.qual d_law_power.params d_law_power.body d_law_power.scope [] [] _ _).bindsN fun _ _ _ _ _ _ us hl => match us, hl with | [_, _], _ => rfl
theorem Zd.F_law_across (Z : Zd K mg) : FnF K d_law_across := says_fn Z.c 22 rfl
theorem Zd.kp_law_across (Z : Zd K mg) : PySem.W.keepIn K (.ref (He.fAd K d_law_across.at_)) = true := Z.F_law_across.kp
theorem bi_law_across (Z : Zd K mg) : Binds K (fdOf K d_law_across.at_) ["one", "two"] [] := (Z.F_law_across : FunD K d_law_across.name d_law_across.qual d_law_across.params d_law_across.body d_law_across.scope [] [] _ _).bindsN fun _ _ _ _ _ _ us hl => match us, hl with | [_, _], _ => rfl
theorem Zd.F_law_all_pairs (Z : Zd K mg) : FnF K d_law_all_pairs := says_fn Z.c 23 rfl
theorem Zd.kp_law_all_pairs (Z : Zd K mg) : PySem.W.keepIn K (.ref (He.fAd K d_law_all_pairs.at_)) = true := Z.F_law_all_pairs.kp
theorem bi_law_all_pairs (Z : Zd K mg) : Binds K (fdOf K d_law_all_pairs.at_) ["items"] [] := (Z.F_law_all_pairs : FunD K d_law_all_pairs.name d_law_all_pairs.qual d_law_all_pairs.params d_law_all_pairs.body d_law_all_pairs.scope [] [] _ _).bindsN fun _ _ _ _ _ _ us hl => match us, hl with | [_], _ => rfl
theorem Zd.F_law_is_int (Z : Zd K mg) : FnF K d_law_is_int := says_fn Z.c 24 rfl
theorem Zd.kp_law_is_int (Z : Zd K mg) : PySem.W.keepIn K (.ref (He.fAd K d_law_is_int.at_)) = true := Z.F_law_is_int.kp
theorem bi_law_is_int (Z : Zd K mg) : Binds K (fdOf K d_law_is_int.at_) ["value"] [] := (Z.F_law_is_int : FunD K d_law_is_int.name d_law_is_int.qual d_law_is_int.params d_law_is_int.body d_law_is_int.scope [] [] _ _).bindsN fun _ _ _ _ _ _ us hl => match us, hl with | [_], _ => rfl
theorem Zd.F_law_pair (Z : Zd K mg) : FnF K d_law_pair := says_fn Z.c 25 rfl
theorem Zd.kp_law_pair (Z : Zd K mg) : PySem.W.keepIn K (.ref (He.fAd K d_law_pair.at_)) = true := Z.F_law_pair.kp
theorem bi_law_pair (Z : Zd K mg) : Binds K (fdOf K d_law_pair.at_) ["value"] [] := (Z.F_law_pair : FunD K d_law_pair.name d_law_pair.qual d_law_pair.params d_law_pair.body d_law_pair.scope [] [] _ _).bindsN fun _ _ _ _ _ _ us hl => match us, hl with | [_], _ => rfl
theorem Zd.F_law_same_poly (Z : Zd K mg) : FnF K d_law_same_poly := says_fn Z.c 26 rfl
theorem Zd.kp_law_same_poly (Z : Zd K mg) : PySem.W.keepIn K (.ref (He.fAd K d_law_same_poly.at_)) = true := Z.F_law_same_poly.kp
theorem bi_law_same_poly (Z : Zd K mg) : Binds K (fdOf K d_law_same_poly.at_) ["told", "coefs", "under"] [] := (Z.F_law_same_poly : FunD K d_law_same_poly.name d_law_same_poly.qual d_law_same_poly.params d_law_same_poly.body d_law_same_poly.scope [] [] _ _).bindsN fun _ _ _ _ _ _ us hl => match us, hl with | [_, _, _], _ => rfl
theorem Zd.F_law_monic (Z : Zd K mg) : FnF K d_law_monic := says_fn Z.c 27 rfl
theorem Zd.kp_law_monic (Z : Zd K mg) : PySem.W.keepIn K (.ref (He.fAd K d_law_monic.at_)) = true := Z.F_law_monic.kp
theorem bi_law_monic (Z : Zd K mg) : Binds K (fdOf K d_law_monic.at_) ["told", "coefs"] [] := (Z.F_law_monic : FunD K d_law_monic.name d_law_monic.qual d_law_monic.params d_law_monic.body d_law_monic.scope [] [] _ _).bindsN fun _ _ _ _ _ _ us hl => match us, hl with | [_, _], _ => rfl
theorem Zd.F_TooMany_init (Z : Zd K mg) : FnF K d_TooMany_init := says_fn Z.c 28 rfl
theorem Zd.kp_TooMany_init (Z : Zd K mg) : PySem.W.keepIn K (.ref (He.fAd K d_TooMany_init.at_)) = true := Z.F_TooMany_init.kp
theorem bi_TooMany_init (Z : Zd K mg) : Binds K (fdOf K d_TooMany_init.at_) ["self", "what", "most"] [] := (Z.F_TooMany_init : FunD K d_TooMany_init.name d_TooMany_init.qual d_TooMany_init.params d_TooMany_init.body d_TooMany_init.scope [] [] _ _).bindsN fun _ _ _ _ _ _ us hl => match us, hl with | [_, _, _], _ => rfl
theorem Zd.F_bounded (Z : Zd K mg) : FnF K d_bounded := says_fn Z.c 29 rfl
theorem Zd.kp_bounded (Z : Zd K mg) : PySem.W.keepIn K (.ref (He.fAd K d_bounded.at_)) = true := Z.F_bounded.kp
theorem ball_bounded (Z : Zd K mg) : Binds K (fdOf K d_bounded.at_) ["p", "most"] [] := binds_all (Z.F_bounded.binds1 (ps := ["p", "most"]) 2 1 (fun z => by cases z) rfl fun _ _ _ _ _ _ _ us its hu hi => match us, its, hu, hi with | [_, _], [_], _, _ => ⟨_, rfl, rfl⟩)
theorem Zd.F_number_over (Z : Zd K mg) : FnF K d_number_over := says_fn Z.c 30 rfl
theorem Zd.kp_number_over (Z : Zd K mg) : PySem.W.keepIn K (.ref (He.fAd K d_number_over.at_)) = true := Z.F_number_over.kp
theorem bi_number_over (Z : Zd K mg) : Binds K (fdOf K d_number_over.at_) ["top", "bottom"] [] := (Z.F_number_over : FunD K d_number_over.name d_number_over.qual d_number_over.params d_number_over.body d_number_over.scope [] [] _ _).bindsN fun _ _ _ _ _ _ us hl => match us, hl with | [_, _], _ => rfl
theorem Zd.F_numbers_over (Z : Zd K mg) : FnF K d_numbers_over := says_fn Z.c 31 rfl
theorem Zd.kp_numbers_over (Z : Zd K mg) : PySem.W.keepIn K (.ref (He.fAd K d_numbers_over.at_)) = true := Z.F_numbers_over.kp
theorem bi_numbers_over (Z : Zd K mg) : Binds K (fdOf K d_numbers_over.at_) ["values", "bottom"] [] := (Z.F_numbers_over : FunD K d_numbers_over.name d_numbers_over.qual d_numbers_over.params d_numbers_over.body d_numbers_over.scope [] [] _ _).bindsN fun _ _ _ _ _ _ us hl => match us, hl with | [_, _], _ => rfl
theorem Zd.F_monic (Z : Zd K mg) : FnF K d_monic := says_fn Z.c 32 rfl
theorem Zd.kp_monic (Z : Zd K mg) : PySem.W.keepIn K (.ref (He.fAd K d_monic.at_)) = true := Z.F_monic.kp
theorem bi_monic (Z : Zd K mg) : Binds K (fdOf K d_monic.at_) ["values"] [] := (Z.F_monic : FunD K d_monic.name d_monic.qual d_monic.params d_monic.body d_monic.scope [] [] _ _).bindsN fun _ _ _ _ _ _ us hl => match us, hl with | [_], _ => rfl
theorem Zd.F_power_sums (Z : Zd K mg) : FnF K d_power_sums := says_fn Z.c 33 rfl
theorem Zd.kp_power_sums (Z : Zd K mg) : PySem.W.keepIn K (.ref (He.fAd K d_power_sums.at_)) = true := Z.F_power_sums.kp
theorem ball_power_sums (Z : Zd K mg) : Binds K (fdOf K d_power_sums.at_) ["a", "count", "modulus"] [] := binds_all (Z.F_power_sums.binds1 (ps := ["a", "count", "modulus"]) 3 1 (fun z => by cases z) rfl fun _ _ _ _ _ _ _ us its hu hi => match us, its, hu, hi with | [_, _, _], [_], _, _ => ⟨_, rfl, rfl⟩)
theorem bx_power_sums (Z : Zd K mg) : ∃ ds, Vals (d_power_sums.dvs K) ds ∧ Binds K (fdOf K d_power_sums.at_) ["a", "count", "modulus"] ds := Z.F_power_sums.binds1 (ps := ["a", "count", "modulus"]) 2 0 (fun z => by cases z) rfl fun _ _ _ _ _ _ _ us its hu hi => match us, its, hu, hi with | [_, _], [_], _, _ => ⟨_, rfl, rfl⟩
theorem bd_power_sums (Z : Zd K mg) : Vals (d_power_sums.dvs K) (bx_power_sums Z).choose ∧ Binds K (fdOf K d_power_sums.at_) ["a", "count", "modulus"] (bx_power_sums Z).choose := (bx_power_sums Z).choose_spec
theorem Zd.F_lifted (Z : Zd K mg) : FnF K d_lifted := says_fn Z.c 34 rfl
theorem Zd.kp_lifted (Z : Zd K mg) : PySem.W.keepIn K (.ref (He.fAd K d_lifted.at_)) = true := Z.F_lifted.kp
theorem bi_lifted (Z : Zd K mg) : Binds K (fdOf K d_lifted.at_) ["a"] [] := (Z.F_lifted : FunD K d_lifted.name d_lifted.qual d_lifted.params d_lifted.body d_lifted.scope [] [] _ _).bindsN fun _ _ _ _ _ _ us hl => match us, hl with | [_], _ => rfl
theorem Zd.F_primitive (Z : Zd K mg) : FnF K d_primitive := says_fn Z.c 35 rfl
theorem Zd.kp_primitive (Z : Zd K mg) : PySem.W.keepIn K (.ref (He.fAd K d_primitive.at_)) = true := Z.F_primitive.kp
theorem bi_primitive (Z : Zd K mg) : Binds K (fdOf K d_primitive.at_) ["values"] [] := (Z.F_primitive : FunD K d_primitive.name d_primitive.qual d_primitive.params d_primitive.body d_primitive.scope [] [] _ _).bindsN fun _ _ _ _ _ _ us hl => match us, hl with | [_], _ => rfl
theorem Zd.F_lowered (Z : Zd K mg) : FnF K d_lowered := says_fn Z.c 36 rfl
theorem Zd.kp_lowered (Z : Zd K mg) : PySem.W.keepIn K (.ref (He.fAd K d_lowered.at_)) = true := Z.F_lowered.kp
theorem bi_lowered (Z : Zd K mg) : Binds K (fdOf K d_lowered.at_) ["a", "scale"] [] := (Z.F_lowered : FunD K d_lowered.name d_lowered.qual d_lowered.params d_lowered.body d_lowered.scope [] [] _ _).bindsN fun _ _ _ _ _ _ us hl => match us, hl with | [_, _], _ => rfl
theorem Zd.F_inverse (Z : Zd K mg) : FnF K d_inverse := says_fn Z.c 37 rfl
theorem Zd.kp_inverse (Z : Zd K mg) : PySem.W.keepIn K (.ref (He.fAd K d_inverse.at_)) = true := Z.F_inverse.kp
theorem bi_inverse (Z : Zd K mg) : Binds K (fdOf K d_inverse.at_) ["value", "modulus"] [] := (Z.F_inverse : FunD K d_inverse.name d_inverse.qual d_inverse.params d_inverse.body d_inverse.scope [] [] _ _).bindsN fun _ _ _ _ _ _ us hl => match us, hl with | [_, _], _ => rfl
theorem Zd.F_from_power_sums (Z : Zd K mg) : FnF K d_from_power_sums := says_fn Z.c 38 rfl
theorem Zd.kp_from_power_sums (Z : Zd K mg) : PySem.W.keepIn K (.ref (He.fAd K d_from_power_sums.at_)) = true := Z.F_from_power_sums.kp
theorem ball_from_power_sums (Z : Zd K mg) : Binds K (fdOf K d_from_power_sums.at_) ["sums", "modulus"] [] := binds_all (Z.F_from_power_sums.binds1 (ps := ["sums", "modulus"]) 2 1 (fun z => by cases z) rfl fun _ _ _ _ _ _ _ us its hu hi => match us, its, hu, hi with | [_, _], [_], _, _ => ⟨_, rfl, rfl⟩)
theorem bx_from_power_sums (Z : Zd K mg) : ∃ ds, Vals (d_from_power_sums.dvs K) ds ∧ Binds K (fdOf K d_from_power_sums.at_) ["sums", "modulus"] ds := Z.F_from_power_sums.binds1 (ps := ["sums", "modulus"]) 1 0 (fun z => by cases z) rfl fun _ _ _ _ _ _ _ us its hu hi => match us, its, hu, hi with | [_], [_], _, _ => ⟨_, rfl, rfl⟩
theorem bd_from_power_sums (Z : Zd K mg) : Vals (d_from_power_sums.dvs K) (bx_from_power_sums Z).choose ∧ Binds K (fdOf K d_from_power_sums.at_) ["sums", "modulus"] (bx_from_power_sums Z).choose := (bx_from_power_sums Z).choose_spec
theorem Zd.F_raised (Z : Zd K mg) : FnF K d_raised := says_fn Z.c 39 rfl
theorem Zd.kp_raised (Z : Zd K mg) : PySem.W.keepIn K (.ref (He.fAd K d_raised.at_)) = true := Z.F_raised.kp
theorem bi_raised (Z : Zd K mg) : Binds K (fdOf K d_raised.at_) ["base", "exponent"] [] := (Z.F_raised : FunD K d_raised.name d_raised.qual d_raised.params d_raised.body d_raised.scope [] [] _ _).bindsN fun _ _ _ _ _ _ us hl => match us, hl with | [_, _], _ => rfl
theorem Zd.F_powers_of (Z : Zd K mg) : FnF K d_powers_of := says_fn Z.c 40 rfl
theorem Zd.kp_powers_of (Z : Zd K mg) : PySem.W.keepIn K (.ref (He.fAd K d_powers_of.at_)) = true := Z.F_powers_of.kp
theorem bi_powers_of (Z : Zd K mg) : Binds K (fdOf K d_powers_of.at_) ["a", "exponent"] [] := (Z.F_powers_of : FunD K d_powers_of.name d_powers_of.qual d_powers_of.params d_powers_of.body d_powers_of.scope [] [] _ _).bindsN fun _ _ _ _ _ _ us hl => match us, hl with | [_, _], _ => rfl
theorem Zd.F_fraction (Z : Zd K mg) : FnF K d_fraction := says_fn Z.c 41 rfl
theorem Zd.kp_fraction (Z : Zd K mg) : PySem.W.keepIn K (.ref (He.fAd K d_fraction.at_)) = true := Z.F_fraction.kp
theorem bi_fraction (Z : Zd K mg) : Binds K (fdOf K d_fraction.at_) ["number"] [] := (Z.F_fraction : FunD K d_fraction.name d_fraction.qual d_fraction.params d_fraction.body d_fraction.scope [] [] _ _).bindsN fun _ _ _ _ _ _ us hl => match us, hl with | [_], _ => rfl
theorem Zd.F_integers (Z : Zd K mg) : FnF K d_integers := says_fn Z.c 42 rfl
theorem Zd.kp_integers (Z : Zd K mg) : PySem.W.keepIn K (.ref (He.fAd K d_integers.at_)) = true := Z.F_integers.kp
theorem bi_integers (Z : Zd K mg) : Binds K (fdOf K d_integers.at_) ["numbers"] [] := (Z.F_integers : FunD K d_integers.name d_integers.qual d_integers.params d_integers.body d_integers.scope [] [] _ _).bindsN fun _ _ _ _ _ _ us hl => match us, hl with | [_], _ => rfl
theorem Zd.F_powers (Z : Zd K mg) : FnF K d_powers := says_fn Z.c 43 rfl
theorem Zd.kp_powers (Z : Zd K mg) : PySem.W.keepIn K (.ref (He.fAd K d_powers.at_)) = true := Z.F_powers.kp
theorem bi_powers (Z : Zd K mg) : Binds K (fdOf K d_powers.at_) ["p", "l"] [] := (Z.F_powers : FunD K d_powers.name d_powers.qual d_powers.params d_powers.body d_powers.scope [] [] _ _).bindsN fun _ _ _ _ _ _ us hl => match us, hl with | [_, _], _ => rfl
theorem Zd.F_law_trace (Z : Zd K mg) : FnF K d_law_trace := says_fn Z.c 44 rfl
theorem Zd.kp_law_trace (Z : Zd K mg) : PySem.W.keepIn K (.ref (He.fAd K d_law_trace.at_)) = true := Z.F_law_trace.kp
theorem bi_law_trace (Z : Zd K mg) : Binds K (fdOf K d_law_trace.at_) ["mid", "end", "many"] [] := (Z.F_law_trace : FunD K d_law_trace.name d_law_trace.qual d_law_trace.params d_law_trace.body d_law_trace.scope [] [] _ _).bindsN fun _ _ _ _ _ _ us hl => match us, hl with | [_, _, _], _ => rfl
theorem Zd.F_law_all_squares (Z : Zd K mg) : FnF K d_law_all_squares := says_fn Z.c 45 rfl
theorem Zd.kp_law_all_squares (Z : Zd K mg) : PySem.W.keepIn K (.ref (He.fAd K d_law_all_squares.at_)) = true := Z.F_law_all_squares.kp
theorem bi_law_all_squares (Z : Zd K mg) : Binds K (fdOf K d_law_all_squares.at_) ["items"] [] := (Z.F_law_all_squares : FunD K d_law_all_squares.name d_law_all_squares.qual d_law_all_squares.params d_law_all_squares.body d_law_all_squares.scope [] [] _ _).bindsN fun _ _ _ _ _ _ us hl => match us, hl with | [_], _ => rfl
theorem Zd.F_pairs_of (Z : Zd K mg) : FnF K d_pairs_of := says_fn Z.c 46 rfl
theorem Zd.kp_pairs_of (Z : Zd K mg) : PySem.W.keepIn K (.ref (He.fAd K d_pairs_of.at_)) = true := Z.F_pairs_of.kp
theorem bi_pairs_of (Z : Zd K mg) : Binds K (fdOf K d_pairs_of.at_) ["a"] [] := (Z.F_pairs_of : FunD K d_pairs_of.name d_pairs_of.qual d_pairs_of.params d_pairs_of.body d_pairs_of.scope [] [] _ _).bindsN fun _ _ _ _ _ _ us hl => match us, hl with | [_], _ => rfl
theorem Zd.F_pairs (Z : Zd K mg) : FnF K d_pairs := says_fn Z.c 47 rfl
theorem Zd.kp_pairs (Z : Zd K mg) : PySem.W.keepIn K (.ref (He.fAd K d_pairs.at_)) = true := Z.F_pairs.kp
theorem bi_pairs (Z : Zd K mg) : Binds K (fdOf K d_pairs.at_) ["p"] [] := (Z.F_pairs : FunD K d_pairs.name d_pairs.qual d_pairs.params d_pairs.body d_pairs.scope [] [] _ _).bindsN fun _ _ _ _ _ _ us hl => match us, hl with | [_], _ => rfl
theorem bkw_pairs (Z : Zd K mg) : ∀ (s : Shared) (ws : List Value), ws.length = (["p"] : List Str).length → BindsTo s (fdOf K d_pairs.at_) ⟨[], (["p"] : List Str).zip ws⟩ ((["p"] : List Str).zip ws) := bindsKw (Z.F_pairs : FunD K d_pairs.name d_pairs.qual d_pairs.params d_pairs.body d_pairs.scope [] [] _ _) fun _ _ _ _ _ _ us hl => match us, hl with | [_], _ => rfl
theorem Zd.F_law_product (Z : Zd K mg) : FnF K d_law_product := says_fn Z.c 48 rfl
theorem Zd.kp_law_product (Z : Zd K mg) : PySem.W.keepIn K (.ref (He.fAd K d_law_product.at_)) = true := Z.F_law_product.kp
theorem bi_law_product (Z : Zd K mg) : Binds K (fdOf K d_law_product.at_) ["knots", "under"] [] := (Z.F_law_product : FunD K d_law_product.name d_law_product.qual d_law_product.params d_law_product.body d_law_product.scope [] [] _ _).bindsN fun _ _ _ _ _ _ us hl => match us, hl with | [_, _], _ => rfl
theorem Zd.F_law_is_too (Z : Zd K mg) : FnF K d_law_is_too := says_fn Z.c 49 rfl
theorem Zd.kp_law_is_too (Z : Zd K mg) : PySem.W.keepIn K (.ref (He.fAd K d_law_is_too.at_)) = true := Z.F_law_is_too.kp
theorem bi_law_is_too (Z : Zd K mg) : Binds K (fdOf K d_law_is_too.at_) ["got", "word", "bound"] [] := (Z.F_law_is_too : FunD K d_law_is_too.name d_law_is_too.qual d_law_is_too.params d_law_is_too.body d_law_is_too.scope [] [] _ _).bindsN fun _ _ _ _ _ _ us hl => match us, hl with | [_, _, _], _ => rfl
theorem Zd.F_law_refused (Z : Zd K mg) : FnF K d_law_refused := says_fn Z.c 50 rfl
theorem Zd.kp_law_refused (Z : Zd K mg) : PySem.W.keepIn K (.ref (He.fAd K d_law_refused.at_)) = true := Z.F_law_refused.kp
theorem bi_law_refused (Z : Zd K mg) : Binds K (fdOf K d_law_refused.at_) ["poly"] [] := (Z.F_law_refused : FunD K d_law_refused.name d_law_refused.qual d_law_refused.params d_law_refused.body d_law_refused.scope [] [] _ _).bindsN fun _ _ _ _ _ _ us hl => match us, hl with | [_], _ => rfl
theorem Zd.F_law_at_bounds (Z : Zd K mg) : FnF K d_law_at_bounds := says_fn Z.c 51 rfl
theorem Zd.kp_law_at_bounds (Z : Zd K mg) : PySem.W.keepIn K (.ref (He.fAd K d_law_at_bounds.at_)) = true := Z.F_law_at_bounds.kp
theorem bi_law_at_bounds (Z : Zd K mg) : Binds K (fdOf K d_law_at_bounds.at_) ["bag"] [] := (Z.F_law_at_bounds : FunD K d_law_at_bounds.name d_law_at_bounds.qual d_law_at_bounds.params d_law_at_bounds.body d_law_at_bounds.scope [] [] _ _).bindsN fun _ _ _ _ _ _ us hl => match us, hl with | [_], _ => rfl
theorem Zd.F_law (Z : Zd K mg) : FnF K d_law := says_fn Z.c 52 rfl
theorem Zd.kp_law (Z : Zd K mg) : PySem.W.keepIn K (.ref (He.fAd K d_law.at_)) = true := Z.F_law.kp
theorem bi_law (Z : Zd K mg) : Binds K (fdOf K d_law.at_) ["script"] [] := (Z.F_law : FunD K d_law.name d_law.qual d_law.params d_law.body d_law.scope [] [] _ _).bindsN fun _ _ _ _ _ _ us hl => match us, hl with | [_], _ => rfl
end K22

set_option maxHeartbeats 4000000
/-! The derivations of eachlength_k22_products_of_roots, printed by gen.py. -/
namespace K22
open PySem PySem.Spec PyProof.Rows L2 Ml
variable {P : Program} {w : World} {K : PySem.W.Frag} {mg : Str → Option Value} {base : Heap}
theorem ok_law_bag (Z : Zd K mg) {N : Nat} : FnOk P w K mg base (L2.CX P w) 2 (He.fAd K d_law_bag.at_) (fdOf K d_law_bag.at_) ["script"] (spF K (ct K) (f_law_bag N)) := by
  refine fn_ok Z.F_law_bag sc_law_bag rfl rfl fun cdv A outer s H E hr => ?_
  exact (ss_cons (st_asg (j := 1) sc_law_bag.nd rfl (by first | exact .inl rfl | exact .inr rfl) se_int)
  (ss_cons (st_for (passes_of rfl) rfl (it_l rfl (ae_e (se_sl rfl (ae_b (pv 0)) po_n (po_s se_int)))) (tg_n sc_law_bag.nd rfl (by first | exact .inl rfl | exact .inr rfl)) (ss_fgt [2] (ss_one (st_asg (j := 1) sc_law_bag.nd rfl (by first | exact .inl rfl | exact .inr rfl) (se_bin op_modN ol_mod (ae_e (se_callTy call_int1 ol_int1 rfl Z.fr_int (by decide +kernel) (as_cons (ae_e (se_bin op_addB ol_add (ae_e (se_bin op_addB ol_add (ae_e (se_bin op_mulBB ol_mul (ae_b (pv 1)) (ae_e se_int))) (ae_e (se_bin op_modN ol_mod (ae_e (se_callTy call_int1 ol_int1 rfl Z.fr_int (by decide +kernel) (as_cons (ae_b (pv 2)) as_nil))) (ae_e se_int))))) (ae_e se_int))) as_nil))) (ae_e se_int))))))
  (ss_one (st_rt (se_lst (af_cons (se_callTy call_list_of ol_list rfl Z.fr_list (by decide +kernel) (as_cons (ae_e (se_sl rfl (ae_b (pv 0)) po_n (po_s se_int))) as_nil)) (af_cons se_int (af_cons se_int (af_cons (se_var (pv 1)) (af_cons se_int af_nil))))))))))
theorem ok_law_draw (Z : Zd K mg) {N : Nat} : FnOk P w K mg base (L2.CX P w) 2 (He.fAd K d_law_draw.at_) (fdOf K d_law_draw.at_) ["bag", "limit"] (spF K (ct K) (f_law_draw N)) := by
  refine fn_ok Z.F_law_draw sc_law_draw rfl rfl fun cdv A outer s H E hr => ?_
  exact (ss_cons (st_set (j := 0) (se_bin op_addB ol_add (ae_e (se_ix ix_seq ol_idx (ae_b (pv 0)) (ae_e se_int) (fun _ _ => rfl))) (ae_e se_int)) (pg_sub (pv 0) se_int set_list))
  (ss_cons (st_fgt [2] (st_if (te_w (tw_and (te_cmp (op_eqD hr.units) ol_eq bl_eq (ae_e (se_ix ix_seq ol_idx (ae_b (pv 0)) (ae_e se_int) (fun _ _ => rfl))) (ae_e se_int) rfl) (tw_and1 (te_cmp op_lt ol_lt bl_lt (ae_e (se_ix ix_seq ol_idx (ae_b (pv 0)) (ae_e se_int) (fun _ _ => rfl))) (ae_e (se_callB call_len ol_len rfl Z.fr_len (by decide +kernel) (as_cons (ae_e (se_ix ix_seq ol_idx (ae_b (pv 0)) (ae_e se_int) (fun _ _ => rfl))) as_nil))) rfl)))) (ss_cons (st_asg (j := 2) sc_law_draw.nd rfl (by first | exact .inl rfl | exact .inr rfl) (se_callTy call_int1 ol_int1 rfl Z.fr_int (by decide +kernel) (as_cons (ae_e (se_ix ix_seq ol_idx (ae_e (se_ix ix_seq ol_idx (ae_b (pv 0)) (ae_e se_int) (fun _ _ => rfl))) (ae_e (se_ix ix_seq ol_idx (ae_b (pv 0)) (ae_e se_int) (fun _ _ => rfl))) (fun _ _ => rfl))) as_nil)))
  (ss_cons (st_set (j := 0) (se_bin op_addB ol_add (ae_e (se_ix ix_seq ol_idx (ae_b (pv 0)) (ae_e se_int) (fun _ _ => rfl))) (ae_e se_int)) (pg_sub (pv 0) se_int set_list))
  (ss_one (st_if (te_cmp op_ge ol_ge bl_ge (ae_b (pv 2)) (ae_e (se_bin op_pow ol_pow (ae_e se_int) (ae_e se_int))) rfl) (ss_one (st_set (j := 0) (se_var (pv 2)) (pg_sub (pv 0) se_int set_list))) (ss_one (st_set (j := 0) (se_bin op_modN ol_mod (ae_e (se_callTy call_int1 ol_int1 rfl Z.fr_int (by decide +kernel) (as_cons (ae_e (se_bin op_addB ol_add (ae_e (se_bin op_addB ol_add (ae_e (se_bin op_mulBB ol_mul (ae_e (se_ix ix_seq ol_idx (ae_b (pv 0)) (ae_e se_int) (fun _ _ => rfl))) (ae_e se_int))) (ae_e (se_bin op_mulBB ol_mul (ae_e (se_bin op_modN ol_mod (ae_e (se_callTy call_int1 ol_int1 rfl Z.fr_int (by decide +kernel) (as_cons (ae_b (pv 2)) as_nil))) (ae_e se_int))) (ae_e se_int))))) (ae_e se_int))) as_nil))) (ae_e se_int)) (pg_sub (pv 0) se_int set_list))))))) ss_nil))
  (ss_cons (st_fgt [3] (st_if (te_cmp op_gt ol_gt bl_gt (ae_e (se_ix ix_seq ol_idx (ae_b (pv 0)) (ae_e se_int) (fun _ _ => rfl))) (ae_e se_int) rfl) (ss_cons (st_asg (j := 3) sc_law_draw.nd rfl (by first | exact .inl rfl | exact .inr rfl) (se_bin op_modN ol_mod (ae_e (se_callTy call_int1 ol_int1 rfl Z.fr_int (by decide +kernel) (as_cons (ae_e (se_ix ix_seq ol_idx (ae_b (pv 0)) (ae_e se_int) (fun _ _ => rfl))) as_nil))) (ae_b (pv 1))))
  (ss_cons (st_set (j := 0) (se_bin op_divB ol_div (ae_e (se_ix ix_seq ol_idx (ae_b (pv 0)) (ae_e se_int) (fun _ _ => rfl))) (ae_b (pv 1))) (pg_sub (pv 0) se_int set_list))
  (ss_one (st_rt (se_var (pv 3)))))) ss_nil))
  (ss_cons (st_asg (j := 4) sc_law_draw.nd rfl (by first | exact .inl rfl | exact .inr rfl) (se_callTy call_int1 ol_int1 rfl Z.fr_int (by decide +kernel) (as_cons (ae_e (se_ix ix_seq ol_idx (ae_b (pv 0)) (ae_e se_int) (fun _ _ => rfl))) as_nil)))
  (ss_cons (st_set (j := 0) (se_bin op_modN ol_mod (ae_e (se_callTy call_int1 ol_int1 rfl Z.fr_int (by decide +kernel) (as_cons (ae_e (se_bin op_addB ol_add (ae_e (se_bin op_addB ol_add (ae_e (se_bin op_addB ol_add (ae_e (se_bin op_pow ol_pow (ae_b (pv 4)) (ae_e se_int))) (ae_e (se_bin op_mulBB ol_mul (ae_b (pv 4)) (ae_e se_int))))) (ae_e (se_bin op_mulBB ol_mul (ae_e (se_ix ix_seq ol_idx (ae_b (pv 0)) (ae_e se_int) (fun _ _ => rfl))) (ae_e se_int))))) (ae_e se_int))) as_nil))) (ae_e se_int)) (pg_sub (pv 0) se_int set_list))
  (ss_one (st_rt (se_bin op_modN ol_mod (ae_e (se_callTy call_int1 ol_int1 rfl Z.fr_int (by decide +kernel) (as_cons (ae_e (se_bin op_addB ol_add (ae_e (se_bin op_divB ol_div (ae_e (se_ix ix_seq ol_idx (ae_b (pv 0)) (ae_e se_int) (fun _ _ => rfl))) (ae_e se_int))) (ae_e (se_bin op_mulBB ol_mul (ae_e (se_bin op_modN ol_mod (ae_e (se_callTy call_int1 ol_int1 rfl Z.fr_int (by decide +kernel) (as_cons (ae_e (se_ix ix_seq ol_idx (ae_b (pv 0)) (ae_e se_int) (fun _ _ => rfl))) as_nil))) (ae_e se_int))) (ae_e se_int))))) as_nil))) (ae_b (pv 1))))))))))
theorem ok_law_of (Z : Zd K mg) {N : Nat} : FnOk P w K mg base (L2.CX P w) 3 (He.fAd K d_law_of.at_) (fdOf K d_law_of.at_) ["bag", "things"] (spF K (ct K) (f_law_of N)) := by
  refine fn_ok Z.F_law_of sc_law_of rfl rfl fun cdv A outer s H E hr => ?_
  have tk := takes_of (X := cxOf (L2.CX P w) P w K mg base ["bag", "things"] d_law_of.qual d_law_of.scope (He.fAd K d_law_of.at_) cdv A outer s H E) (E := E) rfl rfl rfl rfl
  exact (ss_one (st_rt (se_ix ix_seq ol_idx (ae_b (pv 1)) (ae_e (se_callB' (ok_law_draw Z) (hr.mono (by decide)) rfl Z.gl__law_draw Z.kp_law_draw (bi_law_draw Z) (fun σ => passAt tk σ) (pv 0) (af_cons (se_callB call_len ol_len rfl Z.fr_len (by decide +kernel) (as_cons (ae_b (pv 1)) as_nil)) af_nil))) (fun _ _ => rfl))))
theorem ok_law_knot (Z : Zd K mg) {N : Nat} : FnOk P w K mg base (L2.CX P w) 4 (He.fAd K d_law_knot.at_) (fdOf K d_law_knot.at_) ["bag"] (spF K (ct K) (f_law_knot N)) := by
  refine fn_ok Z.F_law_knot sc_law_knot rfl rfl fun cdv A outer s H E hr => ?_
  have tk := takes_of (X := cxOf (L2.CX P w) P w K mg base ["bag", "way", "real", "high", "mid"] d_law_knot.qual d_law_knot.scope (He.fAd K d_law_knot.at_) cdv A outer s H E) (E := E) rfl rfl rfl rfl
  exact (ss_cons (st_asg (j := 1) sc_law_knot.nd rfl (by first | exact .inl rfl | exact .inr rfl) (se_callB' (ok_law_of Z) (hr.mono (by decide)) rfl Z.gl__law_of Z.kp_law_of (bi_law_of Z) (fun σ => passAt tk σ) (pv 0) (af_cons (se_lst (af_cons se_int (af_cons se_int (af_cons se_int (af_cons se_int (af_cons se_int (af_cons se_int (af_cons se_int af_nil)))))))) af_nil)))
  (ss_cons (st_if (te_cmp (op_eqD hr.units) ol_eq bl_eq (ae_b (pv 1)) (ae_e se_int) rfl) (ss_one (st_rt (se_tup (af_cons se_int (af_cons (se_callB' (ok_law_of Z) (hr.mono (by decide)) rfl Z.gl__law_of Z.kp_law_of (bi_law_of Z) (fun σ => passAt tk σ) (pv 0) (af_cons (se_lst (af_cons se_int (af_cons se_int (af_cons se_int (af_cons (se_un un_neg ol_neg (ae_e se_int)) (af_cons se_int (af_cons (se_un un_neg ol_neg (ae_e se_int)) (af_cons se_int (af_cons (se_un un_neg ol_neg (ae_e se_int)) (af_cons se_int (af_cons (se_un un_neg ol_neg (ae_e se_int)) af_nil))))))))))) af_nil)) (af_cons se_int af_nil)))))) ss_nil)
  (ss_cons (st_fgt [2, 3] (st_if (te_cmp (op_eqD hr.units) ol_eq bl_eq (ae_b (pv 1)) (ae_e se_int) rfl) (ss_cons (st_par (i := 2) (j := 3) rfl sc_law_knot.nd rfl rfl (by decide) rfl rfl (se_bin op_sub ol_sub (ae_e (se_callB' (ok_law_draw Z) (hr.mono (by decide)) rfl Z.gl__law_draw Z.kp_law_draw (bi_law_draw Z) (fun σ => passAt tk σ) (pv 0) (af_cons se_int af_nil))) (ae_e se_int)) (se_bin op_addB ol_add (ae_e se_int) (ae_e (se_callB' (ok_law_draw Z) (hr.mono (by decide)) rfl Z.gl__law_draw Z.kp_law_draw (bi_law_draw Z) (fun σ => passAt tk σ) (pv 0) (af_cons se_int af_nil)))) rfl)
  (ss_one (st_rt (se_tup (af_cons se_int (af_cons (se_bin op_mulBB ol_mul (ae_e se_int) (ae_b (pv 2))) (af_cons (se_bin op_addB ol_add (ae_e (se_bin op_mulBB ol_mul (ae_b (pv 2)) (ae_b (pv 2)))) (ae_e (se_bin op_mulBB ol_mul (ae_b (pv 3)) (ae_b (pv 3))))) af_nil))))))) ss_nil))
  (ss_cons (st_if (te_cmp (op_eqD hr.units) ol_eq bl_eq (ae_b (pv 1)) (ae_e se_int) rfl) (ss_one (st_rt (se_tup (af_cons se_int (af_cons se_int (af_cons (se_un un_neg ol_neg (ae_e (se_callB' (ok_law_of Z) (hr.mono (by decide)) rfl Z.gl__law_of Z.kp_law_of (bi_law_of Z) (fun σ => passAt tk σ) (pv 0) (af_cons (se_lst (af_cons se_int (af_cons se_int (af_cons se_int af_nil)))) af_nil)))) af_nil)))))) ss_nil)
  (ss_cons (st_asg (j := 4) sc_law_knot.nd rfl (by first | exact .inl rfl | exact .inr rfl) (se_callB' (ok_law_of Z) (hr.mono (by decide)) rfl Z.gl__law_of Z.kp_law_of (bi_law_of Z) (fun σ => passAt tk σ) (pv 0) (af_cons (se_lst (af_cons se_int (af_cons (se_un un_neg ol_neg (ae_e se_int)) (af_cons se_int (af_cons se_int (af_cons (se_un un_neg ol_neg (ae_e se_int)) (af_cons (se_un un_neg ol_neg (ae_e se_int)) (af_cons se_int (af_cons se_int (af_cons (se_un un_neg ol_neg (ae_e se_int)) af_nil)))))))))) af_nil)))
  (ss_one (st_rt (se_tup (af_cons se_int (af_cons (se_var (pv 4)) (af_cons (se_bin op_addB ol_add (ae_e (se_bin op_addB ol_add (ae_e (se_bin op_divB ol_div (ae_e (se_bin op_mulBB ol_mul (ae_b (pv 4)) (ae_b (pv 4)))) (ae_e se_int))) (ae_e se_int))) (ae_e (se_callB' (ok_law_draw Z) (hr.mono (by decide)) rfl Z.gl__law_draw Z.kp_law_draw (bi_law_draw Z) (fun σ => passAt tk σ) (pv 0) (af_cons se_int af_nil)))) af_nil)))))))))))
theorem ok_law_factor (Z : Zd K mg) {N : Nat} : FnOk P w K mg base (L2.CX P w) 5 (He.fAd K d_law_factor.at_) (fdOf K d_law_factor.at_) ["bag"] (spF K (ct K) (f_law_factor N)) := by
  refine fn_ok Z.F_law_factor sc_law_factor rfl rfl fun cdv A outer s H E hr => ?_
  have tk := takes_of (X := cxOf (L2.CX P w) P w K mg base ["bag", "knot"] d_law_factor.qual d_law_factor.scope (He.fAd K d_law_factor.at_) cdv A outer s H E) (E := E) rfl rfl rfl rfl
  exact (ss_cons (st_asg (j := 1) sc_law_factor.nd rfl (by first | exact .inl rfl | exact .inr rfl) (sv_if (te_cmp (op_eqD hr.units) ol_eq bl_eq (ae_e (se_callB' (ok_law_draw Z) (hr.mono (by decide)) rfl Z.gl__law_draw Z.kp_law_draw (bi_law_draw Z) (fun σ => passAt tk σ) (pv 0) (af_cons se_int af_nil))) (ae_e se_int) rfl) (se_tup (af_cons se_int (af_cons se_int (af_cons se_int af_nil)))) (se_callB' (ok_law_knot Z) (hr.mono (by decide)) rfl Z.gl__law_knot Z.kp_law_knot (bi_law_knot Z) (fun σ => passAt tk σ) (pv 0) af_nil)))
  (ss_one (st_rt (se_tup (af_cons (se_var (pv 1)) (af_cons (se_callB' (ok_law_of Z) (hr.mono (by decide)) rfl Z.gl__law_of Z.kp_law_of (bi_law_of Z) (fun σ => passAt tk σ) (pv 0) (af_cons (se_lst (af_cons se_int (af_cons se_int (af_cons se_int (af_cons se_int (af_cons se_int (af_cons se_int af_nil))))))) af_nil)) af_nil))))))
theorem ok_law_gcd (Z : Zd K mg) {N : Nat} : FnOk P w K mg base (L2.CX P w) 2 (He.fAd K d_law_gcd.at_) (fdOf K d_law_gcd.at_) ["one", "two"] (spF K (ct K) (f_law_gcd N)) := by
  refine fn_ok Z.F_law_gcd sc_law_gcd rfl rfl fun cdv A outer s H E hr => ?_
  exact (ss_cons (st_par (i := 2) (j := 3) rfl sc_law_gcd.nd rfl rfl (by decide) rfl rfl (se_callB call_abs ol_abs rfl Z.fr_abs (by decide +kernel) (as_cons (ae_b (pv 0)) as_nil)) (se_callB call_abs ol_abs rfl Z.fr_abs (by decide +kernel) (as_cons (ae_b (pv 1)) as_nil)) rfl)
  (ss_cons (st_fgt [3] (st_while (passes_of rfl) (te_cmp op_gt ol_gt bl_gt (ae_b (pv 3)) (ae_e se_int) rfl) (ss_one (st_par (i := 2) (j := 3) rfl sc_law_gcd.nd rfl rfl (by decide) rfl rfl (se_var (pv 3)) (se_bin op_modN ol_mod (ae_e (se_callTy call_int1 ol_int1 rfl Z.fr_int (by decide +kernel) (as_cons (ae_b (pv 2)) as_nil))) (ae_b (pv 3))) rfl))))
  (ss_one (st_rt (se_var (pv 2))))))
theorem ok_law_low (Z : Zd K mg) {N : Nat} : FnOk P w K mg base (L2.CX P w) 3 (He.fAd K d_law_low.at_) (fdOf K d_law_low.at_) ["one", "two"] (spF K (ct K) (f_law_low N)) := by
  refine fn_ok Z.F_law_low sc_law_low rfl rfl fun cdv A outer s H E hr => ?_
  have tk := takes_of (X := cxOf (L2.CX P w) P w K mg base ["one", "two", "share_of"] d_law_low.qual d_law_low.scope (He.fAd K d_law_low.at_) cdv A outer s H E) (E := E) rfl rfl rfl rfl
  exact (ss_cons (st_if (te_cmp op_lt ol_lt bl_lt (ae_b (pv 1)) (ae_e se_int) rfl) (ss_one (st_par (i := 0) (j := 1) rfl sc_law_low.nd rfl rfl (by decide) rfl rfl (se_un un_neg ol_neg (ae_b (pv 0))) (se_un un_neg ol_neg (ae_b (pv 1))) rfl)) ss_nil)
  (ss_cons (st_asg (j := 2) sc_law_low.nd rfl (by first | exact .inl rfl | exact .inr rfl) (se_call (ok_law_gcd Z) (hr.mono (by decide)) rfl Z.gl__law_gcd Z.kp_law_gcd (bi_law_gcd Z) (fun σ => passAt tk σ) (af_cons (se_var (pv 0)) (af_cons (se_var (pv 1)) af_nil))))
  (ss_one (st_rt (se_tup (af_cons (se_bin op_divB ol_div (ae_b (pv 0)) (ae_b (pv 2))) (af_cons (se_bin op_divB ol_div (ae_b (pv 1)) (ae_b (pv 2))) af_nil)))))))
theorem ok_law_key (Z : Zd K mg) {N : Nat} : FnOk P w K mg base (L2.CX P w) 4 (He.fAd K d_law_key.at_) (fdOf K d_law_key.at_) ["one"] (spF K (ct K) (f_law_key N)) := by
  refine fn_ok Z.F_law_key sc_law_key rfl rfl fun cdv A outer s H E hr => ?_
  have tk := takes_of (X := cxOf (L2.CX P w) P w K mg base ["one", "knot", "under"] d_law_key.qual d_law_key.scope (He.fAd K d_law_key.at_) cdv A outer s H E) (E := E) rfl rfl rfl rfl
  exact (ss_cons (st_unp (se_var (pv 0)) (tg_t rfl rfl (tg_cons (tg_n sc_law_key.nd rfl (by first | exact .inl rfl | exact .inr rfl)) (tg_cons (tg_n sc_law_key.nd rfl (by first | exact .inl rfl | exact .inr rfl)) tg_nil)) rfl))
  (ss_one (st_rt (se_tup (af_cons (se_call (ok_law_low Z) (hr.mono (by decide)) rfl Z.gl__law_low Z.kp_law_low (bi_law_low Z) (fun σ => passAt tk σ) (af_cons (se_ix ix_seq ol_idx (ae_b (pv 1)) (ae_e se_int) (fun _ _ => rfl)) (af_cons (se_var (pv 2)) af_nil))) (af_cons (se_call (ok_law_low Z) (hr.mono (by decide)) rfl Z.gl__law_low Z.kp_law_low (bi_law_low Z) (fun σ => passAt tk σ) (af_cons (se_ix ix_seq ol_idx (ae_b (pv 1)) (ae_e se_int) (fun _ _ => rfl)) (af_cons (se_bin op_mulBB ol_mul (ae_b (pv 2)) (ae_b (pv 2))) af_nil))) (af_cons (se_ix ix_seq ol_idx (ae_b (pv 1)) (ae_e se_int) (fun _ _ => rfl)) af_nil)))))))
theorem ok_law_pool (Z : Zd K mg) {N : Nat} : FnOk P w K mg base (L2.CX P w) 6 (He.fAd K d_law_pool.at_) (fdOf K d_law_pool.at_) ["bag", "many"] (spF K (ct K) (f_law_pool N)) := by
  refine fn_ok Z.F_law_pool sc_law_pool rfl rfl fun cdv A outer s H E hr => ?_
  have tk := takes_of (X := cxOf (L2.CX P w) P w K mg base ["bag", "many", "told", "i", "one", "two"] d_law_pool.qual d_law_pool.scope (He.fAd K d_law_pool.at_) cdv A outer s H E) (E := E) rfl rfl rfl rfl
  have hu : (A.deeper (envOfC d_law_pool.qual d_law_pool.scope s.heap.objs.size (He.fAd K d_law_pool.at_) cdv)).units + 65 < cLine := by
    have := hr.un
    omega
  exact (ss_cons (st_asg (j := 2) sc_law_pool.nd rfl (by first | exact .inl rfl | exact .inr rfl) (se_lst af_nil))
  (ss_cons (st_fgt [5] (st_for (passes_of rfl) rfl (it_r1 rfl Z.fr_range (ae_b (pv 1))) (tg_n sc_law_pool.nd rfl (by first | exact .inl rfl | exact .inr rfl)) (ss_fgt [3, 4] (ss_cons (st_asg (j := 4) sc_law_pool.nd rfl (by first | exact .inl rfl | exact .inr rfl) (se_callB' (ok_law_factor Z) (hr.mono (by decide)) rfl Z.gl__law_factor Z.kp_law_factor (bi_law_factor Z) (fun σ => passAt tk σ) (pv 0) af_nil))
  (ss_one (st_if (te_cmp (op_notInD hu) ol_notIn bl_notIn (ae_e (se_call (ok_law_key Z) (hr.mono (by decide)) rfl Z.gl__law_key Z.kp_law_key (bi_law_key Z) (fun σ => passAt tk σ) (af_cons (se_var (pv 4)) af_nil))) (ae_e (se_lc (own := [("two", 5)]) rfl rfl sc_law_pool.nd (it_l rfl (ae_b (pv 2))) (blkOk_by (by show blkC ["bag", "many", "told", "i", "one", "two"] (defScope s_law_pool) _ [("two", 5)] = true; decide +kernel)) (fun _ _ _ _ _ => (tg_n sc_law_pool.nd rfl (by first | exact .inl rfl | exact .inr rfl))) (fun _ _ _ _ _ => pts_n) (fun _ _ _ _ _ => (se_call (ok_law_key Z) (hr.mono (by decide)) rfl Z.gl__law_key Z.kp_law_key (bi_law_key Z) passW0 (af_cons (se_var (pv 5)) af_nil))))) rfl) (ss_one (st_app (j := 2) rfl (pv 2) (se_var (pv 4)))) ss_nil))))))
  (ss_one (st_rt (se_var (pv 2))))))
theorem ok_law_lesser (Z : Zd K mg) {N : Nat} : FnOk P w K mg base (L2.CX P w) 2 (He.fAd K d_law_lesser.at_) (fdOf K d_law_lesser.at_) ["one", "two"] (spF K (ct K) (f_law_lesser N)) := by
  refine fn_ok Z.F_law_lesser sc_law_lesser rfl rfl fun cdv A outer s H E hr => ?_
  exact (ss_one (st_rt (sv_if (te_cmp op_lt ol_lt bl_lt (ae_b (pv 0)) (ae_b (pv 1)) rfl) (se_var (pv 0)) (se_var (pv 1)))))
theorem ok_law_counts (Z : Zd K mg) {N : Nat} : FnOk P w K mg base (L2.CX P w) 4 (He.fAd K d_law_counts.at_) (fdOf K d_law_counts.at_) ["bag", "pool", "cap"] (spF K (ct K) (f_law_counts N)) := by
  refine fn_ok Z.F_law_counts sc_law_counts rfl rfl fun cdv A outer s H E hr => ?_
  have tk := takes_of (X := cxOf (L2.CX P w) P w K mg base ["bag", "pool", "cap", "told", "left", "knot", "under", "many"] d_law_counts.qual d_law_counts.scope (He.fAd K d_law_counts.at_) cdv A outer s H E) (E := E) rfl rfl rfl rfl
  exact (ss_cons (st_par (i := 3) (j := 4) rfl sc_law_counts.nd rfl rfl (by decide) rfl rfl (se_lst af_nil) (se_var (pv 2)) rfl)
  (ss_cons (st_fgt [4] (st_for (passes_of rfl) rfl (it_l rfl (ae_b (pv 1))) (tg_t rfl rfl (tg_cons (tg_n sc_law_counts.nd rfl (by first | exact .inl rfl | exact .inr rfl)) (tg_cons (tg_n sc_law_counts.nd rfl (by first | exact .inl rfl | exact .inr rfl)) tg_nil)) rfl) (ss_fgt [5, 6, 7] (ss_cons (st_asg (j := 7) sc_law_counts.nd rfl (by first | exact .inl rfl | exact .inr rfl) (se_call (ok_law_lesser Z) (hr.mono (by decide)) rfl Z.gl__law_lesser Z.kp_law_lesser (bi_law_lesser Z) (fun σ => passAt tk σ) (af_cons (se_callB' (ok_law_of Z) (hr.mono (by decide)) rfl Z.gl__law_of Z.kp_law_of (bi_law_of Z) (fun σ => passAt tk σ) (pv 0) (af_cons (se_lst (af_cons se_int (af_cons se_int (af_cons se_int (af_cons se_int (af_cons se_int (af_cons se_int af_nil))))))) af_nil)) (af_cons (se_bin op_divB ol_div (ae_b (pv 4)) (ae_e (se_ix ix_seq ol_idx (ae_b (pv 5)) (ae_e se_int) (fun _ _ => rfl)))) af_nil))))
  (ss_cons (st_asg (j := 4) sc_law_counts.nd rfl (by first | exact .inl rfl | exact .inr rfl) (se_bin op_sub ol_sub (ae_b (pv 4)) (ae_e (se_bin op_mulBB ol_mul (ae_b (pv 7)) (ae_e (se_ix ix_seq ol_idx (ae_b (pv 5)) (ae_e se_int) (fun _ _ => rfl)))))))
  (ss_one (st_app (j := 3) rfl (pv 3) (se_var (pv 7)))))))))
  (ss_one (st_rt (se_var (pv 3))))))
theorem ok_law_scaled (Z : Zd K mg) {N : Nat} : FnOk P w K mg base (L2.CX P w) 2 (He.fAd K d_law_scaled.at_) (fdOf K d_law_scaled.at_) ["coefs", "scale"] (spF K (ct K) (f_law_scaled N)) := by
  refine fn_ok Z.F_law_scaled sc_law_scaled rfl rfl fun cdv A outer s H E hr => ?_
  exact (ss_one (st_rt (se_tup (af_cons (se_lc (own := [("value", 2)]) rfl rfl sc_law_scaled.nd (it_l rfl (ae_b (pv 0))) (blkOk_by (by show blkC ["coefs", "scale", "value"] (defScope s_law_scaled) _ [("value", 2)] = true; decide +kernel)) (fun _ _ _ _ _ => (tg_n sc_law_scaled.nd rfl (by first | exact .inl rfl | exact .inr rfl))) (fun _ _ _ _ _ => pts_n) (fun _ _ _ _ _ => (se_bin op_mulBB ol_mul (ae_b (pv 2)) (ae_e (se_ix ix_seq ol_idx (ae_b (pv 1)) (ae_e se_int) (fun _ _ => rfl)))))) (af_cons (se_bin op_mulBB ol_mul (ae_e (se_ix ix_seq ol_idx (ae_b (pv 0)) (ae_e (se_un un_neg ol_neg (ae_e se_int))) (fun _ _ => rfl))) (ae_e (se_ix ix_seq ol_idx (ae_b (pv 1)) (ae_e se_int) (fun _ _ => rfl)))) af_nil)))))
theorem ok_law_mul (Z : Zd K mg) {N : Nat} : FnOk P w K mg base (L2.CX P w) 2 (He.fAd K d_law_mul.at_) (fdOf K d_law_mul.at_) ["one", "two"] (spF K (ct K) (f_law_mul N)) := by
  refine fn_ok Z.F_law_mul sc_law_mul rfl rfl fun cdv A outer s H E hr => ?_
  exact (ss_cons (st_if (te_w (tw_or (te_not (te_val rfl (se_var (pv 0)))) (tw_or1 (te_not (te_val rfl (se_var (pv 1))))))) (ss_one (st_rt (se_lst af_nil))) ss_nil)
  (ss_cons (st_lc (own := [("i", 3)]) (j := 2) rfl rfl sc_law_mul.nd rfl rfl rfl (it_r1 rfl Z.fr_range (ae_e (se_bin op_sub ol_sub (ae_e (se_bin op_addB ol_add (ae_e (se_callB call_len ol_len rfl Z.fr_len (by decide +kernel) (as_cons (ae_b (pv 0)) as_nil))) (ae_e (se_callB call_len ol_len rfl Z.fr_len (by decide +kernel) (as_cons (ae_b (pv 1)) as_nil))))) (ae_e se_int)))) (blkOk_by (by show blkC ["one", "two", "told", "i", "j"] (defScope s_law_mul) _ [("i", 3)] = true; decide +kernel)) (fun _ _ _ _ _ => (tg_n sc_law_mul.nd rfl (by first | exact .inl rfl | exact .inr rfl))) (fun _ _ _ _ _ => pts_n) (fun _ _ _ _ _ => se_int))
  (ss_cons (st_for (passes_of rfl) rfl (it_r1 rfl Z.fr_range (ae_e (se_callB call_len ol_len rfl Z.fr_len (by decide +kernel) (as_cons (ae_b (pv 0)) as_nil)))) (tg_n sc_law_mul.nd rfl (by first | exact .inl rfl | exact .inr rfl)) (ss_fgt [3, 4] (ss_one (st_for (passes_of rfl) rfl (it_r1 rfl Z.fr_range (ae_e (se_callB call_len ol_len rfl Z.fr_len (by decide +kernel) (as_cons (ae_b (pv 1)) as_nil)))) (tg_n sc_law_mul.nd rfl (by first | exact .inl rfl | exact .inr rfl)) (ss_fgt [4] (ss_one (st_set (j := 2) (se_bin op_addB ol_add (ae_e (se_ix ix_seq ol_idx (ae_b (pv 2)) (ae_e (se_bin op_addB ol_add (ae_b (pv 3)) (ae_b (pv 4)))) (fun _ _ => rfl))) (ae_e (se_bin op_mulBB ol_mul (ae_e (se_ix ix_seq ol_idx (ae_b (pv 0)) (ae_b (pv 3)) (fun _ _ => rfl))) (ae_e (se_ix ix_seq ol_idx (ae_b (pv 1)) (ae_b (pv 4)) (fun _ _ => rfl)))))) (pg_sub (pv 2) (se_bin op_addB ol_add (ae_b (pv 3)) (ae_b (pv 4))) set_list))))))))
  (ss_one (st_rt (se_var (pv 2)))))))
theorem ok_law_knot_poly (Z : Zd K mg) {N : Nat} : FnOk P w K mg base (L2.CX P w) 2 (He.fAd K d_law_knot_poly.at_) (fdOf K d_law_knot_poly.at_) ["knot", "under"] (spF K (ct K) (f_law_knot_poly N)) := by
  refine fn_ok Z.F_law_knot_poly sc_law_knot_poly rfl rfl fun cdv A outer s H E hr => ?_
  exact (ss_cons (st_if (te_cmp (op_eqD hr.units) ol_eq bl_eq (ae_e (se_ix ix_seq ol_idx (ae_b (pv 0)) (ae_e se_int) (fun _ _ => rfl))) (ae_e se_int) rfl) (ss_one (st_rt (se_lst (af_cons (se_un un_neg ol_neg (ae_e (se_ix ix_seq ol_idx (ae_b (pv 0)) (ae_e se_int) (fun _ _ => rfl)))) (af_cons (se_var (pv 1)) af_nil))))) ss_nil)
  (ss_one (st_rt (se_lst (af_cons (se_ix ix_seq ol_idx (ae_b (pv 0)) (ae_e se_int) (fun _ _ => rfl)) (af_cons (se_bin op_mulBB ol_mul (ae_e (se_un un_neg ol_neg (ae_e (se_ix ix_seq ol_idx (ae_b (pv 0)) (ae_e se_int) (fun _ _ => rfl))))) (ae_b (pv 1))) (af_cons (se_bin op_mulBB ol_mul (ae_b (pv 1)) (ae_b (pv 1))) af_nil)))))))
theorem ok_law_joined (Z : Zd K mg) {N : Nat} : FnOk P w K mg base (L2.CX P w) 3 (He.fAd K d_law_joined.at_) (fdOf K d_law_joined.at_) ["pool", "counts"] (spF K (ct K) (f_law_joined N)) := by
  refine fn_ok Z.F_law_joined sc_law_joined rfl rfl fun cdv A outer s H E hr => ?_
  have tk := takes_of (X := cxOf (L2.CX P w) P w K mg base ["pool", "counts", "told", "knot", "under", "many", "i"] d_law_joined.qual d_law_joined.scope (He.fAd K d_law_joined.at_) cdv A outer s H E) (E := E) rfl rfl rfl rfl
  exact (ss_cons (st_asg (j := 2) sc_law_joined.nd rfl (by first | exact .inl rfl | exact .inr rfl) (se_lst (af_cons se_int af_nil)))
  (ss_cons (st_for (passes_of rfl) rfl (it_zip rfl rfl Z.fr_zip (ae_b (pv 0)) (ae_b (pv 1))) (tg_t rfl rfl (tg_cons (tg_t rfl rfl (tg_cons (tg_n sc_law_joined.nd rfl (by first | exact .inl rfl | exact .inr rfl)) (tg_cons (tg_n sc_law_joined.nd rfl (by first | exact .inl rfl | exact .inr rfl)) tg_nil)) rfl) (tg_cons (tg_n sc_law_joined.nd rfl (by first | exact .inl rfl | exact .inr rfl)) tg_nil)) rfl) (ss_fgt [3, 4, 5, 6] (ss_one (st_for (passes_of rfl) rfl (it_r1 rfl Z.fr_range (ae_b (pv 5))) (tg_n sc_law_joined.nd rfl (by first | exact .inl rfl | exact .inr rfl)) (ss_fgt [6] (ss_one (st_asg (j := 2) sc_law_joined.nd rfl (by first | exact .inl rfl | exact .inr rfl) (se_call (ok_law_mul Z) (hr.mono (by decide)) rfl Z.gl__law_mul Z.kp_law_mul (bi_law_mul Z) (fun σ => passAt tk σ) (af_cons (se_var (pv 2)) (af_cons (se_call (ok_law_knot_poly Z) (hr.mono (by decide)) rfl Z.gl__law_knot_poly Z.kp_law_knot_poly (bi_law_knot_poly Z) (fun σ => passAt tk σ) (af_cons (se_var (pv 3)) (af_cons (se_var (pv 4)) af_nil))) af_nil))))))))))
  (ss_one (st_rt (se_var (pv 2))))))
theorem ok_law_scale (Z : Zd K mg) {N : Nat} : FnOk P w K mg base (L2.CX P w) 4 (He.fAd K d_law_scale.at_) (fdOf K d_law_scale.at_) ["bag"] (spF K (ct K) (f_law_scale N)) := by
  refine fn_ok Z.F_law_scale sc_law_scale rfl rfl fun cdv A outer s H E hr => ?_
  have tk := takes_of (X := cxOf (L2.CX P w) P w K mg base ["bag"] d_law_scale.qual d_law_scale.scope (He.fAd K d_law_scale.at_) cdv A outer s H E) (E := E) rfl rfl rfl rfl
  exact (ss_one (st_rt (se_tup (af_cons (se_callB' (ok_law_of Z) (hr.mono (by decide)) rfl Z.gl__law_of Z.kp_law_of (bi_law_of Z) (fun σ => passAt tk σ) (pv 0) (af_cons (se_lst (af_cons se_int (af_cons (se_un un_neg ol_neg (ae_e se_int)) (af_cons se_int (af_cons se_int (af_cons se_int (af_cons (se_un un_neg ol_neg (ae_e se_int)) (af_cons (se_bin op_addB ol_add (ae_e (se_bin op_pow ol_pow (ae_e se_int) (ae_e se_int))) (ae_e se_int)) af_nil)))))))) af_nil)) (af_cons (se_callB' (ok_law_of Z) (hr.mono (by decide)) rfl Z.gl__law_of Z.kp_law_of (bi_law_of Z) (fun σ => passAt tk σ) (pv 0) (af_cons (se_lst (af_cons se_int (af_cons se_int (af_cons se_int (af_cons se_int (af_cons se_int (af_cons (se_bin op_pow ol_pow (ae_e se_int) (ae_e se_int)) af_nil))))))) af_nil)) af_nil)))))
theorem ok_is_integer (Z : Zd K mg) {N : Nat} : FnOk P w K mg base (L2.CX P w) 2 (He.fAd K d_is_integer.at_) (fdOf K d_is_integer.at_) ["value"] (spF K (ct K) (f_is_integer N)) := by
  refine fn_ok Z.F_is_integer sc_is_integer rfl rfl fun cdv A outer s H E hr => ?_
  exact (ss_one (st_rt (sv_and rfl (se_isi rfl Z.isi_int (.ty _) rfl Z.fr_isinstance (ae_b (pv 0)) (pe_bltn rfl Z.fr_int (by decide +kernel) rfl)) (sv_one (sv_not rfl (se_isi rfl Z.isi_bool (.ty _) rfl Z.fr_isinstance (ae_b (pv 0)) (pe_bltn rfl Z.fr_bool (by decide +kernel) rfl)))))))
theorem ok_Ratio_init (Z : Zd K mg) {N : Nat} : FnOk P w K mg base (L2.CX P w) 3 (He.fAd K d_Ratio_init.at_) (fdOf K d_Ratio_init.at_) ["self", "top", "bottom"] (spF K (ct K) (f_Ratio_init N)) := by
  refine fn_ok Z.F_Ratio_init sc_Ratio_init rfl rfl fun cdv A outer s H E hr => ?_
  have tk := takes_of (X := cxOf (L2.CX P w) P w K mg base ["self", "top", "bottom", "shared"] d_Ratio_init.qual d_Ratio_init.scope (He.fAd K d_Ratio_init.at_) cdv A outer s H E) (E := E) rfl rfl rfl rfl
  exact (ss_cons (st_if (te_not (te_val rfl (se_call (ok_is_integer Z) (hr.mono (by decide)) rfl Z.gl_is_integer Z.kp_is_integer (bi_is_integer Z) (fun σ => passAt tk σ) (af_cons (se_var (pv 1)) af_nil)))) (ss_one st_dead) ss_nil)
  (ss_cons (st_if (te_w (tw_or (te_not (te_val rfl (se_call (ok_is_integer Z) (hr.mono (by decide)) rfl Z.gl_is_integer Z.kp_is_integer (bi_is_integer Z) (fun σ => passAt tk σ) (af_cons (se_var (pv 2)) af_nil)))) (tw_or1 (te_cmp (op_eqD hr.units) ol_eq bl_eq (ae_b (pv 2)) (ae_e se_int) rfl)))) (ss_one st_dead) ss_nil)
  (ss_cons (st_asg (j := 3) sc_Ratio_init.nd rfl (by first | exact .inl rfl | exact .inr rfl) (se_callF cr_gcd ol_gcd rfl Z.im_gcd (as_cons (ae_b (pv 1)) (as_cons (ae_b (pv 2)) as_nil))))
  (ss_cons (st_if (te_cmp op_lt ol_lt bl_lt (ae_b (pv 2)) (ae_e se_int) rfl) (ss_one (st_asg (j := 3) sc_Ratio_init.nd rfl (by first | exact .inl rfl | exact .inr rfl) (se_un un_neg ol_neg (ae_b (pv 3))))) ss_nil)
  (ss_cons (st_fld rfl Z.fld_top (pv 0) (se_bin op_divB ol_div (ae_b (pv 1)) (ae_b (pv 3))))
  (ss_one (st_fld rfl Z.fld_bottom (pv 0) (se_bin op_divB ol_div (ae_b (pv 2)) (ae_b (pv 3))))))))))
theorem ok_law_number (Z : Zd K mg) {N : Nat} : FnOk P w K mg base (L2.CX P w) 5 (He.fAd K d_law_number.at_) (fdOf K d_law_number.at_) ["bag", "one", "two"] (spF K (ct K) (f_law_number N)) := by
  refine fn_ok Z.F_law_number sc_law_number rfl rfl fun cdv A outer s H E hr => ?_
  have tk := takes_of (X := cxOf (L2.CX P w) P w K mg base ["bag", "one", "two"] d_law_number.qual d_law_number.scope (He.fAd K d_law_number.at_) cdv A outer s H E) (E := E) rfl rfl rfl rfl
  exact (ss_cons (st_unp (se_call (ok_law_low Z) (hr.mono (by decide)) rfl Z.gl__law_low Z.kp_law_low (bi_law_low Z) (fun σ => passAt tk σ) (af_cons (se_var (pv 1)) (af_cons (se_var (pv 2)) af_nil))) (tg_t rfl rfl (tg_cons (tg_n sc_law_number.nd rfl (by first | exact .inl rfl | exact .inr rfl)) (tg_cons (tg_n sc_law_number.nd rfl (by first | exact .inl rfl | exact .inr rfl)) tg_nil)) rfl))
  (ss_cons (st_if (te_w (tw_and (te_cmp (op_eqD hr.units) ol_eq bl_eq (ae_b (pv 2)) (ae_e se_int) rfl) (tw_and1 (te_cmp (op_neD hr.units) ol_ne bl_ne (ae_e (se_callB' (ok_law_draw Z) (hr.mono (by decide)) rfl Z.gl__law_draw Z.kp_law_draw (bi_law_draw Z) (fun σ => passAt tk σ) (pv 0) (af_cons se_int af_nil))) (ae_e se_int) rfl)))) (ss_one (st_rt (se_var (pv 1)))) ss_nil)
  (ss_one (st_rt (se_make Z.mk_Ratio (ok_Ratio_init Z) (hr.mono (by decide)) rfl Z.gl_Ratio (ball_Ratio_init Z) .nil (fun _ => rfl) (af_cons (se_var (pv 1)) (af_cons (se_var (pv 2)) af_nil)))))))
theorem ok_law_poly (Z : Zd K mg) {N : Nat} : FnOk P w K mg base (L2.CX P w) 6 (He.fAd K d_law_poly.at_) (fdOf K d_law_poly.at_) ["bag", "coefs", "under"] (spF K (ct K) (f_law_poly N)) := by
  refine fn_ok Z.F_law_poly sc_law_poly rfl rfl fun cdv A outer s H E hr => ?_
  exact (ss_one (st_rt (se_callTy call_tuple_of ol_tuple rfl Z.fr_tuple (by decide +kernel) (as_cons (ae_e (se_lc (own := [("due", 3)]) rfl rfl sc_law_poly.nd (it_l rfl (ae_b (pv 1))) (blkOk_by (by show blkC ["bag", "coefs", "under", "due"] (defScope s_law_poly) _ [("due", 3)] = true; decide +kernel)) (fun _ _ _ _ _ => (tg_n sc_law_poly.nd rfl (by first | exact .inl rfl | exact .inr rfl))) (fun _ _ _ _ _ => pts_n) (fun _ _ _ _ _ => (se_callB' (ok_law_number Z) (hr.mono (by decide)) rfl Z.gl__law_number Z.kp_law_number (bi_law_number Z) passW0 (pv 0) (af_cons (se_var (pv 3)) (af_cons (se_var (pv 2)) af_nil)))))) as_nil))))
theorem ok_law_items (Z : Zd K mg) {N : Nat} : FnOk P w K mg base (L2.CX P w) 2 (He.fAd K d_law_items.at_) (fdOf K d_law_items.at_) ["pool", "counts"] (spF K (ct K) (f_law_items N)) := by
  refine fn_ok Z.F_law_items sc_law_items rfl rfl fun cdv A outer s H E hr => ?_
  exact (ss_cons (st_asg (j := 2) sc_law_items.nd rfl (by first | exact .inl rfl | exact .inr rfl) (se_lst af_nil))
  (ss_cons (st_for (passes_of rfl) rfl (it_zip rfl rfl Z.fr_zip (ae_b (pv 0)) (ae_b (pv 1))) (tg_t rfl rfl (tg_cons (tg_n sc_law_items.nd rfl (by first | exact .inl rfl | exact .inr rfl)) (tg_cons (tg_n sc_law_items.nd rfl (by first | exact .inl rfl | exact .inr rfl)) tg_nil)) rfl) (ss_fgt [3, 4, 5] (ss_one (st_asg (j := 2) sc_law_items.nd rfl (by first | exact .inl rfl | exact .inr rfl) (se_bin op_addB ol_add (ae_b (pv 2)) (ae_e (se_lc (own := [("i", 5)]) rfl rfl sc_law_items.nd (it_r1 rfl Z.fr_range (ae_b (pv 4))) (blkOk_by (by show blkC ["pool", "counts", "told", "one", "many", "i"] (defScope s_law_items) _ [("i", 5)] = true; decide +kernel)) (fun _ _ _ _ _ => (tg_n sc_law_items.nd rfl (by first | exact .inl rfl | exact .inr rfl))) (fun _ _ _ _ _ => pts_n) (fun _ _ _ _ _ => (se_var (pv 3))))))))))
  (ss_one (st_rt (se_var (pv 2))))))
theorem ok_law_power (Z : Zd K mg) {N : Nat} : FnOk P w K mg base (L2.CX P w) 2 (He.fAd K d_law_power.at_) (fdOf K d_law_power.at_) ["base", "many"] (spF K (ct K) (f_law_power N)) := by
  refine fn_ok Z.F_law_power sc_law_power rfl rfl fun cdv A outer s H E hr => ?_
  exact (ss_cons (st_asg (j := 2) sc_law_power.nd rfl (by first | exact .inl rfl | exact .inr rfl) se_int)
  (ss_cons (st_for (passes_of rfl) rfl (it_r1 rfl Z.fr_range (ae_b (pv 1))) (tg_n sc_law_power.nd rfl (by first | exact .inl rfl | exact .inr rfl)) (ss_fgt [3] (ss_one (st_asg (j := 2) sc_law_power.nd rfl (by first | exact .inl rfl | exact .inr rfl) (se_bin op_mulBB ol_mul (ae_b (pv 2)) (ae_b (pv 0)))))))
  (ss_one (st_rt (se_var (pv 2))))))
theorem ok_law_across (Z : Zd K mg) {N : Nat} : FnOk P w K mg base (L2.CX P w) 3 (He.fAd K d_law_across.at_) (fdOf K d_law_across.at_) ["one", "two"] (spF K (ct K) (f_law_across N)) := by
  refine fn_ok Z.F_law_across sc_law_across rfl rfl fun cdv A outer s H E hr => ?_
  have tk := takes_of (X := cxOf (L2.CX P w) P w K mg base ["one", "two", "knot", "under", "other", "below", "scale", "root", "a", "b", "s", "t", "middle"] d_law_across.qual d_law_across.scope (He.fAd K d_law_across.at_) cdv A outer s H E) (E := E) rfl rfl rfl rfl
  exact (ss_cons (st_unp (se_tup (af_cons (se_var (pv 0)) (af_cons (se_var (pv 1)) af_nil))) (tg_t rfl rfl (tg_cons (tg_t rfl rfl (tg_cons (tg_n sc_law_across.nd rfl (by first | exact .inl rfl | exact .inr rfl)) (tg_cons (tg_n sc_law_across.nd rfl (by first | exact .inl rfl | exact .inr rfl)) tg_nil)) rfl) (tg_cons (tg_t rfl rfl (tg_cons (tg_n sc_law_across.nd rfl (by first | exact .inl rfl | exact .inr rfl)) (tg_cons (tg_n sc_law_across.nd rfl (by first | exact .inl rfl | exact .inr rfl)) tg_nil)) rfl) tg_nil)) rfl))
  (ss_cons (st_if (te_w (tw_and (te_cmp (op_eqD hr.units) ol_eq bl_eq (ae_e (se_ix ix_seq ol_idx (ae_b (pv 2)) (ae_e se_int) (fun _ _ => rfl))) (ae_e se_int) rfl) (tw_and1 (te_cmp (op_eqD hr.units) ol_eq bl_eq (ae_e (se_ix ix_seq ol_idx (ae_b (pv 4)) (ae_e se_int) (fun _ _ => rfl))) (ae_e se_int) rfl)))) (ss_one (st_unp (se_tup (af_cons (se_var (pv 4)) (af_cons (se_var (pv 5)) (af_cons (se_var (pv 2)) (af_cons (se_var (pv 3)) af_nil))))) (tg_t rfl rfl (tg_cons (tg_n sc_law_across.nd rfl (by first | exact .inl rfl | exact .inr rfl)) (tg_cons (tg_n sc_law_across.nd rfl (by first | exact .inl rfl | exact .inr rfl)) (tg_cons (tg_n sc_law_across.nd rfl (by first | exact .inl rfl | exact .inr rfl)) (tg_cons (tg_n sc_law_across.nd rfl (by first | exact .inl rfl | exact .inr rfl)) tg_nil)))) rfl))) ss_nil)
  (ss_cons (st_asg (j := 6) sc_law_across.nd rfl (by first | exact .inl rfl | exact .inr rfl) (se_bin op_mulBB ol_mul (ae_b (pv 3)) (ae_b (pv 5))))
  (ss_cons (st_if (te_cmp (op_eqD hr.units) ol_eq bl_eq (ae_e (se_ix ix_seq ol_idx (ae_b (pv 4)) (ae_e se_int) (fun _ _ => rfl))) (ae_e se_int) rfl) (ss_one (st_rt (se_lst (af_cons (se_bin op_mulBB ol_mul (ae_e (se_un un_neg ol_neg (ae_e (se_ix ix_seq ol_idx (ae_b (pv 2)) (ae_e se_int) (fun _ _ => rfl))))) (ae_e (se_ix ix_seq ol_idx (ae_b (pv 4)) (ae_e se_int) (fun _ _ => rfl)))) (af_cons (se_var (pv 6)) af_nil))))) ss_nil)
  (ss_cons (st_fgt [7] (st_if (te_cmp (op_eqD hr.units) ol_eq bl_eq (ae_e (se_ix ix_seq ol_idx (ae_b (pv 2)) (ae_e se_int) (fun _ _ => rfl))) (ae_e se_int) rfl) (ss_cons (st_asg (j := 7) sc_law_across.nd rfl (by first | exact .inl rfl | exact .inr rfl) (se_ix ix_seq ol_idx (ae_b (pv 2)) (ae_e se_int) (fun _ _ => rfl)))
  (ss_one (st_rt (se_lst (af_cons (se_bin op_mulBB ol_mul (ae_e (se_bin op_mulBB ol_mul (ae_b (pv 7)) (ae_b (pv 7)))) (ae_e (se_ix ix_seq ol_idx (ae_b (pv 4)) (ae_e se_int) (fun _ _ => rfl)))) (af_cons (se_bin op_mulBB ol_mul (ae_e (se_bin op_mulBB ol_mul (ae_e (se_un un_neg ol_neg (ae_b (pv 7)))) (ae_e (se_ix ix_seq ol_idx (ae_b (pv 4)) (ae_e se_int) (fun _ _ => rfl))))) (ae_b (pv 6))) (af_cons (se_bin op_mulBB ol_mul (ae_b (pv 6)) (ae_b (pv 6))) af_nil))))))) ss_nil))
  (ss_cons (st_unp (se_tup (af_cons (se_ix ix_seq ol_idx (ae_b (pv 2)) (ae_e se_int) (fun _ _ => rfl)) (af_cons (se_ix ix_seq ol_idx (ae_b (pv 2)) (ae_e se_int) (fun _ _ => rfl)) (af_cons (se_ix ix_seq ol_idx (ae_b (pv 4)) (ae_e se_int) (fun _ _ => rfl)) (af_cons (se_ix ix_seq ol_idx (ae_b (pv 4)) (ae_e se_int) (fun _ _ => rfl)) af_nil))))) (tg_t rfl rfl (tg_cons (tg_n sc_law_across.nd rfl (by first | exact .inl rfl | exact .inr rfl)) (tg_cons (tg_n sc_law_across.nd rfl (by first | exact .inl rfl | exact .inr rfl)) (tg_cons (tg_n sc_law_across.nd rfl (by first | exact .inl rfl | exact .inr rfl)) (tg_cons (tg_n sc_law_across.nd rfl (by first | exact .inl rfl | exact .inr rfl)) tg_nil)))) rfl))
  (ss_cons (st_asg (j := 12) sc_law_across.nd rfl (by first | exact .inl rfl | exact .inr rfl) (se_bin op_mulBB ol_mul (ae_e (se_bin op_mulBB ol_mul (ae_e (se_bin op_sub ol_sub (ae_e (se_bin op_addB ol_add (ae_e (se_bin op_mulBB ol_mul (ae_e (se_bin op_mulBB ol_mul (ae_b (pv 8)) (ae_b (pv 8)))) (ae_b (pv 11)))) (ae_e (se_bin op_mulBB ol_mul (ae_e (se_bin op_mulBB ol_mul (ae_b (pv 10)) (ae_b (pv 10)))) (ae_b (pv 9)))))) (ae_e (se_bin op_mulBB ol_mul (ae_e (se_bin op_mulBB ol_mul (ae_e se_int) (ae_b (pv 9)))) (ae_b (pv 11)))))) (ae_b (pv 6)))) (ae_b (pv 6))))
  (ss_one (st_rt (se_lst (af_cons (se_bin op_mulBB ol_mul (ae_e (se_bin op_mulBB ol_mul (ae_e (se_bin op_mulBB ol_mul (ae_b (pv 9)) (ae_b (pv 9)))) (ae_b (pv 11)))) (ae_b (pv 11))) (af_cons (se_bin op_mulBB ol_mul (ae_e (se_bin op_mulBB ol_mul (ae_e (se_bin op_mulBB ol_mul (ae_e (se_bin op_mulBB ol_mul (ae_e (se_un un_neg ol_neg (ae_b (pv 8)))) (ae_b (pv 9)))) (ae_b (pv 10)))) (ae_b (pv 11)))) (ae_b (pv 6))) (af_cons (se_var (pv 12)) (af_cons (se_bin op_mulBB ol_mul (ae_e (se_bin op_mulBB ol_mul (ae_e (se_un un_neg ol_neg (ae_b (pv 8)))) (ae_b (pv 10)))) (ae_e (se_call (ok_law_power Z) (hr.mono (by decide)) rfl Z.gl__law_power Z.kp_law_power (bi_law_power Z) (fun σ => passAt tk σ) (af_cons (se_var (pv 6)) (af_cons se_int af_nil))))) (af_cons (se_call (ok_law_power Z) (hr.mono (by decide)) rfl Z.gl__law_power Z.kp_law_power (bi_law_power Z) (fun σ => passAt tk σ) (af_cons (se_var (pv 6)) (af_cons se_int af_nil))) af_nil)))))))))))))))
theorem ok_law_all_pairs (Z : Zd K mg) {N : Nat} : FnOk P w K mg base (L2.CX P w) 4 (He.fAd K d_law_all_pairs.at_) (fdOf K d_law_all_pairs.at_) ["items"] (spF K (ct K) (f_law_all_pairs N)) := by
  refine fn_ok Z.F_law_all_pairs sc_law_all_pairs rfl rfl fun cdv A outer s H E hr => ?_
  have tk := takes_of (X := cxOf (L2.CX P w) P w K mg base ["items", "told", "i", "knot", "under", "other"] d_law_all_pairs.qual d_law_all_pairs.scope (He.fAd K d_law_all_pairs.at_) cdv A outer s H E) (E := E) rfl rfl rfl rfl
  exact (ss_cons (st_asg (j := 1) sc_law_all_pairs.nd rfl (by first | exact .inl rfl | exact .inr rfl) (se_lst (af_cons se_int af_nil)))
  (ss_cons (st_for (passes_of rfl) rfl (it_r1 rfl Z.fr_range (ae_e (se_callB call_len ol_len rfl Z.fr_len (by decide +kernel) (as_cons (ae_b (pv 0)) as_nil)))) (tg_n sc_law_all_pairs.nd rfl (by first | exact .inl rfl | exact .inr rfl)) (ss_fgt [2, 3, 4, 5] (ss_cons (st_unp (se_ix ix_seq ol_idx (ae_b (pv 0)) (ae_b (pv 2)) (fun _ _ => rfl)) (tg_t rfl rfl (tg_cons (tg_n sc_law_all_pairs.nd rfl (by first | exact .inl rfl | exact .inr rfl)) (tg_cons (tg_n sc_law_all_pairs.nd rfl (by first | exact .inl rfl | exact .inr rfl)) tg_nil)) rfl))
  (ss_cons (st_if (te_cmp (op_eqD hr.units) ol_eq bl_eq (ae_e (se_ix ix_seq ol_idx (ae_b (pv 3)) (ae_e se_int) (fun _ _ => rfl))) (ae_e se_int) rfl) (ss_one (st_asg (j := 1) sc_law_all_pairs.nd rfl (by first | exact .inl rfl | exact .inr rfl) (se_call (ok_law_mul Z) (hr.mono (by decide)) rfl Z.gl__law_mul Z.kp_law_mul (bi_law_mul Z) (fun σ => passAt tk σ) (af_cons (se_var (pv 1)) (af_cons (se_lst (af_cons (se_un un_neg ol_neg (ae_e (se_ix ix_seq ol_idx (ae_b (pv 3)) (ae_e se_int) (fun _ _ => rfl)))) (af_cons (se_bin op_mulBB ol_mul (ae_b (pv 4)) (ae_b (pv 4))) af_nil))) af_nil))))) ss_nil)
  (ss_one (st_for (passes_of rfl) rfl (it_l rfl (ae_e (se_sl rfl (ae_b (pv 0)) po_n (po_s (se_var (pv 2)))))) (tg_n sc_law_all_pairs.nd rfl (by first | exact .inl rfl | exact .inr rfl)) (ss_fgt [5] (ss_one (st_asg (j := 1) sc_law_all_pairs.nd rfl (by first | exact .inl rfl | exact .inr rfl) (se_call (ok_law_mul Z) (hr.mono (by decide)) rfl Z.gl__law_mul Z.kp_law_mul (bi_law_mul Z) (fun σ => passAt tk σ) (af_cons (se_var (pv 1)) (af_cons (se_call (ok_law_across Z) (hr.mono (by decide)) rfl Z.gl__law_across Z.kp_law_across (bi_law_across Z) (fun σ => passAt tk σ) (af_cons (se_ix ix_seq ol_idx (ae_b (pv 0)) (ae_b (pv 2)) (fun _ _ => rfl)) (af_cons (se_var (pv 5)) af_nil))) af_nil))))))))))))
  (ss_one (st_rt (se_var (pv 1))))))
theorem ok_law_is_int (Z : Zd K mg) {N : Nat} : FnOk P w K mg base (L2.CX P w) 2 (He.fAd K d_law_is_int.at_) (fdOf K d_law_is_int.at_) ["value"] (spF K (ct K) (f_law_is_int N)) := by
  refine fn_ok Z.F_law_is_int sc_law_is_int rfl rfl fun cdv A outer s H E hr => ?_
  exact (ss_one (st_rt (sv_and rfl (se_isi rfl Z.isi_int (.ty _) rfl Z.fr_isinstance (ae_b (pv 0)) (pe_bltn rfl Z.fr_int (by decide +kernel) rfl)) (sv_one (sv_not rfl (se_isi rfl Z.isi_bool (.ty _) rfl Z.fr_isinstance (ae_b (pv 0)) (pe_bltn rfl Z.fr_bool (by decide +kernel) rfl)))))))
theorem ok_law_pair (Z : Zd K mg) {N : Nat} : FnOk P w K mg base (L2.CX P w) 4 (He.fAd K d_law_pair.at_) (fdOf K d_law_pair.at_) ["value"] (spF K (ct K) (f_law_pair N)) := by
  refine fn_ok Z.F_law_pair sc_law_pair rfl rfl fun cdv A outer s H E hr => ?_
  have tk := takes_of (X := cxOf (L2.CX P w) P w K mg base ["value"] d_law_pair.qual d_law_pair.scope (He.fAd K d_law_pair.at_) cdv A outer s H E) (E := E) rfl rfl rfl rfl
  exact (ss_cons (st_if (te_val rfl (se_call (ok_law_is_int Z) (hr.mono (by decide)) rfl Z.gl__law_is_int Z.kp_law_is_int (bi_law_is_int Z) (fun σ => passAt tk σ) (af_cons (se_var (pv 0)) af_nil))) (ss_one (st_rt (se_tup (af_cons (se_var (pv 0)) (af_cons se_int af_nil))))) ss_nil)
  (ss_cons (st_if (te_w (tw_or (te_not (te_val rfl (se_isi rfl Z.isi_Ratio (.own _) rfl Z.fr_isinstance (ae_b (pv 0)) (pe_glob rfl Z.gl_Ratio rfl)))) (tw_or (te_not (te_val rfl (se_call (ok_law_is_int Z) (hr.mono (by decide)) rfl Z.gl__law_is_int Z.kp_law_is_int (bi_law_is_int Z) (fun σ => passAt tk σ) (af_cons (se_fld rfl Z.fld_top (ae_b (pv 0))) af_nil)))) (tw_or1 (te_not (te_val rfl (se_call (ok_law_is_int Z) (hr.mono (by decide)) rfl Z.gl__law_is_int Z.kp_law_is_int (bi_law_is_int Z) (fun σ => passAt tk σ) (af_cons (se_fld rfl Z.fld_bottom (ae_b (pv 0))) af_nil)))))))) (ss_one (st_rt se_non)) ss_nil)
  (ss_cons (st_if (te_w (tw_or (te_cmp op_lt ol_lt bl_lt (ae_e (se_fld rfl Z.fld_bottom (ae_b (pv 0)))) (ae_e se_int) rfl) (tw_or1 (te_cmp (op_neD hr.units) ol_ne bl_ne (ae_e (se_call (ok_law_low Z) (hr.mono (by decide)) rfl Z.gl__law_low Z.kp_law_low (bi_law_low Z) (fun σ => passAt tk σ) (af_cons (se_fld rfl Z.fld_top (ae_b (pv 0))) (af_cons (se_fld rfl Z.fld_bottom (ae_b (pv 0))) af_nil)))) (ae_e (se_tup (af_cons (se_fld rfl Z.fld_top (ae_b (pv 0))) (af_cons (se_fld rfl Z.fld_bottom (ae_b (pv 0))) af_nil)))) rfl)))) (ss_one (st_rt se_non)) ss_nil)
  (ss_one (st_rt (se_tup (af_cons (se_fld rfl Z.fld_top (ae_b (pv 0))) (af_cons (se_fld rfl Z.fld_bottom (ae_b (pv 0))) af_nil))))))))
theorem ok_law_same_poly (Z : Zd K mg) {N : Nat} : FnOk P w K mg base (L2.CX P w) 5 (He.fAd K d_law_same_poly.at_) (fdOf K d_law_same_poly.at_) ["told", "coefs", "under"] (spF K (ct K) (f_law_same_poly N)) := by
  refine fn_ok Z.F_law_same_poly sc_law_same_poly rfl rfl fun cdv A outer s H E hr => ?_
  have tk := takes_of (X := cxOf (L2.CX P w) P w K mg base ["told", "coefs", "under", "value", "due", "got"] d_law_same_poly.qual d_law_same_poly.scope (He.fAd K d_law_same_poly.at_) cdv A outer s H E) (E := E) rfl rfl rfl rfl
  exact (ss_cons (st_if (te_w (tw_or (te_not (te_val rfl (se_isi rfl Z.isi_tuple (.ty _) rfl Z.fr_isinstance (ae_b (pv 0)) (pe_bltn rfl Z.fr_tuple (by decide +kernel) rfl)))) (tw_or1 (te_cmp (op_neD hr.units) ol_ne bl_ne (ae_e (se_callB call_len ol_len rfl Z.fr_len (by decide +kernel) (as_cons (ae_b (pv 0)) as_nil))) (ae_e (se_callB call_len ol_len rfl Z.fr_len (by decide +kernel) (as_cons (ae_b (pv 1)) as_nil))) rfl)))) (ss_one (st_rt se_bl)) ss_nil)
  (ss_cons (st_for (passes_of rfl) rfl (it_zipM rfl rfl Z.fr_zip (ae_b (pv 0)) (ae_b (pv 1))) (tg_t rfl rfl (tg_cons (tg_n sc_law_same_poly.nd rfl (by first | exact .inl rfl | exact .inr rfl)) (tg_cons (tg_n sc_law_same_poly.nd rfl (by first | exact .inl rfl | exact .inr rfl)) tg_nil)) rfl) (ss_fgt [3, 4, 5] (ss_cons (st_asg (j := 5) sc_law_same_poly.nd rfl (by first | exact .inl rfl | exact .inr rfl) (se_call (ok_law_pair Z) (hr.mono (by decide)) rfl Z.gl__law_pair Z.kp_law_pair (bi_law_pair Z) (fun σ => passAt tk σ) (af_cons (se_var (pv 3)) af_nil)))
  (ss_one (st_if (te_w (tw_or (te_cmp op_isN ol_isN bl_isN (ae_b (pv 5)) (ae_e se_non) rfl) (tw_or1 (te_cmp (op_neD hr.units) ol_ne bl_ne (ae_e (se_bin op_mulBB ol_mul (ae_e (se_ix ix_seq ol_idx (ae_b (pv 5)) (ae_e se_int) (fun _ _ => rfl))) (ae_b (pv 2)))) (ae_e (se_bin op_mulBB ol_mul (ae_b (pv 4)) (ae_e (se_ix ix_seq ol_idx (ae_b (pv 5)) (ae_e se_int) (fun _ _ => rfl))))) rfl)))) (ss_one (st_rt se_bl)) ss_nil)))))
  (ss_one (st_rt se_bl))))
theorem ok_law_monic (Z : Zd K mg) {N : Nat} : FnOk P w K mg base (L2.CX P w) 6 (He.fAd K d_law_monic.at_) (fdOf K d_law_monic.at_) ["told", "coefs"] (spF K (ct K) (f_law_monic N)) := by
  refine fn_ok Z.F_law_monic sc_law_monic rfl rfl fun cdv A outer s H E hr => ?_
  have tk := takes_of (X := cxOf (L2.CX P w) P w K mg base ["told", "coefs"] d_law_monic.qual d_law_monic.scope (He.fAd K d_law_monic.at_) cdv A outer s H E) (E := E) rfl rfl rfl rfl
  exact (ss_one (st_rt (se_call (ok_law_same_poly Z) (hr.mono (by decide)) rfl Z.gl__law_same_poly Z.kp_law_same_poly (bi_law_same_poly Z) (fun σ => passAt tk σ) (af_cons (se_var (pv 0)) (af_cons (se_var (pv 1)) (af_cons (se_ix ix_seq ol_idx (ae_b (pv 1)) (ae_e (se_un un_neg ol_neg (ae_e se_int))) (fun _ _ => rfl)) af_nil))))))
theorem okE_TooMany_init (Z : Zd K mg) : FnOk P w K mg base (L2.CX P w) 1 (He.fAd K d_TooMany_init.at_) (fdOf K d_TooMany_init.at_) ["self", "what", "most"] (spI2 K "what" "most") := init2_ok Z.F_TooMany_init sc_TooMany_init fun _ _ _ _ _ _ => ⟨⟨pv 0, pv 1⟩, pv 0, pv 2⟩
theorem ok_bounded (Z : Zd K mg) {N : Nat} : FnOk P w K mg base (L2.CX P w) 3 (He.fAd K d_bounded.at_) (fdOf K d_bounded.at_) ["p", "most"] (spF K (ct K) (f_bounded N)) := by
  refine fn_ok Z.F_bounded sc_bounded rfl rfl fun cdv A outer s H E hr => ?_
  have tk := takes_of (X := cxOf (L2.CX P w) P w K mg base ["p", "most"] d_bounded.qual d_bounded.scope (He.fAd K d_bounded.at_) cdv A outer s H E) (E := E) rfl rfl rfl rfl
  exact (ss_one (st_if (te_cmp op_gt ol_gt bl_gt (ae_e (se_callB call_len ol_len rfl Z.fr_len (by decide +kernel) (as_cons (ae_b (pv 0)) as_nil))) (ae_e (se_bin op_addB ol_add (ae_b (pv 1)) (ae_e se_int))) rfl) (ss_one (st_raise (x := "TooMany") (c := 2) (ct := ct K) Z.er_TooMany (okE_TooMany_init Z) rfl tk (hr.mono (by decide)) (bi_TooMany_init Z) rfl Z.gl_TooMany (af_cons se_str (af_cons (se_var (pv 1)) af_nil)))) ss_nil))
theorem ok_number_over (Z : Zd K mg) {N : Nat} : FnOk P w K mg base (L2.CX P w) 5 (He.fAd K d_number_over.at_) (fdOf K d_number_over.at_) ["top", "bottom"] (spF K (ct K) (f_number_over N)) := by
  refine fn_ok Z.F_number_over sc_number_over rfl rfl fun cdv A outer s H E hr => ?_
  exact (ss_cons (st_if (te_cmp (op_eqD hr.units) ol_eq bl_eq (ae_e (se_bin op_modN ol_mod (ae_b (pv 0)) (ae_b (pv 1)))) (ae_e se_int) rfl) (ss_one (st_rt (se_bin op_divB ol_div (ae_b (pv 0)) (ae_b (pv 1))))) ss_nil)
  (ss_one (st_rt (se_make Z.mk_Ratio (ok_Ratio_init Z) (hr.mono (by decide)) rfl Z.gl_Ratio (ball_Ratio_init Z) .nil (fun _ => rfl) (af_cons (se_var (pv 0)) (af_cons (se_var (pv 1)) af_nil))))))
theorem ok_numbers_over (Z : Zd K mg) {N : Nat} : FnOk P w K mg base (L2.CX P w) 6 (He.fAd K d_numbers_over.at_) (fdOf K d_numbers_over.at_) ["values", "bottom"] (spF K (ct K) (f_numbers_over N)) := by
  refine fn_ok Z.F_numbers_over sc_numbers_over rfl rfl fun cdv A outer s H E hr => ?_
  exact (ss_one (st_rt (se_callTy call_tuple_of ol_tuple rfl Z.fr_tuple (by decide +kernel) (as_cons (ae_e (se_lc (own := [("value", 2)]) rfl rfl sc_numbers_over.nd (it_l rfl (ae_b (pv 0))) (blkOk_by (by show blkC ["values", "bottom", "value"] (defScope s_numbers_over) _ [("value", 2)] = true; decide +kernel)) (fun _ _ _ _ _ => (tg_n sc_numbers_over.nd rfl (by first | exact .inl rfl | exact .inr rfl))) (fun _ _ _ _ _ => pts_n) (fun _ _ _ _ _ => (se_call (ok_number_over Z) (hr.mono (by decide)) rfl Z.gl_number_over Z.kp_number_over (bi_number_over Z) passW0 (af_cons (se_var (pv 2)) (af_cons (se_var (pv 1)) af_nil)))))) as_nil))))
theorem ok_monic (Z : Zd K mg) {N : Nat} : FnOk P w K mg base (L2.CX P w) 7 (He.fAd K d_monic.at_) (fdOf K d_monic.at_) ["values"] (spF K (ct K) (f_monic N)) := by
  refine fn_ok Z.F_monic sc_monic rfl rfl fun cdv A outer s H E hr => ?_
  have tk := takes_of (X := cxOf (L2.CX P w) P w K mg base ["values"] d_monic.qual d_monic.scope (He.fAd K d_monic.at_) cdv A outer s H E) (E := E) rfl rfl rfl rfl
  exact (ss_one (st_rt (se_call (ok_numbers_over Z) (hr.mono (by decide)) rfl Z.gl_numbers_over Z.kp_numbers_over (bi_numbers_over Z) (fun σ => passAt tk σ) (af_cons (se_var (pv 0)) (af_cons (se_ix ix_seq ol_idx (ae_b (pv 0)) (ae_e (se_un un_neg ol_neg (ae_e se_int))) (fun _ _ => rfl)) af_nil)))))
theorem ok_power_sums (Z : Zd K mg) {N : Nat} : FnOk P w K mg base (L2.CX P w) 2 (He.fAd K d_power_sums.at_) (fdOf K d_power_sums.at_) ["a", "count", "modulus"] (spF K (ct K) (f_power_sums N)) := by
  refine fn_ok Z.F_power_sums sc_power_sums rfl rfl fun cdv A outer s H E hr => ?_
  exact (ss_cons (st_asg (j := 3) sc_power_sums.nd rfl (by first | exact .inl rfl | exact .inr rfl) (se_bin op_sub ol_sub (ae_e (se_callB call_len ol_len rfl Z.fr_len (by decide +kernel) (as_cons (ae_b (pv 0)) as_nil))) (ae_e se_int)))
  (ss_cons (st_asg (j := 4) sc_power_sums.nd rfl (by first | exact .inl rfl | exact .inr rfl) (se_lst (af_cons (se_var (pv 3)) af_nil)))
  (ss_cons (st_for (passes_of rfl) rfl (it_r2 rfl Z.fr_range (ae_e se_int) (ae_e (se_bin op_addB ol_add (ae_b (pv 1)) (ae_e se_int)))) (tg_n sc_power_sums.nd rfl (by first | exact .inl rfl | exact .inr rfl)) (ss_fgt [5, 6, 7] (ss_cons (st_asg (j := 6) sc_power_sums.nd rfl (by first | exact .inl rfl | exact .inr rfl) (sv_if (te_cmp op_le ol_le bl_le (ae_b (pv 5)) (ae_b (pv 3)) rfl) (se_bin op_mulBB ol_mul (ae_b (pv 5)) (ae_e (se_ix ix_seq ol_idx (ae_b (pv 0)) (ae_e (se_bin op_sub ol_sub (ae_b (pv 3)) (ae_b (pv 5)))) (fun _ _ => rfl)))) se_int))
  (ss_cons (st_for (passes_of rfl) rfl (it_r2 rfl Z.fr_range (ae_e se_int) (ae_e (se_callB (call_min2 rfl) ol_min rfl Z.fr_min (by decide +kernel) (as_cons (ae_e (se_callB call_len ol_len rfl Z.fr_len (by decide +kernel) (as_cons (ae_b (pv 0)) as_nil))) (as_cons (ae_b (pv 5)) as_nil))))) (tg_n sc_power_sums.nd rfl (by first | exact .inl rfl | exact .inr rfl)) (ss_fgt [7] (ss_one (st_aug iop_add ol_addI sc_power_sums.nd rfl (by first | exact .inl rfl | exact .inr rfl) (se_bin op_mulBB ol_mul (ae_e (se_ix ix_seq ol_idx (ae_b (pv 0)) (ae_e (se_bin op_sub ol_sub (ae_b (pv 3)) (ae_b (pv 7)))) (fun _ _ => rfl))) (ae_e (se_ix ix_seq ol_idx (ae_b (pv 4)) (ae_e (se_bin op_sub ol_sub (ae_b (pv 5)) (ae_b (pv 7)))) (fun _ _ => rfl))))))))
  (ss_one (st_app (j := 4) rfl (pv 4) (sv_if (te_val rfl (se_var (pv 2))) (se_bin op_modN ol_mod (ae_e (se_un un_neg ol_neg (ae_b (pv 6)))) (ae_b (pv 2))) (se_un un_neg ol_neg (ae_b (pv 6))))))))))
  (ss_one (st_rt (se_var (pv 4)))))))
theorem ok_lifted (Z : Zd K mg) {N : Nat} : FnOk P w K mg base (L2.CX P w) 2 (He.fAd K d_lifted.at_) (fdOf K d_lifted.at_) ["a"] (spF K (ct K) (f_lifted N)) := by
  refine fn_ok Z.F_lifted sc_lifted rfl rfl fun cdv A outer s H E hr => ?_
  exact (ss_cons (st_asg (j := 1) sc_lifted.nd rfl (by first | exact .inl rfl | exact .inr rfl) (se_callTy call_list_of ol_list rfl Z.fr_list (by decide +kernel) (as_cons (ae_b (pv 0)) as_nil)))
  (ss_cons (st_set (j := 1) se_int (pg_sub (pv 1) (se_un un_neg ol_neg (ae_e se_int)) set_list))
  (ss_cons (st_asg (j := 2) sc_lifted.nd rfl (by first | exact .inl rfl | exact .inr rfl) se_int)
  (ss_cons (st_fgt [2] (st_for (passes_of rfl) rfl (it_r3 rfl Z.fr_range (ae_e (se_bin op_sub ol_sub (ae_e (se_callB call_len ol_len rfl Z.fr_len (by decide +kernel) (as_cons (ae_b (pv 0)) as_nil))) (ae_e se_int))) (ae_e (se_un un_neg ol_neg (ae_e se_int))) (ae_e (se_un un_neg ol_neg (ae_e se_int)))) (tg_n sc_lifted.nd rfl (by first | exact .inl rfl | exact .inr rfl)) (ss_fgt [3] (ss_cons (st_set (j := 1) (se_bin op_mulBB ol_mul (ae_e (se_ix ix_seq ol_idx (ae_b (pv 0)) (ae_b (pv 3)) (fun _ _ => rfl))) (ae_b (pv 2))) (pg_sub (pv 1) (se_var (pv 3)) set_list))
  (ss_one (st_asg (j := 2) sc_lifted.nd rfl (by first | exact .inl rfl | exact .inr rfl) (se_bin op_mulBB ol_mul (ae_b (pv 2)) (ae_e (se_ix ix_seq ol_idx (ae_b (pv 0)) (ae_e (se_un un_neg ol_neg (ae_e se_int))) (fun _ _ => rfl))))))))))
  (ss_one (st_rt (se_var (pv 1))))))))
theorem ok_primitive (Z : Zd K mg) {N : Nat} : FnOk P w K mg base (L2.CX P w) 2 (He.fAd K d_primitive.at_) (fdOf K d_primitive.at_) ["values"] (spF K (ct K) (f_primitive N)) := by
  refine fn_ok Z.F_primitive sc_primitive rfl rfl fun cdv A outer s H E hr => ?_
  exact (ss_cons (st_asg (j := 1) sc_primitive.nd rfl (by first | exact .inl rfl | exact .inr rfl) se_int)
  (ss_cons (st_for (passes_of rfl) rfl (it_l rfl (ae_b (pv 0))) (tg_n sc_primitive.nd rfl (by first | exact .inl rfl | exact .inr rfl)) (ss_one (st_asg (j := 1) sc_primitive.nd rfl (by first | exact .inl rfl | exact .inr rfl) (se_callF cr_gcd ol_gcd rfl Z.im_gcd (as_cons (ae_b (pv 1)) (as_cons (ae_b (pv 2)) as_nil))))))
  (ss_cons (st_if (te_cmp op_lt ol_lt bl_lt (ae_e (se_ix ix_seq ol_idx (ae_b (pv 0)) (ae_e (se_un un_neg ol_neg (ae_e se_int))) (fun _ _ => rfl))) (ae_e se_int) rfl) (ss_one (st_asg (j := 1) sc_primitive.nd rfl (by first | exact .inl rfl | exact .inr rfl) (se_un un_neg ol_neg (ae_b (pv 1))))) ss_nil)
  (ss_one (st_rt (se_lc (own := [("value", 2)]) rfl rfl sc_primitive.nd (it_l rfl (ae_b (pv 0))) (blkOk_by (by show blkC ["values", "divisor", "value"] (defScope s_primitive) _ [("value", 2)] = true; decide +kernel)) (fun _ _ _ _ _ => (tg_n sc_primitive.nd rfl (by first | exact .inl rfl | exact .inr rfl))) (fun _ _ _ _ _ => pts_n) (fun _ _ _ _ _ => (se_bin op_divB ol_div (ae_b (pv 2)) (ae_b (pv 1))))))))))
theorem ok_lowered (Z : Zd K mg) {N : Nat} : FnOk P w K mg base (L2.CX P w) 3 (He.fAd K d_lowered.at_) (fdOf K d_lowered.at_) ["a", "scale"] (spF K (ct K) (f_lowered N)) := by
  refine fn_ok Z.F_lowered sc_lowered rfl rfl fun cdv A outer s H E hr => ?_
  have tk := takes_of (X := cxOf (L2.CX P w) P w K mg base ["a", "scale", "values", "factor", "value"] d_lowered.qual d_lowered.scope (He.fAd K d_lowered.at_) cdv A outer s H E) (E := E) rfl rfl rfl rfl
  exact (ss_cons (st_asg (j := 2) sc_lowered.nd rfl (by first | exact .inl rfl | exact .inr rfl) (se_lst af_nil))
  (ss_cons (st_asg (j := 3) sc_lowered.nd rfl (by first | exact .inl rfl | exact .inr rfl) se_int)
  (ss_cons (st_fgt [3] (st_for (passes_of rfl) rfl (it_l rfl (ae_b (pv 0))) (tg_n sc_lowered.nd rfl (by first | exact .inl rfl | exact .inr rfl)) (ss_fgt [4] (ss_cons (st_app (j := 2) rfl (pv 2) (se_bin op_mulBB ol_mul (ae_b (pv 4)) (ae_b (pv 3))))
  (ss_one (st_asg (j := 3) sc_lowered.nd rfl (by first | exact .inl rfl | exact .inr rfl) (se_bin op_mulBB ol_mul (ae_b (pv 3)) (ae_b (pv 1)))))))))
  (ss_one (st_rt (se_call (ok_primitive Z) (hr.mono (by decide)) rfl Z.gl_primitive Z.kp_primitive (bi_primitive Z) (fun σ => passAt tk σ) (af_cons (se_var (pv 2)) af_nil)))))))
theorem ok_inverse (Z : Zd K mg) {N : Nat} : FnOk P w K mg base (L2.CX P w) 2 (He.fAd K d_inverse.at_) (fdOf K d_inverse.at_) ["value", "modulus"] (spF K (ct K) (f_inverse N)) := by
  refine fn_ok Z.F_inverse sc_inverse rfl rfl fun cdv A outer s H E hr => ?_
  exact (ss_cons (st_par (i := 2) (j := 3) rfl sc_inverse.nd rfl rfl (by decide) rfl rfl (se_bin op_modN ol_mod (ae_b (pv 0)) (ae_b (pv 1))) (se_var (pv 1)) rfl)
  (ss_cons st_dead
  (ss_cons (st_fgt [2, 3, 5] (st_while (passes_of rfl) (te_cmp (op_neD hr.units) ol_ne bl_ne (ae_b (pv 2)) (ae_e se_int) rfl) (ss_fgt [6] (ss_cons (st_asg (j := 6) sc_inverse.nd rfl (by first | exact .inl rfl | exact .inr rfl) (se_bin op_divB ol_div (ae_b (pv 3)) (ae_b (pv 2))))
  (ss_cons (st_par (i := 2) (j := 3) rfl sc_inverse.nd rfl rfl (by decide) rfl rfl (se_bin op_sub ol_sub (ae_b (pv 3)) (ae_e (se_bin op_mulBB ol_mul (ae_b (pv 6)) (ae_b (pv 2))))) (se_var (pv 2)) rfl)
  (ss_one (st_par (i := 4) (j := 5) rfl sc_inverse.nd rfl rfl (by decide) rfl rfl (se_bin op_sub ol_sub (ae_b (pv 5)) (ae_e (se_bin op_mulBB ol_mul (ae_b (pv 6)) (ae_b (pv 4))))) (se_var (pv 4)) rfl)))))))
  (ss_one (st_rt (se_bin op_modN ol_mod (ae_b (pv 4)) (ae_b (pv 1))))))))
theorem ok_from_power_sums (Z : Zd K mg) {N : Nat} : FnOk P w K mg base (L2.CX P w) 3 (He.fAd K d_from_power_sums.at_) (fdOf K d_from_power_sums.at_) ["sums", "modulus"] (spF K (ct K) (f_from_power_sums N)) := by
  refine fn_ok Z.F_from_power_sums sc_from_power_sums rfl rfl fun cdv A outer s H E hr => ?_
  have tk := takes_of (X := cxOf (L2.CX P w) P w K mg base ["sums", "modulus", "size", "values", "k", "total", "back"] d_from_power_sums.qual d_from_power_sums.scope (He.fAd K d_from_power_sums.at_) cdv A outer s H E) (E := E) rfl rfl rfl rfl
  exact (ss_cons (st_asg (j := 2) sc_from_power_sums.nd rfl (by first | exact .inl rfl | exact .inr rfl) (se_bin op_sub ol_sub (ae_e (se_callB call_len ol_len rfl Z.fr_len (by decide +kernel) (as_cons (ae_b (pv 0)) as_nil))) (ae_e se_int)))
  (ss_cons (st_asg (j := 3) sc_from_power_sums.nd rfl (by first | exact .inl rfl | exact .inr rfl) (se_bin op_addB ol_add (ae_e (se_bin op_mulBB ol_mul (ae_e (se_lst (af_cons se_int af_nil))) (ae_b (pv 2)))) (ae_e (se_lst (af_cons se_int af_nil)))))
  (ss_cons (st_for (passes_of rfl) rfl (it_r2 rfl Z.fr_range (ae_e se_int) (ae_e (se_bin op_addB ol_add (ae_b (pv 2)) (ae_e se_int)))) (tg_n sc_from_power_sums.nd rfl (by first | exact .inl rfl | exact .inr rfl)) (ss_fgt [4, 5, 6] (ss_cons (st_asg (j := 5) sc_from_power_sums.nd rfl (by first | exact .inl rfl | exact .inr rfl) (se_ix ix_seq ol_idx (ae_b (pv 0)) (ae_b (pv 4)) (fun _ _ => rfl)))
  (ss_cons (st_for (passes_of rfl) rfl (it_r2 rfl Z.fr_range (ae_e se_int) (ae_b (pv 4))) (tg_n sc_from_power_sums.nd rfl (by first | exact .inl rfl | exact .inr rfl)) (ss_fgt [6] (ss_one (st_aug iop_add ol_addI sc_from_power_sums.nd rfl (by first | exact .inl rfl | exact .inr rfl) (se_bin op_mulBB ol_mul (ae_e (se_ix ix_seq ol_idx (ae_b (pv 3)) (ae_e (se_bin op_sub ol_sub (ae_b (pv 2)) (ae_b (pv 6)))) (fun _ _ => rfl))) (ae_e (se_ix ix_seq ol_idx (ae_b (pv 0)) (ae_e (se_bin op_sub ol_sub (ae_b (pv 4)) (ae_b (pv 6)))) (fun _ _ => rfl))))))))
  (ss_one (st_if (te_val rfl (se_var (pv 1))) (ss_one (st_set (j := 3) (se_bin op_modN ol_mod (ae_e (se_bin op_mulBB ol_mul (ae_e (se_un un_neg ol_neg (ae_b (pv 5)))) (ae_e (se_call (ok_inverse Z) (hr.mono (by decide)) rfl Z.gl_inverse Z.kp_inverse (bi_inverse Z) (fun σ => passAt tk σ) (af_cons (se_var (pv 4)) (af_cons (se_var (pv 1)) af_nil)))))) (ae_b (pv 1))) (pg_sub (pv 3) (se_bin op_sub ol_sub (ae_b (pv 2)) (ae_b (pv 4))) set_list))) (ss_one (st_set (j := 3) (se_bin op_divB ol_div (ae_e (se_un un_neg ol_neg (ae_b (pv 5)))) (ae_b (pv 4))) (pg_sub (pv 3) (se_bin op_sub ol_sub (ae_b (pv 2)) (ae_b (pv 4))) set_list)))))))))
  (ss_one (st_rt (se_var (pv 3)))))))
theorem ok_raised (Z : Zd K mg) {N : Nat} : FnOk P w K mg base (L2.CX P w) 2 (He.fAd K d_raised.at_) (fdOf K d_raised.at_) ["base", "exponent"] (spF K (ct K) (f_raised N)) := by
  refine fn_ok Z.F_raised sc_raised rfl rfl fun cdv A outer s H E hr => ?_
  exact (ss_cons (st_asg (j := 2) sc_raised.nd rfl (by first | exact .inl rfl | exact .inr rfl) se_int)
  (ss_cons (st_for (passes_of rfl) rfl (it_r1 rfl Z.fr_range (ae_b (pv 1))) (tg_n sc_raised.nd rfl (by first | exact .inl rfl | exact .inr rfl)) (ss_fgt [3] (ss_one (st_asg (j := 2) sc_raised.nd rfl (by first | exact .inl rfl | exact .inr rfl) (se_bin op_mulBB ol_mul (ae_b (pv 2)) (ae_b (pv 0)))))))
  (ss_one (st_rt (se_var (pv 2))))))
theorem ok_powers_of (Z : Zd K mg) {N : Nat} : FnOk P w K mg base (L2.CX P w) 4 (He.fAd K d_powers_of.at_) (fdOf K d_powers_of.at_) ["a", "exponent"] (spF K (ct K) (f_powers_of N)) := by
  refine fn_ok Z.F_powers_of sc_powers_of rfl rfl fun cdv A outer s H E hr => ?_
  have tk := takes_of (X := cxOf (L2.CX P w) P w K mg base ["a", "exponent", "size", "sums", "chosen", "k"] d_powers_of.qual d_powers_of.scope (He.fAd K d_powers_of.at_) cdv A outer s H E) (E := E) rfl rfl rfl rfl
  exact (ss_cons (st_asg (j := 2) sc_powers_of.nd rfl (by first | exact .inl rfl | exact .inr rfl) (se_bin op_sub ol_sub (ae_e (se_callB call_len ol_len rfl Z.fr_len (by decide +kernel) (as_cons (ae_b (pv 0)) as_nil))) (ae_e se_int)))
  (ss_cons (st_if (te_cmp (op_eqD hr.units) ol_eq bl_eq (ae_b (pv 2)) (ae_e se_int) rfl) (ss_one (st_rt (se_lst (af_cons se_int af_nil)))) ss_nil)
  (ss_cons (st_asg (j := 3) sc_powers_of.nd rfl (by first | exact .inl rfl | exact .inr rfl) (se_callD (ok_power_sums Z) (hr.mono (by decide)) rfl Z.gl_power_sums Z.kp_power_sums (bd_power_sums Z).2 (bd_power_sums Z).1 (fun _ => ⟨_, _, rfl, rfl, rfl⟩) (af_cons (se_call (ok_lifted Z) (hr.mono (by decide)) rfl Z.gl_lifted Z.kp_lifted (bi_lifted Z) (fun σ => passAt tk σ) (af_cons (se_var (pv 0)) af_nil)) (af_cons (se_bin op_mulBB ol_mul (ae_b (pv 2)) (ae_b (pv 1))) af_nil))))
  (ss_cons (st_lc (own := [("k", 5)]) (j := 4) rfl rfl sc_powers_of.nd rfl rfl rfl (it_r1 rfl Z.fr_range (ae_e (se_bin op_addB ol_add (ae_b (pv 2)) (ae_e se_int)))) (blkOk_by (by show blkC ["a", "exponent", "size", "sums", "chosen", "k"] (defScope s_powers_of) _ [("k", 5)] = true; decide +kernel)) (fun _ _ _ _ _ => (tg_n sc_powers_of.nd rfl (by first | exact .inl rfl | exact .inr rfl))) (fun _ _ _ _ _ => pts_n) (fun _ _ _ _ _ => (se_ix ix_seq ol_idx (ae_b (pv 3)) (ae_e (se_bin op_mulBB ol_mul (ae_b (pv 1)) (ae_b (pv 5)))) (fun _ _ => rfl))))
  (ss_one (st_rt (se_call (ok_lowered Z) (hr.mono (by decide)) rfl Z.gl_lowered Z.kp_lowered (bi_lowered Z) (fun σ => passAt tk σ) (af_cons (se_callD (ok_from_power_sums Z) (hr.mono (by decide)) rfl Z.gl_from_power_sums Z.kp_from_power_sums (bd_from_power_sums Z).2 (bd_from_power_sums Z).1 (fun _ => ⟨_, _, rfl, rfl, rfl⟩) (af_cons (se_var (pv 4)) af_nil)) (af_cons (se_call (ok_raised Z) (hr.mono (by decide)) rfl Z.gl_raised Z.kp_raised (bi_raised Z) (fun σ => passAt tk σ) (af_cons (se_ix ix_seq ol_idx (ae_b (pv 0)) (ae_e (se_un un_neg ol_neg (ae_e se_int))) (fun _ _ => rfl)) (af_cons (se_var (pv 1)) af_nil))) af_nil)))))))))
theorem ok_fraction (Z : Zd K mg) {N : Nat} : FnOk P w K mg base (L2.CX P w) 2 (He.fAd K d_fraction.at_) (fdOf K d_fraction.at_) ["number"] (spF K (ct K) (f_fraction N)) := by
  refine fn_ok Z.F_fraction sc_fraction rfl rfl fun cdv A outer s H E hr => ?_
  exact (ss_cons (st_if (te_val rfl (se_isi rfl Z.isi_int (.ty _) rfl Z.fr_isinstance (ae_b (pv 0)) (pe_bltn rfl Z.fr_int (by decide +kernel) rfl))) (ss_one (st_rt (se_tup (af_cons (se_var (pv 0)) (af_cons se_int af_nil))))) ss_nil)
  (ss_one (st_rt (se_tup (af_cons (se_fld rfl Z.fld_top (ae_b (pv 0))) (af_cons (se_fld rfl Z.fld_bottom (ae_b (pv 0))) af_nil))))))
theorem ok_integers (Z : Zd K mg) {N : Nat} : FnOk P w K mg base (L2.CX P w) 3 (He.fAd K d_integers.at_) (fdOf K d_integers.at_) ["numbers"] (spF K (ct K) (f_integers N)) := by
  refine fn_ok Z.F_integers sc_integers rfl rfl fun cdv A outer s H E hr => ?_
  exact (ss_cons (st_lc (own := [("number", 5)]) (j := 1) rfl rfl sc_integers.nd rfl rfl rfl (it_t rfl (ae_b (pv 0))) (blkOk_by (by show blkC ["numbers", "parts", "bottom", "_", "below", "number", "top"] (defScope s_integers) _ [("number", 5)] = true; decide +kernel)) (fun _ _ _ _ _ => (tg_n sc_integers.nd rfl (by first | exact .inl rfl | exact .inr rfl))) (fun _ _ _ _ _ => pts_n) (fun _ _ _ _ _ => (se_call (ok_fraction Z) (hr.mono (by decide)) rfl Z.gl_fraction Z.kp_fraction (bi_fraction Z) passW0 (af_cons (se_var (pv 5)) af_nil))))
  (ss_cons (st_asg (j := 2) sc_integers.nd rfl (by first | exact .inl rfl | exact .inr rfl) se_int)
  (ss_cons (st_for (passes_of rfl) rfl (it_l rfl (ae_b (pv 1))) (tg_t rfl rfl (tg_cons (tg_n sc_integers.nd rfl (by first | exact .inl rfl | exact .inr rfl)) (tg_cons (tg_n sc_integers.nd rfl (by first | exact .inl rfl | exact .inr rfl)) tg_nil)) rfl) (ss_fgt [3] (ss_one (st_asg (j := 2) sc_integers.nd rfl (by first | exact .inl rfl | exact .inr rfl) (se_callF cr_lcm ol_lcm rfl Z.im_lcm (as_cons (ae_b (pv 2)) (as_cons (ae_b (pv 4)) as_nil)))))))
  (ss_one (st_rt (se_tup (af_cons (se_lc (own := [("top", 6), ("below", 4)]) rfl rfl sc_integers.nd (it_l rfl (ae_b (pv 1))) (blkOk_by (by show blkC ["numbers", "parts", "bottom", "_", "below", "number", "top"] (defScope s_integers) _ [("top", 6), ("below", 4)] = true; decide +kernel)) (fun _ _ _ _ _ => (tg_t rfl rfl (tg_cons (tg_n sc_integers.nd rfl (by first | exact .inl rfl | exact .inr rfl)) (tg_cons (tg_n sc_integers.nd rfl (by first | exact .inl rfl | exact .inr rfl)) tg_nil)) rfl)) (fun _ _ _ _ _ => pts_n) (fun _ _ _ _ _ => (se_bin op_mulBB ol_mul (ae_b (pv 6)) (ae_e (se_bin op_divB ol_div (ae_b (pv 2)) (ae_b (pv 4))))))) (af_cons (se_var (pv 2)) af_nil))))))))
theorem ok_powers (Z : Zd K mg) {N : Nat} : FnOk P w K mg base (L2.CX P w) 8 (He.fAd K d_powers.at_) (fdOf K d_powers.at_) ["p", "l"] (spF K (ct K) (f_powers N)) := by
  refine fn_ok Z.F_powers sc_powers rfl rfl fun cdv A outer s H E hr => ?_
  have tk := takes_of (X := cxOf (L2.CX P w) P w K mg base ["p", "l"] d_powers.qual d_powers.scope (He.fAd K d_powers.at_) cdv A outer s H E) (E := E) rfl rfl rfl rfl
  exact (ss_cons (st_ex (se_call (ok_bounded Z) (hr.mono (by decide)) rfl Z.gl_bounded Z.kp_bounded (ball_bounded Z) (fun σ => passAt tk σ) (af_cons (se_var (pv 0)) (af_cons se_int af_nil))))
  (ss_cons (st_if (te_cmp op_gt ol_gt bl_gt (ae_b (pv 1)) (ae_e se_int) rfl) (ss_one (st_raise (x := "TooMany") (c := 2) (ct := ct K) Z.er_TooMany (okE_TooMany_init Z) rfl tk (hr.mono (by decide)) (bi_TooMany_init Z) rfl Z.gl_TooMany (af_cons se_str (af_cons se_int af_nil)))) ss_nil)
  (ss_one (st_rt (se_call (ok_monic Z) (hr.mono (by decide)) rfl Z.gl_monic Z.kp_monic (bi_monic Z) (fun σ => passAt tk σ) (af_cons (se_call (ok_powers_of Z) (hr.mono (by decide)) rfl Z.gl_powers_of Z.kp_powers_of (bi_powers_of Z) (fun σ => passAt tk σ) (af_cons (se_ix ix_seq ol_idx (ae_e (se_call (ok_integers Z) (hr.mono (by decide)) rfl Z.gl_integers Z.kp_integers (bi_integers Z) (fun σ => passAt tk σ) (af_cons (se_var (pv 0)) af_nil))) (ae_e se_int) (fun _ _ => rfl)) (af_cons (se_var (pv 1)) af_nil))) af_nil))))))
theorem ok_law_trace (Z : Zd K mg) {N : Nat} : FnOk P w K mg base (L2.CX P w) 2 (He.fAd K d_law_trace.at_) (fdOf K d_law_trace.at_) ["mid", "end", "many"] (spF K (ct K) (f_law_trace N)) := by
  refine fn_ok Z.F_law_trace sc_law_trace rfl rfl fun cdv A outer s H E hr => ?_
  exact (ss_cons (st_par (i := 3) (j := 4) rfl sc_law_trace.nd rfl rfl (by decide) rfl rfl se_int (se_var (pv 0)) rfl)
  (ss_cons (st_fgt [4] (st_for (passes_of rfl) rfl (it_r1 rfl Z.fr_range (ae_b (pv 2))) (tg_n sc_law_trace.nd rfl (by first | exact .inl rfl | exact .inr rfl)) (ss_fgt [5] (ss_one (st_par (i := 3) (j := 4) rfl sc_law_trace.nd rfl rfl (by decide) rfl rfl (se_var (pv 4)) (se_bin op_sub ol_sub (ae_e (se_bin op_mulBB ol_mul (ae_b (pv 0)) (ae_b (pv 4)))) (ae_e (se_bin op_mulBB ol_mul (ae_b (pv 1)) (ae_b (pv 3))))) rfl)))))
  (ss_one (st_rt (se_var (pv 3))))))
theorem ok_law_all_squares (Z : Zd K mg) {N : Nat} : FnOk P w K mg base (L2.CX P w) 3 (He.fAd K d_law_all_squares.at_) (fdOf K d_law_all_squares.at_) ["items"] (spF K (ct K) (f_law_all_squares N)) := by
  refine fn_ok Z.F_law_all_squares sc_law_all_squares rfl rfl fun cdv A outer s H E hr => ?_
  have tk := takes_of (X := cxOf (L2.CX P w) P w K mg base ["items", "told", "knot", "under", "scale"] d_law_all_squares.qual d_law_all_squares.scope (He.fAd K d_law_all_squares.at_) cdv A outer s H E) (E := E) rfl rfl rfl rfl
  exact (ss_cons (st_asg (j := 1) sc_law_all_squares.nd rfl (by first | exact .inl rfl | exact .inr rfl) (se_lst (af_cons se_int af_nil)))
  (ss_cons (st_for (passes_of rfl) rfl (it_l rfl (ae_b (pv 0))) (tg_t rfl rfl (tg_cons (tg_n sc_law_all_squares.nd rfl (by first | exact .inl rfl | exact .inr rfl)) (tg_cons (tg_n sc_law_all_squares.nd rfl (by first | exact .inl rfl | exact .inr rfl)) tg_nil)) rfl) (ss_fgt [2, 3, 4] (ss_one (st_fgt [4] (st_if (te_cmp (op_eqD hr.units) ol_eq bl_eq (ae_e (se_ix ix_seq ol_idx (ae_b (pv 2)) (ae_e se_int) (fun _ _ => rfl))) (ae_e se_int) rfl) (ss_one (st_asg (j := 1) sc_law_all_squares.nd rfl (by first | exact .inl rfl | exact .inr rfl) (se_call (ok_law_mul Z) (hr.mono (by decide)) rfl Z.gl__law_mul Z.kp_law_mul (bi_law_mul Z) (fun σ => passAt tk σ) (af_cons (se_var (pv 1)) (af_cons (se_lst (af_cons (se_bin op_mulBB ol_mul (ae_e (se_un un_neg ol_neg (ae_e (se_ix ix_seq ol_idx (ae_b (pv 2)) (ae_e se_int) (fun _ _ => rfl))))) (ae_e (se_ix ix_seq ol_idx (ae_b (pv 2)) (ae_e se_int) (fun _ _ => rfl)))) (af_cons (se_bin op_mulBB ol_mul (ae_b (pv 3)) (ae_b (pv 3))) af_nil))) af_nil))))) (ss_cons (st_asg (j := 4) sc_law_all_squares.nd rfl (by first | exact .inl rfl | exact .inr rfl) (se_bin op_mulBB ol_mul (ae_b (pv 3)) (ae_b (pv 3))))
  (ss_one (st_asg (j := 1) sc_law_all_squares.nd rfl (by first | exact .inl rfl | exact .inr rfl) (se_call (ok_law_mul Z) (hr.mono (by decide)) rfl Z.gl__law_mul Z.kp_law_mul (bi_law_mul Z) (fun σ => passAt tk σ) (af_cons (se_var (pv 1)) (af_cons (se_lst (af_cons (se_bin op_mulBB ol_mul (ae_e (se_ix ix_seq ol_idx (ae_b (pv 2)) (ae_e se_int) (fun _ _ => rfl))) (ae_e (se_ix ix_seq ol_idx (ae_b (pv 2)) (ae_e se_int) (fun _ _ => rfl)))) (af_cons (se_bin op_mulBB ol_mul (ae_e (se_un un_neg ol_neg (ae_e (se_call (ok_law_trace Z) (hr.mono (by decide)) rfl Z.gl__law_trace Z.kp_law_trace (bi_law_trace Z) (fun σ => passAt tk σ) (af_cons (se_ix ix_seq ol_idx (ae_b (pv 2)) (ae_e se_int) (fun _ _ => rfl)) (af_cons (se_ix ix_seq ol_idx (ae_b (pv 2)) (ae_e se_int) (fun _ _ => rfl)) (af_cons se_int af_nil))))))) (ae_b (pv 4))) (af_cons (se_bin op_mulBB ol_mul (ae_b (pv 4)) (ae_b (pv 4))) af_nil)))) af_nil)))))))))))
  (ss_one (st_rt (se_var (pv 1))))))
theorem ok_pairs_of (Z : Zd K mg) {N : Nat} : FnOk P w K mg base (L2.CX P w) 4 (He.fAd K d_pairs_of.at_) (fdOf K d_pairs_of.at_) ["a"] (spF K (ct K) (f_pairs_of N)) := by
  refine fn_ok Z.F_pairs_of sc_pairs_of rfl rfl fun cdv A outer s H E hr => ?_
  have tk := takes_of (X := cxOf (L2.CX P w) P w K mg base ["a", "size", "many", "sums", "chosen", "k"] d_pairs_of.qual d_pairs_of.scope (He.fAd K d_pairs_of.at_) cdv A outer s H E) (E := E) rfl rfl rfl rfl
  exact (ss_cons (st_asg (j := 1) sc_pairs_of.nd rfl (by first | exact .inl rfl | exact .inr rfl) (se_bin op_sub ol_sub (ae_e (se_callB call_len ol_len rfl Z.fr_len (by decide +kernel) (as_cons (ae_b (pv 0)) as_nil))) (ae_e se_int)))
  (ss_cons (st_asg (j := 2) sc_pairs_of.nd rfl (by first | exact .inl rfl | exact .inr rfl) (se_bin op_divB ol_div (ae_e (se_bin op_mulBB ol_mul (ae_b (pv 1)) (ae_e (se_bin op_sub ol_sub (ae_b (pv 1)) (ae_e se_int))))) (ae_e se_int)))
  (ss_cons (st_if (te_cmp (op_eqD hr.units) ol_eq bl_eq (ae_b (pv 2)) (ae_e se_int) rfl) (ss_one (st_rt (se_lst (af_cons se_int af_nil)))) ss_nil)
  (ss_cons (st_asg (j := 3) sc_pairs_of.nd rfl (by first | exact .inl rfl | exact .inr rfl) (se_callD (ok_power_sums Z) (hr.mono (by decide)) rfl Z.gl_power_sums Z.kp_power_sums (bd_power_sums Z).2 (bd_power_sums Z).1 (fun _ => ⟨_, _, rfl, rfl, rfl⟩) (af_cons (se_call (ok_lifted Z) (hr.mono (by decide)) rfl Z.gl_lifted Z.kp_lifted (bi_lifted Z) (fun σ => passAt tk σ) (af_cons (se_var (pv 0)) af_nil)) (af_cons (se_bin op_mulBB ol_mul (ae_e se_int) (ae_b (pv 2))) af_nil))))
  (ss_cons (st_asg (j := 4) sc_pairs_of.nd rfl (by first | exact .inl rfl | exact .inr rfl) (se_bin op_addB ol_add (ae_e (se_lst (af_cons (se_var (pv 2)) af_nil))) (ae_e (se_lc (own := [("k", 5)]) rfl rfl sc_pairs_of.nd (it_r2 rfl Z.fr_range (ae_e se_int) (ae_e (se_bin op_addB ol_add (ae_b (pv 2)) (ae_e se_int)))) (blkOk_by (by show blkC ["a", "size", "many", "sums", "chosen", "k"] (defScope s_pairs_of) _ [("k", 5)] = true; decide +kernel)) (fun _ _ _ _ _ => (tg_n sc_pairs_of.nd rfl (by first | exact .inl rfl | exact .inr rfl))) (fun _ _ _ _ _ => pts_n) (fun _ _ _ _ _ => (se_bin op_divB ol_div (ae_e (se_bin op_sub ol_sub (ae_e (se_bin op_mulBB ol_mul (ae_e (se_ix ix_seq ol_idx (ae_b (pv 3)) (ae_b (pv 5)) (fun _ _ => rfl))) (ae_e (se_ix ix_seq ol_idx (ae_b (pv 3)) (ae_b (pv 5)) (fun _ _ => rfl))))) (ae_e (se_ix ix_seq ol_idx (ae_b (pv 3)) (ae_e (se_bin op_mulBB ol_mul (ae_e se_int) (ae_b (pv 5)))) (fun _ _ => rfl))))) (ae_e se_int)))))))
  (ss_one (st_rt (se_call (ok_lowered Z) (hr.mono (by decide)) rfl Z.gl_lowered Z.kp_lowered (bi_lowered Z) (fun σ => passAt tk σ) (af_cons (se_callD (ok_from_power_sums Z) (hr.mono (by decide)) rfl Z.gl_from_power_sums Z.kp_from_power_sums (bd_from_power_sums Z).2 (bd_from_power_sums Z).1 (fun _ => ⟨_, _, rfl, rfl, rfl⟩) (af_cons (se_var (pv 4)) af_nil)) (af_cons (se_bin op_mulBB ol_mul (ae_e (se_ix ix_seq ol_idx (ae_b (pv 0)) (ae_e (se_un un_neg ol_neg (ae_e se_int))) (fun _ _ => rfl))) (ae_e (se_ix ix_seq ol_idx (ae_b (pv 0)) (ae_e (se_un un_neg ol_neg (ae_e se_int))) (fun _ _ => rfl)))) af_nil))))))))))
theorem ok_pairs (Z : Zd K mg) {N : Nat} : FnOk P w K mg base (L2.CX P w) 8 (He.fAd K d_pairs.at_) (fdOf K d_pairs.at_) ["p"] (spF K (ct K) (f_pairs N)) := by
  refine fn_ok Z.F_pairs sc_pairs rfl rfl fun cdv A outer s H E hr => ?_
  have tk := takes_of (X := cxOf (L2.CX P w) P w K mg base ["p"] d_pairs.qual d_pairs.scope (He.fAd K d_pairs.at_) cdv A outer s H E) (E := E) rfl rfl rfl rfl
  exact (ss_cons (st_ex (se_call (ok_bounded Z) (hr.mono (by decide)) rfl Z.gl_bounded Z.kp_bounded (ball_bounded Z) (fun σ => passAt tk σ) (af_cons (se_var (pv 0)) (af_cons se_int af_nil))))
  (ss_one (st_rt (se_call (ok_monic Z) (hr.mono (by decide)) rfl Z.gl_monic Z.kp_monic (bi_monic Z) (fun σ => passAt tk σ) (af_cons (se_call (ok_pairs_of Z) (hr.mono (by decide)) rfl Z.gl_pairs_of Z.kp_pairs_of (bi_pairs_of Z) (fun σ => passAt tk σ) (af_cons (se_ix ix_seq ol_idx (ae_e (se_call (ok_integers Z) (hr.mono (by decide)) rfl Z.gl_integers Z.kp_integers (bi_integers Z) (fun σ => passAt tk σ) (af_cons (se_var (pv 0)) af_nil))) (ae_e se_int) (fun _ _ => rfl)) af_nil)) af_nil)))))
theorem ok_law_product (Z : Zd K mg) {N : Nat} : FnOk P w K mg base (L2.CX P w) 3 (He.fAd K d_law_product.at_) (fdOf K d_law_product.at_) ["knots", "under"] (spF K (ct K) (f_law_product N)) := by
  refine fn_ok Z.F_law_product sc_law_product rfl rfl fun cdv A outer s H E hr => ?_
  have tk := takes_of (X := cxOf (L2.CX P w) P w K mg base ["knots", "under", "told", "knot", "often", "i"] d_law_product.qual d_law_product.scope (He.fAd K d_law_product.at_) cdv A outer s H E) (E := E) rfl rfl rfl rfl
  exact (ss_cons (st_asg (j := 2) sc_law_product.nd rfl (by first | exact .inl rfl | exact .inr rfl) (se_lst (af_cons se_int af_nil)))
  (ss_cons (st_for (passes_of rfl) rfl (it_l rfl (ae_b (pv 0))) (tg_t rfl rfl (tg_cons (tg_n sc_law_product.nd rfl (by first | exact .inl rfl | exact .inr rfl)) (tg_cons (tg_n sc_law_product.nd rfl (by first | exact .inl rfl | exact .inr rfl)) tg_nil)) rfl) (ss_fgt [3, 4, 5] (ss_one (st_for (passes_of rfl) rfl (it_r1 rfl Z.fr_range (ae_b (pv 4))) (tg_n sc_law_product.nd rfl (by first | exact .inl rfl | exact .inr rfl)) (ss_fgt [5] (ss_one (st_asg (j := 2) sc_law_product.nd rfl (by first | exact .inl rfl | exact .inr rfl) (se_call (ok_law_mul Z) (hr.mono (by decide)) rfl Z.gl__law_mul Z.kp_law_mul (bi_law_mul Z) (fun σ => passAt tk σ) (af_cons (se_var (pv 2)) (af_cons (se_call (ok_law_knot_poly Z) (hr.mono (by decide)) rfl Z.gl__law_knot_poly Z.kp_law_knot_poly (bi_law_knot_poly Z) (fun σ => passAt tk σ) (af_cons (se_var (pv 3)) (af_cons (se_var (pv 1)) af_nil))) af_nil))))))))))
  (ss_one (st_rt (se_var (pv 2))))))
theorem ok_law_is_too (Z : Zd K mg) {N : Nat} : FnOk P w K mg base (L2.CX P w) 3 (He.fAd K d_law_is_too.at_) (fdOf K d_law_is_too.at_) ["got", "word", "bound"] (spF K (ct K) (f_law_is_too N)) := by
  refine fn_ok Z.F_law_is_too sc_law_is_too rfl rfl fun cdv A outer s H E hr => ?_
  have tk := takes_of (X := cxOf (L2.CX P w) P w K mg base ["got", "word", "bound"] d_law_is_too.qual d_law_is_too.scope (He.fAd K d_law_is_too.at_) cdv A outer s H E) (E := E) rfl rfl rfl rfl
  exact (ss_cons (st_if (te_w (tw_or (te_not (te_val rfl (se_isi rfl Z.isi_tuple (.ty _) rfl Z.fr_isinstance (ae_b (pv 0)) (pe_bltn rfl Z.fr_tuple (by decide +kernel) rfl)))) (tw_or (te_cmp (op_neD hr.units) ol_ne bl_ne (ae_e (se_callB call_len ol_len rfl Z.fr_len (by decide +kernel) (as_cons (ae_b (pv 0)) as_nil))) (ae_e se_int) rfl) (tw_or (te_not (te_val rfl (se_isi rfl Z.isi_str (.ty _) rfl Z.fr_isinstance (ae_e (se_ix ix_seq ol_idx (ae_b (pv 0)) (ae_e se_int) (fun _ _ => rfl))) (pe_bltn rfl Z.fr_str (by decide +kernel) rfl)))) (tw_or1 (te_not (te_val rfl (se_call (ok_law_is_int Z) (hr.mono (by decide)) rfl Z.gl__law_is_int Z.kp_law_is_int (bi_law_is_int Z) (fun σ => passAt tk σ) (af_cons (se_ix ix_seq ol_idx (ae_b (pv 0)) (ae_e se_int) (fun _ _ => rfl)) af_nil))))))))) (ss_one (st_rt se_bl)) ss_nil)
  (ss_one (st_rt (sv_and rfl (se_cmp (op_eqD hr.units) ol_eq (ae_e (se_ix ix_seq ol_idx (ae_b (pv 0)) (ae_e se_int) (fun _ _ => rfl))) (ae_b (pv 1)) rfl) (sv_one (se_cmp (op_eqD hr.units) ol_eq (ae_e (se_ix ix_seq ol_idx (ae_b (pv 0)) (ae_e se_int) (fun _ _ => rfl))) (ae_b (pv 2)) rfl))))))
theorem ok_law_refused (Z : Zd K mg) {N : Nat} : FnOk P w K mg base (L2.CX P w) 9 (He.fAd K d_law_refused.at_) (fdOf K d_law_refused.at_) ["poly"] (spF K (ct K) (f_law_refused N)) := by
  refine fn_ok Z.F_law_refused sc_law_refused rfl rfl fun cdv A outer s H E hr => ?_
  have tk := takes_of (X := cxOf (L2.CX P w) P w K mg base ["poly", "e"] d_law_refused.qual d_law_refused.scope (He.fAd K d_law_refused.at_) cdv A outer s H E) (E := E) rfl rfl rfl rfl
  exact (ss_cons (st_try2 (j := 1) (e1 := .Name "e" ⟨0, 0, 0, 0⟩) (e2 := .Name "e" ⟨0, 0, 0, 0⟩) rfl Z.ca_TooMany rfl rfl sc_law_refused.nd rfl rfl ⟨rfl, rfl, .inl Z.gl_TooMany⟩ tk (fun W pn xe tk hp => (ss_one (st_ex (se_call (ok_pairs Z) (hr.mono (by decide)) rfl Z.gl_pairs Z.kp_pairs (bi_pairs Z) (fun σ => passAt tk σ) (af_cons (se_var (pv 0)) af_nil))))) (fun _ _ _ => ⟨pv 1, pv 1⟩))
  (ss_one (st_rt se_non)))
theorem ok_law_at_bounds (Z : Zd K mg) {N : Nat} : FnOk P w K mg base (L2.CX P w) 10 (He.fAd K d_law_at_bounds.at_) (fdOf K d_law_at_bounds.at_) ["bag"] (spF K (ct K) (f_law_at_bounds N)) := by
  refine fn_ok Z.F_law_at_bounds sc_law_at_bounds rfl rfl fun cdv A outer s H E hr => ?_
  have tk := takes_of (X := cxOf (L2.CX P w) P w K mg base ["bag", "base", "let"] d_law_at_bounds.qual d_law_at_bounds.scope (He.fAd K d_law_at_bounds.at_) cdv A outer s H E) (E := E) rfl rfl rfl rfl
  exact (ss_cons (st_asg (j := 1) sc_law_at_bounds.nd rfl (by first | exact .inl rfl | exact .inr rfl) (se_callB' (ok_law_of Z) (hr.mono (by decide)) rfl Z.gl__law_of Z.kp_law_of (bi_law_of Z) (fun σ => passAt tk σ) (pv 0) (af_cons (se_lst (af_cons se_int (af_cons (se_un un_neg ol_neg (ae_e se_int)) (af_cons se_int af_nil)))) af_nil)))
  (ss_cons (st_asg (j := 2) sc_law_at_bounds.nd rfl (by first | exact .inl rfl | exact .inr rfl) (se_call (ok_law_product Z) (hr.mono (by decide)) rfl Z.gl__law_product Z.kp_law_product (bi_law_product Z) (fun σ => passAt tk σ) (af_cons (se_lst (af_cons (se_tup (af_cons (se_tup (af_cons se_int (af_cons (se_var (pv 1)) (af_cons se_int af_nil)))) (af_cons se_int af_nil))) af_nil)) (af_cons se_int af_nil))))
  (ss_cons (st_if (te_not (te_val rfl (se_call (ok_law_is_too Z) (hr.mono (by decide)) rfl Z.gl__law_is_too Z.kp_law_is_too (bi_law_is_too Z) (fun σ => passAt tk σ) (af_cons (se_call (ok_law_refused Z) (hr.mono (by decide)) rfl Z.gl__law_refused Z.kp_law_refused (bi_law_refused Z) (fun σ => passAt tk σ) (af_cons (se_callTy call_tuple_of ol_tuple rfl Z.fr_tuple (by decide +kernel) (as_cons (ae_e (se_bin op_addB ol_add (ae_e (se_lst (af_cons se_int af_nil))) (ae_b (pv 2)))) as_nil)) af_nil)) (af_cons se_str (af_cons se_int af_nil)))))) (ss_one (st_rt se_bl)) ss_nil)
  (ss_one (st_rt (se_call (ok_law_monic Z) (hr.mono (by decide)) rfl Z.gl__law_monic Z.kp_law_monic (bi_law_monic Z) (fun σ => passAt tk σ) (af_cons (se_call (ok_pairs Z) (hr.mono (by decide)) rfl Z.gl_pairs Z.kp_pairs (bi_pairs Z) (fun σ => passAt tk σ) (af_cons (se_callTy call_tuple_of ol_tuple rfl Z.fr_tuple (by decide +kernel) (as_cons (ae_b (pv 2)) as_nil)) af_nil)) (af_cons (se_call (ok_law_product Z) (hr.mono (by decide)) rfl Z.gl__law_product Z.kp_law_product (bi_law_product Z) (fun σ => passAt tk σ) (af_cons (se_lst (af_cons (se_tup (af_cons (se_tup (af_cons se_int (af_cons (se_bin op_mulBB ol_mul (ae_b (pv 1)) (ae_b (pv 1))) (af_cons se_int af_nil)))) (af_cons se_int af_nil))) af_nil)) (af_cons se_int af_nil))) af_nil))))))))
theorem ok_law (Z : Zd K mg) {N : Nat} : FnOk P w K mg base (L2.CX P w) 11 (He.fAd K d_law.at_) (fdOf K d_law.at_) ["script"] (spF K (ct K) (f_law N)) := by
  refine fn_ok Z.F_law sc_law rfl rfl fun cdv A outer s H E hr => ?_
  have tk := takes_of (X := cxOf (L2.CX P w) P w K mg base ["script", "bag", "pool", "counts", "coefs", "under", "handed", "items", "due", "one", "two", "small"] d_law.qual d_law.scope (He.fAd K d_law.at_) cdv A outer s H E) (E := E) rfl rfl rfl rfl
  exact (ss_cons (st_asg (j := 1) sc_law.nd rfl (by first | exact .inl rfl | exact .inr rfl) (se_call (ok_law_bag Z) (hr.mono (by decide)) rfl Z.gl__law_bag Z.kp_law_bag (bi_law_bag Z) (fun σ => passAt tk σ) (af_cons (se_var (pv 0)) af_nil)))
  (ss_cons (st_asg (j := 2) sc_law.nd rfl (by first | exact .inl rfl | exact .inr rfl) (se_callB' (ok_law_pool Z) (hr.mono (by decide)) rfl Z.gl__law_pool Z.kp_law_pool (bi_law_pool Z) (fun σ => passAt tk σ) (pv 1) (af_cons se_int af_nil)))
  (ss_cons (st_asg (j := 3) sc_law.nd rfl (by first | exact .inl rfl | exact .inr rfl) (se_callB' (ok_law_counts Z) (hr.mono (by decide)) rfl Z.gl__law_counts Z.kp_law_counts (bi_law_counts Z) (fun σ => passAt tk σ) (pv 1) (af_cons (se_var (pv 2)) (af_cons (se_callB' (ok_law_of Z) (hr.mono (by decide)) rfl Z.gl__law_of Z.kp_law_of (bi_law_of Z) (fun σ => passAt tk σ) (pv 1) (af_cons (se_lst (af_cons se_int (af_cons se_int (af_cons se_int (af_cons se_int (af_cons se_int (af_cons se_int (af_cons se_int (af_cons se_int (af_cons se_int (af_cons se_int af_nil))))))))))) af_nil)) af_nil))))
  (ss_cons (st_unp (se_call (ok_law_scaled Z) (hr.mono (by decide)) rfl Z.gl__law_scaled Z.kp_law_scaled (bi_law_scaled Z) (fun σ => passAt tk σ) (af_cons (se_call (ok_law_joined Z) (hr.mono (by decide)) rfl Z.gl__law_joined Z.kp_law_joined (bi_law_joined Z) (fun σ => passAt tk σ) (af_cons (se_var (pv 2)) (af_cons (se_var (pv 3)) af_nil))) (af_cons (se_callB' (ok_law_scale Z) (hr.mono (by decide)) rfl Z.gl__law_scale Z.kp_law_scale (bi_law_scale Z) (fun σ => passAt tk σ) (pv 1) af_nil) af_nil))) (tg_t rfl rfl (tg_cons (tg_n sc_law.nd rfl (by first | exact .inl rfl | exact .inr rfl)) (tg_cons (tg_n sc_law.nd rfl (by first | exact .inl rfl | exact .inr rfl)) tg_nil)) rfl))
  (ss_cons (st_par (i := 6) (j := 7) rfl sc_law.nd rfl rfl (by decide) rfl rfl (se_callB' (ok_law_poly Z) (hr.mono (by decide)) rfl Z.gl__law_poly Z.kp_law_poly (bi_law_poly Z) (fun σ => passAt tk σ) (pv 1) (af_cons (se_var (pv 4)) (af_cons (se_var (pv 5)) af_nil))) (se_call (ok_law_items Z) (hr.mono (by decide)) rfl Z.gl__law_items Z.kp_law_items (bi_law_items Z) (fun σ => passAt tk σ) (af_cons (se_var (pv 2)) (af_cons (se_var (pv 3)) af_nil))) rfl)
  (ss_cons (st_asg (j := 8) sc_law.nd rfl (by first | exact .inl rfl | exact .inr rfl) (se_call (ok_law_all_pairs Z) (hr.mono (by decide)) rfl Z.gl__law_all_pairs Z.kp_law_all_pairs (bi_law_all_pairs Z) (fun σ => passAt tk σ) (af_cons (se_var (pv 7)) af_nil)))
  (ss_cons (st_if (te_w (tw_or (te_not (te_val rfl (se_call (ok_law_monic Z) (hr.mono (by decide)) rfl Z.gl__law_monic Z.kp_law_monic (bi_law_monic Z) (fun σ => passAt tk σ) (af_cons (se_call (ok_pairs Z) (hr.mono (by decide)) rfl Z.gl_pairs Z.kp_pairs (bi_pairs Z) (fun σ => passAt tk σ) (af_cons (se_var (pv 6)) af_nil)) (af_cons (se_var (pv 8)) af_nil))))) (tw_or1 (te_not (te_val rfl (se_call (ok_law_monic Z) (hr.mono (by decide)) rfl Z.gl__law_monic Z.kp_law_monic (bi_law_monic Z) (fun σ => passAt tk σ) (af_cons (se_call (ok_powers Z) (hr.mono (by decide)) rfl Z.gl_powers Z.kp_powers (bi_powers Z) (fun σ => passAt tk σ) (af_cons (se_var (pv 6)) (af_cons se_int af_nil))) (af_cons (se_call (ok_law_all_squares Z) (hr.mono (by decide)) rfl Z.gl__law_all_squares Z.kp_law_all_squares (bi_law_all_squares Z) (fun σ => passAt tk σ) (af_cons (se_var (pv 7)) af_nil)) af_nil)))))))) (ss_one (st_rt se_bl)) ss_nil)
  (ss_cons (st_par (i := 9) (j := 10) rfl sc_law.nd rfl rfl (by decide) rfl rfl (se_ix ix_seq ol_idx (ae_b (pv 2)) (ae_e se_int) (fun _ _ => rfl)) (se_ix ix_seq ol_idx (ae_b (pv 2)) (ae_e (se_un un_neg ol_neg (ae_e se_int))) (fun _ _ => rfl)) rfl)
  (ss_cons (st_if (te_w (tw_or (te_not (te_val rfl (se_call (ok_law_monic Z) (hr.mono (by decide)) rfl Z.gl__law_monic Z.kp_law_monic (bi_law_monic Z) (fun σ => passAt tk σ) (af_cons (se_call (ok_pairs Z) (hr.mono (by decide)) rfl Z.gl_pairs Z.kp_pairs (bi_pairs Z) (fun σ => passAt tk σ) (af_cons (se_tup (af_cons (se_callB' (ok_law_number Z) (hr.mono (by decide)) rfl Z.gl__law_number Z.kp_law_number (bi_law_number Z) (fun σ => passAt tk σ) (pv 1) (af_cons se_int (af_cons se_int af_nil))) af_nil)) af_nil)) (af_cons (se_lst (af_cons se_int af_nil)) af_nil))))) (tw_or1 (te_not (te_val rfl (se_call (ok_law_monic Z) (hr.mono (by decide)) rfl Z.gl__law_monic Z.kp_law_monic (bi_law_monic Z) (fun σ => passAt tk σ) (af_cons (se_call (ok_pairs Z) (hr.mono (by decide)) rfl Z.gl_pairs Z.kp_pairs (bi_pairs Z) (fun σ => passAt tk σ) (af_cons (se_tup (af_cons (se_callB' (ok_law_number Z) (hr.mono (by decide)) rfl Z.gl__law_number Z.kp_law_number (bi_law_number Z) (fun σ => passAt tk σ) (pv 1) (af_cons (se_un un_neg ol_neg (ae_e se_int)) (af_cons se_int af_nil))) (af_cons se_int af_nil))) af_nil)) (af_cons (se_lst (af_cons se_int af_nil)) af_nil)))))))) (ss_one (st_rt se_bl)) ss_nil)
  (ss_cons (st_asg (j := 11) sc_law.nd rfl (by first | exact .inl rfl | exact .inr rfl) (se_call (ok_law_mul Z) (hr.mono (by decide)) rfl Z.gl__law_mul Z.kp_law_mul (bi_law_mul Z) (fun σ => passAt tk σ) (af_cons (se_call (ok_law_knot_poly Z) (hr.mono (by decide)) rfl Z.gl__law_knot_poly Z.kp_law_knot_poly (bi_law_knot_poly Z) (fun σ => passAt tk σ) (af_cons (se_ix ix_seq ol_idx (ae_b (pv 9)) (ae_e se_int) (fun _ _ => rfl)) (af_cons (se_ix ix_seq ol_idx (ae_b (pv 9)) (ae_e se_int) (fun _ _ => rfl)) af_nil))) (af_cons (se_call (ok_law_knot_poly Z) (hr.mono (by decide)) rfl Z.gl__law_knot_poly Z.kp_law_knot_poly (bi_law_knot_poly Z) (fun σ => passAt tk σ) (af_cons (se_ix ix_seq ol_idx (ae_b (pv 10)) (ae_e se_int) (fun _ _ => rfl)) (af_cons (se_ix ix_seq ol_idx (ae_b (pv 10)) (ae_e se_int) (fun _ _ => rfl)) af_nil))) af_nil))))
  (ss_cons (st_if (te_not (te_val rfl (se_call (ok_law_monic Z) (hr.mono (by decide)) rfl Z.gl__law_monic Z.kp_law_monic (bi_law_monic Z) (fun σ => passAt tk σ) (af_cons (se_callK (ks := ["p"]) (ok_pairs Z) (hr.mono (by decide)) rfl Z.gl_pairs Z.kp_pairs (bkw_pairs Z) (ak_cons (se_callB' (ok_law_poly Z) (hr.mono (by decide)) rfl Z.gl__law_poly Z.kp_law_poly (bi_law_poly Z) (fun σ => passAt tk σ) (pv 1) (af_cons (se_var (pv 11)) (af_cons se_int af_nil))) ak_nil)) (af_cons (se_call (ok_law_all_pairs Z) (hr.mono (by decide)) rfl Z.gl__law_all_pairs Z.kp_law_all_pairs (bi_law_all_pairs Z) (fun σ => passAt tk σ) (af_cons (se_lst (af_cons (se_var (pv 9)) (af_cons (se_var (pv 10)) af_nil))) af_nil)) af_nil))))) (ss_one (st_rt se_bl)) ss_nil)
  (ss_cons (st_if (te_w (tw_and (te_cmp (op_eqD hr.units) ol_eq bl_eq (ae_e (se_callB' (ok_law_draw Z) (hr.mono (by decide)) rfl Z.gl__law_draw Z.kp_law_draw (bi_law_draw Z) (fun σ => passAt tk σ) (pv 1) (af_cons se_int af_nil))) (ae_e se_int) rfl) (tw_and1 (te_not (te_val rfl (se_callB' (ok_law_at_bounds Z) (hr.mono (by decide)) rfl Z.gl__law_at_bounds Z.kp_law_at_bounds (bi_law_at_bounds Z) (fun σ => passAt tk σ) (pv 1) af_nil)))))) (ss_one (st_rt se_bl)) ss_nil)
  (ss_one (st_rt (se_call (ok_law_monic Z) (hr.mono (by decide)) rfl Z.gl__law_monic Z.kp_law_monic (bi_law_monic Z) (fun σ => passAt tk σ) (af_cons (se_callK (ks := ["p"]) (ok_pairs Z) (hr.mono (by decide)) rfl Z.gl_pairs Z.kp_pairs (bkw_pairs Z) (ak_cons (se_var (pv 6)) ak_nil)) (af_cons (se_var (pv 8)) af_nil)))))))))))))))))
end K22

set_option maxHeartbeats 0
/-! The head and the end of eachlength_k22_products_of_roots, printed by gen.py. -/
namespace K22
open PySem PySem.Spec PyProof.Rows L2 Ml
def loose0 : List Str := [("gcd" : Str), ("lcm" : Str), ("__name__" : Str), ("Refused" : Str), ("BadNumber" : Str), ("TooMany" : Str), ("is_integer" : Str), ("top_of" : Str), ("bottom_of" : Str), ("Ratio" : Str), ("fraction" : Str), ("number_over" : Str), ("integers" : Str), ("numbers_over" : Str), ("primitive" : Str), ("inverse" : Str), ("power_sums" : Str), ("from_power_sums" : Str), ("lifted" : Str), ("lowered" : Str), ("raised" : Str), ("powers_of" : Str), ("pairs_of" : Str), ("bounded" : Str), ("monic" : Str), ("powers" : Str), ("pairs" : Str), ("_law_bag" : Str), ("_law_draw" : Str), ("_law_of" : Str), ("_law_is_int" : Str), ("_law_gcd" : Str), ("_law_low" : Str), ("_law_pair" : Str), ("_law_number" : Str)]
def loose1 : List Str := [("_law_lesser" : Str), ("_law_power" : Str), ("_law_trace" : Str), ("_law_mul" : Str), ("_law_knot_poly" : Str), ("_law_product" : Str), ("_law_same_poly" : Str), ("_law_monic" : Str), ("_law_poly" : Str), ("_law_knot" : Str), ("_law_is_too" : Str), ("_law_factor" : Str), ("_law_key" : Str), ("_law_pool" : Str), ("_law_counts" : Str), ("_law_joined" : Str), ("_law_scale" : Str), ("_law_scaled" : Str), ("_law_items" : Str), ("_law_across" : Str), ("_law_all_pairs" : Str), ("_law_all_squares" : Str), ("_law_refused" : Str), ("_law_at_bounds" : Str)]
def loose : List Str := loose0 ++ loose1
abbrev R : PySem.W.OpenRow := PySem.W.OpenLaw.row PySem.Challenge.rw_eachlength_k22_products_of_roots
abbrev hk : PySem.W.Hook := He.hookX 4 fa fn [] [] ex
def ob (s : PySem.W.SharedT) : He.AlX := He.obsX 4 fa fn [] [] ex (HandSHeadRun.getT s)
theorem ob_eq (s : PySem.W.SharedT) : ob s = hk.obs s.abs := He.obsX_eq (HandSHeadRun.getT_eq s)
theorem run (w : World) : HandSHeadRun.RunEqI R (PySem.W.view R.prog [64]) hk ob 12000 loose w := by
  unfold HandSHeadRun.RunEqI
  kernel_rfl
end K22

set_option maxHeartbeats 0
namespace K22
open PySem PySem.Spec PyProof.Rows L2 Ml
theorem kinds_lst {K : PySem.W.Frag} {c : Nat → Addr} (F : Hp) : ∀ ns : List Int, AtL K c F (ns.map D.int) (ns.map V.int)
  | [] => rfl
  | n :: ns => ⟨_, _, rfl, rfl, kinds_lst F ns⟩
theorem facts {P : Program} {w : World} {K : PySem.W.Frag} {h : Heap} {mg : Str → Option Value} {f : Addr} (X : K.In h) (G : h.Ns mainGlobals mg) (hfa : mg ("law" : Str) = some (.ref f)) (c : He.SaysX fa fn [] [] ex w h K) :
    Zd K mg ∧ f = He.fAd K d_law.at_ ∧ ∀ (s : Shared) (v : Value), BindsTo s (fdOf K d_law.at_) ⟨[v], []⟩ [("script", v)] := by
  have Z : Zd K mg := ⟨⟨h, X, G⟩, c.t.d, c.more⟩
  have e := hfa.symm.trans Z.gl_law
  cases e
  have b := FunD.bindsA (ps := ["script"]) (Z.F_law : FunD K d_law.name d_law.qual d_law.params d_law.body d_law.scope [] [] _ _) fun _ _ _ _ _ _ us hl => match us, hl with | [_], _ => rfl
  exact ⟨Z, rfl, fun s v => b s [v] rfl⟩
/-- the law's promise: some fuel is enough -/
def spL (K : PySem.W.Frag) : Sp := fun vs H Q E => ∃ N, spF K (ct K) (f_law N) vs H Q E
theorem ok_spL {P : Program} {w : World} {K : PySem.W.Frag} {mg : Str → Option Value} {base : Heap} (Z : Zd K mg) : FnOk P w K mg base (L2.CX P w) 11 (He.fAd K d_law.at_) (fdOf K d_law.at_) ["script"] (spL K) :=
  ⟨fun vs H Q E h => by
    obtain ⟨N, h⟩ := h
    exact (ok_law (P := P) (w := w) (base := base) Z (N := N)).len vs H Q E h, fun A outer s H args us vs Q E hr he hb r h => by
    obtain ⟨N, h⟩ := h
    exact (ok_law Z (N := N)).run A outer s H args us vs Q E hr he hb r h⟩
theorem sp_of {K : PySem.W.Frag} {H : Hp} {a : Addr} {ns : List Int} (hS : SqL K H a (ns.map V.int)) (e : ∃ N sl, f_law N [.sh (.scr (ns.map D.int))] = .ok (.sh (.bl true), sl)) : spL K [.ref a] H (fun v _ => v = .bl true) fun _ _ _ => False := by
  obtain ⟨N, sl, e⟩ := e
  refine ⟨N, fun _ => 0, H, [.sh (.scr (ns.map D.int))], ⟨Ex.refl H, fun i s h => ?_, fun i j b x y => ?_, rfl⟩, ?_⟩
  · match i, h with
    | 0, h => cases h; exact ⟨_, rfl, ⟨a, _, rfl, hS, kinds_lst H ns⟩⟩
    | i + 1, h => cases h
  · obtain ⟨s, h1, h2, _⟩ := x
    match i, h1 with
    | 0, h1 => cases h1; cases h2
    | i + 1, h1 => cases h1
  · rw [e]
    exact fun v σ' F' H' R x E => x
end K22
open PySem PySem.W PySem.Calls PyProof.Rows
theorem K22.holds (law_says : ∀ ns : List Int, ns.length ≤ 63 → ∃ N sl, K22.f_law N [.sh (.scr (ns.map Ml.D.int))] = .ok (.sh (.bl true), sl)) : PySem.Challenge.rw_eachlength_k22_products_of_roots.Holds := by
  w_on; o_law
  refine HandSHeadRun.head_imp (r := OpenLaw.row PySem.Challenge.rw_eachlength_k22_products_of_roots) (q := view (OpenLaw.row PySem.Challenge.rw_eachlength_k22_products_of_roots).prog [64]) (H := K22.hk) (ob := K22.ob) (M := 12000) (loose := K22.loose) (d := HandSHeadRun.topDef (OpenLaw.row PySem.Challenge.rw_eachlength_k22_products_of_roots).prog 64) (kwd := []) K22.ob_eq
    K22.run (by kernel_rfl) (by kernel_rfl) (by kernel_rfl) (by rfl) (by first | assumption | decide +kernel) (by decide +kernel) ⟨rfl, rfl, rfl, rfl, rfl, by decide +kernel⟩ ?hw ?hc
  case hw => w_witness2
  case hc =>
    refine L2.walk_ofE (l := PySem.Challenge.rw_eachlength_k22_products_of_roots) (n := 63) (k := 11) (x := "script") (CX := L2.CX0) rfl (by decide) (by kernel_rfl) ⟨rfl, by decide, by decide⟩ ?F (fun _ _ _ _ z => z)
    intro w mg fa h Y G hmg0
    obtain ⟨K, KX, c⟩ := Y
    have hmg : mg ("law" : PySem.Str) = some (.ref fa) := by
      have e : (HandSHeadRun.topDef (OpenLaw.row PySem.Challenge.rw_eachlength_k22_products_of_roots).prog 64).name = ("law" : PySem.Str) := by kernel_rfl
      rw [← e]
      exact hmg0
    obtain ⟨Z, e, hb⟩ := K22.facts (P := (PySem.Challenge.rw_eachlength_k22_products_of_roots).prog) (w := w) KX G hmg c
    subst e
    exact ⟨K, Ml.fdOf K K22.d_law.at_, (fun vs H Q _ => K22.spL K vs H Q fun _ _ _ => False), KX, hb, fun H a ns hl _ hS => K22.sp_of hS (law_says ns hl), fun base _ _ => Ml.nox_cx (K22.ok_spL Z)⟩

set_option maxHeartbeats 4000000
/-! Plain reasoning over mirrors. -/
namespace Ml
open PySem L2 PyProof.Rows

/-- what a def gives on data -/
def Gives (f : MF) (ds : List D) (rv : RV) : Prop := ∃ sl, f (ds.map Sl.sh) = .ok (rv, sl)
theorem runF_of {f : MF} {ds : List D} {rv : RV} {sl : List Sl} (h : Gives f ds rv) : runF f ds sl = .ok (rv, sl) := by
  obtain ⟨s, h⟩ := h
  unfold runF
  rw [h]
theorem gives_fn {n k : Nat} {body : MS} {ds : List D} {rv : RV} {sl : List Sl} (hn : ds.length = n) (h : body (ds.map Sl.sh ++ List.replicate k .no) = .ok (.rt rv, sl)) : Gives (mFn n k body) ds rv := by
  refine ⟨sl.take n, ?_⟩
  unfold mFn
  rw [if_pos (by simpa using hn), h]
/-- a loop by an invariant; no item leaves it -/
theorem loop_aux {tg : Tg} {body : MS} (I : Nat → List Sl → Prop) (all : List D) (hs : ∀ i d sl, all[i]? = some d → I i sl → ∃ s1, stT tg d sl = some s1 ∧ ∃ s2, body s1 = .ok (.nx, s2) ∧ I (i + 1) s2) :
    ∀ (ds pre : List D) (sl : List Sl), all = pre ++ ds → I pre.length sl → ∃ s', loopF tg body ds sl = .ok (.nx, s') ∧ I all.length s' := by
  intro ds
  induction ds with
  | nil =>
    intro pre sl e h
    subst e
    exact ⟨sl, rfl, by simpa using h⟩
  | cons d ds ih =>
    intro pre sl e h
    obtain ⟨s1, e1, s2, e2, i2⟩ := hs pre.length d sl (by rw [e]; simp) h
    obtain ⟨s', e3, i3⟩ := ih (pre ++ [d]) s2 (by rw [e]; simp) (by simpa using i2)
    refine ⟨s', ?_, i3⟩
    unfold loopF
    rw [e1]
    simp only
    rw [e2]
    exact e3
theorem loop_inv {tg : Tg} {body : MS} (I : Nat → List Sl → Prop) {ds : List D} {sl : List Sl} (h0 : I 0 sl) (hs : ∀ i d sl, ds[i]? = some d → I i sl → ∃ s1, stT tg d sl = some s1 ∧ ∃ s2, body s1 = .ok (.nx, s2) ∧ I (i + 1) s2) :
    ∃ s', loopF tg body ds sl = .ok (.nx, s') ∧ I ds.length s' := loop_aux I ds hs ds [] sl rfl h0
/-- a comprehension without a test -/
theorem lc_aux {vs : List Nat} {tg : Tg} {te : M} (I : Nat → List Sl → Prop) (all rs : List D) (hl : rs.length = all.length)
    (hs : ∀ i d r sl, all[i]? = some d → rs[i]? = some r → I i sl → ∃ s1, stT tg d sl = some s1 ∧ ∃ rv s2, te s1 = .ok (rv, s2) ∧ rv.d = r ∧ heldLe sl (fgs vs s2) = true ∧ I (i + 1) (fgs vs s2)) :
    ∀ (ds pre : List D) (sl : List Sl), all = pre ++ ds → I pre.length sl → ∃ s', lcF vs tg mYes te ds sl = .ok (rs.drop pre.length, s') ∧ I all.length s' := by
  intro ds
  induction ds with
  | nil =>
    intro pre sl e h
    subst e
    refine ⟨sl, ?_, by simpa using h⟩
    unfold lcF
    rw [List.drop_of_length_le (by simp at hl; omega)]
  | cons d ds ih =>
    intro pre sl e h
    have hlt : pre.length < rs.length := by rw [hl, e]; simp
    obtain ⟨s1, e1, rv, s2, e2, e3, e4, i2⟩ := hs pre.length d rs[pre.length] sl (by rw [e]; simp) (by simp [hlt]) h
    obtain ⟨s', e5, i3⟩ := ih (pre ++ [d]) (fgs vs s2) (by rw [e]; simp) (by simpa using i2)
    refine ⟨s', ?_, i3⟩
    unfold lcF
    rw [e1]
    simp only [mYes, if_true]
    rw [e2]
    simp only [e4, if_true]
    rw [e5]
    simp only
    rw [e3]
    have : rs.drop pre.length = rs[pre.length] :: rs.drop (pre ++ [d]).length := by
      simp only [List.length_append, List.length_singleton]
      exact List.drop_eq_getElem_cons hlt
    rw [this]
theorem lc_inv {vs : List Nat} {tg : Tg} {te : M} (I : Nat → List Sl → Prop) {ds rs : List D} {sl : List Sl} (hl : rs.length = ds.length) (h0 : I 0 sl)
    (hs : ∀ i d r sl, ds[i]? = some d → rs[i]? = some r → I i sl → ∃ s1, stT tg d sl = some s1 ∧ ∃ rv s2, te s1 = .ok (rv, s2) ∧ rv.d = r ∧ heldLe sl (fgs vs s2) = true ∧ I (i + 1) (fgs vs s2)) :
    ∃ s', lcF vs tg mYes te ds sl = .ok (rs, s') ∧ I ds.length s' := lc_aux I ds rs hl hs ds [] sl rfl h0
/-- .. over one state -/
theorem lc_map {vs : List Nat} {tg : Tg} {te : M} {ds rs : List D} {sl : List Sl} (hl : rs.length = ds.length)
    (hs : ∀ (i : Nat) (d r : D), ds[i]? = some d → rs[i]? = some r → ∃ s1, stT tg d sl = some s1 ∧ ∃ rv s2, te s1 = .ok (rv, s2) ∧ rv.d = r ∧ fgs vs s2 = sl) (hh : heldLe sl sl = true) :
    lcF vs tg mYes te ds sl = .ok (rs, sl) := by
  obtain ⟨s', e, i⟩ := lc_inv (vs := vs) (tg := tg) (te := te) (fun _ s => s = sl) hl rfl (fun i d r s h1 h2 h3 => by
    subst h3
    obtain ⟨s1, e1, rv, s2, e2, e3, e4⟩ := hs i d r h1 h2
    exact ⟨s1, e1, rv, s2, e2, e3, by rw [e4]; exact hh, e4⟩)
  rw [e, i]
end Ml

set_option maxHeartbeats 4000000
/-! What a mirror ends in: rules from the left to the right. -/
namespace Ml
open PySem L2 PyProof.Rows

def wE (m : M) (sl : List Sl) (Q : RV → List Sl → Prop) : Prop := ∃ rv s, m sl = .ok (rv, s) ∧ Q rv s
def wA (as : List Ar) (sl : List Sl) (Q : List Rf → List Sl → Prop) : Prop := ∃ rs s, evAs as sl = .ok (rs, s) ∧ Q rs s
def wT (t : TB) (sl : List Sl) (Q : Bool → List Sl → Prop) : Prop := ∃ b s, t sl = .ok (b, s) ∧ Q b s
def wS (m : MS) (sl : List Sl) (Q : Fl → List Sl → Prop) : Prop := ∃ f s, m sl = .ok (f, s) ∧ Q f s
def wI (mi : MI) (sl : List Sl) (Q : List D → List Nat → List Sl → Prop) : Prop := ∃ ds js s, mi sl = .ok (ds, js, s) ∧ Q ds js s
def GivesB (f : MF) (o : Ob) (ds : List D) (P : RV → Ob → Prop) : Prop := ∃ rv o' out, f (.bo o :: ds.map Sl.sh) = .ok (rv, .bo o' :: out) ∧ P rv o'
section
variable {sl : List Sl} {Q : RV → List Sl → Prop} {m n : M} {as : List Ar} {j : Nat} {f : List D → Option RK}
theorem wE_c {d : D} (q : Q (.sh d) sl) : wE (mC d) sl Q := ⟨_, _, rfl, q⟩
theorem wE_vs {d : D} (h : sl[j]? = some (.sh d)) (q : Q (.sh d) sl) : wE (mV j) sl Q := ⟨_, _, by unfold mV; rw [h], q⟩
theorem wE_vo {o : Ob} (h : sl[j]? = some (.ow o)) (q : Q (.sh o.d) (sl.set j (.sh o.d))) : wE (mV j) sl Q := ⟨_, _, by unfold mV; rw [h], q⟩
theorem wE_op (h : wA as sl fun rs s => ∃ ds k, getAll s rs = some ds ∧ f ds = some k ∧ Q k.rv s) : wE (mOp f as) sl Q := by
  obtain ⟨rs, s, e, ds, k, e2, e3, q⟩ := h
  refine ⟨_, _, ?_, q⟩
  unfold mOp
  rw [e]
  simp only
  rw [e2]
  simp only
  rw [e3]
theorem wE_dis {ms : List M} (h : wA (evFs ms) sl fun rs s => ∃ ds k, getAll s rs = some ds ∧ f ds = some k ∧ Q k.rv s) : wE (mDis f ms) sl Q := wE_op h
theorem wE_call {g : MF} {ms : List M} (h : wA (evFs ms) sl fun rs s => ∃ ds, getAll s rs = some ds ∧ ∃ rv, Gives g ds rv ∧ Q rv s) : wE (mCall g ms) sl Q := by
  obtain ⟨rs, s, e, ds, e2, d, e3, q⟩ := h
  refine ⟨_, _, ?_, q⟩
  unfold mCall
  rw [e]
  simp only
  rw [e2]
  exact runF_of e3
theorem wE_callD {g : MF} {ms : List M} {dds : List D} (h : wA (evFs ms) sl fun rs s => ∃ ds, getAll s rs = some ds ∧ ∃ rv, Gives g (ds ++ dds) rv ∧ Q rv s) : wE (mCallD g ms dds) sl Q := by
  obtain ⟨rs, s, e, ds, e2, d, e3, q⟩ := h
  refine ⟨_, _, ?_, q⟩
  unfold mCallD
  rw [e]
  simp only
  rw [e2]
  simp only
  rw [runF_of e3]
  rfl
theorem wE_callB {g : MF} {ms : List M} {s0 : Sl} (h0 : sl[j]? = some s0) (hm : s0.mutB = true)
    (h : wA (evFs ms) sl fun rs s => ∃ ds, getAll s rs = some ds ∧ ∃ s1 o, s[j]? = some s1 ∧ s1.mob = some o ∧ GivesB g o ds fun rv o' => Q rv (s.set j (s1.upd o'))) : wE (mCallB g j ms) sl Q := by
  obtain ⟨rs, s, e, ds, e2, s1, o, e3, e4, rv, o', out, e5, q⟩ := h
  refine ⟨_, _, ?_, q⟩
  unfold mCallB
  rw [h0]
  simp only [hm, if_true]
  rw [e]
  simp only
  rw [e2]
  simp only
  rw [e3]
  simp only
  rw [e4]
  simp only
  rw [e5]
theorem wE_make {g : MF} {c : Nat} {ms : List M} {dds : List D} (h : wA (evFs ms) sl fun rs s => ∃ ds, getAll s rs = some ds ∧ ∃ o', (∃ out, g (.bo (.ins c [] []) :: (ds ++ dds).map Sl.sh) = .ok (.sh .non, .bo o' :: out)) ∧ Q (.fr o') s) : wE (mMake g c ms dds) sl Q := by
  obtain ⟨rs, s, e, ds, e2, o', ⟨out, e3⟩, q⟩ := h
  refine ⟨_, _, ?_, q⟩
  unfold mMake
  rw [e]
  simp only
  rw [e2]
  simp only
  rw [e3]
theorem wE_if {t : TB} (h : wT t sl fun b s => if b = true then wE m s Q else wE n s Q) : wE (mIf t m n) sl Q := by
  obtain ⟨b, s, e, h⟩ := h
  cases b with
  | true =>
    rw [if_pos rfl] at h
    obtain ⟨rv, s', e2, q⟩ := h
    refine ⟨_, _, ?_, q⟩
    unfold mIf
    rw [e]
    exact e2
  | false =>
    rw [if_neg (by decide)] at h
    obtain ⟨rv, s', e2, q⟩ := h
    refine ⟨_, _, ?_, q⟩
    unfold mIf
    rw [e]
    exact e2
theorem wE_not (h : wE m sl fun rv s => ∃ b, truD rv.d = some b ∧ Q (.sh (.bl (!b))) s) : wE (mNot m) sl Q := by
  obtain ⟨rv, s, e, b, e2, q⟩ := h
  refine ⟨_, _, ?_, q⟩
  unfold mNot
  rw [e]
  simp only
  rw [e2]
theorem wE_or (h : wE m sl fun rv s => ∃ b, truD rv.d = some b ∧ if b = true then Q (.sh rv.d) s else wE n s Q) : wE (mOr m n) sl Q := by
  obtain ⟨rv, s, e, b, e2, q⟩ := h
  cases b with
  | true =>
    rw [if_pos rfl] at q
    refine ⟨_, _, ?_, q⟩
    unfold mOr
    rw [e]
    simp only
    rw [e2]
    rfl
  | false =>
    rw [if_neg (by decide)] at q
    obtain ⟨rv2, s2, e3, q⟩ := q
    refine ⟨_, _, ?_, q⟩
    unfold mOr
    rw [e]
    simp only
    rw [e2]
    exact e3
theorem wE_and (h : wE m sl fun rv s => ∃ b, truD rv.d = some b ∧ if b = true then wE n s Q else Q (.sh rv.d) s) : wE (mAnd m n) sl Q := by
  obtain ⟨rv, s, e, b, e2, q⟩ := h
  cases b with
  | false =>
    rw [if_neg (by decide)] at q
    refine ⟨_, _, ?_, q⟩
    unfold mAnd
    rw [e]
    simp only
    rw [e2]
    rfl
  | true =>
    rw [if_pos rfl] at q
    obtain ⟨rv2, s2, e3, q⟩ := q
    refine ⟨_, _, ?_, q⟩
    unfold mAnd
    rw [e]
    simp only
    rw [e2]
    exact e3
theorem wE_lc {vs : List Nat} {mi : MI} {t : Tg} {tt : TB} {te : M} (h : wI mi sl fun ds js s => ∃ s2, Ml.lockL js (fgs vs s) = some s2 ∧ ds.length ≤ sizeLine ∧ t.names.all (fun i => decide (i ∈ vs)) = true ∧ ∃ rs s3, lcF vs t tt te ds s2 = .ok (rs, s3) ∧ ∃ s4, unlL js s3 = some s4 ∧ heldLe s2 s3 = true ∧ Q (.fr (.lst rs)) s4) : wE (mLc vs mi t tt te) sl Q := by
  obtain ⟨ds, js, s, e, s2, e2, h1, h2, rs, s3, e3, s4, e4, h3, q⟩ := h
  refine ⟨_, _, ?_, q⟩
  unfold mLc
  rw [e]
  simp only
  rw [e2]
  simp only
  rw [if_pos ⟨h1, h2⟩, e3]
  simp only
  rw [e4]
  simp only
  rw [if_pos h3]
end
section
variable {sl : List Sl} {Q : List Rf → List Sl → Prop} {m : M} {ms : List M} {as : List Ar} {j : Nat}
theorem wA_nil (q : Q [] sl) : wA [] sl Q := ⟨_, _, rfl, q⟩
theorem wA_e (h : wE m sl fun rv s => wA as s fun rs s' => Q (.sh rv.d :: rs) s') : wA (.e m :: as) sl Q := by
  obtain ⟨rv, s, e, rs, s', e2, q⟩ := h
  refine ⟨_, _, ?_, q⟩
  simp only [evAs, evA, e, e2]
theorem wA_bs {d : D} (h : sl[j]? = some (.sh d)) (q : wA as sl fun rs s => Q (.sh d :: rs) s) : wA (.b j :: as) sl Q := by
  obtain ⟨rs, s, e, q⟩ := q
  refine ⟨_, _, ?_, q⟩
  simp only [evAs, evA, h, e]
theorem wA_bo {s0 : Sl} (h : sl[j]? = some s0) (hs : s0.hasB = true) (q : wA as sl fun rs s => Q (.rf j :: rs) s) : wA (.b j :: as) sl Q := by
  obtain ⟨rs, s, e, q⟩ := q
  refine ⟨_, _, ?_, q⟩
  cases s0 with
  | no => cases hs
  | sh d => cases hs
  | ow o => simp only [evAs, evA, h, e]
  | bo o => simp only [evAs, evA, h, e]
  | lk b o => simp only [evAs, evA, h, e]
theorem wF_nil (q : Q [] sl) : wA (evFs []) sl Q := wA_nil q
theorem wF_cons (h : wE m sl fun rv s => wA (evFs ms) s fun rs s' => Q (.sh rv.d :: rs) s') : wA (evFs (m :: ms)) sl Q := wA_e h
end
section
variable {sl : List Sl} {Q : Bool → List Sl → Prop} {m : M} {t u : TB}
theorem wT_T (h : wE m sl fun rv s => ∃ b, truD rv.d = some b ∧ Q b s) : wT (mT m) sl Q := by
  obtain ⟨rv, s, e, b, e2, q⟩ := h
  refine ⟨_, _, ?_, q⟩
  unfold mT
  rw [e]
  simp only
  rw [e2]
theorem wT_not (h : wT t sl fun b s => Q (!b) s) : wT (notT t) sl Q := by
  obtain ⟨b, s, e, q⟩ := h
  refine ⟨_, _, ?_, q⟩
  unfold notT
  rw [e]
theorem wT_and (h : wT t sl fun b s => if b = true then wT u s Q else Q false s) : wT (andT t u) sl Q := by
  obtain ⟨b, s, e, q⟩ := h
  cases b with
  | false =>
    rw [if_neg (by decide)] at q
    refine ⟨_, _, ?_, q⟩
    unfold andT
    rw [e]
    rfl
  | true =>
    rw [if_pos rfl] at q
    obtain ⟨b2, s2, e2, q⟩ := q
    refine ⟨_, _, ?_, q⟩
    unfold andT
    rw [e]
    exact e2
theorem wT_or (h : wT t sl fun b s => if b = true then Q true s else wT u s Q) : wT (orT t u) sl Q := by
  obtain ⟨b, s, e, q⟩ := h
  cases b with
  | true =>
    rw [if_pos rfl] at q
    refine ⟨_, _, ?_, q⟩
    unfold orT
    rw [e]
    rfl
  | false =>
    rw [if_neg (by decide)] at q
    obtain ⟨b2, s2, e2, q⟩ := q
    refine ⟨_, _, ?_, q⟩
    unfold orT
    rw [e]
    exact e2
end
section
variable {sl : List Sl} {Q : List D → List Nat → List Sl → Prop} {as : List Ar} {f : List D → Option (List D)}
def rfJ (rs : List Rf) : List Nat := rs.filterMap fun r => match r with | .rf j => some j | _ => none
theorem wI_ev (h : wA as sl fun rs s => ∃ ds, getAll s rs = some ds ∧ ∃ items, f ds = some items ∧ Q items (rfJ rs) s) : wI (evI as f) sl Q := by
  obtain ⟨rs, s, e, ds, e2, it, e3, q⟩ := h
  refine ⟨_, _, _, ?_, q⟩
  unfold evI
  rw [e]
  simp only
  rw [e2]
  simp only
  rw [e3]
  rfl
end
section
variable {sl : List Sl} {Q : Fl → List Sl → Prop} {m : M} {a b : MS} {j : Nat}
def seqK (n : MS) (Q : Fl → List Sl → Prop) : Fl → List Sl → Prop
  | .nx, s => wS n s Q
  | f, s => Q f s
theorem wS_seq (h : wS a sl (seqK b Q)) : wS (mSeq a b) sl Q := by
  obtain ⟨f, s, e, q⟩ := h
  cases f with
  | nx =>
    obtain ⟨f2, s2, e2, q⟩ := (q : wS b s Q)
    refine ⟨_, _, ?_, q⟩
    unfold mSeq
    rw [e]
    exact e2
  | bk => exact ⟨_, _, by unfold mSeq; rw [e], q⟩
  | ct => exact ⟨_, _, by unfold mSeq; rw [e], q⟩
  | rt r => exact ⟨_, _, by unfold mSeq; rw [e], q⟩
theorem wS_nx (q : Q .nx sl) : wS mNx sl Q := ⟨_, _, rfl, q⟩
theorem wS_asg (h : wE m sl fun rv s => ∃ s0, s[j]? = some s0 ∧ s0.free = true ∧ Q .nx (s.set j rv.sl)) : wS (mAsg j m) sl Q := by
  obtain ⟨rv, s, e, s0, e1, e2, q⟩ := h
  refine ⟨_, _, ?_, q⟩
  unfold mAsg
  rw [e]
  simp only
  rw [e1]
  simp only
  rw [if_pos e2]
theorem wS_ex (h : wE m sl fun rv s => Q .nx s) : wS (mEx m) sl Q := by
  obtain ⟨rv, s, e, q⟩ := h
  refine ⟨_, _, ?_, q⟩
  unfold mEx
  rw [e]
theorem wS_rt (h : wE m sl fun rv s => Q (.rt rv) s) : wS (mRt m) sl Q := by
  obtain ⟨rv, s, e, q⟩ := h
  refine ⟨_, _, ?_, q⟩
  unfold mRt
  rw [e]
theorem wS_if {t : TB} (h : wT t sl fun c s => if c = true then wS a s Q else wS b s Q) : wS (mIfS t a b) sl Q := by
  obtain ⟨c, s, e, h⟩ := h
  cases c with
  | true =>
    rw [if_pos rfl] at h
    obtain ⟨f, s', e2, q⟩ := h
    refine ⟨_, _, ?_, q⟩
    unfold mIfS
    rw [e]
    exact e2
  | false =>
    rw [if_neg (by decide)] at h
    obtain ⟨f, s', e2, q⟩ := h
    refine ⟨_, _, ?_, q⟩
    unfold mIfS
    rw [e]
    exact e2
theorem wS_fgt {js : List Nat} (h : wS a sl fun f s => Q f (fgs js s)) : wS (fgt js a) sl Q := by
  obtain ⟨f, s, e, q⟩ := h
  refine ⟨_, _, ?_, q⟩
  unfold fgt
  rw [e]
theorem wS_app {s0 : Sl} {ys : List D} (h0 : sl[j]? = some s0) (h1 : s0.mob = some (.lst ys)) (h : wE m sl fun rv s => ∃ s1 xs, s[j]? = some s1 ∧ s1.mob = some (.lst xs) ∧ xs.length < sizeLine ∧ Q .nx (s.set j (s1.upd (.lst (xs ++ [rv.d]))))) : wS (mApp j m) sl Q := by
  obtain ⟨rv, s, e, s1, xs, e1, e2, e3, q⟩ := h
  refine ⟨_, _, ?_, q⟩
  unfold mApp
  rw [h0]
  simp only
  rw [h1]
  simp only
  rw [e]
  simp only
  rw [e1]
  simp only
  rw [e2]
  simp only
  rw [if_pos e3]
theorem wS_set {mi : M} (h : wE m sl fun rv s => ∃ s1 o, s[j]? = some s1 ∧ s1.mob = some o ∧ wE mi s fun ri s' => ∃ i s2 xs, ri.d = .int i ∧ s'[j]? = some s2 ∧ s2.mob = some (.lst xs) ∧ ∃ k, ixN xs.length i = some k ∧ Q .nx (s'.set j (s2.upd (.lst (xs.set k rv.d))))) : wS (mSet j mi m) sl Q := by
  obtain ⟨rv, s, e, s1, o, e1, e2, ri, s', e3, i, s2, xs, e4, e5, e6, k, e7, q⟩ := h
  refine ⟨_, _, ?_, q⟩
  unfold mSet
  rw [e]
  simp only
  rw [e1]
  simp only
  rw [e2]
  simp only
  rw [e3]
  simp only
  rw [e4]
  simp only
  rw [e5]
  simp only
  rw [e6]
  simp only
  rw [e7]
theorem wS_fld {cs : List Nat} {x : Str} (h : wE m sl fun rv s => ∃ s1 c ns ds, s[j]? = some s1 ∧ s1.mob = some (.ins c ns ds) ∧ (c ∈ cs ∧ ns.length = ds.length ∧ ns.length < 1000) ∧ Q .nx (s.set j (s1.upd (.ins c (putD x rv.d ns ds).1 (putD x rv.d ns ds).2)))) : wS (mFld cs x j m) sl Q := by
  obtain ⟨rv, s, e, s1, c, ns, ds, e1, e2, e3, q⟩ := h
  refine ⟨_, _, ?_, q⟩
  unfold mFld
  rw [e]
  simp only
  rw [e1]
  simp only
  rw [e2]
  simp only
  rw [if_pos e3]
theorem wS_aug {f : List D → Option RK} {d : D} (h0 : sl[j]? = some (.sh d)) (h : wE m sl fun rv s => ∃ s1, s[j]? = some s1 ∧ s1.free = true ∧ ∃ k, f [d, rv.d] = some k ∧ Q .nx (s.set j k.rv.sl)) : wS (mAug f j m) sl Q := by
  obtain ⟨rv, s, e, s1, e1, e2, k, e3, q⟩ := h
  refine ⟨_, _, ?_, q⟩
  unfold mAug
  rw [h0]
  simp only
  rw [e]
  simp only
  rw [e1]
  simp only
  rw [if_pos e2]
  rw [e3]
theorem wS_unp {t : Tg} (h : wE m sl fun rv s => ∃ s', stT t rv.d s = some s' ∧ Q .nx s') : wS (mUnp t m) sl Q := by
  obtain ⟨rv, s, e, s', e1, q⟩ := h
  refine ⟨_, _, ?_, q⟩
  unfold mUnp
  rw [e]
  simp only
  rw [e1]
theorem wS_par {i : Nat} {n : M} (h : wE m sl fun rv s1 => wE n s1 fun rw s2 => heldLe s1 s2 = true ∧ ∃ s t, s2[i]? = some s ∧ s2[j]? = some t ∧ (s.free = true ∧ t.free = true) ∧ Q .nx ((s2.set i rv.sl).set j rw.sl)) : wS (mPar i j m n) sl Q := by
  obtain ⟨rv, s1, e, rw', s2, e2, h1, s, t, e3, e4, h2, q⟩ := h
  refine ⟨_, _, ?_, q⟩
  unfold mPar
  rw [e]
  simp only
  rw [e2]
  simp only
  rw [if_pos h1, e3, e4]
  simp only
  rw [if_pos h2]
theorem wS_for {mi : MI} {t : Tg} (h : wI mi sl fun ds js s => ∃ s2, Ml.lockL js s = some s2 ∧ ∃ s3, loopF t a ds s2 = .ok (.nx, s3) ∧ ∃ s4, unlL js s3 = some s4 ∧ Q .nx s4) : wS (mFor mi t a) sl Q := by
  obtain ⟨ds, js, s, e, s2, e2, s3, e3, s4, e4, q⟩ := h
  refine ⟨_, _, ?_, q⟩
  unfold mFor
  rw [e]
  simp only
  rw [e2]
  simp only
  rw [e3]
  unfold unlO
  simp only
  rw [e4]
/-- a while by a measure -/
theorem wS_wh {t : TB} (I : Nat → List Sl → Prop) : ∀ (N k : Nat) (sl : List Sl), k < N → I k sl →
    (∀ k sl, I k sl → wT t sl fun b s => if b = true then wS a s fun f s' => f = .nx ∧ ∃ k', k' < k ∧ I k' s' else Q .nx s) → wS (mWh N t a) sl Q := by
  intro N
  induction N with
  | zero => intro k sl h; exact absurd h (Nat.not_lt_zero _)
  | succ N ih =>
    intro k sl hk hi hs
    obtain ⟨b, s, e, h⟩ := hs k sl hi
    cases b with
    | false =>
      rw [if_neg (by decide)] at h
      refine ⟨_, _, ?_, h⟩
      unfold mWh mWhF
      rw [e]
      rfl
    | true =>
      rw [if_pos rfl] at h
      obtain ⟨f, s', e2, rfl, k', hk', hi'⟩ := h
      obtain ⟨f3, s3, e3, q⟩ := ih k' s' (by omega) hi' hs
      refine ⟨_, _, ?_, q⟩
      unfold mWh at e3 ⊢
      unfold mWhF
      rw [e]
      simp only [if_true]
      rw [e2]
      exact e3
theorem wS_imp {Q' : Fl → List Sl → Prop} (h : wS a sl Q) (i : ∀ f s, Q f s → Q' f s) : wS a sl Q' := by
  obtain ⟨f, s, e, q⟩ := h
  exact ⟨f, s, e, i f s q⟩
end
/-- an __init__ from its body -/
theorem init_w {n k : Nat} {body : MS} {o : Ob} {ds : List D} {o' : Ob} (hn : ds.length + 1 = n) (h : wS body (.bo o :: (ds.map Sl.sh ++ List.replicate k .no)) fun f s => f = .nx ∧ ∃ r, s = .bo o' :: r) : ∃ out, mFn n k body (.bo o :: ds.map Sl.sh) = .ok (.sh .non, .bo o' :: out) := by
  obtain ⟨f, s, e, rfl, r, rfl⟩ := h
  refine ⟨r.take (n - 1), ?_⟩
  unfold mFn
  rw [if_pos (by simpa using hn)]
  have e' : body (.bo o :: ds.map Sl.sh ++ List.replicate k .no) = .ok (.nx, .bo o' :: r) := e
  rw [e']
  simp only
  subst hn
  rfl
/-- a def from its body -/
theorem gives_w {n k : Nat} {body : MS} {ds : List D} {rv : RV} (hn : ds.length = n) (h : wS body (ds.map Sl.sh ++ List.replicate k .no) fun f _ => f = .rt rv) : Gives (mFn n k body) ds rv := by
  obtain ⟨f, s, e, rfl⟩ := h
  exact gives_fn hn e
theorem givesB_w {n k : Nat} {body : MS} {o : Ob} {ds : List D} {P : RV → Ob → Prop} (hn : ds.length + 1 = n) (h : wS body (.bo o :: (ds.map Sl.sh ++ List.replicate k .no)) fun f s => ∃ rv o' r, f = .rt rv ∧ s = .bo o' :: r ∧ P rv o') : GivesB (mFn n k body) o ds P := by
  obtain ⟨f, s, e, rv, o', r, rfl, rfl, q⟩ := h
  refine ⟨rv, o', r.take (n - 1), ?_, q⟩
  unfold mFn
  rw [if_pos (by simpa using hn)]
  have e' : body (.bo o :: ds.map Sl.sh ++ List.replicate k .no) = .ok (.rt rv, .bo o' :: r) := e
  rw [e']
  simp only
  subst hn
  rfl
end Ml

set_option maxHeartbeats 4000000
/-! Operations by cases; indices. -/
namespace Ml
open PySem L2 PyProof.Rows
theorem seqK_nx {n : MS} {Q : Fl → List Sl → Prop} {s : List Sl} (h : wS n s Q) : seqK n Q .nx s := h
theorem seqK_rt {n : MS} {Q : Fl → List Sl → Prop} {s : List Sl} {r : RV} (h : Q (.rt r) s) : seqK n Q (.rt r) s := h
theorem if_dec {p : Prop} [Decidable p] {A B : Prop} (h1 : p → A) (h2 : ¬ p → B) : if decide p = true then A else B := by
  by_cases h : p
  · rw [if_pos (decide_eq_true h)]; exact h1 h
  · rw [if_neg (by simpa using h)]; exact h2 h
theorem if_decn {p : Prop} [Decidable p] {A B : Prop} (h1 : ¬ p → A) (h2 : p → B) : if (!decide p) = true then A else B := by
  by_cases h : p
  · rw [if_neg (by simpa using h)]; exact h2 h
  · rw [if_pos (by simpa using h)]; exact h1 h
theorem if_t {A B : Prop} (h : A) : if true = true then A else B := by rw [if_pos rfl]; exact h
theorem if_f {A B : Prop} (h : B) : if false = true then A else B := by rw [if_neg (by decide)]; exact h
theorem if_ct {c : Bool} {A B : Prop} (e : c = true) (h : A) : if c = true then A else B := by rw [if_pos e]; exact h
theorem if_cf {c : Bool} {A B : Prop} (e : c = false) (h : B) : if c = true then A else B := by rw [if_neg (by rw [e]; decide)]; exact h
theorem k_mul {a b : Int} (h : mulOk a b = true) : fMul [.int a, .int b] = some (.v (.int (a * b))) := if_pos h
theorem k_div {a b : Int} (h : b ≠ 0) (h2 : Builtin.divisionGoesByPylong a b = false) : fDiv [.int a, .int b] = some (.v (.int (a.fdiv b))) := if_pos ⟨h, h2⟩
theorem k_mod {a b : Int} (h : b ≠ 0) : fMod [.int a, .int b] = some (.v (.int (a.fmod b))) := if_pos h
theorem k_pow {a b : Int} (h : 0 ≤ b ∧ b ≤ 1000000 ∧ a.natAbs < 2 ^ 64) : fPow [.int a, .int b] = some (.v (.int (a ^ b.toNat))) := if_pos h
theorem k_eqI {a b : Int} : fEq [.int a, .int b] = some (.v (.bl (decide (a = b)))) := by
  simp only [fEq, D.py]
  rw [if_pos ⟨by rfl, by rfl⟩]
  congr 3
theorem k_neI {a b : Int} : fNe [.int a, .int b] = some (.v (.bl (!decide (a = b)))) := by
  have h := @k_eqI a b
  simp only [fEq, fNe, D.py] at h ⊢
  rw [if_pos ⟨by rfl, by rfl⟩] at h ⊢
  injection h with h
  injection h with h
  injection h with h
  rw [h]
theorem k_idx {xs : List D} {i : Int} {d : D} (h : atI xs i = some d) : fIdx [.lst xs, .int i] = some (.v d) := by
  show (atI xs i).map RK.v = _
  rw [h]; rfl
theorem k_idxT {xs : List D} {i : Int} {d : D} (h : atI xs i = some d) : fIdx [.tup xs, .int i] = some (.v d) := by
  show (atI xs i).map RK.v = _
  rw [h]; rfl
theorem k_idxS {xs : List D} {i : Int} {d : D} (h : atI xs i = some d) : fIdx [.scr xs, .int i] = some (.v d) := by
  show (atI xs i).map RK.v = _
  rw [h]; rfl
theorem ixN_nat {n : Nat} {i : Int} (h : 0 ≤ i) (h2 : i < n) : ixN n i = some i.toNat := by
  unfold ixN
  first
  | (simp [h, h2]; done)
  | (simp [h, h2]; omega)
theorem ixN_neg {n : Nat} (h : 0 < n) : ixN n (-1) = some (n - 1) := by
  unfold ixN
  first
  | (simp [h]; done)
  | (simp [h]; omega)
theorem atI_nat {xs : List D} {i : Nat} {d : D} (h : xs[i]? = some d) : atI xs (i : Int) = some d := by
  have hl := (List.getElem?_eq_some_iff.mp h).1
  unfold atI
  rw [ixN_nat (by omega) (by omega)]
  simpa using h
theorem atI_last {xs : List D} {d : D} (h : xs[xs.length - 1]? = some d) : atI xs (-1) = some d := by
  have hl := (List.getElem?_eq_some_iff.mp h).1
  unfold atI
  rw [ixN_neg (by omega)]
  simpa using h
theorem k_r1 {i : Int} (h : -(2 ^ 62) ≤ i ∧ i < 2 ^ 62) : fR1 [.int i] = some (rgD 0 i.toNat) := if_pos h
theorem k_r2 {i j : Int} (h : -(2 ^ 62) ≤ i ∧ i < 2 ^ 62 ∧ -(2 ^ 62) ≤ j ∧ j < 2 ^ 62) : fR2 [.int i, .int j] = some (rgD i (j - i).toNat) := if_pos h
theorem k_rd {i j : Int} (h : -(2 ^ 62) ≤ i ∧ i < 2 ^ 62 ∧ -(2 ^ 62) ≤ j ∧ j < 2 ^ 62) : fRd [.int i, .int j, .int (-1)] = some (rgC i (-1) (i - j).toNat) := if_pos ⟨h, rfl⟩
theorem rgD_get {a : Int} {n i : Nat} {d : D} (h : (rgD a n)[i]? = some d) : i < n ∧ d = .int (a + i) := by
  unfold rgD at h
  simp only [List.getElem?_map] at h
  cases e : (List.range n)[i]? with
  | none => rw [e] at h; cases h
  | some k =>
    rw [e] at h
    obtain ⟨h1, h2⟩ := List.getElem?_eq_some_iff.mp e
    simp at h1 h2
    subst h2
    cases h
    exact ⟨h1, rfl⟩
theorem rgD_len {a : Int} {n : Nat} : (rgD a n).length = n := by simp [rgD]
end Ml

set_option maxHeartbeats 4000000
/-! Loops by rules; lists by functions. -/
namespace Ml
open PySem L2 PyProof.Rows
theorem rng1 {i : Int} (h1 : -1000000000 ≤ i) (h2 : i < 1000000000) : -(2 ^ 62) ≤ i ∧ i < 2 ^ 62 := by
  have e : (2 : Int) ^ 62 = 4611686018427387904 := by decide +kernel
  rw [e]
  omega
theorem rng2 {i j : Int} (h1 : -1000000000 ≤ i ∧ i < 1000000000) (h2 : -1000000000 ≤ j ∧ j < 1000000000) : -(2 ^ 62) ≤ i ∧ i < 2 ^ 62 ∧ -(2 ^ 62) ≤ j ∧ j < 2 ^ 62 := ⟨(rng1 h1.1 h1.2).1, (rng1 h1.1 h1.2).2, rng1 h2.1 h2.2⟩
theorem k_repI {x : D} {i : Int} (h : 0 ≤ i ∧ i < 1000000) : fMul [.lst [x], .int i] = some (.n (.lst (List.replicate i.toNat x))) := by
  have sl16 : sizeLine = 16777216 := sizeLine_eq
  have e63 : (2 : Int) ^ 63 = 9223372036854775808 := by decide +kernel
  have c : -(2 ^ 63) ≤ i ∧ i < 2 ^ 63 ∧ [x].length * i.toNat ≤ sizeLine := by
    rw [e63]
    simp only [List.length_cons, List.length_nil]
    omega
  have e : fMul [.lst [x], .int i] = if -(2 ^ 63) ≤ i ∧ i < 2 ^ 63 ∧ [x].length * i.toNat ≤ sizeLine then some (.n (.lst (List.replicate i.toNat [x]).flatten)) else none := rfl
  rw [e, if_pos c]
  have e2 : ∀ n : Nat, (List.replicate n [x]).flatten = List.replicate n x := fun n => by
    induction n with
    | zero => rfl
    | succ n ih => rw [List.replicate_succ, List.flatten_cons, ih, List.replicate_succ]; rfl
  rw [e2]
theorem k_cat {a b : List D} (h : a.length + b.length ≤ sizeLine) : fAdd [.lst a, .lst b] = some (.n (.lst (a ++ b))) := if_pos h
theorem loop_w {tg : Tg} {a : MS} {ds : List D} {s2 : List Sl} {R : List Sl → Prop} (I : Nat → List Sl → Prop) (h0 : I 0 s2)
    (hs : ∀ (i : Nat) (d : D) (s : List Sl), ds[i]? = some d → I i s → ∃ s1, stT tg d s = some s1 ∧ wS a s1 fun f s' => f = .nx ∧ I (i + 1) s') (hq : ∀ s3, I ds.length s3 → R s3) : ∃ s3, loopF tg a ds s2 = .ok (.nx, s3) ∧ R s3 := by
  obtain ⟨s3, e, i⟩ := loop_inv (tg := tg) (body := a) I h0 fun i d s hd hi => by
    obtain ⟨s1, e1, f, s', e2, rfl, i2⟩ := hs i d s hd hi
    exact ⟨s1, e1, s', e2, i2⟩
  exact ⟨s3, e, hq s3 i⟩
theorem lc_w {vs : List Nat} {tg : Tg} {te : M} {ds : List D} {sl : List Sl} {R : List D → List Sl → Prop} (rs : List D) (hl : rs.length = ds.length)
    (hs : ∀ (i : Nat) (d r : D), ds[i]? = some d → rs[i]? = some r → ∃ s1, stT tg d sl = some s1 ∧ wE te s1 fun rv s2 => rv.d = r ∧ fgs vs s2 = sl) (hh : heldLe sl sl = true) (hq : R rs sl) :
    ∃ rs' s3, lcF vs tg mYes te ds sl = .ok (rs', s3) ∧ R rs' s3 :=
  ⟨rs, sl, lc_map hl (fun i d r h1 h2 => by
    obtain ⟨s1, e1, rv, s2, e2, h3, h4⟩ := hs i d r h1 h2
    exact ⟨s1, e1, rv, s2, e2, h3, h4⟩) hh, hq⟩
/-- a list of integers told by a function -/
def fl (n : Nat) (f : Nat → Int) : List D := (List.range n).map fun k => D.int (f k)
theorem fl_len {n : Nat} {f : Nat → Int} : (fl n f).length = n := by simp [fl]
theorem fl_get {n k : Nat} {f : Nat → Int} (h : k < n) : (fl n f)[k]? = some (.int (f k)) := by
  unfold fl
  rw [List.getElem?_map, List.getElem?_range h]
  rfl
theorem fl_congr {n : Nat} {f g : Nat → Int} (h : ∀ k, k < n → f k = g k) : fl n f = fl n g := by
  unfold fl
  refine List.map_congr_left fun k hk => ?_
  rw [h k (List.mem_range.mp hk)]
theorem fl_set {n m : Nat} {f : Nat → Int} {v : Int} (h : m < n) : (fl n f).set m (.int v) = fl n fun k => if k = m then v else f k := by
  refine List.ext_getElem? fun k => ?_
  by_cases q : k < n
  · rw [fl_get q]
    by_cases e : k = m
    · subst e
      rw [List.getElem?_set, if_pos rfl, if_pos (by rw [fl_len]; exact q), if_pos rfl]
    · rw [List.getElem?_set_ne (Ne.symm e), fl_get q, if_neg e]
  · rw [List.getElem?_eq_none (by rw [List.length_set, fl_len]; omega), List.getElem?_eq_none (by rw [fl_len]; omega)]
theorem fl_app {n : Nat} {f : Nat → Int} : fl n f ++ [.int (f n)] = fl (n + 1) f := by
  unfold fl
  rw [List.range_succ, List.map_append]
  rfl
theorem fl_at {n k : Nat} {f : Nat → Int} (h : k < n) : atI (fl n f) (k : Int) = some (.int (f k)) := atI_nat (fl_get h)
theorem fl_ix {n k : Nat} {f : Nat → Int} {i : Int} (e : i = (k : Int)) (h : k < n) : atI (fl n f) i = some (.int (f k)) := by rw [e]; exact fl_at h
theorem fl_last {n : Nat} {f : Nat → Int} : atI (fl (n + 1) f) (-1) = some (.int (f n)) := atI_last (by rw [fl_len]; exact fl_get (by omega))
theorem ixN_k {n k : Nat} {i : Int} (e : i = (k : Int)) (h : k < n) : ixN n i = some k := by
  rw [e, ixN_nat (by omega) (by omega)]
  rfl
/-- any list of integers, as by a function -/
theorem fl_of (l : List Int) : l.map D.int = fl l.length fun k => l.getD k 0 := by
  refine List.ext_getElem? fun k => ?_
  by_cases q : k < l.length
  · rw [fl_get q, List.getElem?_map, List.getElem?_eq_getElem q]
    simp [q]
  · rw [List.getElem?_eq_none (by rw [List.length_map]; omega), List.getElem?_eq_none (by rw [fl_len]; omega)]
theorem wS_cut {a b : MS} {sl : List Sl} {Q : Fl → List Sl → Prop} (s' : List Sl) (h : wS a sl fun f s => f = .nx ∧ s = s') (k : wS b s' Q) : wS (mSeq a b) sl Q := by
  refine wS_seq (wS_imp h fun f s hh => ?_)
  obtain ⟨rfl, rfl⟩ := hh
  exact k
theorem rg1_get {n i : Nat} {d : D} (h : (rgD 1 n)[i]? = some d) : i < n ∧ d = .int ((i + 1 : Nat) : Int) := by
  obtain ⟨h1, rfl⟩ := rgD_get h
  exact ⟨h1, by congr 1; omega⟩
theorem fl_app' {n : Nat} {f : Nat → Int} {v : Int} (h : v = f n) : fl n f ++ [.int v] = fl (n + 1) f := by rw [h]; exact fl_app
theorem rg0_get {n i : Nat} {d : D} (h : (rgD 0 n)[i]? = some d) : i < n ∧ d = .int (i : Int) := by
  obtain ⟨h1, rfl⟩ := rgD_get h
  exact ⟨h1, by simp⟩
theorem fl_get_inv {n k : Nat} {f : Nat → Int} {d : D} (h : (fl n f)[k]? = some d) : k < n ∧ d = .int (f k) := by
  by_cases q : k < n
  · rw [fl_get q] at h
    exact ⟨q, (Option.some.inj h).symm⟩
  · rw [List.getElem?_eq_none (by rw [fl_len]; omega)] at h
    cases h
end Ml

/-! Sums, products of sequences, Newton's relation. -/
namespace Pw

def sm : Nat → (Nat → Rat) → Rat
  | 0, _ => 0
  | n + 1, f => sm n f + f n
theorem sm_congr {f g : Nat → Rat} : ∀ {n : Nat}, (∀ i, i < n → f i = g i) → sm n f = sm n g
  | 0, _ => rfl
  | n + 1, h => by
    simp only [sm]
    rw [sm_congr (n := n) fun i hi => h i (by omega), h n (by omega)]
theorem sm_add (f g : Nat → Rat) : ∀ n, sm n (fun i => f i + g i) = sm n f + sm n g
  | 0 => by simp [sm] <;> grind
  | n + 1 => by
    simp only [sm]
    rw [sm_add f g n]
    grind
theorem sm_mul (c : Rat) (f : Nat → Rat) : ∀ n, sm n (fun i => c * f i) = c * sm n f
  | 0 => by simp [sm] <;> grind
  | n + 1 => by
    simp only [sm]
    rw [sm_mul c f n]
    grind
theorem sm_zero : ∀ n, sm n (fun _ => 0) = 0
  | 0 => rfl
  | n + 1 => by
    simp only [sm]
    rw [sm_zero n]
    grind
theorem sm_first (f : Nat → Rat) : ∀ n, sm (n + 1) f = f 0 + sm n (fun i => f (i + 1))
  | 0 => by simp [sm] <;> grind
  | n + 1 => by
    have h := sm_first f n
    simp only [sm] at h ⊢
    rw [h]
    grind
theorem sm_rev (f : Nat → Rat) : ∀ n, sm (n + 1) f = sm (n + 1) (fun i => f (n - i))
  | 0 => rfl
  | n + 1 => by
    rw [sm_first (fun i => f (n + 1 - i)) (n + 1)]
    have h : sm (n + 1) (fun i => f (n + 1 - (i + 1))) = sm (n + 1) (fun i => f (n - i)) := sm_congr fun i _ => by
      have : n + 1 - (i + 1) = n - i := by omega
      rw [this]
    rw [h, ← sm_rev f n]
    show sm (n + 1) f + f (n + 1) = _
    have : n + 1 - 0 = n + 1 := by omega
    rw [this]
    grind
/-- the product of two sequences -/
def cv (a b : Nat → Rat) (k : Nat) : Rat := sm (k + 1) fun i => a i * b (k - i)
theorem cv_comm (a b : Nat → Rat) (k : Nat) : cv a b k = cv b a k := by
  unfold cv
  rw [sm_rev]
  refine sm_congr fun i hi => ?_
  have : k - (k - i) = i := by omega
  rw [this]
  grind
theorem tri : ∀ (n : Nat) (G : Nat → Nat → Nat → Rat), sm (n + 1) (fun i => sm (i + 1) fun j => G j (i - j) (n - i)) = sm (n + 1) (fun j => sm (n - j + 1) fun m => G j m (n - j - m))
  | 0, G => by simp [sm]
  | n + 1, G => by
    have ih := tri n fun j m l => G j m (l + 1)
    have e1 : sm (n + 2) (fun i => sm (i + 1) fun j => G j (i - j) (n + 1 - i)) = sm (n + 1) (fun i => sm (i + 1) fun j => G j (i - j) (n - i + 1)) + sm (n + 2) fun j => G j (n + 1 - j) 0 := by
      show sm (n + 1) _ + sm (n + 2) (fun j => G j (n + 1 - j) (n + 1 - (n + 1))) = _
      congr 1
      · refine sm_congr fun i hi => sm_congr fun j hj => ?_
        have : n + 1 - i = n - i + 1 := by omega
        rw [this]
      · refine sm_congr fun j hj => ?_
        have : n + 1 - (n + 1) = 0 := by omega
        rw [this]
    have e2 : sm (n + 2) (fun j => sm (n + 1 - j + 1) fun m => G j m (n + 1 - j - m)) = sm (n + 1) (fun j => sm (n - j + 1) fun m => G j m (n - j - m + 1)) + sm (n + 2) fun j => G j (n + 1 - j) 0 := by
      have e3 : sm (n + 2) (fun j => sm (n + 1 - j + 1) fun m => G j m (n + 1 - j - m)) = sm (n + 2) (fun j => sm (n + 1 - j) (fun m => G j m (n + 1 - j - m)) + G j (n + 1 - j) 0) := by
        refine sm_congr fun j hj => ?_
        show sm (n + 1 - j) _ + G j (n + 1 - j) (n + 1 - j - (n + 1 - j)) = _
        have : n + 1 - j - (n + 1 - j) = 0 := by omega
        rw [this]
      rw [e3, sm_add]
      congr 1
      show sm (n + 1) _ + sm (n + 1 - (n + 1)) _ = _
      have z : n + 1 - (n + 1) = 0 := by omega
      rw [z]
      have z2 : sm 0 (fun m => G (n + 1) m (0 - m)) = 0 := rfl
      rw [z2]
      have e4 : sm (n + 1) (fun j => sm (n + 1 - j) fun m => G j m (n + 1 - j - m)) = sm (n + 1) (fun j => sm (n - j + 1) fun m => G j m (n - j - m + 1)) := by
        refine sm_congr fun j hj => ?_
        have : n + 1 - j = n - j + 1 := by omega
        rw [this]
        refine sm_congr fun m hm => ?_
        have : n - j + 1 - m = n - j - m + 1 := by omega
        rw [this]
      rw [e4]
      grind
    rw [e1, e2, ih]
theorem cv_assoc (a b c : Nat → Rat) (k : Nat) : cv (cv a b) c k = cv a (cv b c) k := by
  have h := tri k fun j m l => a j * b m * c l
  have e1 : cv (cv a b) c k = sm (k + 1) (fun i => sm (i + 1) fun j => a j * b (i - j) * c (k - i)) := by
    unfold cv
    refine sm_congr fun i hi => ?_
    rw [Rat.mul_comm, ← sm_mul]
    refine sm_congr fun j hj => ?_
    grind
  have e2 : cv a (cv b c) k = sm (k + 1) (fun j => sm (k - j + 1) fun m => a j * b m * c (k - j - m)) := by
    unfold cv
    refine sm_congr fun i hi => ?_
    rw [← sm_mul]
    refine sm_congr fun j hj => ?_
    grind
  rw [e1, e2, h]
theorem cv_add (a b c : Nat → Rat) (k : Nat) : cv a (fun i => b i + c i) k = cv a b k + cv a c k := by
  unfold cv
  rw [← sm_add]
  refine sm_congr fun i hi => ?_
  grind
theorem cv_congr {a a' b b' : Nat → Rat} {k : Nat} (h : ∀ i, i ≤ k → a i = a' i) (h2 : ∀ i, i ≤ k → b i = b' i) : cv a b k = cv a' b' k := by
  unfold cv
  refine sm_congr fun i hi => ?_
  rw [h i (by omega), h2 (k - i) (by omega)]
/-- Newton's relation -/
structure Nw (e s : Nat → Rat) : Prop where
  one : e 0 = 1
  zero : s 0 = 0
  rel : ∀ k : Nat, (k : Rat) * e k + cv e s k = 0
def un : Nat → Rat := fun k => if k = 0 then 1 else 0
theorem cv_un (a : Nat → Rat) (k : Nat) : cv un a k = a k := by
  unfold cv
  rw [sm_first]
  have : sm k (fun i => un (i + 1) * a (k - (i + 1))) = 0 := by
    rw [← sm_zero k]
    refine sm_congr fun i hi => ?_
    simp [un]
  rw [this]
  simp [un] <;> grind
theorem nw_un : Nw un fun _ => 0 where
  one := rfl
  zero := rfl
  rel k := by
    rw [cv_un]
    unfold un
    split
    · rename_i h; subst h; simp <;> grind
    · simp <;> grind
theorem nw_mul {e s f t : Nat → Rat} (h : Nw e s) (g : Nw f t) : Nw (cv e f) fun k => s k + t k where
  one := by simp [cv, sm, h.one, g.one] <;> grind
  zero := by simp [h.zero, g.zero] <;> grind
  rel k := by
    have d : (k : Rat) * cv e f k = cv (fun i => (i : Rat) * e i) f k + cv e (fun i => (i : Rat) * f i) k := by
      unfold cv
      rw [← sm_mul, ← sm_add]
      refine sm_congr fun i hi => ?_
      have : (k : Rat) = (i : Rat) + ((k - i : Nat) : Rat) := by
        have e : k = i + (k - i) := by omega
        have e2 : (k : Rat) = ((i + (k - i) : Nat) : Rat) := by rw [← e]
        rw [e2]
        exact Rat.natCast_add _ _
      rw [this]
      grind
    have h1 : cv (fun i => (i : Rat) * e i) f k = - cv (cv e f) s k := by
      have q : cv (fun i => (i : Rat) * e i) f k = cv (fun i => -1 * cv e s i) f k := cv_congr (fun i _ => by have := h.rel i; grind) fun _ _ => rfl
      rw [q, cv_comm]
      have q2 : cv f (fun i => -1 * cv e s i) k = -1 * cv f (cv e s) k := by
        unfold cv
        rw [← sm_mul]
        exact sm_congr fun i hi => by grind
      rw [q2, cv_assoc e f s]
      have q3 : cv e (cv f s) k = cv f (cv e s) k := by
        rw [← cv_assoc, ← cv_assoc]
        exact cv_congr (fun i _ => cv_comm e f i) fun _ _ => rfl
      rw [q3]
      grind
    have h2 : cv e (fun i => (i : Rat) * f i) k = - cv (cv e f) t k := by
      have q : cv e (fun i => (i : Rat) * f i) k = cv e (fun i => -1 * cv f t i) k := cv_congr (fun _ _ => rfl) fun i _ => by have := g.rel i; grind
      rw [q]
      have q2 : cv e (fun i => -1 * cv f t i) k = -1 * cv e (cv f t) k := by
        unfold cv
        rw [← sm_mul]
        exact sm_congr fun i hi => by grind
      rw [q2, cv_assoc]
      grind
    rw [d, h1, h2, cv_add]
    grind
/-- Newton's relation, the k-th row -/
theorem nw_row {e s : Nat → Rat} (h : Nw e s) {k : Nat} (hk : 0 < k) : (k : Rat) * e k + sm k (fun i => e i * s (k - i)) = 0 := by
  have := h.rel k
  unfold cv at this
  simp only [sm, Nat.sub_self, h.zero] at this
  grind
theorem nw_uniq {e s f t : Nat → Rat} {n : Nat} (h : Nw e s) (g : Nw f t) (hs : ∀ k, 0 < k → k ≤ n → s k = t k) : ∀ k, k ≤ n → e k = f k := by
  intro k
  induction k using Nat.strongRecOn with
  | _ k ih =>
    intro hk
    by_cases z : k = 0
    · subst z; rw [h.one, g.one]
    · have a := nw_row h (k := k) (by omega)
      have b := nw_row g (k := k) (by omega)
      have c : sm k (fun i => e i * s (k - i)) = sm k (fun i => f i * t (k - i)) := sm_congr fun i hi => by rw [ih i hi (by omega), hs (k - i) (by omega) (by omega)]
      rw [c] at a
      have d : (k : Rat) * e k = (k : Rat) * f k := by grind
      have nz : (k : Rat) ≠ 0 := by
        intro q
        have : (k : Rat) = ((0 : Nat) : Rat) := by rw [q]; rfl
        have := Rat.natCast_inj.mp this
        omega
      grind
/-- the sums are told by the numbers -/
theorem nw_sums {e s t : Nat → Rat} {n : Nat} (h : Nw e s) (ht : ∀ k, 0 < k → k ≤ n → (k : Rat) * e k + sm k (fun i => e i * t (k - i)) = 0) : ∀ k, 0 < k → k ≤ n → s k = t k := by
  intro k
  induction k using Nat.strongRecOn with
  | _ k ih =>
    intro h0 hk
    have a := nw_row h h0
    have b := ht k h0 hk
    obtain ⟨m, rfl⟩ : ∃ m, k = m + 1 := ⟨k - 1, by omega⟩
    rw [sm_first] at a b
    have c : sm m (fun i => e (i + 1) * s (m + 1 - (i + 1))) = sm m (fun i => e (i + 1) * t (m + 1 - (i + 1))) := sm_congr fun i hi => by rw [ih (m + 1 - (i + 1)) (by omega) (by omega) (by omega)]
    rw [c] at a
    have one := h.one
    simp only [Nat.sub_zero] at a b
    grind
theorem rpow_add (c : Rat) (m : Nat) : ∀ n : Nat, c ^ (m + n) = c ^ m * c ^ n
  | 0 => by simp
  | n + 1 => by
    rw [← Nat.add_assoc, Rat.pow_succ, Rat.pow_succ, rpow_add c m n]
    grind
theorem nw_scale {e s : Nat → Rat} (h : Nw e s) (c : Rat) : Nw (fun k => e k * c ^ k) fun k => s k * c ^ k where
  one := by simp [h.one] <;> grind
  zero := by simp [h.zero] <;> grind
  rel k := by
    have := h.rel k
    have q : cv (fun k => e k * c ^ k) (fun k => s k * c ^ k) k = c ^ k * cv e s k := by
      unfold cv
      rw [← sm_mul]
      refine sm_congr fun i hi => ?_
      have : c ^ k = c ^ i * c ^ (k - i) := by
        rw [← rpow_add]
        congr 1
        omega
      rw [this]
      grind
    rw [q]
    grind
/-- traces -/
def tr (t q : Rat) : Nat → Rat
  | 0 => 2
  | 1 => t
  | n + 2 => t * tr t q (n + 1) - q * tr t q n
/-- x^2 - t x + q, backwards; for q = 0 and d = 1: 1 - t x -/
def fac (t q : Rat) : Nat → Rat
  | 0 => 1
  | 1 => -t
  | 2 => q
  | _ => 0
theorem nw_lin (r : Rat) : Nw (fac r 0) fun k => if k = 0 then 0 else r ^ k where
  one := rfl
  zero := rfl
  rel k := by
    match k with
    | 0 => simp [cv, sm] <;> grind
    | 1 => simp [cv, sm, fac] <;> grind
    | k + 2 =>
      unfold cv
      rw [sm_first, sm_first]
      have : sm (k + 1) (fun i => fac r 0 (i + 1 + 1) * (if k + 2 - (i + 1 + 1) = 0 then 0 else r ^ (k + 2 - (i + 1 + 1)))) = 0 := by
        refine (sm_congr (g := fun _ => 0) fun i hi => ?_).trans (sm_zero _)
        have : fac r 0 (i + 1 + 1) = 0 := by
          cases i <;> rfl
        rw [this]
        grind
      rw [this]
      have z : fac r 0 (k + 2) = 0 := by cases k <;> rfl
      rw [z]
      have n1 : k + 2 - 0 ≠ 0 := by omega
      have n2 : k + 2 - (0 + 1) ≠ 0 := by omega
      simp only [if_neg n1, if_neg n2]
      have e1 : k + 2 - 0 = (k + 1) + 1 := by omega
      have e2 : k + 2 - (0 + 1) = k + 1 := by omega
      rw [e1, e2, Rat.pow_succ]
      simp only [fac]
      grind
theorem nw_quad (t q : Rat) : Nw (fac t q) fun k => if k = 0 then 0 else tr t q k where
  one := rfl
  zero := rfl
  rel k := by
    match k with
    | 0 => simp [cv, sm] <;> grind
    | 1 => simp [cv, sm, fac, tr] <;> grind
    | 2 => simp [cv, sm, fac, tr] <;> grind
    | k + 3 =>
      unfold cv
      rw [sm_first, sm_first, sm_first]
      have : sm (k + 1) (fun i => fac t q (i + 1 + 1 + 1) * (if k + 3 - (i + 1 + 1 + 1) = 0 then 0 else tr t q (k + 3 - (i + 1 + 1 + 1)))) = 0 := by
        refine (sm_congr (g := fun _ => 0) fun i hi => ?_).trans (sm_zero _)
        have : fac t q (i + 1 + 1 + 1) = 0 := rfl
        rw [this]
        grind
      rw [this]
      have z : fac t q (k + 3) = 0 := rfl
      rw [z]
      have n1 : k + 3 - 0 ≠ 0 := by omega
      have n2 : k + 3 - (0 + 1) ≠ 0 := by omega
      have n3 : k + 3 - (0 + 1 + 1) ≠ 0 := by omega
      simp only [if_neg n1, if_neg n2, if_neg n3]
      have e1 : k + 3 - 0 = (k + 1) + 2 := by omega
      have e2 : k + 3 - (0 + 1) = (k + 1) + 1 := by omega
      have e3 : k + 3 - (0 + 1 + 1) = k + 1 := by omega
      rw [e1, e2, e3]
      simp only [fac, tr]
      grind
/-- powers of a root y of x^2 - t x + q: the pairs (a, b) of a + b y -/
def pr (t q : Rat) : Nat → Rat × Rat
  | 0 => (1, 0)
  | n + 1 => (-((pr t q n).2 * q), (pr t q n).1 + (pr t q n).2 * t)
theorem tr_split (t q : Rat) : ∀ m l : Nat, tr t q (m + 2 * l) = tr t q l * tr t q (m + l) - q ^ l * tr t q m := by
  let P : Nat → Rat × Rat := pr t q
  have P0 : P 0 = (1, 0) := rfl
  have PS : ∀ n, P (n + 1) = (-((P n).2 * q), (P n).1 + (P n).2 * t) := fun n => rfl
  have T : ∀ n, tr t q n = 2 * (P n).1 + (P n).2 * t ∧ tr t q (n + 1) = 2 * (P (n + 1)).1 + (P (n + 1)).2 * t := by
    intro n
    induction n with
    | zero => rw [PS, P0]; simp only [tr]; constructor <;> grind
    | succ n ih =>
      refine ⟨ih.2, ?_⟩
      rw [PS (n + 1)]
      show t * tr t q (n + 1) - q * tr t q n = _
      rw [ih.1, ih.2, PS n]
      simp only
      grind
  have M : ∀ n m, P (m + n) = ((P m).1 * (P n).1 - (P m).2 * (P n).2 * q, (P m).1 * (P n).2 + (P m).2 * (P n).1 + (P m).2 * (P n).2 * t) := by
    intro n
    induction n with
    | zero => intro m; rw [P0, Nat.add_zero]; ext <;> grind
    | succ n ih =>
      intro m
      rw [← Nat.add_assoc, PS (m + n), ih m, PS n]
      ext <;> simp only <;> grind
  have Q : ∀ n, (P n).1 * (P n).1 + (P n).1 * (P n).2 * t + (P n).2 * (P n).2 * q = q ^ n := by
    intro n
    induction n with
    | zero => rw [P0]; simp <;> grind
    | succ n ih =>
      rw [PS n, Rat.pow_succ, ← ih]
      simp only
      grind
  intro m l
  have e : m + 2 * l = (m + l) + l := by omega
  rw [(T (m + 2 * l)).1, (T l).1, (T (m + l)).1, (T m).1, e, M l (m + l), M l m, ← Q l]
  simp only
  grind
/-- each l-th of the traces are traces -/
theorem tr_pow (t q : Rat) (l : Nat) : ∀ k, tr (tr t q l) (q ^ l) k = tr t q (l * k) := by
  intro k
  induction k using Nat.strongRecOn with
  | _ k ih =>
    match k with
    | 0 => rfl
    | 1 => rw [Nat.mul_one]; rfl
    | k + 2 =>
      show tr t q l * tr (tr t q l) (q ^ l) (k + 1) - q ^ l * tr (tr t q l) (q ^ l) k = _
      rw [ih (k + 1) (by omega), ih k (by omega)]
      have h := tr_split t q (l * k) l
      have e1 : l * (k + 2) = l * k + 2 * l := by rw [Nat.mul_add, Nat.mul_comm l 2]
      have e2 : l * (k + 1) = l * k + l := by rw [Nat.mul_add, Nat.mul_one]
      rw [e1, e2, h]
end Pw

/-! Gauss: factors of a whole polynomial with the leading number 1 are whole. -/
namespace Pw

def isI (x : Rat) : Prop := ∃ z : Int, x = (z : Rat)
theorem isI_add {x y : Rat} (h : isI x) (g : isI y) : isI (x + y) := by
  obtain ⟨a, rfl⟩ := h
  obtain ⟨b, rfl⟩ := g
  exact ⟨a + b, by rw [Rat.intCast_add]⟩
theorem isI_mul {x y : Rat} (h : isI x) (g : isI y) : isI (x * y) := by
  obtain ⟨a, rfl⟩ := h
  obtain ⟨b, rfl⟩ := g
  exact ⟨a * b, by rw [Rat.intCast_mul]⟩
theorem isI_neg {x : Rat} (h : isI x) : isI (-x) := by
  obtain ⟨a, rfl⟩ := h
  exact ⟨-a, by rw [Rat.intCast_neg]⟩
theorem isI_int (z : Int) : isI (z : Rat) := ⟨z, rfl⟩
theorem isI_sm {f : Nat → Rat} (h : ∀ i, isI (f i)) : ∀ n, isI (sm n f)
  | 0 => ⟨0, by simp [sm]⟩
  | n + 1 => isI_add (isI_sm h n) (h n)
theorem isI_pow {x : Rat} (h : isI x) : ∀ n : Nat, isI (x ^ n)
  | 0 => ⟨1, by simp⟩
  | n + 1 => by
    rw [Rat.pow_succ]
    exact isI_mul (isI_pow h n) h
def smI : Nat → (Nat → Int) → Int
  | 0, _ => 0
  | n + 1, f => smI n f + f n
theorem smI_cast (f : Nat → Int) : ∀ n, ((smI n f : Int) : Rat) = sm n fun i => (f i : Rat)
  | 0 => by simp [smI, sm]
  | n + 1 => by
    simp only [smI, sm]
    rw [Rat.intCast_add, smI_cast f n]
theorem smI_dvd {p : Int} {g : Nat → Int} : ∀ {n : Nat}, (∀ a, a < n → p ∣ g a) → p ∣ smI n g
  | 0, _ => Int.dvd_zero p
  | n + 1, h => Int.dvd_add (smI_dvd fun a ha => h a (by omega)) (h n (by omega))
theorem smI_one {p : Int} {g : Nat → Int} {i : Nat} : ∀ {n : Nat}, i < n → (∀ a, a < n → a ≠ i → p ∣ g a) → p ∣ smI n g - g i
  | 0, h, _ => by omega
  | n + 1, h, k => by
    by_cases e : i = n
    · subst e
      have := smI_dvd (n := i) (g := g) (p := p) fun a ha => k a (by omega) (by omega)
      simp only [smI]
      have e2 : smI i g + g i - g i = smI i g := by omega
      rw [e2]
      exact this
    · have h1 := smI_one (n := n) (by omega) fun a ha hne => k a (by omega) hne
      have h2 := k n (by omega) (fun z => e z.symm)
      simp only [smI]
      have e2 : smI n g + g n - g i = (smI n g - g i) + g n := by omega
      rw [e2]
      exact Int.dvd_add h1 h2
theorem exists_min {P : Nat → Prop} (h : ∃ n, P n) : ∃ n, P n ∧ ∀ m, m < n → ¬ P m := by
  obtain ⟨n, hn⟩ := h
  induction n using Nat.strongRecOn with
  | _ n ih =>
    by_cases q : ∃ m, m < n ∧ P m
    · obtain ⟨m, hm, pm⟩ := q
      exact ih m hm pm
    · exact ⟨n, hn, fun m hm pm => q ⟨m, hm, pm⟩⟩
/-- the least divisor is prime -/
theorem prime_of {d : Nat} (h : 2 ≤ d) : ∃ p : Nat, 2 ≤ p ∧ p ∣ d ∧ ∀ a b : Int, (p : Int) ∣ a * b → (p : Int) ∣ a ∨ (p : Int) ∣ b := by
  obtain ⟨p, ⟨h2, hd⟩, hm⟩ := exists_min (P := fun p => 2 ≤ p ∧ p ∣ d) ⟨d, h, Nat.dvd_refl d⟩
  refine ⟨p, h2, hd, fun a b hab => ?_⟩
  have hg : Nat.gcd p a.natAbs ∣ p := Nat.gcd_dvd_left _ _
  have hgd : Nat.gcd p a.natAbs ∣ d := Nat.dvd_trans hg hd
  have hpos : 0 < Nat.gcd p a.natAbs := Nat.gcd_pos_of_pos_left _ (by omega)
  have hle : Nat.gcd p a.natAbs ≤ p := Nat.le_of_dvd (by omega) hg
  by_cases e : Nat.gcd p a.natAbs = 1
  · right
    have h3 : p ∣ a.natAbs * b.natAbs := by
      rw [← Int.natAbs_mul]
      exact Int.ofNat_dvd_left.mp hab
    exact Int.ofNat_dvd_left.mpr (Nat.Coprime.dvd_of_dvd_mul_left (k := p) (m := a.natAbs) e h3)
  · left
    have e2 : Nat.gcd p a.natAbs = p := by
      by_cases q : Nat.gcd p a.natAbs < p
      · exact absurd ⟨by omega, hgd⟩ (hm _ q)
      · omega
    have h4 : p ∣ a.natAbs := by
      have := Nat.gcd_dvd_right p a.natAbs
      rw [e2] at this
      exact this
    exact Int.ofNat_dvd_left.mpr h4
theorem den_nz (x : Rat) : (x.den : Rat) ≠ 0 := by
  intro q
  have : (x.den : Rat) = ((0 : Nat) : Rat) := by rw [q]; rfl
  exact x.den_nz (Rat.natCast_inj.mp this)
theorem den_ok (x : Rat) : ((x.den : Nat) : Rat) * x = (x.num : Rat) := by
  have h := Rat.num_divInt_den x
  rw [Rat.divInt_eq_div, Rat.intCast_natCast] at h
  have nz := den_nz x
  grind
def fin (e : Nat → Rat) : Prop := ∃ n, ∀ k, n ≤ k → e k = 0
theorem den_all {e : Nat → Rat} (h : fin e) : ∃ d : Nat, 0 < d ∧ ∀ k, isI ((d : Rat) * e k) := by
  obtain ⟨n, h⟩ := h
  have key : ∀ m : Nat, ∃ d : Nat, 0 < d ∧ ∀ k, k < m → isI ((d : Rat) * e k) := by
    intro m
    induction m with
    | zero => exact ⟨1, by omega, fun k hk => by omega⟩
    | succ m ih =>
      obtain ⟨d, hd, ih⟩ := ih
      refine ⟨d * (e m).den, Nat.mul_pos hd (Rat.den_pos _), fun k hk => ?_⟩
      rw [Rat.natCast_mul]
      by_cases q : k = m
      · subst q
        have : (d : Rat) * ((e k).den : Rat) * e k = (d : Rat) * (((e k).den : Rat) * e k) := by grind
        rw [this, den_ok]
        exact isI_mul ⟨d, by rw [Rat.intCast_natCast]⟩ (isI_int _)
      · have : (d : Rat) * ((e m).den : Rat) * e k = ((e m).den : Rat) * ((d : Rat) * e k) := by grind
        rw [this]
        exact isI_mul ⟨(e m).den, by rw [Rat.intCast_natCast]⟩ (ih k (by omega))
  obtain ⟨d, hd, hk⟩ := key n
  refine ⟨d, hd, fun k => ?_⟩
  by_cases q : k < n
  · exact hk k q
  · rw [h k (by omega)]
    exact ⟨0, by simp⟩
/-- the least number that makes all whole; no prime of it takes them all -/
theorem den_min {e : Nat → Rat} (h : fin e) (h1 : e 0 = 1) : ∃ (d : Nat) (A : Nat → Int), 0 < d ∧ (∀ k, ((A k : Int) : Rat) = (d : Rat) * e k) ∧ ∀ p : Nat, 2 ≤ p → ∃ i, ¬ (p : Int) ∣ A i := by
  obtain ⟨d, ⟨hd, hi⟩, hm⟩ := exists_min (den_all h)
  refine ⟨d, fun k => (hi k).choose, hd, fun k => ((hi k).choose_spec).symm, fun p hp => ?_⟩
  apply Classical.byContradiction
  intro no
  have all : ∀ k, (p : Int) ∣ (hi k).choose := fun k => Classical.byContradiction fun z => no ⟨k, z⟩
  have e0 : ((hi 0).choose : Rat) = (d : Rat) := by
    rw [← (hi 0).choose_spec, h1]
    grind
  have e1 : (hi 0).choose = (d : Int) := by
    apply Rat.intCast_inj.mp
    rw [e0, Rat.intCast_natCast]
  have pd : p ∣ d := by
    have := all 0
    rw [e1] at this
    exact Int.ofNat_dvd.mp this
  obtain ⟨c, hc⟩ := pd
  have cpos : 0 < c := by
    rcases Nat.eq_zero_or_pos c with z | z
    · rw [z] at hc; omega
    · exact z
  have clt : c < d := by
    rw [hc]
    have : c * 2 ≤ c * p := Nat.mul_le_mul_left c hp
    rw [Nat.mul_comm p c]
    omega
  refine hm c clt ⟨cpos, fun k => ?_⟩
  obtain ⟨z, hz⟩ := all k
  refine ⟨z, ?_⟩
  have s := (hi k).choose_spec
  rw [hz, hc, Rat.natCast_mul, Rat.intCast_mul, Rat.intCast_natCast] at s
  have pnz : (p : Rat) ≠ 0 := by
    intro q
    have : (p : Rat) = ((0 : Nat) : Rat) := by rw [q]; rfl
    have := Rat.natCast_inj.mp this
    omega
  grind
theorem gauss {e f : Nat → Rat} (he : fin e) (hf : fin f) (e1 : e 0 = 1) (f1 : f 0 = 1) (h : ∀ k, isI (cv e f k)) : ∀ k, isI (e k) := by
  obtain ⟨d, A, dpos, hA, dm⟩ := den_min he e1
  obtain ⟨d', B, dpos', hB, dm'⟩ := den_min hf f1
  by_cases hd : d = 1
  · intro k
    refine ⟨A k, ?_⟩
    rw [hA k, hd]
    have : ((1 : Nat) : Rat) = 1 := rfl
    rw [this]
    grind
  · exfalso
    obtain ⟨p, hp, pd, pp⟩ := prime_of (d := d) (by omega)
    obtain ⟨i, hi, mi⟩ := exists_min (dm p hp)
    obtain ⟨j, hj, mj⟩ := exists_min (dm' p hp)
    have mi' : ∀ m, m < i → (p : Int) ∣ A m := fun m hm => Classical.byContradiction (mi m hm)
    have mj' : ∀ m, m < j → (p : Int) ∣ B m := fun m hm => Classical.byContradiction (mj m hm)
    have c1 : (p : Int) ∣ smI (i + j + 1) fun a => A a * B (i + j - a) := by
      obtain ⟨z, hz⟩ := h (i + j)
      have : smI (i + j + 1) (fun a => A a * B (i + j - a)) = (d : Int) * ((d' : Int) * z) := by
        apply Rat.intCast_inj.mp
        rw [smI_cast, Rat.intCast_mul, Rat.intCast_mul, Rat.intCast_natCast, Rat.intCast_natCast, ← hz]
        unfold cv
        rw [← sm_mul, ← sm_mul]
        refine sm_congr fun a ha => ?_
        rw [Rat.intCast_mul, hA, hB]
        grind
      rw [this]
      obtain ⟨c, hc⟩ := pd
      exact ⟨(c : Int) * ((d' : Int) * z), by rw [hc, Int.natCast_mul, Int.mul_assoc]⟩
    have c2 := smI_one (p := (p : Int)) (g := fun a => A a * B (i + j - a)) (i := i) (n := i + j + 1) (by omega) fun a ha hne => by
      by_cases q : a < i
      · exact Int.dvd_mul_of_dvd_left (mi' a q)
      · exact Int.dvd_mul_of_dvd_right (mj' (i + j - a) (by omega))
    have c3 : (p : Int) ∣ A i * B j := by
      have e3 : i + j - i = j := by omega
      simp only [e3] at c2
      have := Int.dvd_sub c1 c2
      have e4 : smI (i + j + 1) (fun a => A a * B (i + j - a)) - (smI (i + j + 1) (fun a => A a * B (i + j - a)) - A i * B j) = A i * B j := by omega
      rw [e4] at this
      exact this
    rcases pp _ _ c3 with z | z
    · exact hi z
    · exact hj z
end Pw

/-! Products of factors, their powers. -/
namespace Pw

/-- 1 - t x + q x^2, of degree d -/
structure Fc where
  t : Rat
  q : Rat
  d : Nat
def okF (f : Fc) : Prop := (f.d = 1 ∧ f.q = 0) ∨ f.d = 2
def eL : List Fc → Nat → Rat
  | [] => un
  | f :: r => cv (eL r) (fac f.t f.q)
def sL : List Fc → Nat → Rat
  | [] => fun _ => 0
  | f :: r => fun k => sL r k + (if k = 0 then 0 else tr f.t f.q k)
def deg : List Fc → Nat
  | [] => 0
  | f :: r => deg r + f.d
def pwF (l : Nat) (f : Fc) : Fc := ⟨tr f.t f.q l, f.q ^ l, f.d⟩
def scF (A : Rat) (f : Fc) : Fc := ⟨A * f.t, A ^ 2 * f.q, f.d⟩
def intF (f : Fc) : Prop := isI f.t ∧ isI f.q
theorem nwL : ∀ fs : List Fc, Nw (eL fs) (sL fs)
  | [] => nw_un
  | f :: r => nw_mul (nwL r) (nw_quad f.t f.q)
theorem sL_pw {l : Nat} (hl : 1 ≤ l) {k : Nat} (hk : 1 ≤ k) : ∀ fs : List Fc, sL (fs.map (pwF l)) k = sL fs (l * k)
  | [] => rfl
  | f :: r => by
    show sL (r.map (pwF l)) k + (if k = 0 then 0 else tr (tr f.t f.q l) (f.q ^ l) k) = sL r (l * k) + (if l * k = 0 then 0 else tr f.t f.q (l * k))
    have h : l * k ≠ 0 := Nat.mul_ne_zero (by omega) (by omega)
    rw [sL_pw hl hk r, if_neg (by omega), if_neg h, tr_pow]
theorem zero_pow {l : Nat} (h : 1 ≤ l) : (0 : Rat) ^ l = 0 := by
  obtain ⟨m, rfl⟩ : ∃ m, l = m + 1 := ⟨l - 1, by omega⟩
  rw [Rat.pow_succ]
  grind
theorem ok_pw {l : Nat} (hl : 1 ≤ l) {f : Fc} (h : okF f) : okF (pwF l f) := by
  rcases h with ⟨h1, h2⟩ | h
  · left
    exact ⟨h1, by show f.q ^ l = 0; rw [h2, zero_pow hl]⟩
  · exact .inr h
theorem deg_map {g : Fc → Fc} (h : ∀ f, (g f).d = f.d) : ∀ fs : List Fc, deg (fs.map g) = deg fs
  | [] => rfl
  | f :: r => by
    show deg (r.map g) + (g f).d = deg r + f.d
    rw [deg_map h r, h f]
theorem fac_zero {f : Fc} (h : okF f) {k : Nat} (hk : f.d < k) : fac f.t f.q k = 0 := by
  rcases h with ⟨h1, h2⟩ | h
  · match k, hk with
    | 2, _ => exact h2
    | k + 3, _ => rfl
    | 0, hk => omega
    | 1, hk => omega
  · match k, hk with
    | k + 3, _ => rfl
    | 0, hk => omega
    | 1, hk => omega
    | 2, hk => omega
theorem cv_zero {a b : Nat → Rat} {m n k : Nat} (ha : ∀ i, m < i → a i = 0) (hb : ∀ i, n < i → b i = 0) (hk : m + n < k) : cv a b k = 0 := by
  unfold cv
  refine (sm_congr (g := fun _ => 0) fun i hi => ?_).trans (sm_zero _)
  by_cases q : m < i
  · rw [ha i q]; grind
  · rw [hb (k - i) (by omega)]; grind
theorem eL_zero : ∀ {fs : List Fc}, (∀ f ∈ fs, okF f) → ∀ {k : Nat}, deg fs < k → eL fs k = 0
  | [], _, k, hk => by
    show un k = 0
    unfold un
    have : 0 < k := hk
    rw [if_neg (by omega)]
  | f :: r, h, k, hk => cv_zero (m := deg r) (n := f.d) (fun i hi => eL_zero (fun g hg => h g (List.mem_cons_of_mem _ hg)) hi) (fun i hi => fac_zero (h f List.mem_cons_self) hi) hk
theorem eL_one (fs : List Fc) : eL fs 0 = 1 := (nwL fs).one
theorem fin_eL {fs : List Fc} (h : ∀ f ∈ fs, okF f) : fin (eL fs) := ⟨deg fs + 1, fun k hk => eL_zero h (by omega)⟩
theorem fin_fac (t q : Rat) : fin (fac t q) := ⟨3, fun k hk => by
  match k, hk with
  | k + 3, _ => rfl
  | 0, hk => omega
  | 1, hk => omega
  | 2, hk => omega⟩
theorem fac_sc (A t q : Rat) (k : Nat) : fac (A * t) (A ^ 2 * q) k = fac t q k * A ^ k := by
  match k with
  | 0 => simp [fac] <;> grind
  | 1 => simp [fac] <;> grind
  | 2 => simp [fac] <;> grind
  | k + 3 => simp only [fac]; grind
theorem cv_sc (a b : Nat → Rat) (A : Rat) (k : Nat) : cv (fun i => a i * A ^ i) (fun i => b i * A ^ i) k = cv a b k * A ^ k := by
  unfold cv
  rw [Rat.mul_comm, ← sm_mul]
  refine sm_congr fun i hi => ?_
  have : A ^ k = A ^ i * A ^ (k - i) := by
    rw [← rpow_add]
    congr 1
    omega
  rw [this]
  grind
theorem eL_sc (A : Rat) : ∀ (fs : List Fc) (k : Nat), eL (fs.map (scF A)) k = eL fs k * A ^ k
  | [], k => by
    show un k = un k * A ^ k
    unfold un
    split
    · rename_i h; subst h; simp <;> grind
    · grind
  | f :: r, k => by
    show cv (eL (r.map (scF A))) (fac (A * f.t) (A ^ 2 * f.q)) k = cv (eL r) (fac f.t f.q) k * A ^ k
    rw [← cv_sc]
    exact cv_congr (fun i _ => eL_sc A r i) fun i _ => fac_sc A f.t f.q i
theorem tr_sc (A t q : Rat) : ∀ k, tr (A * t) (A ^ 2 * q) k = A ^ k * tr t q k := by
  intro k
  induction k using Nat.strongRecOn with
  | _ k ih =>
    match k with
    | 0 => simp [tr] <;> grind
    | 1 => simp [tr] <;> grind
    | k + 2 =>
      show A * t * tr (A * t) (A ^ 2 * q) (k + 1) - A ^ 2 * q * tr (A * t) (A ^ 2 * q) k = A ^ (k + 2) * (t * tr t q (k + 1) - q * tr t q k)
      rw [ih (k + 1) (by omega), ih k (by omega), Rat.pow_succ A (k + 1), Rat.pow_succ A k]
      have : A ^ 2 = A * A := by rw [Rat.pow_succ, Rat.pow_succ]; simp <;> grind
      rw [this]
      grind
theorem rmul_pow (a b : Rat) : ∀ n : Nat, (a * b) ^ n = a ^ n * b ^ n
  | 0 => by simp <;> grind
  | n + 1 => by
    rw [Rat.pow_succ, Rat.pow_succ, Rat.pow_succ, rmul_pow a b n]
    grind
theorem rpow_mul (a : Rat) (m : Nat) : ∀ n : Nat, a ^ (m * n) = (a ^ m) ^ n
  | 0 => by simp
  | n + 1 => by
    rw [Nat.mul_succ, rpow_add, Rat.pow_succ, rpow_mul a m n]
theorem sc_pw (A : Rat) (l : Nat) (f : Fc) : pwF l (scF A f) = scF (A ^ l) (pwF l f) := by
  have h1 : tr (A * f.t) (A ^ 2 * f.q) l = A ^ l * tr f.t f.q l := tr_sc A f.t f.q l
  have h2 : (A ^ 2 * f.q) ^ l = (A ^ l) ^ 2 * f.q ^ l := by
    rw [rmul_pow, ← rpow_mul, ← rpow_mul, Nat.mul_comm]
  show (⟨tr (A * f.t) (A ^ 2 * f.q) l, (A ^ 2 * f.q) ^ l, f.d⟩ : Fc) = ⟨A ^ l * tr f.t f.q l, (A ^ l) ^ 2 * f.q ^ l, f.d⟩
  rw [h1, h2]
theorem isI_tr {t q : Rat} (ht : isI t) (hq : isI q) : ∀ k, isI (tr t q k) := by
  intro k
  induction k using Nat.strongRecOn with
  | _ k ih =>
    match k with
    | 0 => exact ⟨2, rfl⟩
    | 1 => exact ht
    | k + 2 =>
      show isI (t * tr t q (k + 1) - q * tr t q k)
      have e : t * tr t q (k + 1) - q * tr t q k = t * tr t q (k + 1) + -(q * tr t q k) := by grind
      rw [e]
      exact isI_add (isI_mul ht (ih (k + 1) (by omega))) (isI_neg (isI_mul hq (ih k (by omega))))
theorem isI_un (k : Nat) : isI (un k) := by
  unfold un
  split
  · exact ⟨1, rfl⟩
  · exact ⟨0, rfl⟩
theorem isI_fac {t q : Rat} (ht : isI t) (hq : isI q) (k : Nat) : isI (fac t q k) := by
  match k with
  | 0 => exact ⟨1, rfl⟩
  | 1 => exact isI_neg ht
  | 2 => exact hq
  | k + 3 => exact ⟨0, rfl⟩
theorem isI_cv {a b : Nat → Rat} (ha : ∀ i, isI (a i)) (hb : ∀ i, isI (b i)) (k : Nat) : isI (cv a b k) := isI_sm (fun i => isI_mul (ha i) (hb _)) _
theorem isI_eL : ∀ {fs : List Fc}, (∀ f ∈ fs, intF f) → ∀ k, isI (eL fs k)
  | [], _, k => isI_un k
  | f :: r, h, k => isI_cv (isI_eL fun g hg => h g (List.mem_cons_of_mem _ hg)) (isI_fac (h f List.mem_cons_self).1 (h f List.mem_cons_self).2) k
theorem gaussL : ∀ {fs : List Fc}, (∀ f ∈ fs, okF f) → (∀ k, isI (eL fs k)) → ∀ f ∈ fs, intF f
  | [], _, _, f, hf => by cases hf
  | g :: r, ok, h, f, hf => by
    have okr : ∀ f ∈ r, okF f := fun f hf => ok f (List.mem_cons_of_mem _ hf)
    have h1 : ∀ k, isI (eL r k) := gauss (fin_eL okr) (fin_fac g.t g.q) (eL_one r) rfl h
    have h2 : ∀ k, isI (fac g.t g.q k) := gauss (fin_fac g.t g.q) (fin_eL okr) rfl (eL_one r) fun k => by rw [cv_comm]; exact h k
    rcases List.mem_cons.mp hf with e | hf
    · subst e
      refine ⟨?_, h2 2⟩
      have := isI_neg (h2 1)
      have e : -fac f.t f.q 1 = f.t := by simp only [fac]; grind
      rw [e] at this
      exact this
    · exact gaussL okr h1 f hf
/-- the powers' numbers are whole -/
theorem isI_pw {fs : List Fc} (ok : ∀ f ∈ fs, okF f) {A : Rat} (h : ∀ k, isI (eL fs k * A ^ k)) (l : Nat) : ∀ k, isI (eL (fs.map (pwF l)) k * (A ^ l) ^ k) := by
  intro k
  have h1 : ∀ k, isI (eL (fs.map (scF A)) k) := fun k => by rw [eL_sc]; exact h k
  have ok1 : ∀ f ∈ fs.map (scF A), okF f := fun f hf => by
    obtain ⟨g, hg, rfl⟩ := List.mem_map.mp hf
    rcases ok g hg with ⟨a, b⟩ | a
    · exact .inl ⟨a, by show A ^ 2 * g.q = 0; rw [b]; grind⟩
    · exact .inr a
  have h2 := gaussL ok1 h1
  rw [← eL_sc]
  refine isI_eL (fun f hf => ?_) k
  obtain ⟨g', hg', rfl⟩ := List.mem_map.mp hf
  obtain ⟨g, hg, rfl⟩ := List.mem_map.mp hg'
  rw [← sc_pw]
  have h3 := h2 (scF A g) (List.mem_map_of_mem hg)
  exact ⟨isI_tr h3.1 h3.2 l, isI_pow h3.2 l⟩
end Pw

/-! Whole numbers of the sums. -/
namespace Pw
theorem sm_trunc {f : Nat → Rat} {m : Nat} : ∀ {n : Nat}, m ≤ n → (∀ i, m ≤ i → f i = 0) → sm n f = sm m f
  | 0, h, _ => by have : m = 0 := by omega
                  subst this; rfl
  | n + 1, h, hz => by
    by_cases q : m = n + 1
    · subst q; rfl
    · simp only [sm]
      rw [sm_trunc (n := n) (by omega) hz, hz n (by omega)]
      grind
/-- a relation with whole numbers has whole sums -/
theorem isI_sums {e s : Nat → Rat} (h : Nw e s) (hi : ∀ k, isI (e k)) : ∀ k, isI (s k) := by
  intro k
  induction k using Nat.strongRecOn with
  | _ k ih =>
    by_cases z : k = 0
    · subst z; rw [h.zero]; exact ⟨0, rfl⟩
    · have a := nw_row h (k := k) (by omega)
      obtain ⟨m, rfl⟩ : ∃ m, k = m + 1 := ⟨k - 1, by omega⟩
      rw [sm_first, h.one] at a
      simp only [Nat.sub_zero] at a
      have e1 : s (m + 1) = -(((m + 1 : Nat) : Rat) * e (m + 1) + sm m (fun i => e (i + 1) * s (m + 1 - (i + 1)))) := by grind
      rw [e1]
      refine isI_neg (isI_add (isI_mul ⟨((m + 1 : Nat) : Int), by rw [Rat.intCast_natCast]⟩ (hi _)) ?_)
      have key : ∀ j, j ≤ m → isI (sm j (fun i => e (i + 1) * s (m + 1 - (i + 1)))) := by
        intro j
        induction j with
        | zero => exact fun _ => ⟨0, rfl⟩
        | succ j ihj => exact fun hj => isI_add (ihj (by omega)) (isI_mul (hi _) (ih _ (by omega)))
      exact key m (Nat.le_refl m)
/-- the row as the program sums it: a list's numbers e_k for k to n -/
theorem row_prog {e s : Nat → Rat} (h : Nw e s) {n : Nat} (hz : ∀ k, n < k → e k = 0) {k : Nat} (hk : 1 ≤ k) : s k = -((if k ≤ n then (k : Rat) * e k else 0) + sm (min (n + 1) k - 1) (fun i => e (i + 1) * s (k - (i + 1)))) := by
  have a := nw_row h (k := k) (by omega)
  obtain ⟨m, rfl⟩ : ∃ m, k = m + 1 := ⟨k - 1, by omega⟩
  rw [sm_first, h.one] at a
  simp only [Nat.sub_zero] at a
  have e1 : (if m + 1 ≤ n then ((m + 1 : Nat) : Rat) * e (m + 1) else 0) = ((m + 1 : Nat) : Rat) * e (m + 1) := by
    split
    · rfl
    · rw [hz (m + 1) (by omega)]; grind
  have e2 : sm m (fun i => e (i + 1) * s (m + 1 - (i + 1))) = sm (min (n + 1) (m + 1) - 1) (fun i => e (i + 1) * s (m + 1 - (i + 1))) := by
    by_cases q : m ≤ n
    · have : min (n + 1) (m + 1) - 1 = m := by omega
      rw [this]
    · have : min (n + 1) (m + 1) - 1 = n := by omega
      rw [this]
      exact sm_trunc (by omega) fun i hi => by rw [hz (i + 1) (by omega)]; grind
  rw [e1, ← e2]
  grind
/-- .. as the other one reads it -/
theorem row_prog2 {e s : Nat → Rat} (h : Nw e s) {k : Nat} (hk : 1 ≤ k) : (k : Rat) * e k + (s k + sm (k - 1) (fun i => e (i + 1) * s (k - (i + 1)))) = 0 := by
  have a := nw_row h (k := k) (by omega)
  obtain ⟨m, rfl⟩ : ∃ m, k = m + 1 := ⟨k - 1, by omega⟩
  rw [sm_first, h.one] at a
  simp only [Nat.sub_zero, Nat.add_sub_cancel] at a ⊢
  grind
/-- a bound of the sums -/
theorem sums_bd {e L : Nat → Int} {n m : Nat} (hn : n ≤ 12) (he : ∀ k, (e k).natAbs < 2 ^ m) (h0 : L 0 = (n : Int))
    (hL : ∀ k, 1 ≤ k → L k = -((if k ≤ n then (k : Int) * e k else 0) + smI (min (n + 1) k - 1) fun i => e (i + 1) * L (k - (i + 1)))) : ∀ k, (L k).natAbs < 2 ^ ((m + 10) * k + 5) := by
  intro k
  induction k using Nat.strongRecOn with
  | _ k ih =>
    by_cases z : k = 0
    · subst z
      rw [h0]
      show (n : Int).natAbs < 2 ^ 5
      rw [Int.natAbs_natCast]
      omega
    · rw [hL k (by omega), Int.natAbs_neg]
      have b1 : (if k ≤ n then (k : Int) * e k else 0 : Int).natAbs ≤ 12 * 2 ^ m := by
        split
        · rw [Int.natAbs_mul, Int.natAbs_natCast]
          exact Nat.mul_le_mul (by omega) (Nat.le_of_lt (he k))
        · simp
      have b2 : ∀ j, j ≤ min (n + 1) k - 1 → (smI j fun i => e (i + 1) * L (k - (i + 1))).natAbs ≤ j * (2 ^ m * 2 ^ ((m + 10) * (k - 1) + 5)) := by
        intro j
        induction j with
        | zero => intro _; simp [smI]
        | succ j ihj =>
          intro hj
          have h1 := ihj (by omega)
          have h2 : (e (j + 1) * L (k - (j + 1))).natAbs ≤ 2 ^ m * 2 ^ ((m + 10) * (k - 1) + 5) := by
            rw [Int.natAbs_mul]
            refine Nat.mul_le_mul (Nat.le_of_lt (he _)) (Nat.le_of_lt (Nat.lt_of_lt_of_le (ih (k - (j + 1)) (by omega)) (Nat.pow_le_pow_right (by omega) ?_)))
            have : (m + 10) * (k - (j + 1)) ≤ (m + 10) * (k - 1) := Nat.mul_le_mul_left _ (by omega)
            omega
          simp only [smI]
          rw [Nat.add_mul, Nat.one_mul]
          omega
      have b3 := b2 (min (n + 1) k - 1) (Nat.le_refl _)
      have b4 : (min (n + 1) k - 1) * (2 ^ m * 2 ^ ((m + 10) * (k - 1) + 5)) ≤ 12 * (2 ^ m * 2 ^ ((m + 10) * (k - 1) + 5)) := Nat.mul_le_mul_right _ (by omega)
      have e1 : (m + 10) * k + 5 = 10 + (m + ((m + 10) * (k - 1) + 5)) := by
        obtain ⟨j, rfl⟩ : ∃ j, k = j + 1 := ⟨k - 1, by omega⟩
        rw [Nat.mul_succ, Nat.add_sub_cancel]
        omega
      have e2 : 2 ^ ((m + 10) * k + 5) = 1024 * (2 ^ m * 2 ^ ((m + 10) * (k - 1) + 5)) := by
        rw [e1, Nat.pow_add, Nat.pow_add]
      have b5 : 2 ^ m ≤ 2 ^ m * 2 ^ ((m + 10) * (k - 1) + 5) := Nat.le_mul_of_pos_right _ (Nat.pow_pos (by omega))
      have pos : 0 < 2 ^ m := Nat.pow_pos (by omega)
      rw [e2]
      omega
end Pw

/-! Products of two roots. -/
namespace Pw
/-- the products of the roots of one factor with those of another one, backwards -/
def qf (f g : Fc) : Nat → Rat
  | 0 => 1
  | 1 => -(f.t * g.t)
  | 2 => f.t * f.t * g.q + g.t * g.t * f.q - 2 * f.q * g.q
  | 3 => -(f.t * f.q * g.t * g.q)
  | 4 => f.q * f.q * g.q * g.q
  | _ => 0
theorem nw_qf (f g : Fc) : Nw (qf f g) fun k => if k = 0 then 0 else tr f.t f.q k * tr g.t g.q k where
  one := rfl
  zero := rfl
  rel k := by
    match k with
    | 0 => simp [cv, sm] <;> grind
    | 1 => simp [cv, sm, qf, tr] <;> grind
    | 2 => simp [cv, sm, qf, tr] <;> grind
    | 3 => simp [cv, sm, qf, tr] <;> grind
    | 4 => simp [cv, sm, qf, tr] <;> grind
    | k + 5 =>
      unfold cv
      rw [sm_first, sm_first, sm_first, sm_first, sm_first]
      have : sm (k + 1) (fun i => qf f g (i + 1 + 1 + 1 + 1 + 1) * (if k + 5 - (i + 1 + 1 + 1 + 1 + 1) = 0 then 0 else tr f.t f.q (k + 5 - (i + 1 + 1 + 1 + 1 + 1)) * tr g.t g.q (k + 5 - (i + 1 + 1 + 1 + 1 + 1)))) = 0 := by
        refine (sm_congr (g := fun _ => 0) fun i hi => ?_).trans (sm_zero _)
        have : qf f g (i + 1 + 1 + 1 + 1 + 1) = 0 := rfl
        rw [this]
        grind
      rw [this]
      have z : qf f g (k + 5) = 0 := rfl
      rw [z]
      have n1 : k + 5 - 0 ≠ 0 := by omega
      have n2 : k + 5 - (0 + 1) ≠ 0 := by omega
      have n3 : k + 5 - (0 + 1 + 1) ≠ 0 := by omega
      have n4 : k + 5 - (0 + 1 + 1 + 1) ≠ 0 := by omega
      have n5 : k + 5 - (0 + 1 + 1 + 1 + 1) ≠ 0 := by omega
      simp only [if_neg n1, if_neg n2, if_neg n3, if_neg n4, if_neg n5]
      have e1 : k + 5 - 0 = k + 5 := by omega
      have e2 : k + 5 - (0 + 1) = k + 4 := by omega
      have e3 : k + 5 - (0 + 1 + 1) = k + 3 := by omega
      have e4 : k + 5 - (0 + 1 + 1 + 1) = k + 2 := by omega
      have e5 : k + 5 - (0 + 1 + 1 + 1 + 1) = k + 1 := by omega
      rw [e1, e2, e3, e4, e5]
      have r : ∀ (t q : Rat) (n : Nat), tr t q (n + 2) = t * tr t q (n + 1) - q * tr t q n := fun _ _ _ => rfl
      simp only [qf, r _ _ (k + 3), r _ _ (k + 2), r _ _ (k + 1)]
      generalize tr f.t f.q (k + 1) = x0
      generalize tr f.t f.q (k + 1 + 1) = x1
      generalize tr g.t g.q (k + 1) = y0
      generalize tr g.t g.q (k + 1 + 1) = y1
      grind
def cE (f : Fc) : List Fc → Nat → Rat
  | [] => un
  | g :: r => cv (cE f r) (qf f g)
def cS (f : Fc) : List Fc → Nat → Rat
  | [] => fun _ => 0
  | g :: r => fun k => cS f r k + (if k = 0 then 0 else tr f.t f.q k * tr g.t g.q k)
theorem nw_cE (f : Fc) : ∀ r : List Fc, Nw (cE f r) (cS f r)
  | [] => nw_un
  | g :: r => nw_mul (nw_cE f r) (nw_qf f g)
theorem cS_eq (f : Fc) {k : Nat} (hk : 1 ≤ k) : ∀ r : List Fc, cS f r k = tr f.t f.q k * sL r k
  | [] => by
    show (0 : Rat) = _ * 0
    grind
  | g :: r => by
    show cS f r k + (if k = 0 then 0 else tr f.t f.q k * tr g.t g.q k) = tr f.t f.q k * (sL r k + (if k = 0 then 0 else tr g.t g.q k))
    rw [cS_eq f hk r, if_neg (by omega), if_neg (by omega)]
    grind
/-- the products of two roots, each pair once -/
def eP : List Fc → Nat → Rat
  | [] => un
  | f :: r => cv (eP r) (cv (fac f.q 0) (cE f r))
def sP : List Fc → Nat → Rat
  | [] => fun _ => 0
  | f :: r => fun k => sP r k + ((if k = 0 then 0 else tr f.q 0 k) + cS f r k)
theorem nwP : ∀ fs : List Fc, Nw (eP fs) (sP fs)
  | [] => nw_un
  | f :: r => nw_mul (nwP r) (nw_mul (nw_quad f.q 0) (nw_cE f r))
theorem tr_lin (q : Rat) : ∀ k, tr q 0 (k + 1) = q ^ (k + 1)
  | 0 => by simp [tr] <;> grind
  | k + 1 => by
    show q * tr q 0 (k + 1) - 0 * tr q 0 k = q ^ (k + 2)
    rw [tr_lin q k, Rat.pow_succ q (k + 1)]
    grind
theorem tr_sq (t q : Rat) (k : Nat) : tr t q k * tr t q k - tr t q (2 * k) = 2 * q ^ k := by
  have h := tr_split t q 0 k
  rw [Nat.zero_add, Nat.zero_add] at h
  rw [h]
  have : tr t q 0 = 2 := rfl
  rw [this]
  grind
theorem sP_eq {k : Nat} (hk : 1 ≤ k) : ∀ fs : List Fc, 2 * sP fs k = sL fs k * sL fs k - sL fs (2 * k)
  | [] => by
    show (2 : Rat) * 0 = 0 * 0 - 0
    grind
  | f :: r => by
    show 2 * (sP r k + ((if k = 0 then 0 else tr f.q 0 k) + cS f r k)) = (sL r k + (if k = 0 then 0 else tr f.t f.q k)) * (sL r k + (if k = 0 then 0 else tr f.t f.q k)) - (sL r (2 * k) + (if 2 * k = 0 then 0 else tr f.t f.q (2 * k)))
    have h := sP_eq hk r
    have h2 := tr_sq f.t f.q k
    obtain ⟨j, rfl⟩ : ∃ j, k = j + 1 := ⟨k - 1, by omega⟩
    rw [if_neg (by omega), if_neg (by omega), if_neg (by omega), cS_eq f (by omega), tr_lin]
    grind
def dP : List Fc → Nat
  | [] => 0
  | f :: r => dP r + ((f.d - 1) + f.d * deg r)
theorem dP_eq : ∀ {fs : List Fc}, (∀ f ∈ fs, okF f) → 2 * dP fs + deg fs = deg fs * deg fs
  | [], _ => rfl
  | f :: r, h => by
    have ih := dP_eq fun g hg => h g (List.mem_cons_of_mem f hg)
    show 2 * (dP r + ((f.d - 1) + f.d * deg r)) + (deg r + f.d) = (deg r + f.d) * (deg r + f.d)
    have hd : f.d = 1 ∨ f.d = 2 := by
      rcases h f List.mem_cons_self with h | h
      · exact .inl h.1
      · exact .inr h
    rcases hd with e | e
    · rw [e]
      simp only [Nat.add_mul, Nat.mul_add]
      omega
    · rw [e]
      simp only [Nat.add_mul, Nat.mul_add]
      omega
theorem qf_zero {f g : Fc} (hf : okF f) (hg : okF g) {k : Nat} (hk : f.d * g.d < k) : qf f g k = 0 := by
  rcases hf with ⟨h1, h2⟩ | h1 <;> rcases hg with ⟨g1, g2⟩ | g1 <;> rw [h1, g1] at hk
  · match k, hk with
    | 2, _ => simp only [qf, h2, g2]; grind
    | 3, _ => simp only [qf, h2, g2]; grind
    | 4, _ => simp only [qf, h2, g2]; grind
    | k + 5, _ => rfl
    | 0, hk => omega
    | 1, hk => omega
  · match k, hk with
    | 3, _ => simp only [qf, h2]; grind
    | 4, _ => simp only [qf, h2]; grind
    | k + 5, _ => rfl
    | 0, hk => omega
    | 1, hk => omega
    | 2, hk => omega
  · match k, hk with
    | 3, _ => simp only [qf, g2]; grind
    | 4, _ => simp only [qf, g2]; grind
    | k + 5, _ => rfl
    | 0, hk => omega
    | 1, hk => omega
    | 2, hk => omega
  · match k, hk with
    | k + 5, _ => rfl
    | 0, hk => omega
    | 1, hk => omega
    | 2, hk => omega
    | 3, hk => omega
    | 4, hk => omega
theorem cE_zero {f : Fc} (hf : okF f) : ∀ {r : List Fc}, (∀ g ∈ r, okF g) → ∀ {k : Nat}, f.d * deg r < k → cE f r k = 0
  | [], _, k, hk => by
    show un k = 0
    unfold un
    rw [if_neg (by omega)]
  | g :: r, h, k, hk => by
    have e : f.d * deg (g :: r) = f.d * deg r + f.d * g.d := Nat.mul_add _ _ _
    exact cv_zero (m := f.d * deg r) (n := f.d * g.d) (fun i hi => cE_zero hf (fun g' hg => h g' (List.mem_cons_of_mem _ hg)) hi) (fun i hi => qf_zero hf (h g List.mem_cons_self) hi) (by omega)
theorem own_zero {f : Fc} (h : okF f) {k : Nat} (hk : f.d - 1 < k) : fac f.q 0 k = 0 := by
  match k, hk with
  | 0, hk => omega
  | 1, hk =>
    rcases h with ⟨_, h2⟩ | h
    · simp only [fac, h2]; grind
    · omega
  | 2, _ => rfl
  | k + 3, _ => rfl
theorem eP_zero : ∀ {fs : List Fc}, (∀ f ∈ fs, okF f) → ∀ {k : Nat}, dP fs < k → eP fs k = 0
  | [], _, k, hk => by
    show un k = 0
    unfold un
    have : 0 < k := hk
    rw [if_neg (by omega)]
  | f :: r, h, k, hk => by
    have hf := h f List.mem_cons_self
    have hr : ∀ g ∈ r, okF g := fun g hg => h g (List.mem_cons_of_mem _ hg)
    exact cv_zero (m := dP r) (n := (f.d - 1) + f.d * deg r) (fun i hi => eP_zero hr hi) (fun i hi => cv_zero (m := f.d - 1) (n := f.d * deg r) (fun j hj => own_zero hf hj) (fun j hj => cE_zero hf hr hj) hi) hk
theorem eP_one (fs : List Fc) : eP fs 0 = 1 := (nwP fs).one
/-! whole numbers -/
theorem isI_qf {f g : Fc} (hf : intF f) (hg : intF g) (k : Nat) : isI (qf f g k) := by
  match k with
  | 0 => exact ⟨1, rfl⟩
  | 1 => exact isI_neg (isI_mul hf.1 hg.1)
  | 2 =>
    show isI (f.t * f.t * g.q + g.t * g.t * f.q - 2 * f.q * g.q)
    have e : f.t * f.t * g.q + g.t * g.t * f.q - 2 * f.q * g.q = f.t * f.t * g.q + g.t * g.t * f.q + -(2 * f.q * g.q) := by grind
    rw [e]
    exact isI_add (isI_add (isI_mul (isI_mul hf.1 hf.1) hg.2) (isI_mul (isI_mul hg.1 hg.1) hf.2)) (isI_neg (isI_mul (isI_mul ⟨2, rfl⟩ hf.2) hg.2))
  | 3 => exact isI_neg (isI_mul (isI_mul (isI_mul hf.1 hf.2) hg.1) hg.2)
  | 4 => exact isI_mul (isI_mul (isI_mul hf.2 hf.2) hg.2) hg.2
  | k + 5 => exact ⟨0, rfl⟩
theorem isI_cE {f : Fc} (hf : intF f) : ∀ {r : List Fc}, (∀ g ∈ r, intF g) → ∀ k, isI (cE f r k)
  | [], _, k => isI_un k
  | g :: r, h, k => isI_cv (isI_cE hf fun g' hg => h g' (List.mem_cons_of_mem _ hg)) (isI_qf hf (h g List.mem_cons_self)) k
theorem isI_eP : ∀ {fs : List Fc}, (∀ f ∈ fs, intF f) → ∀ k, isI (eP fs k)
  | [], _, k => isI_un k
  | f :: r, h, k => by
    have hf := h f List.mem_cons_self
    have hr : ∀ g ∈ r, intF g := fun g hg => h g (List.mem_cons_of_mem _ hg)
    exact isI_cv (isI_eP hr) (isI_cv (isI_fac hf.2 ⟨0, rfl⟩) (isI_cE hf hr)) k
theorem qf_sc (A : Rat) (f g : Fc) (k : Nat) : qf (scF A f) (scF A g) k = qf f g k * (A * A) ^ k := by
  have e2 : A ^ 2 = A * A := by rw [Rat.pow_succ, Rat.pow_succ]; simp <;> grind
  match k with
  | 0 => simp [qf] <;> grind
  | 1 => simp only [qf, scF, Rat.pow_succ, Rat.pow_zero]; grind
  | 2 => simp only [qf, scF, Rat.pow_succ, Rat.pow_zero]; grind
  | 3 => simp only [qf, scF, Rat.pow_succ, Rat.pow_zero]; grind
  | 4 => simp only [qf, scF, Rat.pow_succ, Rat.pow_zero]; grind
  | k + 5 => simp only [qf]; grind
theorem un_sc (B : Rat) (k : Nat) : un k = un k * B ^ k := by
  unfold un
  split
  · rename_i h; subst h; simp <;> grind
  · grind
theorem cE_sc (A : Rat) (f : Fc) : ∀ (r : List Fc) (k : Nat), cE (scF A f) (r.map (scF A)) k = cE f r k * (A * A) ^ k
  | [], k => un_sc _ k
  | g :: r, k => by
    show cv (cE (scF A f) (r.map (scF A))) (qf (scF A f) (scF A g)) k = cv (cE f r) (qf f g) k * (A * A) ^ k
    rw [← cv_sc]
    exact cv_congr (fun i _ => cE_sc A f r i) fun i _ => qf_sc A f g i
theorem own_sc (A : Rat) (f : Fc) (k : Nat) : fac (scF A f).q 0 k = fac f.q 0 k * (A * A) ^ k := by
  match k with
  | 0 => simp [fac] <;> grind
  | 1 => simp only [fac, scF, Rat.pow_succ, Rat.pow_zero]; grind
  | 2 => simp only [fac]; grind
  | k + 3 => simp only [fac]; grind
theorem eP_sc (A : Rat) : ∀ (fs : List Fc) (k : Nat), eP (fs.map (scF A)) k = eP fs k * (A * A) ^ k
  | [], k => un_sc _ k
  | f :: r, k => by
    show cv (eP (r.map (scF A))) (cv (fac (scF A f).q 0) (cE (scF A f) (r.map (scF A)))) k = cv (eP r) (cv (fac f.q 0) (cE f r)) k * (A * A) ^ k
    rw [← cv_sc]
    refine cv_congr (fun i _ => eP_sc A r i) fun i _ => ?_
    rw [← cv_sc]
    exact cv_congr (fun j _ => own_sc A f j) fun j _ => cE_sc A f r j
theorem isI_pairs {fs : List Fc} (ok : ∀ f ∈ fs, okF f) {A : Rat} (h : ∀ k, isI (eL fs k * A ^ k)) : ∀ k, isI (eP fs k * (A * A) ^ k) := by
  intro k
  have h1 : ∀ k, isI (eL (fs.map (scF A)) k) := fun k => by rw [eL_sc]; exact h k
  have ok1 : ∀ f ∈ fs.map (scF A), okF f := fun f hf => by
    obtain ⟨g, hg, rfl⟩ := List.mem_map.mp hf
    rcases ok g hg with ⟨a, b⟩ | a
    · exact .inl ⟨a, by show A ^ 2 * g.q = 0; rw [b]; grind⟩
    · exact .inr a
  have h2 := gaussL ok1 h1
  rw [← eP_sc]
  exact isI_eP h2 k
end Pw

open PySem L2 Ml Pw
local macro_rules | `(tactic| walk_at "w") => `(tactic| first
  | with_reducible refine seqK_nx ?_ | with_reducible refine seqK_rt ?_
  | with_reducible refine wE_c ?_
  | ((with_reducible refine' wE_vs ?h1 ?_); case h1 => exact rfl) | ((with_reducible refine' wE_vo ?h1 ?_); case h1 => exact rfl)
  | with_reducible refine wE_op ?_ | with_reducible refine wE_dis ?_ | with_reducible refine wE_call ?_ | with_reducible refine wE_callD ?_
  | ((with_reducible refine' wE_callB ?h1 ?h2 ?_); (case h1 => exact rfl); case h2 => exact rfl)
  | with_reducible refine wE_make ?_
  | with_reducible refine wE_if ?_ | with_reducible refine wE_not ?_ | with_reducible refine wE_or ?_ | with_reducible refine wE_and ?_ | with_reducible refine wE_lc ?_
  | with_reducible refine wA_nil ?_ | with_reducible refine wA_e ?_
  | ((with_reducible refine' wA_bs ?h1 ?_); case h1 => exact rfl) | ((with_reducible refine' wA_bo ?h1 ?h2 ?_); (case h1 => exact rfl); case h2 => exact rfl)
  | with_reducible refine wF_nil ?_ | with_reducible refine wF_cons ?_
  | with_reducible refine wT_T ?_ | with_reducible refine wT_not ?_ | with_reducible refine wT_and ?_ | with_reducible refine wT_or ?_ | with_reducible refine wI_ev ?_
  | with_reducible refine wS_seq ?_ | with_reducible refine wS_nx ?_ | with_reducible refine wS_asg ?_ | with_reducible refine wS_ex ?_ | with_reducible refine wS_rt ?_ | with_reducible refine wS_if ?_ | with_reducible refine wS_fgt ?_
  | ((with_reducible refine' wS_app ?h1 ?h2 ?_); (case h1 => exact rfl); case h2 => exact rfl)
  | with_reducible refine wS_set ?_ | with_reducible refine wS_fld ?_
  | ((with_reducible refine' wS_aug ?h1 ?_); case h1 => exact rfl)
  | with_reducible refine wS_unp ?_ | with_reducible refine wS_par ?_ | with_reducible refine wS_for ?_
  | with_reducible refine if_t ?_ | with_reducible refine if_f ?_
  | ((with_reducible refine' ⟨_, _, ?h1, k_repI ?hs, ?hm⟩); (case h1 => exact rfl); case' hm => skip)
  | ((with_reducible refine' ⟨_, ?h1, _, k_r1 ?hs, ?hm⟩); (case h1 => exact rfl); case' hm => skip) | ((with_reducible refine' ⟨_, ?h1, _, k_r2 ?hs, ?hm⟩); (case h1 => exact rfl); case' hm => skip) | ((with_reducible refine' ⟨_, ?h1, _, k_rd ?hs, ?hm⟩); (case h1 => exact rfl); case' hm => skip)
  | ((with_reducible refine' ⟨_, _, ?h1, k_eqI, ?hm⟩); case h1 => exact rfl) | ((with_reducible refine' ⟨_, _, ?h1, k_neI, ?hm⟩); case h1 => exact rfl) | refine ⟨_, _, rfl, rfl, ?_⟩
  | refine ⟨_, rfl, rfl, ?_⟩
  | refine ⟨rfl, _, _, rfl, rfl, ⟨rfl, rfl⟩, ?_⟩
  | refine ⟨_, rfl, _, rfl, ?_⟩
  | refine ⟨_, rfl, ?_⟩
  | refine if_ct rfl ?_ | refine if_cf rfl ?_)
local macro_rules | `(tactic| walk_at "ww") => `(tactic| repeat walk_at "w")
local macro_rules | `(tactic| walk_at "k") => `(tactic| first
  | ((with_reducible refine' ⟨_, _, ?h1, k_mul ?hs, ?hm⟩); (case h1 => exact rfl); case' hm => skip)
  | ((with_reducible refine' ⟨_, _, ?h1, k_div ?hs ?hs2, ?hm⟩); (case h1 => exact rfl); case' hm => skip)
  | ((with_reducible refine' ⟨_, _, ?h1, k_mod ?hs, ?hm⟩); (case h1 => exact rfl); case' hm => skip)
  | ((with_reducible refine' ⟨_, _, ?h1, k_pow ?hs, ?hm⟩); (case h1 => exact rfl); case' hm => skip))
local macro_rules | `(tactic| walk_at "wk") => `(tactic| repeat first | walk_at "k" | walk_at "w")
set_option maxHeartbeats 400000
namespace K22
open PySem L2 Ml
theorem pyl_small {a b : Int} (h : b.natAbs < 2 ^ 9000) : Builtin.divisionGoesByPylong a b = false := by
  unfold Builtin.divisionGoesByPylong
  have : b.natAbs.log2 < 9000 := by
    by_cases z : b.natAbs = 0
    · rw [z]; decide
    · exact (Nat.log2_lt z).mpr h
  simp only [Bool.and_eq_false_iff, decide_eq_false_iff_not]
  left
  split <;> omega
theorem gcd_g {N : Nat} (a b : Int) (h : b.natAbs < N) : Gives (f_law_gcd N) [.int a, .int b] (.sh (.int (Int.gcd a b : Int))) := by
  refine gives_w rfl ?_
  unfold b_law_gcd
  walk_at "ww"
  refine wS_wh (fun k s => ∃ x y : Nat, k = y ∧ Nat.gcd x y = Int.gcd a b ∧ s = [.sh (.int a), .sh (.int b), .sh (.int x), .sh (.int y)]) N b.natAbs _ h ⟨a.natAbs, b.natAbs, rfl, rfl, ?_⟩ ?_
  · have ea : (if a < 0 then -a else a) = (a.natAbs : Int) := by split <;> omega
    have eb : (if b < 0 then -b else b) = (b.natAbs : Int) := by split <;> omega
    rw [ea, eb]
    rfl
  · rintro k s ⟨x, y, rfl, hg, rfl⟩
    walk_at "ww"
    refine if_dec ?_ ?_
    · intro hy
      walk_at "ww"
      walk_at "k"
      · walk_at "ww"
        refine ⟨rfl, x % k, Nat.mod_lt _ (by omega), k, x % k, rfl, ?_, ?_⟩
        · rw [← hg, Nat.gcd_comm x k, Nat.gcd_rec k x, Nat.gcd_comm]
        · have : (x : Int).fmod (k : Int) = ((x % k : Nat) : Int) := by
            rw [Int.fmod_eq_emod_of_nonneg _ (by omega)]
            rfl
          rw [this]
          rfl
      · omega
    · intro hy
      have hk : k = 0 := by omega
      subst hk
      walk_at "ww"
      rw [Nat.gcd_zero_right] at hg
      rw [← hg]
/-- lowest terms -/
theorem lowest (a b : Int) (h0 : b ≠ 0) : ∃ n d : Int, 0 < d ∧ Int.gcd n d = 1 ∧ a * d = n * b ∧ d.natAbs ≤ b.natAbs ∧ (0 < b → a.fdiv (Int.gcd a b : Int) = n ∧ b.fdiv (Int.gcd a b : Int) = d) ∧ (b < 0 → (-a).fdiv (Int.gcd a b : Int) = n ∧ (-b).fdiv (Int.gcd a b : Int) = d ∧ a.fdiv (-(Int.gcd a b : Int)) = n ∧ b.fdiv (-(Int.gcd a b : Int)) = d) := by
  have gpos : 0 < Int.gcd a b := Int.gcd_pos_of_ne_zero_right _ h0
  have main : ∀ a' b' : Int, 0 < b' → Int.gcd a' b' = Int.gcd a b → b'.natAbs = b.natAbs → ∃ n d : Int, 0 < d ∧ Int.gcd n d = 1 ∧ a' * d = n * b' ∧ d.natAbs ≤ b.natAbs ∧ a' = (Int.gcd a b : Int) * n ∧ b' = (Int.gcd a b : Int) * d := by
    intro a' b' hp hg hab
    have d1 : ((Int.gcd a b : Nat) : Int) ∣ a' := by rw [← hg]; exact Int.gcd_dvd_left ..
    have d2 : ((Int.gcd a b : Nat) : Int) ∣ b' := by rw [← hg]; exact Int.gcd_dvd_right ..
    obtain ⟨n, hn⟩ := d1
    obtain ⟨d, hd⟩ := d2
    have gp : (0 : Int) < ((Int.gcd a b : Nat) : Int) := by omega
    refine ⟨n, d, ?_, ?_, ?_, ?_, hn, hd⟩
    · rw [hd] at hp
      have : ¬ d ≤ 0 := fun z => by
        have := Int.mul_le_mul_of_nonneg_left z (Int.le_of_lt gp)
        omega
      omega
    · have q : Int.gcd a' b' = Int.gcd a b * Int.gcd n d := by
        rw [hn, hd, Int.gcd_mul_left]
        simp
      rw [hg] at q
      have : Int.gcd a b * 1 = Int.gcd a b * Int.gcd n d := by rw [Nat.mul_one]; exact q
      exact (Nat.eq_of_mul_eq_mul_left gpos this).symm
    · rw [hn, hd]
      grind
    · rw [← hab, hd, Int.natAbs_mul]
      exact Nat.le_mul_of_pos_left _ (by simpa using gpos)
  have gnz : ((Int.gcd a b : Nat) : Int) ≠ 0 := by omega
  by_cases hneg : b < 0
  · obtain ⟨n, d, p1, p2, p3, p4, p5, p6⟩ := main (-a) (-b) (by omega) (by rw [Int.neg_gcd, Int.gcd_neg]) (by omega)
    refine ⟨n, d, p1, p2, by grind, p4, fun z => by omega, fun _ => ⟨?_, ?_, ?_, ?_⟩⟩
    · rw [p5, Int.mul_fdiv_cancel_left _ gnz]
    · rw [p6, Int.mul_fdiv_cancel_left _ gnz]
    · have : a = -(Int.gcd a b : Int) * n := by grind
      rw (occs := .pos [1]) [this]
      rw [Int.mul_fdiv_cancel_left _ (by omega)]
    · have : b = -(Int.gcd a b : Int) * d := by grind
      rw (occs := .pos [1]) [this]
      rw [Int.mul_fdiv_cancel_left _ (by omega)]
  · obtain ⟨n, d, p1, p2, p3, p4, p5, p6⟩ := main a b (by omega) rfl rfl
    refine ⟨n, d, p1, p2, p3, p4, fun _ => ⟨?_, ?_⟩, fun z => absurd z hneg⟩
    · rw (occs := .pos [1]) [p5]
      rw [Int.mul_fdiv_cancel_left _ gnz]
    · rw (occs := .pos [1]) [p6]
      rw [Int.mul_fdiv_cancel_left _ gnz]
theorem gcd_small {a b : Int} (h0 : b ≠ 0) (hb : b.natAbs < 2 ^ 9000) : ((Int.gcd a b : Nat) : Int) ≠ 0 ∧ ((Int.gcd a b : Nat) : Int).natAbs < 2 ^ 9000 ∧ (-((Int.gcd a b : Nat) : Int)).natAbs < 2 ^ 9000 := by
  have gpos : 0 < Int.gcd a b := Int.gcd_pos_of_ne_zero_right _ h0
  have gb : Int.gcd a b ≤ b.natAbs := Nat.le_of_dvd (by omega) (Int.ofNat_dvd_left.mp (Int.gcd_dvd_right ..))
  have e1 : ((Int.gcd a b : Nat) : Int).natAbs = Int.gcd a b := Int.natAbs_natCast _
  have e2 : (-((Int.gcd a b : Nat) : Int)).natAbs = Int.gcd a b := by rw [Int.natAbs_neg, e1]
  refine ⟨by omega, ?_, ?_⟩
  · rw [e1]; exact Nat.lt_of_le_of_lt gb hb
  · rw [e2]; exact Nat.lt_of_le_of_lt gb hb
theorem low_g {N : Nat} (a b : Int) (h0 : b ≠ 0) (h : b.natAbs < N) (hb : b.natAbs < 2 ^ 9000) : ∃ n d : Int, 0 < d ∧ Int.gcd n d = 1 ∧ a * d = n * b ∧ d.natAbs ≤ b.natAbs ∧ Gives (f_law_low N) [.int a, .int b] (.sh (.tup [.int n, .int d])) := by
  obtain ⟨n, d, p1, p2, p3, p4, p5, p6⟩ := lowest a b h0
  refine ⟨n, d, p1, p2, p3, p4, ?_⟩
  obtain ⟨q1, q2, q3⟩ := gcd_small (a := a) h0 hb
  refine gives_w rfl ?_
  unfold b_law_low
  walk_at "ww"
  refine if_dec ?_ ?_
  · intro hneg
    walk_at "ww"
    refine ⟨_, gcd_g (-a) (-b) (by omega), ?_⟩
    rw [Int.neg_gcd, Int.gcd_neg]
    walk_at "ww"
    walk_at "k"
    · walk_at "ww"
      walk_at "k"
      · walk_at "ww"
        rw [(p6 hneg).1, (p6 hneg).2.1]
        rfl
      · exact q1
      · exact pyl_small q2
    · exact q1
    · exact pyl_small q2
  · intro hneg
    walk_at "ww"
    refine ⟨_, gcd_g a b (by omega), ?_⟩
    walk_at "ww"
    walk_at "k"
    · walk_at "ww"
      walk_at "k"
      · walk_at "ww"
        rw [(p5 (by omega)).1, (p5 (by omega)).2]
        rfl
      · exact q1
      · exact pyl_small q2
    · exact q1
    · exact pyl_small q2
theorem is_int_g {N : Nat} (z : Int) : Gives (f_law_is_int N) [.int z] (.sh (.bl true)) := by
  refine gives_w rfl ?_
  unfold b_law_is_int
  walk_at "ww"
  rfl
theorem is_int_i {N : Nat} (ns : List Str) (ds : List D) : Gives (f_law_is_int N) [.ins 0 ns ds] (.sh (.bl false)) := by
  refine gives_w rfl ?_
  unfold b_law_is_int
  walk_at "ww"
  rfl
theorem is_integer_g {N : Nat} (z : Int) : Gives (f_is_integer N) [.int z] (.sh (.bl true)) := by
  refine gives_w rfl ?_
  unfold b_is_integer
  walk_at "ww"
  rfl
def ratD (n d : Int) : D := .ins 0 ["top", "bottom"] [.int n, .int d]
theorem ratio_i {N : Nat} (a b : Int) (h0 : b ≠ 0) (hb : b.natAbs < 2 ^ 9000) : ∃ n d : Int, 0 < d ∧ Int.gcd n d = 1 ∧ a * d = n * b ∧ d.natAbs ≤ b.natAbs ∧ ∃ out, f_Ratio_init N (.bo (.ins 0 [] []) :: [D.int a, D.int b].map Sl.sh) = .ok (.sh .non, .bo (.ins 0 ["top", "bottom"] [.int n, .int d]) :: out) := by
  obtain ⟨n, d, p1, p2, p3, p4, p5, p6⟩ := lowest a b h0
  refine ⟨n, d, p1, p2, p3, p4, ?_⟩
  obtain ⟨q1, q2, q3⟩ := gcd_small (a := a) h0 hb
  refine init_w rfl ?_
  unfold b_Ratio_init
  walk_at "ww"
  refine ⟨_, is_integer_g a, ?_⟩
  walk_at "ww"
  refine ⟨_, is_integer_g b, ?_⟩
  walk_at "ww"
  refine if_dec (fun z => absurd z h0) (fun _ => ?_)
  walk_at "ww"
  refine if_dec ?_ ?_
  · intro hneg
    walk_at "ww"
    walk_at "k"
    · refine ⟨_, _, _, _, rfl, rfl, ⟨by decide, rfl, (show (0 : Nat) < 1000 from by decide)⟩, ?_⟩
      walk_at "ww"
      walk_at "k"
      · refine ⟨_, _, _, _, rfl, rfl, ⟨by decide, rfl, (show (1 : Nat) < 1000 from by decide)⟩, ?_⟩
        have e1 := (p6 hneg).2.2.1
        have e2 := (p6 hneg).2.2.2
        subst e1
        subst e2
        exact ⟨rfl, _, rfl⟩
      · exact fun z => q1 (by have z' : -((Int.gcd a b : Nat) : Int) = 0 := z; omega)
      · exact pyl_small q3
    · exact fun z => q1 (by have z' : -((Int.gcd a b : Nat) : Int) = 0 := z; omega)
    · exact pyl_small q3
  · intro hneg
    walk_at "ww"
    walk_at "k"
    · refine ⟨_, _, _, _, rfl, rfl, ⟨by decide, rfl, (show (0 : Nat) < 1000 from by decide)⟩, ?_⟩
      walk_at "ww"
      walk_at "k"
      · refine ⟨_, _, _, _, rfl, rfl, ⟨by decide, rfl, (show (1 : Nat) < 1000 from by decide)⟩, ?_⟩
        have e1 := (p5 (by omega)).1
        have e2 := (p5 (by omega)).2
        subst e1
        subst e2
        exact ⟨rfl, _, rfl⟩
      · exact q1
      · exact pyl_small q2
    · exact q1
    · exact pyl_small q2
end K22

set_option maxHeartbeats 400000
namespace K22
open PySem L2 Ml Pw
theorem log2_le {a : Int} {m : Nat} (h : a.natAbs < 2 ^ m) : a.natAbs.log2 ≤ m := by
  by_cases z : a.natAbs = 0
  · rw [z]; simp
  · exact Nat.le_of_lt ((Nat.log2_lt z).mpr h)
theorem mulOk_of {a b : Int} {m k : Nat} (ha : a.natAbs < 2 ^ m) (hb : b.natAbs < 2 ^ k) (h : m + k < 100000000) : mulOk a b = true := by
  have h1 := log2_le ha
  have h2 := log2_le hb
  unfold mulOk
  exact decide_eq_true (by omega)
theorem pow_bd {b : Int} {m : Nat} (h : b.natAbs < 2 ^ m) : ∀ n : Nat, (b ^ n).natAbs < 2 ^ (m * n + 1)
  | 0 => by simp
  | n + 1 => by
    have ih := pow_bd h n
    rw [Int.pow_succ, Int.natAbs_mul]
    have e : 2 ^ (m * (n + 1) + 1) = 2 ^ (m * n + 1) * 2 ^ m := by
      rw [← Nat.pow_add]
      congr 1
      rw [Nat.mul_add]
      omega
    rw [e]
    exact Nat.mul_lt_mul'' ih h
theorem power_g {N : Nat} (b : Int) (n m : Nat) (h : b.natAbs < 2 ^ m) (hm : m * n + 1 + m < 100000000) (hn : n < 1000000) : Gives (f_law_power N) [.int b, .int n] (.sh (.int (b ^ n))) := by
  refine gives_w rfl ?_
  unfold b_law_power
  walk_at "ww"
  · obtain ⟨s', e, i⟩ := loop_inv (tg := .nm 3) (body := fgt [3] (mAsg 2 (mOp fMul [(.b 2), (.b 0)]))) (fun i s => s = [.sh (.int b), .sh (.int n), .sh (.int (b ^ i)), .no]) (ds := rgD 0 (n : Int).toNat) (sl := [.sh (.int b), .sh (.int n), .sh (.int 1), .no]) (by simp)
      fun i d s hd hi => by
        subst hi
        obtain ⟨h1, rfl⟩ := rgD_get hd
        refine ⟨_, rfl, ?_⟩
        have w : wS (fgt [3] (mAsg 2 (mOp fMul [(.b 2), (.b 0)]))) ([.sh (.int b), .sh (.int n), .sh (.int (b ^ i)), .sh (.int (0 + i))]) fun f s => f = .nx ∧ s = [.sh (.int b), .sh (.int n), .sh (.int (b ^ (i + 1))), .no] := by
          walk_at "ww"
          walk_at "k"
          · walk_at "ww"
            exact ⟨rfl, by rw [Int.pow_succ]; rfl⟩
          · refine mulOk_of (pow_bd h i) h ?_
            have : i < n := by simpa using h1
            have : m * i ≤ m * n := Nat.mul_le_mul_left m (by omega)
            omega
        obtain ⟨f, s2, e2, rfl, rfl⟩ := w
        exact ⟨_, e2, rfl⟩
    refine ⟨s', e, ?_⟩
    have i' : s' = [.sh (.int b), .sh (.int n), .sh (.int (b ^ n)), .no] := by
      rw [rgD_len] at i
      simpa using i
    subst i'
    walk_at "ww"
    rfl
  · exact rng1 (by omega) (by omega)
theorem raised_g {N : Nat} (b : Int) (n m : Nat) (h : b.natAbs < 2 ^ m) (hm : m * n + 1 + m < 100000000) (hn : n < 1000000) : Gives (f_raised N) [.int b, .int n] (.sh (.int (b ^ n))) := power_g (N := N) b n m h hm hn
def trI (t q : Int) : Nat → Int
  | 0 => 2
  | 1 => t
  | n + 2 => t * trI t q (n + 1) - q * trI t q n
theorem trI_bd {t q : Int} (ht : t.natAbs < 8) (hq : q.natAbs < 32) : ∀ n : Nat, (trI t q n).natAbs < 2 ^ (4 * n + 2) ∧ (trI t q (n + 1)).natAbs < 2 ^ (4 * (n + 1) + 2)
  | 0 => ⟨by show (2 : Int).natAbs < 4; decide, by show t.natAbs < 64; omega⟩
  | n + 1 => by
    obtain ⟨h1, h2⟩ := trI_bd ht hq n
    refine ⟨h2, ?_⟩
    show (t * trI t q (n + 1) - q * trI t q n).natAbs < _
    have a1 : (t * trI t q (n + 1)).natAbs ≤ 8 * 2 ^ (4 * (n + 1) + 2) := by
      rw [Int.natAbs_mul]
      exact Nat.mul_le_mul (by omega) (by omega)
    have a2 : (q * trI t q n).natAbs ≤ 32 * 2 ^ (4 * n + 2) := by
      rw [Int.natAbs_mul]
      exact Nat.mul_le_mul (by omega) (by omega)
    have e1 : 2 ^ (4 * (n + 1) + 2) = 64 * 2 ^ (4 * n) := by rw [show 4 * (n + 1) + 2 = 6 + 4 * n from by omega, Nat.pow_add]
    have e2 : 2 ^ (4 * n + 2) = 4 * 2 ^ (4 * n) := by rw [show 4 * n + 2 = 2 + 4 * n from by omega, Nat.pow_add]
    have e3 : 2 ^ (4 * (n + 1 + 1) + 2) = 1024 * 2 ^ (4 * n) := by rw [show 4 * (n + 1 + 1) + 2 = 10 + 4 * n from by omega, Nat.pow_add]
    have pos : 0 < 2 ^ (4 * n) := Nat.pow_pos (by omega)
    rw [e1] at a1
    rw [e2] at a2
    rw [e3]
    omega
theorem trace_g {N : Nat} (t q : Int) (n : Nat) (ht : t.natAbs < 8) (hq : q.natAbs < 32) (hn : n < 1000000) : Gives (f_law_trace N) [.int t, .int q, .int n] (.sh (.int (trI t q n))) := by
  refine gives_w rfl ?_
  unfold b_law_trace
  walk_at "ww"
  · obtain ⟨s', e, i⟩ := loop_inv (tg := .nm 5) (body := fgt [5] (mPar 3 4 (mV 4) (mOp fSub [(.e (mOp fMul [(.b 0), (.b 4)])), (.e (mOp fMul [(.b 1), (.b 3)]))]))) (fun i s => s = [.sh (.int t), .sh (.int q), .sh (.int n), .sh (.int (trI t q i)), .sh (.int (trI t q (i + 1))), .no]) (ds := rgD 0 (n : Int).toNat) (sl := [.sh (.int t), .sh (.int q), .sh (.int n), .sh (.int 2), .sh (.int t), .no]) rfl
      fun i d s hd hi => by
        subst hi
        obtain ⟨h1, rfl⟩ := rgD_get hd
        have h1' : i < n := by simpa using h1
        refine ⟨_, rfl, ?_⟩
        have w : wS (fgt [5] (mPar 3 4 (mV 4) (mOp fSub [(.e (mOp fMul [(.b 0), (.b 4)])), (.e (mOp fMul [(.b 1), (.b 3)]))]))) ([.sh (.int t), .sh (.int q), .sh (.int n), .sh (.int (trI t q i)), .sh (.int (trI t q (i + 1))), .sh (.int (0 + i))]) fun f s => f = .nx ∧ s = [.sh (.int t), .sh (.int q), .sh (.int n), .sh (.int (trI t q (i + 1))), .sh (.int (trI t q (i + 2))), .no] := by
          walk_at "ww"
          walk_at "k"
          · walk_at "ww"
            walk_at "k"
            · walk_at "ww"
              exact ⟨rfl, rfl⟩
            · exact mulOk_of (k := 4 * i + 2) (m := 5) (by show q.natAbs < 32; exact hq) (trI_bd ht hq i).1 (by omega)
          · exact mulOk_of (k := 4 * (i + 1) + 2) (m := 3) (by show t.natAbs < 8; exact ht) (trI_bd ht hq i).2 (by omega)
        obtain ⟨f, s2, e2, rfl, rfl⟩ := w
        exact ⟨_, e2, rfl⟩
    refine ⟨s', e, ?_⟩
    have i' : s' = [.sh (.int t), .sh (.int q), .sh (.int n), .sh (.int (trI t q n)), .sh (.int (trI t q (n + 1))), .no] := by
      rw [rgD_len] at i
      simpa using i
    subst i'
    walk_at "ww"
    rfl
  · exact rng1 (by omega) (by omega)
end K22

set_option maxHeartbeats 400000
namespace K22
open PySem L2 Ml Pw
/-- the rows ahead of row i, at k -/
def rowS (a b : Nat → Int) (i k : Nat) : Int := smI i fun i' => if i' ≤ k then a i' * b (k - i') else 0
theorem rowS_bd {a b : Nat → Int} {m k : Nat} (ha : ∀ i, (a i).natAbs < 2 ^ m) (hb : ∀ i, (b i).natAbs < 2 ^ k) (j : Nat) : ∀ i, (rowS a b i j).natAbs ≤ i * 2 ^ (m + k)
  | 0 => by simp [rowS, smI]
  | i + 1 => by
    have ih := rowS_bd ha hb j i
    unfold rowS at ih ⊢
    simp only [smI]
    have h : (if i ≤ j then a i * b (j - i) else 0 : Int).natAbs ≤ 2 ^ (m + k) := by
      split
      · rw [Int.natAbs_mul, Nat.pow_add]
        exact Nat.mul_le_mul (Nat.le_of_lt (ha i)) (Nat.le_of_lt (hb _))
      · simp
    rw [Nat.add_mul, Nat.one_mul]
    omega
theorem mul_g {N : Nat} (la lb : Nat) (a b : Nat → Int) (m k : Nat) (h0 : 0 < la) (h1 : 0 < lb) (hl : la ≤ 2000) (hl2 : lb ≤ 2000) (hb0 : ∀ i, lb ≤ i → b i = 0) (ha : ∀ i, (a i).natAbs < 2 ^ m) (hb : ∀ i, (b i).natAbs < 2 ^ k) (hmk : m + k < 100000000) :
    Gives (f_law_mul N) [.lst (fl la a), .lst (fl lb b)] (.sh (.lst (fl (la + lb - 1) (rowS a b la)))) := by
  have ne1 : (fl la a).isEmpty = false := by
    cases e : fl la a with
    | nil => have := fl_len (n := la) (f := a); rw [e] at this; simp at this; omega
    | cons _ _ => rfl
  have ne2 : (fl lb b).isEmpty = false := by
    cases e : fl lb b with
    | nil => have := fl_len (n := lb) (f := b); rw [e] at this; simp at this; omega
    | cons _ _ => rfl
  refine gives_w rfl ?_
  unfold b_law_mul
  walk_at "ww"
  rw [show (!(fl la a).isEmpty) = true from by rw [ne1]; rfl]
  walk_at "ww"
  rw [show (!(fl lb b).isEmpty) = true from by rw [ne2]; rfl]
  walk_at "ww"
  · refine ⟨by rw [rgD_len]; have : sizeLine = 16777216 := sizeLine_eq; simp only [fl_len]; omega, rfl, ?_⟩
    refine lc_w (fl (la + lb - 1) fun _ => 0) (by rw [fl_len, rgD_len, fl_len, fl_len]; omega) ?_ rfl ?_
    · intro i d r h1 h2
      obtain ⟨_, rfl⟩ := fl_get_inv h2
      refine ⟨_, rfl, ?_⟩
      walk_at "ww"
      exact ⟨rfl, rfl⟩
    · refine ⟨_, rfl, rfl, ?_⟩
      walk_at "ww"
      · refine loop_w (fun i s => s = [.sh (.lst (fl la a)), .sh (.lst (fl lb b)), .ow (.lst (fl (la + lb - 1) (rowS a b i))), .no, .no]) rfl ?_ ?_
        · rintro i d s hd rfl
          obtain ⟨hi, rfl⟩ := rg0_get hd
          have hi' : i < la := by rw [fl_len] at hi; simpa using hi
          refine ⟨_, rfl, ?_⟩
          walk_at "ww"
          · refine loop_w (fun j s => s = [.sh (.lst (fl la a)), .sh (.lst (fl lb b)), .ow (.lst (fl (la + lb - 1) fun k => rowS a b i k + if i ≤ k ∧ k - i < j then a i * b (k - i) else 0)), .sh (.int i), .no]) ?_ ?_ ?_
            · have e : fl (la + lb - 1) (rowS a b i) = fl (la + lb - 1) fun k => rowS a b i k + if i ≤ k ∧ k - i < 0 then a i * b (k - i) else 0 := fl_congr fun k hk => by
                rw [if_neg (by omega)]
                omega
              rw [← e]
              rfl
            · rintro j d s hd rfl
              obtain ⟨hj, rfl⟩ := rg0_get hd
              have hj' : j < lb := by rw [fl_len] at hj; simpa using hj
              refine ⟨_, rfl, ?_⟩
              walk_at "ww"
              refine ⟨_, _, rfl, k_idx (fl_ix (k := i + j) (by simp) (by omega)), ?_⟩
              walk_at "ww"
              refine ⟨_, _, rfl, k_idx (fl_ix (k := i) rfl hi'), ?_⟩
              walk_at "ww"
              refine ⟨_, _, rfl, k_idx (fl_ix (k := j) rfl hj'), ?_⟩
              walk_at "wk"
              · refine ⟨_, _, _, rfl, rfl, rfl, _, ixN_k (k := i + j) (by simp) (by rw [fl_len]; omega), ?_⟩
                refine ⟨rfl, ?_⟩
                have e : (fl (la + lb - 1) fun k => rowS a b i k + if i ≤ k ∧ k - i < j then a i * b (k - i) else 0).set (i + j) (.int (rowS a b i (i + j) + (if i ≤ i + j ∧ i + j - i < j then a i * b (i + j - i) else 0) + a i * b j)) = fl (la + lb - 1) fun k => rowS a b i k + if i ≤ k ∧ k - i < j + 1 then a i * b (k - i) else 0 := by
                  rw [fl_set (by omega)]
                  refine fl_congr fun k hk => ?_
                  by_cases q : k = i + j
                  · subst q
                    rw [if_pos rfl, if_neg (by omega), if_pos (by omega)]
                    have : i + j - i = j := by omega
                    rw [this]
                    omega
                  · rw [if_neg q]
                    by_cases q2 : i ≤ k ∧ k - i < j
                    · rw [if_pos q2, if_pos (by omega)]
                    · rw [if_neg q2, if_neg (by omega)]
                show _ = _
                rw [← e]
                rfl
              · exact mulOk_of (ha i) (hb j) hmk
            · rintro s3 rfl
              refine ⟨_, rfl, ?_⟩
              refine ⟨rfl, ?_⟩
              have e : (fl (la + lb - 1) fun k => rowS a b i k + if i ≤ k ∧ k - i < (rgD 0 ((fl lb b).length : Int).toNat).length then a i * b (k - i) else 0) = fl (la + lb - 1) (rowS a b (i + 1)) := by
                rw [rgD_len, fl_len]
                refine fl_congr fun k hk => ?_
                unfold rowS
                simp only [smI]
                by_cases q : i ≤ k
                · rw [if_pos q]
                  by_cases q2 : k - i < lb
                  · rw [if_pos (by simpa using ⟨q, q2⟩)]
                  · rw [if_neg (by simp; omega), hb0 (k - i) (by omega)]
                    simp
                · rw [if_neg q, if_neg (by omega)]
              rw [← e]
              rfl
          · exact rng1 (by omega) (by rw [fl_len]; omega)
        · rintro s3 rfl
          rw [rgD_len, fl_len]
          refine ⟨_, rfl, ?_⟩
          walk_at "ww"
          rfl
      · exact rng1 (by omega) (by rw [fl_len]; omega)
  · exact rng1 (by simp only [fl_len]; omega) (by simp only [fl_len]; omega)
end K22

set_option maxHeartbeats 400000
namespace K22
open PySem L2 Ml Pw
theorem power_sums_g {N : Nat} (n C : Nat) (av L : Nat → Int) (m M : Nat) (hn : n < 1000) (hC : C < 1000000) (h0 : L 0 = (n : Int))
    (hL : ∀ k, 1 ≤ k → k ≤ C → L k = -((if k ≤ n then (k : Int) * av (n - k) else 0) + smI (min (n + 1) k - 1) fun i => av (n - (i + 1)) * L (k - (i + 1))))
    (hb : ∀ i, (av i).natAbs < 2 ^ m) (hM : ∀ k, k ≤ C → (L k).natAbs < 2 ^ M) (hm : m + M < 90000000) : Gives (f_power_sums N) [.lst (fl (n + 1) av), .int C, .int 0] (.sh (.lst (fl (C + 1) L))) := by
  have sl16 : sizeLine = 16777216 := sizeLine_eq
  refine gives_w rfl ?_
  unfold b_power_sums
  refine wS_cut [.sh (.lst (fl (n + 1) av)), .sh (.int C), .sh (.int 0), .sh (.int n), .no, .no, .no, .no] ?_ ?_
  · walk_at "ww"
    refine ⟨rfl, ?_⟩
    rw [show (((fl (n + 1) av).length : Nat) : Int) - 1 = (n : Int) from by rw [fl_len]; omega]
    rfl
  refine wS_cut [.sh (.lst (fl (n + 1) av)), .sh (.int C), .sh (.int 0), .sh (.int n), .ow (.lst (fl 1 L)), .no, .no, .no] ?_ ?_
  · walk_at "ww"
    refine ⟨rfl, ?_⟩
    rw [show fl 1 L = [.int (n : Int)] from by rw [← h0]; rfl]
    rfl
  refine wS_cut [.sh (.lst (fl (n + 1) av)), .sh (.int C), .sh (.int 0), .sh (.int n), .ow (.lst (fl (C + 1) L)), .no, .no, .no] ?_ ?_
  · walk_at "ww"
    · refine loop_w (fun i s => s = [.sh (.lst (fl (n + 1) av)), .sh (.int C), .sh (.int 0), .sh (.int n), .ow (.lst (fl (i + 1) L)), .no, .no, .no]) rfl ?_ ?_
      · rintro i d s hd rfl
        obtain ⟨hi, rfl⟩ := rg1_get hd
        have hi' : i < C := by omega
        refine ⟨_, rfl, ?_⟩
        refine wS_fgt ?_
        refine wS_cut [.sh (.lst (fl (n + 1) av)), .sh (.int C), .sh (.int 0), .sh (.int n), .ow (.lst (fl (i + 1) L)), .sh (.int ((i + 1 : Nat) : Int)), .sh (.int (if i + 1 ≤ n then ((i + 1 : Nat) : Int) * av (n - (i + 1)) else 0)), .no] ?_ ?_
        · walk_at "ww"
          refine if_dec ?_ ?_
          · intro h
            walk_at "ww"
            refine ⟨_, _, rfl, k_idx (fl_ix (k := n - (i + 1)) (by omega) (by omega)), ?_⟩
            walk_at "wk"
            · refine ⟨rfl, ?_⟩
              rw [if_pos (by omega)]
              rfl
            · exact mulOk_of (m := 20) (by show ((i + 1 : Nat) : Int).natAbs < 1048576; omega) (hb _) (by omega)
          · intro h
            walk_at "ww"
            refine ⟨rfl, ?_⟩
            rw [if_neg (by omega)]
            rfl
        refine wS_cut [.sh (.lst (fl (n + 1) av)), .sh (.int C), .sh (.int 0), .sh (.int n), .ow (.lst (fl (i + 1) L)), .sh (.int ((i + 1 : Nat) : Int)), .sh (.int ((if i + 1 ≤ n then ((i + 1 : Nat) : Int) * av (n - (i + 1)) else 0) + smI (min (n + 1) (i + 1) - 1) fun j => av (n - (j + 1)) * L (i + 1 - (j + 1)))), .no] ?_ ?_
        · walk_at "ww"
          · have emin : ((if ((i + 1 : Nat) : Int) < ((fl (n + 1) av).length : Nat) then ((i + 1 : Nat) : Int) else ((fl (n + 1) av).length : Nat)) - 1).toNat = min (n + 1) (i + 1) - 1 := by
              rw [fl_len]
              split <;> omega
            refine loop_w (fun j s => s = [.sh (.lst (fl (n + 1) av)), .sh (.int C), .sh (.int 0), .sh (.int n), .ow (.lst (fl (i + 1) L)), .sh (.int ((i + 1 : Nat) : Int)), .sh (.int ((if i + 1 ≤ n then ((i + 1 : Nat) : Int) * av (n - (i + 1)) else 0) + smI j fun j => av (n - (j + 1)) * L (i + 1 - (j + 1)))), .no]) ?_ ?_ ?_
            · rw [show smI 0 (fun j => av (n - (j + 1)) * L (i + 1 - (j + 1))) = 0 from rfl, Int.add_zero]
            · rintro j d s hd rfl
              obtain ⟨hj, rfl⟩ := rg1_get hd
              rw [emin] at hj
              refine ⟨_, rfl, ?_⟩
              walk_at "ww"
              refine ⟨_, _, rfl, k_idx (fl_ix (k := n - (j + 1)) (by omega) (by omega)), ?_⟩
              walk_at "ww"
              refine ⟨_, _, rfl, k_idx (fl_ix (k := i + 1 - (j + 1)) (by omega) (by omega)), ?_⟩
              walk_at "wk"
              · simp only [smI]
                rw [← Int.add_assoc]
                rfl
              · exact mulOk_of (hb _) (hM _ (by omega)) (by omega)
            · rintro s3 rfl
              rw [rgD_len, emin]
              exact ⟨_, rfl, rfl, rfl⟩
          · rw [fl_len]
            exact rng2 ⟨by omega, by omega⟩ (by split <;> omega)
        walk_at "ww"
        refine ⟨by rw [fl_len]; omega, ?_⟩
        refine ⟨rfl, ?_⟩
        have e := fl_app' (n := i + 1) (f := L) (hL (i + 1) (by omega) (by omega)).symm
        rw [← e]
        rfl
      · rintro s3 rfl
        have e : (rgD 1 ((C : Int) + 1 - 1).toNat).length = C := by rw [rgD_len]; omega
        rw [e]
        exact ⟨_, rfl, rfl, rfl⟩
    · exact rng2 ⟨by omega, by omega⟩ ⟨by omega, by omega⟩
  walk_at "ww"
  rfl
end K22

set_option maxHeartbeats 400000
namespace K22
open PySem L2 Ml Pw
theorem from_sums_g {N : Nat} (n : Nat) (t E : Nat → Int) (m M : Nat) (hn : n < 1000) (h0 : E 0 = 1) (hE : ∀ k, 1 ≤ k → k ≤ n → (k : Int) * E k + (t k + smI (k - 1) fun i => E (i + 1) * t (k - (i + 1))) = 0)
    (hm : ∀ k, k ≤ n → (E k).natAbs < 2 ^ m) (hM : ∀ k, k ≤ n → (t k).natAbs < 2 ^ M) (hmm : m + M < 90000000) : Gives (f_from_power_sums N) [.lst (fl (n + 1) t), .int 0] (.sh (.lst (fl (n + 1) fun i => E (n - i)))) := by
  have sl16 : sizeLine = 16777216 := sizeLine_eq
  refine gives_w rfl ?_
  unfold b_from_power_sums
  refine wS_cut [.sh (.lst (fl (n + 1) t)), .sh (.int 0), .sh (.int n), .no, .no, .no, .no] ?_ ?_
  · walk_at "ww"
    refine ⟨rfl, ?_⟩
    rw [show (((fl (n + 1) t).length : Nat) : Int) - 1 = (n : Int) from by rw [fl_len]; omega]
    rfl
  refine wS_cut [.sh (.lst (fl (n + 1) t)), .sh (.int 0), .sh (.int n), .ow (.lst (fl (n + 1) fun i => if n - i ≤ 0 then E (n - i) else 0)), .no, .no, .no] ?_ ?_
  · walk_at "ww"
    case hs => omega
    rw [show (n : Int).toNat = n from by omega]
    refine ⟨_, _, rfl, k_cat (by simp only [List.length_replicate, List.length_cons, List.length_nil]; omega), ?_⟩
    walk_at "ww"
    refine ⟨rfl, ?_⟩
    have e : List.replicate n (D.int 0) ++ [D.int 1] = fl (n + 1) fun i => if n - i ≤ 0 then E (n - i) else 0 := by
      refine List.ext_getElem? fun k => ?_
      by_cases q : k < n + 1
      · rw [fl_get q]
        by_cases q2 : k < n
        · rw [List.getElem?_append_left (by simpa using q2), List.getElem?_replicate, if_pos q2, if_neg (by omega)]
        · have : k = n := by omega
          subst this
          rw [List.getElem?_append_right (by simp)]
          simp [h0]
      · rw [List.getElem?_eq_none (by simp; omega), List.getElem?_eq_none (by rw [fl_len]; omega)]
    rw [← e]
    rfl
  refine wS_cut [.sh (.lst (fl (n + 1) t)), .sh (.int 0), .sh (.int n), .ow (.lst (fl (n + 1) fun i => E (n - i))), .no, .no, .no] ?_ ?_
  · walk_at "ww"
    · refine loop_w (fun i s => s = [.sh (.lst (fl (n + 1) t)), .sh (.int 0), .sh (.int n), .ow (.lst (fl (n + 1) fun k => if n - k ≤ i then E (n - k) else 0)), .no, .no, .no]) rfl ?_ ?_
      · rintro i d s hd rfl
        obtain ⟨hi, rfl⟩ := rg1_get hd
        have hi' : i < n := by omega
        refine ⟨_, rfl, ?_⟩
        refine wS_fgt ?_
        refine wS_cut [.sh (.lst (fl (n + 1) t)), .sh (.int 0), .sh (.int n), .ow (.lst (fl (n + 1) fun k => if n - k ≤ i then E (n - k) else 0)), .sh (.int ((i + 1 : Nat) : Int)), .sh (.int (t (i + 1))), .no] ?_ ?_
        · walk_at "ww"
          refine ⟨_, _, rfl, k_idx (fl_ix (k := i + 1) rfl (by omega)), ?_⟩
          walk_at "ww"
          exact ⟨rfl, rfl⟩
        refine wS_cut [.sh (.lst (fl (n + 1) t)), .sh (.int 0), .sh (.int n), .ow (.lst (fl (n + 1) fun k => if n - k ≤ i then E (n - k) else 0)), .sh (.int ((i + 1 : Nat) : Int)), .sh (.int (t (i + 1) + smI (i + 1 - 1) fun j => E (j + 1) * t (i + 1 - (j + 1)))), .no] ?_ ?_
        · walk_at "ww"
          · refine loop_w (fun j s => s = [.sh (.lst (fl (n + 1) t)), .sh (.int 0), .sh (.int n), .ow (.lst (fl (n + 1) fun k => if n - k ≤ i then E (n - k) else 0)), .sh (.int ((i + 1 : Nat) : Int)), .sh (.int (t (i + 1) + smI j fun j => E (j + 1) * t (i + 1 - (j + 1)))), .no]) ?_ ?_ ?_
            · rw [show smI 0 (fun j => E (j + 1) * t (i + 1 - (j + 1))) = 0 from rfl, Int.add_zero]
            · rintro j d s hd rfl
              obtain ⟨hj, rfl⟩ := rg1_get hd
              have hj' : j < i := by omega
              refine ⟨_, rfl, ?_⟩
              walk_at "ww"
              refine ⟨_, _, rfl, k_idx (fl_ix (k := n - (j + 1)) (by omega) (by omega)), ?_⟩
              rw [if_pos (by omega), show n - (n - (j + 1)) = j + 1 from by omega]
              walk_at "ww"
              refine ⟨_, _, rfl, k_idx (fl_ix (k := i + 1 - (j + 1)) (by omega) (by omega)), ?_⟩
              walk_at "wk"
              · simp only [smI]
                rw [← Int.add_assoc]
                rfl
              · exact mulOk_of (hm _ (by omega)) (hM _ (by omega)) (by omega)
            · rintro s3 rfl
              have e : (rgD 1 (((i + 1 : Nat) : Int) - 1).toNat).length = i + 1 - 1 := by rw [rgD_len]; omega
              rw [e]
              exact ⟨_, rfl, rfl, rfl⟩
          · exact rng2 ⟨by omega, by omega⟩ ⟨by omega, by omega⟩
        walk_at "wk"
        · refine ⟨_, _, _, rfl, rfl, rfl, _, ixN_k (k := n - (i + 1)) (by omega) (by rw [fl_len]; omega), ?_⟩
          refine ⟨rfl, ?_⟩
          have ed : (-(t (i + 1) + smI (i + 1 - 1) fun j => E (j + 1) * t (i + 1 - (j + 1)))).fdiv ((i + 1 : Nat) : Int) = E (i + 1) := by
            have h := hE (i + 1) (by omega) (by omega)
            have e : -(t (i + 1) + smI (i + 1 - 1) fun j => E (j + 1) * t (i + 1 - (j + 1))) = ((i + 1 : Nat) : Int) * E (i + 1) := by omega
            rw [e, Int.mul_fdiv_cancel_left _ (by omega)]
          have e : (fl (n + 1) fun k => if n - k ≤ i then E (n - k) else 0).set (n - (i + 1)) (.int ((-(t (i + 1) + smI (i + 1 - 1) fun j => E (j + 1) * t (i + 1 - (j + 1)))).fdiv ((i + 1 : Nat) : Int))) = fl (n + 1) fun k => if n - k ≤ i + 1 then E (n - k) else 0 := by
            rw [ed, fl_set (by omega)]
            refine fl_congr fun k hk => ?_
            by_cases q : k = n - (i + 1)
            · subst q
              rw [if_pos rfl, if_pos (by omega), show n - (n - (i + 1)) = i + 1 from by omega]
            · rw [if_neg q]
              by_cases q2 : n - k ≤ i
              · rw [if_pos q2, if_pos (by omega)]
              · rw [if_neg q2, if_neg (by omega)]
          rw [← e]
          rfl
        · omega
        · exact pyl_small (Nat.lt_of_lt_of_le (by show ((i + 1 : Nat) : Int).natAbs < 2 ^ 20; omega) (Nat.pow_le_pow_right (by omega) (by omega)))
      · rintro s3 rfl
        have e : (rgD 1 ((n : Int) + 1 - 1).toNat).length = n := by rw [rgD_len]; omega
        rw [e]
        refine ⟨_, rfl, rfl, ?_⟩
        have e2 : (fl (n + 1) fun k => if n - k ≤ n then E (n - k) else 0) = fl (n + 1) fun i => E (n - i) := fl_congr fun k hk => if_pos (by omega)
        rw [← e2]
    · exact rng2 ⟨by omega, by omega⟩ ⟨by omega, by omega⟩
  walk_at "ww"
  rfl
end K22

set_option maxHeartbeats 400000
namespace K22
open PySem L2 Ml Pw
theorem rgC_get {a : Int} {n i : Nat} {d : D} (h : (rgC a (-1) n)[i]? = some d) : i < n ∧ d = .int (a - i) := by
  unfold rgC at h
  simp only [List.getElem?_map] at h
  cases e : (List.range n)[i]? with
  | none => rw [e] at h; cases h
  | some k =>
    rw [e] at h
    obtain ⟨h1, h2⟩ := List.getElem?_eq_some_iff.mp e
    simp at h1 h2
    subst h2
    cases h
    have : a + (i : Int) * (-1) = a - i := by grind
    exact ⟨h1, congrArg D.int this⟩
theorem rgC_len {a : Int} {n : Nat} : (rgC a (-1) n).length = n := by simp [rgC]
theorem lifted_g {N : Nat} (n : Nat) (av : Nat → Int) (m : Nat) (hn : n < 1000) (hm : ∀ k, (av k).natAbs < 2 ^ m) (hmm : m * 1000 + 1000 < 10000000) :
    Gives (f_lifted N) [.lst (fl (n + 1) av)] (.sh (.lst (fl (n + 1) fun k => if k = n then 1 else av k * av n ^ (n - 1 - k)))) := by
  refine gives_w rfl ?_
  unfold b_lifted
  refine wS_cut [.sh (.lst (fl (n + 1) av)), .ow (.lst (fl (n + 1) av)), .no, .no] ?_ ?_
  · walk_at "ww"
    exact ⟨rfl, rfl⟩
  refine wS_cut [.sh (.lst (fl (n + 1) av)), .ow (.lst (fl (n + 1) fun k => if k = n then 1 else if n - 1 - k < 0 then av k * av n ^ (n - 1 - k) else av k)), .no, .no] ?_ ?_
  · walk_at "ww"
    refine ⟨_, _, _, rfl, rfl, rfl, _, ixN_neg (by rw [fl_len]; omega), ?_⟩
    refine ⟨rfl, ?_⟩
    have e : (fl (n + 1) av).set ((fl (n + 1) av).length - 1) (.int 1) = fl (n + 1) fun k => if k = n then 1 else if n - 1 - k < 0 then av k * av n ^ (n - 1 - k) else av k := by
      rw [fl_len, fl_set (by omega)]
      refine fl_congr fun k hk => ?_
      by_cases q : k = n
      · rw [if_pos (by omega), if_pos q]
      · rw [if_neg (by omega), if_neg q, if_neg (Nat.not_lt_zero _)]
    rw [← e]
    rfl
  refine wS_cut [.sh (.lst (fl (n + 1) av)), .ow (.lst (fl (n + 1) fun k => if k = n then 1 else if n - 1 - k < 0 then av k * av n ^ (n - 1 - k) else av k)), .sh (.int 1), .no] ?_ ?_
  · walk_at "ww"
    exact ⟨rfl, rfl⟩
  refine wS_cut [.sh (.lst (fl (n + 1) av)), .ow (.lst (fl (n + 1) fun k => if k = n then 1 else av k * av n ^ (n - 1 - k))), .no, .no] ?_ ?_
  · walk_at "ww"
    · refine loop_w (fun i s => s = [.sh (.lst (fl (n + 1) av)), .ow (.lst (fl (n + 1) fun k => if k = n then 1 else if n - 1 - k < i then av k * av n ^ (n - 1 - k) else av k)), .sh (.int (av n ^ i)), .no]) (by simp) ?_ ?_
      · rintro i d s hd rfl
        obtain ⟨hi, rfl⟩ := rgC_get hd
        have hi' : i < n := by rw [fl_len] at hi; omega
        have hdx : (((fl (n + 1) av).length : Nat) : Int) - 2 - (i : Int) = ((n - 1 - i : Nat) : Int) := by rw [fl_len]; omega
        have hp := pow_bd (hm n) i
        have hmi : m * i ≤ m * 1000 := Nat.mul_le_mul_left m (by omega)
        refine ⟨_, rfl, ?_⟩
        rw [hdx]
        walk_at "ww"
        refine ⟨_, _, rfl, k_idx (fl_ix (k := n - 1 - i) rfl (by omega)), ?_⟩
        walk_at "wk"
        · refine ⟨_, _, _, rfl, rfl, rfl, _, ixN_k (k := n - 1 - i) rfl (by rw [fl_len]; omega), ?_⟩
          walk_at "ww"
          refine ⟨_, _, rfl, k_idx fl_last, ?_⟩
          walk_at "wk"
          · have e : (fl (n + 1) fun k => if k = n then 1 else if n - 1 - k < i then av k * av n ^ (n - 1 - k) else av k).set (n - 1 - i) (.int (av (n - 1 - i) * av n ^ i)) = fl (n + 1) fun k => if k = n then 1 else if n - 1 - k < i + 1 then av k * av n ^ (n - 1 - k) else av k := by
              rw [fl_set (by omega)]
              refine fl_congr fun k hk => ?_
              by_cases q : k = n - 1 - i
              · subst q
                rw [if_pos rfl, if_neg (by omega), if_pos (by omega), show n - 1 - (n - 1 - i) = i from by omega]
              · rw [if_neg q]
                by_cases q2 : k = n
                · rw [if_pos q2, if_pos q2]
                · rw [if_neg q2, if_neg q2]
                  by_cases q3 : n - 1 - k < i
                  · rw [if_pos q3, if_pos (by omega)]
                  · rw [if_neg q3, if_neg (by omega)]
            rw [← e, Int.pow_succ]
            exact ⟨rfl, rfl⟩
          · exact mulOk_of hp (hm n) (by omega)
        · exact mulOk_of (hm _) hp (by omega)
      · rintro s3 rfl
        have e : (rgC ((((fl (n + 1) av).length : Nat) : Int) - 2) (-1) (((((fl (n + 1) av).length : Nat) : Int) - 2) - -1).toNat).length = n := by rw [rgC_len, fl_len]; omega
        rw [e]
        refine ⟨_, rfl, rfl, ?_⟩
        have e2 : (fl (n + 1) fun k => if k = n then 1 else if n - 1 - k < n then av k * av n ^ (n - 1 - k) else av k) = fl (n + 1) fun k => if k = n then 1 else av k * av n ^ (n - 1 - k) := fl_congr fun k hk => by
          by_cases q : k = n
          · rw [if_pos q, if_pos q]
          · rw [if_neg q, if_neg q, if_pos (by omega)]
        rw [← e2]
        rfl
    · rw [fl_len]
      exact rng2 ⟨by omega, by omega⟩ ⟨by omega, by omega⟩
  walk_at "ww"
  rfl
/-- the greatest common divisor of the first ones -/
def gl (v : Nat → Int) : Nat → Nat
  | 0 => 0
  | n + 1 => Nat.gcd (gl v n) (v n).natAbs
theorem gl_dvd {v : Nat → Int} : ∀ {n k : Nat}, k < n → gl v n ∣ (v k).natAbs
  | 0, k, h => by omega
  | n + 1, k, h => by
    by_cases q : k = n
    · subst q; exact Nat.gcd_dvd_right _ _
    · exact Nat.dvd_trans (Nat.gcd_dvd_left _ _) (gl_dvd (n := n) (by omega))
theorem gl_mul {v : Nat → Int} {c d : Nat} : ∀ {n : Nat}, (∀ k, k < n → c ∣ d * (v k).natAbs) → c ∣ d * gl v n
  | 0, _ => by simp [gl]
  | n + 1, h => by
    show c ∣ d * Nat.gcd (gl v n) (v n).natAbs
    rw [← Nat.gcd_mul_left]
    exact Nat.dvd_gcd (gl_mul fun k hk => h k (by omega)) (h n (by omega))
def gs (v : Nat → Int) (n : Nat) : Int := if v n < 0 then -(gl v (n + 1) : Int) else (gl v (n + 1) : Int)
theorem gl_pos {v : Nat → Int} {n : Nat} (h : v n ≠ 0) : 0 < gl v (n + 1) := Nat.gcd_pos_of_pos_right _ (by omega)
theorem gs_ne {v : Nat → Int} {n : Nat} (h : v n ≠ 0) : gs v n ≠ 0 := by
  have := gl_pos h
  unfold gs
  split <;> omega
theorem gs_dvd {v : Nat → Int} {n k : Nat} (h : k ≤ n) : gs v n ∣ v k := by
  have := gl_dvd (v := v) (n := n + 1) (k := k) (by omega)
  have h2 : ((gl v (n + 1) : Nat) : Int) ∣ v k := Int.ofNat_dvd_left.mpr this
  unfold gs
  split
  · exact Int.neg_dvd.mpr h2
  · exact h2
theorem primitive_g {N : Nat} (n : Nat) (v : Nat → Int) (hn : n < 1000) (h0 : v n ≠ 0) (hp : ∀ k, k ≤ n → Builtin.divisionGoesByPylong (v k) (gs v n) = false) :
    Gives (f_primitive N) [.lst (fl (n + 1) v)] (.fr (.lst (fl (n + 1) fun k => (v k).fdiv (gs v n)))) := by
  have sl16 : sizeLine = 16777216 := sizeLine_eq
  refine gives_w rfl ?_
  unfold b_primitive
  refine wS_cut [.sh (.lst (fl (n + 1) v)), .sh (.int 0), .no] ?_ ?_
  · walk_at "ww"
    exact ⟨rfl, rfl⟩
  refine wS_seq (wS_imp (Q := fun f s => f = .nx ∧ ∃ x, s = [.sh (.lst (fl (n + 1) v)), .sh (.int (gl v (n + 1) : Nat)), x] ∧ x.free = true) ?_ ?_)
  · walk_at "ww"
    refine loop_w (fun i s => ∃ x, s = [.sh (.lst (fl (n + 1) v)), .sh (.int (gl v i : Nat)), x] ∧ x.free = true) ⟨_, rfl, rfl⟩ ?_ ?_
    · rintro i d s hd ⟨x, rfl, hx⟩
      obtain ⟨hi, rfl⟩ := fl_get_inv hd
      refine ⟨[.sh (.lst (fl (n + 1) v)), .sh (.int (gl v i : Nat)), .sh (.int (v i))], ?_, ?_⟩
      · show (if x.free = true then _ else _) = _
        rw [if_pos hx]
        rfl
      walk_at "ww"
      refine ⟨rfl, _, rfl, rfl⟩
    · rintro s3 ⟨x, rfl, hx⟩
      rw [fl_len]
      exact ⟨_, rfl, rfl, x, rfl, hx⟩
  rintro f s ⟨rfl, x, rfl, hx⟩
  show wS _ _ _
  refine wS_cut [.sh (.lst (fl (n + 1) v)), .sh (.int (gs v n)), x] ?_ ?_
  · walk_at "ww"
    refine ⟨_, _, rfl, k_idx fl_last, ?_⟩
    walk_at "ww"
    refine if_dec ?_ ?_
    · intro h
      walk_at "ww"
      refine ⟨rfl, ?_⟩
      unfold gs
      rw [if_pos h]
      rfl
    · intro h
      walk_at "ww"
      refine ⟨rfl, ?_⟩
      unfold gs
      rw [if_neg h]
  walk_at "ww"
  refine ⟨by rw [fl_len]; omega, rfl, ?_⟩
  refine lc_w (fl (n + 1) fun k => (v k).fdiv (gs v n)) (by rw [fl_len, fl_len]) ?_ rfl ?_
  · intro i d r h1 h2
    obtain ⟨hi, rfl⟩ := fl_get_inv h1
    obtain ⟨_, rfl⟩ := fl_get_inv h2
    refine ⟨_, rfl, ?_⟩
    walk_at "wk"
    · exact ⟨rfl, rfl⟩
    · exact gs_ne h0
    · exact hp i (by omega)
  · exact ⟨_, rfl, rfl, rfl⟩
end K22

set_option maxHeartbeats 400000
namespace K22
open PySem L2 Ml Pw
theorem lowered_g {N : Nat} (n : Nat) (c : Nat → Int) (S : Int) (m q : Nat) (hn : n < 1000) (hc : ∀ k, (c k).natAbs < 2 ^ m) (hS : S.natAbs < 2 ^ q) (hq : q * n + m + q + 1000 < 90000000) (h0 : c n * S ^ n ≠ 0)
    (hp : ∀ k, k ≤ n → Builtin.divisionGoesByPylong (c k * S ^ k) (gs (fun k => c k * S ^ k) n) = false) :
    Gives (f_lowered N) [.lst (fl (n + 1) c), .int S] (.fr (.lst (fl (n + 1) fun k => (c k * S ^ k).fdiv (gs (fun k => c k * S ^ k) n)))) := by
  have sl16 : sizeLine = 16777216 := sizeLine_eq
  refine gives_w rfl ?_
  unfold b_lowered
  refine wS_cut [.sh (.lst (fl (n + 1) c)), .sh (.int S), .ow (.lst (fl 0 fun k => c k * S ^ k)), .no, .no] ?_ ?_
  · walk_at "ww"
    exact ⟨rfl, rfl⟩
  refine wS_cut [.sh (.lst (fl (n + 1) c)), .sh (.int S), .ow (.lst (fl 0 fun k => c k * S ^ k)), .sh (.int 1), .no] ?_ ?_
  · walk_at "ww"
    exact ⟨rfl, rfl⟩
  refine wS_cut [.sh (.lst (fl (n + 1) c)), .sh (.int S), .ow (.lst (fl (n + 1) fun k => c k * S ^ k)), .no, .no] ?_ ?_
  · walk_at "ww"
    refine loop_w (fun i s => s = [.sh (.lst (fl (n + 1) c)), .sh (.int S), .ow (.lst (fl i fun k => c k * S ^ k)), .sh (.int (S ^ i)), .no]) (by simp) ?_ ?_
    · rintro i d s hd rfl
      obtain ⟨hi, rfl⟩ := fl_get_inv hd
      have hpw := pow_bd hS i
      have hqi : q * i ≤ q * n := Nat.mul_le_mul_left q (by omega)
      refine ⟨_, rfl, ?_⟩
      walk_at "wk"
      · refine ⟨by rw [fl_len]; omega, ?_⟩
        walk_at "wk"
        · have e := fl_app (n := i) (f := fun k => c k * S ^ k)
          rw [← e, Int.pow_succ]
          exact ⟨rfl, rfl⟩
        · exact mulOk_of hpw hS (by omega)
      · exact mulOk_of (hc i) hpw (by omega)
    · rintro s3 rfl
      rw [fl_len]
      exact ⟨_, rfl, rfl, rfl⟩
  walk_at "ww"
  refine ⟨_, primitive_g n _ hn h0 hp, ?_⟩
  rfl
/-! ### numbers -/
inductive NumS : D → Rat → Prop where
  | int (z : Int) : NumS (.int z) (z : Rat)
  | rat (n d : Int) : 2 ≤ d → Int.gcd n d = 1 → NumS (ratD n d) ((n : Rat) / (d : Rat))
theorem ratnz {z : Int} (h : z ≠ 0) : (z : Rat) ≠ 0 := fun q => h (by
  have e : (z : Rat) = ((0 : Int) : Rat) := by rw [q]; rfl
  exact Rat.intCast_inj.mp e)
theorem cross {a b n d : Int} (hb : b ≠ 0) (hd : d ≠ 0) (h : a * d = n * b) : (a : Rat) / (b : Rat) = (n : Rat) / (d : Rat) := by
  have h1 := ratnz hb
  have h2 := ratnz hd
  have h3 : (a : Rat) * (d : Rat) = (n : Rat) * (b : Rat) := by rw [← Rat.intCast_mul, ← Rat.intCast_mul, h]
  grind
theorem number_over_g {N : Nat} (a b : Int) (h0 : b ≠ 0) (hb : b.natAbs < 2 ^ 9000) : ∃ rv, Gives (f_number_over N) [.int a, .int b] rv ∧ NumS rv.d ((a : Rat) / (b : Rat)) := by
  by_cases hd : a.fmod b = 0
  · obtain ⟨c, hc⟩ := Int.dvd_of_fmod_eq_zero hd
    refine ⟨.sh (.int c), ?_, ?_⟩
    · refine gives_w rfl ?_
      unfold b_number_over
      walk_at "wk"
      · refine if_dec (fun _ => ?_) (fun z => absurd hd z)
        walk_at "wk"
        · have e : a.fdiv b = c := by rw [hc, Int.mul_fdiv_cancel_left _ h0]
          rw [← e]
          rfl
        · exact h0
        · exact pyl_small hb
      · exact h0
    · have e : (a : Rat) / (b : Rat) = (c : Rat) := by
        have h1 := ratnz h0
        rw [hc, Rat.intCast_mul]
        grind
      rw [e]
      exact .int c
  · obtain ⟨n, d, p1, p2, p3, p4, out, e⟩ := ratio_i (N := N) a b h0 hb
    refine ⟨.fr (.ins 0 ["top", "bottom"] [.int n, .int d]), ?_, ?_⟩
    · refine gives_w rfl ?_
      unfold b_number_over
      walk_at "wk"
      · refine if_dec (fun z => absurd z hd) (fun _ => ?_)
        walk_at "ww"
        exact ⟨_, ⟨out, e⟩, rfl⟩
      · exact h0
    · rw [cross h0 (by omega) p3]
      refine .rat n d ?_ p2
      by_cases q : d = 1
      · exfalso
        subst q
        apply hd
        rw [Int.mul_one] at p3
        rw [p3]
        exact Int.mul_fmod_left _ _
      · omega
theorem numbers_over_g {N : Nat} (n : Nat) (v : Nat → Int) (b : Int) (hn : n < 1000) (h0 : b ≠ 0) (hb : b.natAbs < 2 ^ 9000) : ∃ ds : List D, ds.length = n ∧ (∀ k, k < n → ∃ d, ds[k]? = some d ∧ NumS d ((v k : Rat) / (b : Rat))) ∧ Gives (f_numbers_over N) [.lst (fl n v), .int b] (.sh (.tup ds)) := by
  have sl16 : sizeLine = 16777216 := sizeLine_eq
  let g : Nat → RV := fun k => (number_over_g (N := N) (v k) b h0 hb).choose
  have hg : ∀ k, Gives (f_number_over N) [.int (v k), .int b] (g k) ∧ NumS (g k).d ((v k : Rat) / (b : Rat)) := fun k => (number_over_g (N := N) (v k) b h0 hb).choose_spec
  have gl_ : ∀ k, k < n → ((List.range n).map fun k => (g k).d)[k]? = some (g k).d := fun k hk => by
    rw [List.getElem?_map, List.getElem?_range hk]
    rfl
  refine ⟨(List.range n).map fun k => (g k).d, by simp, fun k hk => ⟨(g k).d, gl_ k hk, (hg k).2⟩, ?_⟩
  refine gives_w rfl ?_
  unfold b_numbers_over
  walk_at "ww"
  refine ⟨by rw [fl_len]; omega, rfl, ?_⟩
  refine lc_w ((List.range n).map fun k => (g k).d) (by rw [fl_len]; simp) ?_ rfl ?_
  · intro i d r h1 h2
    obtain ⟨hi, rfl⟩ := fl_get_inv h1
    rw [gl_ i hi] at h2
    cases h2
    refine ⟨_, rfl, ?_⟩
    walk_at "ww"
    refine ⟨_, (hg i).1, ?_⟩
    exact ⟨rfl, rfl⟩
  · refine ⟨_, rfl, rfl, ?_⟩
    walk_at "ww"
    rfl
theorem monic_g {N : Nat} (n : Nat) (v : Nat → Int) (hn : n < 999) (h0 : v n ≠ 0) (hb : (v n).natAbs < 2 ^ 9000) : ∃ ds : List D, ds.length = n + 1 ∧ (∀ k, k < n + 1 → ∃ d, ds[k]? = some d ∧ NumS d ((v k : Rat) / (v n : Rat))) ∧ Gives (f_monic N) [.lst (fl (n + 1) v)] (.sh (.tup ds)) := by
  obtain ⟨ds, h1, h2, h3⟩ := numbers_over_g (N := N) (n + 1) v (v n) (by omega) h0 hb
  refine ⟨ds, h1, h2, ?_⟩
  refine gives_w rfl ?_
  unfold b_monic
  walk_at "ww"
  refine ⟨_, _, rfl, k_idx fl_last, ?_⟩
  walk_at "ww"
  exact ⟨_, h3, rfl⟩
end K22

set_option maxHeartbeats 400000
namespace K22
open PySem L2 Ml Pw
inductive Num : D → Rat → Prop where
  | int (z : Int) : Num (.int z) (z : Rat)
  | rat (n d : Int) : 0 < d → Int.gcd n d = 1 → Num (ratD n d) ((n : Rat) / (d : Rat))
theorem NumS.num {d : D} {x : Rat} (h : NumS d x) : Num d x := by
  cases h with
  | int z => exact .int z
  | rat n d h1 h2 => exact .rat n d (by omega) h2
theorem fraction_g {N : Nat} {d : D} {x : Rat} (h : Num d x) : ∃ t b : Int, 0 < b ∧ Int.gcd t b = 1 ∧ x = (t : Rat) / (b : Rat) ∧ Gives (f_fraction N) [d] (.sh (.tup [.int t, .int b])) := by
  cases h with
  | int z =>
    refine ⟨z, 1, by omega, by simp, ?_, ?_⟩
    · have : ((1 : Int) : Rat) = 1 := rfl
      rw [this]
      grind
    · refine gives_w rfl ?_
      unfold b_fraction
      walk_at "ww"
      rfl
  | rat n d h1 h2 =>
    refine ⟨n, d, h1, h2, rfl, ?_⟩
    refine gives_w rfl ?_
    unfold b_fraction ratD
    walk_at "ww"
    rfl
theorem bounded_g {N : Nat} (ds : List D) (m : Int) (h : (ds.length : Int) ≤ m + 1) : Gives (f_bounded N) [.tup ds, .int m] (.sh .non) := by
  have w : wS (b_bounded N) [.sh (.tup ds), .sh (.int m)] fun f _ => f = .nx := by
    unfold b_bounded
    walk_at "ww"
    refine if_dec (fun z => by omega) (fun _ => ?_)
    walk_at "ww"
    rfl
  obtain ⟨f, s, e, rfl⟩ := w
  refine ⟨s.take 2, ?_⟩
  show mFn 2 0 (b_bounded N) _ = _
  unfold mFn
  rw [if_pos (show (List.map Sl.sh [D.tup ds, D.int m]).length = 2 from rfl)]
  have e' : b_bounded N (List.map Sl.sh [D.tup ds, D.int m] ++ List.replicate 0 .no) = .ok (.nx, s) := e
  rw [e']
theorem powers_of_0 {N : Nat} (a : Nat → Int) (l : Nat) : Gives (f_powers_of N) [.lst (fl 1 a), .int l] (.fr (.lst [.int 1])) := by
  refine gives_w rfl ?_
  unfold b_powers_of
  refine wS_cut [.sh (.lst (fl 1 a)), .sh (.int l), .sh (.int 0), .no, .no, .no] ?_ ?_
  · walk_at "ww"
    exact ⟨rfl, rfl⟩
  walk_at "ww"
  rfl
theorem powers_of_g {N : Nat} (n l : Nat) (a L E : Nat → Int) (m M e : Nat) (hn : 1 ≤ n) (hn2 : n ≤ 12) (hl : 1 ≤ l) (hl2 : l ≤ 40) (ha : ∀ k, (a k).natAbs < 2 ^ m) (hm : m < 9000) (h0 : L 0 = (n : Int))
    (hL : ∀ k, 1 ≤ k → k ≤ n * l → L k = -((if k ≤ n then (k : Int) * (if n - k = n then 1 else a (n - k) * a n ^ (n - 1 - (n - k))) else 0) + smI (min (n + 1) k - 1) fun i => (if n - (i + 1) = n then 1 else a (n - (i + 1)) * a n ^ (n - 1 - (n - (i + 1)))) * L (k - (i + 1))))
    (hM : ∀ k, k ≤ n * l → (L k).natAbs < 2 ^ M) (hM2 : M < 40000000) (hE0 : E 0 = 1) (hE : ∀ k, 1 ≤ k → k ≤ n → (k : Int) * E k + (L (l * k) + smI (k - 1) fun i => E (i + 1) * L (l * (k - (i + 1)))) = 0)
    (he : ∀ k, (E k).natAbs < 2 ^ e) (he2 : e < 4000000) (hA : a n ≠ 0) (hp : ∀ k, k ≤ n → Builtin.divisionGoesByPylong (E (n - k) * (a n ^ l) ^ k) (gs (fun k => E (n - k) * (a n ^ l) ^ k) n) = false) :
    Gives (f_powers_of N) [.lst (fl (n + 1) a), .int l] (.fr (.lst (fl (n + 1) fun k => (E (n - k) * (a n ^ l) ^ k).fdiv (gs (fun k => E (n - k) * (a n ^ l) ^ k) n)))) := by
  have sl16 : sizeLine = 16777216 := sizeLine_eq
  have nl : n * l ≤ 12 * 40 := Nat.mul_le_mul (by omega) (by omega)
  have hlm : m * l ≤ m * 40 := Nat.mul_le_mul_left m (by omega)
  have hav : ∀ k, (if k = n then (1 : Int) else a k * a n ^ (n - 1 - k)).natAbs < 2 ^ (m * 1000 + 10) := fun k => by
    by_cases q : k = n
    · rw [if_pos q]
      exact Nat.one_lt_two_pow (by omega)
    · rw [if_neg q, Int.natAbs_mul]
      have h1 := pow_bd (ha n) (n - 1 - k)
      have h2 : m * (n - 1 - k) ≤ m * 998 := Nat.mul_le_mul_left m (by omega)
      have h3 : (a k).natAbs * (a n ^ (n - 1 - k)).natAbs < 2 ^ m * 2 ^ (m * (n - 1 - k) + 1) := Nat.mul_lt_mul'' (ha k) h1
      rw [← Nat.pow_add] at h3
      exact Nat.lt_of_lt_of_le h3 (Nat.pow_le_pow_right (by omega) (by omega))
  have hS := pow_bd (ha n) l
  refine gives_w rfl ?_
  unfold b_powers_of
  refine wS_cut [.sh (.lst (fl (n + 1) a)), .sh (.int l), .sh (.int n), .no, .no, .no] ?_ ?_
  · walk_at "ww"
    refine ⟨rfl, ?_⟩
    rw [show (((fl (n + 1) a).length : Nat) : Int) - 1 = (n : Int) from by rw [fl_len]; omega]
    rfl
  refine wS_cut [.sh (.lst (fl (n + 1) a)), .sh (.int l), .sh (.int n), .no, .no, .no] ?_ ?_
  · walk_at "ww"
    refine if_dec (fun z => by omega) (fun _ => ?_)
    walk_at "ww"
    exact ⟨rfl, rfl⟩
  refine wS_cut [.sh (.lst (fl (n + 1) a)), .sh (.int l), .sh (.int n), .sh (.lst (fl (n * l + 1) L)), .no, .no] ?_ ?_
  · walk_at "ww"
    refine ⟨_, lifted_g n a m (by omega) ha (by omega), ?_⟩
    walk_at "wk"
    · refine ⟨_, power_sums_g n (n * l) _ L (m * 1000 + 10) M (by omega) (by omega) h0 hL hav hM (by omega), ?_⟩
      exact ⟨_, rfl, rfl, rfl, rfl⟩
    · exact mulOk_of (m := 10) (k := 10) (by show (n : Int).natAbs < 1024; omega) (by show (l : Int).natAbs < 1024; omega) (by omega)
  refine wS_cut [.sh (.lst (fl (n + 1) a)), .sh (.int l), .sh (.int n), .sh (.lst (fl (n * l + 1) L)), .ow (.lst (fl (n + 1) fun k => L (l * k))), .no] ?_ ?_
  · walk_at "ww"
    · refine ⟨by rw [rgD_len]; omega, rfl, ?_⟩
      refine lc_w (fl (n + 1) fun k => L (l * k)) (by rw [fl_len, rgD_len]; omega) ?_ rfl ?_
      · intro i d r h1 h2
        obtain ⟨hi, rfl⟩ := rg0_get h1
        obtain ⟨hi2, rfl⟩ := fl_get_inv h2
        refine ⟨_, rfl, ?_⟩
        walk_at "wk"
        · have : l * i ≤ n * l := by rw [Nat.mul_comm n l]; exact Nat.mul_le_mul_left l (by omega)
          refine ⟨_, _, rfl, k_idx (fl_ix (k := l * i) (by rw [Int.natCast_mul]) (by omega)), ?_⟩
          exact ⟨rfl, rfl⟩
        · exact mulOk_of (m := 10) (k := 10) (by show (l : Int).natAbs < 1024; omega) (by show (i : Int).natAbs < 1024; omega) (by omega)
      · exact ⟨_, rfl, rfl, _, rfl, rfl, rfl, rfl⟩
    · exact rng1 (by omega) (by omega)
  walk_at "ww"
  refine ⟨_, from_sums_g n (fun k => L (l * k)) E e M (by omega) hE0 hE (fun k _ => he k) (fun k hk => hM _ (by rw [Nat.mul_comm n l]; exact Nat.mul_le_mul_left l hk)) (by omega), ?_⟩
  walk_at "ww"
  refine ⟨_, _, rfl, k_idx fl_last, ?_⟩
  walk_at "ww"
  refine ⟨_, raised_g (a n) l m (ha n) (by omega) (by omega), ?_⟩
  walk_at "ww"
  refine ⟨_, lowered_g n (fun k => E (n - k)) (a n ^ l) e (m * l + 1) (by omega) (fun k => he _) hS ?_ ?_ hp, ?_⟩
  · have : (m * l + 1) * n ≤ (m * 40 + 1) * 12 := Nat.mul_le_mul (by omega) (by omega)
    omega
  · rw [Nat.sub_self, hE0, Int.one_mul]
    exact Int.pow_ne_zero (Int.pow_ne_zero hA)
  · rfl
end K22

set_option maxHeartbeats 400000
namespace K22
open PySem L2 Ml Pw
def lcN (b : Nat → Int) : Nat → Nat
  | 0 => 1
  | n + 1 => Nat.lcm (lcN b n) (b n).natAbs
theorem lcN_dvd {b : Nat → Int} : ∀ {n k : Nat}, k < n → (b k).natAbs ∣ lcN b n
  | 0, k, h => by omega
  | n + 1, k, h => by
    by_cases q : k = n
    · subst q; exact Nat.dvd_lcm_right _ _
    · exact Nat.dvd_trans (lcN_dvd (n := n) (by omega)) (Nat.dvd_lcm_left _ _)
theorem lcN_least {b : Nat → Int} {U : Nat} : ∀ {n : Nat}, (∀ k, k < n → (b k).natAbs ∣ U) → lcN b n ∣ U
  | 0, _ => Nat.one_dvd _
  | n + 1, h => Nat.lcm_dvd (lcN_least fun k hk => h k (by omega)) (h n (by omega))
theorem integers_m {N : Nat} (n : Nat) (ds : List D) (t b : Nat → Int) (hn : n < 1000) (hl : ds.length = n) (hf : ∀ k, k < n → ∃ d, ds[k]? = some d ∧ Gives (f_fraction N) [d] (.sh (.tup [.int (t k), .int (b k)])))
    (h1 : ∀ i, i ≤ n → (lcN b i).log2 < 13000) (h2 : ∀ k, k < n → (b k).natAbs.log2 < 13000) (h3 : ∀ k, k < n → b k ≠ 0 ∧ (b k).natAbs < 2 ^ 9000) (h4 : ∀ k, k < n → mulOk (t k) ((lcN b n : Int).fdiv (b k)) = true) :
    Gives (f_integers N) [.tup ds] (.sh (.tup [.lst (fl n fun k => t k * (lcN b n : Int).fdiv (b k)), .int (lcN b n : Nat)])) := by
  have sl16 : sizeLine = 16777216 := sizeLine_eq
  obtain ⟨ps, pl, pg⟩ : ∃ ps : List D, ps.length = n ∧ ∀ k, k < n → ps[k]? = some (.tup [.int (t k), .int (b k)]) := by
    refine ⟨(List.range n).map fun k => D.tup [.int (t k), .int (b k)], by simp, fun k h => ?_⟩
    rw [List.getElem?_map, List.getElem?_range h]
    rfl
  have pinv : ∀ k d, ps[k]? = some d → k < n ∧ d = .tup [.int (t k), .int (b k)] := fun k d h => by
    by_cases q : k < n
    · rw [pg k q] at h
      exact ⟨q, (Option.some.inj h).symm⟩
    · rw [List.getElem?_eq_none (by rw [pl]; omega)] at h
      cases h
  refine gives_w rfl ?_
  unfold b_integers
  refine wS_cut [.sh (.tup ds), .ow (.lst ps), .no, .no, .no, .no, .no] ?_ ?_
  · walk_at "ww"
    refine ⟨by omega, rfl, ?_⟩
    refine lc_w ps (by rw [pl, hl]) ?_ rfl ?_
    · intro i d r q1 q2
      obtain ⟨hi, rfl⟩ := pinv i r q2
      obtain ⟨d', h3, h4⟩ := hf i hi
      rw [q1] at h3
      cases h3
      refine ⟨_, rfl, ?_⟩
      walk_at "ww"
      refine ⟨_, h4, ?_⟩
      exact ⟨rfl, rfl⟩
    · exact ⟨_, rfl, rfl, _, rfl, rfl, rfl, rfl⟩
  refine wS_cut [.sh (.tup ds), .ow (.lst ps), .sh (.int 1), .no, .no, .no, .no] ?_ ?_
  · walk_at "ww"
    exact ⟨rfl, rfl⟩
  refine wS_seq (wS_imp (Q := fun f s => f = .nx ∧ ∃ y, s = [.sh (.tup ds), .ow (.lst ps), .sh (.int (lcN b n : Nat)), .no, y, .no, .no] ∧ (y = .no ∨ ∃ d, y = .sh d)) ?_ ?_)
  · walk_at "ww"
    refine loop_w (fun i s => ∃ y, s = [.sh (.tup ds), .lk false (.lst ps), .sh (.int (lcN b i : Nat)), .no, y, .no, .no] ∧ (y = .no ∨ ∃ d, y = .sh d)) ⟨_, rfl, .inl rfl⟩ ?_ ?_
    · rintro i d s hd ⟨y, rfl, hy⟩
      obtain ⟨hi, rfl⟩ := pinv i d hd
      refine ⟨[.sh (.tup ds), .lk false (.lst ps), .sh (.int (lcN b i : Nat)), .sh (.int (t i)), .sh (.int (b i)), .no, .no], ?_, ?_⟩
      · rcases hy with rfl | ⟨d, rfl⟩ <;> rfl
      walk_at "ww"
      refine ⟨_, _, rfl, (show fLcm [.int (lcN b i : Nat), .int (b i)] = some (.v (.int ((Nat.lcm ((lcN b i : Nat) : Int).natAbs (b i).natAbs : Nat) : Int))) from if_pos ⟨by rw [Int.natAbs_natCast]; exact h1 i (by omega), h2 i hi⟩), ?_⟩
      walk_at "ww"
      refine ⟨rfl, .sh (.int (b i)), ?_, .inr ⟨.int (b i), rfl⟩⟩
      rw [Int.natAbs_natCast]
      rfl
    · rintro s3 ⟨y, rfl, hy⟩
      rw [pl]
      exact ⟨_, rfl, rfl, y, rfl, hy⟩
  rintro f s ⟨rfl, y, rfl, hy⟩
  show wS _ _ _
  walk_at "ww"
  refine ⟨by omega, rfl, ?_⟩
  refine lc_w (fl n fun k => t k * (lcN b n : Int).fdiv (b k)) (by rw [fl_len, pl]) ?_ ?_ ?_
  · intro i d r q1 q2
    obtain ⟨hi, rfl⟩ := pinv i d q1
    obtain ⟨_, rfl⟩ := fl_get_inv q2
    refine ⟨_, rfl, ?_⟩
    walk_at "wk"
    · exact ⟨rfl, rfl⟩
    · exact h4 i hi
    · exact (h3 i hi).1
    · exact pyl_small (h3 i hi).2
  · rfl
  · refine ⟨_, rfl, rfl, ?_⟩
    walk_at "ww"
    rfl
/-- parts of the numbers -/
theorem integers_g {N : Nat} (n : Nat) (ds : List D) (x : Nat → Rat) (U : Int) (z : Nat → Int) (hn : n < 1000) (hl : ds.length = n) (hx : ∀ k, k < n → ∃ d, ds[k]? = some d ∧ Num d (x k)) (hU : 0 < U) (hU2 : U.natAbs < 2 ^ 8000) (hz : ∀ k, k < n → (U : Rat) * x k = (z k : Rat)) (hzb : ∀ k, k < n → (z k).natAbs < 2 ^ 8000) :
    ∃ (A : Int) (a : Nat → Int), 0 < A ∧ (∀ k, k < n → ((a k : Int) : Rat) = (A : Rat) * x k) ∧ (∀ k, k < n → (a k).natAbs ≤ (z k).natAbs) ∧ Gives (f_integers N) [.tup ds] (.sh (.tup [.lst (fl n a), .int A])) := by
  have sl16 : sizeLine = 16777216 := sizeLine_eq
  -- the parts
  have hp : ∀ k, ∃ t b : Int, k < n → 0 < b ∧ Int.gcd t b = 1 ∧ x k = (t : Rat) / (b : Rat) ∧ ∃ d, ds[k]? = some d ∧ Gives (f_fraction N) [d] (.sh (.tup [.int t, .int b])) := fun k => by
    by_cases q : k < n
    · obtain ⟨d, h1, h2⟩ := hx k q
      obtain ⟨t, b, g1, g2, g3, g4⟩ := fraction_g (N := N) h2
      exact ⟨t, b, fun _ => ⟨g1, g2, g3, d, h1, g4⟩⟩
    · exact ⟨0, 0, fun h => absurd h q⟩
  let t : Nat → Int := fun k => (hp k).choose
  let b : Nat → Int := fun k => (hp k).choose_spec.choose
  have hk : ∀ k, k < n → 0 < b k ∧ Int.gcd (t k) (b k) = 1 ∧ x k = (t k : Rat) / (b k : Rat) ∧ ∃ d, ds[k]? = some d ∧ Gives (f_fraction N) [d] (.sh (.tup [.int (t k), .int (b k)])) := fun k h => (hp k).choose_spec.choose_spec h
  have hbU : ∀ k, k < n → (b k).natAbs ∣ U.natAbs := fun k h => by
    obtain ⟨g1, g2, g3, _⟩ := hk k h
    have e := hz k h
    rw [g3] at e
    have bn := ratnz (z := b k) (by omega)
    have e2 : (U : Rat) * (t k : Rat) = (z k : Rat) * (b k : Rat) := by grind
    rw [← Rat.intCast_mul, ← Rat.intCast_mul] at e2
    have e3 := Rat.intCast_inj.mp e2
    have d1 : (b k) ∣ U * t k := ⟨z k, by rw [e3, Int.mul_comm]⟩
    have d2 : (b k).natAbs ∣ U.natAbs * (t k).natAbs := by rw [← Int.natAbs_mul]; exact Int.natAbs_dvd_natAbs.mpr d1
    exact Nat.Coprime.dvd_of_dvd_mul_right (by show Nat.gcd _ _ = 1; rw [Nat.gcd_comm]; exact g2) d2
  have lcU : ∀ i, i ≤ n → lcN b i ∣ U.natAbs := fun i hi => lcN_least fun k h => hbU k (by omega)
  have Upos : 0 < U.natAbs := by omega
  have lcpos : ∀ i, i ≤ n → 0 < lcN b i := fun i hi => Nat.pos_of_dvd_of_pos (lcU i hi) Upos
  have lcle : ∀ i, i ≤ n → lcN b i ≤ U.natAbs := fun i hi => Nat.le_of_dvd Upos (lcU i hi)
  have log13 : ∀ c : Nat, c ≤ U.natAbs → c.log2 < 13000 := fun c hc => by
    have := log2_le (a := (c : Int)) (m := 8000) (by rw [Int.natAbs_natCast]; exact Nat.lt_of_le_of_lt hc hU2)
    rw [Int.natAbs_natCast] at this
    omega
  let A : Int := (lcN b n : Nat)
  have Apos : 0 < A := by have := lcpos n (Nat.le_refl n); show (0 : Int) < ((lcN b n : Nat) : Int); omega
  have hbA : ∀ k, k < n → ∃ c : Int, A = b k * c := fun k h => by
    have h1 : (b k).natAbs ∣ lcN b n := lcN_dvd h
    have h2 : b k ∣ A := by
      apply Int.natAbs_dvd_natAbs.mp
      show _ ∣ (((lcN b n : Nat) : Int)).natAbs
      rw [Int.natAbs_natCast]
      exact h1
    exact h2
  let a : Nat → Int := fun k => t k * A.fdiv (b k)
  have ha : ∀ k, k < n → ((a k : Int) : Rat) = (A : Rat) * x k := fun k h => by
    obtain ⟨g1, g2, g3, _⟩ := hk k h
    obtain ⟨c, hc⟩ := hbA k h
    have e : A.fdiv (b k) = c := by rw [hc, Int.mul_fdiv_cancel_left _ (by omega)]
    have bn := ratnz (z := b k) (by omega)
    show ((t k * A.fdiv (b k) : Int) : Rat) = _
    rw [e, g3, Rat.intCast_mul]
    have hc' : (A : Rat) = (b k : Rat) * (c : Rat) := by rw [hc, Rat.intCast_mul]
    rw [hc']
    grind
  have hle : ∀ k, k < n → (a k).natAbs ≤ (z k).natAbs := fun k h => by
    have hAU : A ∣ U := by
      apply Int.natAbs_dvd_natAbs.mp
      show (((lcN b n : Nat) : Int)).natAbs ∣ _
      rw [Int.natAbs_natCast]
      exact lcU n (Nat.le_refl n)
    obtain ⟨c, hc⟩ := hAU
    have e : (z k : Rat) = ((c * a k : Int) : Rat) := by
      rw [← hz k h, Rat.intCast_mul, ha k h, hc, Rat.intCast_mul]
      grind
    have e2 := Rat.intCast_inj.mp e
    have e3 : (z k).natAbs = c.natAbs * (a k).natAbs := by rw [e2]; exact Int.natAbs_mul c (a k)
    rw [e3]
    have cn : c ≠ 0 := fun q => by rw [q, Int.mul_zero] at hc; omega
    exact Nat.le_mul_of_pos_left (a k).natAbs (show 0 < c.natAbs by omega)
  refine ⟨A, a, Apos, ha, hle, ?_⟩
  have hmul : ∀ k, k < n → mulOk (t k) (A.fdiv (b k)) = true := fun k h => by
    have l1 := hle k h
    have l2 := hzb k h
    have q : A.fdiv (b k) ≠ 0 := by
      obtain ⟨c, hc⟩ := hbA k h
      have bp := (hk k h).1
      have e : A.fdiv (b k) = c := by rw [hc, Int.mul_fdiv_cancel_left _ (by omega)]
      rw [e]
      intro z
      rw [z, Int.mul_zero] at hc
      omega
    · have l3 : (t k).natAbs ≤ (a k).natAbs := by
        show _ ≤ (t k * A.fdiv (b k)).natAbs
        rw [Int.natAbs_mul]
        exact Nat.le_mul_of_pos_right _ (by omega)
      have l4 : (A.fdiv (b k)).natAbs < 2 ^ 8000 := by
        obtain ⟨c, hc⟩ := hbA k h
        have bp := (hk k h).1
        have e : A.fdiv (b k) = c := by rw [hc, Int.mul_fdiv_cancel_left _ (by omega)]
        rw [e]
        have e2 : c.natAbs ≤ A.natAbs := by rw [hc, Int.natAbs_mul]; exact Nat.le_mul_of_pos_left _ (by omega)
        have e3 : A.natAbs ≤ U.natAbs := by
          show (((lcN b n : Nat) : Int)).natAbs ≤ _
          rw [Int.natAbs_natCast]
          exact lcle n (Nat.le_refl n)
        omega
      exact mulOk_of (m := 8000) (k := 8000) (by omega) l4 (by omega)
  exact integers_m n ds t b hn hl (fun k h => (hk k h).2.2.2) (fun i hi => log13 _ (lcle i hi)) (fun k h => log13 _ (Nat.le_of_dvd Upos (hbU k h))) (fun k h => ⟨by have := (hk k h).1; omega, Nat.lt_of_le_of_lt (Nat.le_of_dvd Upos (hbU k h)) (Nat.lt_of_lt_of_le hU2 (Nat.pow_le_pow_right (by omega) (by omega)))⟩) hmul
end K22

set_option maxHeartbeats 400000
namespace K22
open PySem L2 Ml Pw
theorem pyl_quot {x y : Int} (h : x.natAbs ≤ 2 ^ 4000 * y.natAbs) : Builtin.divisionGoesByPylong x y = false := by
  unfold Builtin.divisionGoesByPylong
  simp only [Bool.and_eq_false_iff, decide_eq_false_iff_not]
  right
  have key : x.natAbs.log2 ≤ y.natAbs.log2 + 4001 := by
    by_cases z : x.natAbs = 0
    · rw [z]; simp
    · have h1 : y.natAbs < 2 ^ (y.natAbs.log2 + 1) := Nat.lt_log2_self
      have h2 : x.natAbs < 2 ^ (4000 + (y.natAbs.log2 + 1)) := by
        rw [Nat.pow_add]
        refine Nat.lt_of_le_of_lt h (Nat.mul_lt_mul_of_pos_left h1 (Nat.pow_pos (by omega)))
      have := (Nat.log2_lt z).mpr h2
      omega
  by_cases zx : x = 0
  · subst zx
    simp
  · by_cases zy : y = 0
    · subst zy
      exfalso
      apply zx
      simp at h
      exact h
    · rw [if_neg (by simpa using zx), if_neg (by simpa using zy)]
      omega
/-- the numbers behind primitive -/
theorem prim_bd {n : Nat} {v Dl : Nat → Int} {P : Int} (hP : P ≠ 0) (hD : Dl n ≠ 0) (hv : v n ≠ 0) (h : ∀ k, k ≤ n → Dl n * v k = Dl k * P) : ∀ k, k ≤ n → (v k).natAbs ≤ (Dl k).natAbs * (gs v n).natAbs := by
  intro k hk
  have g1 : P.natAbs ∣ (Dl n).natAbs * gl v (n + 1) := gl_mul fun j hj => by
    rw [← Int.natAbs_mul, h j (by omega), Int.natAbs_mul]
    exact Nat.dvd_mul_left _ _
  have gp := gl_pos hv
  have dp : 0 < (Dl n).natAbs := by omega
  have g2 : P.natAbs ≤ (Dl n).natAbs * gl v (n + 1) := Nat.le_of_dvd (Nat.mul_pos dp gp) g1
  have g3 : (gs v n).natAbs = gl v (n + 1) := by
    unfold gs
    split
    · rw [Int.natAbs_neg, Int.natAbs_natCast]
    · rw [Int.natAbs_natCast]
  rw [g3]
  have e : (Dl n).natAbs * (v k).natAbs = (Dl k).natAbs * P.natAbs := by rw [← Int.natAbs_mul, h k hk, Int.natAbs_mul]
  have l : (Dl n).natAbs * (v k).natAbs ≤ (Dl n).natAbs * ((Dl k).natAbs * gl v (n + 1)) := by
    rw [e]
    have := Nat.mul_le_mul_left (Dl k).natAbs g2
    have e2 : (Dl k).natAbs * ((Dl n).natAbs * gl v (n + 1)) = (Dl n).natAbs * ((Dl k).natAbs * gl v (n + 1)) := by
      rw [← Nat.mul_assoc, ← Nat.mul_assoc, Nat.mul_comm (Dl k).natAbs]
    rw [e2] at this
    exact this
  exact Nat.le_of_mul_le_mul_left l dp
theorem chooseI {P : Nat → Rat} (h : ∀ k, isI (P k)) : ∃ f : Nat → Int, ∀ k, ((f k : Int) : Rat) = P k := ⟨fun k => (h k).choose, fun k => ((h k).choose_spec).symm⟩
theorem icast_pow (a : Int) : ∀ n : Nat, ((a ^ n : Int) : Rat) = (a : Rat) ^ n
  | 0 => by simp
  | n + 1 => by rw [Int.pow_succ, Rat.intCast_mul, icast_pow a n, Rat.pow_succ]
/-- powers_of: what it computes -/
theorem pof_main {N : Nat} (n l : Nat) (fs : List Fc) (a : Nat → Int) (Dl : Nat → Int) (hn0 : 1 ≤ n) (hn : n ≤ 12) (hl : 1 ≤ l) (hl2 : l ≤ 40) (ok : ∀ f ∈ fs, okF f) (hdeg : deg fs = n)
    (ha : ∀ k, k ≤ n → ((a (n - k) : Int) : Rat) = eL fs k * (a n : Rat)) (hA : a n ≠ 0) (hab : ∀ k, (a k).natAbs < 2 ^ 2000)
    (hD0 : Dl n ≠ 0) (hD : ∀ k, k ≤ n → ((Dl (n - k) : Int) : Rat) = eL (fs.map (pwF l)) k * (Dl n : Rat)) (hDb : ∀ k, (Dl k).natAbs < 2 ^ 4000) :
    ∃ v : Nat → Int, v n ≠ 0 ∧ (∀ k, k ≤ n → (v k).natAbs < 2 ^ 9000) ∧ (∀ k, k ≤ n → (v k : Rat) / (v n : Rat) = eL (fs.map (pwF l)) (n - k)) ∧ Gives (f_powers_of N) [.lst (fl (n + 1) a), .int l] (.fr (.lst (fl (n + 1) v))) := by
  have hAr : (a n : Rat) ≠ 0 := ratnz hA
  have ok' : ∀ f ∈ fs.map (pwF l), okF f := fun f hf => by
    obtain ⟨g, hg, rfl⟩ := List.mem_map.mp hf
    exact ok_pw hl (ok g hg)
  have deg' : deg (fs.map (pwF l)) = n := by rw [deg_map (g := pwF l) (fun _ => rfl), hdeg]
  -- the lifted numbers
  have lift : ∀ k, 1 ≤ k → k ≤ n → ((a (n - k) * a n ^ (k - 1) : Int) : Rat) = eL fs k * (a n : Rat) ^ k := fun k h1 h2 => by
    obtain ⟨j, rfl⟩ : ∃ j, k = j + 1 := ⟨k - 1, by omega⟩
    rw [Rat.intCast_mul, ha _ h2, icast_pow, Nat.add_sub_cancel, Rat.pow_succ]
    grind
  have hint : ∀ k, isI (eL fs k * (a n : Rat) ^ k) := fun k => by
    by_cases q : k = 0
    · subst q; rw [eL_one]; exact ⟨1, by simp⟩
    · by_cases q2 : k ≤ n
      · exact ⟨_, (lift k (by omega) q2).symm⟩
      · rw [eL_zero ok (by omega)]; exact ⟨0, by simp⟩
  have nw1 := nw_scale (nwL fs) (a n : Rat)
  obtain ⟨e, he⟩ := chooseI hint
  obtain ⟨L1, hL1⟩ := chooseI (isI_sums nw1 hint)
  have ez : ∀ k, n < k → eL fs k * (a n : Rat) ^ k = 0 := fun k hk => by rw [eL_zero ok (by omega)]; grind
  let L : Nat → Int := fun k => if k = 0 then (n : Int) else L1 k
  have LR : ∀ k, 1 ≤ k → ((L k : Int) : Rat) = sL fs k * (a n : Rat) ^ k := fun k hk => by
    show (((if k = 0 then (n : Int) else L1 k) : Int) : Rat) = _
    rw [if_neg (by omega), hL1]
  have hLe : ∀ k, 1 ≤ k → L k = -((if k ≤ n then (k : Int) * e k else 0) + smI (min (n + 1) k - 1) fun i => e (i + 1) * L (k - (i + 1))) := fun k hk => by
    apply Rat.intCast_inj.mp
    rw [LR k hk, Rat.intCast_neg, Rat.intCast_add, smI_cast]
    have r := row_prog nw1 (n := n) ez hk
    have c1 : (((if k ≤ n then (k : Int) * e k else 0 : Int)) : Rat) = if k ≤ n then (k : Rat) * (eL fs k * (a n : Rat) ^ k) else 0 := by
      split
      · rw [Rat.intCast_mul, he, Rat.intCast_natCast]
      · rfl
    have c2 : sm (min (n + 1) k - 1) (fun i => ((e (i + 1) * L (k - (i + 1)) : Int) : Rat)) = sm (min (n + 1) k - 1) (fun i => eL fs (i + 1) * (a n : Rat) ^ (i + 1) * (sL fs (k - (i + 1)) * (a n : Rat) ^ (k - (i + 1)))) := sm_congr fun i hi => by
      rw [Rat.intCast_mul, he, LR _ (by omega)]
    rw [c1, c2]
    exact r
  have eint : ∀ k, 1 ≤ k → k ≤ n → e k = a (n - k) * a n ^ (k - 1) := fun k h1 h2 => by
    apply Rat.intCast_inj.mp
    rw [he, lift k h1 h2]
  have eb : ∀ k, (e k).natAbs < 2 ^ 26100 := fun k => by
    by_cases q : k = 0
    · have e1 : e k = 1 := by
        apply Rat.intCast_inj.mp
        rw [he, q, eL_one]
        simp
      rw [e1]
      exact Nat.one_lt_two_pow (by decide)
    · by_cases q2 : k ≤ n
      · rw [eint k (by omega) q2, Int.natAbs_mul]
        have h1 := pow_bd (hab n) (k - 1)
        have h3 : (a (n - k)).natAbs * (a n ^ (k - 1)).natAbs < 2 ^ 2000 * 2 ^ (2000 * (k - 1) + 1) := Nat.mul_lt_mul'' (hab _) h1
        rw [← Nat.pow_add] at h3
        exact Nat.lt_of_lt_of_le h3 (Nat.pow_le_pow_right (by omega) (by omega))
      · have e1 : e k = 0 := by
          apply Rat.intCast_inj.mp
          rw [he, ez k (by omega)]
          rfl
        rw [e1]
        exact Nat.pow_pos (by omega)
  have hLb := sums_bd hn eb (L := L) rfl hLe
  -- the powers' numbers
  have hint2 := isI_pw ok hint l
  obtain ⟨E, hE⟩ := chooseI hint2
  have nw2 := nw_scale (nwL (fs.map (pwF l))) ((a n : Rat) ^ l)
  have ELk : ∀ k, 1 ≤ k → ((L (l * k) : Int) : Rat) = sL (fs.map (pwF l)) k * ((a n : Rat) ^ l) ^ k := fun k hk => by
    rw [LR (l * k) (Nat.mul_pos (by omega) (by omega)), sL_pw hl hk, rpow_mul]
  have E0 : E 0 = 1 := by
    apply Rat.intCast_inj.mp
    rw [hE, eL_one]
    simp
  have Ez : ∀ k, n < k → E k = 0 := fun k hk => by
    apply Rat.intCast_inj.mp
    rw [hE, eL_zero ok' (by omega)]
    show 0 * _ = ((0 : Int) : Rat)
    have : ((0 : Int) : Rat) = 0 := rfl
    rw [this]
    grind
  have ED : ∀ k, k ≤ n → E k * Dl n = Dl (n - k) * (a n ^ l) ^ k := fun k hk => by
    apply Rat.intCast_inj.mp
    rw [Rat.intCast_mul, Rat.intCast_mul, hE, hD k hk, icast_pow, icast_pow]
    grind
  have Eb : ∀ k, (E k).natAbs < 2 ^ 1000000 := fun k => by
    by_cases q2 : k ≤ n
    · have h := ED k q2
      have h1 : (E k).natAbs ≤ (E k * Dl n).natAbs := by
        rw [Int.natAbs_mul]
        exact Nat.le_mul_of_pos_right _ (by omega)
      have h2 := pow_bd (pow_bd (hab n) l) k
      have h3 : (Dl (n - k)).natAbs * ((a n ^ l) ^ k).natAbs < 2 ^ 4000 * 2 ^ ((2000 * l + 1) * k + 1) := Nat.mul_lt_mul'' (hDb _) h2
      rw [← Nat.pow_add] at h3
      have h4 : (2000 * l + 1) * k ≤ (2000 * 40 + 1) * 12 := Nat.mul_le_mul (by omega) (by omega)
      have h5 : 2 ^ (4000 + ((2000 * l + 1) * k + 1)) ≤ 2 ^ 1000000 := Nat.pow_le_pow_right (by omega) (by omega)
      rw [h, Int.natAbs_mul] at h1
      exact Nat.lt_of_le_of_lt h1 (Nat.lt_of_lt_of_le h3 h5)
    · rw [Ez k (by omega)]
      exact Nat.pow_pos (by omega)
  have hErow : ∀ k, 1 ≤ k → k ≤ n → (k : Int) * E k + (L (l * k) + smI (k - 1) fun i => E (i + 1) * L (l * (k - (i + 1)))) = 0 := fun k h1 h2 => by
    apply Rat.intCast_inj.mp
    have r := row_prog2 nw2 h1
    have c2 : sm (k - 1) (fun i => ((E (i + 1) * L (l * (k - (i + 1))) : Int) : Rat)) = sm (k - 1) (fun i => eL (fs.map (pwF l)) (i + 1) * ((a n : Rat) ^ l) ^ (i + 1) * (sL (fs.map (pwF l)) (k - (i + 1)) * ((a n : Rat) ^ l) ^ (k - (i + 1)))) := sm_congr fun i hi => by
      rw [Rat.intCast_mul, hE, ELk _ (by omega)]
    rw [Rat.intCast_add, Rat.intCast_add, Rat.intCast_mul, smI_cast, c2, hE, ELk k h1, Rat.intCast_natCast]
    exact r
  have hSne : a n ^ l ≠ 0 := Int.pow_ne_zero hA
  have rel : ∀ k, k ≤ n → Dl n * (E (n - k) * (a n ^ l) ^ k) = Dl k * (a n ^ l) ^ n := fun k hk => by
    have h := ED (n - k) (by omega)
    have e1 : n - (n - k) = k := by omega
    have e2 : (a n ^ l) ^ n = (a n ^ l) ^ (n - k) * (a n ^ l) ^ k := by
      rw [← Int.pow_add]
      congr 1
      omega
    rw [e1] at h
    rw [e2]
    grind
  have v0n : E (n - n) * (a n ^ l) ^ n ≠ 0 := by
    rw [Nat.sub_self, E0, Int.one_mul]
    exact Int.pow_ne_zero hSne
  have pb := prim_bd (n := n) (v := fun k => E (n - k) * (a n ^ l) ^ k) (Dl := Dl) (P := (a n ^ l) ^ n) (Int.pow_ne_zero hSne) hD0 v0n rel
  have gne : gs (fun k => E (n - k) * (a n ^ l) ^ k) n ≠ 0 := gs_ne v0n
  have vd : ∀ k, k ≤ n → E (n - k) * (a n ^ l) ^ k = gs (fun k => E (n - k) * (a n ^ l) ^ k) n * (E (n - k) * (a n ^ l) ^ k).fdiv (gs (fun k => E (n - k) * (a n ^ l) ^ k) n) := fun k hk => by
    obtain ⟨c, hc⟩ := gs_dvd (v := fun k => E (n - k) * (a n ^ l) ^ k) hk
    have hc' : E (n - k) * (a n ^ l) ^ k = gs (fun k => E (n - k) * (a n ^ l) ^ k) n * c := hc
    have e1 : (E (n - k) * (a n ^ l) ^ k).fdiv (gs (fun k => E (n - k) * (a n ^ l) ^ k) n) = c := by rw [hc', Int.mul_fdiv_cancel_left _ gne]
    rw [e1]
    exact hc'
  refine ⟨fun k => (E (n - k) * (a n ^ l) ^ k).fdiv (gs (fun k => E (n - k) * (a n ^ l) ^ k) n), ?_, ?_, ?_, ?_⟩
  · intro z
    have h := vd n (Nat.le_refl n)
    have z' : (E (n - n) * (a n ^ l) ^ n).fdiv (gs (fun k => E (n - k) * (a n ^ l) ^ k) n) = 0 := z
    rw [z', Int.mul_zero] at h
    exact v0n h
  · intro k hk
    have h := pb k hk
    have h0 := vd k hk
    have h1 : (E (n - k) * (a n ^ l) ^ k).natAbs = (gs (fun k => E (n - k) * (a n ^ l) ^ k) n).natAbs * ((E (n - k) * (a n ^ l) ^ k).fdiv (gs (fun k => E (n - k) * (a n ^ l) ^ k) n)).natAbs := by
      rw [← Int.natAbs_mul, ← h0]
    have h2 : (E (n - k) * (a n ^ l) ^ k).natAbs ≤ (Dl k).natAbs * (gs (fun k => E (n - k) * (a n ^ l) ^ k) n).natAbs := h
    rw [h1, Nat.mul_comm (Dl k).natAbs] at h2
    have h3 := Nat.le_of_mul_le_mul_left h2 (by omega)
    exact Nat.lt_of_le_of_lt h3 (Nat.lt_of_lt_of_le (hDb k) (Nat.pow_le_pow_right (by omega) (by omega)))
  · intro k hk
    have gr := ratnz gne
    have h1 := congrArg (fun z : Int => (z : Rat)) (vd k hk)
    have h2 := congrArg (fun z : Int => (z : Rat)) (vd n (Nat.le_refl n))
    simp only [Rat.intCast_mul, hE, icast_pow] at h1 h2
    rw [Nat.sub_self, eL_one] at h2
    have e2 : ((a n : Rat) ^ l) ^ n = ((a n : Rat) ^ l) ^ (n - k) * ((a n : Rat) ^ l) ^ k := by
      rw [← rpow_add]
      congr 1
      omega
    have vn : (((E (n - n) * (a n ^ l) ^ n).fdiv (gs (fun k => E (n - k) * (a n ^ l) ^ k) n) : Int) : Rat) ≠ 0 := ratnz (by
      intro z
      have h := vd n (Nat.le_refl n)
      rw [z, Int.mul_zero] at h
      exact v0n h)
    rw [Nat.sub_self] at vn
    generalize (((E (n - k) * (a n ^ l) ^ k).fdiv (gs (fun k => E (n - k) * (a n ^ l) ^ k) n) : Int) : Rat) = p at h1 ⊢
    show p / (((E (n - n) * (a n ^ l) ^ n).fdiv (gs (fun k => E (n - k) * (a n ^ l) ^ k) n) : Int) : Rat) = _
    rw [Nat.sub_self]
    generalize (((E 0 * (a n ^ l) ^ n).fdiv (gs (fun k => E (n - k) * (a n ^ l) ^ k) n) : Int) : Rat) = r at h2 vn ⊢
    grind
  · have av_e : ∀ k, 1 ≤ k → k ≤ n → (if n - k = n then (1 : Int) else a (n - k) * a n ^ (n - 1 - (n - k))) = e k := fun k h1 h2 => by
      rw [if_neg (by omega), eint k h1 h2]
      congr 2
      omega
    have hL' : ∀ k, 1 ≤ k → k ≤ n * l → L k = -((if k ≤ n then (k : Int) * (if n - k = n then 1 else a (n - k) * a n ^ (n - 1 - (n - k))) else 0) + smI (min (n + 1) k - 1) fun i => (if n - (i + 1) = n then 1 else a (n - (i + 1)) * a n ^ (n - 1 - (n - (i + 1)))) * L (k - (i + 1))) := fun k h1 h2 => by
      rw [hLe k h1]
      have c1 : (if k ≤ n then (k : Int) * e k else 0) = if k ≤ n then (k : Int) * (if n - k = n then 1 else a (n - k) * a n ^ (n - 1 - (n - k))) else 0 := by
        by_cases q : k ≤ n
        · rw [if_pos q, if_pos q, av_e k h1 q]
        · rw [if_neg q, if_neg q]
      have c2 : ∀ j, j ≤ min (n + 1) k - 1 → (smI j fun i => e (i + 1) * L (k - (i + 1))) = smI j fun i => (if n - (i + 1) = n then 1 else a (n - (i + 1)) * a n ^ (n - 1 - (n - (i + 1)))) * L (k - (i + 1)) := by
        intro j
        induction j with
        | zero => intro _; rfl
        | succ j ih =>
          intro hj
          simp only [smI]
          rw [ih (by omega), av_e (j + 1) (by omega) (by omega)]
      rw [c1, c2 _ (Nat.le_refl _)]
    have nl : n * l ≤ 12 * 40 := Nat.mul_le_mul hn hl2
    refine powers_of_g n l a L E 2000 12600000 1000000 hn0 hn hl hl2 hab (by omega) rfl hL' (fun k hk => ?_) (by omega) E0 hErow Eb (by omega) hA fun k hk => pyl_quot (Nat.le_trans (pb k hk) (Nat.mul_le_mul_right _ (Nat.le_of_lt (hDb k))))
    refine Nat.lt_of_lt_of_le (hLb k) (Nat.pow_le_pow_right (by omega) ?_)
    have : (26100 + 10) * k ≤ (26100 + 10) * 480 := Nat.mul_le_mul_left _ (by omega)
    omega
end K22

set_option maxHeartbeats 400000
namespace K22
open PySem L2 Ml Pw
/-- powers: the polynomial of the powers of the roots -/
theorem powers_g {N : Nat} (n l : Nat) (fs : List Fc) (ds : List D) (x : Nat → Rat) (U : Int) (z Dl : Nat → Int) (hn : n ≤ 12) (hl : 1 ≤ l) (hl2 : l ≤ 40) (ok : ∀ f ∈ fs, okF f) (hdeg : deg fs = n)
    (hlen : ds.length = n + 1) (hx : ∀ k, k < n + 1 → ∃ d, ds[k]? = some d ∧ Num d (x k)) (hU : 0 < U) (hU2 : U.natAbs < 2 ^ 2000) (hz : ∀ k, k < n + 1 → (U : Rat) * x k = (z k : Rat)) (hzb : ∀ k, k < n + 1 → (z k).natAbs < 2 ^ 2000)
    (hxn : x n ≠ 0) (hxe : ∀ k, k ≤ n → x (n - k) = eL fs k * x n) (hD0 : Dl n ≠ 0) (hD : ∀ k, k ≤ n → ((Dl (n - k) : Int) : Rat) = eL (fs.map (pwF l)) k * (Dl n : Rat)) (hDb : ∀ k, (Dl k).natAbs < 2 ^ 4000) :
    ∃ es : List D, es.length = n + 1 ∧ (∀ k, k < n + 1 → ∃ d, es[k]? = some d ∧ NumS d (eL (fs.map (pwF l)) (n - k))) ∧ Gives (f_powers N) [.tup ds, .int l] (.sh (.tup es)) := by
  have big : (2 : Nat) ^ 2000 ≤ 2 ^ 8000 := Nat.pow_le_pow_right (by omega) (by omega)
  obtain ⟨A, a0, hA, ha, hab, gi⟩ := integers_g (N := N) (n + 1) ds x U z (by omega) hlen hx hU (Nat.lt_of_lt_of_le hU2 big) hz (fun k hk => Nat.lt_of_lt_of_le (hzb k hk) big)
  let a : Nat → Int := fun k => if k < n + 1 then a0 k else 0
  have aeq : fl (n + 1) a0 = fl (n + 1) a := fl_congr fun k hk => (if_pos hk).symm
  have ak : ∀ k, k < n + 1 → a k = a0 k := fun k hk => if_pos hk
  have abd : ∀ k, (a k).natAbs < 2 ^ 2000 := fun k => by
    by_cases q : k < n + 1
    · rw [ak k q]
      exact Nat.lt_of_le_of_lt (hab k q) (hzb k q)
    · have e : a k = 0 := if_neg q
      rw [e]
      exact Nat.pow_pos (by omega)
  have Ar := ratnz (z := A) (by omega)
  have an : a n ≠ 0 := fun q => by
    have h := ha n (by omega)
    rw [← ak n (by omega), q] at h
    have e0 : ((0 : Int) : Rat) = 0 := rfl
    rw [e0] at h
    apply hxn
    grind
  have hae : ∀ k, k ≤ n → ((a (n - k) : Int) : Rat) = eL fs k * (a n : Rat) := fun k hk => by
    rw [ak _ (by omega), ak n (by omega), ha _ (by omega), ha _ (by omega), hxe k hk]
    grind
  -- the last step, from what powers_of gives
  have fin_ : ∀ v : Nat → Int, Gives (f_powers_of N) [.lst (fl (n + 1) a), .int l] (.fr (.lst (fl (n + 1) v))) → v n ≠ 0 → (v n).natAbs < 2 ^ 9000 → (∀ k, k ≤ n → (v k : Rat) / (v n : Rat) = eL (fs.map (pwF l)) (n - k)) →
      ∃ es : List D, es.length = n + 1 ∧ (∀ k, k < n + 1 → ∃ d, es[k]? = some d ∧ NumS d (eL (fs.map (pwF l)) (n - k))) ∧ Gives (f_powers N) [.tup ds, .int l] (.sh (.tup es)) := fun v gp v0 vb ve => by
    obtain ⟨es, h1, h2, h3⟩ := monic_g (N := N) n v (by omega) v0 vb
    refine ⟨es, h1, fun k hk => ?_, ?_⟩
    · obtain ⟨d, g1, g2⟩ := h2 k hk
      rw [ve k (by omega)] at g2
      exact ⟨d, g1, g2⟩
    · refine gives_w rfl ?_
      unfold b_powers
      walk_at "ww"
      refine ⟨_, bounded_g ds 12 (by omega), ?_⟩
      walk_at "ww"
      refine if_dec (fun q => by omega) (fun _ => ?_)
      walk_at "ww"
      refine ⟨_, gi, ?_⟩
      rw [aeq]
      walk_at "ww"
      refine ⟨_, gp, ?_⟩
      walk_at "ww"
      exact ⟨_, h3, rfl⟩
  by_cases n0 : n = 0
  · subst n0
    refine fin_ (fun _ => 1) (powers_of_0 a l) (by omega) (Nat.one_lt_two_pow (by omega)) fun k hk => ?_
    have e : 0 - k = 0 := by omega
    rw [e, eL_one]
    have e1 : ((1 : Int) : Rat) = 1 := rfl
    rw [e1]
    grind
  · obtain ⟨v, v0, vb, ve, gp⟩ := pof_main (N := N) n l fs a Dl (by omega) hn hl hl2 ok hdeg hae an abd hD0 hD hDb
    exact fin_ v gp v0 (vb n (Nat.le_refl n)) ve
end K22

set_option maxHeartbeats 400000
namespace K22
open PySem L2 Ml Pw
theorem k_neT {a b c d : Int} : fNe [.tup [.int a, .int b], .tup [.int c, .int d]] = some (.v (.bl (!(decide (a = c) && (decide (b = d) && true))))) := by
  simp only [fNe, D.py, D.pyL]
  rw [if_pos ⟨by rfl, by rfl⟩]
  rfl
/-- a told number, its parts small -/
theorem pair_g {N : Nat} {d : D} {x : Rat} (P Q : Int) (h : NumS d x) (hP : P ≠ 0) (hx : (P : Rat) * x = (Q : Rat)) (hN : P.natAbs < N) (hb : P.natAbs < 2 ^ 9000) : ∃ t b : Int, 0 < b ∧ b.natAbs ≤ P.natAbs ∧ t.natAbs ≤ Q.natAbs ∧ t * P = Q * b ∧ Gives (f_law_pair N) [d] (.sh (.tup [.int t, .int b])) := by
  cases h with
  | int z =>
    have e : P * z = Q := by
      apply Rat.intCast_inj.mp
      rw [Rat.intCast_mul, hx]
    refine ⟨z, 1, by omega, by omega, ?_, by rw [← e, Int.mul_one, Int.mul_comm], ?_⟩
    · rw [← e, Int.natAbs_mul]
      exact Nat.le_mul_of_pos_left _ (by omega)
    · refine gives_w rfl ?_
      unfold b_law_pair
      walk_at "ww"
      refine ⟨_, is_int_g z, ?_⟩
      walk_at "ww"
      rfl
  | rat n d h1 h2 =>
    have dr := ratnz (z := d) (by omega)
    have e : n * P = Q * d := by
      apply Rat.intCast_inj.mp
      rw [Rat.intCast_mul, Rat.intCast_mul, ← hx]
      grind
    have dP : d.natAbs ∣ P.natAbs := by
      have d1 : d ∣ n * P := ⟨Q, by rw [e, Int.mul_comm]⟩
      have d2 : d.natAbs ∣ n.natAbs * P.natAbs := by rw [← Int.natAbs_mul]; exact Int.natAbs_dvd_natAbs.mpr d1
      exact Nat.Coprime.dvd_of_dvd_mul_left (by show Nat.gcd _ _ = 1; rw [Nat.gcd_comm]; exact h2) d2
    have nQ : n.natAbs ∣ Q.natAbs := by
      have d1 : n ∣ Q * d := ⟨P, e.symm⟩
      have d2 : n.natAbs ∣ Q.natAbs * d.natAbs := by rw [← Int.natAbs_mul]; exact Int.natAbs_dvd_natAbs.mpr d1
      exact Nat.Coprime.dvd_of_dvd_mul_right (by show Nat.gcd _ _ = 1; exact h2) d2
    have dle : d.natAbs ≤ P.natAbs := Nat.le_of_dvd (by omega) dP
    have nle : n.natAbs ≤ Q.natAbs := by
      by_cases q : Q = 0
      · have : n * P = 0 := by rw [e, q, Int.zero_mul]
        rcases Int.mul_eq_zero.mp this with z | z
        · rw [z]; simp
        · exact absurd z hP
      · exact Nat.le_of_dvd (by omega) nQ
    refine ⟨n, d, by omega, dle, nle, e, ?_⟩
    obtain ⟨n', d', p1, p2, p3, p4, g⟩ := low_g (N := N) n d (by omega) (by omega) (Nat.lt_of_le_of_lt dle hb)
    have ed : d' = d := by
      have a1 : d'.natAbs ∣ d.natAbs := by
        have d1 : d' ∣ n' * d := ⟨n, by rw [← p3, Int.mul_comm]⟩
        have d2 : d'.natAbs ∣ n'.natAbs * d.natAbs := by rw [← Int.natAbs_mul]; exact Int.natAbs_dvd_natAbs.mpr d1
        exact Nat.Coprime.dvd_of_dvd_mul_left (by show Nat.gcd _ _ = 1; rw [Nat.gcd_comm]; exact p2) d2
      have a2 : d.natAbs ∣ d'.natAbs := by
        have d1 : d ∣ n * d' := ⟨n', by rw [p3, Int.mul_comm]⟩
        have d2 : d.natAbs ∣ n.natAbs * d'.natAbs := by rw [← Int.natAbs_mul]; exact Int.natAbs_dvd_natAbs.mpr d1
        exact Nat.Coprime.dvd_of_dvd_mul_left (by show Nat.gcd _ _ = 1; rw [Nat.gcd_comm]; exact h2) d2
      have := Nat.dvd_antisymm a1 a2
      omega
    have en : n' = n := by
      rw [ed] at p3
      exact (Int.eq_of_mul_eq_mul_right (by omega) p3).symm
    subst ed
    subst en
    refine gives_w rfl ?_
    unfold b_law_pair ratD
    walk_at "ww"
    refine ⟨_, is_int_i _ _, ?_⟩
    walk_at "ww"
    refine ⟨_, is_int_g _, ?_⟩
    walk_at "ww"
    refine ⟨_, is_int_g _, ?_⟩
    walk_at "ww"
    refine if_dec (fun q => by omega) (fun _ => ?_)
    walk_at "ww"
    refine ⟨_, g, ?_⟩
    walk_at "ww"
    have ev : PyData.eqv (.tuple [.int n', .int d']) (.tuple [.int n', .int d']) = (decide (n' = n') && (decide (d' = d') && true)) := rfl
    refine if_cf (by rw [ev]; simp) ?_
    walk_at "ww"
    rfl
/-- the law's look at what was told -/
theorem same_g {N : Nat} (n : Nat) (es : List D) (x : Nat → Rat) (c : Nat → Int) (P : Int) (hn : n < 1000) (hl : es.length = n) (hx : ∀ k, k < n → ∃ d, es[k]? = some d ∧ NumS d (x k)) (hP : P ≠ 0) (hc : ∀ k, k < n → (P : Rat) * x k = (c k : Rat)) (hcb : ∀ k, k < n → (c k).natAbs < 2 ^ 4000) (hPb : P.natAbs < 2 ^ 4000) (hN : P.natAbs < N) :
    Gives (f_law_same_poly N) [.tup es, .lst (fl n c), .int P] (.sh (.bl true)) := by
  have sl16 : sizeLine = 16777216 := sizeLine_eq
  have zl : (zipD es (fl n c)).length = n := by simp [zipD, hl, fl_len]
  refine gives_w rfl ?_
  unfold b_law_same_poly
  refine wS_cut [.sh (.tup es), .sh (.lst (fl n c)), .sh (.int P), .no, .no, .no] ?_ ?_
  · walk_at "ww"
    rw [hl, fl_len]
    refine if_decn (fun q => absurd rfl q) (fun _ => ?_)
    walk_at "ww"
    exact ⟨rfl, rfl⟩
  refine wS_cut [.sh (.tup es), .sh (.lst (fl n c)), .sh (.int P), .no, .no, .no] ?_ ?_
  · walk_at "ww"
    refine loop_w (fun i s => s = [.sh (.tup es), .sh (.lst (fl n c)), .sh (.int P), .no, .no, .no]) rfl ?_ ?_
    · rintro i d s hd rfl
      obtain ⟨u, v, h1, h2, rfl⟩ := zipD_get hd
      obtain ⟨hi, rfl⟩ := fl_get_inv h2
      obtain ⟨d', h3, h4⟩ := hx i hi
      rw [h1] at h3
      cases h3
      obtain ⟨t, b, b0, bP, tQ, e, g⟩ := pair_g (N := N) P (c i) h4 hP (hc i hi) hN (Nat.lt_of_lt_of_le hPb (Nat.pow_le_pow_right (by omega) (by omega)))
      refine ⟨_, rfl, ?_⟩
      walk_at "ww"
      refine ⟨_, g, ?_⟩
      walk_at "wk"
      · rw [e]
        refine if_decn (fun q => absurd rfl q) (fun _ => ?_)
        walk_at "ww"
        exact ⟨rfl, rfl⟩
      · exact mulOk_of (m := 4000) (k := 4000) (hcb i hi) (by omega) (by omega)
      · exact mulOk_of (m := 4000) (k := 4000) (Nat.lt_of_le_of_lt tQ (hcb i hi)) hPb (by omega)
    · rintro s3 rfl
      exact ⟨_, rfl, rfl, rfl⟩
  walk_at "ww"
  rfl
theorem lmonic_g {N : Nat} (n : Nat) (es : List D) (x : Nat → Rat) (c : Nat → Int) (hn : n < 999) (hl : es.length = n + 1) (hx : ∀ k, k < n + 1 → ∃ d, es[k]? = some d ∧ NumS d (x k)) (hP : c n ≠ 0) (hc : ∀ k, k < n + 1 → (c n : Rat) * x k = (c k : Rat)) (hcb : ∀ k, k < n + 1 → (c k).natAbs < 2 ^ 4000) (hN : (c n).natAbs < N) :
    Gives (f_law_monic N) [.tup es, .lst (fl (n + 1) c)] (.sh (.bl true)) := by
  refine gives_w rfl ?_
  unfold b_law_monic
  walk_at "ww"
  refine ⟨_, _, rfl, k_idx fl_last, ?_⟩
  walk_at "ww"
  exact ⟨_, same_g (n + 1) es x c (c n) (by omega) hl hx hP hc hcb (hcb n (by omega)) hN, rfl⟩
end K22

set_option maxHeartbeats 400000
namespace K22
open PySem L2 Ml Pw
/-- a whole polynomial of degree n whose numbers by the leading one are e -/
structure Pol (n : Nat) (a : Nat → Int) (e : Nat → Rat) : Prop where
  lead : a n ≠ 0
  rel : ∀ k, k ≤ n → ((a (n - k) : Int) : Rat) = e k * (a n : Rat)
  out : ∀ k, n < k → a k = 0
  ez : ∀ k, n < k → e k = 0
theorem row_rel {na nb : Nat} {a b : Nat → Int} {ea eb : Nat → Rat} (A : Pol na a ea) (B : Pol nb b eb) : ∀ k, k ≤ na + nb → ((rowS a b (na + 1) (na + nb - k) : Int) : Rat) = cv ea eb k * ((a na : Rat) * (b nb : Rat)) := fun k hk => by
  unfold rowS
  rw [smI_cast, sm_rev]
  let h : Nat → Rat := fun i => if i ≤ k then ea i * eb (k - i) else 0
  have p : sm (na + 1) (fun i => (((if na - i ≤ na + nb - k then a (na - i) * b (na + nb - k - (na - i)) else 0 : Int)) : Rat)) = sm (na + 1) (fun i => ((a na : Rat) * (b nb : Rat)) * h i) := sm_congr fun i hi => by
    by_cases q : na - i ≤ na + nb - k
    · rw [if_pos q, Rat.intCast_mul, A.rel i (by omega)]
      by_cases q2 : i ≤ k
      · have e1 : na + nb - k - (na - i) = nb - (k - i) := by omega
        have hh : h i = ea i * eb (k - i) := if_pos q2
        rw [e1, B.rel (k - i) (by omega), hh]
        grind
      · have hh : h i = 0 := if_neg q2
        rw [B.out _ (by omega), hh]
        have e0 : ((0 : Int) : Rat) = 0 := rfl
        rw [e0]
        grind
    · rw [if_neg q]
      have hh : h i = ea i * eb (k - i) := if_pos (by omega)
      rw [hh, B.ez (k - i) (by omega)]
      have e0 : ((0 : Int) : Rat) = 0 := rfl
      rw [e0]
      grind
  rw [p, sm_mul]
  have hz1 : ∀ i, na + 1 ≤ i → h i = 0 := fun i hi => by
    show (if i ≤ k then ea i * eb (k - i) else 0) = 0
    split
    · rw [A.ez i (by omega)]; grind
    · rfl
  have hz2 : ∀ i, k + 1 ≤ i → h i = 0 := fun i hi => if_neg (by omega)
  have c : sm (na + 1) h = cv ea eb k := by
    have c1 : cv ea eb k = sm (k + 1) h := by
      unfold cv
      exact sm_congr fun i hi => (if_pos (by omega)).symm
    rw [c1]
    by_cases q : na ≤ k
    · exact (sm_trunc (by omega) hz1).symm
    · exact sm_trunc (by omega) hz2
  rw [c]
  grind
theorem row_out {na nb : Nat} {a b : Nat → Int} (hb : ∀ k, nb < k → b k = 0) {k : Nat} (hk : na + nb < k) : rowS a b (na + 1) k = 0 := by
  unfold rowS
  have key : ∀ j, j ≤ na + 1 → (smI j fun i => if i ≤ k then a i * b (k - i) else 0) = 0 := by
    intro j
    induction j with
    | zero => intro _; rfl
    | succ j ih =>
      intro hj
      simp only [smI]
      rw [ih (by omega)]
      split
      · rw [hb (k - j) (by omega)]; simp
      · rfl
  exact key _ (Nat.le_refl _)
theorem Pol.mul {na nb : Nat} {a b : Nat → Int} {ea eb : Nat → Rat} (A : Pol na a ea) (B : Pol nb b eb) (ha : ea 0 = 1) (hb : eb 0 = 1) : Pol (na + nb) (rowS a b (na + 1)) (cv ea eb) := by
  have l : ((rowS a b (na + 1) (na + nb) : Int) : Rat) = (a na : Rat) * (b nb : Rat) := by
    have := row_rel A B 0 (by omega)
    rw [Nat.sub_zero] at this
    rw [this]
    have : cv ea eb 0 = 1 := by simp [cv, sm, ha, hb] <;> grind
    rw [this]
    grind
  refine ⟨fun z => ?_, fun k hk => ?_, fun k hk => row_out B.out hk, fun k hk => cv_zero A.ez B.ez hk⟩
  · rw [z] at l
    have h1 := ratnz A.lead
    have h2 := ratnz B.lead
    have e0 : ((0 : Int) : Rat) = 0 := rfl
    rw [e0] at l
    have := Rat.mul_eq_zero.mp l.symm
    rcases this with q | q
    · exact h1 q
    · exact h2 q
  · rw [l]
    exact row_rel A B k hk
/-! ### the law's factors -/
structure Fk where
  lin : Bool
  r : Int
  q : Int
  u : Int
def Fk.dg (f : Fk) : Nat := if f.lin then 1 else 2
def Fk.d (f : Fk) : D := .tup [.tup [.int (f.dg : Nat), .int f.r, .int f.q], .int f.u]
def Fk.kd (f : Fk) : D := .tup [.int (f.dg : Nat), .int f.r, .int f.q]
structure Fk.ok (f : Fk) : Prop where
  r : f.r.natAbs < 8
  q : f.q.natAbs < 32
  u : 0 < f.u ∧ f.u < 8
  z : f.lin = true → f.q = 0
def Fk.c (f : Fk) : Fc := ⟨(f.r : Rat) / (f.u : Rat), (f.q : Rat) / ((f.u : Rat) * (f.u : Rat)), f.dg⟩
theorem Fk.okc {f : Fk} (h : f.ok) : okF f.c := by
  unfold okF Fk.c Fk.dg
  cases e : f.lin with
  | true =>
    left
    refine ⟨rfl, ?_⟩
    show (f.q : Rat) / _ = 0
    rw [h.z e]
    have e0 : ((0 : Int) : Rat) = 0 := rfl
    rw [e0, Rat.div_def]
    grind
  | false => exact .inr rfl
/-- the l-th power's polynomial (l = 1: the factor's own) -/
def Fk.pw (f : Fk) (l : Nat) : Nat → Int := fun k => if f.lin then (if k = 0 then -(f.r ^ l) else if k = 1 then f.u ^ l else 0) else (if k = 0 then f.q ^ l else if k = 1 then -(trI f.r f.q l) * f.u ^ l else if k = 2 then f.u ^ l * f.u ^ l else 0)
theorem tr_cast (t q : Int) : ∀ n, ((trI t q n : Int) : Rat) = tr (t : Rat) (q : Rat) n
  | 0 => rfl
  | 1 => rfl
  | n + 2 => by
    show ((t * trI t q (n + 1) - q * trI t q n : Int) : Rat) = (t : Rat) * tr t q (n + 1) - (q : Rat) * tr t q n
    rw [Rat.intCast_sub, Rat.intCast_mul, Rat.intCast_mul, tr_cast t q (n + 1), tr_cast t q n]
theorem tr_zero (t : Rat) : ∀ n, tr t 0 (n + 1) = t ^ (n + 1)
  | 0 => by simp [tr] <;> grind
  | n + 1 => by
    show t * tr t 0 (n + 1) - 0 * tr t 0 n = t ^ (n + 2)
    rw [tr_zero t n, Rat.pow_succ t (n + 1)]
    grind
theorem Fk.pol {f : Fk} (h : f.ok) {l : Nat} (hl : 1 ≤ l) : Pol f.dg (f.pw l) (fac (pwF l f.c).t (pwF l f.c).q) := by
  have u0 : f.u ≠ 0 := by have := h.u; omega
  have ur := ratnz u0
  have ul : f.u ^ l ≠ 0 := Int.pow_ne_zero u0
  have ulr := ratnz ul
  obtain ⟨m, rfl⟩ : ∃ m, l = m + 1 := ⟨l - 1, by omega⟩
  have sc : tr ((f.r : Rat) / (f.u : Rat)) ((f.q : Rat) / ((f.u : Rat) * (f.u : Rat))) (m + 1) * (f.u : Rat) ^ (m + 1) = tr (f.r : Rat) (f.q : Rat) (m + 1) := by
    have e1 : (f.r : Rat) = (f.u : Rat) * ((f.r : Rat) / (f.u : Rat)) := by grind
    have e2 : (f.q : Rat) = (f.u : Rat) ^ 2 * ((f.q : Rat) / ((f.u : Rat) * (f.u : Rat))) := by
      have : (f.u : Rat) ^ 2 = (f.u : Rat) * (f.u : Rat) := by rw [Rat.pow_succ, Rat.pow_succ]; simp <;> grind
      rw [this]
      grind
    have := tr_sc (f.u : Rat) ((f.r : Rat) / (f.u : Rat)) ((f.q : Rat) / ((f.u : Rat) * (f.u : Rat))) (m + 1)
    rw [← e1, ← e2] at this
    rw [this]
    grind
  have sq : ((f.q : Rat) / ((f.u : Rat) * (f.u : Rat))) ^ (m + 1) * ((f.u : Rat) ^ (m + 1) * (f.u : Rat) ^ (m + 1)) = (f.q : Rat) ^ (m + 1) := by
    rw [← rmul_pow, ← rmul_pow]
    congr 1
    grind
  have okp := ok_pw (l := m + 1) (by omega) (Fk.okc h)
  have ez : ∀ k, f.dg < k → fac (pwF (m + 1) f.c).t (pwF (m + 1) f.c).q k = 0 := fun k hk => fac_zero okp (k := k) hk
  cases e : f.lin with
  | true =>
    have dg : f.dg = 1 := by unfold Fk.dg; rw [e]; rfl
    have p0 : f.pw (m + 1) 0 = -(f.r ^ (m + 1)) := by unfold Fk.pw; rw [e]; rfl
    have p1 : f.pw (m + 1) 1 = f.u ^ (m + 1) := by unfold Fk.pw; rw [e]; rfl
    rw [dg] at ez ⊢
    refine ⟨by rw [p1]; exact ul, fun k hk => ?_, fun k hk => ?_, ez⟩
    · match k, hk with
      | 0, _ =>
        rw [Nat.sub_zero, p1]
        show _ = 1 * _
        grind
      | 1, _ =>
        rw [Nat.sub_self, p0, p1, Rat.intCast_neg, icast_pow, icast_pow]
        show _ = -(tr ((f.r : Rat) / (f.u : Rat)) ((f.q : Rat) / ((f.u : Rat) * (f.u : Rat))) (m + 1)) * _
        have z : tr (f.r : Rat) (f.q : Rat) (m + 1) = (f.r : Rat) ^ (m + 1) := by
          rw [h.z e]
          exact tr_zero _ m
        rw [z] at sc
        grind
    · unfold Fk.pw
      rw [e, if_pos rfl, if_neg (by omega), if_neg (by omega)]
  | false =>
    have dg : f.dg = 2 := by unfold Fk.dg; rw [e]; rfl
    have p0 : f.pw (m + 1) 0 = f.q ^ (m + 1) := by unfold Fk.pw; rw [e]; rfl
    have p1 : f.pw (m + 1) 1 = -(trI f.r f.q (m + 1)) * f.u ^ (m + 1) := by unfold Fk.pw; rw [e]; rfl
    have p2 : f.pw (m + 1) 2 = f.u ^ (m + 1) * f.u ^ (m + 1) := by unfold Fk.pw; rw [e]; rfl
    rw [dg] at ez ⊢
    refine ⟨by rw [p2]; exact Int.mul_ne_zero ul ul, fun k hk => ?_, fun k hk => ?_, ez⟩
    · match k, hk with
      | 0, _ =>
        rw [Nat.sub_zero, p2]
        show _ = 1 * _
        grind
      | 1, _ =>
        show ((f.pw (m + 1) 1 : Int) : Rat) = -(tr ((f.r : Rat) / (f.u : Rat)) ((f.q : Rat) / ((f.u : Rat) * (f.u : Rat))) (m + 1)) * _
        rw [p1, p2, Rat.intCast_mul, Rat.intCast_neg, Rat.intCast_mul, tr_cast, icast_pow, ← sc]
        grind
      | 2, _ =>
        show ((f.pw (m + 1) 0 : Int) : Rat) = ((f.q : Rat) / ((f.u : Rat) * (f.u : Rat))) ^ (m + 1) * _
        rw [p0, p2, Rat.intCast_mul, icast_pow, icast_pow, ← sq]
    · unfold Fk.pw
      rw [e, if_neg (by decide), if_neg (by omega), if_neg (by omega), if_neg (by omega)]
end K22

set_option maxHeartbeats 400000
namespace K22
open PySem L2 Ml Pw
theorem ip1 (a : Int) : a ^ 1 = a := by rw [Int.pow_succ, Int.pow_zero, Int.one_mul]
theorem knot_poly_g {N : Nat} (f : Fk) (h : f.ok) : Gives (f_law_knot_poly N) [f.kd, .int f.u] (.fr (.lst (fl (f.dg + 1) (f.pw 1)))) := by
  have hr := h.r
  have hu := h.u
  cases e : f.lin with
  | true =>
    have dg : f.dg = 1 := by unfold Fk.dg; rw [e]; rfl
    have p0 : f.pw 1 0 = -f.r := by
      unfold Fk.pw
      rw [e, if_pos rfl, if_pos rfl, ip1]
    have p1 : f.pw 1 1 = f.u := by
      unfold Fk.pw
      rw [e, if_pos rfl, if_neg (by decide), if_pos rfl, ip1]
    have el : fl (f.dg + 1) (f.pw 1) = [.int (-f.r), .int f.u] := by rw [dg, ← p0, ← p1]; rfl
    rw [el]
    unfold Fk.kd
    rw [dg]
    refine gives_w rfl ?_
    unfold b_law_knot_poly
    walk_at "ww"
    rfl
  | false =>
    have dg : f.dg = 2 := by unfold Fk.dg; rw [e]; rfl
    have p0 : f.pw 1 0 = f.q := by
      unfold Fk.pw
      rw [e, if_neg (by decide), if_pos rfl, ip1]
    have p1 : f.pw 1 1 = -f.r * f.u := by
      unfold Fk.pw
      rw [e, if_neg (by decide), if_neg (by decide), if_pos rfl]
      have t1 : trI f.r f.q 1 = f.r := rfl
      rw [t1, ip1]
    have p2 : f.pw 1 2 = f.u * f.u := by
      unfold Fk.pw
      rw [e, if_neg (by decide), if_neg (by decide), if_neg (by decide), if_pos rfl, ip1]
    have el : fl (f.dg + 1) (f.pw 1) = [.int f.q, .int (-f.r * f.u), .int (f.u * f.u)] := by rw [dg, ← p0, ← p1, ← p2]; rfl
    rw [el]
    unfold Fk.kd
    rw [dg]
    refine gives_w rfl ?_
    unfold b_law_knot_poly
    walk_at "wk"
    · rfl
    · exact mulOk_of (m := 3) (k := 3) (by show f.u.natAbs < 8; omega) (by show f.u.natAbs < 8; omega) (by omega)
    · exact mulOk_of (m := 3) (k := 3) (by show (-f.r).natAbs < 8; omega) (by show f.u.natAbs < 8; omega) (by omega)
theorem pw_bd {f : Fk} (h : f.ok) (l : Nat) (k : Nat) : (f.pw l k).natAbs < 2 ^ (7 * l + 4) := by
  have hu : f.u.natAbs < 2 ^ 3 := by have := h.u; show f.u.natAbs < 8; omega
  have b1 := pow_bd (b := f.r) (m := 3) h.r l
  have b2 := pow_bd (b := f.q) (m := 5) h.q l
  have b3 := pow_bd hu l
  have b4 := (trI_bd h.r h.q l).1
  have up : ∀ {x : Int} {j : Nat}, x.natAbs < 2 ^ j → j ≤ 7 * l + 4 → x.natAbs < 2 ^ (7 * l + 4) := fun h1 h2 => Nat.lt_of_lt_of_le h1 (Nat.pow_le_pow_right (by omega) h2)
  have z0 : (0 : Int).natAbs < 2 ^ (7 * l + 4) := Nat.pow_pos (by omega)
  unfold Fk.pw
  split
  · split
    · rw [Int.natAbs_neg]; exact up b1 (by omega)
    · split
      · exact up b3 (by omega)
      · exact z0
  · split
    · exact up b2 (by omega)
    · split
      · refine up (j := (4 * l + 2) + (3 * l + 1)) ?_ (by omega)
        rw [Int.natAbs_mul, Int.natAbs_neg, Nat.pow_add]
        exact Nat.mul_lt_mul'' b4 b3
      · split
        · refine up (j := (3 * l + 1) + (3 * l + 1)) ?_ (by omega)
          rw [Int.natAbs_mul, Nat.pow_add]
          exact Nat.mul_lt_mul'' b3 b3
        · exact z0
/-- the product so far -/
structure Acc (l : Nat) (acc : List Fk) (P : Nat → Int) : Prop where
  pol : Pol (deg (acc.map Fk.c)) P (eL (acc.map fun f => pwF l f.c))
  bd : ∀ k, (P k).natAbs < 2 ^ ((7 * l + 8) * acc.length + 1)
theorem acc_nil (l : Nat) : Acc l [] (fun k => if k = 0 then 1 else 0) := by
  refine ⟨⟨by decide, fun k hk => ?_, fun k hk => ?_, fun k hk => ?_⟩, fun k => ?_⟩
  · have : k = 0 := by have : k ≤ 0 := hk; omega
    subst this
    show (((1 : Int)) : Rat) = un 0 * ((1 : Int) : Rat)
    have e1 : ((1 : Int) : Rat) = 1 := rfl
    rw [e1]
    show (1 : Rat) = 1 * 1
    grind
  · have : 0 < k := hk
    exact if_neg (by omega)
  · have : 0 < k := hk
    show un k = 0
    exact if_neg (by omega)
  · show (if k = 0 then (1 : Int) else 0).natAbs < 2 ^ ((7 * l + 8) * 0 + 1)
    split <;> simp
theorem acc_step {l : Nat} (hl : 1 ≤ l) {acc : List Fk} {P : Nat → Int} (A : Acc l acc P) {f : Fk} (h : f.ok) (hd : deg (acc.map Fk.c) ≤ 12) : Acc l (f :: acc) (rowS P (f.pw l) (deg (acc.map Fk.c) + 1)) := by
  refine ⟨Pol.mul A.pol (Fk.pol h hl) (eL_one _) rfl, fun k => ?_⟩
  have b := rowS_bd (m := (7 * l + 8) * acc.length + 1) (k := 7 * l + 4) A.bd (pw_bd h l) k (deg (acc.map Fk.c) + 1)
  have e : (7 * l + 8) * (f :: acc).length + 1 = 4 + ((7 * l + 8) * acc.length + 1 + (7 * l + 4)) := by
    rw [List.length_cons, Nat.mul_succ]
    omega
  rw [e, Nat.pow_add]
  have pos : 0 < 2 ^ ((7 * l + 8) * acc.length + 1 + (7 * l + 4)) := Nat.pow_pos (by omega)
  have le : (deg (acc.map Fk.c) + 1) * 2 ^ ((7 * l + 8) * acc.length + 1 + (7 * l + 4)) ≤ 13 * 2 ^ ((7 * l + 8) * acc.length + 1 + (7 * l + 4)) := Nat.mul_le_mul_right _ (by omega)
  omega
theorem mul_step {N : Nat} {l : Nat} (hl : 1 ≤ l) (hl2 : l ≤ 40) {acc : List Fk} {P : Nat → Int} (A : Acc l acc P) {f : Fk} (h : f.ok) (hd : deg (acc.map Fk.c) ≤ 12) (hc : acc.length ≤ 12) :
    Gives (f_law_mul N) [.lst (fl (deg (acc.map Fk.c) + 1) P), .lst (fl (f.dg + 1) (f.pw l))] (.sh (.lst (fl (deg ((f :: acc).map Fk.c) + 1) (rowS P (f.pw l) (deg (acc.map Fk.c) + 1))))) := by
  have dg : f.dg ≤ 2 := by unfold Fk.dg; split <;> omega
  have g := mul_g (N := N) (deg (acc.map Fk.c) + 1) (f.dg + 1) P (f.pw l) ((7 * l + 8) * acc.length + 1) (7 * l + 4) (by omega) (by omega) (by omega) (by omega) (fun i hi => (Fk.pol h hl).out i (by omega)) A.bd (pw_bd h l) (by
    have : (7 * l + 8) * acc.length ≤ (7 * 40 + 8) * 12 := Nat.mul_le_mul (by omega) hc
    omega)
  have e : deg (acc.map Fk.c) + 1 + (f.dg + 1) - 1 = deg ((f :: acc).map Fk.c) + 1 := by
    show _ = deg (acc.map Fk.c) + f.dg + 1
    omega
  rw [e] at g
  exact g
end K22

set_option maxHeartbeats 400000
namespace K22
open PySem L2 Ml Pw
/-- the factors as often as they are, the newest first -/
def ac (l : List (Fk × Nat)) : List Fk := l.foldl (fun acc p => List.replicate p.2 p.1 ++ acc) []
theorem deg_append : ∀ a b : List Fc, deg (a ++ b) = deg a + deg b
  | [], b => by show deg b = 0 + deg b; omega
  | f :: r, b => by
    show deg (r ++ b) + f.d = deg r + f.d + deg b
    rw [deg_append r b]
    omega
theorem foldl_pre : ∀ (l : List (Fk × Nat)) (acc : List Fk), ∃ pre, l.foldl (fun acc p => List.replicate p.2 p.1 ++ acc) acc = pre ++ acc
  | [], acc => ⟨[], rfl⟩
  | p :: r, acc => by
    obtain ⟨pre, h⟩ := foldl_pre r (List.replicate p.2 p.1 ++ acc)
    exact ⟨pre ++ List.replicate p.2 p.1, by rw [List.foldl_cons, h, List.append_assoc]⟩
theorem ac_suffix (l : List (Fk × Nat)) (i : Nat) : ∃ pre, ac l = pre ++ ac (l.take i) := by
  obtain ⟨pre, h⟩ := foldl_pre (l.drop i) (ac (l.take i))
  refine ⟨pre, ?_⟩
  rw [← h]
  unfold ac
  rw [← List.foldl_append, List.take_append_drop]
theorem ac_next {l : List (Fk × Nat)} {i : Nat} {f : Fk} {m : Nat} (h : l[i]? = some (f, m)) : ac (l.take (i + 1)) = List.replicate m f ++ ac (l.take i) := by
  unfold ac
  rw [List.take_succ, List.foldl_append, h]
  rfl
theorem len_deg : ∀ l : List Fk, l.length ≤ deg (l.map Fk.c)
  | [] => Nat.le_refl 0
  | f :: r => by
    have := len_deg r
    show r.length + 1 ≤ deg (r.map Fk.c) + f.dg
    have : 1 ≤ f.dg := by unfold Fk.dg; split <;> omega
    omega
/-- within a product of degree at most 12 -/
theorem ac_small {l : List (Fk × Nat)} (h : deg ((ac l).map Fk.c) ≤ 12) {i j m : Nat} {f : Fk} (e : l[i]? = some (f, m)) (hj : j ≤ m) : deg ((List.replicate j f ++ ac (l.take i)).map Fk.c) ≤ 12 ∧ (List.replicate j f ++ ac (l.take i)).length ≤ 12 := by
  have h1 : deg ((List.replicate j f ++ ac (l.take i)).map Fk.c) ≤ 12 := by
    obtain ⟨pre, hp⟩ := ac_suffix l (i + 1)
    rw [hp, ac_next e] at h
    have er : List.replicate m f = List.replicate (m - j) f ++ List.replicate j f := by
      rw [List.replicate_append_replicate]
      congr 1
      omega
    rw [er] at h
    simp only [List.map_append, deg_append] at h ⊢
    omega
  exact ⟨h1, Nat.le_trans (len_deg _) h1⟩
def dz (l : List (Fk × Nat)) : List D := l.map fun p => D.tup [p.1.d, .int (p.2 : Nat)]
theorem zip_dz (l : List (Fk × Nat)) : zipD (l.map fun p => p.1.d) (l.map fun p => D.int (p.2 : Nat)) = dz l := by
  induction l with
  | nil => rfl
  | cons p r ih =>
    show D.tup [p.1.d, .int (p.2 : Nat)] :: zipD _ _ = _
    rw [ih]
    rfl
theorem dz_get {l : List (Fk × Nat)} {i : Nat} {d : D} (h : (dz l)[i]? = some d) : ∃ f m, l[i]? = some (f, m) ∧ d = .tup [f.d, .int (m : Nat)] := by
  unfold dz at h
  rw [List.getElem?_map] at h
  cases e : l[i]? with
  | none => rw [e] at h; cases h
  | some p =>
    rw [e] at h
    obtain ⟨f, m⟩ := p
    exact ⟨f, m, rfl, (Option.some.inj h).symm⟩
theorem joined_g {N : Nat} (l : List (Fk × Nat)) (hok : ∀ p ∈ l, p.1.ok) (hd : deg ((ac l).map Fk.c) ≤ 12) : ∃ P, Acc 1 (ac l) P ∧ Gives (f_law_joined N) [.lst (l.map fun p => p.1.d), .lst (l.map fun p => D.int (p.2 : Nat))] (.sh (.lst (fl (deg ((ac l).map Fk.c) + 1) P))) := by
  have w : ∃ P, Acc 1 (ac l) P ∧ wS (b_law_joined N) ([D.lst (l.map fun p => p.1.d), D.lst (l.map fun p => D.int (p.2 : Nat))].map Sl.sh ++ List.replicate 5 .no) fun f _ => f = .rt (.sh (.lst (fl (deg ((ac l).map Fk.c) + 1) P))) := by
    have lp := loop_inv (tg := .tp [(.tp [(.nm 3), (.nm 4)]), (.nm 5)]) (body := fgt [3, 4, 5, 6] (mFor (evI [(.b 5)] fR1) (.nm 6) (fgt [6] (mAsg 2 (mCall (f_law_mul N) [(mV 2), (mCall (f_law_knot_poly N) [(mV 3), (mV 4)])])))))
      (fun i s => ∃ P o, Acc 1 (ac (l.take i)) P ∧ s = [.sh (.lst (l.map fun p => p.1.d)), .sh (.lst (l.map fun p => D.int (p.2 : Nat))), o, .no, .no, .no, .no] ∧ (o = .ow (.lst (fl (deg ((ac (l.take i)).map Fk.c) + 1) P)) ∨ o = .sh (.lst (fl (deg ((ac (l.take i)).map Fk.c) + 1) P))))
      (ds := dz l) (sl := [.sh (.lst (l.map fun p => p.1.d)), .sh (.lst (l.map fun p => D.int (p.2 : Nat))), .ow (.lst [.int 1]), .no, .no, .no, .no]) ⟨_, _, acc_nil 1, rfl, .inl rfl⟩ ?_
    · obtain ⟨s', e, P, o, A, rfl, ho⟩ := lp
      have lt : l.take (dz l).length = l := by unfold dz; rw [List.length_map, List.take_length]
      rw [lt] at A ho
      refine ⟨P, A, ?_⟩
      unfold b_law_joined
      walk_at "ww"
      rw [zip_dz]
      refine ⟨_, e, _, rfl, ?_⟩
      rcases ho with rfl | rfl
      · walk_at "ww"
        rfl
      · walk_at "ww"
        rfl
    · rintro i d s hdd ⟨P, o, A, rfl, ho⟩
      obtain ⟨f, m, e, rfl⟩ := dz_get hdd
      have hf : f.ok := hok (f, m) (List.mem_of_getElem? e)
      have sm12 : m ≤ 12 := by
        have := (ac_small hd e (Nat.le_refl m)).2
        rw [List.length_append, List.length_replicate] at this
        omega
      refine ⟨[.sh (.lst (l.map fun p => p.1.d)), .sh (.lst (l.map fun p => D.int (p.2 : Nat))), o, .sh f.kd, .sh (.int f.u), .sh (.int (m : Nat)), .no], rfl, ?_⟩
      have w : wS (fgt [3, 4, 5, 6] (mFor (evI [(.b 5)] fR1) (.nm 6) (fgt [6] (mAsg 2 (mCall (f_law_mul N) [(mV 2), (mCall (f_law_knot_poly N) [(mV 3), (mV 4)])])))))
          [.sh (.lst (l.map fun p => p.1.d)), .sh (.lst (l.map fun p => D.int (p.2 : Nat))), o, .sh f.kd, .sh (.int f.u), .sh (.int (m : Nat)), .no]
          fun g s => g = .nx ∧ ∃ P o, Acc 1 (ac (l.take (i + 1))) P ∧ s = [.sh (.lst (l.map fun p => p.1.d)), .sh (.lst (l.map fun p => D.int (p.2 : Nat))), o, .no, .no, .no, .no] ∧ (o = .ow (.lst (fl (deg ((ac (l.take (i + 1))).map Fk.c) + 1) P)) ∨ o = .sh (.lst (fl (deg ((ac (l.take (i + 1))).map Fk.c) + 1) P))) := by
        walk_at "ww"
        · refine loop_w (fun j s => ∃ P o, Acc 1 (List.replicate j f ++ ac (l.take i)) P ∧ s = [.sh (.lst (l.map fun p => p.1.d)), .sh (.lst (l.map fun p => D.int (p.2 : Nat))), o, .sh f.kd, .sh (.int f.u), .sh (.int (m : Nat)), .no] ∧ (o = .ow (.lst (fl (deg ((List.replicate j f ++ ac (l.take i)).map Fk.c) + 1) P)) ∨ o = .sh (.lst (fl (deg ((List.replicate j f ++ ac (l.take i)).map Fk.c) + 1) P)))) ⟨P, o, A, rfl, ho⟩ ?_ ?_
          · rintro j d s hj ⟨P, o, A, rfl, ho⟩
            obtain ⟨hj, rfl⟩ := rg0_get hj
            have hj' : j ≤ m := by omega
            have sm := ac_small hd e hj'
            have g := mul_step (N := N) (l := 1) (by omega) (by omega) A hf sm.1 sm.2
            have A2 := acc_step (l := 1) (by omega) A hf sm.1
            refine ⟨_, rfl, ?_⟩
            rcases ho with rfl | rfl
            · walk_at "ww"
              refine ⟨_, knot_poly_g f hf, ?_⟩
              walk_at "ww"
              refine ⟨_, g, ?_⟩
              exact ⟨_, rfl, rfl, rfl, _, _, A2, rfl, .inr rfl⟩
            · walk_at "ww"
              refine ⟨_, knot_poly_g f hf, ?_⟩
              walk_at "ww"
              refine ⟨_, g, ?_⟩
              exact ⟨_, rfl, rfl, rfl, _, _, A2, rfl, .inr rfl⟩
          · rintro s3 ⟨P, o, A, rfl, ho⟩
            have em : (rgD 0 ((m : Nat) : Int).toNat).length = m := by rw [rgD_len]; omega
            rw [em, ← ac_next e] at A ho
            exact ⟨_, rfl, rfl, P, o, A, rfl, ho⟩
        · exact rng1 (by omega) (by omega)
      obtain ⟨g, s2, e2, rfl, h2⟩ := w
      exact ⟨s2, e2, h2⟩
  obtain ⟨P, A, w⟩ := w
  exact ⟨P, A, gives_w rfl w⟩
end K22

set_option maxHeartbeats 400000
namespace K22
open PySem L2 Ml Pw
def lD (l : Nat) (f : Fk) : D := .lst (fl (f.dg + 1) (f.pw l))
end K22

set_option maxHeartbeats 400000
namespace K22
open PySem L2 Ml Pw
theorem lD_lin {k : Nat} {f : Fk} (e : f.lin = true) : f.dg = 1 ∧ lD k f = .lst [.int (-(f.r ^ k)), .int (f.u ^ k)] := by
  have dg : f.dg = 1 := by unfold Fk.dg; rw [e]; rfl
  refine ⟨dg, ?_⟩
  unfold lD
  rw [dg]
  have p0 : f.pw k 0 = -(f.r ^ k) := by unfold Fk.pw; rw [e, if_pos rfl, if_pos rfl]
  have p1 : f.pw k 1 = f.u ^ k := by unfold Fk.pw; rw [e, if_pos rfl, if_neg (by decide), if_pos rfl]
  rw [← p0, ← p1]
  rfl
theorem lD_quad {k : Nat} {f : Fk} (e : f.lin = false) : f.dg = 2 ∧ lD k f = .lst [.int (f.q ^ k), .int (-(trI f.r f.q k) * f.u ^ k), .int (f.u ^ k * f.u ^ k)] := by
  have dg : f.dg = 2 := by unfold Fk.dg; rw [e]; rfl
  refine ⟨dg, ?_⟩
  unfold lD
  rw [dg]
  have p0 : f.pw k 0 = f.q ^ k := by unfold Fk.pw; rw [e, if_neg (by decide), if_pos rfl]
  have p1 : f.pw k 1 = -(trI f.r f.q k) * f.u ^ k := by unfold Fk.pw; rw [e, if_neg (by decide), if_neg (by decide), if_pos rfl]
  have p2 : f.pw k 2 = f.u ^ k * f.u ^ k := by unfold Fk.pw; rw [e, if_neg (by decide), if_neg (by decide), if_neg (by decide), if_pos rfl]
  rw [← p0, ← p1, ← p2]
  rfl
end K22

set_option maxHeartbeats 400000
namespace K22
open PySem L2 Ml Pw
def bagO (ns : List Int) (p g s c : Int) : Ob := .lst [.lst (ns.map D.int), .int p, .int g, .int s, .int c]
/-- a bag of the script ns from which at most cm draws were made -/
structure BagOk (ns : List Int) (cm : Int) (p g s c : Int) : Prop where
  p : 0 ≤ p ∧ p ≤ ns.length
  g : 0 ≤ g
  s : 0 ≤ s ∧ s < 2147483563
  c : 0 ≤ c ∧ c ≤ cm
def Bag (ns : List Int) (cm : Int) (o : Ob) : Prop := ∃ p g s c, o = bagO ns p g s c ∧ BagOk ns cm p g s c
theorem fm (a : Int) {m : Int} (h : 0 < m) : 0 ≤ a.fmod m ∧ a.fmod m < m := by
  rw [Int.fmod_eq_emod_of_nonneg _ (by omega)]
  exact ⟨Int.emod_nonneg _ (by omega), Int.emod_lt_of_pos _ h⟩
theorem draw_g {N : Nat} (ns : List Int) (cm limit : Int) (o : Ob) (h : Bag ns cm o) (hc : cm < 1000000000000) (h0 : 0 < limit) (h1 : limit < 1000000) : GivesB (f_law_draw N) o [.int limit] fun rv o' => ∃ d : Int, rv = .sh (.int d) ∧ 0 ≤ d ∧ d < limit ∧ Bag ns (cm + 1) o' := by
  obtain ⟨p, g, s, c, rfl, B⟩ := h
  have hp := B.p
  have hg := B.g
  have hs := B.s
  have hcc := B.c
  refine givesB_w rfl ?_
  unfold b_law_draw
  refine wS_cut [.bo (bagO ns p g s (c + 1)), .sh (.int limit), .no, .no, .no] ?_ ?_
  · walk_at "ww"
    refine ⟨_, _, _, rfl, rfl, rfl, _, rfl, ?_⟩
    exact ⟨rfl, rfl⟩
  refine wS_seq (wS_imp (Q := fun f s => f = .nx ∧ ∃ p g t, s = [.bo (bagO ns p g t (c + 1)), .sh (.int limit), .no, .no, .no] ∧ BagOk ns (cm + 1) p g t (c + 1)) ?_ ?_)
  · walk_at "ww"
    refine if_dec (fun z => ?_) (fun z => ?_)
    · walk_at "ww"
      refine if_dec (fun z2 => ?_) (fun z2 => ?_)
      · obtain ⟨v, hv⟩ : ∃ v : Int, atI (ns.map D.int) p = some (.int v) := by
          obtain ⟨k, rfl⟩ : ∃ k : Nat, p = (k : Int) := ⟨p.toNat, by omega⟩
          have hk : k < ns.length := by rw [List.length_map] at z2; omega
          exact ⟨ns[k], Ml.atI_nat (by rw [List.getElem?_map, List.getElem?_eq_getElem hk]; rfl)⟩
        have hp2 : p + 1 ≤ ns.length := by rw [List.length_map] at z2; omega
        walk_at "ww"
        refine ⟨_, _, rfl, k_idx hv, ?_⟩
        walk_at "ww"
        refine ⟨_, _, _, rfl, rfl, rfl, _, rfl, ?_⟩
        walk_at "wk"
        · refine if_dec (fun z3 => ?_) (fun z3 => ?_)
          · walk_at "ww"
            refine ⟨_, _, _, rfl, rfl, rfl, _, rfl, ?_⟩
            have big : (0 : Int) ≤ v := Int.le_trans (Int.pow_nonneg (by decide)) z3
            exact ⟨rfl, p + 1, v, s, rfl, ⟨⟨by omega, hp2⟩, big, hs, by omega⟩⟩
          · have f1 := fm v (m := 2147483543) (by decide)
            walk_at "wk"
            · refine ⟨_, _, _, rfl, rfl, rfl, _, rfl, ?_⟩
              exact ⟨rfl, p + 1, g, _, rfl, ⟨⟨by omega, hp2⟩, hg, fm _ (by decide), by omega⟩⟩
            all_goals first
              | decide
              | exact mulOk_of (m := 32) (k := 20) (by show s.natAbs < 4294967296; omega) (by decide) (by decide)
              | exact mulOk_of (m := 32) (k := 20) (by show (v.fmod 2147483543).natAbs < 4294967296; omega) (by decide) (by decide)
        · exact ⟨by decide, by decide, by decide⟩
      · walk_at "ww"
        exact ⟨rfl, p, g, s, rfl, ⟨hp, hg, hs, by omega⟩⟩
    · walk_at "ww"
      exact ⟨rfl, p, g, s, rfl, ⟨hp, hg, hs, by omega⟩⟩
  · rintro f st ⟨rfl, p, g, t, rfl, B⟩
    show wS _ _ _
    have hg := B.g
    have ht := B.s
    walk_at "ww"
    refine if_dec (fun z => ?_) (fun z => ?_)
    · walk_at "wk"
      · refine ⟨_, _, _, rfl, rfl, rfl, _, rfl, ?_⟩
        walk_at "ww"
        have f1 := fm g (m := limit) h0
        have f2 : 0 ≤ g.fdiv limit := Int.fdiv_nonneg hg (by omega)
        exact ⟨_, _, _, rfl, rfl, g.fmod limit, rfl, f1.1, f1.2, p, g.fdiv limit, t, c + 1, rfl, ⟨B.p, f2, B.s, B.c⟩⟩
      all_goals first
        | omega
        | exact pyl_small (Nat.lt_of_lt_of_le (by show limit.natAbs < 2 ^ 20; omega) (Nat.pow_le_pow_right (by omega) (by omega)))
    · have hcB := B.c
      walk_at "wk"
      · refine ⟨_, _, _, rfl, rfl, rfl, _, rfl, ?_⟩
        walk_at "wk"
        · exact ⟨_, _, _, rfl, rfl, _, rfl, (fm _ h0).1, (fm _ h0).2, p, g, _, c + 1, rfl, ⟨B.p, hg, fm _ (by decide), B.c⟩⟩
        all_goals first
          | decide
          | omega
          | exact pyl_small (Nat.lt_of_lt_of_le (by decide : (89 : Int).natAbs < 2 ^ 20) (Nat.pow_le_pow_right (by omega) (by omega)))
          | (refine mulOk_of (m := 32) (k := 20) ?_ (by decide) (by decide)
             have f2 := fm ((t ^ (3 : Int).toNat + t * 47051 + (c + 1) * 1900037 + 60013).fmod 2147483563) (m := 7919) (by decide)
             show (((t ^ (3 : Int).toNat + t * 47051 + (c + 1) * 1900037 + 60013).fmod 2147483563).fmod 7919).natAbs < 4294967296
             omega)
      all_goals first
        | decide
        | exact ⟨by decide, by decide, by show t.natAbs < 18446744073709551616; omega⟩
        | exact mulOk_of (m := 50) (k := 40) (by show (c + 1).natAbs < 1125899906842624; omega) (by decide) (by decide)
        | exact mulOk_of (m := 50) (k := 40) (by show t.natAbs < 1125899906842624; omega) (by decide) (by decide)
end K22

set_option maxHeartbeats 400000
namespace K22
open PySem L2 Ml Pw
theorem givesB_imp {f : MF} {o : Ob} {ds : List D} {P P' : RV → Ob → Prop} (h : GivesB f o ds P) (i : ∀ rv o', P rv o' → P' rv o') : GivesB f o ds P' := by
  obtain ⟨rv, o', out, e, q⟩ := h
  exact ⟨rv, o', out, e, i rv o' q⟩
theorem Bag.mono {ns : List Int} {a b : Int} {o : Ob} (h : Bag ns a o) (l : a ≤ b) : Bag ns b o := by
  obtain ⟨p, g, s, c, e, B⟩ := h
  exact ⟨p, g, s, c, e, B.p, B.g, B.s, by have := B.c; omega⟩
theorem of_g {N : Nat} (ns : List Int) (cm : Int) (o : Ob) (h : Bag ns cm o) (hc : cm < 1000000000000) (ds : List D) (h0 : 0 < ds.length) (h1 : ds.length < 1000000) : GivesB (f_law_of N) o [.lst ds] fun rv o' => ∃ (i : Nat) (d : D), ds[i]? = some d ∧ rv = .sh d ∧ Bag ns (cm + 1) o' := by
  refine givesB_w rfl ?_
  unfold b_law_of
  walk_at "ww"
  refine givesB_imp (draw_g (N := N) ns cm _ o h hc (by omega) (by omega)) ?_
  rintro rv o' ⟨d, rfl, d0, d1, hb⟩
  obtain ⟨k, rfl⟩ : ∃ k : Nat, d = (k : Int) := ⟨d.toNat, by omega⟩
  have hk : k < ds.length := by omega
  walk_at "ww"
  refine ⟨_, _, rfl, k_idx (Ml.atI_nat (List.getElem?_eq_getElem hk)), ?_⟩
  exact ⟨_, _, _, rfl, rfl, k, ds[k], List.getElem?_eq_getElem hk, rfl, hb⟩
end K22

set_option maxHeartbeats 400000
namespace K22
open PySem L2 Ml Pw
/-- a knot -/
def Kn (d : D) : Prop := ∃ f : Fk, d = f.kd ∧ f.r.natAbs < 8 ∧ f.q.natAbs < 32 ∧ (f.lin = true → f.q = 0)
theorem kn_lin {r : Int} (h : r.natAbs < 8) : Kn (.tup [.int 1, .int r, .int 0]) := ⟨⟨true, r, 0, 1⟩, rfl, h, by show (0 : Int).natAbs < 32; decide, fun _ => rfl⟩
theorem kn_quad {r q : Int} (h : r.natAbs < 8) (h2 : q.natAbs < 32) : Kn (.tup [.int 2, .int r, .int q]) := ⟨⟨false, r, q, 1⟩, rfl, h, h2, fun z => by cases z⟩
/-- one of a written list of integers -/
theorem of_ints {N : Nat} (ns : List Int) (cm : Int) (o : Ob) (h : Bag ns cm o) (hc : cm < 1000000000000) (zs : List Int) (h0 : 0 < zs.length) (h1 : zs.length < 1000000) : GivesB (f_law_of N) o [.lst (zs.map D.int)] fun rv o' => ∃ z ∈ zs, rv = .sh (.int z) ∧ Bag ns (cm + 1) o' := by
  refine givesB_imp (of_g (N := N) ns cm o h hc (zs.map D.int) (by rw [List.length_map]; exact h0) (by rw [List.length_map]; exact h1)) ?_
  rintro rv o' ⟨i, d, e, rfl, hb⟩
  rw [List.getElem?_map] at e
  cases e2 : zs[i]? with
  | none => rw [e2] at e; cases e
  | some z =>
    rw [e2] at e
    cases e
    exact ⟨z, List.mem_of_getElem? e2, rfl, hb⟩
theorem knot_g {N : Nat} (ns : List Int) (cm : Int) (o : Ob) (h : Bag ns cm o) (hc : cm < 100000000000) : GivesB (f_law_knot N) o [] fun rv o' => Kn rv.d ∧ (∃ d, rv = .sh d) ∧ Bag ns (cm + 3) o' := by
  refine givesB_w rfl ?_
  unfold b_law_knot
  refine wS_seq ?_
  walk_at "ww"
  refine givesB_imp (of_ints (N := N) ns cm _ h (by omega) [0, 1, 3, 0, 2, 0, 1] (by decide) (by decide)) ?_
  rintro rv o1 ⟨way, hw, rfl, hb⟩
  walk_at "ww"
  refine if_dec (fun z => ?_) (fun z => ?_)
  · walk_at "ww"
    refine givesB_imp (of_ints (N := N) ns (cm + 1) _ hb (by omega) [2, 1, 3, -1, 4, -2, 1, -3, 2, -4] (by decide) (by decide)) ?_
    rintro rv o2 ⟨r, hr, rfl, hb2⟩
    walk_at "ww"
    refine ⟨_, _, _, rfl, rfl, kn_lin ?_, ⟨_, rfl⟩, hb2.mono (by omega)⟩
    simp only [List.mem_cons, List.not_mem_nil, or_false] at hr
    omega
  · walk_at "ww"
    refine if_dec (fun z => ?_) (fun z => ?_)
    · walk_at "ww"
      refine givesB_imp (draw_g (N := N) ns (cm + 1) 7 _ hb (by omega) (by decide) (by decide)) ?_
      rintro rv o2 ⟨a, rfl, a0, a1, hb2⟩
      walk_at "ww"
      refine givesB_imp (draw_g (N := N) ns (cm + 1 + 1) 3 _ hb2 (by omega) (by decide) (by decide)) ?_
      rintro rv o3 ⟨b, rfl, b0, b1, hb3⟩
      have ha : a = 0 ∨ a = 1 ∨ a = 2 ∨ a = 3 ∨ a = 4 ∨ a = 5 ∨ a = 6 := by omega
      have hb' : b = 0 ∨ b = 1 ∨ b = 2 := by omega
      have k1 : (2 * (a - 3)).natAbs < 8 := by omega
      have k2 : ((a - 3) * (a - 3) + (1 + b) * (1 + b)).natAbs < 32 := by
        rcases ha with rfl | rfl | rfl | rfl | rfl | rfl | rfl <;> rcases hb' with rfl | rfl | rfl <;> decide
      walk_at "wk"
      · exact ⟨_, _, _, rfl, rfl, kn_quad k1 k2, ⟨_, rfl⟩, hb3.mono (by omega)⟩
      all_goals exact mulOk_of (m := 4) (k := 4) (by first | decide | (show (a - 3).natAbs < 16; omega) | (show (1 + b).natAbs < 16; omega)) (by first | (show (a - 3).natAbs < 16; omega) | (show (1 + b).natAbs < 16; omega)) (by decide)
    · walk_at "ww"
      refine if_dec (fun z => ?_) (fun z => ?_)
      · walk_at "ww"
        refine givesB_imp (of_ints (N := N) ns (cm + 1) _ hb (by omega) [2, 3, 5] (by decide) (by decide)) ?_
        rintro rv o2 ⟨r, hr, rfl, hb2⟩
        walk_at "ww"
        simp only [List.mem_cons, List.not_mem_nil, or_false] at hr
        exact ⟨_, _, _, rfl, rfl, kn_quad (r := 0) (q := -r) (by decide) (by omega), ⟨_, rfl⟩, hb2.mono (by omega)⟩
      · walk_at "ww"
        refine givesB_imp (of_ints (N := N) ns (cm + 1) _ hb (by omega) [1, -1, 2, 3, -2, -3, 0, 4, -5] (by decide) (by decide)) ?_
        rintro rv o2 ⟨m, hm, rfl, hb2⟩
        simp only [List.mem_cons, List.not_mem_nil, or_false] at hm
        have m1 : m.natAbs < 8 := by omega
        have m2 : 0 ≤ (m * m).fdiv 4 ∧ (m * m).fdiv 4 < 8 := by
          rcases hm with rfl | rfl | rfl | rfl | rfl | rfl | rfl | rfl | rfl <;> decide
        walk_at "wk"
        · refine givesB_imp (draw_g (N := N) ns (cm + 1 + 1) 5 _ hb2 (by omega) (by decide) (by decide)) ?_
          rintro rv o3 ⟨b, rfl, b0, b1, hb3⟩
          walk_at "ww"
          exact ⟨_, _, _, rfl, rfl, kn_quad m1 (by omega), ⟨_, rfl⟩, hb3.mono (by omega)⟩
        all_goals first
          | decide
          | exact pyl_small (Nat.lt_of_lt_of_le (by decide : (4 : Int).natAbs < 2 ^ 20) (Nat.pow_le_pow_right (by omega) (by omega)))
          | exact mulOk_of (m := 4) (k := 4) (by show m.natAbs < 16; omega) (by show m.natAbs < 16; omega) (by decide)
end K22

set_option maxHeartbeats 400000
namespace K22
open PySem L2 Ml Pw
theorem factor_g {N : Nat} (ns : List Int) (cm : Int) (o : Ob) (h : Bag ns cm o) (hc : cm < 10000000000) : GivesB (f_law_factor N) o [] fun rv o' => ∃ f : Fk, f.ok ∧ rv = .sh f.d ∧ Bag ns (cm + 5) o' := by
  refine givesB_w rfl ?_
  unfold b_law_factor
  refine wS_seq (wS_imp (Q := fun g s => g = .nx ∧ ∃ o1 kd, s = [.bo o1, .sh kd] ∧ Kn kd ∧ Bag ns (cm + 4) o1) ?_ ?_)
  · walk_at "ww"
    refine givesB_imp (draw_g (N := N) ns cm 9 _ h (by omega) (by decide) (by decide)) ?_
    rintro rv o1 ⟨d, rfl, d0, d1, hb⟩
    walk_at "ww"
    refine if_dec (fun z => ?_) (fun z => ?_)
    · walk_at "ww"
      exact ⟨rfl, _, _, rfl, kn_lin (r := 0) (by decide), hb.mono (by omega)⟩
    · walk_at "ww"
      refine givesB_imp (knot_g (N := N) ns (cm + 1) _ hb (by omega)) ?_
      rintro rv o2 ⟨hk, ⟨kd, rfl⟩, hb2⟩
      refine ⟨_, rfl, rfl, rfl, o2, kd, rfl, hk, hb2.mono (by omega)⟩
  · rintro g s ⟨rfl, o1, kd, rfl, ⟨f0, rfl, h1, h2, h3⟩, hb⟩
    show wS _ _ _
    walk_at "ww"
    refine givesB_imp (of_ints (N := N) ns (cm + 4) _ hb (by omega) [1, 1, 2, 1, 3, 5] (by decide) (by decide)) ?_
    rintro rv o2 ⟨u, hu, rfl, hb2⟩
    simp only [List.mem_cons, List.not_mem_nil, or_false] at hu
    walk_at "ww"
    exact ⟨_, _, _, rfl, rfl, ⟨f0.lin, f0.r, f0.q, u⟩, ⟨h1, h2, by show 0 < u ∧ u < 8; omega, h3⟩, rfl, hb2.mono (by omega)⟩
end K22

set_option maxHeartbeats 400000
namespace K22
open PySem L2 Ml Pw
theorem number_g {N : Nat} (ns : List Int) (cm : Int) (o : Ob) (h : Bag ns cm o) (hc : cm < 100000000000) (a b : Int) (h0 : b ≠ 0) (hN : b.natAbs < N) (hb : b.natAbs < 2 ^ 8000) : GivesB (f_law_number N) o [.int a, .int b] fun rv o' => Num rv.d ((a : Rat) / (b : Rat)) ∧ Bag ns (cm + 1) o' := by
  have hb9 : b.natAbs < 2 ^ 9000 := Nat.lt_of_lt_of_le hb (Nat.pow_le_pow_right (by omega) (by omega))
  obtain ⟨n, d, p1, p2, p3, p4, g⟩ := low_g (N := N) a b h0 hN hb9
  have dn : d ≠ 0 := by omega
  have e := cross h0 dn p3
  obtain ⟨n', d', q1, q2, q3, q4, out, gr⟩ := ratio_i (N := N) n d dn (Nat.lt_of_le_of_lt p4 hb9)
  have e' := cross dn (by omega : d' ≠ 0) q3
  have num : Num (ratD n' d') ((a : Rat) / (b : Rat)) := by
    rw [e, e']
    exact .rat n' d' q1 q2
  refine givesB_w rfl ?_
  unfold b_law_number
  walk_at "ww"
  refine ⟨_, g, ?_⟩
  walk_at "ww"
  refine if_dec (fun z => ?_) (fun z => ?_)
  · walk_at "ww"
    refine givesB_imp (draw_g (N := N) ns cm 16 _ h (by omega) (by decide) (by decide)) ?_
    rintro rv o1 ⟨k, rfl, k0, k1, hb1⟩
    walk_at "ww"
    refine if_decn (fun z2 => ?_) (fun z2 => ?_)
    · walk_at "ww"
      refine ⟨_, _, _, rfl, rfl, ?_, hb1⟩
      have ei : (a : Rat) / (b : Rat) = (n : Rat) := by
        rw [e, z]
        have : ((1 : Int) : Rat) = 1 := rfl
        rw [this]
        grind
      rw [ei]
      exact .int n
    · walk_at "ww"
      exact ⟨_, ⟨out, gr⟩, _, _, _, rfl, rfl, num, hb1⟩
  · walk_at "ww"
    exact ⟨_, ⟨out, gr⟩, _, _, _, rfl, rfl, num, h.mono (by omega)⟩
end K22

set_option maxHeartbeats 400000
namespace K22
open PySem L2 Ml Pw
theorem scale_g {N : Nat} (ns : List Int) (cm : Int) (o : Ob) (h : Bag ns cm o) (hc : cm < 100000000000) : GivesB (f_law_scale N) o [] fun rv o' => ∃ s0 s1 : Int, rv = .sh (.tup [.int s0, .int s1]) ∧ s0 ≠ 0 ∧ s0.natAbs < 2 ^ 70 ∧ 0 < s1 ∧ s1.natAbs < 2 ^ 50 ∧ Bag ns (cm + 2) o' := by
  have t20 : (10 : Int) ^ (20 : Int).toNat + 1 = 100000000000000000001 := by decide +kernel
  have t15 : (10 : Int) ^ (15 : Int).toNat = 1000000000000000 := by decide +kernel
  refine givesB_w rfl ?_
  unfold b_law_scale
  walk_at "wk"
  · refine givesB_imp (of_ints (N := N) ns cm _ h (by omega) [1, -1, 2, 1, 7, -3, 10 ^ (20 : Int).toNat + 1] (by decide) (by decide)) ?_
    rintro rv o1 ⟨s0, h0, rfl, hb⟩
    walk_at "wk"
    · refine givesB_imp (of_ints (N := N) ns (cm + 1) _ hb (by omega) [1, 1, 2, 3, 1, 10 ^ (15 : Int).toNat] (by decide) (by decide)) ?_
      rintro rv o2 ⟨s1, h1, rfl, hb2⟩
      walk_at "ww"
      simp only [List.mem_cons, List.not_mem_nil, or_false] at h0 h1
      rw [t20] at h0
      rw [t15] at h1
      have e70 : (2 : Nat) ^ 70 = 1180591620717411303424 := by decide +kernel
      have e50 : (2 : Nat) ^ 50 = 1125899906842624 := by decide +kernel
      exact ⟨_, _, _, rfl, rfl, s0, s1, rfl, by omega, by rw [e70]; omega, by omega, by rw [e50]; omega, hb2.mono (by omega)⟩
    · exact ⟨by decide, by decide, by decide⟩
  · exact ⟨by decide, by decide, by decide⟩
theorem lesser_g {N : Nat} (a b : Int) : Gives (f_law_lesser N) [.int a, .int b] (.sh (.int (if a < b then a else b))) := by
  refine gives_w rfl ?_
  unfold b_law_lesser
  walk_at "ww"
  refine if_dec (fun z => ?_) (fun z => ?_)
  · walk_at "ww"
    rw [if_pos z]
  · walk_at "ww"
    rw [if_neg z]
end K22

set_option maxHeartbeats 400000
namespace K22
open PySem L2 Ml Pw
theorem dg_cases (f : Fk) : f.dg = 1 ∨ f.dg = 2 := by unfold Fk.dg; split <;> simp
theorem deg_rep (f : Fk) : ∀ m : Nat, deg ((List.replicate m f).map Fk.c) = m * f.dg
  | 0 => by simp [deg]
  | m + 1 => by
    rw [List.replicate_succ, List.map_cons]
    show deg ((List.replicate m f).map Fk.c) + f.dg = _
    rw [deg_rep f m, Nat.succ_mul]
theorem ac_snoc (l : List (Fk × Nat)) (f : Fk) (m : Nat) : ac (l ++ [(f, m)]) = List.replicate m f ++ ac l := by
  unfold ac
  rw [List.foldl_append]
  rfl
/-- how often each factor is taken -/
theorem counts_g {N : Nat} (ns : List Int) (cm : Int) (o : Ob) (h : Bag ns cm o) (hc : cm < 1000000000) (pool : List Fk) (hp : pool.length ≤ 4) (cap : Nat) (hcap : cap ≤ 12) : GivesB (f_law_counts N) o [.lst (pool.map Fk.d), .int cap] fun rv o' => ∃ ms : List Nat, ms.length = pool.length ∧ deg ((ac (pool.zip ms)).map Fk.c) ≤ cap ∧ rv = .sh (.lst (ms.map fun m => D.int (m : Nat))) ∧ Bag ns (cm + 4) o' := by
  have sl16 : sizeLine = 16777216 := sizeLine_eq
  refine givesB_w rfl ?_
  unfold b_law_counts
  refine wS_cut [.bo o, .sh (.lst (pool.map Fk.d)), .sh (.int cap), .ow (.lst []), .sh (.int cap), .no, .no, .no] ?_ ?_
  · walk_at "ww"
    exact ⟨rfl, rfl⟩
  refine wS_seq (wS_imp (Q := fun g s => g = .nx ∧ ∃ (o1 : Ob) (ms : List Nat), s = [.bo o1, .sh (.lst (pool.map Fk.d)), .sh (.int cap), .ow (.lst (ms.map fun m => D.int (m : Nat))), .no, .no, .no, .no] ∧ ms.length = pool.length ∧ deg ((ac (pool.zip ms)).map Fk.c) ≤ cap ∧ Bag ns (cm + 4) o1) ?_ ?_)
  · walk_at "ww"
    refine loop_w (fun i s => ∃ (o1 : Ob) (ms : List Nat) (left : Nat), s = [.bo o1, .sh (.lst (pool.map Fk.d)), .sh (.int cap), .ow (.lst (ms.map fun m => D.int (m : Nat))), .sh (.int (left : Nat)), .no, .no, .no] ∧ ms.length = i ∧ deg ((ac ((pool.take i).zip ms)).map Fk.c) + left ≤ cap ∧ Bag ns (cm + i) o1) ⟨o, [], cap, rfl, rfl, by show 0 + cap ≤ cap; omega, h.mono (by omega)⟩ ?_ ?_
    · rintro i d s hd ⟨o1, ms, left, rfl, hl, hdg, hb⟩
      rw [List.getElem?_map] at hd
      cases e : pool[i]? with
      | none => rw [e] at hd; cases hd
      | some f =>
        rw [e] at hd
        cases hd
        have hi : i < pool.length := (List.getElem?_eq_some_iff.mp e).1
        have dgc := dg_cases f
        refine ⟨[.bo o1, .sh (.lst (pool.map Fk.d)), .sh (.int cap), .ow (.lst (ms.map fun m => D.int (m : Nat))), .sh (.int (left : Nat)), .sh f.kd, .sh (.int f.u), .no], rfl, ?_⟩
        unfold Fk.kd
        walk_at "ww"
        refine givesB_imp (of_ints (N := N) ns (cm + i) _ hb (by omega) [1, 0, 2, 1, 0, 3] (by decide) (by decide)) ?_
        rintro rv o2 ⟨q, hq, rfl, hb2⟩
        simp only [List.mem_cons, List.not_mem_nil, or_false] at hq
        have fd : ((left : Nat) : Int).fdiv ((f.dg : Nat) : Int) = ((left / f.dg : Nat) : Int) := by
          rw [Int.fdiv_eq_ediv_of_nonneg _ (by omega)]
          rfl
        have m0 : ∃ m : Nat, (if q < ((left / f.dg : Nat) : Int) then q else ((left / f.dg : Nat) : Int)) = (m : Int) ∧ m ≤ left / f.dg := by
          split
          · exact ⟨q.toNat, by omega, by omega⟩
          · exact ⟨_, rfl, Nat.le_refl _⟩
        obtain ⟨m, em, ml⟩ := m0
        have mle : m * f.dg ≤ left := Nat.le_trans (Nat.mul_le_mul_right _ ml) (Nat.div_mul_le_self _ _)
        have mi : ((m * f.dg : Nat) : Int) = (m : Int) * ((f.dg : Nat) : Int) := Int.natCast_mul _ _
        walk_at "wk"
        · rw [fd]
          refine ⟨_, lesser_g q _, ?_⟩
          rw [em]
          walk_at "wk"
          · have ez : (pool.take (i + 1)).zip (ms ++ [m]) = (pool.take i).zip ms ++ [(f, m)] := by
              rw [List.take_succ, e]
              exact List.zip_append (by rw [List.length_take]; omega)
            refine ⟨by rw [List.length_map]; omega, rfl, o2, ms ++ [m], left - m * f.dg, ?_, by rw [List.length_append, hl]; rfl, ?_, hb2.mono (by omega)⟩
            · rw [List.map_append, show ((left - m * f.dg : Nat) : Int) = (left : Int) - (m : Int) * ((f.dg : Nat) : Int) from by omega]
              rfl
            · rw [ez, ac_snoc, List.map_append, deg_append, deg_rep]
              omega
          · exact mulOk_of (m := 20) (k := 20) (by show ((m : Nat) : Int).natAbs < 1048576; have : m ≤ left := Nat.le_trans ml (Nat.div_le_self _ _); omega) (by show ((f.dg : Nat) : Int).natAbs < 1048576; omega) (by decide)
        · show ((f.dg : Nat) : Int) ≠ 0
          omega
        · exact pyl_small (Nat.lt_of_lt_of_le (by show ((f.dg : Nat) : Int).natAbs < 2 ^ 20; omega) (Nat.pow_le_pow_right (by omega) (by omega)))
    · rintro s3 ⟨o1, ms, left, rfl, hl, hdg, hb⟩
      rw [List.length_map] at hl hdg hb
      rw [List.take_length] at hdg
      exact ⟨_, rfl, rfl, o1, ms, rfl, hl, by omega, hb.mono (by omega)⟩
  · rintro g s ⟨rfl, o1, ms, rfl, hl, hdg, hb⟩
    show wS _ _ _
    walk_at "ww"
    exact ⟨_, _, _, rfl, rfl, ms, hl, hdg, rfl, hb⟩
end K22

set_option maxHeartbeats 400000
namespace K22
open PySem L2 Ml Pw
theorem scaled_g {N : Nat} (n : Nat) (c : Nat → Int) (s0 s1 : Int) (hn : n < 1000) (hc : ∀ k, (c k).natAbs < 2 ^ 4000) (h0 : s0.natAbs < 2 ^ 70) (h1 : s1.natAbs < 2 ^ 70) : Gives (f_law_scaled N) [.lst (fl (n + 1) c), .tup [.int s0, .int s1]] (.sh (.tup [.lst (fl (n + 1) fun k => c k * s0), .int (c n * s1)])) := by
  have sl16 : sizeLine = 16777216 := sizeLine_eq
  refine gives_w rfl ?_
  unfold b_law_scaled
  walk_at "ww"
  refine ⟨by rw [fl_len]; omega, rfl, ?_⟩
  refine lc_w (fl (n + 1) fun k => c k * s0) (by rw [fl_len, fl_len]) ?_ rfl ?_
  · intro i d r g1 g2
    obtain ⟨hi, rfl⟩ := fl_get_inv g1
    obtain ⟨_, rfl⟩ := fl_get_inv g2
    refine ⟨_, rfl, ?_⟩
    walk_at "wk"
    · exact ⟨rfl, rfl⟩
    · exact mulOk_of (hc i) h0 (by decide)
  · refine ⟨_, rfl, rfl, ?_⟩
    walk_at "ww"
    refine ⟨_, _, rfl, k_idx fl_last, ?_⟩
    walk_at "wk"
    · rfl
    · exact mulOk_of (hc n) h1 (by decide)
end K22

set_option maxHeartbeats 400000
namespace K22
open PySem L2 Ml Pw
theorem kp_lin {N : Nat} (R : Int) : Gives (f_law_knot_poly N) [.tup [.int 1, .int R, .int 0], .int 1] (.fr (.lst [.int (-R), .int 1])) := by
  refine gives_w rfl ?_
  unfold b_law_knot_poly
  walk_at "ww"
  rfl
/-- the twelve-fold product of a whole root's factor -/
theorem product_g {N l : Nat} (hl : 1 ≤ l) (hl2 : l ≤ 40) (f : Fk) (hf : f.ok) (hu : f.u = 1) (hlin : f.lin = true) : ∃ P, Acc l (List.replicate 12 f) P ∧ Gives (f_law_product N) [.lst [.tup [.tup [.int 1, .int (f.r ^ l), .int 0], .int 12]], .int 1] (.sh (.lst (fl 13 P))) := by
  have dg : f.dg = 1 := by unfold Fk.dg; rw [hlin]; rfl
  have d12 : deg ((List.replicate 12 f).map Fk.c) = 12 := by rw [deg_rep, dg]
  have small : ∀ j, j ≤ 12 → deg ((List.replicate j f).map Fk.c) ≤ 12 ∧ (List.replicate j f).length ≤ 12 := fun j hj => by
    rw [deg_rep, dg, List.length_replicate]
    omega
  have kp := kp_lin (N := N) (f.r ^ l)
  have eD : D.lst (fl (f.dg + 1) (f.pw l)) = .lst [.int (-(f.r ^ l)), .int 1] := by
    have h := (lD_lin (k := l) hlin).2
    unfold lD at h
    rw [h, hu, Int.one_pow]
  have eO : Ob.lst [.int (-(f.r ^ l)), .int 1] = Ob.lst (fl (f.dg + 1) (f.pw l)) := by
    injection eD with h
    rw [h]
  rw [eO] at kp
  generalize f.r ^ l = R at kp ⊢
  obtain ⟨M, hM⟩ : ∃ M : Int, M = 12 := ⟨_, rfl⟩
  rw [← hM]
  obtain ⟨L, hL⟩ : ∃ L : List D, L = [.tup [.tup [.int 1, .int R, .int 0], .int M]] := ⟨_, rfl⟩
  rw [← hL]
  have w : ∃ P, Acc l (List.replicate 12 f) P ∧ wS (b_law_product N) ([D.lst L, D.int 1].map Sl.sh ++ List.replicate 4 .no) fun g _ => g = .rt (.sh (.lst (fl 13 P))) := by
    have lp := loop_inv (tg := .nm 5) (body := fgt [5] (mAsg 2 (mCall (f_law_mul N) [(mV 2), (mCall (f_law_knot_poly N) [(mV 3), (mV 1)])])))
      (fun j s => ∃ P o, Acc l (List.replicate j f) P ∧ s = [.sh (.lst L), .sh (.int 1), o, .sh (.tup [.int 1, .int R, .int 0]), .sh (.int M), .no] ∧ (o = .ow (.lst (fl (deg ((List.replicate j f).map Fk.c) + 1) P)) ∨ o = .sh (.lst (fl (deg ((List.replicate j f).map Fk.c) + 1) P))))
      (ds := rgD 0 M.toNat) (sl := [.sh (.lst L), .sh (.int 1), .ow (.lst [.int 1]), .sh (.tup [.int 1, .int R, .int 0]), .sh (.int M), .no]) ⟨_, _, acc_nil l, rfl, .inl rfl⟩ ?_
    · obtain ⟨s', e, P, o, A, rfl, ho⟩ := lp
      rw [rgD_len, show M.toNat = 12 from by omega] at A ho
      rw [d12] at ho
      refine ⟨P, A, ?_⟩
      unfold b_law_product
      walk_at "ww"
      refine loop_w (fun i s => (i = 0 ∧ s = [.sh (.lst L), .sh (.int 1), .ow (.lst [.int 1]), .no, .no, .no]) ∨ (i = 1 ∧ s = [.sh (.lst L), .sh (.int 1), o, .no, .no, .no])) (.inl ⟨rfl, rfl⟩) ?_ ?_
      · rintro i d s hd (⟨rfl, rfl⟩ | ⟨rfl, rfl⟩)
        · rw [hL] at hd
          cases hd
          refine ⟨_, rfl, ?_⟩
          walk_at "ww"
          · refine ⟨_, e, _, rfl, ?_⟩
            exact ⟨rfl, .inr ⟨rfl, rfl⟩⟩
          · exact rng1 (by omega) (by omega)
        · rw [hL] at hd
          cases hd
      · rintro s3 (⟨h, rfl⟩ | ⟨h, rfl⟩)
        · rw [hL] at h
          cases h
        · rcases ho with rfl | rfl
          · refine ⟨_, rfl, ?_⟩
            walk_at "ww"
            rfl
          · refine ⟨_, rfl, ?_⟩
            walk_at "ww"
            rfl
    · rintro j d s hj ⟨P, o, A, rfl, ho⟩
      obtain ⟨hj, rfl⟩ := rg0_get hj
      have sm := small j (by omega)
      have g := mul_step (N := N) (l := l) hl hl2 A hf sm.1 sm.2
      have A2 := acc_step (l := l) hl A hf sm.1
      refine ⟨_, rfl, ?_⟩
      have w : wS (fgt [5] (mAsg 2 (mCall (f_law_mul N) [(mV 2), (mCall (f_law_knot_poly N) [(mV 3), (mV 1)])]))) ([.sh (.lst L), .sh (.int 1), o, .sh (.tup [.int 1, .int R, .int 0]), .sh (.int M), .sh (.int (j : Nat))]) fun g s => g = .nx ∧ ∃ P o, Acc l (List.replicate (j + 1) f) P ∧ s = [.sh (.lst L), .sh (.int 1), o, .sh (.tup [.int 1, .int R, .int 0]), .sh (.int M), .no] ∧ (o = .ow (.lst (fl (deg ((List.replicate (j + 1) f).map Fk.c) + 1) P)) ∨ o = .sh (.lst (fl (deg ((List.replicate (j + 1) f).map Fk.c) + 1) P))) := by
        rcases ho with rfl | rfl
        · walk_at "ww"
          refine ⟨_, kp, ?_⟩
          walk_at "ww"
          refine ⟨_, g, ?_⟩
          exact ⟨_, rfl, rfl, rfl, _, _, A2, rfl, .inr rfl⟩
        · walk_at "ww"
          refine ⟨_, kp, ?_⟩
          walk_at "ww"
          refine ⟨_, g, ?_⟩
          exact ⟨_, rfl, rfl, rfl, _, _, A2, rfl, .inr rfl⟩
      obtain ⟨g, s2, e2, rfl, h2⟩ := w
      exact ⟨s2, e2, h2⟩
  obtain ⟨P, A, w⟩ := w
  exact ⟨P, A, gives_w rfl w⟩
end K22

set_option maxHeartbeats 400000
namespace K22
open PySem L2 Ml Pw
/-- what two factors with the same roots have in common -/
def Key (d : D) : Prop := ∃ a b c e g : Int, d = .tup [.tup [.int a, .int b], .tup [.int c, .int e], .int g]
theorem key_g {N : Nat} (hN : 64 ≤ N) (f : Fk) (hf : f.ok) : ∃ d, Key d ∧ Gives (f_law_key N) [f.d] (.sh d) := by
  have hu := hf.u
  have uu : (f.u * f.u).natAbs ≤ 49 := by
    rw [Int.natAbs_mul]
    exact Nat.mul_le_mul (by omega : f.u.natAbs ≤ 7) (by omega : f.u.natAbs ≤ 7)
  have u0 : f.u * f.u ≠ 0 := Int.mul_ne_zero (by omega) (by omega)
  have b9 : (64 : Nat) < 2 ^ 9000 := Nat.lt_of_lt_of_le (by decide : 64 < 2 ^ 7) (Nat.pow_le_pow_right (by omega) (by omega))
  obtain ⟨a, b, _, _, _, _, g1⟩ := low_g (N := N) f.r f.u (by omega) (by omega) (by omega)
  obtain ⟨c, e, _, _, _, _, g2⟩ := low_g (N := N) f.q (f.u * f.u) u0 (by omega) (by omega)
  refine ⟨_, ⟨a, b, c, e, (f.dg : Nat), rfl⟩, ?_⟩
  refine gives_w rfl ?_
  unfold b_law_key Fk.d
  walk_at "wk"
  refine ⟨_, g1, ?_⟩
  walk_at "wk"
  · refine ⟨_, g2, ?_⟩
    walk_at "wk"
    rfl
  · exact mulOk_of (m := 3) (k := 3) (by show f.u.natAbs < 8; omega) (by show f.u.natAbs < 8; omega) (by omega)
theorem notin_k {a : D} {l : List D} (ha : Key a) (hl : ∀ x ∈ l, Key x) (h : l.length ≤ 3) : ∃ b, fNotIn [a, .lst l] = some (.v (.bl b)) ∧ (l = [] → b = true) := by
  obtain ⟨_, _, _, _, _, rfl⟩ := ha
  match l, hl, h with
  | [], _, _ => exact ⟨_, rfl, fun _ => rfl⟩
  | [x], hl, _ =>
    obtain ⟨_, _, _, _, _, rfl⟩ := hl x (by simp)
    exact ⟨_, rfl, fun h => by cases h⟩
  | [x, y], hl, _ =>
    obtain ⟨_, _, _, _, _, rfl⟩ := hl x (by simp)
    obtain ⟨_, _, _, _, _, rfl⟩ := hl y (by simp)
    exact ⟨_, rfl, fun h => by cases h⟩
  | [x, y, z], hl, _ =>
    obtain ⟨_, _, _, _, _, rfl⟩ := hl x (by simp)
    obtain ⟨_, _, _, _, _, rfl⟩ := hl y (by simp)
    obtain ⟨_, _, _, _, _, rfl⟩ := hl z (by simp)
    exact ⟨_, rfl, fun h => by cases h⟩
  | _ :: _ :: _ :: _ :: _, _, h => simp only [List.length_cons] at h; omega
theorem l_choose {α β : Type} (P : α → β → Prop) : ∀ (l : List α), (∀ a ∈ l, ∃ b, P a b) → ∃ r : List β, r.length = l.length ∧ (∀ b ∈ r, ∃ a ∈ l, P a b) ∧ ∀ (i : Nat) (a : α) (b : β), l[i]? = some a → r[i]? = some b → P a b
  | [], _ => ⟨[], rfl, by simp, by simp⟩
  | a :: l, h => by
    obtain ⟨b, hb⟩ := h a (by simp)
    obtain ⟨r, h1, h2, h3⟩ := l_choose P l fun x hx => h x (by simp [hx])
    refine ⟨b :: r, by simp [h1], ?_, ?_⟩
    · intro y hy
      rcases List.mem_cons.mp hy with rfl | hy
      · exact ⟨a, by simp, hb⟩
      · obtain ⟨x, hx, hp⟩ := h2 y hy
        exact ⟨x, by simp [hx], hp⟩
    · intro i x y hx hy
      cases i with
      | zero => cases hx; cases hy; exact hb
      | succ i => exact h3 i x y hx hy
/-- factors without a common root -/
theorem pool_g {N : Nat} (hN : 64 ≤ N) (ns : List Int) (cm : Int) (o : Ob) (h : Bag ns cm o) (hc : cm < 1000000000) : GivesB (f_law_pool N) o [.int 4] fun rv o' => ∃ pool : List Fk, (pool.length ≤ 4 ∧ pool ≠ []) ∧ (∀ f ∈ pool, f.ok) ∧ rv = .sh (.lst (pool.map Fk.d)) ∧ Bag ns (cm + 20) o' := by
  have sl16 : sizeLine = 16777216 := sizeLine_eq
  refine givesB_w rfl ?_
  unfold b_law_pool
  refine wS_seq (wS_imp (Q := fun g s => g = .nx ∧ s = [.bo o, .sh (.int 4), .ow (.lst []), .no, .no, .no]) ?_ ?_)
  · walk_at "ww"
    exact ⟨rfl, rfl⟩
  rintro g s ⟨rfl, rfl⟩
  show wS _ _ _
  refine wS_seq (wS_imp (Q := fun g s => g = .nx ∧ ∃ (o1 : Ob) (pool : List Fk), s = [.bo o1, .sh (.int 4), .ow (.lst (pool.map Fk.d)), .no, .no, .no] ∧ (pool.length ≤ 4 ∧ pool ≠ []) ∧ (∀ f ∈ pool, f.ok) ∧ Bag ns (cm + 20) o1) ?_ ?_)
  · walk_at "ww"
    · refine loop_w (fun i s => ∃ (o1 : Ob) (pool : List Fk), s = [.bo o1, .sh (.int 4), .ow (.lst (pool.map Fk.d)), .no, .no, .no] ∧ (pool.length ≤ i ∧ (1 ≤ i → pool ≠ [])) ∧ (∀ f ∈ pool, f.ok) ∧ Bag ns (cm + 5 * i) o1) ⟨o, [], rfl, ⟨Nat.le_refl _, fun h => absurd h (by omega)⟩, by simp, h.mono (by omega)⟩ ?_ ?_
      · rintro i d s hd ⟨o1, pool, rfl, ⟨hl, hne⟩, hok, hb⟩
        obtain ⟨hi, rfl⟩ := rg0_get hd
        have hi4 : i < 4 := hi
        refine ⟨_, rfl, ?_⟩
        walk_at "ww"
        refine givesB_imp (factor_g (N := N) ns _ _ hb (by omega)) ?_
        rintro rv o2 ⟨f, hf, rfl, hb2⟩
        obtain ⟨k, hk, gk⟩ := key_g (N := N) hN f hf
        obtain ⟨r, r1, r2, r3⟩ := l_choose (fun (g : Fk) d => Key d ∧ Gives (f_law_key N) [g.d] (.sh d)) pool fun g hg => key_g hN g (hok g hg)
        obtain ⟨b, eb, ebn⟩ := notin_k hk (l := r) (fun x hx => by obtain ⟨_, _, h1, _⟩ := r2 x hx; exact h1) (by omega)
        walk_at "ww"
        refine ⟨_, gk, ?_⟩
        walk_at "ww"
        refine ⟨by rw [List.length_map]; omega, rfl, ?_⟩
        refine lc_w r (by rw [r1, List.length_map]) ?_ rfl ?_
        · intro j d x g1 g2
          rw [List.getElem?_map] at g1
          cases e : pool[j]? with
          | none => rw [e] at g1; cases g1
          | some g =>
            rw [e] at g1
            cases g1
            refine ⟨_, rfl, ?_⟩
            walk_at "ww"
            exact ⟨_, (r3 j g x e g2).2, rfl, rfl⟩
        · refine ⟨_, rfl, rfl, ?_⟩
          walk_at "ww"
          refine ⟨_, _, rfl, eb, ?_⟩
          cases b with
          | true =>
            walk_at "ww"
            refine ⟨by rw [List.length_map]; omega, rfl, o2, pool ++ [f], ?_, ⟨by rw [List.length_append]; show pool.length + 1 ≤ i + 1; omega, fun _ => by simp⟩, fun g hg => ?_, hb2.mono (by omega)⟩
            · rw [List.map_append]
              rfl
            · rcases List.mem_append.mp hg with q | q
              · exact hok g q
              · rw [List.mem_singleton.mp q]
                exact hf
          | false =>
            walk_at "ww"
            exact ⟨rfl, o2, pool, rfl, ⟨by omega, fun _ q => by rw [q] at r1; cases ebn (List.eq_nil_of_length_eq_zero r1)⟩, hok, hb2.mono (by omega)⟩
      · rintro s3 ⟨o1, pool, rfl, hl, hok, hb⟩
        have : (rgD 0 (Int.toNat 4)).length = 4 := rgD_len
        rw [this] at hl hb
        exact ⟨_, rfl, rfl, o1, pool, rfl, ⟨hl.1, hl.2 (by omega)⟩, hok, hb.mono (by omega)⟩
    · exact rng1 (by omega) (by omega)
  · rintro g s ⟨rfl, o1, pool, rfl, hl, hok, hb⟩
    show wS _ _ _
    walk_at "ww"
    exact ⟨_, _, _, rfl, rfl, pool, hl, hok, rfl, hb⟩
end K22

set_option maxHeartbeats 400000
namespace K22
open PySem L2 Ml Pw
theorem lc_ex_aux {vs : List Nat} {tg : Tg} {te : M} (I : Nat → List Sl → Prop) (P : Nat → D → Prop) (all : List D)
    (hs : ∀ (i : Nat) (d : D) (sl : List Sl), all[i]? = some d → I i sl → ∃ s1, stT tg d sl = some s1 ∧ wE te s1 fun rv s2 => P i rv.d ∧ heldLe sl (fgs vs s2) = true ∧ I (i + 1) (fgs vs s2)) :
    ∀ (ds pre : List D) (sl : List Sl), all = pre ++ ds → I pre.length sl → ∃ rs s', lcF vs tg mYes te ds sl = .ok (rs, s') ∧ rs.length = ds.length ∧ (∀ (i : Nat) (r : D), rs[i]? = some r → P (pre.length + i) r) ∧ I all.length s' := by
  intro ds
  induction ds with
  | nil =>
    intro pre sl e h
    subst e
    exact ⟨[], sl, rfl, rfl, by simp, by simpa using h⟩
  | cons d ds ih =>
    intro pre sl e h
    obtain ⟨s1, e1, rv, s2, e2, e3, e4, i2⟩ := hs pre.length d sl (by rw [e]; simp) h
    obtain ⟨rs, s', e5, l5, p5, i3⟩ := ih (pre ++ [d]) (fgs vs s2) (by rw [e]; simp) (by simpa using i2)
    refine ⟨rv.d :: rs, s', ?_, by simp [l5], ?_, i3⟩
    · unfold lcF
      rw [e1]
      simp only [mYes, if_true]
      rw [e2]
      simp only [e4, if_true]
      rw [e5]
    · intro i r hr
      cases i with
      | zero => cases hr; exact e3
      | succ i =>
        have := p5 i r hr
        have el : (pre ++ [d]).length + i = pre.length + (i + 1) := by rw [List.length_append]; show pre.length + 1 + i = _; omega
        rw [el] at this
        exact this
/-- a comprehension of which only a property of what it gives is known -/
theorem lc_ex {vs : List Nat} {tg : Tg} {te : M} {ds : List D} {sl : List Sl} {R : List D → List Sl → Prop} (I : Nat → List Sl → Prop) (P : Nat → D → Prop) (h0 : I 0 sl)
    (hs : ∀ (i : Nat) (d : D) (s : List Sl), ds[i]? = some d → I i s → ∃ s1, stT tg d s = some s1 ∧ wE te s1 fun rv s2 => P i rv.d ∧ heldLe s (fgs vs s2) = true ∧ I (i + 1) (fgs vs s2))
    (hq : ∀ rs s', rs.length = ds.length → (∀ (i : Nat) (r : D), rs[i]? = some r → P i r) → I ds.length s' → R rs s') :
    ∃ rs' s3, lcF vs tg mYes te ds sl = .ok (rs', s3) ∧ R rs' s3 := by
  obtain ⟨rs, s', e, l, p, i⟩ := lc_ex_aux (vs := vs) (tg := tg) (te := te) I P ds hs ds [] sl rfl h0
  refine ⟨rs, s', e, hq rs s' l (fun i r h => ?_) i⟩
  have := p i r h
  simpa using this
/-- a polynomial to hand in -/
theorem poly_g {N : Nat} (ns : List Int) (cm : Int) (o : Ob) (h : Bag ns cm o) (hc : cm < 1000000000) (n : Nat) (hn : n < 1000) (c : Nat → Int) (b : Int) (h0 : b ≠ 0) (hN : b.natAbs < N) (hb : b.natAbs < 2 ^ 8000) :
    GivesB (f_law_poly N) o [.lst (fl n c), .int b] fun rv o' => ∃ ds : List D, ds.length = n ∧ (∀ k, k < n → ∃ d, ds[k]? = some d ∧ Num d ((c k : Rat) / (b : Rat))) ∧ rv = .sh (.tup ds) ∧ Bag ns (cm + 1000) o' := by
  have sl16 : sizeLine = 16777216 := sizeLine_eq
  refine givesB_w rfl ?_
  unfold b_law_poly
  walk_at "ww"
  refine ⟨by rw [fl_len]; omega, rfl, ?_⟩
  refine lc_ex (fun i s => ∃ o1, s = [.bo o1, .sh (.lst (fl n c)), .sh (.int b), .no] ∧ Bag ns (cm + i) o1) (fun i d => Num d ((c i : Rat) / (b : Rat))) ⟨o, rfl, h.mono (by omega)⟩ ?_ ?_
  · rintro i d s g1 ⟨o1, rfl, hb1⟩
    obtain ⟨hi, rfl⟩ := fl_get_inv g1
    refine ⟨_, rfl, ?_⟩
    walk_at "ww"
    refine givesB_imp (number_g (N := N) ns _ _ hb1 (by omega) (c i) b h0 hN hb) ?_
    rintro rv o2 ⟨hn2, hb2⟩
    exact ⟨hn2, rfl, o2, rfl, hb2.mono (by omega)⟩
  · rintro rs s' hl hp ⟨o1, rfl, hb1⟩
    rw [fl_len] at hl hb1
    refine ⟨_, rfl, rfl, ?_⟩
    walk_at "ww"
    refine ⟨_, _, _, rfl, rfl, rs, hl, fun k hk => ?_, rfl, hb1.mono (by omega)⟩
    have hlt : k < rs.length := by omega
    exact ⟨rs[k], List.getElem?_eq_getElem hlt, hp k _ (List.getElem?_eq_getElem hlt)⟩
end K22

set_option maxHeartbeats 400000
namespace K22
open PySem L2 Ml Pw
/-! ### what is raised -/
def Throws (f : MF) (ds : List D) (c : Nat) (ns : List Str) (es : List D) : Prop := ∃ sl, f (ds.map Sl.sh) = .exc c ns es sl
def xS (m : MS) (sl : List Sl) (c : Nat) (ns : List Str) (es : List D) (Q : List Sl → Prop) : Prop := ∃ s, m sl = .exc c ns es s ∧ Q s
def xE (m : M) (sl : List Sl) (c : Nat) (ns : List Str) (es : List D) (Q : List Sl → Prop) : Prop := ∃ s, m sl = .exc c ns es s ∧ Q s
section
variable {sl : List Sl} {c : Nat} {ns : List Str} {es : List D} {Q : List Sl → Prop} {a b : MS}
theorem xS_if {t : TB} (h : wT t sl fun b' s => if b' = true then xS a s c ns es Q else xS b s c ns es Q) : xS (mIfS t a b) sl c ns es Q := by
  obtain ⟨b', s, e, h⟩ := h
  unfold xS mIfS
  rw [e]
  simp only
  split
  · rename_i q
    rw [if_pos q] at h
    exact h
  · rename_i q
    rw [if_neg q] at h
    exact h
theorem xS_raise {f1 f2 : Str} {as : List M} {d1 d2 : D} (h : wA (evFs as) sl fun rs s => getAll s rs = some [d1, d2] ∧ Q s) : xS (mRaise c f1 f2 as) sl c [f2, f1] [d2, d1] Q := by
  obtain ⟨rs, s, e, g, q⟩ := h
  refine ⟨s, ?_, q⟩
  unfold mRaise
  rw [e]
  simp only
  rw [g]
theorem xS_seq1 (h : xS a sl c ns es Q) : xS (mSeq a b) sl c ns es Q := by
  obtain ⟨s, e, q⟩ := h
  refine ⟨s, ?_, q⟩
  unfold mSeq
  rw [e]
theorem xS_seq2 (h : wS a sl fun f s => f = .nx ∧ xS b s c ns es Q) : xS (mSeq a b) sl c ns es Q := by
  obtain ⟨f, s, e, rfl, h⟩ := h
  unfold xS mSeq
  rw [e]
  exact h
theorem xS_ex {m : M} (h : xE m sl c ns es Q) : xS (mEx m) sl c ns es Q := by
  obtain ⟨s, e, q⟩ := h
  refine ⟨s, ?_, q⟩
  unfold mEx
  rw [e]
theorem xE_call {g : MF} {ms : List M} (h : wA (evFs ms) sl fun rs s => ∃ ds, getAll s rs = some ds ∧ Throws g ds c ns es ∧ Q s) : xE (mCall g ms) sl c ns es Q := by
  obtain ⟨rs, s, e, ds, g1, ⟨s2, t⟩, q⟩ := h
  refine ⟨s, ?_, q⟩
  unfold mCall
  rw [e]
  simp only
  rw [g1]
  simp only
  unfold runF
  rw [t]
theorem throws_fn {n k : Nat} {body : MS} {ds : List D} (hn : ds.length = n) (h : xS body (ds.map Sl.sh ++ List.replicate k .no) c ns es fun _ => True) : Throws (mFn n k body) ds c ns es := by
  obtain ⟨s, e, _⟩ := h
  refine ⟨s.take n, ?_⟩
  unfold mFn
  rw [if_pos (by simpa using hn), e]
theorem wS_try2 {j : Nat} {f1 f2 : Str} {d1 d2 : D} {Q' : Fl → List Sl → Prop} (h : xS a sl c ns es fun s => j < s.length ∧ (ns.zip es).lookup f1 = some d1 ∧ (ns.zip es).lookup f2 = some d2 ∧ Q' (.rt (.sh (.tup [d1, d2]))) s) : wS (mTry2 j c f1 f2 a) sl Q' := by
  obtain ⟨s, e, h1, h2, h3, q⟩ := h
  refine ⟨_, s, ?_, q⟩
  unfold mTry2
  rw [e]
  simp only
  rw [if_pos ⟨trivial, h1⟩, h2, h3]
end
theorem bounded_x {N : Nat} (ds : List D) (h : ds.length = 14) : Throws (f_bounded N) [.tup ds, .int 12] 2 ["most", "what"] [.int 12, .str "polynomial"] := by
  refine throws_fn rfl ?_
  unfold b_bounded
  refine xS_if ?_
  walk_at "ww"
  rw [h]
  walk_at "ww"
  trivial
theorem refused_g {N : Nat} {p : D} {b : Int} {w : Str} (h : Throws (f_pairs N) [p] 2 ["most", "what"] [.int b, .str w]) : Gives (f_law_refused N) [p] (.sh (.tup [.str w, .int b])) := by
  refine gives_w rfl ?_
  unfold b_law_refused
  refine wS_seq ?_
  refine wS_try2 (d1 := .str w) (d2 := .int b) (ns := ["most", "what"]) (es := [.int b, .str w]) (xS_ex (xE_call ?_))
  walk_at "ww"
  refine ⟨h, ?_⟩
  exact ⟨by show 1 < 2; decide, rfl, rfl, rfl⟩
theorem k_eqS {x : Str} (h : SeqAt.shaped (.str x) = true) : fEq [.str x, .str x] = some (.v (.bl true)) := by
  show (if SeqAt.shaped (.str x) = true ∧ SeqAt.shaped (.str x) = true then some (RK.v (.bl (PyData.eqv (.str x) (.str x)))) else none) = _
  rw [if_pos ⟨h, h⟩]
  have : PyData.eqv (.str x) (.str x) = true := by
    simp [PyData.eqv]
  rw [this]
theorem k_eq1 : fEq [.str "polynomial", .str "polynomial"] = some (.v (.bl true)) := k_eqS (by decide +kernel)
theorem k_eq2 : fEq [.str "powers", .str "powers"] = some (.v (.bl true)) := k_eqS (by decide +kernel)
theorem is_too1 {N : Nat} : Gives (f_law_is_too N) [.tup [.str "polynomial", .int 12], .str "polynomial", .int 12] (.sh (.bl true)) := by
  refine gives_w rfl ?_
  unfold b_law_is_too
  walk_at "ww"
  refine ⟨_, is_int_g _, ?_⟩
  walk_at "ww"
  refine ⟨_, _, rfl, k_eq1, ?_⟩
  walk_at "ww"
  rfl
end K22

set_option maxHeartbeats 400000
namespace K22
open PySem L2 Ml Pw
theorem pwF_pw (a l : Nat) (f : Fc) : pwF l (pwF a f) = pwF (a * l) f := by
  unfold pwF
  simp only
  rw [tr_pow, rpow_mul]
theorem pwF_one (f : Fc) : pwF 1 f = f := by
  have h1 : tr f.t f.q 1 = f.t := rfl
  have h2 : f.q ^ 1 = f.q := by rw [Rat.pow_succ, Rat.pow_zero, Rat.one_mul]
  unfold pwF
  rw [h1, h2]
/-- the factors' l-th powers -/
def pL (l : Nat) (acc : List Fk) : List Fc := acc.map fun f => pwF l f.c
theorem pL_pw (a l : Nat) (acc : List Fk) : (pL a acc).map (pwF l) = pL (a * l) acc := by
  unfold pL
  rw [List.map_map]
  exact List.map_congr_left fun f _ => pwF_pw a l f.c
theorem pL_deg (l : Nat) : ∀ acc : List Fk, deg (pL l acc) = deg (acc.map Fk.c)
  | [] => rfl
  | f :: r => by
    show deg (pL l r) + f.dg = deg (r.map Fk.c) + f.dg
    rw [pL_deg l r]
theorem pL_ok {l : Nat} (hl : 1 ≤ l) {acc : List Fk} (h : ∀ f ∈ acc, f.ok) : ∀ f ∈ pL l acc, okF f := by
  intro f hf
  obtain ⟨g, hg, rfl⟩ := List.mem_map.mp hf
  exact ok_pw hl (Fk.okc (h g hg))
theorem acc_len {acc : List Fk} (hd : deg (acc.map Fk.c) ≤ 12) : acc.length ≤ 12 := Nat.le_trans (len_deg _) hd
theorem acc_bd {l : Nat} {acc : List Fk} {P : Nat → Int} (A : Acc l acc P) (hd : deg (acc.map Fk.c) ≤ 12) (m : Nat) (hm : (7 * l + 8) * 12 + 1 ≤ m) : ∀ k, (P k).natAbs < 2 ^ m := fun k => by
  have h := A.bd k
  have : (7 * l + 8) * acc.length ≤ (7 * l + 8) * 12 := Nat.mul_le_mul_left _ (acc_len hd)
  exact Nat.lt_of_lt_of_le h (Nat.pow_le_pow_right (by omega) (by omega))
/-- powers is asked, and what it tells is looked at -/
theorem ask_p {N : Nat} (hN : 2 ^ 4000 ≤ N) (acc : List Fk) (hok : ∀ f ∈ acc, f.ok) (n : Nat) (hdeg : deg (acc.map Fk.c) = n) (hd : n ≤ 12) (a l : Nat) (ha : 1 ≤ a) (hl : 1 ≤ l) (hal : a * l ≤ 40) (D' : Nat → Int) (P : Pol n D' (eL (pL (a * l) acc))) (bd : ∀ k, (D' k).natAbs < 2 ^ 4000)
    (ds : List D) (x : Nat → Rat) (U : Int) (z : Nat → Int) (hlen : ds.length = n + 1) (hx : ∀ k, k < n + 1 → ∃ d, ds[k]? = some d ∧ Num d (x k)) (hU : 0 < U) (hU2 : U.natAbs < 2 ^ 2000) (hz : ∀ k, k < n + 1 → (U : Rat) * x k = (z k : Rat)) (hzb : ∀ k, k < n + 1 → (z k).natAbs < 2 ^ 2000)
    (hxn : x n ≠ 0) (hxe : ∀ k, k ≤ n → x (n - k) = eL (pL a acc) k * x n) :
    ∃ es : List D, es.length = n + 1 ∧ (∀ k, k < n + 1 → ∃ d, es[k]? = some d ∧ NumS d (eL (pL (a * l) acc) (n - k))) ∧ Gives (f_powers N) [.tup ds, .int l] (.sh (.tup es)) ∧ Gives (f_law_monic N) [.tup es, .lst (fl (n + 1) D')] (.sh (.bl true)) := by
  have l40 : l ≤ 40 := Nat.le_trans (Nat.le_mul_of_pos_left l (by omega)) hal
  obtain ⟨es, h1, h2, h3⟩ := powers_g (N := N) n l (pL a acc) ds x U z D' hd hl l40 (pL_ok ha hok) (by rw [pL_deg, hdeg]) hlen hx hU hU2 hz hzb hxn hxe P.lead (by rw [pL_pw]; exact P.rel) bd
  rw [pL_pw] at h2
  refine ⟨es, h1, h2, h3, ?_⟩
  refine lmonic_g n es (fun k => eL (pL (a * l) acc) (n - k)) D' (by omega) h1 h2 P.lead (fun k hk => ?_) (fun k _ => bd k) (Nat.lt_of_lt_of_le (bd n) hN)
  have h := P.rel (n - k) (by omega)
  rw [show n - (n - k) = k from by omega] at h
  rw [h, Rat.mul_comm]
theorem Acc.p {l n : Nat} {acc : List Fk} {D' : Nat → Int} (A : Acc l acc D') (hdeg : deg (acc.map Fk.c) = n) : Pol n D' (eL (pL l acc)) := by
  have P := A.pol
  rw [hdeg] at P
  exact P
theorem ask_g {N : Nat} (hN : 2 ^ 4000 ≤ N) (acc : List Fk) (hok : ∀ f ∈ acc, f.ok) (n : Nat) (hdeg : deg (acc.map Fk.c) = n) (hd : n ≤ 12) (a l : Nat) (ha : 1 ≤ a) (hl : 1 ≤ l) (hal : a * l ≤ 40) (D' : Nat → Int) (A : Acc (a * l) acc D')
    (ds : List D) (x : Nat → Rat) (U : Int) (z : Nat → Int) (hlen : ds.length = n + 1) (hx : ∀ k, k < n + 1 → ∃ d, ds[k]? = some d ∧ Num d (x k)) (hU : 0 < U) (hU2 : U.natAbs < 2 ^ 2000) (hz : ∀ k, k < n + 1 → (U : Rat) * x k = (z k : Rat)) (hzb : ∀ k, k < n + 1 → (z k).natAbs < 2 ^ 2000)
    (hxn : x n ≠ 0) (hxe : ∀ k, k ≤ n → x (n - k) = eL (pL a acc) k * x n) :
    ∃ es : List D, es.length = n + 1 ∧ (∀ k, k < n + 1 → ∃ d, es[k]? = some d ∧ NumS d (eL (pL (a * l) acc) (n - k))) ∧ Gives (f_powers N) [.tup ds, .int l] (.sh (.tup es)) ∧ Gives (f_law_monic N) [.tup es, .lst (fl (n + 1) D')] (.sh (.bl true)) :=
  ask_p hN acc hok n hdeg hd a l ha hl hal D' (A.p hdeg) (acc_bd A (by omega) 4000 (by omega)) ds x U z hlen hx hU hU2 hz hzb hxn hxe
end K22

set_option maxHeartbeats 400000
namespace K22
open PySem L2 Ml Pw
theorem Acc.congr {l : Nat} {acc : List Fk} {P P' : Nat → Int} (A : Acc l acc P) (h : ∀ k, P k = P' k) : Acc l acc P' := by
  have e : P = P' := funext h
  rw [← e]
  exact A
theorem acc_sing {l : Nat} (hl : 1 ≤ l) {f : Fk} (h : f.ok) : Acc l [f] (f.pw l) := by
  have A := acc_step hl (acc_nil l) h (by show 0 ≤ 12; omega)
  refine A.congr fun k => ?_
  show rowS _ (f.pw l) (0 + 1) k = _
  unfold rowS
  simp [smI]
theorem pL_one (acc : List Fk) : pL 1 acc = acc.map Fk.c := by
  unfold pL
  exact List.map_congr_left fun f _ => pwF_one f.c
/-- .. of a whole list of numbers -/
theorem ask_int {N : Nat} (hN : 2 ^ 4000 ≤ N) (acc : List Fk) (hok : ∀ f ∈ acc, f.ok) (n : Nat) (hdeg : deg (acc.map Fk.c) = n) (hd : n ≤ 12) (l : Nat) (hl : 1 ≤ l) (hal : l ≤ 40) (P D' : Nat → Int) (A1 : Acc 1 acc P) (A : Acc l acc D') :
    ∃ es : List D, Gives (f_powers N) [.tup (fl (n + 1) P), .int l] (.sh (.tup es)) ∧ Gives (f_law_monic N) [.tup es, .lst (fl (n + 1) D')] (.sh (.bl true)) := by
  have hd' : deg (acc.map Fk.c) ≤ 12 := by omega
  have bd : ∀ k, (P k).natAbs < 2 ^ 2000 := acc_bd A1 hd' 2000 (by omega)
  have Pp := A1.pol
  rw [hdeg] at Pp
  have A' : Acc (1 * l) acc D' := by rw [Nat.one_mul]; exact A
  obtain ⟨es, _, _, h3, h4⟩ := ask_g hN acc hok n hdeg hd 1 l (Nat.le_refl _) hl (by omega) D' A' (fl (n + 1) P) (fun k => (P k : Rat)) 1 P fl_len (fun k hk => ⟨_, fl_get hk, .int _⟩) (by decide) (Nat.lt_of_lt_of_le (by decide : (1 : Int).natAbs < 2 ^ 1) (Nat.pow_le_pow_right (by omega) (by omega))) (fun k _ => by
    have : ((1 : Int) : Rat) = 1 := rfl
    rw [this, Rat.one_mul]) (fun k _ => bd k) (ratnz Pp.lead) (fun k hk => Pp.rel k hk)
  exact ⟨es, h3, h4⟩
end K22

set_option maxHeartbeats 400000
namespace K22
open PySem L2 Ml Pw
theorem wE_sl63 {xs : List D} {r : List Sl} {Q : RV → List Sl → Prop} (q : Q (.fr (.lst (ixP xs none (some 63)))) (.sh (.scr xs) :: r)) : wE (mSl (.b 0) none (some (mC (D.int (63))))) (.sh (.scr xs) :: r) Q := ⟨_, _, rfl, q⟩
theorem ix63 {xs : List D} (h : xs.length ≤ 63) : ixP xs none (some 63) = xs := by
  unfold ixP
  rw [show HT.sIx xs.length xs.length (some 63) = min 63 xs.length from HT.sIx_nat _ _ 63, HT.sIx_none, List.drop_zero]
  exact List.take_of_length_le (by omega)
theorem bag_g {N : Nat} (ns : List Int) (h : ns.length ≤ 63) : ∃ o, Bag ns 0 o ∧ Gives (f_law_bag N) [.scr (ns.map D.int)] (.fr o) := by
  have sl16 : sizeLine = 16777216 := sizeLine_eq
  have e63 : ixP (ns.map D.int) none (some 63) = ns.map D.int := ix63 (by rw [List.length_map]; exact h)
  have w : ∃ o, Bag ns 0 o ∧ wS (b_law_bag N) ([D.scr (ns.map D.int)].map Sl.sh ++ List.replicate 2 .no) fun f _ => f = .rt (.fr o) := by
    have lp := loop_inv (tg := .nm 2) (body := fgt [2] (mAsg 1 (mOp fMod [(.e (mOp fInt1 [(.e (mOp fAdd [(.e (mOp fAdd [(.e (mOp fMul [(.b 1), (.e (mC (D.int (48611))))])), (.e (mOp fMod [(.e (mOp fInt1 [(.b 2)])), (.e (mC (D.int (2147483549))))]))])), (.e (mC (D.int (919))))]))])), (.e (mC (D.int (2147483563))))])))
      (fun i s => ∃ t : Int, 0 ≤ t ∧ t < 2147483563 ∧ s = [.sh (.scr (ns.map D.int)), .sh (.int t), .no]) (ds := ns.map D.int) (sl := [.sh (.scr (ns.map D.int)), .sh (.int 2200371), .no]) ⟨_, by decide, by decide, rfl⟩ ?_
    · obtain ⟨s', e, t, t0, t1, rfl⟩ := lp
      refine ⟨bagO ns 0 0 t 0, ⟨_, _, _, _, rfl, ⟨⟨by decide, by omega⟩, by decide, ⟨t0, t1⟩, by decide⟩⟩, ?_⟩
      unfold b_law_bag
      walk_at "ww"
      refine wE_sl63 ?_
      rw [e63]
      walk_at "ww"
      refine ⟨_, e, _, rfl, ?_⟩
      walk_at "ww"
      refine wE_sl63 ?_
      rw [e63]
      walk_at "ww"
      rfl
    · rintro i d s hd ⟨t, t0, t1, rfl⟩
      rw [List.getElem?_map] at hd
      cases e : ns[i]? with
      | none => rw [e] at hd; cases hd
      | some v =>
        rw [e] at hd
        cases hd
        refine ⟨_, rfl, ?_⟩
        have w : wS (fgt [2] (mAsg 1 (mOp fMod [(.e (mOp fInt1 [(.e (mOp fAdd [(.e (mOp fAdd [(.e (mOp fMul [(.b 1), (.e (mC (D.int (48611))))])), (.e (mOp fMod [(.e (mOp fInt1 [(.b 2)])), (.e (mC (D.int (2147483549))))]))])), (.e (mC (D.int (919))))]))])), (.e (mC (D.int (2147483563))))]))) [.sh (.scr (ns.map D.int)), .sh (.int t), .sh (.int v)] fun g s => g = .nx ∧ ∃ t : Int, 0 ≤ t ∧ t < 2147483563 ∧ s = [.sh (.scr (ns.map D.int)), .sh (.int t), .no] := by
          walk_at "wk"
          · exact ⟨rfl, _, (fm _ (by decide)).1, (fm _ (by decide)).2, rfl⟩
          · decide
          · decide
          · exact mulOk_of (m := 32) (k := 16) (by show t.natAbs < 4294967296; omega) (by decide) (by decide)
        obtain ⟨g, s2, e2, rfl, h2⟩ := w
        exact ⟨s2, e2, h2⟩
  obtain ⟨o, hb, w⟩ := w
  exact ⟨o, hb, gives_w rfl w⟩
end K22

set_option maxHeartbeats 400000
namespace K22
open PySem L2 Ml Pw
theorem zip_fst : ∀ (pool : List Fk) (ms : List Nat), ms.length = pool.length → (pool.zip ms).map (fun p => p.1.d) = pool.map Fk.d ∧ (pool.zip ms).map (fun p => D.int (p.2 : Nat)) = ms.map fun m => D.int (m : Nat)
  | [], [], _ => ⟨rfl, rfl⟩
  | [], _ :: _, h => by cases h
  | _ :: _, [], h => by cases h
  | f :: r, m :: ms, h => by
    have ih := zip_fst r ms (by simpa using h)
    exact ⟨by rw [List.zip_cons_cons, List.map_cons, List.map_cons, ih.1], by rw [List.zip_cons_cons, List.map_cons, List.map_cons, ih.2]⟩
theorem ac_mem : ∀ (l : List (Fk × Nat)) (acc : List Fk), (∀ p ∈ l, p.1.ok) → (∀ f ∈ acc, f.ok) → ∀ f ∈ l.foldl (fun acc p => List.replicate p.2 p.1 ++ acc) acc, f.ok
  | [], acc, _, h, f, hf => h f hf
  | p :: r, acc, hl, h, f, hf => by
    refine ac_mem r (List.replicate p.2 p.1 ++ acc) (fun q hq => hl q (List.mem_cons_of_mem _ hq)) (fun g hg => ?_) f hf
    rcases List.mem_append.mp hg with hg | hg
    · rw [List.eq_of_mem_replicate hg]
      exact hl p List.mem_cons_self
    · exact h g hg
theorem Pol.scale {n : Nat} {a : Nat → Int} {e : Nat → Rat} (P : Pol n a e) {s : Int} (h : s ≠ 0) : Pol n (fun k => a k * s) e := by
  refine ⟨Int.mul_ne_zero P.lead h, fun k hk => ?_, fun k hk => ?_, P.ez⟩
  · show ((a (n - k) * s : Int) : Rat) = e k * ((a n * s : Int) : Rat)
    rw [Rat.intCast_mul, Rat.intCast_mul, P.rel k hk, Rat.mul_assoc]
  · show a k * s = 0
    rw [P.out k hk, Int.zero_mul]
theorem mul_bd {a b : Int} {m k j : Nat} (ha : a.natAbs < 2 ^ m) (hb : b.natAbs < 2 ^ k) (h : m + k ≤ j) : (a * b).natAbs < 2 ^ j := by
  rw [Int.natAbs_mul]
  refine Nat.lt_of_lt_of_le ?_ (Nat.pow_le_pow_right (n := 2) (by omega) h)
  rw [Nat.pow_add]
  exact Nat.mul_lt_mul'' ha hb
/-- what was handed in: whole numbers c by one number b -/
theorem ask_frac {N : Nat} (hN : 2 ^ 4000 ≤ N) (acc : List Fk) (hok : ∀ f ∈ acc, f.ok) (n : Nat) (hdeg : deg (acc.map Fk.c) = n) (hd : n ≤ 12) (l : Nat) (hl : 1 ≤ l) (hal : l ≤ 40) (D' : Nat → Int) (PD : Pol n D' (eL (pL l acc))) (bd : ∀ k, (D' k).natAbs < 2 ^ 4000)
    (c : Nat → Int) (b : Int) (PC : Pol n c (eL (acc.map Fk.c))) (hb : b ≠ 0) (hb2 : b.natAbs < 2 ^ 2000) (hcb : ∀ k, (c k).natAbs < 2 ^ 2000) (ds : List D) (hlen : ds.length = n + 1) (hx : ∀ k, k < n + 1 → ∃ d, ds[k]? = some d ∧ Num d ((c k : Rat) / (b : Rat))) :
    ∃ es : List D, es.length = n + 1 ∧ (∀ k, k < n + 1 → ∃ d, es[k]? = some d ∧ NumS d (eL (pL l acc) (n - k))) ∧ Gives (f_powers N) [.tup ds, .int l] (.sh (.tup es)) ∧ Gives (f_law_monic N) [.tup es, .lst (fl (n + 1) D')] (.sh (.bl true)) := by
  have br := ratnz hb
  obtain ⟨s, hs1, hs2⟩ : ∃ s : Int, s.natAbs = 1 ∧ b * s = (b.natAbs : Int) := by
    by_cases q : 0 ≤ b
    · exact ⟨1, rfl, by omega⟩
    · exact ⟨-1, rfl, by omega⟩
  have PD' : Pol n D' (eL (pL (1 * l) acc)) := by rw [Nat.one_mul]; exact PD
  have h := ask_p hN acc hok n hdeg hd 1 l (Nat.le_refl _) hl (by omega) D' PD' bd ds (fun k => (c k : Rat) / (b : Rat)) (b.natAbs : Int) (fun k => c k * s) hlen hx (by omega) (by rw [Int.natAbs_natCast]; exact hb2) (fun k _ => by
    rw [← hs2, Rat.intCast_mul, Rat.intCast_mul, Rat.div_def]
    have : (b : Rat) * (b : Rat)⁻¹ = 1 := Rat.mul_inv_cancel _ br
    grind) (fun k _ => by rw [Int.natAbs_mul, hs1, Nat.mul_one]; exact hcb k) (by
    have := ratnz PC.lead
    intro q
    rw [Rat.div_def] at q
    rcases Rat.mul_eq_zero.mp q with q | q
    · exact this q
    · have : (b : Rat) * (b : Rat)⁻¹ = 1 := Rat.mul_inv_cancel _ br
      rw [q] at this
      grind) (fun k hk => by
    show ((c (n - k) : Int) : Rat) / (b : Rat) = _ * ((c n : Rat) / (b : Rat))
    rw [PC.rel k hk, pL_one, Rat.div_def, Rat.div_def, Rat.mul_assoc])
  rw [Nat.one_mul] at h
  exact h
/-- powers of powers -/
theorem ask_again {N : Nat} (hN : 2 ^ 4000 ≤ N) (acc : List Fk) (hok : ∀ f ∈ acc, f.ok) (n : Nat) (hdeg : deg (acc.map Fk.c) = n) (hd : n ≤ 12) (a l : Nat) (ha : 1 ≤ a) (ha3 : a ≤ 3) (hl : 1 ≤ l) (hal : a * l ≤ 40) (C D' : Nat → Int) (AC : Acc a acc C) (AD : Acc (a * l) acc D')
    (ds : List D) (hlen : ds.length = n + 1) (hx : ∀ k, k < n + 1 → ∃ d, ds[k]? = some d ∧ NumS d (eL (pL a acc) (n - k))) :
    ∃ es : List D, Gives (f_powers N) [.tup ds, .int l] (.sh (.tup es)) ∧ Gives (f_law_monic N) [.tup es, .lst (fl (n + 1) D')] (.sh (.bl true)) := by
  have PC := AC.p hdeg
  have b0 := PC.lead
  have bd : ∀ k, (C k).natAbs < 2 ^ 2000 := acc_bd AC (by omega) 2000 (by omega)
  have br := ratnz b0
  obtain ⟨s, hs1, hs2⟩ : ∃ s : Int, s.natAbs = 1 ∧ C n * s = ((C n).natAbs : Int) := by
    by_cases q : 0 ≤ C n
    · exact ⟨1, rfl, by omega⟩
    · exact ⟨-1, rfl, by omega⟩
  have e0 : eL (pL a acc) 0 = 1 := eL_one _
  obtain ⟨es, _, _, h3, h4⟩ := ask_g hN acc hok n hdeg hd a l ha hl hal D' AD ds (fun k => eL (pL a acc) (n - k)) ((C n).natAbs : Int) (fun k => C k * s) hlen (fun k hk => by
    obtain ⟨d, h1, h2⟩ := hx k hk
    exact ⟨d, h1, h2.num⟩) (by omega) (by rw [Int.natAbs_natCast]; exact bd n) (fun k hk => by
    have h := PC.rel (n - k) (by omega)
    rw [show n - (n - k) = k from by omega] at h
    show _ * eL (pL a acc) (n - k) = ((C k * s : Int) : Rat)
    rw [← hs2, Rat.intCast_mul, Rat.intCast_mul, h]
    grind) (fun k _ => by show (C k * s).natAbs < _; rw [Int.natAbs_mul, hs1, Nat.mul_one]; exact bd k) (by
    show eL (pL a acc) (n - n) ≠ 0
    rw [Nat.sub_self, e0]
    decide) (fun k hk => by
    show eL (pL a acc) (n - (n - k)) = _ * eL (pL a acc) (n - n)
    rw [Nat.sub_self, e0, show n - (n - k) = k from by omega, Rat.mul_one])
  exact ⟨es, h3, h4⟩
end K22

set_option maxHeartbeats 400000
namespace K22
open PySem L2 Ml Pw
theorem many_eq {n p : Nat} (hp : 2 * p + n = n * n) : ((n : Int) * ((n : Int) - 1)).fdiv 2 = (p : Int) := by
  have e : (n : Int) * ((n : Int) - 1) = 2 * (p : Int) := by
    have h : ((2 * p + n : Nat) : Int) = ((n * n : Nat) : Int) := by rw [hp]
    rw [Int.natCast_add, Int.natCast_mul, Int.natCast_mul] at h
    rw [Int.mul_sub]
    omega
  rw [e]
  exact Int.mul_fdiv_cancel_left _ (by decide)
theorem pairs_of_0 {N : Nat} (n : Nat) (hn : n ≤ 1) (a : Nat → Int) : Gives (f_pairs_of N) [.lst (fl (n + 1) a)] (.fr (.lst [.int 1])) := by
  have me := many_eq (n := n) (p := 0) (by rcases (show n = 0 ∨ n = 1 by omega) with rfl | rfl <;> rfl)
  refine gives_w rfl ?_
  unfold b_pairs_of
  refine wS_cut [.sh (.lst (fl (n + 1) a)), .sh (.int n), .no, .no, .no, .no] ?_ ?_
  · walk_at "ww"
    refine ⟨rfl, ?_⟩
    rw [show (((fl (n + 1) a).length : Nat) : Int) - 1 = (n : Int) from by rw [fl_len]; omega]
    rfl
  refine wS_cut [.sh (.lst (fl (n + 1) a)), .sh (.int n), .sh (.int 0), .no, .no, .no] ?_ ?_
  · walk_at "wk"
    · refine ⟨rfl, ?_⟩
      rw [me]
      rfl
    · decide
    · exact pyl_small (Nat.lt_of_lt_of_le (by decide : (2 : Int).natAbs < 2 ^ 2) (Nat.pow_le_pow_right (by omega) (by omega)))
    · exact mulOk_of (m := 10) (k := 10) (by show (n : Int).natAbs < 1024; omega) (by show ((n : Int) - 1).natAbs < 1024; omega) (by omega)
  walk_at "ww"
  rfl
theorem pairs_of_g {N : Nat} (n p : Nat) (a L C E : Nat → Int) (m M e : Nat) (hn : 2 ≤ n) (hn2 : n ≤ 12) (hp : 2 * p + n = n * n) (ha : ∀ k, (a k).natAbs < 2 ^ m) (hm : m < 9000) (h0 : L 0 = (n : Int))
    (hL : ∀ k, 1 ≤ k → k ≤ 2 * p → L k = -((if k ≤ n then (k : Int) * (if n - k = n then 1 else a (n - k) * a n ^ (n - 1 - (n - k))) else 0) + smI (min (n + 1) k - 1) fun i => (if n - (i + 1) = n then 1 else a (n - (i + 1)) * a n ^ (n - 1 - (n - (i + 1)))) * L (k - (i + 1))))
    (hM : ∀ k, k ≤ 2 * p → (L k).natAbs < 2 ^ M) (hM2 : M < 20000000) (hC0 : C 0 = (p : Int)) (hC : ∀ k, 1 ≤ k → k ≤ p → L k * L k - L (2 * k) = 2 * C k)
    (hE0 : E 0 = 1) (hE : ∀ k, 1 ≤ k → k ≤ p → (k : Int) * E k + (C k + smI (k - 1) fun i => E (i + 1) * C (k - (i + 1))) = 0)
    (he : ∀ k, (E k).natAbs < 2 ^ e) (he2 : e < 4000000) (hA : a n ≠ 0) (hpy : ∀ k, k ≤ p → Builtin.divisionGoesByPylong (E (p - k) * (a n * a n) ^ k) (gs (fun k => E (p - k) * (a n * a n) ^ k) p) = false) :
    Gives (f_pairs_of N) [.lst (fl (n + 1) a)] (.fr (.lst (fl (p + 1) fun k => (E (p - k) * (a n * a n) ^ k).fdiv (gs (fun k => E (p - k) * (a n * a n) ^ k) p)))) := by
  have sl16 : sizeLine = 16777216 := sizeLine_eq
  have nn : n * n ≤ 12 * 12 := Nat.mul_le_mul hn2 hn2
  have nn2 : 2 * n ≤ n * n := Nat.mul_le_mul_right n hn
  have me := many_eq hp
  have hav : ∀ k, (if k = n then (1 : Int) else a k * a n ^ (n - 1 - k)).natAbs < 2 ^ (m * 1000 + 10) := fun k => by
    by_cases q : k = n
    · rw [if_pos q]
      exact Nat.one_lt_two_pow (by omega)
    · rw [if_neg q, Int.natAbs_mul]
      have h1 := pow_bd (ha n) (n - 1 - k)
      have h2 : m * (n - 1 - k) ≤ m * 998 := Nat.mul_le_mul_left m (by omega)
      have h3 : (a k).natAbs * (a n ^ (n - 1 - k)).natAbs < 2 ^ m * 2 ^ (m * (n - 1 - k) + 1) := Nat.mul_lt_mul'' (ha k) h1
      rw [← Nat.pow_add] at h3
      exact Nat.lt_of_lt_of_le h3 (Nat.pow_le_pow_right (by omega) (by omega))
  have hS : (a n * a n).natAbs < 2 ^ (m + m) := by
    rw [Int.natAbs_mul, Nat.pow_add]
    exact Nat.mul_lt_mul'' (ha n) (ha n)
  have hCb : ∀ k, k ≤ p → (C k).natAbs < 2 ^ (M + M + 10) := fun k hk => by
    by_cases q : k = 0
    · subst q
      rw [hC0]
      have : (2 : Nat) ^ 10 ≤ 2 ^ (M + M + 10) := Nat.pow_le_pow_right (by omega) (by omega)
      have e10 : (2 : Nat) ^ 10 = 1024 := by decide
      omega
    · have h := hC k (by omega) hk
      have h1 : (L k * L k).natAbs < 2 ^ (M + M) := by
        rw [Int.natAbs_mul, Nat.pow_add]
        exact Nat.mul_lt_mul'' (hM k (by omega)) (hM k (by omega))
      have h2 : (L (2 * k)).natAbs < 2 ^ (M + M) := Nat.lt_of_lt_of_le (hM (2 * k) (by omega)) (Nat.pow_le_pow_right (by omega) (by omega))
      have e3 : (2 : Nat) ^ (M + M + 10) = 2 ^ (M + M) * 1024 := by rw [Nat.pow_add]
      omega
  refine gives_w rfl ?_
  unfold b_pairs_of
  refine wS_cut [.sh (.lst (fl (n + 1) a)), .sh (.int n), .no, .no, .no, .no] ?_ ?_
  · walk_at "ww"
    refine ⟨rfl, ?_⟩
    rw [show (((fl (n + 1) a).length : Nat) : Int) - 1 = (n : Int) from by rw [fl_len]; omega]
    rfl
  refine wS_cut [.sh (.lst (fl (n + 1) a)), .sh (.int n), .sh (.int p), .no, .no, .no] ?_ ?_
  · walk_at "wk"
    · refine ⟨rfl, ?_⟩
      rw [me]
      rfl
    · decide
    · exact pyl_small (Nat.lt_of_lt_of_le (by decide : (2 : Int).natAbs < 2 ^ 2) (Nat.pow_le_pow_right (by omega) (by omega)))
    · exact mulOk_of (m := 10) (k := 10) (by show (n : Int).natAbs < 1024; omega) (by show ((n : Int) - 1).natAbs < 1024; omega) (by omega)
  refine wS_cut [.sh (.lst (fl (n + 1) a)), .sh (.int n), .sh (.int p), .no, .no, .no] ?_ ?_
  · walk_at "ww"
    refine if_dec (fun z => by omega) (fun _ => ?_)
    walk_at "ww"
    exact ⟨rfl, rfl⟩
  refine wS_cut [.sh (.lst (fl (n + 1) a)), .sh (.int n), .sh (.int p), .sh (.lst (fl (2 * p + 1) L)), .no, .no] ?_ ?_
  · walk_at "ww"
    refine ⟨_, lifted_g n a m (by omega) ha (by omega), ?_⟩
    walk_at "wk"
    · rw [show (2 : Int) * (p : Int) = ((2 * p : Nat) : Int) from by omega]
      refine ⟨_, power_sums_g n (2 * p) _ L (m * 1000 + 10) M (by omega) (by omega) h0 hL hav hM (by omega), ?_⟩
      exact ⟨_, rfl, rfl, rfl, rfl⟩
    · exact mulOk_of (m := 10) (k := 10) (by decide) (by show (p : Int).natAbs < 1024; omega) (by omega)
  have lcl : [D.int (p : Nat)] ++ (fl p fun k => C (k + 1)) = fl (p + 1) C := by
    unfold fl
    rw [List.range_succ_eq_map, List.map_cons, List.map_map, hC0]
    rfl
  refine wS_seq (wS_imp (Q := fun g s => g = .nx ∧ ∃ o, s = [.sh (.lst (fl (n + 1) a)), .sh (.int n), .sh (.int p), .sh (.lst (fl (2 * p + 1) L)), o, .no] ∧ (o = .ow (.lst (fl (p + 1) C)) ∨ o = .sh (.lst (fl (p + 1) C)))) ?_ ?_)
  · walk_at "ww"
    · refine ⟨by rw [rgD_len]; omega, rfl, ?_⟩
      refine lc_w (fl p fun k => C (k + 1)) (by rw [fl_len, rgD_len]; omega) ?_ rfl ?_
      · intro i d r h1 h2
        obtain ⟨hi, rfl⟩ := rg1_get h1
        obtain ⟨hi2, rfl⟩ := fl_get_inv h2
        refine ⟨_, rfl, ?_⟩
        walk_at "wk"
        refine ⟨_, _, rfl, k_idx (fl_ix (k := i + 1) rfl (by omega)), ?_⟩
        walk_at "wk"
        refine ⟨_, _, rfl, k_idx (fl_ix (k := i + 1) rfl (by omega)), ?_⟩
        have fd : (L (i + 1) * L (i + 1) - L (2 * (i + 1))).fdiv 2 = C (i + 1) := by
          rw [hC (i + 1) (by omega) (by omega)]
          exact Int.mul_fdiv_cancel_left _ (by decide)
        walk_at "wk"
        · refine ⟨_, _, rfl, k_idx (fl_ix (k := 2 * (i + 1)) (by omega) (by omega)), ?_⟩
          walk_at "wk"
          · rw [fd]
            exact ⟨rfl, rfl⟩
          · decide
          · exact pyl_small (Nat.lt_of_lt_of_le (by decide : (2 : Int).natAbs < 2 ^ 2) (Nat.pow_le_pow_right (by omega) (by omega)))
        · exact mulOk_of (m := 10) (k := 10) (by decide) (by show ((i + 1 : Nat) : Int).natAbs < 1024; omega) (by omega)
        · exact mulOk_of (hM (i + 1) (by omega)) (hM (i + 1) (by omega)) (by omega)
      · refine ⟨_, rfl, rfl, ?_⟩
        walk_at "ww"
        refine ⟨_, _, rfl, k_cat (by rw [fl_len]; show 1 + p ≤ sizeLine; omega), ?_⟩
        refine ⟨_, rfl, rfl, rfl, _, rfl, .inl ?_⟩
        rw [← lcl]
        rfl
    · exact rng2 (by omega) (by omega)
  rintro g s ⟨rfl, o, rfl, ho⟩
  show wS _ _ _
  have fs := from_sums_g (N := N) p C E e (M + M + 10) (by omega) hE0 hE (fun k _ => he k) hCb (by omega)
  have lo := lowered_g (N := N) p (fun k => E (p - k)) (a n * a n) e (m + m) (by omega) (fun k => he _) hS (by
    have : (m + m) * p ≤ (9000 + 9000) * 72 := Nat.mul_le_mul (by omega) (by omega)
    omega) (by
    rw [Nat.sub_self, hE0, Int.one_mul]
    exact Int.pow_ne_zero (Int.mul_ne_zero hA hA)) hpy
  rcases ho with rfl | rfl
  · walk_at "ww"
    refine ⟨_, fs, ?_⟩
    walk_at "ww"
    refine ⟨_, _, rfl, k_idx fl_last, ?_⟩
    walk_at "ww"
    refine ⟨_, _, rfl, k_idx fl_last, ?_⟩
    walk_at "wk"
    · refine ⟨_, lo, ?_⟩
      rfl
    · exact mulOk_of (ha n) (ha n) (by omega)
  · walk_at "ww"
    refine ⟨_, fs, ?_⟩
    walk_at "ww"
    refine ⟨_, _, rfl, k_idx fl_last, ?_⟩
    walk_at "ww"
    refine ⟨_, _, rfl, k_idx fl_last, ?_⟩
    walk_at "wk"
    · refine ⟨_, lo, ?_⟩
      rfl
    · exact mulOk_of (ha n) (ha n) (by omega)
end K22

set_option maxHeartbeats 400000
namespace K22
open PySem L2 Ml Pw
/-- pairs_of: what it computes -/
theorem pairs_main {N : Nat} (n p : Nat) (fs : List Fc) (a : Nat → Int) (Dl : Nat → Int) (hn : 2 ≤ n) (hn2 : n ≤ 12) (hp : 2 * p + n = n * n) (ok : ∀ f ∈ fs, okF f) (hdeg : deg fs = n)
    (ha : ∀ k, k ≤ n → ((a (n - k) : Int) : Rat) = eL fs k * (a n : Rat)) (hA : a n ≠ 0) (hab : ∀ k, (a k).natAbs < 2 ^ 2000)
    (hD0 : Dl p ≠ 0) (hD : ∀ k, k ≤ p → ((Dl (p - k) : Int) : Rat) = eP fs k * (Dl p : Rat)) (hDb : ∀ k, (Dl k).natAbs < 2 ^ 4000) :
    ∃ v : Nat → Int, v p ≠ 0 ∧ (∀ k, k ≤ p → (v k).natAbs < 2 ^ 9000) ∧ (∀ k, k ≤ p → (v k : Rat) / (v p : Rat) = eP fs (p - k)) ∧ Gives (f_pairs_of N) [.lst (fl (n + 1) a)] (.fr (.lst (fl (p + 1) v))) := by
  have nn : n * n ≤ 12 * 12 := Nat.mul_le_mul hn2 hn2
  have hAr : (a n : Rat) ≠ 0 := ratnz hA
  -- the lifted numbers
  have lift : ∀ k, 1 ≤ k → k ≤ n → ((a (n - k) * a n ^ (k - 1) : Int) : Rat) = eL fs k * (a n : Rat) ^ k := fun k h1 h2 => by
    obtain ⟨j, rfl⟩ : ∃ j, k = j + 1 := ⟨k - 1, by omega⟩
    rw [Rat.intCast_mul, ha _ h2, icast_pow, Nat.add_sub_cancel, Rat.pow_succ]
    grind
  have hint : ∀ k, isI (eL fs k * (a n : Rat) ^ k) := fun k => by
    by_cases q : k = 0
    · subst q; rw [eL_one]; exact ⟨1, by simp⟩
    · by_cases q2 : k ≤ n
      · exact ⟨_, (lift k (by omega) q2).symm⟩
      · rw [eL_zero ok (by omega)]; exact ⟨0, by simp⟩
  have nw1 := nw_scale (nwL fs) (a n : Rat)
  obtain ⟨e, he⟩ := chooseI hint
  obtain ⟨L1, hL1⟩ := chooseI (isI_sums nw1 hint)
  have ez : ∀ k, n < k → eL fs k * (a n : Rat) ^ k = 0 := fun k hk => by rw [eL_zero ok (by omega)]; grind
  let L : Nat → Int := fun k => if k = 0 then (n : Int) else L1 k
  have LR : ∀ k, 1 ≤ k → ((L k : Int) : Rat) = sL fs k * (a n : Rat) ^ k := fun k hk => by
    show (((if k = 0 then (n : Int) else L1 k) : Int) : Rat) = _
    rw [if_neg (by omega), hL1]
  have hLe : ∀ k, 1 ≤ k → L k = -((if k ≤ n then (k : Int) * e k else 0) + smI (min (n + 1) k - 1) fun i => e (i + 1) * L (k - (i + 1))) := fun k hk => by
    apply Rat.intCast_inj.mp
    rw [LR k hk, Rat.intCast_neg, Rat.intCast_add, smI_cast]
    have r := row_prog nw1 (n := n) ez hk
    have c1 : (((if k ≤ n then (k : Int) * e k else 0 : Int)) : Rat) = if k ≤ n then (k : Rat) * (eL fs k * (a n : Rat) ^ k) else 0 := by
      split
      · rw [Rat.intCast_mul, he, Rat.intCast_natCast]
      · rfl
    have c2 : sm (min (n + 1) k - 1) (fun i => ((e (i + 1) * L (k - (i + 1)) : Int) : Rat)) = sm (min (n + 1) k - 1) (fun i => eL fs (i + 1) * (a n : Rat) ^ (i + 1) * (sL fs (k - (i + 1)) * (a n : Rat) ^ (k - (i + 1)))) := sm_congr fun i hi => by
      rw [Rat.intCast_mul, he, LR _ (by omega)]
    rw [c1, c2]
    exact r
  have eint : ∀ k, 1 ≤ k → k ≤ n → e k = a (n - k) * a n ^ (k - 1) := fun k h1 h2 => by
    apply Rat.intCast_inj.mp
    rw [he, lift k h1 h2]
  have eb : ∀ k, (e k).natAbs < 2 ^ 26100 := fun k => by
    by_cases q : k = 0
    · have e1 : e k = 1 := by
        apply Rat.intCast_inj.mp
        rw [he, q, eL_one]
        simp
      rw [e1]
      exact Nat.one_lt_two_pow (by decide)
    · by_cases q2 : k ≤ n
      · rw [eint k (by omega) q2, Int.natAbs_mul]
        have h1 := pow_bd (hab n) (k - 1)
        have h3 : (a (n - k)).natAbs * (a n ^ (k - 1)).natAbs < 2 ^ 2000 * 2 ^ (2000 * (k - 1) + 1) := Nat.mul_lt_mul'' (hab _) h1
        rw [← Nat.pow_add] at h3
        exact Nat.lt_of_lt_of_le h3 (Nat.pow_le_pow_right (by omega) (by omega))
      · have e1 : e k = 0 := by
          apply Rat.intCast_inj.mp
          rw [he, ez k (by omega)]
          rfl
        rw [e1]
        exact Nat.pow_pos (by omega)
  have hLb := sums_bd hn2 eb (L := L) rfl hLe
  -- the pairs' numbers
  have d2 : dP fs = p := by
    have h := dP_eq ok
    rw [hdeg] at h
    omega
  have hint2 := isI_pairs ok hint
  obtain ⟨E, hE⟩ := chooseI hint2
  have nw2 := nw_scale (nwP fs) ((a n : Rat) * (a n : Rat))
  obtain ⟨C1, hC1⟩ := chooseI (isI_sums nw2 hint2)
  let C : Nat → Int := fun k => if k = 0 then (p : Int) else C1 k
  have CR : ∀ k, 1 ≤ k → ((C k : Int) : Rat) = sP fs k * ((a n : Rat) * (a n : Rat)) ^ k := fun k hk => by
    show (((if k = 0 then (p : Int) else C1 k) : Int) : Rat) = _
    rw [if_neg (by omega), hC1]
  have hC : ∀ k, 1 ≤ k → k ≤ p → L k * L k - L (2 * k) = 2 * C k := fun k hk _ => by
    apply Rat.intCast_inj.mp
    rw [Rat.intCast_sub, Rat.intCast_mul, Rat.intCast_mul, LR k hk, LR (2 * k) (by omega), CR k hk, rmul_pow, show 2 * k = k + k from by omega, rpow_add]
    have h := sP_eq hk fs
    rw [show 2 * k = k + k from by omega] at h
    have e2 : ((2 : Int) : Rat) = 2 := rfl
    rw [e2]
    grind
  have E0 : E 0 = 1 := by
    apply Rat.intCast_inj.mp
    rw [hE, eP_one]
    simp
  have Ez : ∀ k, p < k → E k = 0 := fun k hk => by
    apply Rat.intCast_inj.mp
    rw [hE, eP_zero ok (by omega)]
    show 0 * _ = ((0 : Int) : Rat)
    have : ((0 : Int) : Rat) = 0 := rfl
    rw [this]
    grind
  have ED : ∀ k, k ≤ p → E k * Dl p = Dl (p - k) * (a n * a n) ^ k := fun k hk => by
    apply Rat.intCast_inj.mp
    rw [Rat.intCast_mul, Rat.intCast_mul, hE, hD k hk, icast_pow, Rat.intCast_mul]
    grind
  have Sb : (a n * a n).natAbs < 2 ^ 4000 := by
    rw [Int.natAbs_mul, show 4000 = 2000 + 2000 from rfl, Nat.pow_add]
    exact Nat.mul_lt_mul'' (hab n) (hab n)
  have Eb : ∀ k, (E k).natAbs < 2 ^ 1000000 := fun k => by
    by_cases q2 : k ≤ p
    · have h := ED k q2
      have h1 : (E k).natAbs ≤ (E k * Dl p).natAbs := by
        rw [Int.natAbs_mul]
        exact Nat.le_mul_of_pos_right _ (by omega)
      have h2 := pow_bd Sb k
      have h3 : (Dl (p - k)).natAbs * ((a n * a n) ^ k).natAbs < 2 ^ 4000 * 2 ^ (4000 * k + 1) := Nat.mul_lt_mul'' (hDb _) h2
      rw [← Nat.pow_add] at h3
      have h5 : 2 ^ (4000 + (4000 * k + 1)) ≤ 2 ^ 1000000 := Nat.pow_le_pow_right (by omega) (by omega)
      rw [h, Int.natAbs_mul] at h1
      exact Nat.lt_of_le_of_lt h1 (Nat.lt_of_lt_of_le h3 h5)
    · rw [Ez k (by omega)]
      exact Nat.pow_pos (by omega)
  have hErow : ∀ k, 1 ≤ k → k ≤ p → (k : Int) * E k + (C k + smI (k - 1) fun i => E (i + 1) * C (k - (i + 1))) = 0 := fun k h1 h2 => by
    apply Rat.intCast_inj.mp
    have r := row_prog2 nw2 h1
    have c2 : sm (k - 1) (fun i => ((E (i + 1) * C (k - (i + 1)) : Int) : Rat)) = sm (k - 1) (fun i => eP fs (i + 1) * ((a n : Rat) * (a n : Rat)) ^ (i + 1) * (sP fs (k - (i + 1)) * ((a n : Rat) * (a n : Rat)) ^ (k - (i + 1)))) := sm_congr fun i hi => by
      rw [Rat.intCast_mul, hE, CR _ (by omega)]
    rw [Rat.intCast_add, Rat.intCast_add, Rat.intCast_mul, smI_cast, c2, hE, CR k h1, Rat.intCast_natCast]
    exact r
  have hSne : a n * a n ≠ 0 := Int.mul_ne_zero hA hA
  have rel : ∀ k, k ≤ p → Dl p * (E (p - k) * (a n * a n) ^ k) = Dl k * (a n * a n) ^ p := fun k hk => by
    have h := ED (p - k) (by omega)
    have e1 : p - (p - k) = k := by omega
    have e2 : (a n * a n) ^ p = (a n * a n) ^ (p - k) * (a n * a n) ^ k := by
      rw [← Int.pow_add]
      congr 1
      omega
    rw [e1] at h
    rw [e2]
    grind
  have v0n : E (p - p) * (a n * a n) ^ p ≠ 0 := by
    rw [Nat.sub_self, E0, Int.one_mul]
    exact Int.pow_ne_zero hSne
  have pb := prim_bd (n := p) (v := fun k => E (p - k) * (a n * a n) ^ k) (Dl := Dl) (P := (a n * a n) ^ p) (Int.pow_ne_zero hSne) hD0 v0n rel
  have gne : gs (fun k => E (p - k) * (a n * a n) ^ k) p ≠ 0 := gs_ne v0n
  have vd : ∀ k, k ≤ p → E (p - k) * (a n * a n) ^ k = gs (fun k => E (p - k) * (a n * a n) ^ k) p * (E (p - k) * (a n * a n) ^ k).fdiv (gs (fun k => E (p - k) * (a n * a n) ^ k) p) := fun k hk => by
    obtain ⟨c, hc⟩ := gs_dvd (v := fun k => E (p - k) * (a n * a n) ^ k) hk
    have hc' : E (p - k) * (a n * a n) ^ k = gs (fun k => E (p - k) * (a n * a n) ^ k) p * c := hc
    have e1 : (E (p - k) * (a n * a n) ^ k).fdiv (gs (fun k => E (p - k) * (a n * a n) ^ k) p) = c := by rw [hc', Int.mul_fdiv_cancel_left _ gne]
    rw [e1]
    exact hc'
  refine ⟨fun k => (E (p - k) * (a n * a n) ^ k).fdiv (gs (fun k => E (p - k) * (a n * a n) ^ k) p), ?_, ?_, ?_, ?_⟩
  · intro z
    have h := vd p (Nat.le_refl p)
    have z' : (E (p - p) * (a n * a n) ^ p).fdiv (gs (fun k => E (p - k) * (a n * a n) ^ k) p) = 0 := z
    rw [z', Int.mul_zero] at h
    exact v0n h
  · intro k hk
    have h := pb k hk
    have h0 := vd k hk
    have h1 : (E (p - k) * (a n * a n) ^ k).natAbs = (gs (fun k => E (p - k) * (a n * a n) ^ k) p).natAbs * ((E (p - k) * (a n * a n) ^ k).fdiv (gs (fun k => E (p - k) * (a n * a n) ^ k) p)).natAbs := by
      rw [← Int.natAbs_mul, ← h0]
    have h2 : (E (p - k) * (a n * a n) ^ k).natAbs ≤ (Dl k).natAbs * (gs (fun k => E (p - k) * (a n * a n) ^ k) p).natAbs := h
    rw [h1, Nat.mul_comm (Dl k).natAbs] at h2
    have h3 := Nat.le_of_mul_le_mul_left h2 (by omega)
    exact Nat.lt_of_le_of_lt h3 (Nat.lt_of_lt_of_le (hDb k) (Nat.pow_le_pow_right (by omega) (by omega)))
  · intro k hk
    have gr := ratnz gne
    have h1 := congrArg (fun z : Int => (z : Rat)) (vd k hk)
    have h2 := congrArg (fun z : Int => (z : Rat)) (vd p (Nat.le_refl p))
    simp only [Rat.intCast_mul, hE, icast_pow] at h1 h2
    rw [Nat.sub_self, eP_one] at h2
    have e2 : ((a n : Rat) * (a n : Rat)) ^ p = ((a n : Rat) * (a n : Rat)) ^ (p - k) * ((a n : Rat) * (a n : Rat)) ^ k := by
      rw [← rpow_add]
      congr 1
      omega
    have vn : (((E (p - p) * (a n * a n) ^ p).fdiv (gs (fun k => E (p - k) * (a n * a n) ^ k) p) : Int) : Rat) ≠ 0 := ratnz (by
      intro z
      have h := vd p (Nat.le_refl p)
      rw [z, Int.mul_zero] at h
      exact v0n h)
    rw [Nat.sub_self] at vn
    generalize (((E (p - k) * (a n * a n) ^ k).fdiv (gs (fun k => E (p - k) * (a n * a n) ^ k) p) : Int) : Rat) = y at h1 ⊢
    show y / (((E (p - p) * (a n * a n) ^ p).fdiv (gs (fun k => E (p - k) * (a n * a n) ^ k) p) : Int) : Rat) = _
    rw [Nat.sub_self]
    generalize (((E 0 * (a n * a n) ^ p).fdiv (gs (fun k => E (p - k) * (a n * a n) ^ k) p) : Int) : Rat) = r at h2 vn ⊢
    grind
  · have av_e : ∀ k, 1 ≤ k → k ≤ n → (if n - k = n then (1 : Int) else a (n - k) * a n ^ (n - 1 - (n - k))) = e k := fun k h1 h2 => by
      rw [if_neg (by omega), eint k h1 h2]
      congr 2
      omega
    have hL' : ∀ k, 1 ≤ k → k ≤ 2 * p → L k = -((if k ≤ n then (k : Int) * (if n - k = n then 1 else a (n - k) * a n ^ (n - 1 - (n - k))) else 0) + smI (min (n + 1) k - 1) fun i => (if n - (i + 1) = n then 1 else a (n - (i + 1)) * a n ^ (n - 1 - (n - (i + 1)))) * L (k - (i + 1))) := fun k h1 h2 => by
      rw [hLe k h1]
      have c1 : (if k ≤ n then (k : Int) * e k else 0) = if k ≤ n then (k : Int) * (if n - k = n then 1 else a (n - k) * a n ^ (n - 1 - (n - k))) else 0 := by
        by_cases q : k ≤ n
        · rw [if_pos q, if_pos q, av_e k h1 q]
        · rw [if_neg q, if_neg q]
      have c2 : ∀ j, j ≤ min (n + 1) k - 1 → (smI j fun i => e (i + 1) * L (k - (i + 1))) = smI j fun i => (if n - (i + 1) = n then 1 else a (n - (i + 1)) * a n ^ (n - 1 - (n - (i + 1)))) * L (k - (i + 1)) := by
        intro j
        induction j with
        | zero => intro _; rfl
        | succ j ih =>
          intro hj
          simp only [smI]
          rw [ih (by omega), av_e (j + 1) (by omega) (by omega)]
      rw [c1, c2 _ (Nat.le_refl _)]
    refine pairs_of_g n p a L C E 2000 4000000 1000000 hn hn2 hp hab (by omega) rfl hL' (fun k hk => ?_) (by omega) rfl hC E0 hErow Eb (by omega) hA fun k hk => pyl_quot (Nat.le_trans (pb k hk) (Nat.mul_le_mul_right _ (Nat.le_of_lt (hDb k))))
    refine Nat.lt_of_lt_of_le (hLb k) (Nat.pow_le_pow_right (by omega) ?_)
    have : (26100 + 10) * k ≤ (26100 + 10) * 144 := Nat.mul_le_mul_left _ (by omega)
    omega
end K22

set_option maxHeartbeats 400000
namespace K22
open PySem L2 Ml Pw
/-- pairs: the polynomial of the products of two roots -/
theorem pairs_g {N : Nat} (n p : Nat) (fs : List Fc) (ds : List D) (x : Nat → Rat) (U : Int) (z Dl : Nat → Int) (hn : n ≤ 12) (hp : 2 * p + n = n * n) (ok : ∀ f ∈ fs, okF f) (hdeg : deg fs = n)
    (hlen : ds.length = n + 1) (hx : ∀ k, k < n + 1 → ∃ d, ds[k]? = some d ∧ Num d (x k)) (hU : 0 < U) (hU2 : U.natAbs < 2 ^ 2000) (hz : ∀ k, k < n + 1 → (U : Rat) * x k = (z k : Rat)) (hzb : ∀ k, k < n + 1 → (z k).natAbs < 2 ^ 2000)
    (hxn : x n ≠ 0) (hxe : ∀ k, k ≤ n → x (n - k) = eL fs k * x n) (hD0 : Dl p ≠ 0) (hD : ∀ k, k ≤ p → ((Dl (p - k) : Int) : Rat) = eP fs k * (Dl p : Rat)) (hDb : ∀ k, (Dl k).natAbs < 2 ^ 4000) :
    ∃ es : List D, es.length = p + 1 ∧ (∀ k, k < p + 1 → ∃ d, es[k]? = some d ∧ NumS d (eP fs (p - k))) ∧ Gives (f_pairs N) [.tup ds] (.sh (.tup es)) := by
  have nn : n * n ≤ 12 * 12 := Nat.mul_le_mul hn hn
  have big : (2 : Nat) ^ 2000 ≤ 2 ^ 8000 := Nat.pow_le_pow_right (by omega) (by omega)
  obtain ⟨A, a0, hA, ha, hab, gi⟩ := integers_g (N := N) (n + 1) ds x U z (by omega) hlen hx hU (Nat.lt_of_lt_of_le hU2 big) hz (fun k hk => Nat.lt_of_lt_of_le (hzb k hk) big)
  let a : Nat → Int := fun k => if k < n + 1 then a0 k else 0
  have aeq : fl (n + 1) a0 = fl (n + 1) a := fl_congr fun k hk => (if_pos hk).symm
  have ak : ∀ k, k < n + 1 → a k = a0 k := fun k hk => if_pos hk
  have abd : ∀ k, (a k).natAbs < 2 ^ 2000 := fun k => by
    by_cases q : k < n + 1
    · rw [ak k q]
      exact Nat.lt_of_le_of_lt (hab k q) (hzb k q)
    · have e : a k = 0 := if_neg q
      rw [e]
      exact Nat.pow_pos (by omega)
  have Ar := ratnz (z := A) (by omega)
  have an : a n ≠ 0 := fun q => by
    have h := ha n (by omega)
    rw [← ak n (by omega), q] at h
    have e0 : ((0 : Int) : Rat) = 0 := rfl
    rw [e0] at h
    apply hxn
    grind
  have hae : ∀ k, k ≤ n → ((a (n - k) : Int) : Rat) = eL fs k * (a n : Rat) := fun k hk => by
    rw [ak _ (by omega), ak n (by omega), ha _ (by omega), ha _ (by omega), hxe k hk]
    grind
  -- the last step, from what pairs_of gives
  have fin_ : ∀ v : Nat → Int, Gives (f_pairs_of N) [.lst (fl (n + 1) a)] (.fr (.lst (fl (p + 1) v))) → v p ≠ 0 → (v p).natAbs < 2 ^ 9000 → (∀ k, k ≤ p → (v k : Rat) / (v p : Rat) = eP fs (p - k)) →
      ∃ es : List D, es.length = p + 1 ∧ (∀ k, k < p + 1 → ∃ d, es[k]? = some d ∧ NumS d (eP fs (p - k))) ∧ Gives (f_pairs N) [.tup ds] (.sh (.tup es)) := fun v gp v0 vb ve => by
    obtain ⟨es, h1, h2, h3⟩ := monic_g (N := N) p v (by omega) v0 vb
    refine ⟨es, h1, fun k hk => ?_, ?_⟩
    · obtain ⟨d, g1, g2⟩ := h2 k hk
      rw [ve k (by omega)] at g2
      exact ⟨d, g1, g2⟩
    · refine gives_w rfl ?_
      unfold b_pairs
      walk_at "ww"
      refine ⟨_, bounded_g ds 12 (by omega), ?_⟩
      walk_at "ww"
      refine ⟨_, gi, ?_⟩
      rw [aeq]
      walk_at "ww"
      refine ⟨_, gp, ?_⟩
      walk_at "ww"
      exact ⟨_, h3, rfl⟩
  by_cases n1 : n ≤ 1
  · have p0 : p = 0 := by
      have : n * n ≤ 1 * n := Nat.mul_le_mul_right n n1
      omega
    subst p0
    refine fin_ (fun _ => 1) (pairs_of_0 n n1 a) (by omega) (Nat.one_lt_two_pow (by omega)) fun k hk => ?_
    have : k = 0 := by omega
    subst this
    show _ = eP fs 0
    rw [eP_one]
    have e1 : ((1 : Int) : Rat) = 1 := rfl
    rw [e1]
    grind
  · obtain ⟨v, v0, vb, ve, gp⟩ := pairs_main (N := N) n p fs a Dl (by omega) hn hp ok hdeg hae an abd hD0 hD hDb
    exact fin_ v gp v0 (vb p (Nat.le_refl p)) ve
end K22

set_option maxHeartbeats 400000
namespace K22
open PySem L2 Ml Pw
/-! ### bounds by the shape of a number -/
theorem nb_mul {a b : Int} {m k : Nat} (ha : a.natAbs < 2 ^ m) (hb : b.natAbs < 2 ^ k) : (a * b).natAbs < 2 ^ (m + k) := by
  rw [Int.natAbs_mul, Nat.pow_add]
  exact Nat.mul_lt_mul'' ha hb
theorem nb_neg {a : Int} {m : Nat} (ha : a.natAbs < 2 ^ m) : (-a).natAbs < 2 ^ m := by rw [Int.natAbs_neg]; exact ha
theorem nb_add {a b : Int} {m k : Nat} (ha : a.natAbs < 2 ^ m) (hb : b.natAbs < 2 ^ k) : (a + b).natAbs < 2 ^ (m + k + 1) := by
  have h1 : (2 : Nat) ^ m ≤ 2 ^ (m + k) := Nat.pow_le_pow_right (by omega) (by omega)
  have h2 : (2 : Nat) ^ k ≤ 2 ^ (m + k) := Nat.pow_le_pow_right (by omega) (by omega)
  rw [Nat.pow_succ]
  omega
theorem nb_sub {a b : Int} {m k : Nat} (ha : a.natAbs < 2 ^ m) (hb : b.natAbs < 2 ^ k) : (a - b).natAbs < 2 ^ (m + k + 1) := by
  rw [Int.sub_eq_add_neg]
  exact nb_add ha (nb_neg hb)
theorem nb_two : (2 : Int).natAbs < 2 ^ 2 := by decide
theorem nb_le {a : Int} {m k : Nat} (h : m ≤ k) (ha : a.natAbs < 2 ^ m) : a.natAbs < 2 ^ k := Nat.lt_of_lt_of_le ha (Nat.pow_le_pow_right (by omega) h)
/-- the product of the roots of two factors, as the law writes it -/
def xw (f g : Fk) : Nat → Int := fun k =>
  if f.lin then
    if g.lin then (if k = 0 then -f.r * g.r else if k = 1 then f.u * g.u else 0)
    else (if k = 0 then f.r * f.r * g.q else if k = 1 then -f.r * g.r * (f.u * g.u) else if k = 2 then (f.u * g.u) * (f.u * g.u) else 0)
  else
    if g.lin then (if k = 0 then g.r * g.r * f.q else if k = 1 then -g.r * f.r * (g.u * f.u) else if k = 2 then (g.u * f.u) * (g.u * f.u) else 0)
    else (if k = 0 then f.q * f.q * g.q * g.q else if k = 1 then -f.r * f.q * g.r * g.q * (f.u * g.u) else if k = 2 then (f.r * f.r * g.q + g.r * g.r * f.q - 2 * f.q * g.q) * (f.u * g.u) * (f.u * g.u) else if k = 3 then -f.r * g.r * (f.u * g.u) ^ 3 else if k = 4 then (f.u * g.u) ^ 4 else 0)
theorem dg_lin {f : Fk} (e : f.lin = true) : f.dg = 1 := by unfold Fk.dg; rw [e]; rfl
theorem dg_quad {f : Fk} (e : f.lin = false) : f.dg = 2 := by unfold Fk.dg; rw [e]; rfl
theorem xw_pol {f g : Fk} (hf : f.ok) (hg : g.ok) : Pol (f.dg * g.dg) (xw f g) (qf f.c g.c) := by
  have fu : f.u ≠ 0 := by have := hf.u; omega
  have gu : g.u ≠ 0 := by have := hg.u; omega
  have fr := ratnz fu
  have gr := ratnz gu
  have ez : ∀ k, f.dg * g.dg < k → qf f.c g.c k = 0 := fun k hk => qf_zero (Fk.okc hf) (Fk.okc hg) hk
  have ft : (f.r : Rat) = f.c.t * (f.u : Rat) := by show _ = (f.r : Rat) / (f.u : Rat) * _; grind
  have fq : (f.q : Rat) = f.c.q * ((f.u : Rat) * (f.u : Rat)) := by show _ = (f.q : Rat) / ((f.u : Rat) * (f.u : Rat)) * _; grind
  have gt : (g.r : Rat) = g.c.t * (g.u : Rat) := by show _ = (g.r : Rat) / (g.u : Rat) * _; grind
  have gq : (g.q : Rat) = g.c.q * ((g.u : Rat) * (g.u : Rat)) := by show _ = (g.q : Rat) / ((g.u : Rat) * (g.u : Rat)) * _; grind
  have c2 : ((2 : Int) : Rat) = 2 := rfl
  cases e : f.lin with
  | true =>
    have fz : f.c.q = 0 := by
      rcases Fk.okc hf with ⟨_, h⟩ | h
      · exact h
      · exact absurd h (by show ¬ f.dg = 2; rw [dg_lin e]; decide)
    cases e2 : g.lin with
    | true =>
      have gz : g.c.q = 0 := by
        rcases Fk.okc hg with ⟨_, h⟩ | h
        · exact h
        · exact absurd h (by show ¬ g.dg = 2; rw [dg_lin e2]; decide)
      rw [dg_lin e, dg_lin e2] at ez ⊢
      have p0 : xw f g 0 = -f.r * g.r := by unfold xw; rw [e, e2]; rfl
      have p1 : xw f g 1 = f.u * g.u := by unfold xw; rw [e, e2]; rfl
      refine ⟨by rw [p1]; exact Int.mul_ne_zero fu gu, fun k hk => ?_, fun k hk => ?_, ez⟩
      · match k, hk with
        | 0, _ =>
          show ((xw f g 1 : Int) : Rat) = 1 * ((xw f g 1 : Int) : Rat)
          grind
        | 1, _ =>
          show ((xw f g 0 : Int) : Rat) = -(f.c.t * g.c.t) * ((xw f g 1 : Int) : Rat)
          rw [p0, p1, Rat.intCast_mul, Rat.intCast_mul, Rat.intCast_neg, ft, gt]
          grind
      · unfold xw
        rw [e, e2, if_pos rfl, if_pos rfl, if_neg (by omega), if_neg (by omega)]
    | false =>
      rw [dg_lin e, dg_quad e2] at ez ⊢
      have p0 : xw f g 0 = f.r * f.r * g.q := by unfold xw; rw [e, e2]; rfl
      have p1 : xw f g 1 = -f.r * g.r * (f.u * g.u) := by unfold xw; rw [e, e2]; rfl
      have p2 : xw f g 2 = (f.u * g.u) * (f.u * g.u) := by unfold xw; rw [e, e2]; rfl
      have un : f.u * g.u ≠ 0 := Int.mul_ne_zero fu gu
      refine ⟨by rw [p2]; exact Int.mul_ne_zero un un, fun k hk => ?_, fun k hk => ?_, ez⟩
      · match k, hk with
        | 0, _ =>
          show ((xw f g 2 : Int) : Rat) = 1 * ((xw f g 2 : Int) : Rat)
          grind
        | 1, _ =>
          show ((xw f g 1 : Int) : Rat) = -(f.c.t * g.c.t) * ((xw f g 2 : Int) : Rat)
          rw [p1, p2]
          simp only [Rat.intCast_mul, Rat.intCast_neg]
          rw [ft, gt]
          grind
        | 2, _ =>
          show ((xw f g 0 : Int) : Rat) = (f.c.t * f.c.t * g.c.q + g.c.t * g.c.t * f.c.q - 2 * f.c.q * g.c.q) * ((xw f g 2 : Int) : Rat)
          rw [p0, p2]
          simp only [Rat.intCast_mul, Rat.intCast_neg]
          rw [ft, gq, fz]
          grind
      · unfold xw
        rw [e, e2, if_pos rfl, if_neg (by decide), if_neg (by omega), if_neg (by omega), if_neg (by omega)]
  | false =>
    cases e2 : g.lin with
    | true =>
      have gz : g.c.q = 0 := by
        rcases Fk.okc hg with ⟨_, h⟩ | h
        · exact h
        · exact absurd h (by show ¬ g.dg = 2; rw [dg_lin e2]; decide)
      rw [dg_quad e, dg_lin e2] at ez ⊢
      have p0 : xw f g 0 = g.r * g.r * f.q := by unfold xw; rw [e, e2]; rfl
      have p1 : xw f g 1 = -g.r * f.r * (g.u * f.u) := by unfold xw; rw [e, e2]; rfl
      have p2 : xw f g 2 = (g.u * f.u) * (g.u * f.u) := by unfold xw; rw [e, e2]; rfl
      have un : g.u * f.u ≠ 0 := Int.mul_ne_zero gu fu
      refine ⟨by rw [p2]; exact Int.mul_ne_zero un un, fun k hk => ?_, fun k hk => ?_, ez⟩
      · match k, hk with
        | 0, _ =>
          show ((xw f g 2 : Int) : Rat) = 1 * ((xw f g 2 : Int) : Rat)
          grind
        | 1, _ =>
          show ((xw f g 1 : Int) : Rat) = -(f.c.t * g.c.t) * ((xw f g 2 : Int) : Rat)
          rw [p1, p2]
          simp only [Rat.intCast_mul, Rat.intCast_neg]
          rw [ft, gt]
          grind
        | 2, _ =>
          show ((xw f g 0 : Int) : Rat) = (f.c.t * f.c.t * g.c.q + g.c.t * g.c.t * f.c.q - 2 * f.c.q * g.c.q) * ((xw f g 2 : Int) : Rat)
          rw [p0, p2]
          simp only [Rat.intCast_mul, Rat.intCast_neg]
          rw [gt, fq, gz]
          grind
      · unfold xw
        rw [e, e2, if_neg (by decide), if_pos rfl, if_neg (by omega), if_neg (by omega), if_neg (by omega)]
    | false =>
      rw [dg_quad e, dg_quad e2] at ez ⊢
      have p0 : xw f g 0 = f.q * f.q * g.q * g.q := by unfold xw; rw [e, e2]; rfl
      have p1 : xw f g 1 = -f.r * f.q * g.r * g.q * (f.u * g.u) := by unfold xw; rw [e, e2]; rfl
      have p2 : xw f g 2 = (f.r * f.r * g.q + g.r * g.r * f.q - 2 * f.q * g.q) * (f.u * g.u) * (f.u * g.u) := by unfold xw; rw [e, e2]; rfl
      have p3 : xw f g 3 = -f.r * g.r * (f.u * g.u) ^ 3 := by unfold xw; rw [e, e2]; rfl
      have p4 : xw f g 4 = (f.u * g.u) ^ 4 := by unfold xw; rw [e, e2]; rfl
      have un : f.u * g.u ≠ 0 := Int.mul_ne_zero fu gu
      refine ⟨by rw [p4]; exact Int.pow_ne_zero un, fun k hk => ?_, fun k hk => ?_, ez⟩
      · match k, hk with
        | 0, _ =>
          show ((xw f g 4 : Int) : Rat) = 1 * ((xw f g 4 : Int) : Rat)
          grind
        | 1, _ =>
          show ((xw f g 3 : Int) : Rat) = -(f.c.t * g.c.t) * ((xw f g 4 : Int) : Rat)
          rw [p3, p4]
          simp only [Rat.intCast_mul, Rat.intCast_neg, icast_pow, Rat.pow_succ, Rat.pow_zero]
          rw [ft, gt]
          grind
        | 2, _ =>
          show ((xw f g 2 : Int) : Rat) = (f.c.t * f.c.t * g.c.q + g.c.t * g.c.t * f.c.q - 2 * f.c.q * g.c.q) * ((xw f g 4 : Int) : Rat)
          rw [p2, p4]
          simp only [Rat.intCast_mul, Rat.intCast_neg, Rat.intCast_add, Rat.intCast_sub, icast_pow, Rat.pow_succ, Rat.pow_zero]
          rw [ft, gt, fq, gq, c2]
          grind
        | 3, _ =>
          show ((xw f g 1 : Int) : Rat) = -(f.c.t * f.c.q * g.c.t * g.c.q) * ((xw f g 4 : Int) : Rat)
          rw [p1, p4]
          simp only [Rat.intCast_mul, Rat.intCast_neg, icast_pow, Rat.pow_succ, Rat.pow_zero]
          rw [ft, gt, fq, gq]
          grind
        | 4, _ =>
          show ((xw f g 0 : Int) : Rat) = f.c.q * f.c.q * g.c.q * g.c.q * ((xw f g 4 : Int) : Rat)
          rw [p0, p4]
          simp only [Rat.intCast_mul, icast_pow, Rat.pow_succ, Rat.pow_zero]
          rw [fq, gq]
          grind
      · unfold xw
        rw [e, e2, if_neg (by decide), if_neg (by decide), if_neg (by omega), if_neg (by omega), if_neg (by omega), if_neg (by omega), if_neg (by omega)]
end K22

set_option maxHeartbeats 400000
namespace K22
open PySem L2 Ml Pw
class NB (a : Int) (m : outParam Nat) : Prop where
  b : a.natAbs < 2 ^ m
instance nbi_mul {a b : Int} {m k : Nat} [h : NB a m] [g : NB b k] : NB (a * b) (m + k) := ⟨nb_mul h.b g.b⟩
instance nbi_neg {a : Int} {m : Nat} [h : NB a m] : NB (-a) m := ⟨nb_neg h.b⟩
instance nbi_add {a b : Int} {m k : Nat} [h : NB a m] [g : NB b k] : NB (a + b) (m + k + 1) := ⟨nb_add h.b g.b⟩
instance nbi_sub {a b : Int} {m k : Nat} [h : NB a m] [g : NB b k] : NB (a - b) (m + k + 1) := ⟨nb_sub h.b g.b⟩
instance nbi_two : NB 2 2 := ⟨nb_two⟩
theorem pow3 (a : Int) : a ^ 3 = a * a * a := by rw [Int.pow_succ, Int.pow_succ, Int.pow_succ, Int.pow_zero, Int.one_mul]
theorem pow4 (a : Int) : a ^ 4 = a * a * a * a := by rw [Int.pow_succ, pow3]
structure FkB (f : Fk) : Prop where
  r : f.r.natAbs < 2 ^ 3
  q : f.q.natAbs < 2 ^ 5
  u : f.u.natAbs < 2 ^ 3
theorem Fk.ok.b {f : Fk} (h : f.ok) : FkB f := ⟨h.r, h.q, by have := h.u; show f.u.natAbs < 8; omega⟩
theorem xw_bd {f g : Fk} (hf : f.ok) (hg : g.ok) (k : Nat) : (xw f g k).natAbs < 2 ^ 40 := by
  obtain ⟨fr, fq, fu⟩ := hf.b
  obtain ⟨gr, gq, gu⟩ := hg.b
  have z0 : (0 : Int).natAbs < 2 ^ 40 := by decide
  unfold xw
  rw [pow3, pow4]
  split
  · split
    · split
      · refine nb_le ?_ (nb_mul (nb_neg fr) gr)
        decide
      · split
        · refine nb_le ?_ (nb_mul fu gu)
          decide
        · exact z0
    · split
      · refine nb_le ?_ (nb_mul (nb_mul fr fr) gq)
        decide
      · split
        · refine nb_le ?_ (nb_mul (nb_mul (nb_neg fr) gr) (nb_mul fu gu))
          decide
        · split
          · refine nb_le ?_ (nb_mul (nb_mul fu gu) (nb_mul fu gu))
            decide
          · exact z0
  · split
    · split
      · refine nb_le ?_ (nb_mul (nb_mul gr gr) fq)
        decide
      · split
        · refine nb_le ?_ (nb_mul (nb_mul (nb_neg gr) fr) (nb_mul gu fu))
          decide
        · split
          · refine nb_le ?_ (nb_mul (nb_mul gu fu) (nb_mul gu fu))
            decide
          · exact z0
    · split
      · refine nb_le ?_ (nb_mul (nb_mul (nb_mul fq fq) gq) gq)
        decide
      · split
        · refine nb_le ?_ (nb_mul (nb_mul (nb_mul (nb_mul (nb_neg fr) fq) gr) gq) (nb_mul fu gu))
          decide
        · split
          · have h1 : (f.r * f.r * g.q + g.r * g.r * f.q - 2 * f.q * g.q).natAbs < 2 ^ 16 := by
              have a1 := nb_mul (nb_mul fr fr) gq
              have a2 := nb_mul (nb_mul gr gr) fq
              have a3 := nb_mul (nb_mul nb_two fq) gq
              simp only [Nat.reduceAdd, Nat.reducePow] at a1 a2 a3 ⊢
              omega
            refine nb_le ?_ (nb_mul (nb_mul h1 (nb_mul fu gu)) (nb_mul fu gu))
            decide
          · split
            · refine nb_le ?_ (nb_mul (nb_mul (nb_neg fr) gr) (nb_mul (nb_mul (nb_mul fu gu) (nb_mul fu gu)) (nb_mul fu gu)))
              decide
            · split
              · refine nb_le ?_ (nb_mul (nb_mul (nb_mul (nb_mul fu gu) (nb_mul fu gu)) (nb_mul fu gu)) (nb_mul fu gu))
                decide
              · exact z0
theorem mk_mul {a b : Int} {m k : Nat} [ha : NB a m] [hb : NB b k] (h : m + k < 100000) : mulOk a b = true := mulOk_of ha.b hb.b (by omega)
set_option maxHeartbeats 4000000 in
theorem across_g {N : Nat} (f g : Fk) (hf : f.ok) (hg : g.ok) : Gives (f_law_across N) [f.d, g.d] (.fr (.lst (fl (f.dg * g.dg + 1) (xw f g)))) := by
  obtain ⟨fr, fq, fu⟩ := hf.b
  obtain ⟨gr, gq, gu⟩ := hg.b
  have i1 : NB f.r 3 := ⟨fr⟩
  have i2 : NB f.q 5 := ⟨fq⟩
  have i3 : NB f.u 3 := ⟨fu⟩
  have i4 : NB g.r 3 := ⟨gr⟩
  have i5 : NB g.q 5 := ⟨gq⟩
  have i6 : NB g.u 3 := ⟨gu⟩
  unfold Fk.d
  cases e : f.lin with
  | true =>
    cases e2 : g.lin with
    | true =>
      rw [dg_lin e, dg_lin e2]
      have el : fl (1 * 1 + 1) (xw f g) = [.int (-f.r * g.r), .int (f.u * g.u)] := by
        have p0 : xw f g 0 = -f.r * g.r := by unfold xw; rw [e, e2]; rfl
        have p1 : xw f g 1 = f.u * g.u := by unfold xw; rw [e, e2]; rfl
        rw [← p0, ← p1]
        rfl
      rw [el]
      refine gives_w rfl ?_
      unfold b_law_across
      walk_at "wk"
      · rfl
      all_goals exact mk_mul (by decide)
    | false =>
      rw [dg_lin e, dg_quad e2]
      have el : fl (1 * 2 + 1) (xw f g) = [.int (f.r * f.r * g.q), .int (-f.r * g.r * (f.u * g.u)), .int ((f.u * g.u) * (f.u * g.u))] := by
        have p0 : xw f g 0 = f.r * f.r * g.q := by unfold xw; rw [e, e2]; rfl
        have p1 : xw f g 1 = -f.r * g.r * (f.u * g.u) := by unfold xw; rw [e, e2]; rfl
        have p2 : xw f g 2 = (f.u * g.u) * (f.u * g.u) := by unfold xw; rw [e, e2]; rfl
        rw [← p0, ← p1, ← p2]
        rfl
      rw [el]
      refine gives_w rfl ?_
      unfold b_law_across
      walk_at "wk"
      · rfl
      all_goals exact mk_mul (by decide)
  | false =>
    cases e2 : g.lin with
    | true =>
      rw [dg_quad e, dg_lin e2]
      have el : fl (2 * 1 + 1) (xw f g) = [.int (g.r * g.r * f.q), .int (-g.r * f.r * (g.u * f.u)), .int ((g.u * f.u) * (g.u * f.u))] := by
        have p0 : xw f g 0 = g.r * g.r * f.q := by unfold xw; rw [e, e2]; rfl
        have p1 : xw f g 1 = -g.r * f.r * (g.u * f.u) := by unfold xw; rw [e, e2]; rfl
        have p2 : xw f g 2 = (g.u * f.u) * (g.u * f.u) := by unfold xw; rw [e, e2]; rfl
        rw [← p0, ← p1, ← p2]
        rfl
      rw [el]
      refine gives_w rfl ?_
      unfold b_law_across
      walk_at "wk"
      · rfl
      all_goals exact mk_mul (by decide)
    | false =>
      rw [dg_quad e, dg_quad e2]
      have el : fl (2 * 2 + 1) (xw f g) = [.int (f.q * f.q * g.q * g.q), .int (-f.r * f.q * g.r * g.q * (f.u * g.u)), .int ((f.r * f.r * g.q + g.r * g.r * f.q - 2 * f.q * g.q) * (f.u * g.u) * (f.u * g.u)), .int (-f.r * g.r * (f.u * g.u) ^ 3), .int ((f.u * g.u) ^ 4)] := by
        have p0 : xw f g 0 = f.q * f.q * g.q * g.q := by unfold xw; rw [e, e2]; rfl
        have p1 : xw f g 1 = -f.r * f.q * g.r * g.q * (f.u * g.u) := by unfold xw; rw [e, e2]; rfl
        have p2 : xw f g 2 = (f.r * f.r * g.q + g.r * g.r * f.q - 2 * f.q * g.q) * (f.u * g.u) * (f.u * g.u) := by unfold xw; rw [e, e2]; rfl
        have p3 : xw f g 3 = -f.r * g.r * (f.u * g.u) ^ 3 := by unfold xw; rw [e, e2]; rfl
        have p4 : xw f g 4 = (f.u * g.u) ^ 4 := by unfold xw; rw [e, e2]; rfl
        rw [← p0, ← p1, ← p2, ← p3, ← p4]
        rfl
      rw [el]
      have su := nb_mul fu gu
      have g3 := power_g (N := N) (f.u * g.u) 3 6 su (by omega) (by omega)
      have g4 := power_g (N := N) (f.u * g.u) 4 6 su (by omega) (by omega)
      have s3 : NB ((f.u * g.u) ^ 3) (6 * 3 + 1) := ⟨pow_bd su 3⟩
      refine gives_w rfl ?_
      unfold b_law_across
      walk_at "wk"
      · refine ⟨_, g3, ?_⟩
        walk_at "wk"
        · refine ⟨_, g4, ?_⟩
          walk_at "wk"
          rfl
        · exact mk_mul (by decide)
      all_goals exact mk_mul (by decide)
end K22

set_option maxHeartbeats 400000
namespace K22
open PySem L2 Ml Pw
/-- a whole polynomial of degree n whose roots have the power sums s -/
structure AccS (n : Nat) (P : Nat → Int) (s : Nat → Rat) : Prop where
  pol : ∃ e, Pol n P e ∧ Nw e s
  bd : ∀ k, (P k).natAbs < 2 ^ (50 * n + 1)
structure Blk (d : Nat) (Q : Nat → Int) (s : Nat → Rat) : Prop where
  pol : ∃ e, Pol d Q e ∧ Nw e s
  bd : ∀ k, (Q k).natAbs < 2 ^ 40
theorem accS_nil : AccS 0 (fun k => if k = 0 then 1 else 0) fun _ => 0 := by
  refine ⟨⟨un, ?_, nw_un⟩, fun k => ?_⟩
  · have h := (acc_nil 1).pol
    exact h
  · show (if k = 0 then (1 : Int) else 0).natAbs < 2 ^ (50 * 0 + 1)
    split <;> simp
theorem accS_step {n d : Nat} {P Q : Nat → Int} {s t : Nat → Rat} (hn : n ≤ 80) (hd : 1 ≤ d) (A : AccS n P s) (B : Blk d Q t) : AccS (n + d) (rowS P Q (n + 1)) fun k => s k + t k := by
  obtain ⟨e, pe, ne⟩ := A.pol
  obtain ⟨f, pf, nf⟩ := B.pol
  refine ⟨⟨cv e f, Pol.mul pe pf ne.one nf.one, nw_mul ne nf⟩, fun k => ?_⟩
  have b := rowS_bd (m := 50 * n + 1) (k := 40) A.bd B.bd k (n + 1)
  have le : (n + 1) * 2 ^ (50 * n + 1 + 40) ≤ 81 * 2 ^ (50 * n + 1 + 40) := Nat.mul_le_mul_right _ (by omega)
  have pos : 0 < 2 ^ (50 * n + 1 + 40) := Nat.pow_pos (by omega)
  have e1 : (2 : Nat) ^ (50 * (n + 1) + 1) = 1024 * 2 ^ (50 * n + 1 + 40) := by
    rw [show 50 * (n + 1) + 1 = 10 + (50 * n + 1 + 40) from by omega, Nat.pow_add]
  have e2 : (2 : Nat) ^ (50 * (n + 1) + 1) ≤ 2 ^ (50 * (n + d) + 1) := Nat.pow_le_pow_right (by omega) (by omega)
  refine Nat.lt_of_lt_of_le (Nat.lt_of_le_of_lt (Nat.le_trans b le) ?_) e2
  rw [e1]
  generalize 2 ^ (50 * n + 1 + 40) = h at pos ⊢
  omega
theorem mulS_g {N : Nat} {n d : Nat} {P Q : Nat → Int} {s t : Nat → Rat} (hn : n ≤ 80) (hd : d ≤ 10) (A : AccS n P s) (B : Blk d Q t) :
    Gives (f_law_mul N) [.lst (fl (n + 1) P), .lst (fl (d + 1) Q)] (.sh (.lst (fl (n + d + 1) (rowS P Q (n + 1))))) := by
  obtain ⟨f, pf, _⟩ := B.pol
  have g := mul_g (N := N) (n + 1) (d + 1) P Q (50 * n + 1) 40 (by omega) (by omega) (by omega) (by omega) (fun i hi => pf.out i (by omega)) A.bd B.bd (by omega)
  rw [show n + 1 + (d + 1) - 1 = n + d + 1 from by omega] at g
  exact g
theorem AccS.congr {n : Nat} {P : Nat → Int} {s t : Nat → Rat} (A : AccS n P s) (h : ∀ k, s k = t k) : AccS n P t := by
  have e : s = t := funext h
  rw [← e]
  exact A
/-- the two products of one factor -/
theorem blk_across {f g : Fk} (hf : f.ok) (hg : g.ok) : Blk (f.dg * g.dg) (xw f g) fun k => if k = 0 then 0 else tr f.c.t f.c.q k * tr g.c.t g.c.q k := ⟨⟨_, xw_pol hf hg, nw_qf _ _⟩, xw_bd hf hg⟩
def ow (f : Fk) : Nat → Int := fun k => if k = 0 then -f.q else if k = 1 then f.u * f.u else 0
theorem blk_own {f : Fk} (hf : f.ok) : Blk 1 (ow f) fun k => if k = 0 then 0 else tr f.c.q 0 k := by
  have fu : f.u ≠ 0 := by have := hf.u; omega
  have fr := ratnz fu
  have fq : (f.q : Rat) = f.c.q * ((f.u : Rat) * (f.u : Rat)) := by show _ = (f.q : Rat) / ((f.u : Rat) * (f.u : Rat)) * _; grind
  obtain ⟨br, bq, bu⟩ := hf.b
  refine ⟨⟨fac f.c.q 0, ⟨Int.mul_ne_zero fu fu, fun k hk => ?_, fun k hk => ?_, fun k hk => ?_⟩, nw_quad _ _⟩, fun k => ?_⟩
  · match k, hk with
    | 0, _ =>
      show ((f.u * f.u : Int) : Rat) = 1 * ((f.u * f.u : Int) : Rat)
      grind
    | 1, _ =>
      show ((-f.q : Int) : Rat) = -f.c.q * ((f.u * f.u : Int) : Rat)
      rw [Rat.intCast_neg, Rat.intCast_mul, fq]
      grind
  · unfold ow
    rw [if_neg (by omega), if_neg (by omega)]
  · match k, hk with
    | 2, _ => rfl
    | k + 3, _ => rfl
  · unfold ow
    split
    · exact nb_le (by decide) (nb_neg bq)
    · split
      · exact nb_le (by decide) (nb_mul bu bu)
      · show (0 : Int).natAbs < 2 ^ 40
        decide
theorem wE_slT {xs : List D} {i : Nat} {a : Sl} {r : List Sl} {Q : RV → List Sl → Prop} (h : i ≤ xs.length) (q : Q (.fr (.lst (xs.take i))) (.sh (.lst xs) :: a :: .sh (.int i) :: r)) : wE (mSl (.b 0) none (some (mV 2))) (.sh (.lst xs) :: a :: .sh (.int i) :: r) Q := by
  have e : ixP xs none (some ((i : Nat) : Int)) = xs.take i := by
    unfold ixP
    rw [HT.sIx_nat, HT.sIx_none, List.drop_zero, Nat.sub_zero, Nat.min_eq_left h]
  refine ⟨_, _, rfl, ?_⟩
  show Q (.fr (.lst (ixP xs none (some ((i : Nat) : Int))))) _
  rw [e]
  exact q
def rev (L : List Fk) (i : Nat) : List Fc := (L.take i).reverse.map Fk.c
theorem rev_next {L : List Fk} {i : Nat} {f : Fk} (h : L[i]? = some f) : rev L (i + 1) = f.c :: rev L i := by
  unfold rev
  rw [List.take_succ, h, List.reverse_append]
  rfl
theorem rev_ok {L : List Fk} (hok : ∀ f ∈ L, f.ok) (i : Nat) : ∀ f ∈ rev L i, okF f := by
  intro f hf
  unfold rev at hf
  obtain ⟨g, hg, rfl⟩ := List.mem_map.mp hf
  exact Fk.okc (hok g (List.mem_of_mem_take (List.mem_reverse.mp hg)))
theorem rev_deg_le (L : List Fk) : ∀ {i j : Nat}, i ≤ j → deg (rev L i) ≤ deg (rev L j) := by
  intro i j h
  induction j with
  | zero =>
    have : i = 0 := by omega
    subst this
    exact Nat.le_refl _
  | succ j ih =>
    by_cases q : i = j + 1
    · subst q; exact Nat.le_refl _
    · refine Nat.le_trans (ih (by omega)) ?_
      cases e : L[j]? with
      | none =>
        have hl := List.getElem?_eq_none_iff.mp e
        unfold rev
        rw [List.take_of_length_le hl, List.take_of_length_le (by omega)]
        exact Nat.le_refl _
      | some f =>
        rw [rev_next e]
        show _ ≤ deg (rev L j) + f.dg
        omega
theorem dP_le {fs : List Fc} (h : ∀ f ∈ fs, okF f) (hd : deg fs ≤ 12) : dP fs ≤ 66 := by
  have e := dP_eq h
  have : deg fs * deg fs ≤ 12 * deg fs := Nat.mul_le_mul_right _ hd
  omega
end K22

set_option maxHeartbeats 400000
namespace K22
open PySem L2 Ml Pw
def Told (o : Sl) (n : Nat) (P : Nat → Int) : Prop := o = .ow (.lst (fl (n + 1) P)) ∨ o = .sh (.lst (fl (n + 1) P))
theorem tr_zz (k : Nat) : (if k = 0 then (0 : Rat) else tr 0 0 k) = 0 := by
  split
  · rfl
  · obtain ⟨j, rfl⟩ : ∃ j, k = j + 1 := ⟨k - 1, by omega⟩
    rw [tr_lin, Rat.pow_succ]
    grind
theorem ap_step {N : Nat} (L : List Fk) (hok : ∀ f ∈ L, f.ok) (hd : deg (rev L L.length) ≤ 12) {i : Nat} {f : Fk} (hi : L[i]? = some f) {P : Nat → Int} (A : AccS (dP (rev L i)) P (sP (rev L i))) {o : Sl} (ho : Told o (dP (rev L i)) P) :
    wS (fgt [2, 3, 4, 5] (mSeq (mUnp (.tp [(.nm 3), (.nm 4)]) (mOp fIdx [(.b 0), (.b 2)])) (mSeq (mIfS (mT (mOp fEq [(.e (mOp fIdx [(.b 3), (.e (mC (D.int (0))))])), (.e (mC (D.int (2))))])) (mAsg 1 (mCall (f_law_mul N) [(mV 1), (mDis fLst [(mOp fNeg [(.e (mOp fIdx [(.b 3), (.e (mC (D.int (2))))]))]),
  (mOp fMul [(.b 4), (.b 4)])])])) mNx) (mFor (evI [(.e (mSl (.b 0) none (some (mV 2))))] fItL) (.nm 5) (fgt [5] (mAsg 1 (mCall (f_law_mul N) [(mV 1), (mCall (f_law_across N) [(mOp fIdx [(.b 0), (.b 2)]), (mV 5)])]))))))) [.sh (.lst (L.map Fk.d)), o, .sh (.int (i : Nat)), .no, .no, .no]
      fun g s => g = .nx ∧ ∃ P' o', AccS (dP (rev L (i + 1))) P' (sP (rev L (i + 1))) ∧ s = [.sh (.lst (L.map Fk.d)), o', .no, .no, .no, .no] ∧ Told o' (dP (rev L (i + 1))) P' := by
  have hlt : i < L.length := (List.getElem?_eq_some_iff.mp hi).1
  have hf : f.ok := hok f (List.mem_of_getElem? hi)
  have rn := rev_next hi
  have d1 : deg (rev L (i + 1)) ≤ 12 := Nat.le_trans (rev_deg_le L (by omega)) hd
  have p66 := dP_le (rev_ok hok (i + 1)) d1
  have pe : dP (rev L (i + 1)) = dP (rev L i) + ((f.dg - 1) + f.dg * deg (rev L i)) := by rw [rn]; rfl
  have se : sP (rev L (i + 1)) = fun k => sP (rev L i) k + ((if k = 0 then 0 else tr f.c.q 0 k) + cS f.c (rev L i) k) := by rw [rn]; rfl
  have ig : (L.map Fk.d)[i]? = some f.d := by rw [List.getElem?_map, hi]; rfl
  obtain ⟨br, bq, bu⟩ := hf.b
  refine wS_fgt ?_
  -- unpack
  refine wS_cut [.sh (.lst (L.map Fk.d)), o, .sh (.int (i : Nat)), .sh f.kd, .sh (.int f.u), .no] ?_ ?_
  · rcases ho with rfl | rfl
    · walk_at "ww"
      refine ⟨_, _, rfl, k_idx (Ml.atI_nat ig), ?_⟩
      exact ⟨_, rfl, rfl, rfl⟩
    · walk_at "ww"
      refine ⟨_, _, rfl, k_idx (Ml.atI_nat ig), ?_⟩
      exact ⟨_, rfl, rfl, rfl⟩
  -- the factor's own product
  refine wS_seq (wS_imp (Q := fun g s => g = .nx ∧ ∃ P1 o1, AccS (dP (rev L i) + (f.dg - 1)) P1 (fun k => sP (rev L i) k + (if k = 0 then 0 else tr f.c.q 0 k)) ∧ s = [.sh (.lst (L.map Fk.d)), o1, .sh (.int (i : Nat)), .sh f.kd, .sh (.int f.u), .no] ∧ Told o1 (dP (rev L i) + (f.dg - 1)) P1) ?_ ?_)
  · cases e : f.lin with
    | true =>
      have fz : f.c.q = 0 := by
        rcases Fk.okc hf with ⟨_, h⟩ | h
        · exact h
        · exact absurd h (by show ¬ f.dg = 2; rw [dg_lin e]; decide)
      have A' := A.congr (t := fun k => sP (rev L i) k + (if k = 0 then 0 else tr f.c.q 0 k)) (fun k => by rw [fz, tr_zz]; grind)
      have kd : f.kd = .tup [.int 1, .int f.r, .int f.q] := by unfold Fk.kd; rw [dg_lin e]; rfl
      rw [kd, dg_lin e]
      walk_at "ww"
      first | exact ⟨P, o, A', rfl, ho⟩ | exact ⟨rfl, P, o, A', rfl, ho⟩
    | false =>
      have kd : f.kd = .tup [.int 2, .int f.r, .int f.q] := by unfold Fk.kd; rw [dg_quad e]; rfl
      have A' := accS_step (by omega) (by omega) A (blk_own hf)
      have g := mulS_g (N := N) (by omega) (by omega) A (blk_own hf)
      have eo : D.lst (fl (1 + 1) (ow f)) = .lst [.int (-f.q), .int (f.u * f.u)] := rfl
      rw [eo] at g
      rw [kd, dg_quad e]
      rcases ho with rfl | rfl
      · walk_at "wk"
        · refine ⟨_, g, ?_⟩
          exact ⟨_, rfl, rfl, rfl, _, _, A', rfl, .inr rfl⟩
        · exact mulOk_of bu bu (by decide)
      · walk_at "wk"
        · refine ⟨_, g, ?_⟩
          exact ⟨_, rfl, rfl, rfl, _, _, A', rfl, .inr rfl⟩
        · exact mulOk_of bu bu (by decide)
  rintro g s ⟨rfl, P1, o1, A1, rfl, ho1⟩
  show wS _ _ _
  -- with the earlier ones
  have tk : (L.map Fk.d).take i = (L.take i).map Fk.d := List.map_take.symm
  have fin_ : ∀ (P2 : Nat → Int) (o2 : Sl), AccS (dP (rev L i) + (f.dg - 1) + f.dg * deg (rev L i)) P2 (fun k => sP (rev L i) k + (if k = 0 then 0 else tr f.c.q 0 k) + cS f.c (rev L i) k) → Told o2 (dP (rev L i) + (f.dg - 1) + f.dg * deg (rev L i)) P2 →
      ∃ P' o', AccS (dP (rev L (i + 1))) P' (sP (rev L (i + 1))) ∧ fgs [2, 3, 4, 5] [.sh (.lst (L.map Fk.d)), o2, .sh (.int (i : Nat)), .sh f.kd, .sh (.int f.u), .no] = [.sh (.lst (L.map Fk.d)), o', .no, .no, .no, .no] ∧ Told o' (dP (rev L (i + 1))) P' := fun P2 o2 A2 h2 => by
    rw [Nat.add_assoc, ← pe] at A2 h2
    refine ⟨P2, o2, ?_, rfl, h2⟩
    rw [se]
    exact A2.congr fun k => by grind
  refine wS_for ?_
  refine wI_ev ?_
  refine wA_e ?_
  have wsl : ∀ {o1 : Sl} {Q : RV → List Sl → Prop}, Q (.fr (.lst ((L.take i).map Fk.d))) [.sh (.lst (L.map Fk.d)), o1, .sh (.int (i : Nat)), .sh f.kd, .sh (.int f.u), .no] → wE (mSl (.b 0) none (some (mV 2))) [.sh (.lst (L.map Fk.d)), o1, .sh (.int (i : Nat)), .sh f.kd, .sh (.int f.u), .no] Q := fun q => wE_slT (by rw [List.length_map]; omega) (by rw [tk]; exact q)
  refine wsl ?_
  walk_at "ww"
  have tl : (List.map Fk.d (L.take i)).length = i := by rw [List.length_map, List.length_take]; omega
  refine loop_w (fun j s => ∃ P2 o2, AccS (dP (rev L i) + (f.dg - 1) + f.dg * deg (rev L j)) P2 (fun k => sP (rev L i) k + (if k = 0 then 0 else tr f.c.q 0 k) + cS f.c (rev L j) k) ∧ s = [.sh (.lst (L.map Fk.d)), o2, .sh (.int (i : Nat)), .sh f.kd, .sh (.int f.u), .no] ∧ Told o2 (dP (rev L i) + (f.dg - 1) + f.dg * deg (rev L j)) P2) ⟨P1, o1, A1.congr fun k => ?_, rfl, ho1⟩ ?_ ?_
  · show _ = _ + (0 : Rat)
    grind
  · rintro j d s hj ⟨P2, o2, A2, rfl, h2⟩
    rw [List.getElem?_map] at hj
    cases e : (L.take i)[j]? with
    | none => rw [e] at hj; cases hj
    | some g =>
      rw [e] at hj
      cases hj
      have hji : j < i := by
        have := (List.getElem?_eq_some_iff.mp e).1
        rw [List.length_take] at this
        omega
      have e' : L[j]? = some g := by rw [List.getElem?_take_of_lt hji] at e; exact e
      have hg : g.ok := hok g (List.mem_of_getElem? e')
      have rj := rev_next e'
      have dle : f.dg * deg (rev L j) ≤ f.dg * deg (rev L i) := Nat.mul_le_mul_left _ (rev_deg_le L (by omega))
      have B := blk_across hf hg
      have dc := dg_cases f
      have gc := dg_cases g
      have dd : f.dg * g.dg ≤ 4 ∧ 1 ≤ f.dg * g.dg := by rcases dc with q | q <;> rcases gc with q2 | q2 <;> rw [q, q2] <;> decide
      have A3 := accS_step (by omega) dd.2 A2 B
      have gm := mulS_g (N := N) (by omega) (by omega) A2 B
      have ga := across_g (N := N) f g hf hg
      have en : dP (rev L i) + (f.dg - 1) + f.dg * deg (rev L j) + f.dg * g.dg = dP (rev L i) + (f.dg - 1) + f.dg * deg (rev L (j + 1)) := by
        have : deg (rev L (j + 1)) = deg (rev L j) + g.dg := by rw [rj]; rfl
        rw [this, Nat.mul_add]
        omega
      have es : (fun k => sP (rev L i) k + (if k = 0 then 0 else tr f.c.q 0 k) + cS f.c (rev L j) k + (if k = 0 then 0 else tr f.c.t f.c.q k * tr g.c.t g.c.q k)) = fun k => sP (rev L i) k + (if k = 0 then 0 else tr f.c.q 0 k) + cS f.c (rev L (j + 1)) k := by
        rw [rj]
        funext k
        show _ = sP (rev L i) k + (if k = 0 then 0 else tr f.c.q 0 k) + (cS f.c (rev L j) k + (if k = 0 then 0 else tr f.c.t f.c.q k * tr g.c.t g.c.q k))
        rw [Rat.add_assoc]
      rw [en, es] at A3
      rw [en] at gm
      refine ⟨_, rfl, ?_⟩
      rcases h2 with rfl | rfl
      · walk_at "ww"
        refine ⟨_, _, rfl, k_idx (Ml.atI_nat ig), ?_⟩
        walk_at "ww"
        refine ⟨_, ga, ?_⟩
        walk_at "ww"
        refine ⟨_, gm, ?_⟩
        exact ⟨_, rfl, rfl, rfl, _, _, A3, rfl, .inr rfl⟩
      · walk_at "ww"
        refine ⟨_, _, rfl, k_idx (Ml.atI_nat ig), ?_⟩
        walk_at "ww"
        refine ⟨_, ga, ?_⟩
        walk_at "ww"
        refine ⟨_, gm, ?_⟩
        exact ⟨_, rfl, rfl, rfl, _, _, A3, rfl, .inr rfl⟩
  · rintro s3 ⟨P2, o2, A2, rfl, h2⟩
    rw [tl] at A2 h2
    exact ⟨_, rfl, rfl, fin_ P2 o2 A2 h2⟩
/-- all the products of two items -/
theorem all_pairs_g {N : Nat} (L : List Fk) (hok : ∀ f ∈ L, f.ok) (hd : deg (rev L L.length) ≤ 12) : ∃ P, AccS (dP (rev L L.length)) P (sP (rev L L.length)) ∧ Gives (f_law_all_pairs N) [.lst (L.map Fk.d)] (.sh (.lst (fl (dP (rev L L.length) + 1) P))) := by
  have l12 : L.length ≤ 12 := by
    have h := len_deg (L.take L.length).reverse
    rw [List.length_reverse, List.take_length] at h
    have h2 : (L.reverse.map Fk.c) = rev L L.length := by unfold rev; rw [List.take_length]
    rw [h2] at h
    omega
  have w : ∃ P, AccS (dP (rev L L.length)) P (sP (rev L L.length)) ∧ wS (b_law_all_pairs N) ([D.lst (L.map Fk.d)].map Sl.sh ++ List.replicate 5 .no) fun f _ => f = .rt (.sh (.lst (fl (dP (rev L L.length) + 1) P))) := by
    have lp := loop_inv (tg := .nm 2) (body := fgt [2, 3, 4, 5] (mSeq (mUnp (.tp [(.nm 3), (.nm 4)]) (mOp fIdx [(.b 0), (.b 2)])) (mSeq (mIfS (mT (mOp fEq [(.e (mOp fIdx [(.b 3), (.e (mC (D.int (0))))])), (.e (mC (D.int (2))))])) (mAsg 1 (mCall (f_law_mul N) [(mV 1), (mDis fLst [(mOp fNeg [(.e (mOp fIdx [(.b 3), (.e (mC (D.int (2))))]))]),
  (mOp fMul [(.b 4), (.b 4)])])])) mNx) (mFor (evI [(.e (mSl (.b 0) none (some (mV 2))))] fItL) (.nm 5) (fgt [5] (mAsg 1 (mCall (f_law_mul N) [(mV 1), (mCall (f_law_across N) [(mOp fIdx [(.b 0), (.b 2)]), (mV 5)])])))))))
      (fun i s => ∃ P o, AccS (dP (rev L i)) P (sP (rev L i)) ∧ s = [.sh (.lst (L.map Fk.d)), o, .no, .no, .no, .no] ∧ Told o (dP (rev L i)) P)
      (ds := rgD 0 ((L.length : Nat) : Int).toNat) (sl := [.sh (.lst (L.map Fk.d)), .ow (.lst [.int 1]), .no, .no, .no, .no]) ⟨_, _, accS_nil, rfl, .inl rfl⟩ ?_
    · obtain ⟨s', e, P, o, A, rfl, ho⟩ := lp
      rw [rgD_len, show (((L.length : Nat) : Int).toNat) = L.length from by omega] at A ho
      refine ⟨P, A, ?_⟩
      have ll : (((L.map Fk.d).length : Nat) : Int) = ((L.length : Nat) : Int) := by rw [List.length_map]
      unfold b_law_all_pairs
      walk_at "ww"
      · rw [ll]
        refine ⟨_, e, _, rfl, ?_⟩
        rcases ho with rfl | rfl
        · walk_at "ww"
          rfl
        · walk_at "ww"
          rfl
      · rw [ll]
        exact rng1 (by omega) (by omega)
    · rintro i d s hj ⟨P, o, A, rfl, ho⟩
      obtain ⟨hj, rfl⟩ := rg0_get hj
      have hi : L[i]? = some L[i] := List.getElem?_eq_getElem (by omega)
      refine ⟨_, rfl, ?_⟩
      obtain ⟨g, s2, e2, rfl, h2⟩ := ap_step (N := N) L hok hd hi A ho
      exact ⟨s2, e2, h2⟩
  obtain ⟨P, A, w⟩ := w
  exact ⟨P, A, gives_w rfl w⟩
end K22

set_option maxHeartbeats 400000
namespace K22
open PySem L2 Ml Pw
theorem AccS.p {fs : List Fc} (ok : ∀ f ∈ fs, okF f) {D' : Nat → Int} (A : AccS (dP fs) D' (sP fs)) : Pol (dP fs) D' (eP fs) := by
  obtain ⟨e, pe, ne⟩ := A.pol
  have h : e = eP fs := funext fun k => nw_uniq (n := k) ne (nwP fs) (fun _ _ _ => rfl) k (Nat.le_refl k)
  rw [← h]
  exact pe
/-- pairs is asked, and what it tells is looked at -/
theorem ask2 {N : Nat} (hN : 2 ^ 4000 ≤ N) (acc : List Fk) (hok : ∀ f ∈ acc, f.ok) (n p : Nat) (hdeg : deg (acc.map Fk.c) = n) (hd : n ≤ 12) (hp : dP (acc.map Fk.c) = p) (D' : Nat → Int) (P : Pol p D' (eP (acc.map Fk.c))) (bd : ∀ k, (D' k).natAbs < 2 ^ 4000)
    (ds : List D) (x : Nat → Rat) (U : Int) (z : Nat → Int) (hlen : ds.length = n + 1) (hx : ∀ k, k < n + 1 → ∃ d, ds[k]? = some d ∧ Num d (x k)) (hU : 0 < U) (hU2 : U.natAbs < 2 ^ 2000) (hz : ∀ k, k < n + 1 → (U : Rat) * x k = (z k : Rat)) (hzb : ∀ k, k < n + 1 → (z k).natAbs < 2 ^ 2000)
    (hxn : x n ≠ 0) (hxe : ∀ k, k ≤ n → x (n - k) = eL (acc.map Fk.c) k * x n) :
    ∃ es : List D, Gives (f_pairs N) [.tup ds] (.sh (.tup es)) ∧ Gives (f_law_monic N) [.tup es, .lst (fl (p + 1) D')] (.sh (.bl true)) := by
  have ok' : ∀ f ∈ acc.map Fk.c, okF f := fun f hf => by
    obtain ⟨g, hg, rfl⟩ := List.mem_map.mp hf
    exact Fk.okc (hok g hg)
  have pe := dP_eq ok'
  rw [hdeg, hp] at pe
  have p66 := dP_le ok' (by omega)
  obtain ⟨es, h1, h2, h3⟩ := pairs_g (N := N) n p (acc.map Fk.c) ds x U z D' hd pe ok' hdeg hlen hx hU hU2 hz hzb hxn hxe P.lead P.rel bd
  refine ⟨es, h3, ?_⟩
  refine lmonic_g p es (fun k => eP (acc.map Fk.c) (p - k)) D' (by omega) h1 h2 P.lead (fun k hk => ?_) (fun k _ => bd k) (Nat.lt_of_lt_of_le (bd p) hN)
  have h := P.rel (p - k) (by omega)
  rw [show p - (p - k) = k from by omega] at h
  rw [h, Rat.mul_comm]
/-- .. of whole numbers c by one number b -/
theorem ask2_frac {N : Nat} (hN : 2 ^ 4000 ≤ N) (acc : List Fk) (hok : ∀ f ∈ acc, f.ok) (n p : Nat) (hdeg : deg (acc.map Fk.c) = n) (hd : n ≤ 12) (hp : dP (acc.map Fk.c) = p) (D' : Nat → Int) (PD : Pol p D' (eP (acc.map Fk.c))) (bd : ∀ k, (D' k).natAbs < 2 ^ 4000)
    (c : Nat → Int) (b : Int) (PC : Pol n c (eL (acc.map Fk.c))) (hb : b ≠ 0) (hb2 : b.natAbs < 2 ^ 2000) (hcb : ∀ k, (c k).natAbs < 2 ^ 2000) (ds : List D) (hlen : ds.length = n + 1) (hx : ∀ k, k < n + 1 → ∃ d, ds[k]? = some d ∧ Num d ((c k : Rat) / (b : Rat))) :
    ∃ es : List D, Gives (f_pairs N) [.tup ds] (.sh (.tup es)) ∧ Gives (f_law_monic N) [.tup es, .lst (fl (p + 1) D')] (.sh (.bl true)) := by
  have br := ratnz hb
  obtain ⟨s, hs1, hs2⟩ : ∃ s : Int, s.natAbs = 1 ∧ b * s = (b.natAbs : Int) := by
    by_cases q : 0 ≤ b
    · exact ⟨1, rfl, by omega⟩
    · exact ⟨-1, rfl, by omega⟩
  exact ask2 hN acc hok n p hdeg hd hp D' PD bd ds (fun k => (c k : Rat) / (b : Rat)) (b.natAbs : Int) (fun k => c k * s) hlen hx (by omega) (by rw [Int.natAbs_natCast]; exact hb2) (fun k _ => by
    rw [← hs2, Rat.intCast_mul, Rat.intCast_mul, Rat.div_def]
    have : (b : Rat) * (b : Rat)⁻¹ = 1 := Rat.mul_inv_cancel _ br
    grind) (fun k _ => by rw [Int.natAbs_mul, hs1, Nat.mul_one]; exact hcb k) (by
    have := ratnz PC.lead
    intro q
    rw [Rat.div_def] at q
    rcases Rat.mul_eq_zero.mp q with q | q
    · exact this q
    · have : (b : Rat) * (b : Rat)⁻¹ = 1 := Rat.mul_inv_cancel _ br
      rw [q] at this
      grind) (fun k hk => by
    show ((c (n - k) : Int) : Rat) / (b : Rat) = _ * ((c n : Rat) / (b : Rat))
    rw [PC.rel k hk, Rat.div_def, Rat.div_def, Rat.mul_assoc])
/-- no pair at all -/
theorem pol_none {fs : List Fc} (ok : ∀ f ∈ fs, okF f) (h : dP fs = 0) : Pol 0 (fun k => if k = 0 then 1 else 0) (eP fs) := by
  have A := (acc_nil 1).pol
  have e : eP fs = un := funext fun k => by
    by_cases q : k = 0
    · subst q; rw [eP_one]; rfl
    · rw [eP_zero ok (by omega)]
      exact (if_neg q).symm
  rw [e]
  exact A
/-! ### the items -/
theorem items_g {N : Nat} (l : List (Fk × Nat)) (hd : (ac l).length ≤ 12) : Gives (f_law_items N) [.lst (l.map fun p => p.1.d), .lst (l.map fun p => D.int (p.2 : Nat))] (.sh (.lst ((ac l).reverse.map Fk.d))) := by
  have sl16 : sizeLine = 16777216 := sizeLine_eq
  refine gives_w rfl ?_
  unfold b_law_items
  refine wS_cut [.sh (.lst (l.map fun p => p.1.d)), .sh (.lst (l.map fun p => D.int (p.2 : Nat))), .ow (.lst []), .no, .no, .no] ?_ ?_
  · walk_at "ww"
    first | rfl | exact ⟨rfl, rfl⟩
  refine wS_cut [.sh (.lst (l.map fun p => p.1.d)), .sh (.lst (l.map fun p => D.int (p.2 : Nat))), .ow (.lst ((ac l).reverse.map Fk.d)), .no, .no, .no] ?_ ?_
  · walk_at "ww"
    rw [zip_dz]
    refine loop_w (fun i s => s = [.sh (.lst (l.map fun p => p.1.d)), .sh (.lst (l.map fun p => D.int (p.2 : Nat))), .ow (.lst ((ac (l.take i)).reverse.map Fk.d)), .no, .no, .no]) rfl ?_ ?_
    · rintro i d s hdd rfl
      obtain ⟨f, m, e, rfl⟩ := dz_get hdd
      have an := ac_next e
      have al : m + (ac (l.take i)).length ≤ 12 := by
        obtain ⟨pre, hp⟩ := ac_suffix l (i + 1)
        rw [hp, an, List.length_append, List.length_append, List.length_replicate] at hd
        omega
      refine ⟨_, rfl, ?_⟩
      walk_at "ww"
      · refine ⟨by rw [rgD_len]; omega, rfl, ?_⟩
        refine lc_w (List.replicate m f.d) (by rw [rgD_len, List.length_replicate]; omega) ?_ rfl ?_
        · intro j d r g1 g2
          obtain ⟨hj, rfl⟩ := rg0_get g1
          have er : r = f.d := by
            have := List.mem_of_getElem? g2
            exact List.eq_of_mem_replicate this
          subst er
          refine ⟨_, rfl, ?_⟩
          walk_at "ww"
          exact ⟨rfl, rfl⟩
        · refine ⟨_, rfl, rfl, ?_⟩
          walk_at "ww"
          refine ⟨_, _, rfl, k_cat (by rw [List.length_map, List.length_reverse, List.length_replicate]; omega), ?_⟩
          refine ⟨_, rfl, rfl, rfl, ?_⟩
          rw [an, List.reverse_append, List.reverse_replicate, List.map_append, List.map_replicate]
          rfl
      · exact rng1 (by omega) (by omega)
    · rintro s3 rfl
      have lt : l.take (dz l).length = l := by unfold dz; rw [List.length_map, List.take_length]
      rw [lt]
      exact ⟨_, rfl, rfl, rfl⟩
  walk_at "ww"
  rfl
end K22

set_option maxHeartbeats 400000
namespace K22
open PySem L2 Ml Pw
theorem ip2 (a : Int) : a ^ 2 = a * a := by rw [Int.pow_succ, ip1]
theorem rl_deg {L : List Fk} {i : Nat} (h : deg (rev L L.length) ≤ 12) (hi : i ≤ L.length) : deg ((L.take i).reverse.map Fk.c) ≤ 12 := Nat.le_trans (rev_deg_le L hi) h
/-- the squares of the items -/
theorem all_squares_g {N : Nat} (L : List Fk) (hok : ∀ f ∈ L, f.ok) (hd : deg (rev L L.length) ≤ 12) : ∃ P, Acc 2 L.reverse P ∧ Gives (f_law_all_squares N) [.lst (L.map Fk.d)] (.sh (.lst (fl (deg (L.reverse.map Fk.c) + 1) P))) := by
  have w : ∃ P, Acc 2 L.reverse P ∧ wS (b_law_all_squares N) ([D.lst (L.map Fk.d)].map Sl.sh ++ List.replicate 4 .no) fun f _ => f = .rt (.sh (.lst (fl (deg (L.reverse.map Fk.c) + 1) P))) := by
    have lp := loop_inv (tg := .tp [(.nm 2), (.nm 3)]) (body := fgt [2, 3, 4] (fgt [4] (mIfS (mT (mOp fEq [(.e (mOp fIdx [(.b 2), (.e (mC (D.int (0))))])), (.e (mC (D.int (1))))])) (mAsg 1 (mCall (f_law_mul N) [(mV 1), (mDis fLst [(mOp fMul [(.e (mOp fNeg [(.e (mOp fIdx [(.b 2), (.e (mC (D.int (1))))]))])), (.e (mOp fIdx [(.b 2), (.e (mC (D.int (1))))]))]),
  (mOp fMul [(.b 3), (.b 3)])])])) (mSeq (mAsg 4 (mOp fMul [(.b 3), (.b 3)])) (mAsg 1 (mCall (f_law_mul N) [(mV 1), (mDis fLst [(mOp fMul [(.e (mOp fIdx [(.b 2), (.e (mC (D.int (2))))])), (.e (mOp fIdx [(.b 2), (.e (mC (D.int (2))))]))]), (mOp fMul [(.e (mOp fNeg [(.e (mCall (f_law_trace N) [(mOp fIdx [(.b 2), (.e (mC (D.int (1))))]), (mOp fIdx [(.b 2), (.e (mC (D.int (2))))]), (mC (D.int
  (2)))]))])), (.b 4)]), (mOp fMul [(.b 4), (.b 4)])])]))))))
      (fun i s => ∃ P o, Acc 2 (L.take i).reverse P ∧ s = [.sh (.lst (L.map Fk.d)), o, .no, .no, .no] ∧ Told o (deg ((L.take i).reverse.map Fk.c)) P)
      (ds := L.map Fk.d) (sl := [.sh (.lst (L.map Fk.d)), .ow (.lst [.int 1]), .no, .no, .no]) ⟨_, _, acc_nil 2, rfl, .inl rfl⟩ ?_
    · obtain ⟨s', e, P, o, A, rfl, ho⟩ := lp
      rw [List.length_map, List.take_length] at A ho
      refine ⟨P, A, ?_⟩
      unfold b_law_all_squares
      walk_at "ww"
      refine ⟨_, e, _, rfl, ?_⟩
      rcases ho with rfl | rfl
      · walk_at "ww"
        rfl
      · walk_at "ww"
        rfl
    · rintro i d s hdd ⟨P, o, A, rfl, ho⟩
      rw [List.getElem?_map] at hdd
      cases hi : L[i]? with
      | none => rw [hi] at hdd; cases hdd
      | some f =>
        rw [hi] at hdd
        cases hdd
        have hlt : i < L.length := (List.getElem?_eq_some_iff.mp hi).1
        have hf : f.ok := hok f (List.mem_of_getElem? hi)
        obtain ⟨br, bq, bu⟩ := hf.b
        have i1 : NB f.r 3 := ⟨br⟩
        have i2 : NB f.q 5 := ⟨bq⟩
        have i3 : NB f.u 3 := ⟨bu⟩
        have rn : (L.take (i + 1)).reverse = f :: (L.take i).reverse := by rw [List.take_succ, hi, List.reverse_append]; rfl
        have sd := rl_deg (i := i) hd (by omega)
        have A2 := acc_step (l := 2) (by omega) A hf sd
        have g := mul_step (N := N) (l := 2) (by omega) (by omega) A hf sd (acc_len sd)
        rw [rn]
        refine ⟨[.sh (.lst (L.map Fk.d)), o, .sh f.kd, .sh (.int f.u), .no], rfl, ?_⟩
        have w : wS (fgt [2, 3, 4] (fgt [4] (mIfS (mT (mOp fEq [(.e (mOp fIdx [(.b 2), (.e (mC (D.int (0))))])), (.e (mC (D.int (1))))])) (mAsg 1 (mCall (f_law_mul N) [(mV 1), (mDis fLst [(mOp fMul [(.e (mOp fNeg [(.e (mOp fIdx [(.b 2), (.e (mC (D.int (1))))]))])), (.e (mOp fIdx [(.b 2), (.e (mC (D.int (1))))]))]),
  (mOp fMul [(.b 3), (.b 3)])])])) (mSeq (mAsg 4 (mOp fMul [(.b 3), (.b 3)])) (mAsg 1 (mCall (f_law_mul N) [(mV 1), (mDis fLst [(mOp fMul [(.e (mOp fIdx [(.b 2), (.e (mC (D.int (2))))])), (.e (mOp fIdx [(.b 2), (.e (mC (D.int (2))))]))]), (mOp fMul [(.e (mOp fNeg [(.e (mCall (f_law_trace N) [(mOp fIdx [(.b 2), (.e (mC (D.int (1))))]), (mOp fIdx [(.b 2), (.e (mC (D.int (2))))]), (mC (D.int
  (2)))]))])), (.b 4)]), (mOp fMul [(.b 4), (.b 4)])])])))))) [.sh (.lst (L.map Fk.d)), o, .sh f.kd, .sh (.int f.u), .no] fun g s => g = .nx ∧ ∃ P' o', Acc 2 (f :: (L.take i).reverse) P' ∧ s = [.sh (.lst (L.map Fk.d)), o', .no, .no, .no] ∧ Told o' (deg ((f :: (L.take i).reverse).map Fk.c)) P' := by
          cases e : f.lin with
          | true =>
            have kd : f.kd = .tup [.int 1, .int f.r, .int f.q] := by unfold Fk.kd; rw [dg_lin e]; rfl
            have eo : D.lst (fl (f.dg + 1) (f.pw 2)) = .lst [.int (-f.r * f.r), .int (f.u * f.u)] := by
              have h := (lD_lin (k := 2) e).2
              unfold lD at h
              rw [h, ip2, ip2, Int.neg_mul]
            rw [eo] at g
            rw [kd]
            rcases ho with rfl | rfl
            · walk_at "wk"
              · refine ⟨_, g, ?_⟩
                exact ⟨_, rfl, rfl, rfl, _, _, A2, rfl, .inr rfl⟩
              all_goals exact mk_mul (by decide)
            · walk_at "wk"
              · refine ⟨_, g, ?_⟩
                exact ⟨_, rfl, rfl, rfl, _, _, A2, rfl, .inr rfl⟩
              all_goals exact mk_mul (by decide)
          | false =>
            have kd : f.kd = .tup [.int 2, .int f.r, .int f.q] := by unfold Fk.kd; rw [dg_quad e]; rfl
            have eo : D.lst (fl (f.dg + 1) (f.pw 2)) = .lst [.int (f.q * f.q), .int (-(trI f.r f.q 2) * (f.u * f.u)), .int ((f.u * f.u) * (f.u * f.u))] := by
              have h := (lD_quad (k := 2) e).2
              unfold lD at h
              rw [h, ip2, ip2]
            have gt := trace_g (N := N) f.r f.q 2 br bq (by omega)
            have i4 : NB (trI f.r f.q 2) (4 * 2 + 2) := ⟨(trI_bd br bq 2).1⟩
            rw [eo] at g
            rw [kd]
            rcases ho with rfl | rfl
            · walk_at "wk"
              · refine ⟨_, gt, ?_⟩
                walk_at "wk"
                · refine ⟨_, g, ?_⟩
                  exact ⟨_, rfl, rfl, rfl, _, _, A2, rfl, .inr rfl⟩
                all_goals exact mk_mul (by decide)
              all_goals exact mk_mul (by decide)
            · walk_at "wk"
              · refine ⟨_, gt, ?_⟩
                walk_at "wk"
                · refine ⟨_, g, ?_⟩
                  exact ⟨_, rfl, rfl, rfl, _, _, A2, rfl, .inr rfl⟩
                all_goals exact mk_mul (by decide)
              all_goals exact mk_mul (by decide)
        obtain ⟨g, s2, e2, rfl, h2⟩ := w
        exact ⟨s2, e2, h2⟩
  obtain ⟨P, A, w⟩ := w
  exact ⟨P, A, gives_w rfl w⟩
end K22

set_option maxHeartbeats 400000
namespace K22
open PySem L2 Ml Pw
def lw (R : Int) : Nat → Int := fun k => if k = 0 then -R else if k = 1 then 1 else 0
theorem blk_lw {R : Int} (h : R.natAbs < 2 ^ 30) : Blk 1 (lw R) fun k => if k = 0 then 0 else tr (R : Rat) 0 k := by
  refine ⟨⟨fac (R : Rat) 0, ⟨by show (1 : Int) ≠ 0; decide, fun k hk => ?_, fun k hk => ?_, fun k hk => ?_⟩, nw_quad _ _⟩, fun k => ?_⟩
  · have e1 : ((1 : Int) : Rat) = 1 := rfl
    match k, hk with
    | 0, _ =>
      show ((1 : Int) : Rat) = 1 * ((1 : Int) : Rat)
      grind
    | 1, _ =>
      show ((-R : Int) : Rat) = -(R : Rat) * ((1 : Int) : Rat)
      rw [Rat.intCast_neg, e1]
      grind
  · unfold lw
    rw [if_neg (by omega), if_neg (by omega)]
  · match k, hk with
    | 2, _ => rfl
    | k + 3, _ => rfl
  · unfold lw
    split
    · exact nb_le (by decide) (nb_neg h)
    · split <;> decide
theorem product_66 {N : Nat} (R : Int) (hR : R.natAbs < 2 ^ 30) : ∃ P, AccS 66 P (fun k => ((66 : Nat) : Rat) * (if k = 0 then 0 else tr (R : Rat) 0 k)) ∧ Gives (f_law_product N) [.lst [.tup [.tup [.int 1, .int R, .int 0], .int 66]], .int 1] (.sh (.lst (fl 67 P))) := by
  have kp := kp_lin (N := N) R
  have eO : Ob.lst [.int (-R), .int 1] = Ob.lst (fl (1 + 1) (lw R)) := rfl
  rw [eO] at kp
  have B := blk_lw hR
  obtain ⟨M, hM⟩ : ∃ M : Int, M = 66 := ⟨_, rfl⟩
  rw [← hM]
  obtain ⟨L, hL⟩ : ∃ L : List D, L = [.tup [.tup [.int 1, .int R, .int 0], .int M]] := ⟨_, rfl⟩
  rw [← hL]
  have w : ∃ P, AccS 66 P (fun k => ((66 : Nat) : Rat) * (if k = 0 then 0 else tr (R : Rat) 0 k)) ∧ wS (b_law_product N) ([D.lst L, D.int 1].map Sl.sh ++ List.replicate 4 .no) fun g _ => g = .rt (.sh (.lst (fl 67 P))) := by
    have lp := loop_inv (tg := .nm 5) (body := fgt [5] (mAsg 2 (mCall (f_law_mul N) [(mV 2), (mCall (f_law_knot_poly N) [(mV 3), (mV 1)])])))
      (fun j s => ∃ P o, AccS j P (fun k => (j : Rat) * (if k = 0 then 0 else tr (R : Rat) 0 k)) ∧ s = [.sh (.lst L), .sh (.int 1), o, .sh (.tup [.int 1, .int R, .int 0]), .sh (.int M), .no] ∧ Told o j P)
      (ds := rgD 0 M.toNat) (sl := [.sh (.lst L), .sh (.int 1), .ow (.lst [.int 1]), .sh (.tup [.int 1, .int R, .int 0]), .sh (.int M), .no]) ⟨_, _, accS_nil.congr fun k => ?_, rfl, .inl rfl⟩ ?_
    · obtain ⟨s', e, P, o, A, rfl, ho⟩ := lp
      rw [rgD_len, show M.toNat = 66 from by omega] at A ho
      refine ⟨P, A, ?_⟩
      unfold b_law_product
      walk_at "ww"
      refine loop_w (fun i s => (i = 0 ∧ s = [.sh (.lst L), .sh (.int 1), .ow (.lst [.int 1]), .no, .no, .no]) ∨ (i = 1 ∧ s = [.sh (.lst L), .sh (.int 1), o, .no, .no, .no])) (.inl ⟨rfl, rfl⟩) ?_ ?_
      · rintro i d s hd (⟨rfl, rfl⟩ | ⟨rfl, rfl⟩)
        · rw [hL] at hd
          cases hd
          refine ⟨_, rfl, ?_⟩
          walk_at "ww"
          · refine ⟨_, e, _, rfl, ?_⟩
            exact ⟨rfl, .inr ⟨rfl, rfl⟩⟩
          · exact rng1 (by omega) (by omega)
        · rw [hL] at hd
          cases hd
      · rintro s3 (⟨h, rfl⟩ | ⟨h, rfl⟩)
        · rw [hL] at h
          cases h
        · rcases ho with rfl | rfl
          · refine ⟨_, rfl, ?_⟩
            walk_at "ww"
            rfl
          · refine ⟨_, rfl, ?_⟩
            walk_at "ww"
            rfl
    · show (0 : Rat) = ((0 : Nat) : Rat) * _
      have : ((0 : Nat) : Rat) = 0 := rfl
      rw [this]
      grind
    · rintro j d s hj ⟨P, o, A, rfl, ho⟩
      obtain ⟨hj, rfl⟩ := rg0_get hj
      have g := mulS_g (N := N) (by omega) (by omega) A B
      have A2 := (accS_step (by omega) (by omega) A B).congr (t := fun k => ((j + 1 : Nat) : Rat) * (if k = 0 then 0 else tr (R : Rat) 0 k)) fun k => by
        rw [Rat.natCast_add]
        have : ((1 : Nat) : Rat) = 1 := rfl
        rw [this]
        grind
      refine ⟨_, rfl, ?_⟩
      have w : wS (fgt [5] (mAsg 2 (mCall (f_law_mul N) [(mV 2), (mCall (f_law_knot_poly N) [(mV 3), (mV 1)])]))) ([.sh (.lst L), .sh (.int 1), o, .sh (.tup [.int 1, .int R, .int 0]), .sh (.int M), .sh (.int (j : Nat))]) fun g s => g = .nx ∧ ∃ P o, AccS (j + 1) P (fun k => ((j + 1 : Nat) : Rat) * (if k = 0 then 0 else tr (R : Rat) 0 k)) ∧ s = [.sh (.lst L), .sh (.int 1), o, .sh (.tup [.int 1, .int R, .int 0]), .sh (.int M), .no] ∧ Told o (j + 1) P := by
        rcases ho with rfl | rfl
        · walk_at "ww"
          refine ⟨_, kp, ?_⟩
          walk_at "ww"
          refine ⟨_, g, ?_⟩
          exact ⟨_, rfl, rfl, rfl, _, _, A2, rfl, .inr rfl⟩
        · walk_at "ww"
          refine ⟨_, kp, ?_⟩
          walk_at "ww"
          refine ⟨_, g, ?_⟩
          exact ⟨_, rfl, rfl, rfl, _, _, A2, rfl, .inr rfl⟩
      obtain ⟨g, s2, e2, rfl, h2⟩ := w
      exact ⟨s2, e2, h2⟩
  obtain ⟨P, A, w⟩ := w
  exact ⟨P, A, gives_w rfl w⟩
theorem sL_rep (c : Fc) : ∀ (m k : Nat), sL (List.replicate m c) k = (m : Rat) * (if k = 0 then 0 else tr c.t c.q k)
  | 0, k => by
    show (0 : Rat) = ((0 : Nat) : Rat) * _
    have : ((0 : Nat) : Rat) = 0 := rfl
    rw [this]
    grind
  | m + 1, k => by
    show sL (List.replicate m c) k + _ = _
    rw [sL_rep c m k, Rat.natCast_add]
    have : ((1 : Nat) : Rat) = 1 := rfl
    rw [this]
    grind
theorem base2_ok {b : Int} (h : b ∈ [1, -1, 2]) : Fk.ok ⟨true, b, 0, 1⟩ := by
  simp only [List.mem_cons, List.not_mem_nil, or_false] at h
  refine ⟨?_, ?_, ?_, fun _ => rfl⟩
  · show b.natAbs < 8
    omega
  · show (0 : Int).natAbs < 32
    decide
  · show (0 : Int) < 1 ∧ (1 : Int) < 8
    decide
theorem acc12 (b : Int) (h : Fk.ok ⟨true, b, 0, 1⟩) : dP ((List.replicate 12 (⟨true, b, 0, 1⟩ : Fk)).map Fk.c) = 66 ∧ ∀ k, (((66 : Nat) : Rat) * (if k = 0 then 0 else tr ((b * b : Int) : Rat) 0 k)) = sP ((List.replicate 12 (⟨true, b, 0, 1⟩ : Fk)).map Fk.c) k := by
  have ok' : ∀ f ∈ (List.replicate 12 (⟨true, b, 0, 1⟩ : Fk)).map Fk.c, okF f := fun f hf => by
    obtain ⟨g, hg, rfl⟩ := List.mem_map.mp hf
    rw [List.eq_of_mem_replicate hg]
    exact Fk.okc h
  have d12 : deg ((List.replicate 12 (⟨true, b, 0, 1⟩ : Fk)).map Fk.c) = 12 := by rw [deg_rep]; rfl
  have dp := dP_eq ok'
  rw [d12] at dp
  refine ⟨by omega, fun k => ?_⟩
  by_cases q : k = 0
  · subst q
    rw [(nwP _).zero]
    show _ * (0 : Rat) = 0
    grind
  · have h2 := sP_eq (k := k) (by omega) ((List.replicate 12 (⟨true, b, 0, 1⟩ : Fk)).map Fk.c)
    rw [List.map_replicate, sL_rep, sL_rep, if_neg q, if_neg (by omega)] at h2
    rw [List.map_replicate, if_neg q]
    have ct : (Fk.c ⟨true, b, 0, 1⟩).t = (b : Rat) := by
      show (b : Rat) / ((1 : Int) : Rat) = _
      have : ((1 : Int) : Rat) = 1 := rfl
      rw [this]
      grind
    have cq : (Fk.c ⟨true, b, 0, 1⟩).q = 0 := by
      show ((0 : Int) : Rat) / _ = 0
      have : ((0 : Int) : Rat) = 0 := rfl
      rw [this, Rat.div_def]
      grind
    obtain ⟨j, rfl⟩ : ∃ j, k = j + 1 := ⟨k - 1, by omega⟩
    rw [ct, cq, tr_lin, show 2 * (j + 1) = (2 * j + 1) + 1 from by omega, tr_lin, show 2 * j + 1 + 1 = (j + 1) + (j + 1) from by omega, rpow_add (b : Rat) (j + 1) (j + 1)] at h2
    rw [tr_lin, Rat.intCast_mul, rmul_pow]
    have e66 : ((66 : Nat) : Rat) = 66 := rfl
    have e12 : ((12 : Nat) : Rat) = 12 := rfl
    rw [e12] at h2
    rw [e66]
    generalize (b : Rat) ^ (j + 1) = y at h2 ⊢
    generalize sP _ (j + 1) = w at h2 ⊢
    clear ok' d12 dp h
    grind
theorem pairs_x1 {N : Nat} (ds : List D) (h : ds.length = 14) : Throws (f_pairs N) [.tup ds] 2 ["most", "what"] [.int 12, .str "polynomial"] := by
  refine throws_fn rfl ?_
  unfold b_pairs
  refine xS_seq1 (xS_ex (xE_call ?_))
  walk_at "ww"
  exact ⟨bounded_x ds h, trivial⟩
theorem bounds_g {N : Nat} (hN : 2 ^ 4000 ≤ N) (ns : List Int) (cm : Int) (o : Ob) (h : Bag ns cm o) (hc : cm < 1000000000) : GivesB (f_law_at_bounds N) o [] fun rv o' => rv = .sh (.bl true) ∧ Bag ns (cm + 1) o' := by
  have sl16 : sizeLine = 16777216 := sizeLine_eq
  refine givesB_w rfl ?_
  unfold b_law_at_bounds
  refine wS_seq (wS_imp (Q := fun g s => g = .nx ∧ ∃ (o1 : Ob) (b : Int), s = [.bo o1, .sh (.int b), .no] ∧ b ∈ [1, -1, 2] ∧ Bag ns (cm + 1) o1) ?_ ?_)
  · walk_at "ww"
    refine givesB_imp (of_ints (N := N) ns cm _ h (by omega) [1, -1, 2] (by decide) (by decide)) ?_
    rintro rv o1 ⟨b, hb, rfl, hb1⟩
    walk_at "ww"
    exact ⟨rfl, o1, b, rfl, hb, hb1⟩
  rintro g s ⟨rfl, o1, b, rfl, hb, hb1⟩
  show wS _ _ _
  have hok := base2_ok hb
  have hb4 : b.natAbs < 2 ^ 2 := by
    simp only [List.mem_cons, List.not_mem_nil, or_false] at hb
    show b.natAbs < 4
    omega
  obtain ⟨P, A1, g1⟩ := product_g (N := N) (l := 1) (by omega) (by omega) ⟨true, b, 0, 1⟩ hok rfl rfl
  obtain ⟨D', A6, g6⟩ := product_66 (N := N) (b * b) (nb_le (by decide) (nb_mul hb4 hb4))
  simp only [ip1] at g1
  obtain ⟨dp, sp⟩ := acc12 b hok
  have d12 : deg ((List.replicate 12 (⟨true, b, 0, 1⟩ : Fk)).map Fk.c) = 12 := by rw [deg_rep]; rfl
  have aok : ∀ f ∈ List.replicate 12 (⟨true, b, 0, 1⟩ : Fk), f.ok := fun f hf => by rw [List.eq_of_mem_replicate hf]; exact hok
  have ok' : ∀ f ∈ (List.replicate 12 (⟨true, b, 0, 1⟩ : Fk)).map Fk.c, okF f := fun f hf => by
    obtain ⟨g, hg, rfl⟩ := List.mem_map.mp hf
    exact Fk.okc (aok g hg)
  have A7 : AccS (dP ((List.replicate 12 (⟨true, b, 0, 1⟩ : Fk)).map Fk.c)) D' (sP ((List.replicate 12 (⟨true, b, 0, 1⟩ : Fk)).map Fk.c)) := by
    rw [dp]
    exact A6.congr sp
  have PD := A7.p ok'
  rw [dp] at PD
  have PC := A1.p d12
  rw [pL_one] at PC
  obtain ⟨es, p1, p2⟩ := ask2_frac hN _ aok 12 66 d12 (by omega) dp D' PD (fun k => nb_le (by omega) (A6.bd k)) P 1 PC (by decide) (Nat.lt_of_lt_of_le (by decide : (1 : Int).natAbs < 2 ^ 1) (Nat.pow_le_pow_right (by omega) (by omega))) (acc_bd A1 (by omega) 2000 (by omega)) (fl 13 P) fl_len (fun k hk => ⟨_, fl_get hk, by
    have e1 : ((1 : Int) : Rat) = 1 := rfl
    have e2 : (P k : Rat) / ((1 : Int) : Rat) = (P k : Rat) := by rw [e1]; grind
    rw [e2]
    exact .int _⟩)
  refine wS_cut [.bo o1, .sh (.int b), .sh (.lst (fl 13 P))] ?_ ?_
  · walk_at "ww"
    refine ⟨_, g1, ?_⟩
    walk_at "ww"
    first | rfl | exact ⟨rfl, rfl⟩
  refine wS_cut [.bo o1, .sh (.int b), .sh (.lst (fl 13 P))] ?_ ?_
  · walk_at "ww"
    refine ⟨_, refused_g (pairs_x1 _ (by rw [List.length_append, fl_len]; rfl)), ?_⟩
    walk_at "ww"
    refine ⟨_, is_too1, ?_⟩
    walk_at "ww"
    first | rfl | exact ⟨rfl, rfl⟩
  walk_at "ww"
  refine ⟨_, p1, ?_⟩
  walk_at "wk"
  · refine ⟨_, g6, ?_⟩
    walk_at "ww"
    refine ⟨_, p2, ?_⟩
    exact ⟨_, _, _, rfl, rfl, rfl, hb1⟩
  · exact mulOk_of hb4 hb4 (by decide)
end K22

set_option maxHeartbeats 400000
namespace K22
open PySem L2 Ml Pw
theorem kp_sh {N : Nat} (f : Fk) (h : f.ok) : Gives (f_law_knot_poly N) [f.kd, .int f.u] (.fr (.lst (fl (f.dg + 1) (f.pw 1)))) := knot_poly_g f h
theorem small_deg (f g : Fk) : deg ([g, f].map Fk.c) = f.dg + g.dg := by
  show 0 + f.dg + g.dg = _
  omega
theorem const_g {N : Nat} (hN : 2 ^ 4000 ≤ N) {d : D} (hx : Num d (((5 : Int) : Rat) / ((2 : Int) : Rat))) : ∃ es : List D, Gives (f_pairs N) [.tup [d]] (.sh (.tup es)) ∧ Gives (f_law_monic N) [.tup es, .lst [.int 1]] (.sh (.bl true)) := by
  have P0 : Pol 0 (fun k => if k = 0 then 5 else 0) (eL (([] : List Fk).map Fk.c)) := by
    have h := Pol.scale ((acc_nil 1).p rfl) (s := 5) (by decide)
    rw [pL_one] at h
    have e : (fun k => (if k = 0 then (1 : Int) else 0) * 5) = fun k => if k = 0 then 5 else 0 := funext fun k => by split <;> rfl
    rw [e] at h
    exact h
  exact ask2_frac hN [] (by simp) 0 0 rfl (by omega) rfl _ (pol_none (by simp) rfl) (acc_bd (acc_nil 1) (by show 0 ≤ 12; omega) 4000 (by omega)) (fun k => if k = 0 then 5 else 0) 2 P0 (by decide) (Nat.lt_of_lt_of_le (by decide : (2 : Int).natAbs < 2 ^ 3) (Nat.pow_le_pow_right (by omega) (by omega))) (fun k => Nat.lt_of_lt_of_le (by split <;> decide : _ < 2 ^ 3) (Nat.pow_le_pow_right (by omega) (by omega))) [d] rfl (fun k hk => by
    have : k = 0 := by omega
    subst this
    exact ⟨_, rfl, hx⟩)
theorem line_g {N : Nat} (hN : 2 ^ 4000 ≤ N) {d : D} (hx : Num d (((-7 : Int) : Rat) / ((3 : Int) : Rat))) : ∃ es : List D, Gives (f_pairs N) [.tup [d, .int 2]] (.sh (.tup es)) ∧ Gives (f_law_monic N) [.tup es, .lst [.int 1]] (.sh (.bl true)) := by
  have hok : Fk.ok ⟨true, 7, 0, 6⟩ := ⟨by decide, by decide, by decide, fun _ => rfl⟩
  have A := acc_sing (l := 1) (by omega) hok
  have PC := A.p (n := 1) rfl
  rw [pL_one] at PC
  have aok : ∀ f ∈ [(⟨true, 7, 0, 6⟩ : Fk)], f.ok := fun f hf => by rw [List.mem_singleton.mp hf]; exact hok
  exact ask2_frac hN [(⟨true, 7, 0, 6⟩ : Fk)] aok 1 0 rfl (by omega) rfl _ (pol_none (fun f hf => by
    obtain ⟨g, hg, rfl⟩ := List.mem_map.mp hf
    exact Fk.okc (aok g hg)) rfl) (acc_bd (acc_nil 1) (by show 0 ≤ 12; omega) 4000 (by omega)) _ 3 PC (by decide) (Nat.lt_of_lt_of_le (by decide : (3 : Int).natAbs < 2 ^ 3) (Nat.pow_le_pow_right (by omega) (by omega))) (acc_bd A (by show 1 ≤ 12; omega) 2000 (by omega)) [d, .int 2] rfl (fun k hk => by
    match k, hk with
    | 0, _ => exact ⟨_, rfl, hx⟩
    | 1, _ =>
      refine ⟨_, rfl, ?_⟩
      have e : ((Fk.pw ⟨true, 7, 0, 6⟩ 1 1 : Int) : Rat) / ((3 : Int) : Rat) = ((2 : Int) : Rat) := by
        have h1 : Fk.pw ⟨true, 7, 0, 6⟩ 1 1 = 6 := rfl
        have e6 : ((6 : Int) : Rat) = 6 := rfl
        have e3 : ((3 : Int) : Rat) = 3 := rfl
        have e2 : ((2 : Int) : Rat) = 2 := rfl
        rw [h1, e6, e3, e2]
        grind
      rw [e]
      exact .int 2)
/-- the product of two of the factors -/
theorem small_g {N : Nat} (f g : Fk) (hf : f.ok) (hg : g.ok) : ∃ R D5 : Nat → Int, Acc 1 [g, f] R ∧ AccS (dP ([g, f].map Fk.c)) D5 (sP ([g, f].map Fk.c)) ∧ Gives (f_law_mul N) [.lst (fl (f.dg + 1) (f.pw 1)), .lst (fl (g.dg + 1) (g.pw 1))] (.sh (.lst (fl (f.dg + g.dg + 1) R))) ∧ Gives (f_law_all_pairs N) [.lst [f.d, g.d]] (.sh (.lst (fl (dP ([g, f].map Fk.c) + 1) D5))) := by
  have dc := dg_cases f
  have gc := dg_cases g
  have A := acc_sing (l := 1) (by omega) hf
  have d1 : deg ([f].map Fk.c) = f.dg := Nat.zero_add _
  have A2 := acc_step (l := 1) (by omega) A hg (by rw [d1]; omega)
  have gm := mul_step (N := N) (l := 1) (by omega) (by omega) A hg (by rw [d1]; omega) (by show 1 ≤ 12; omega)
  rw [d1, small_deg] at gm
  rw [d1] at A2
  have ok2 : ∀ h ∈ [f, g], h.ok := fun h hh => by
    rcases List.mem_cons.mp hh with rfl | hh
    · exact hf
    · rw [List.mem_singleton.mp hh]; exact hg
  have rl : rev [f, g] [f, g].length = [g, f].map Fk.c := rfl
  obtain ⟨D5, A5, g5⟩ := all_pairs_g (N := N) [f, g] ok2 (by rw [rl, small_deg]; omega)
  rw [rl] at A5 g5
  exact ⟨_, D5, A2, A5, gm, g5⟩
theorem law_g {N : Nat} (hN : 2 ^ 4000 ≤ N) (ns : List Int) (hns : ns.length ≤ 63) : Gives (f_law N) [.scr (ns.map D.int)] (.sh (.bl true)) := by
  have sl16 : sizeLine = 16777216 := sizeLine_eq
  have N64 : 64 ≤ N := Nat.le_trans (Nat.le_trans (by decide : 64 ≤ 2 ^ 7) (Nat.pow_le_pow_right (by omega) (by omega))) hN
  have t2000 : ∀ {z : Int} {m : Nat}, z.natAbs < 2 ^ m → m ≤ 2000 → z.natAbs < 2 ^ 2000 := fun h l => nb_le l h
  obtain ⟨o, hb, gb⟩ := bag_g (N := N) ns hns
  refine gives_w rfl ?_
  unfold b_law
  refine wS_cut [.sh (.scr (ns.map D.int)), .ow o, .no, .no, .no, .no, .no, .no, .no, .no, .no, .no] ?_ ?_
  · walk_at "ww"
    refine ⟨_, gb, ?_⟩
    walk_at "ww"
    first | rfl | exact ⟨rfl, rfl⟩
  refine wS_seq (wS_imp (Q := fun g s => g = .nx ∧ ∃ (o1 : Ob) (pool : List Fk), s = [.sh (.scr (ns.map D.int)), .ow o1, .sh (.lst (pool.map Fk.d)), .no, .no, .no, .no, .no, .no, .no, .no, .no] ∧ (pool.length ≤ 4 ∧ pool ≠ []) ∧ (∀ f ∈ pool, f.ok) ∧ Bag ns 20 o1) ?_ ?_)
  · walk_at "ww"
    refine givesB_imp (pool_g (N := N) N64 ns _ _ hb (by decide)) ?_
    rintro rv o1 ⟨pool, h1, h2, rfl, h3⟩
    walk_at "ww"
    exact ⟨rfl, o1, pool, rfl, h1, h2, h3⟩
  rintro g s ⟨rfl, o1, pool, rfl, ⟨pl, pne⟩, pok, hb1⟩
  show wS _ _ _
  refine wS_seq (wS_imp (Q := fun g s => g = .nx ∧ ∃ (o2 : Ob) (ms : List Nat), s = [.sh (.scr (ns.map D.int)), .ow o2, .sh (.lst (pool.map Fk.d)), .sh (.lst (ms.map fun m => D.int (m : Nat))), .no, .no, .no, .no, .no, .no, .no, .no] ∧ ms.length = pool.length ∧ deg ((ac (pool.zip ms)).map Fk.c) ≤ 12 ∧ Bag ns 25 o2) ?_ ?_)
  · walk_at "ww"
    refine givesB_imp (of_ints (N := N) ns _ _ hb1 (by decide) [5, 3, 6, 4, 2, 4, 5, 6, 3, 9] (by decide) (by decide)) ?_
    rintro rv o2 ⟨q, hq, rfl, hb2⟩
    simp only [List.mem_cons, List.not_mem_nil, or_false] at hq
    obtain ⟨cap, rfl⟩ : ∃ k : Nat, q = (k : Int) := ⟨q.toNat, by omega⟩
    walk_at "ww"
    refine givesB_imp (counts_g (N := N) ns _ _ hb2 (by decide) pool pl cap (by omega)) ?_
    rintro rv o3 ⟨ms, h1, h2, rfl, h3⟩
    walk_at "ww"
    exact ⟨rfl, o3, ms, rfl, h1, by omega, h3⟩
  rintro g s ⟨rfl, o2, ms, rfl, ml, hdeg, hb2⟩
  show wS _ _ _
  have zf := zip_fst pool ms ml
  have lok : ∀ p ∈ pool.zip ms, p.1.ok := fun p hp => pok _ (List.of_mem_zip hp).1
  have aok : ∀ f ∈ ac (pool.zip ms), f.ok := ac_mem _ [] lok (by simp)
  have alen := acc_len hdeg
  obtain ⟨P, AP, gj⟩ := joined_g (N := N) (pool.zip ms) lok hdeg
  have gi := items_g (N := N) (pool.zip ms) alen
  rw [zf.1, zf.2] at gj gi
  have rl : rev (ac (pool.zip ms)).reverse (ac (pool.zip ms)).reverse.length = (ac (pool.zip ms)).map Fk.c := by
    unfold rev
    rw [List.take_length, List.reverse_reverse]
  obtain ⟨D2, A2, g2⟩ := all_pairs_g (N := N) (ac (pool.zip ms)).reverse (fun f hf => aok f (List.mem_reverse.mp hf)) (by rw [rl]; exact hdeg)
  obtain ⟨Q2, B2, s2⟩ := all_squares_g (N := N) (ac (pool.zip ms)).reverse (fun f hf => aok f (List.mem_reverse.mp hf)) (by rw [rl]; exact hdeg)
  rw [rl] at A2 g2
  rw [List.reverse_reverse] at B2 s2
  generalize ac (pool.zip ms) = acc at *
  generalize en : deg (acc.map Fk.c) = n at *
  have ok' : ∀ f ∈ acc.map Fk.c, okF f := fun f hf => by
    obtain ⟨g, hg, rfl⟩ := List.mem_map.mp hf
    exact Fk.okc (aok g hg)
  have p66 := dP_le ok' (by omega)
  have Pb : ∀ k, (P k).natAbs < 2 ^ 181 := acc_bd AP (by omega) 181 (by omega)
  have Pb4 : ∀ k, (P k).natAbs < 2 ^ 4000 := acc_bd AP (by omega) 4000 (by omega)
  have Pp := AP.p en
  rw [pL_one] at Pp
  refine wS_seq (wS_imp (Q := fun g s => g = .nx ∧ ∃ (o3 : Ob) (s0 s1 : Int), s = [.sh (.scr (ns.map D.int)), .ow o3, .sh (.lst (pool.map Fk.d)), .sh (.lst (ms.map fun m => D.int (m : Nat))), .sh (.lst (fl (n + 1) fun k => P k * s0)), .sh (.int (P n * s1)), .no, .no, .no, .no, .no, .no] ∧ s0 ≠ 0 ∧ s0.natAbs < 2 ^ 70 ∧ 0 < s1 ∧ s1.natAbs < 2 ^ 50 ∧ Bag ns 27 o3) ?_ ?_)
  · walk_at "ww"
    refine ⟨_, gj, ?_⟩
    walk_at "ww"
    refine givesB_imp (scale_g (N := N) ns _ _ hb2 (by decide)) ?_
    rintro rv o3 ⟨s0, s1, rfl, h0, h1, h2, h3, hb3⟩
    walk_at "ww"
    refine ⟨_, scaled_g n P s0 s1 (by omega) Pb4 h1 (Nat.lt_of_lt_of_le h3 (Nat.pow_le_pow_right (by omega) (by omega))), ?_⟩
    walk_at "ww"
    first | exact ⟨o3, s0, s1, rfl, h0, h1, h2, h3, hb3⟩ | exact ⟨rfl, o3, s0, s1, rfl, h0, h1, h2, h3, hb3⟩
  rintro g s ⟨rfl, o3, s0, s1, rfl, s00, s0b, s10, s1b, hb3⟩
  show wS _ _ _
  have b0 : P n * s1 ≠ 0 := Int.mul_ne_zero Pp.lead (by omega)
  have bb : (P n * s1).natAbs < 2 ^ 2000 := mul_bd (Pb n) s1b (by omega)
  have cb : ∀ k, (P k * s0).natAbs < 2 ^ 2000 := fun k => mul_bd (Pb k) s0b (by omega)
  refine wS_seq (wS_imp (Q := fun g s => g = .nx ∧ ∃ (o4 : Ob) (ds : List D), s = [.sh (.scr (ns.map D.int)), .ow o4, .sh (.lst (pool.map Fk.d)), .sh (.lst (ms.map fun m => D.int (m : Nat))), .sh (.lst (fl (n + 1) fun k => P k * s0)), .sh (.int (P n * s1)), .sh (.tup ds), .sh (.lst (acc.reverse.map Fk.d)), .no, .no, .no, .no] ∧ ds.length = n + 1 ∧ (∀ k, k < n + 1 → ∃ d, ds[k]? = some d ∧ Num d (((P k * s0 : Int) : Rat) / ((P n * s1 : Int) : Rat))) ∧ Bag ns 1027 o4) ?_ ?_)
  · walk_at "ww"
    refine givesB_imp (poly_g (N := N) ns _ _ hb3 (by decide) (n + 1) (by omega) _ _ b0 (Nat.lt_of_lt_of_le bb (Nat.le_trans (Nat.pow_le_pow_right (by omega) (by omega)) hN)) (Nat.lt_of_lt_of_le bb (Nat.pow_le_pow_right (by omega) (by omega)))) ?_
    rintro rv o4 ⟨ds, h1, h2, rfl, h3⟩
    walk_at "ww"
    refine ⟨_, gi, ?_⟩
    walk_at "ww"
    first | exact ⟨rfl, _, _, rfl, rfl, ⟨rfl, rfl⟩, rfl, o4, ds, rfl, h1, h2, h3⟩ | exact ⟨rfl, o4, ds, rfl, h1, h2, h3⟩ | exact ⟨o4, ds, rfl, h1, h2, h3⟩
  rintro g s ⟨rfl, o4, ds, rfl, dl, dx, hb4⟩
  show wS _ _ _
  have Pc := Pol.scale Pp s00
  have PD := A2.p ok'
  obtain ⟨e1, p1, l1⟩ := ask2_frac hN acc aok n (dP (acc.map Fk.c)) en hdeg rfl D2 PD (fun k => nb_le (by omega) (A2.bd k)) _ _ Pc b0 bb cb ds dl dx
  obtain ⟨e2, _, _, p2, l2⟩ := ask_frac hN acc aok n en hdeg 2 (by omega) (by omega) Q2 (B2.p en) (acc_bd B2 (by omega) 4000 (by omega)) _ _ Pc b0 bb cb ds dl dx
  refine wS_cut [.sh (.scr (ns.map D.int)), .ow o4, .sh (.lst (pool.map Fk.d)), .sh (.lst (ms.map fun m => D.int (m : Nat))), .sh (.lst (fl (n + 1) fun k => P k * s0)), .sh (.int (P n * s1)), .sh (.tup ds), .sh (.lst (acc.reverse.map Fk.d)), .sh (.lst (fl (dP (acc.map Fk.c) + 1) D2)), .no, .no, .no] ?_ ?_
  · walk_at "ww"
    refine ⟨_, g2, ?_⟩
    walk_at "ww"
    first | rfl | exact ⟨rfl, rfl⟩
  refine wS_cut [.sh (.scr (ns.map D.int)), .ow o4, .sh (.lst (pool.map Fk.d)), .sh (.lst (ms.map fun m => D.int (m : Nat))), .sh (.lst (fl (n + 1) fun k => P k * s0)), .sh (.int (P n * s1)), .sh (.tup ds), .sh (.lst (acc.reverse.map Fk.d)), .sh (.lst (fl (dP (acc.map Fk.c) + 1) D2)), .no, .no, .no] ?_ ?_
  · walk_at "ww"
    refine ⟨_, p1, ?_⟩
    walk_at "ww"
    refine ⟨_, l1, ?_⟩
    walk_at "ww"
    refine ⟨_, p2, ?_⟩
    walk_at "ww"
    refine ⟨_, s2, ?_⟩
    walk_at "ww"
    refine ⟨_, l2, ?_⟩
    walk_at "ww"
    first | rfl | exact ⟨rfl, rfl⟩
  obtain ⟨f1, hf1⟩ : ∃ f1, pool[0]? = some f1 := by
    cases pool with
    | nil => exact absurd rfl pne
    | cons f r => exact ⟨f, rfl⟩
  obtain ⟨f2, hf2⟩ : ∃ f2, pool[pool.length - 1]? = some f2 := by
    have : 0 < pool.length := List.length_pos_iff.mpr pne
    exact ⟨_, List.getElem?_eq_getElem (by omega)⟩
  have ok1 := pok f1 (List.mem_of_getElem? hf1)
  have ok2 := pok f2 (List.mem_of_getElem? hf2)
  have ix1 : fIdx [.lst (pool.map Fk.d), .int 0] = some (.v f1.d) := k_idx (Ml.atI_nat (i := 0) (by rw [List.getElem?_map, hf1]; rfl))
  have ix2 : fIdx [.lst (pool.map Fk.d), .int (-1)] = some (.v f2.d) := k_idx (atI_last (by rw [List.length_map, List.getElem?_map, hf2]; rfl))
  refine wS_cut [.sh (.scr (ns.map D.int)), .ow o4, .sh (.lst (pool.map Fk.d)), .sh (.lst (ms.map fun m => D.int (m : Nat))), .sh (.lst (fl (n + 1) fun k => P k * s0)), .sh (.int (P n * s1)), .sh (.tup ds), .sh (.lst (acc.reverse.map Fk.d)), .sh (.lst (fl (dP (acc.map Fk.c) + 1) D2)), .sh f1.d, .sh f2.d, .no] ?_ ?_
  · walk_at "ww"
    refine ⟨_, _, rfl, ix1, ?_⟩
    walk_at "ww"
    refine ⟨_, _, rfl, ix2, ?_⟩
    walk_at "ww"
    first | rfl | exact ⟨rfl, rfl⟩
  -- the two constants
  refine wS_seq (wS_imp (Q := fun g s => g = .nx ∧ ∃ o5 : Ob, s = [.sh (.scr (ns.map D.int)), .ow o5, .sh (.lst (pool.map Fk.d)), .sh (.lst (ms.map fun m => D.int (m : Nat))), .sh (.lst (fl (n + 1) fun k => P k * s0)), .sh (.int (P n * s1)), .sh (.tup ds), .sh (.lst (acc.reverse.map Fk.d)), .sh (.lst (fl (dP (acc.map Fk.c) + 1) D2)), .sh f1.d, .sh f2.d, .no] ∧ Bag ns 1029 o5) ?_ ?_)
  · walk_at "ww"
    refine givesB_imp (number_g (N := N) ns _ _ hb4 (by decide) 5 2 (by decide) (by show 2 < N; omega) (Nat.lt_of_lt_of_le (by decide : (2 : Int).natAbs < 2 ^ 3) (Nat.pow_le_pow_right (by omega) (by omega)))) ?_
    rintro rv o8 ⟨hx, hb8⟩
    obtain ⟨e3, p3, l3⟩ := const_g hN hx
    walk_at "ww"
    refine ⟨_, p3, ?_⟩
    walk_at "ww"
    refine ⟨_, l3, ?_⟩
    walk_at "ww"
    refine givesB_imp (number_g (N := N) ns _ _ hb8 (by decide) (-7) 3 (by decide) (by show 3 < N; omega) (Nat.lt_of_lt_of_le (by decide : (3 : Int).natAbs < 2 ^ 3) (Nat.pow_le_pow_right (by omega) (by omega)))) ?_
    rintro rv2 o9 ⟨hx2, hb9⟩
    obtain ⟨e4, p4, l4⟩ := line_g hN hx2
    walk_at "ww"
    refine ⟨_, p4, ?_⟩
    walk_at "ww"
    refine ⟨_, l4, ?_⟩
    walk_at "ww"
    first | exact hb9 | exact ⟨_, rfl, hb9⟩ | exact ⟨rfl, _, rfl, hb9⟩
  rintro g s ⟨rfl, o5, rfl, hb5⟩
  show wS _ _ _
  obtain ⟨R, D5, AR, A5, gR, g5⟩ := small_g (N := N) f1 f2 ok1 ok2
  have dc := dg_cases f1
  have gc := dg_cases f2
  have sd := small_deg f1 f2
  have aok2 : ∀ h ∈ [f2, f1], h.ok := fun h hh => by
    rcases List.mem_cons.mp hh with rfl | hh
    · exact ok2
    · rw [List.mem_singleton.mp hh]; exact ok1
  have okc2 : ∀ f ∈ [f2, f1].map Fk.c, okF f := fun f hf => by
    obtain ⟨g, hg, rfl⟩ := List.mem_map.mp hf
    exact Fk.okc (aok2 g hg)
  have p662 := dP_le okc2 (by omega)
  have PR := AR.p sd
  rw [pL_one] at PR
  have Rb : ∀ k, (R k).natAbs < 2 ^ 2000 := acc_bd AR (by omega) 2000 (by omega)
  have k1 := knot_poly_g (N := N) f1 ok1
  have k2 := knot_poly_g (N := N) f2 ok2
  refine wS_cut [.sh (.scr (ns.map D.int)), .ow o5, .sh (.lst (pool.map Fk.d)), .sh (.lst (ms.map fun m => D.int (m : Nat))), .sh (.lst (fl (n + 1) fun k => P k * s0)), .sh (.int (P n * s1)), .sh (.tup ds), .sh (.lst (acc.reverse.map Fk.d)), .sh (.lst (fl (dP (acc.map Fk.c) + 1) D2)), .sh f1.d, .sh f2.d, .sh (.lst (fl (f1.dg + f2.dg + 1) R))] ?_ ?_
  · walk_at "ww"
    refine ⟨_, k1, ?_⟩
    walk_at "ww"
    refine ⟨_, k2, ?_⟩
    walk_at "ww"
    refine ⟨_, gR, ?_⟩
    walk_at "ww"
    first | rfl | exact ⟨rfl, rfl⟩
  refine wS_seq (wS_imp (Q := fun g s => g = .nx ∧ ∃ o6 : Ob, s = [.sh (.scr (ns.map D.int)), .ow o6, .sh (.lst (pool.map Fk.d)), .sh (.lst (ms.map fun m => D.int (m : Nat))), .sh (.lst (fl (n + 1) fun k => P k * s0)), .sh (.int (P n * s1)), .sh (.tup ds), .sh (.lst (acc.reverse.map Fk.d)), .sh (.lst (fl (dP (acc.map Fk.c) + 1) D2)), .sh f1.d, .sh f2.d, .sh (.lst (fl (f1.dg + f2.dg + 1) R))] ∧ Bag ns 2029 o6) ?_ ?_)
  · walk_at "ww"
    refine givesB_imp (poly_g (N := N) ns _ _ hb5 (by decide) (f1.dg + f2.dg + 1) (by omega) R 1 (by decide) (by show 1 < N; omega) (Nat.lt_of_lt_of_le (by decide : (1 : Int).natAbs < 2 ^ 3) (Nat.pow_le_pow_right (by omega) (by omega)))) ?_
    rintro rv o6 ⟨es, h1, h2, rfl, h3⟩
    obtain ⟨e6, p6, l6⟩ := ask2_frac hN [f2, f1] aok2 (f1.dg + f2.dg) (dP ([f2, f1].map Fk.c)) sd (by omega) rfl D5 (A5.p okc2) (fun k => nb_le (by omega) (A5.bd k)) R 1 PR (by decide) (Nat.lt_of_lt_of_le (by decide : (1 : Int).natAbs < 2 ^ 3) (Nat.pow_le_pow_right (by omega) (by omega))) Rb es h1 h2
    walk_at "ww"
    refine ⟨_, p6, ?_⟩
    walk_at "ww"
    refine ⟨_, g5, ?_⟩
    walk_at "ww"
    refine ⟨_, l6, ?_⟩
    walk_at "ww"
    first | exact h3 | exact ⟨_, rfl, h3⟩ | exact ⟨rfl, _, rfl, h3⟩
  rintro g s ⟨rfl, o6, rfl, hb6⟩
  show wS _ _ _
  refine wS_seq (wS_imp (Q := fun g s => g = .nx ∧ ∃ o7 : Ob, s = [.sh (.scr (ns.map D.int)), .ow o7, .sh (.lst (pool.map Fk.d)), .sh (.lst (ms.map fun m => D.int (m : Nat))), .sh (.lst (fl (n + 1) fun k => P k * s0)), .sh (.int (P n * s1)), .sh (.tup ds), .sh (.lst (acc.reverse.map Fk.d)), .sh (.lst (fl (dP (acc.map Fk.c) + 1) D2)), .sh f1.d, .sh f2.d, .sh (.lst (fl (f1.dg + f2.dg + 1) R))] ∧ Bag ns 2031 o7) ?_ ?_)
  · walk_at "ww"
    refine givesB_imp (draw_g (N := N) ns _ 12 _ hb6 (by decide) (by decide) (by decide)) ?_
    rintro rv o7 ⟨d, rfl, d0, d1, hb7⟩
    walk_at "ww"
    refine if_dec (fun q => ?_) (fun q => ?_)
    · walk_at "ww"
      refine givesB_imp (bounds_g (N := N) hN ns _ _ hb7 (by decide)) ?_
      rintro rv o8 ⟨rfl, hb8⟩
      walk_at "ww"
      first | exact hb8 | exact ⟨_, rfl, hb8⟩ | exact ⟨rfl, _, rfl, hb8⟩
    · walk_at "ww"
      first | exact hb7.mono (by omega) | exact ⟨_, rfl, hb7.mono (by omega)⟩ | exact ⟨rfl, _, rfl, hb7.mono (by omega)⟩
  rintro g s ⟨rfl, o7, rfl, hb7⟩
  show wS _ _ _
  walk_at "ww"
  refine ⟨_, p1, ?_⟩
  walk_at "ww"
  exact ⟨_, l1, rfl⟩
end K22

set_option maxHeartbeats 400000
theorem PySem.Challenge.cw_eachlength_k22_products_of_roots_holds : PySem.Challenge.rw_eachlength_k22_products_of_roots.Holds := by
  refine K22.holds fun ns h => ?_
  obtain ⟨N, hN⟩ : ∃ N : Nat, 2 ^ 4000 ≤ N := ⟨_, Nat.le_refl _⟩
  obtain ⟨sl, e⟩ := K22.law_g hN ns h
  exact ⟨N, sl, e⟩
