import PyProof.Rows.All
import Wide.All
import OpenK.AllK
import Wide.FinOn
import HandS.ForMost
import HandS.ForExc
import HandS.TryMany
import HandS.IsInst
import HandS.Wide
import HandS.Gcd
import HandS.TupAny
import HandS.Defaults
import HandS.Head0
import HandS.Head1
import HandS.Head2
import HandS.Head3
import HandS.HeadEnd
import HandS.EndBits
import HandS.HeadHook1
import HandS.HeadHook2
import PySem.Challenge.RW_flatfuns_k63_ratios_of_great_integers
set_option Elab.async false
set_option linter.all false
set_option maxRecDepth 100000
set_option maxHeartbeats 4000000
/-! A functional reading of the hand layer: tuples are values, lists and dicts stand in a numbered heap. -/
namespace FM
open PySem PySem.Spec PyProof.Rows L2

/-! ### data, the numbered heap, results -/
inductive D where
  | non | bl (b : Bool) | int (i : Int) | str (x : Str) | tup (ds : List D) | ref (i : Nat)
inductive O where
  | lst (ds : List D) | rol (ds : List D)
abbrev Hm := List O
abbrev Fr := List (Option D)
structure Exc where
  cls : Str
  fs : List (Str × D) := []
inductive Res (α : Type) where
  | ok (a : α) (h : Hm) | exc (x : Exc) (h : Hm) | stuck
def Res.bind {α β : Type} (r : Res α) (f : α → Hm → Res β) : Res β := match r with
  | .ok a h => f a h
  | .exc x h => .exc x h
  | .stuck => .stuck
def ofOpt {α : Type} : Option (α × Hm) → Res α
  | some (a, h) => .ok a h
  | none => .stuck

/-! ### how data stand in the abstract heap -/
mutual
inductive DR (K : PySem.W.Frag) (H : Hp) (ρ : Nat → Addr) (n : Nat) : D → V → Prop
  | non : DR K H ρ n .non .non
  | bl (b : Bool) : DR K H ρ n (.bl b) (.bl b)
  | int (i : Int) : DR K H ρ n (.int i) (.int i)
  | str (x : Str) : DR K H ρ n (.str x) (.str x)
  | tup {a : Addr} {xs : List V} {ds : List D} : SqT K H a xs → DRs K H ρ n ds xs → DR K H ρ n (.tup ds) (.ref a)
  | ref {i : Nat} : i < n → DR K H ρ n (.ref i) (.ref (ρ i))
inductive DRs (K : PySem.W.Frag) (H : Hp) (ρ : Nat → Addr) (n : Nat) : List D → List V → Prop
  | nil : DRs K H ρ n [] []
  | cons {d : D} {ds : List D} {v : V} {vs : List V} : DR K H ρ n d v → DRs K H ρ n ds vs → DRs K H ρ n (d :: ds) (v :: vs)
end
/-- the later state of the two heaps -/
structure Up (K : PySem.W.Frag) (ρ : Nat → Addr) (n : Nat) (H : Hp) (ρ' : Nat → Addr) (n' : Nat) (H' : Hp) : Prop where
  len : n ≤ n'
  ag : ∀ i, i < n → ρ' i = ρ i
  tp : ∀ a xs, SqT K H a xs → SqT K H' a xs
section
variable {K : PySem.W.Frag} {H H' H1 H2 : Hp} {ρ ρ' ρ1 ρ2 : Nat → Addr} {n n' n1 n2 : Nat}
theorem Up.refl : Up K ρ n H ρ n H := ⟨Nat.le_refl _, fun _ _ => rfl, fun _ _ h => h⟩
theorem Up.trans (a : Up K ρ n H ρ1 n1 H1) (b : Up K ρ1 n1 H1 ρ2 n2 H2) : Up K ρ n H ρ2 n2 H2 :=
  ⟨Nat.le_trans a.len b.len, fun i hi => (b.ag i (Nat.lt_of_lt_of_le hi a.len)).trans (a.ag i hi), fun _ _ h => b.tp _ _ (a.tp _ _ h)⟩
mutual
theorem DR.up (u : Up K ρ n H ρ' n' H') : ∀ {d : D} {v : V}, DR K H ρ n d v → DR K H' ρ' n' d v
  | _, _, .non => .non
  | _, _, .bl b => .bl b
  | _, _, .int i => .int i
  | _, _, .str x => .str x
  | _, _, .tup s r => .tup (u.tp _ _ s) (DRs.up u r)
  | _, _, .ref (i := i) h => by
    rw [← u.ag i h]
    exact .ref (Nat.lt_of_lt_of_le h u.len)
theorem DRs.up (u : Up K ρ n H ρ' n' H') : ∀ {d : List D} {v : List V}, DRs K H ρ n d v → DRs K H' ρ' n' d v
  | _, _, .nil => .nil
  | _, _, .cons a b => .cons (DR.up u a) (DRs.up u b)
end
theorem DRs.length : ∀ {ds : List D} {vs : List V}, DRs K H ρ n ds vs → ds.length = vs.length
  | _, _, .nil => rfl
  | _, _, .cons _ b => congrArg Nat.succ (DRs.length b)
theorem DRs.append : ∀ {ds es : List D} {vs ws : List V}, DRs K H ρ n ds vs → DRs K H ρ n es ws → DRs K H ρ n (ds ++ es) (vs ++ ws)
  | _, _, _, _, .nil, s => s
  | _, _, _, _, .cons a b, s => .cons a (DRs.append b s)
theorem DRs.get : ∀ {ds : List D} {vs : List V} {i : Nat} {d : D}, DRs K H ρ n ds vs → ds[i]? = some d → ∃ v, vs[i]? = some v ∧ DR K H ρ n d v
  | _, _, _, _, .nil, e => by simp at e
  | _, _, 0, _, .cons a _, e => by simp at e; subst e; exact ⟨_, rfl, a⟩
  | _, _, i + 1, d, .cons _ b, e => by
    obtain ⟨v, h1, h2⟩ := DRs.get (i := i) (d := d) b (by simpa using e)
    exact ⟨v, by simpa using h1, h2⟩
theorem DRs.get' : ∀ {ds : List D} {vs : List V} {i : Nat} {v : V}, DRs K H ρ n ds vs → vs[i]? = some v → ∃ d, ds[i]? = some d ∧ DR K H ρ n d v
  | _, _, _, _, .nil, e => by simp at e
  | _, _, 0, _, .cons a _, e => by simp at e; subst e; exact ⟨_, rfl, a⟩
  | _, _, i + 1, d, .cons _ b, e => by
    obtain ⟨v, h1, h2⟩ := DRs.get' (i := i) (v := d) b (by simpa using e)
    exact ⟨v, by simpa using h1, h2⟩
theorem DRs.set {d : D} {v : V} (r : DR K H ρ n d v) : ∀ {ds : List D} {vs : List V} (i : Nat), DRs K H ρ n ds vs → DRs K H ρ n (ds.set i d) (vs.set i v)
  | _, _, _, .nil => .nil
  | _, _, 0, .cons _ t => .cons r t
  | _, _, i + 1, .cons q t => .cons q (DRs.set r i t)
theorem DRs.take : ∀ {ds : List D} {vs : List V} (i : Nat), DRs K H ρ n ds vs → DRs K H ρ n (ds.take i) (vs.take i)
  | _, _, 0, _ => .nil
  | _, _, _ + 1, .nil => .nil
  | _, _, i + 1, .cons q t => .cons q (DRs.take i t)
theorem DRs.drop : ∀ {ds : List D} {vs : List V} (i : Nat), DRs K H ρ n ds vs → DRs K H ρ n (ds.drop i) (vs.drop i)
  | _, _, 0, r => r
  | _, _, _ + 1, .nil => .nil
  | _, _, i + 1, .cons q t => DRs.drop i t
end
/-- a list that is never written: locked, or the module's -/
def RoL (K : PySem.W.Frag) (H : Hp) (a : Addr) (xs : List V) : Prop :=
  (∃ o, H a = some (.frz o (.lst xs))) ∨
    ∃ (o : Obj) (its : Array Value) (n : Nat), K.lookup a = some o ∧ o.cls = .type "list" ∧ o.dict = none ∧ o.data = .seq its n ∧ its.size ≤ sizeLine ∧ Vals xs its.toList
theorem RoL.sq {K : PySem.W.Frag} {H : Hp} {a : Addr} {xs : List V} (h : RoL K H a xs) : SqL K H a xs := by
  rcases h with h | h
  · exact .inl (.inr h)
  · exact .inr h
/-- an object at an address -/
def OR (K : PySem.W.Frag) (H : Hp) (ρ : Nat → Addr) (n : Nat) (a : Addr) : O → Prop
  | .lst ds => ∃ xs, H a = some (.lst xs) ∧ DRs K H ρ n ds xs
  | .rol ds => ∃ xs, RoL K H a xs ∧ DRs K H ρ n ds xs
structure Rep (K : PySem.W.Frag) (H : Hp) (ρ : Nat → Addr) (h : Hm) : Prop where
  obj : ∀ (i : Nat) (o : O), h[i]? = some o → OR K H ρ h.length (ρ i) o
  inj : ∀ (i j : Nat) (xs ys : List D), h[i]? = some (.lst xs) → h[j]? = some (.lst ys) → ρ i = ρ j → i = j
structure FR (K : PySem.W.Frag) (H : Hp) (ρ : Nat → Addr) (n : Nat) (fr : Fr) (σ : L2.St) : Prop where
  len : fr.length = σ.length
  at_ : ∀ (i : Nat) (d : D), fr[i]? = some (some d) → ∃ v, σ[i]? = some (some v) ∧ DR K H ρ n d v
/-- an exception of one of the program's own classes -/
def XR (K : PySem.W.Frag) (mg : Str → Option Value) (H : Hp) (ρ : Nat → Addr) (n : Nat) (x : Exc) (cls : Value) (dd : Option Addr) : Prop :=
  mg x.cls = some cls ∧ x.fs = [] ∧ dd = none

/-! ### what follows a result -/
abbrev Rl (α β : Type) := Hp → (Nat → Addr) → Nat → α → β → Prop
def PostG {α β : Type} (K : PySem.W.Frag) (mg : Str → Option Value) (W : WX) (R : Rl α β) (σ : L2.St) (ρ : Nat → Addr) (n : Nat) (H : Hp) (Q : β → Hp → Prop) : Res α → Prop
  | .ok d h' => ∀ ρ' v H', Up K ρ n H ρ' h'.length H' → Rep K H' ρ' h' → R H' ρ' h'.length d v → Q v H'
  | .exc x h' => ∀ ρ' cls dd H', Up K ρ n H ρ' h'.length H' → Rep K H' ρ' h' → XR K mg H' ρ' h'.length x cls dd → W cls dd σ H'
  | .stuck => False
def PostO {α β : Type} (K : PySem.W.Frag) (R : Rl α β) (ρ : Nat → Addr) (n : Nat) (H : Hp) (Q : β → Hp → Prop) : Option (α × Hm) → Prop
  | some (d, h') => ∀ ρ' v H', Up K ρ n H ρ' h'.length H' → Rep K H' ρ' h' → R H' ρ' h'.length d v → Q v H'
  | none => False
abbrev rD (K : PySem.W.Frag) : Rl D V := fun H ρ n d v => DR K H ρ n d v
abbrev rDs (K : PySem.W.Frag) : Rl (List D) (List V) := fun H ρ n d v => DRs K H ρ n d v
abbrev rB : Rl Bool Bool := fun _ _ _ a b => a = b
section
variable {α β γ δ : Type} {K : PySem.W.Frag} {mg : Str → Option Value} {W : WX} {R : Rl α β} {R' : Rl γ δ} {σ : L2.St} {ρ ρ1 : Nat → Addr} {n n1 : Nat} {H H1 : Hp} {Q : β → Hp → Prop} {Q' : δ → Hp → Prop} {r : Res α}
theorem PostG.up (p : PostG K mg W R σ ρ n H Q r) (u : Up K ρ n H ρ1 n1 H1) : PostG K mg W R σ ρ1 n1 H1 Q r := by
  cases r with
  | ok d h' => exact fun ρ' v H' u' => p ρ' v H' (u.trans u')
  | exc x h' => exact fun ρ' c dd H' u' => p ρ' c dd H' (u.trans u')
  | stuck => exact p
theorem PostO.up {o : Option (α × Hm)} (p : PostO K R ρ n H Q o) (u : Up K ρ n H ρ1 n1 H1) : PostO K R ρ1 n1 H1 Q o := by
  cases o with
  | none => exact p
  | some q => exact fun ρ' v H' u' => p ρ' v H' (u.trans u')
theorem PostG.opt {o : Option (α × Hm)} (p : PostG K mg W R σ ρ n H Q (ofOpt o)) : PostO K R ρ n H Q o := by
  cases o with
  | none => exact p
  | some q => exact p
theorem PostG.bind {f : α → Hm → Res γ} (p : PostG K mg W R' σ ρ n H Q' (r.bind f))
    (h : ∀ d h1 ρ1 v H1, r = .ok d h1 → Up K ρ n H ρ1 h1.length H1 → Rep K H1 ρ1 h1 → R H1 ρ1 h1.length d v → PostG K mg W R' σ ρ1 h1.length H1 Q' (f d h1) → Q v H1) : PostG K mg W R σ ρ n H Q r := by
  cases r with
  | ok d h' => exact fun ρ' v H' u rp rd => h d h' ρ' v H' rfl u rp rd (PostG.up (r := f d h') p u)
  | exc x h' => exact p
  | stuck => exact p
end
/-- the reading of a function of frame and heap -/
def tG {α β : Type} (K : PySem.W.Frag) (mg : Str → Option Value) (W : WX) (R : Rl α β) (m : Fr → Hm → Res α) : L2.St → Hp → (β → Hp → Prop) → Prop := fun σ H Q =>
  ∃ ρ fr h, Rep K H ρ h ∧ FR K H ρ h.length fr σ ∧ PostG K mg W R σ ρ h.length H Q (m fr h)
section
variable {K : PySem.W.Frag} {H H' H1 : Hp} {ρ ρ' ρ1 : Nat → Addr} {n n' : Nat} {h h' : Hm} {fr : Fr} {σ : L2.St}
theorem FR.up (u : Up K ρ n H ρ' n' H') (f : FR K H ρ n fr σ) : FR K H' ρ' n' fr σ :=
  ⟨f.len, fun i d e => let ⟨v, e1, r⟩ := f.at_ i d e; ⟨v, e1, r.up u⟩⟩
theorem FR.set {i : Nat} {d : D} {v : V} (f : FR K H ρ n fr σ) (r : DR K H ρ n d v) : FR K H ρ n (fr.set i (some d)) (σ.set i (some v)) := by
  refine ⟨by rw [List.length_set, List.length_set]; exact f.len, fun j e q => ?_⟩
  by_cases hj : i = j
  · subst hj
    by_cases hl : i < fr.length
    · rw [List.getElem?_set_self hl] at q
      cases q
      exact ⟨v, by rw [List.getElem?_set_self (by rw [← f.len]; exact hl)], r⟩
    · rw [List.getElem?_eq_none (by rw [List.length_set]; omega)] at q
      cases q
  · rw [List.getElem?_set_ne hj] at q
    obtain ⟨w, e1, rw_⟩ := f.at_ j e q
    exact ⟨w, by rw [List.getElem?_set_ne hj]; exact e1, rw_⟩
theorem FR.setNone {i : Nat} (f : FR K H ρ n fr σ) : FR K H ρ n (fr.set i none) (σ.set i none) := by
  refine ⟨by rw [List.length_set, List.length_set]; exact f.len, fun j e q => ?_⟩
  by_cases hj : i = j
  · subst hj
    by_cases hl : i < fr.length
    · rw [List.getElem?_set_self hl] at q
      cases q
    · rw [List.getElem?_eq_none (by rw [List.length_set]; omega)] at q
      cases q
  · rw [List.getElem?_set_ne hj] at q
    obtain ⟨w, e1, rw_⟩ := f.at_ j e q
    exact ⟨w, by rw [List.getElem?_set_ne hj]; exact e1, rw_⟩
/-! ### the steps of the two heaps -/
theorem Rd.upd_ne {a : Addr} {o u : HO} {b : Addr} (h : Rd H b u) (hb : b ≠ a) : Rd (upd H a o) b u := by
  rcases h with h | ⟨z, h⟩
  · exact .inl (by rw [L2.upd_ne hb]; exact h)
  · exact .inr ⟨z, by rw [L2.upd_ne hb]; exact h⟩
theorem SqT.upd_new {p : Addr} {o : HO} (hp : H p = none) {a : Addr} {xs : List V} (s : SqT K H a xs) : SqT K (upd H p o) a xs := by
  rcases s with s | s
  · refine .inl (Rd.upd_ne s ?_)
    rcases s with s | ⟨z, s⟩
    · exact ne_of_none s hp
    · exact ne_of_none s hp
  · exact .inr s
theorem RoL.upd_new {p : Addr} {o : HO} (hp : H p = none) {a : Addr} {xs : List V} (s : RoL K H a xs) : RoL K (upd H p o) a xs := by
  rcases s with ⟨z, s⟩ | s
  · exact .inl ⟨z, by rw [L2.upd_ne (ne_of_none s hp)]; exact s⟩
  · exact .inr s
theorem up_new {p : Addr} {o : HO} (hp : H p = none) : Up K ρ n H ρ n (upd H p o) := ⟨Nat.le_refl _, fun _ _ => rfl, fun _ _ s => SqT.upd_new hp s⟩
theorem OR.up_new {p : Addr} {o : HO} (hp : H p = none) {a : Addr} {x : O} (u : Up K ρ n H ρ' n' (upd H p o)) (q : OR K H ρ n a x) : OR K (upd H p o) ρ' n' a x := by
  cases x with
  | lst ds =>
    obtain ⟨xs, e, r⟩ := q
    exact ⟨xs, by rw [L2.upd_ne (ne_of_none e hp)]; exact e, r.up u⟩
  | rol ds =>
    obtain ⟨xs, e, r⟩ := q
    exact ⟨xs, RoL.upd_new hp e, r.up u⟩
theorem Rep.up_new {p : Addr} {o : HO} (R : Rep K H ρ h) (hp : H p = none) : Rep K (upd H p o) ρ h :=
  ⟨fun i x e => OR.up_new hp (FM.up_new hp) (R.obj i x e), R.inj⟩
/-- a new tuple -/
theorem new_tup {p : Addr} {xs : List V} {ds : List D} (R : Rep K H ρ h) (r : DRs K H ρ h.length ds xs) (hp : H p = none) :
    Up K ρ h.length H ρ h.length (upd H p (.tup xs)) ∧ Rep K (upd H p (.tup xs)) ρ h ∧ DR K (upd H p (.tup xs)) ρ h.length (.tup ds) (.ref p) :=
  ⟨up_new hp, R.up_new hp, .tup (SqT.of upd_same) (r.up (up_new hp))⟩
/-- what the new number names -/
def push (ρ : Nat → Addr) (n : Nat) (p : Addr) : Nat → Addr := fun i => if i = n then p else ρ i
theorem push_same {p : Addr} : push ρ n p n = p := if_pos rfl
theorem push_lt {p : Addr} {i : Nat} (h : i < n) : push ρ n p i = ρ i := if_neg (Nat.ne_of_lt h)
theorem up_push {p : Addr} {o : HO} (hp : H p = none) : Up K ρ n H (push ρ n p) (n + 1) (upd H p o) :=
  ⟨Nat.le_succ _, fun _ h => push_lt h, fun _ _ s => SqT.upd_new hp s⟩
/-- a new list -/
theorem new_lst {p : Addr} {xs : List V} {ds : List D} (R : Rep K H ρ h) (r : DRs K H ρ h.length ds xs) (hp : H p = none) :
    Up K ρ h.length H (push ρ h.length p) (h ++ [O.lst ds]).length (upd H p (.lst xs)) ∧ Rep K (upd H p (.lst xs)) (push ρ h.length p) (h ++ [O.lst ds]) ∧
      DR K (upd H p (.lst xs)) (push ρ h.length p) (h ++ [O.lst ds]).length (.ref h.length) (.ref p) := by
  have u : Up K ρ h.length H (push ρ h.length p) (h ++ [O.lst ds]).length (upd H p (.lst xs)) := by
    rw [List.length_append, List.length_singleton]
    exact up_push hp
  have old : ∀ {i : Nat} {x : O}, (h ++ [O.lst ds])[i]? = some x → i ≠ h.length → h[i]? = some x ∧ i < h.length := fun {i x} e hi => by
    have hl : i < h.length := by
      have := (List.getElem?_eq_some_iff.mp e).1
      rw [List.length_append, List.length_singleton] at this
      omega
    rw [List.getElem?_append_left hl] at e
    exact ⟨e, hl⟩
  have ad : ∀ {i : Nat} {ys : List D}, h[i]? = some (.lst ys) → ρ i ≠ p := fun {i ys} e z => by
    obtain ⟨zs, q, _⟩ := R.obj i _ e
    rw [z, hp] at q
    cases q
  refine ⟨u, ⟨fun i x e => ?_, fun i j ys zs ei ej q => ?_⟩, ?_⟩
  · by_cases hi : i = h.length
    · subst hi
      rw [push_same]
      rw [List.getElem?_append_right (Nat.le_refl _), Nat.sub_self] at e
      cases e
      exact ⟨xs, upd_same, r.up u⟩
    · obtain ⟨e, hl⟩ := old e hi
      rw [push_lt hl]
      exact OR.up_new hp u (R.obj i x e)
  · by_cases hi : i = h.length
    · by_cases hj : j = h.length
      · rw [hi, hj]
      · obtain ⟨ej, hl⟩ := old ej hj
        rw [hi, push_same, push_lt hl] at q
        exact absurd q.symm (ad ej)
    · obtain ⟨ei, hl⟩ := old ei hi
      by_cases hj : j = h.length
      · rw [hj, push_same, push_lt hl] at q
        exact absurd q (ad ei)
      · obtain ⟨ej, hl'⟩ := old ej hj
        rw [push_lt hl, push_lt hl'] at q
        exact R.inj i j _ _ ei ej q
  · have q : DR K (upd H p (.lst xs)) (push ρ h.length p) (h ++ [O.lst ds]).length (.ref h.length) (.ref (push ρ h.length p h.length)) :=
      .ref (by rw [List.length_append, List.length_singleton]; exact Nat.lt_succ_self _)
    rw [push_same] at q
    exact q
/-- a list is written -/
theorem put_lst {i : Nat} {xs : List V} {es ds : List D} (R : Rep K H ρ h) (e : h[i]? = some (.lst es)) (r : DRs K H ρ h.length ds xs) :
    Up K ρ h.length H ρ (h.set i (O.lst ds)).length (upd H (ρ i) (.lst xs)) ∧ Rep K (upd H (ρ i) (.lst xs)) ρ (h.set i (O.lst ds)) := by
  obtain ⟨ws, q, _⟩ := R.obj i _ e
  have tp : ∀ a xs', SqT K H a xs' → SqT K (upd H (ρ i) (.lst xs)) a xs' := fun a xs' s => by
    rcases s with s | s
    · refine .inl (Rd.upd_ne s fun z => ?_)
      subst z
      rcases s with s | ⟨_, s⟩
      · rw [q] at s; cases s
      · rw [q] at s; cases s
    · exact .inr s
  have u : Up K ρ h.length H ρ (h.set i (O.lst ds)).length (upd H (ρ i) (.lst xs)) := by
    rw [List.length_set]
    exact ⟨Nat.le_refl _, fun _ _ => rfl, tp⟩
  have back : ∀ {j : Nat} {x : O}, (h.set i (O.lst ds))[j]? = some x → (j = i ∧ x = .lst ds) ∨ (j ≠ i ∧ h[j]? = some x) := fun {j x} ej => by
    by_cases hj : i = j
    · subst hj
      rw [List.getElem?_set_self (List.getElem?_eq_some_iff.mp e).1] at ej
      exact .inl ⟨rfl, (Option.some.inj ej).symm⟩
    · rw [List.getElem?_set_ne hj] at ej
      exact .inr ⟨fun z => hj z.symm, ej⟩
  refine ⟨u, fun j x ej => ?_, fun j k ys zs ej ek z => ?_⟩
  · rcases back ej with ⟨rfl, rfl⟩ | ⟨hj, ej⟩
    · exact ⟨xs, upd_same, r.up u⟩
    · have o := R.obj j x ej
      cases x with
      | lst ys =>
        obtain ⟨zs, o, ro⟩ := o
        refine ⟨zs, ?_, ro.up u⟩
        rw [L2.upd_ne fun z => hj (R.inj j i _ _ ej e z)]
        exact o
      | rol ys =>
        obtain ⟨zs, o, ro⟩ := o
        refine ⟨zs, ?_, ro.up u⟩
        rcases o with ⟨b, o⟩ | o
        · refine .inl ⟨b, ?_⟩
          rw [L2.upd_ne fun z => by rw [z, q] at o; cases o]
          exact o
        · exact .inr o
  · have f : ∀ {m : Nat} {ts : List D}, (h.set i (O.lst ds))[m]? = some (.lst ts) → ∃ us, h[m]? = some (.lst us) := fun {m ts} em => by
      rcases back em with ⟨rfl, _⟩ | ⟨_, em⟩
      · exact ⟨_, e⟩
      · exact ⟨_, em⟩
    obtain ⟨_, e1⟩ := f ej
    obtain ⟨_, e2⟩ := f ek
    exact R.inj j k _ _ e1 e2 z
/-- reading a list -/
theorem Rep.list (R : Rep K H ρ h) {i : Nat} {ds : List D} (e : h[i]? = some (.lst ds) ∨ h[i]? = some (.rol ds)) : ∃ xs, SqL K H (ρ i) xs ∧ DRs K H ρ h.length ds xs := by
  rcases e with e | e
  · obtain ⟨xs, q, r⟩ := R.obj i _ e
    exact ⟨xs, SqL.of q, r⟩
  · obtain ⟨xs, q, r⟩ := R.obj i _ e
    exact ⟨xs, q.sq, r⟩
end
end FM

set_option Elab.async false
set_option linter.all false
set_option maxRecDepth 100000
set_option maxHeartbeats 4000000
/-! Expressions. -/
namespace FM
open PySem PySem.Spec PyProof.Rows L2
abbrev ME := Fr → Hm → Res D
abbrev MT := Fr → Hm → Res Bool
abbrev MA := Fr → Hm → Res (List D)
abbrev MFn := List D → Hm → Res D
structure PD (X : Cx) (W : WX) (e : Expr) (m : ME) : Prop where
  run : PE X e (tG X.K X.mg W (rD X.K) m)
structure PDa (X : Cx) (W : WX) (es : List Expr) (m : MA) : Prop where
  run : PA X es (tG X.K X.mg W (rDs X.K) m)
  len : ∀ (fr : Fr) (h : Hm) (ds : List D) (h1 : Hm), m fr h = .ok ds h1 → ds.length = es.length
structure PDt (X : Cx) (W : WX) (e : Expr) (m : MT) : Prop where
  run : PT X e (tG X.K X.mg W rB m)
/-- a chain of and, or as a test -/
structure PDw (X : Cx) (W : WX) (e : Expr) (m : MT) : Prop where
  run : PW X e (tG X.K X.mg W rB m)
section
variable {X : Cx} {W : WX}
theorem pe_imp {e : Expr} {t t' : TE} (h : PE X e t) (f : ∀ σ H Q, t' σ H Q → t σ H Q) : PE X e t' := ⟨fun pins s σ H Q I q => h.run pins s σ H Q I (f σ H Q q)⟩
theorem pt_imp {e : Expr} {t t' : TT} (h : PT X e t) (f : ∀ σ H Q, t' σ H Q → t σ H Q) : PT X e t' := ⟨fun pins s σ H Q I q => h.run pins s σ H Q I (f σ H Q q)⟩
theorem pw_imp {e : Expr} {t t' : TT} (h : PW X e t) (f : ∀ σ H Q, t' σ H Q → t σ H Q) : PW X e t' := ⟨fun wh pins s σ H Q I q => h.run wh pins s σ H Q I (f σ H Q q)⟩
theorem pa_imp {e : List Expr} {t t' : TA} (h : PA X e t) (f : ∀ σ H Q, t' σ H Q → t σ H Q) : PA X e t' := ⟨fun pos pins s σ H Q I q => h.run pos pins s σ H Q I (f σ H Q q)⟩

/-! ### names, constants -/
def mC (d : D) : ME := fun _ h => .ok d h
def mVar (i : Nat) : ME := fun fr h => match fr[i]? with
  | some (some d) => .ok d h
  | _ => .stuck
theorem pd_c {e : Expr} {d : D} {v : V} (he : PE X e (tC v)) (r : ∀ H ρ n, DR X.K H ρ n d v) : PD X W e (mC d) :=
  ⟨pe_imp he fun σ H Q ⟨ρ, fr, h, R, f, p⟩ => p ρ v H .refl R (r H ρ h.length)⟩
theorem pd_int {i : Int} {j : Nat} {pos : Pos} : PD X W (.Constant (.int i) j pos) (mC (.int i)) := pd_c pe_int fun _ _ _ => .int i
theorem pd_bl {b : Bool} {j : Nat} {pos : Pos} : PD X W (.Constant (.bool b) j pos) (mC (.bl b)) := pd_c pe_bl fun _ _ _ => .bl b
theorem pd_non {j : Nat} {pos : Pos} : PD X W (.Constant .none j pos) (mC .non) := pd_c pe_non fun _ _ _ => .non
theorem pd_str {x : Str} {j : Nat} {pos : Pos} : PD X W (.Constant (.str x) j pos) (mC (.str x)) := pd_c pe_str fun _ _ _ => .str x
theorem pd_var (i : Nat) {x : Str} {pos : Pos} (hN : X.N[i]? = some x := by rfl) (hv : Vis X.env.scope x := by first | exact Or.inl rfl | exact Or.inr (Or.inl rfl) | exact Or.inr (Or.inr rfl)) (hd : (x == ("__debug__" : Str)) = false := by decide)
    (hcd : (x == ("__classdict__" : Str)) = false := by decide) : PD X W (.Name x pos) (mVar i) := by
  refine ⟨pe_imp (pe_var hN hv hd hcd) fun σ H Q ⟨ρ, fr, h, R, f, p⟩ => ?_⟩
  unfold mVar at p
  split at p
  · rename_i d e
    obtain ⟨v, e1, r⟩ := f.at_ i d e
    exact ⟨v, e1, p ρ v H .refl R r⟩
  · exact p.elim

/-! ### results that leave the heap, new tuples, new lists -/
variable {H : Hp} {ρ : Nat → Addr} {h : Hm}
theorem PostO.here {K : PySem.W.Frag} {Q : VK} {d : D} {v : V} (p : PostO K (rD K) ρ h.length H Q (some (d, h))) (R : Rep K H ρ h) (r : DR K H ρ h.length d v) : Q v H := p ρ v H .refl R r
theorem PostO.tup {K : PySem.W.Frag} {Q : VK} {ds : List D} {xs : List V} (q : PostO K (rD K) ρ h.length H Q (some (.tup ds, h))) (R : Rep K H ρ h) (r : DRs K H ρ h.length ds xs) : ∀ p, H p = none → Q (.ref p) (upd H p (.tup xs)) := fun p hp => by
  obtain ⟨u, R', r'⟩ := new_tup R r hp
  exact q ρ _ _ u R' r'
theorem PostO.lst {K : PySem.W.Frag} {Q : VK} {ds : List D} {xs : List V} (q : PostO K (rD K) ρ h.length H Q (some (.ref h.length, h ++ [O.lst ds]))) (R : Rep K H ρ h) (r : DRs K H ρ h.length ds xs) : ∀ p, H p = none → Q (.ref p) (upd H p (.lst xs)) := fun p hp => by
  obtain ⟨u, R', r'⟩ := new_lst R r hp
  exact q _ _ _ u R' r'

/-! ### operators -/
abbrev G2 := D → D → Hm → Option (D × Hm)
structure OpD (X : Cx) (F : Value → Value → Sem Value) (g : G2) : Prop where
  ex : ∃ r : R2, OpR X F r ∧ ∀ (ρ : Nat → Addr) (h : Hm) (H : Hp) (x y : D) (v w : V) (Q : VK), Rep X.K H ρ h → DR X.K H ρ h.length x v → DR X.K H ρ h.length y w → PostO X.K (rD X.K) ρ h.length H Q (g x y h) → r v w H Q
def mBin (g : G2) (ma mb : ME) : ME := fun fr h => (ma fr h).bind fun x h1 => (mb fr h1).bind fun y h2 => ofOpt (g x y h2)
theorem tOp_of {g : G2} {ma mb : ME} {r : R2} (hr : ∀ (ρ : Nat → Addr) (h : Hm) (H : Hp) (x y : D) (v w : V) (Q : VK), Rep X.K H ρ h → DR X.K H ρ h.length x v → DR X.K H ρ h.length y w → PostO X.K (rD X.K) ρ h.length H Q (g x y h) → r v w H Q)
    {σ : L2.St} {H : Hp} {Q : VK} (t : tG X.K X.mg W (rD X.K) (mBin g ma mb) σ H Q) : tOp r (tG X.K X.mg W (rD X.K) ma) (tG X.K X.mg W (rD X.K) mb) σ H Q := by
  obtain ⟨ρ, fr, h, R, f, p⟩ := t
  exact ⟨ρ, fr, h, R, f, p.bind fun x h1 ρ1 v H1 _ u1 R1 rx p1 => ⟨ρ1, fr, h1, R1, f.up u1, p1.bind fun y h2 ρ2 w H2 _ u2 R2 ry p2 => hr ρ2 h2 H2 x y v w Q R2 (rx.up u2) ry p2.opt⟩⟩
theorem pd_bin {op : Operator} {a b : Expr} {pos : Pos} {g : G2} {ma mb : ME} (o : OpD X (binaryOp op) g) (ha : PD X W a ma) (hb : PD X W b mb) : PD X W (.BinOp a op b pos) (mBin g ma mb) := by
  obtain ⟨r, ho, hr⟩ := o.ex
  exact ⟨pe_imp (pe_op ho ha.run hb.run) fun σ H Q t => tOp_of hr t⟩
theorem pd_cmp {op : CmpOp} {a b : Expr} {pos : Pos} {g : G2} {ma mb : ME} (o : OpD X (compareOp op) g) (ha : PD X W a ma) (hb : PD X W b mb) (hm : behindInMarks op b = false := by first | exact nomark _ | rfl) : PD X W (.Compare a [op] [b] pos) (mBin g ma mb) := by
  obtain ⟨r, ho, hr⟩ := o.ex
  exact ⟨pe_imp (pe_cmpR ho ha.run hb.run hm) fun σ H Q t => tOp_of hr t⟩
/-- a < b < c, both comparisons giving truths -/
def mChain (g g' : G2) (ma mb mc : ME) : ME := fun fr h => (ma fr h).bind fun x h1 => (mb fr h1).bind fun y h2 => (ofOpt (g x y h2)).bind fun z h3 => match z with
  | .bl true => (mc fr h3).bind fun w h4 => ofOpt (g' y w h4)
  | .bl false => .ok (.bl false) h3
  | _ => .stuck
theorem pd_chain {op op' : CmpOp} {a b c : Expr} {pos : Pos} {g g' : G2} {ma mb mc : ME} (o : OpD X (compareOp op) g) (o' : OpD X (compareOp op') g') (ha : PD X W a ma) (hb : PD X W b mb) (hc : PD X W c mc)
    (hm : lastMarks [op, op'] [b, c] = false := by with_unfolding_all rfl) : PD X W (.Compare a [op, op'] [b, c] pos) (mChain g g' ma mb mc) := by
  obtain ⟨r, ho, hr⟩ := o.ex
  obtain ⟨r', ho', hr'⟩ := o'.ex
  refine ⟨pe_imp (pe_chain ho ho' ha.run hb.run hc.run hm) fun σ H Q ⟨ρ, fr, h, R, f, p⟩ => ?_⟩
  refine ⟨ρ, fr, h, R, f, p.bind fun x h1 ρ1 v H1 _ u1 R1 rx p1 => ⟨ρ1, fr, h1, R1, f.up u1, p1.bind fun y h2 ρ2 w H2 _ u2 R2 ry p2 => hr ρ2 h2 H2 x y v w _ R2 (rx.up u2) ry (PostG.opt (mg := X.mg) (W := W) (σ := σ) (p2.bind fun z h3 ρ3 q H3 _ u3 R3 rz p3 => ?_))⟩⟩
  cases rz with
  | bl k =>
    refine ⟨k, rfl, ?_⟩
    cases k with
    | true =>
      rw [if_pos rfl]
      exact ⟨ρ3, fr, h3, R3, (f.up u1).up (u2.trans u3), PostG.bind p3 fun q h4 ρ4 w' H4 _ u4 R4 rw' p4 => hr' ρ4 h4 H4 y q w w' Q R4 (ry.up (u3.trans u4)) rw' p4.opt⟩
    | false =>
      rw [if_neg Bool.false_ne_true]
      exact p3 ρ3 _ _ .refl R3 (.bl false)
  | non => exact p3.elim
  | int i => exact p3.elim
  | str x => exact p3.elim
  | tup a b => exact p3.elim
  | ref a => exact p3.elim

/-! ### tests -/
def mTru (g : D → Hm → Option Bool) (ma : ME) : MT := fun fr h => (ma fr h).bind fun x h1 => match g x h1 with
  | some b => .ok b h1
  | none => .stuck
def truD (x : D) (h : Hm) : Option Bool := match x with
  | .non => some false
  | .bl b => some b
  | .int i => some (i != 0)
  | .str x => if x.length ≤ 16777216 then some ((x.length : Int) != 0) else none
  | .tup ds => some (!ds.isEmpty)
  | .ref i => match h[i]? with
    | some (.lst ds) => some (!ds.isEmpty)
    | some (.rol ds) => some (!ds.isEmpty)
    | _ => none
theorem isEmpty_drs {K : PySem.W.Frag} {n : Nat} {ds : List D} {xs : List V} (r : DRs K H ρ n ds xs) : xs.isEmpty = ds.isEmpty := by
  cases r <;> rfl
theorem truD_ok {K : PySem.W.Frag} {x : D} {v : V} {k : Bool} (R : Rep K H ρ h) (r : DR K H ρ h.length x v) (e : truD x h = some k) : TruV K v H k := by
  cases r with
  | non => cases e; rfl
  | bl b => cases e; rfl
  | int i => cases e; rfl
  | str x =>
    have q : (if x.length ≤ 16777216 then some ((x.length : Int) != 0) else none) = some k := e
    split at q
    · rename_i z
      cases q
      exact ⟨by rw [sizeLine_eq]; exact z, rfl⟩
    · cases q
  | tup s rs =>
    cases e
    exact .inr (.inl ⟨_, s, by rw [isEmpty_drs rs]⟩)
  | ref hi =>
    rename_i i
    have q : (match h[i]? with
      | some (O.lst ds) => some (!ds.isEmpty)
      | some (O.rol ds) => some (!ds.isEmpty)
      | _ => none) = some k := e
    split at q
    · rename_i ds z
      obtain ⟨xs, s, rs⟩ := R.list (.inl z)
      cases q
      exact .inl ⟨xs, s, by rw [isEmpty_drs rs]⟩
    · rename_i ds z
      obtain ⟨xs, s, rs⟩ := R.list (.inr z)
      cases q
      exact .inl ⟨xs, s, by rw [isEmpty_drs rs]⟩
    · cases q
theorem pdt_val {e : Expr} {ma : ME} (ha : PD X W e ma) (he : ∀ whole, isTrue e X.env whole = (do let v ← whole; standAt e.pos; holding [v] (truthy v)) := by intro _; rfl) : PDt X W e (mTru truD ma) := by
  refine ⟨pt_imp (pt_truth ha.run he) fun σ H Q ⟨ρ, fr, h, R, f, p⟩ => ⟨ρ, fr, h, R, f, p.bind fun x h1 ρ1 v H1 _ u1 R1 rx p1 => ?_⟩⟩
  cases e : truD x h1 with
  | none => rw [e] at p1; exact p1.elim
  | some k =>
    rw [e] at p1
    exact ⟨k, truD_ok R1 rx e, p1 ρ1 k H1 .refl R1 rfl⟩
def mTnot (t : MT) : MT := fun fr h => (t fr h).bind fun b h1 => .ok (!b) h1
def mTand (t u : MT) : MT := fun fr h => (t fr h).bind fun b h1 => if b = true then u fr h1 else .ok false h1
def mTor (t u : MT) : MT := fun fr h => (t fr h).bind fun b h1 => if b = true then .ok true h1 else u fr h1
theorem pdt_not {a : Expr} {pos : Pos} {t : MT} (ha : PDt X W a t) : PDt X W (.UnaryOp .Not a pos) (mTnot t) :=
  ⟨pt_imp (pt_not ha.run) fun σ H Q ⟨ρ, fr, h, R, f, p⟩ => ⟨ρ, fr, h, R, f, p.bind fun b h1 ρ1 k H1 _ u1 R1 rb p1 => by cases rb; exact p1 ρ1 _ H1 .refl R1 rfl⟩⟩
theorem pdw_and1 {a : Expr} {pos : Pos} {t : MT} (ha : PDt X W a t) : PDw X W (.BoolOp .And [a] pos) t := ⟨pw_and1 ha.run⟩
theorem pdw_or1 {a : Expr} {pos : Pos} {t : MT} (ha : PDt X W a t) : PDw X W (.BoolOp .Or [a] pos) t := ⟨pw_or1 ha.run⟩
theorem pdw_and {a b : Expr} {rest : List Expr} {pos : Pos} {t u : MT} (ha : PDt X W a t) (hb : PDw X W (.BoolOp .And (b :: rest) pos) u) : PDw X W (.BoolOp .And (a :: b :: rest) pos) (mTand t u) :=
  ⟨pw_imp (pw_and ha.run hb.run) fun σ H Q ⟨ρ, fr, h, R, f, p⟩ => ⟨ρ, fr, h, R, f, p.bind fun b h1 ρ1 k H1 _ u1 R1 rb p1 => by
    cases rb
    cases b with
    | true => exact ⟨ρ1, fr, h1, R1, f.up u1, p1⟩
    | false => exact p1 ρ1 _ H1 .refl R1 rfl⟩⟩
theorem pdw_or {a b : Expr} {rest : List Expr} {pos : Pos} {t u : MT} (ha : PDt X W a t) (hb : PDw X W (.BoolOp .Or (b :: rest) pos) u) : PDw X W (.BoolOp .Or (a :: b :: rest) pos) (mTor t u) :=
  ⟨pw_imp (pw_or ha.run hb.run) fun σ H Q ⟨ρ, fr, h, R, f, p⟩ => ⟨ρ, fr, h, R, f, p.bind fun b h1 ρ1 k H1 _ u1 R1 rb p1 => by
    cases rb
    cases b with
    | true => exact p1 ρ1 _ H1 .refl R1 rfl
    | false => exact ⟨ρ1, fr, h1, R1, f.up u1, p1⟩⟩⟩
theorem PDw.t {e : Expr} {t : MT} (h : PDw X W e t) : PDt X W e t := ⟨h.run.pt⟩

/-! ### and, or, not as values (truths); a if t else b -/
def mAnd (ma mb : ME) : ME := fun fr h => (ma fr h).bind fun x h1 => match x with
  | .bl true => mb fr h1
  | .bl false => .ok (.bl false) h1
  | _ => .stuck
def mOr (ma mb : ME) : ME := fun fr h => (ma fr h).bind fun x h1 => match x with
  | .bl true => .ok (.bl true) h1
  | .bl false => mb fr h1
  | _ => .stuck
def mNot (ma : ME) : ME := fun fr h => (ma fr h).bind fun x h1 => match x with
  | .bl b => .ok (.bl (!b)) h1
  | _ => .stuck
def mIf (t : MT) (ma mb : ME) : ME := fun fr h => (t fr h).bind fun b h1 => if b = true then ma fr h1 else mb fr h1
theorem pd_one {op : BoolOp} {a : Expr} {pos : Pos} {m : ME} (h : PD X W a m) : PD X W (.BoolOp op [a] pos) m := ⟨pe_one h.run⟩
theorem pd_and {a b : Expr} {rest : List Expr} {pos : Pos} {ma mb : ME} (ha : PD X W a ma) (hb : PD X W (.BoolOp .And (b :: rest) pos) mb) : PD X W (.BoolOp .And (a :: b :: rest) pos) (mAnd ma mb) := by
  refine ⟨pe_imp (pe_and ha.run hb.run) fun σ H Q ⟨ρ, fr, h, R, f, p⟩ => ⟨ρ, fr, h, R, f, p.bind fun x h1 ρ1 v H1 _ u1 R1 rx p1 => ?_⟩⟩
  cases rx with
  | bl k =>
    refine ⟨k, rfl, ?_⟩
    cases k with
    | true => exact ⟨ρ1, fr, h1, R1, f.up u1, p1⟩
    | false => exact p1 ρ1 _ H1 .refl R1 (.bl false)
  | non => exact p1.elim
  | int i => exact p1.elim
  | str x => exact p1.elim
  | tup a b => exact p1.elim
  | ref a => exact p1.elim
theorem pd_or {a b : Expr} {rest : List Expr} {pos : Pos} {ma mb : ME} (ha : PD X W a ma) (hb : PD X W (.BoolOp .Or (b :: rest) pos) mb) : PD X W (.BoolOp .Or (a :: b :: rest) pos) (mOr ma mb) := by
  refine ⟨pe_imp (pe_or ha.run hb.run) fun σ H Q ⟨ρ, fr, h, R, f, p⟩ => ⟨ρ, fr, h, R, f, p.bind fun x h1 ρ1 v H1 _ u1 R1 rx p1 => ?_⟩⟩
  cases rx with
  | bl k =>
    refine ⟨k, rfl, ?_⟩
    cases k with
    | true => exact p1 ρ1 _ H1 .refl R1 (.bl true)
    | false => exact ⟨ρ1, fr, h1, R1, f.up u1, p1⟩
  | non => exact p1.elim
  | int i => exact p1.elim
  | str x => exact p1.elim
  | tup a b => exact p1.elim
  | ref a => exact p1.elim
theorem pd_not {a : Expr} {pos : Pos} {ma : ME} (ha : PD X W a ma) : PD X W (.UnaryOp .Not a pos) (mNot ma) := by
  refine ⟨pe_imp (pe_not ha.run) fun σ H Q ⟨ρ, fr, h, R, f, p⟩ => ⟨ρ, fr, h, R, f, p.bind fun x h1 ρ1 v H1 _ u1 R1 rx p1 => ?_⟩⟩
  cases rx with
  | bl k => exact ⟨k, rfl, p1 ρ1 _ H1 .refl R1 (.bl _)⟩
  | non => exact p1.elim
  | int i => exact p1.elim
  | str x => exact p1.elim
  | tup a b => exact p1.elim
  | ref a => exact p1.elim
theorem pd_if {c a b : Expr} {pos : Pos} {t : MT} {ma mb : ME} (hc : PDt X W c t) (ha : PD X W a ma) (hb : PD X W b mb) : PD X W (.IfExp c a b pos) (mIf t ma mb) :=
  ⟨pe_imp (pe_ifExp hc.run ha.run hb.run) fun σ H Q ⟨ρ, fr, h, R, f, p⟩ => ⟨ρ, fr, h, R, f, p.bind fun b h1 ρ1 k H1 _ u1 R1 rb p1 => by
    cases rb
    cases b with
    | true => exact ⟨ρ1, fr, h1, R1, f.up u1, p1⟩
    | false => exact ⟨ρ1, fr, h1, R1, f.up u1, p1⟩⟩⟩
def mUn (g : D → Option D) (ma : ME) : ME := fun fr h => (ma fr h).bind fun x h1 => match g x with
  | some d => .ok d h1
  | none => .stuck
def gNeg : D → Option D
  | .int i => some (.int (-i))
  | _ => none
theorem pd_neg {a : Expr} {pos : Pos} {ma : ME} (ha : PD X W a ma) : PD X W (.UnaryOp .USub a pos) (mUn gNeg ma) := by
  refine ⟨pe_imp (pe_un un_neg ha.run) fun σ H Q ⟨ρ, fr, h, R, f, p⟩ => ⟨ρ, fr, h, R, f, p.bind fun x h1 ρ1 v H1 _ u1 R1 rx p1 => ?_⟩⟩
  cases rx with
  | int i => exact ⟨i, rfl, p1 ρ1 _ H1 .refl R1 (.int _)⟩
  | non => exact p1.elim
  | bl i => exact p1.elim
  | str x => exact p1.elim
  | tup a b => exact p1.elim
  | ref a => exact p1.elim

/-! ### displays, arguments -/
def mNil : MA := fun _ h => .ok [] h
def mCons (m : ME) (ms : MA) : MA := fun fr h => (m fr h).bind fun x h1 => (ms fr h1).bind fun xs h2 => .ok (x :: xs) h2
theorem pda_nil : PDa X W [] mNil := ⟨pa_imp pa_nil fun σ H Q ⟨ρ, fr, h, R, f, p⟩ => p ρ [] H .refl R .nil, fun _ _ _ _ e => by cases e; rfl⟩
theorem Res.bind_ok {α β : Type} {r : Res α} {f : α → Hm → Res β} {b : β} {h' : Hm} (e : r.bind f = .ok b h') : ∃ a h, r = .ok a h ∧ f a h = .ok b h' := by
  cases r with
  | ok a h => exact ⟨a, h, rfl, e⟩
  | exc x h => cases e
  | stuck => cases e
theorem pda_cons {e : Expr} {es : List Expr} {m : ME} {ms : MA} (ha : PD X W e m) (hr : PDa X W es ms) (hs : starEach (e :: es) X.env = (false, eval e X.env) :: starEach es X.env := by rfl) : PDa X W (e :: es) (mCons m ms) :=
  ⟨pa_imp (pa_cons ha.run hr.run hs) fun σ H Q ⟨ρ, fr, h, R, f, p⟩ => ⟨ρ, fr, h, R, f, p.bind fun x h1 ρ1 v H1 _ u1 R1 rx p1 => ⟨ρ1, fr, h1, R1, f.up u1, p1.bind fun xs h2 ρ2 vs H2 _ u2 R2 rxs p2 => p2 ρ2 _ H2 .refl R2 (.cons (rx.up u2) rxs)⟩⟩, fun fr h ds h1 e => by
    obtain ⟨x, h2, _, e⟩ := Res.bind_ok e
    obtain ⟨xs, h3, e3, e⟩ := Res.bind_ok e
    cases e
    exact congrArg Nat.succ (hr.len _ _ _ _ e3)⟩
def mTup (ms : MA) : ME := fun fr h => (ms fr h).bind fun ds h1 => if ds.length ≤ 1000 then .ok (.tup ds) h1 else .stuck
def mLst (ms : MA) : ME := fun fr h => (ms fr h).bind fun ds h1 => if ds.length ≤ 1000 then .ok (.ref h1.length) (h1 ++ [O.lst ds]) else .stuck
theorem le1000 {n : Nat} (h : n ≤ 1000) : n ≤ sizeLine := Nat.le_of_lt (small1000 h)
theorem pd_tup {es : List Expr} {x1 : Nat} {pos : Pos} {ms : MA} (h : PDa X W es ms) : PD X W (.Tuple es x1 pos) (mTup ms) := by
  refine ⟨pe_imp (pe_tup h.run) fun σ H Q ⟨ρ, fr, h, R, f, p⟩ => ⟨ρ, fr, h, R, f, p.bind fun ds h1 ρ1 xs H1 _ u1 R1 rx p1 => ?_⟩⟩
  by_cases hl : ds.length ≤ 1000
  · rw [if_pos hl] at p1
    exact ⟨le1000 (by rw [← rx.length]; exact hl), fun p hp => by
      obtain ⟨u, R', r'⟩ := new_tup R1 rx hp
      exact p1 ρ1 _ _ u R' r'⟩
  · rw [if_neg hl] at p1
    exact p1.elim
theorem pd_lst {es : List Expr} {pos : Pos} {ms : MA} (h : PDa X W es ms) : PD X W (.List es pos) (mLst ms) := by
  refine ⟨pe_imp (pe_lst h.run) fun σ H Q ⟨ρ, fr, h, R, f, p⟩ => ⟨ρ, fr, h, R, f, p.bind fun ds h1 ρ1 xs H1 _ u1 R1 rx p1 => ?_⟩⟩
  by_cases hl : ds.length ≤ 1000
  · rw [if_pos hl] at p1
    exact ⟨le1000 (by rw [← rx.length]; exact hl), fun p hp => by
      obtain ⟨u, R', r'⟩ := new_lst R1 rx hp
      exact p1 _ _ _ u R' r'⟩
  · rw [if_neg hl] at p1
    exact p1.elim

/-! ### calls -/
/-- what a def of the program promises, by a function -/
def spOf (K : PySem.W.Frag) (mg : Str → Option Value) (n : Nat) (m : MFn) : Sp := fun vs H Q E => vs.length = n ∧
  ∃ ρ ds h, Rep K H ρ h ∧ DRs K H ρ h.length ds vs ∧ PostG K mg (fun cls dd _ H' => E cls dd H') (rD K) [] ρ h.length H Q (m ds h)
def mCall (f : MFn) (ms : MA) : ME := fun fr h => (ms fr h).bind fun ds h1 => f ds h1
theorem PostG.wish {α β : Type} {K : PySem.W.Frag} {mg : Str → Option Value} {W : WX} {R : Rl α β} {σ : L2.St} {n : Nat} {Q : β → Hp → Prop} {r : Res α} (p : PostG K mg W R σ ρ n H Q r) : PostG K mg (fun cls dd _ H' => W cls dd σ H') R [] ρ n H Q r := by
  cases r with
  | ok d h' => exact p
  | exc x h' => exact p
  | stuck => exact p
theorem pd_call {k : Nat} {f : Addr} {fd : FuncData} {ps : List Str} {m : MFn} {x : Str} {p pos : Pos} {e : Expr} {es : List Expr} {ms : MA} (tk : Takes X W) (F : FnOk X.prog X.w X.K X.mg X.base (L2.CX X.prog X.w) k f fd ps (spOf X.K X.mg ps.length m)) (hr : Room k X.A) (hg : Gl X x)
    (hm : X.mg x = some (.ref f)) (hk : PySem.W.keepIn X.K (.ref f) = true) (hb : Binds X.K fd ps []) (ha : PDa X W (e :: es) ms) (hl : (e :: es).length = ps.length) (hdb : (x == ("__debug__" : Str)) = false := by decide)
    (he : starEach (e :: es) X.env = (false, eval e X.env) :: starEach es X.env := by rfl) (hpl : (backTo pos (starEach es X.env)).any (·.1) = false := by rfl) :
    PD X W (.Call (.Name x p) (e :: es) [] pos) (mCall m ms) := by
  refine ⟨pe_imp (pe_callS F hr hg hm hk hb (fun σ => passAt tk σ) ha.run hdb he hpl) fun σ H Q ⟨ρ, fr, h, R, f, p⟩ => ⟨ρ, fr, h, R, f, p.bind fun ds h1 ρ1 vs H1 e1 u1 R1 rx p1 => ?_⟩⟩
  exact ⟨by rw [← rx.length, ha.len _ _ _ _ e1, hl], ρ1, ds, h1, R1, rx, p1.wish⟩
end
end FM

set_option Elab.async false
set_option linter.all false
set_option maxRecDepth 100000
set_option maxHeartbeats 4000000
/-! Operators, subscripts, slices, built-in functions, by data. -/
namespace FM
open PySem PySem.Spec PyProof.Rows L2
section
variable {X : Cx} {W : WX} {H : Hp} {ρ : Nat → Addr} {h : Hm}
/-- the first that answers -/
def orG (g g' : G2) : G2 := fun x y h => match g x y h with
  | some r => some r
  | none => g' x y h
theorem OpD.or {F : Value → Value → Sem Value} {g g' : G2} (a : OpD X F g) (b : OpD X F g') : OpD X F (orG g g') := by
  obtain ⟨r, h1, h2⟩ := a.ex
  obtain ⟨r', h1', h2'⟩ := b.ex
  refine ⟨_, OpR.or h1 h1', fun ρ h H x y v w Q R rx ry p => ?_⟩
  unfold orG at p
  split at p
  · rename_i q e
    exact .inl (h2 ρ h H x y v w Q R rx ry (by rw [e]; exact p))
  · exact .inr (h2' ρ h H x y v w Q R rx ry p)
/-- two ints, under a condition -/
def gI (C : Int → Int → Bool) (f : Int → Int → D) : G2 := fun x y h => match x, y with
  | .int i, .int j => if C i j = true then some (f i j, h) else none
  | _, _ => none
theorem OpD.ints {F : Value → Value → Sem Value} {P : Int → Int → Prop} {C : Int → Int → Bool} {f : Int → Int → D} {g : Int → Int → V} (o : OpR X F (rI P g)) (hC : ∀ i j, C i j = true → P i j) (hf : ∀ H ρ n i j, DR X.K H ρ n (f i j) (g i j)) : OpD X F (gI C f) := by
  refine ⟨_, o, fun ρ h H x y v w Q R rx ry p => ?_⟩
  unfold gI at p
  split at p
  · rename_i i j
    cases rx
    cases ry
    split at p
    · rename_i c
      exact ⟨i, j, rfl, rfl, hC i j c, p.here R (hf H ρ h.length i j)⟩
    · exact p.elim
  · exact p.elim
theorem OpD.ints0 {F : Value → Value → Sem Value} {f : Int → Int → D} {g : Int → Int → V} (o : OpR X F (rI0 g)) (hf : ∀ H ρ n i j, DR X.K H ρ n (f i j) (g i j)) : OpD X F (gI (fun _ _ => true) f) := by
  refine ⟨_, o, fun ρ h H x y v w Q R rx ry p => ?_⟩
  unfold gI at p
  split at p
  · rename_i i j
    cases rx
    cases ry
    exact ⟨i, j, rfl, rfl, PostO.here (d := f i j) p R (hf H ρ h.length i j)⟩
  · exact p.elim
abbrev yes2 : Int → Int → Bool := fun _ _ => true
def gAddI : G2 := gI yes2 fun i j => .int (i + j)
def gSubI : G2 := gI yes2 fun i j => .int (i - j)
def mulC (i j : Int) : Bool := decide (-(2 ^ 64) < i ∧ i < 2 ^ 64) || decide (-(2 ^ 64) < j ∧ j < 2 ^ 64) || decide (i.natAbs.log2 + j.natAbs.log2 < 1000000)
theorem mulC_ok {i j : Int} (c : mulC i j = true) : IntMulOk i j := by
  unfold mulC at c
  simp only [Bool.or_eq_true, decide_eq_true_eq] at c
  rcases c with (c | c) | c
  · exact CMul.ok (.inl c)
  · exact CMul.ok (.inr c)
  · exact CMulW.ok c
def gMulI : G2 := gI mulC fun i j => .int (i * j)
def divC (_ j : Int) : Bool := decide (j ≠ 0) && decide (j.natAbs.log2 < 9000)
def gFdiv : G2 := gI divC fun i j => .int (i.fdiv j)
def gMod : G2 := gI (fun _ j => decide (j ≠ 0)) fun i j => .int (i.fmod j)
def powC (i j : Int) : Bool := decide (0 ≤ j) && decide (j ≤ 1000000) && decide (i.natAbs < 2 ^ 64)
def gPow : G2 := gI powC fun i j => .int (i ^ j.toNat)
theorem od_addI : OpD X (binaryOp .Add) gAddI := OpD.ints0 op_add fun _ _ _ _ _ => .int _
theorem od_sub : OpD X (binaryOp .Sub) gSubI := OpD.ints0 op_sub fun _ _ _ _ _ => .int _
theorem od_mulI : OpD X (binaryOp .Mult) gMulI := OpD.ints (P := fun i j => mulC i j = true) (g := fun i j => .int (i * j)) (opI (g := fun i j => i * j) fun _ _ _ _ _ _ _ hc q => mul_int q (mulC_ok hc)) (fun _ _ c => c) fun _ _ _ _ _ => .int _
theorem od_fdiv : OpD X (binaryOp .FloorDiv) gFdiv := OpD.ints (P := fun i j => divC i j = true) (g := fun i j => .int (i.fdiv j)) (opI (g := fun i j => i.fdiv j) fun _ _ _ _ _ _ _ hc q => by
    unfold divC at hc
    simp only [Bool.and_eq_true, decide_eq_true_eq] at hc
    exact floordiv_int hc.1 q (.inl (PyProof.noPylong_of_log2 hc.2))) (fun _ _ c => c) fun _ _ _ _ _ => .int _
theorem od_mod : OpD X (binaryOp .Mod) gMod := OpD.ints op_modN (fun _ _ c => of_decide_eq_true c) fun _ _ _ _ _ => .int _
theorem od_pow : OpD X (binaryOp .Pow) gPow := OpD.ints op_pow (fun i j c => by
    unfold powC at c
    simp only [Bool.and_eq_true, decide_eq_true_eq] at c
    exact ⟨c.1.1, c.1.2, c.2⟩) fun _ _ _ _ _ => .int _
def gLt : G2 := gI yes2 fun i j => .bl (decide (i < j))
def gLe : G2 := gI yes2 fun i j => .bl (decide (i ≤ j))
def gGt : G2 := gI yes2 fun i j => .bl (decide (j < i))
def gGe : G2 := gI yes2 fun i j => .bl (decide (j ≤ i))
theorem od_lt : OpD X (compareOp .Lt) gLt := OpD.ints0 op_lt fun _ _ _ _ _ => .bl _
theorem od_le : OpD X (compareOp .LtE) gLe := OpD.ints0 op_le fun _ _ _ _ _ => .bl _
theorem od_gt : OpD X (compareOp .Gt) gGt := OpD.ints0 op_gt fun _ _ _ _ _ => .bl _
theorem od_ge : OpD X (compareOp .GtE) gGe := OpD.ints0 op_ge fun _ _ _ _ _ => .bl _

/-! ### + of texts, tuples, lists -/
def gAddS : G2 := fun x y h => match x, y with
  | .str a, .str b => if a.length + b.length ≤ 16777216 then some (.str (a ++ b), h) else none
  | _, _ => none
theorem od_addS : OpD X (binaryOp .Add) gAddS := by
  refine ⟨_, op_add_str, fun ρ h H x y v w Q R rx ry p => ?_⟩
  unfold gAddS at p
  split at p
  · rename_i i j
    cases rx
    cases ry
    split at p
    · rename_i c
      exact ⟨i, j, rfl, rfl, by rw [sizeLine_eq]; exact c, p.here R (.str _)⟩
    · exact p.elim
  · exact p.elim
def gAddT : G2 := fun x y h => match x, y with
  | .tup a, .tup b => if a.length + b.length ≤ 16777216 then some (.tup (a ++ b), h) else none
  | _, _ => none
theorem od_addT : OpD X (binaryOp .Add) gAddT := by
  refine ⟨_, op_catA, fun ρ h H x y v w Q R rx ry p => ?_⟩
  unfold gAddT at p
  split at p
  · rename_i i j
    cases rx with
    | tup s rs =>
      cases ry with
      | tup s' rs' =>
        split at p
        · rename_i c
          rename_i a xs b ys
          refine ⟨_, _, _, _, rfl, rfl, s, s', by rw [sizeLine_eq, ← rs.length, ← rs'.length]; exact c, fun e => ?_, fun _ e => ?_, fun _ _ => ?_⟩
          · subst e
            cases rs
            exact p.here R (.tup s' rs')
          · subst e
            cases rs'
            rw [List.append_nil] at p
            exact p.here R (.tup s rs)
          · exact PostO.tup p R (rs.append rs')
        · exact p.elim
  · exact p.elim
def gAddL : G2 := fun x y h => match x, y with
  | .ref i, .ref j => match h[i]?, h[j]? with
    | some (.lst a), some (.lst b) => if a.length + b.length ≤ 16777216 then some (.ref h.length, h ++ [O.lst (a ++ b)]) else none
    | _, _ => none
  | _, _ => none
theorem od_addL : OpD X (binaryOp .Add) gAddL := by
  refine ⟨_, op_cat, fun ρ h H x y v w Q R rx ry p => ?_⟩
  unfold gAddL at p
  split at p
  · rename_i i j
    cases rx
    cases ry
    split at p
    · rename_i a b ea eb
      obtain ⟨xs, ex, rs⟩ := R.obj i _ ea
      obtain ⟨ys, ey, rs'⟩ := R.obj j _ eb
      split at p
      · rename_i c
        exact ⟨_, _, _, _, rfl, rfl, ex, ey, by rw [sizeLine_eq, ← rs.length, ← rs'.length]; exact c, PostO.lst p R (rs.append rs')⟩
      · exact p.elim
    · exact p.elim
  · exact p.elim
def gAddB : G2 := fun x y h => match x, y with
  | .int i, .bl k => some (.int (i + b2i k), h)
  | _, _ => none
theorem od_addB : OpD X (binaryOp .Add) gAddB := by
  refine ⟨_, op_add_ib, fun ρ h H x y v w Q R rx ry p => ?_⟩
  unfold gAddB at p
  split at p
  · rename_i i j
    cases rx
    cases ry
    exact ⟨i, j, rfl, rfl, p.here R (.int _)⟩
  · exact p.elim
def gAdd : G2 := orG gAddI (orG gAddS (orG gAddT (orG gAddL gAddB)))
theorem od_add : OpD X (binaryOp .Add) gAdd := od_addI.or (od_addS.or (od_addT.or (od_addL.or od_addB)))

/-! ### == and != -/
def mapO {α β : Type} (f : α → Option β) : List α → Option (List β)
  | [] => some []
  | a :: as => match f a, mapO f as with
    | some b, some bs => some (b :: bs)
    | _, _ => none
/-- data as the library has them, lists followed -/
def toP (h : Hm) : Nat → D → Option PyData
  | 0, _ => none
  | _ + 1, .non => some .none
  | _ + 1, .bl b => some (.bool b)
  | _ + 1, .int i => some (.int i)
  | _ + 1, .str x => some (.str x)
  | n + 1, .tup ds => (mapO (toP h n) ds).map .tuple
  | n + 1, .ref i => match h[i]? with
    | some (.lst ds) => (mapO (toP h n) ds).map .list
    | some (.rol ds) => (mapO (toP h n) ds).map .list
    | none => none
theorem toPs_ok {K : PySem.W.Frag} {n : Nat} (ih : ∀ d v p, DR K H ρ h.length d v → toP h n d = some p → Dp K H v p) : ∀ (ds : List D) (vs : List V) (ps : List PyData), DRs K H ρ h.length ds vs → mapO (toP h n) ds = some ps → DpAll K H vs ps
  | [], _, _, .nil, e => by cases e; exact .nil
  | d :: ds, _, _, .cons r rs, e => by
    unfold mapO at e
    split at e
    · rename_i b bs e1 e2
      cases e
      exact .cons (ih _ _ _ r e1) (toPs_ok ih ds _ _ rs e2)
    · cases e
theorem toP_ok {K : PySem.W.Frag} (R : Rep K H ρ h) : ∀ (n : Nat) (d : D) (v : V) (p : PyData), DR K H ρ h.length d v → toP h n d = some p → Dp K H v p
  | 0, _, _, _, _, e => by cases e
  | n + 1, _, _, _, .non, e => by cases e; exact .non
  | n + 1, _, _, _, .bl b, e => by cases e; exact .bl b
  | n + 1, _, _, _, .int b, e => by cases e; exact .int b
  | n + 1, _, _, _, .str b, e => by cases e; exact .str b
  | n + 1, .tup ds, _, p, .tup s r, e => by
    have e' : (mapO (toP h n) ds).map PyData.tuple = some p := e
    cases q : mapO (toP h n) ds with
    | none => rw [q] at e'; cases e'
    | some ps =>
      rw [q] at e'
      cases e'
      exact .tup s (toPs_ok (toP_ok R n) ds _ ps r q)
  | n + 1, .ref i, _, p, .ref hi, e => by
    have e' : (match h[i]? with
      | some (O.lst ds) => (mapO (toP h n) ds).map PyData.list
      | some (O.rol ds) => (mapO (toP h n) ds).map PyData.list
      | none => none) = some p := e
    split at e'
    · rename_i ds z
      obtain ⟨xs, s, rs⟩ := R.list (.inl z)
      cases q : mapO (toP h n) ds with
      | none => rw [q] at e'; cases e'
      | some ps =>
        rw [q] at e'
        cases e'
        exact .lst s (toPs_ok (toP_ok R n) ds _ ps rs q)
    · rename_i ds z
      obtain ⟨xs, s, rs⟩ := R.list (.inr z)
      cases q : mapO (toP h n) ds with
      | none => rw [q] at e'; cases e'
      | some ps =>
        rw [q] at e'
        cases e'
        exact .lst s (toPs_ok (toP_ok R n) ds _ ps rs q)
    · cases e'
/-- scalars, of one kind or another -/
def eqS : D → D → Option Bool
  | .non, .non => some true
  | .non, .int _ => some false
  | .int _, .non => some false
  | .non, .bl _ => some false
  | .bl _, .non => some false
  | .non, .str _ => some false
  | .str _, .non => some false
  | .int i, .int j => some (decide (i = j))
  | .bl i, .bl j => some (decide (i = j))
  | .str i, .str j => some (decide (i = j))
  | .int _, .str _ => some false
  | .str _, .int _ => some false
  | .bl _, .str _ => some false
  | .str _, .bl _ => some false
  | _, _ => none
theorem eqS_ok {K : PySem.W.Frag} {n : Nat} {x y : D} {v w : V} {b : Bool} (rx : DR K H ρ n x v) (ry : DR K H ρ n y w) (e : eqS x y = some b) : scal v w = true ∧ decide (v = w) = b := by
  cases rx <;> cases ry <;> simp only [eqS, Option.some.injEq, reduceCtorEq] at e <;> subst e <;> refine ⟨rfl, ?_⟩ <;> simp
def eqP (x y : D) (h : Hm) : Option Bool := match toP h 66 x, toP h 66 y with
  | some p, some q => if (SeqAt.shaped p && SeqAt.shaped q) = true then some (PyData.eqv p q) else none
  | _, _ => none
/-- ==, by scalars or by data as a whole -/
def eqD (x y : D) (h : Hm) : Option Bool := match eqS x y with
  | some b => some b
  | none => eqP x y h
def gEq : G2 := fun x y h => match eqD x y h with
  | some b => some (.bl b, h)
  | none => none
def gNe : G2 := fun x y h => match eqD x y h with
  | some b => some (.bl (!b), h)
  | none => none
theorem od_eq (hu : X.A.units + 64 < cLine) : OpD X (compareOp .Eq) gEq := by
  refine ⟨_, OpR.or op_eq (op_eqD hu), fun ρ h H x y v w Q R rx ry p => ?_⟩
  unfold gEq eqD at p
  cases e : eqS x y with
  | some b =>
    rw [e] at p
    obtain ⟨s, d⟩ := eqS_ok rx ry e
    exact .inl ⟨s, by rw [d]; exact p.here R (.bl b)⟩
  | none =>
    rw [e] at p
    simp only [eqP] at p
    cases ex : toP h 66 x with
    | none => rw [ex] at p; exact p.elim
    | some a =>
      cases ey : toP h 66 y with
      | none => rw [ex, ey] at p; exact p.elim
      | some c =>
        rw [ex, ey] at p
        simp only at p
        by_cases z : (SeqAt.shaped a && SeqAt.shaped c) = true
        · rw [if_pos z] at p
          rw [Bool.and_eq_true] at z
          exact .inr ⟨a, c, toP_ok R _ _ _ _ rx ex, toP_ok R _ _ _ _ ry ey, z.1, z.2, p.here R (.bl _)⟩
        · rw [if_neg z] at p
          exact p.elim
theorem od_ne (hu : X.A.units + 64 < cLine) : OpD X (compareOp .NotEq) gNe := by
  refine ⟨_, OpR.or op_ne (op_neD hu), fun ρ h H x y v w Q R rx ry p => ?_⟩
  unfold gNe eqD at p
  cases e : eqS x y with
  | some b =>
    rw [e] at p
    obtain ⟨s, d⟩ := eqS_ok rx ry e
    exact .inl ⟨s, by rw [d]; exact p.here R (.bl _)⟩
  | none =>
    rw [e] at p
    simp only [eqP] at p
    cases ex : toP h 66 x with
    | none => rw [ex] at p; exact p.elim
    | some a =>
      cases ey : toP h 66 y with
      | none => rw [ex, ey] at p; exact p.elim
      | some c =>
        rw [ex, ey] at p
        simp only at p
        by_cases z : (SeqAt.shaped a && SeqAt.shaped c) = true
        · rw [if_pos z] at p
          rw [Bool.and_eq_true] at z
          exact .inr ⟨a, c, toP_ok R _ _ _ _ rx ex, toP_ok R _ _ _ _ ry ey, z.1, z.2, p.here R (.bl _)⟩
        · rw [if_neg z] at p
          exact p.elim
def isN : D → Bool
  | .non => true
  | _ => false
theorem isN_ok {K : PySem.W.Frag} {n : Nat} {x : D} {v : V} (r : DR K H ρ n x v) : decide (v = .non) = isN x := by
  cases r <;> simp [isN]
def gIsN : G2 := fun x y h => if isN y = true then some (.bl (isN x), h) else none
def gNotN : G2 := fun x y h => if isN y = true then some (.bl (!isN x), h) else none
theorem od_isN : OpD X (compareOp .Is) gIsN := by
  refine ⟨_, op_isN, fun ρ h H x y v w Q R rx ry p => ?_⟩
  unfold gIsN at p
  split at p
  · rename_i z
    cases ry <;> try (cases z)
    exact ⟨rfl, by rw [isN_ok rx]; exact p.here R (.bl _)⟩
  · exact p.elim
theorem od_notN : OpD X (compareOp .IsNot) gNotN := by
  refine ⟨_, op_notN, fun ρ h H x y v w Q R rx ry p => ?_⟩
  unfold gNotN at p
  split at p
  · rename_i z
    cases ry <;> try (cases z)
    exact ⟨rfl, by rw [isN_ok rx]; exact p.here R (.bl _)⟩
  · exact p.elim

/-! ### subscripts -/
structure IxD (X : Cx) (g : G2) : Prop where
  ex : ∃ r : R2, IxR X r ∧ ∀ (ρ : Nat → Addr) (h : Hm) (H : Hp) (x y : D) (v w : V) (Q : VK), Rep X.K H ρ h → DR X.K H ρ h.length x v → DR X.K H ρ h.length y w → PostO X.K (rD X.K) ρ h.length H Q (g x y h) → r v w H Q
theorem pd_ix {a b : Expr} {pos : Pos} {g : G2} {ma mb : ME} (o : IxD X g) (ha : PD X W a ma) (hb : PD X W b mb) (hs : PlainIx b := by exact fun _ _ => rfl) : PD X W (.Subscript a b pos) (mBin g ma mb) := by
  obtain ⟨r, ho, hr⟩ := o.ex
  exact ⟨pe_imp (pe_ix ho ha.run hb.run hs) fun σ H Q t => tOp_of hr t⟩
def gIx : G2 := fun x y h => match x, y with
  | .tup ds, .int i => match atI ds i with
    | some d => some (d, h)
    | none => none
  | .ref a, .int i => match h[a]? with
    | some (.lst ds) => match atI ds i with
      | some d => some (d, h)
      | none => none
    | some (.rol ds) => match atI ds i with
      | some d => some (d, h)
      | none => none
    | _ => none
  | .str z, .int i => if z.length ≤ 16777216 then match atI z.cps.toList i with
      | some c => some (.str ⟨#[c]⟩, h)
      | none => none
    else none
  | _, _ => none
theorem atI_ok {K : PySem.W.Frag} {n : Nat} {ds : List D} {vs : List V} {i : Int} {d : D} (r : DRs K H ρ n ds vs) (e : atI ds i = some d) : ∃ v, atI vs i = some v ∧ DR K H ρ n d v := by
  unfold atI at e ⊢
  rw [r.length] at e
  cases q : ixN vs.length i with
  | none => rw [q] at e; cases e
  | some j =>
    rw [q] at e
    exact r.get e
theorem ix_ok : IxD X gIx := by
  refine ⟨_, ix_seq, fun ρ h H x y v w Q R rx ry p => ?_⟩
  unfold gIx at p
  split at p
  · rename_i ds i
    cases ry
    cases rx with
    | tup s rs =>
      split at p
      · rename_i d e
        obtain ⟨v, e1, r⟩ := atI_ok rs e
        exact .inr (.inl ⟨_, _, _, _, rfl, rfl, s, e1, p.here R r⟩)
      · exact p.elim
  · rename_i a i
    cases ry
    cases rx
    split at p
    · rename_i ds z
      obtain ⟨xs, s, rs⟩ := R.list (.inl z)
      split at p
      · rename_i d e
        obtain ⟨v, e1, r⟩ := atI_ok rs e
        exact .inl ⟨_, _, _, _, rfl, rfl, s, e1, p.here R r⟩
      · exact p.elim
    · rename_i ds z
      obtain ⟨xs, s, rs⟩ := R.list (.inr z)
      split at p
      · rename_i d e
        obtain ⟨v, e1, r⟩ := atI_ok rs e
        exact .inl ⟨_, _, _, _, rfl, rfl, s, e1, p.here R r⟩
      · exact p.elim
    · exact p.elim
  · rename_i z i
    cases ry
    cases rx
    split at p
    · rename_i c
      split at p
      · rename_i d e
        exact .inr (.inr ⟨_, _, _, rfl, rfl, by rw [sizeLine_eq]; exact c, e, p.here R (.str _)⟩)
      · exact p.elim
    · exact p.elim
  · exact p.elim
/-! ### slices -/
abbrev MO := Fr → Hm → Res (Option Int)
abbrev rO : Rl (Option Int) (Option Int) := fun _ _ _ a b => a = b
structure PDo (X : Cx) (W : WX) (e : Option Expr) (m : MO) : Prop where
  run : PO X e (tG X.K X.mg W rO m)
theorem po_imp {e : Option Expr} {t t' : L2.St → Hp → (Option Int → Hp → Prop) → Prop} (h : PO X e t) (f : ∀ σ H Q, t' σ H Q → t σ H Q) : PO X e t' := ⟨fun pins s σ H Q I q => h.run pins s σ H Q I (f σ H Q q)⟩
def mNoPart : MO := fun _ h => .ok none h
def mPart (m : ME) : MO := fun fr h => (m fr h).bind fun x h1 => match x with
  | .int i => .ok (some i) h1
  | _ => .stuck
theorem pdo_none : PDo X W none mNoPart := ⟨po_imp po_none fun σ H Q ⟨ρ, fr, h, R, f, p⟩ => p ρ none H .refl R rfl⟩
theorem pdo_some {e : Expr} {m : ME} (he : PD X W e m) : PDo X W (some e) (mPart m) :=
  ⟨po_imp (po_some he.run) fun σ H Q ⟨ρ, fr, h, R, f, p⟩ => ⟨ρ, fr, h, R, f, p.bind fun x h1 ρ1 v H1 _ u1 R1 rx p1 => by
    cases rx with
    | int i => exact ⟨i, rfl, p1 ρ1 _ H1 .refl R1 rfl⟩
    | non => exact p1.elim
    | bl i => exact p1.elim
    | str x => exact p1.elim
    | tup a b => exact p1.elim
    | ref a => exact p1.elim⟩⟩
def cutD (xs : List D) (lo hi : Option Int) : List D := (xs.drop (HT.sIx xs.length 0 lo)).take (HT.sIx xs.length xs.length hi - HT.sIx xs.length 0 lo)
def slD (x : D) (lo hi : Option Int) (h : Hm) : Option (D × Hm) := match x with
  | .tup ds => some (.tup (cutD ds lo hi), h)
  | .ref a => match h[a]? with
    | some (.lst ds) => some (.ref h.length, h ++ [O.lst (cutD ds lo hi)])
    | some (.rol ds) => some (.ref h.length, h ++ [O.lst (cutD ds lo hi)])
    | _ => none
  | .str z => if z.length ≤ 16777216 then some (.str (cutS z lo hi), h) else none
  | _ => none
def mSlice (ma : ME) (ml mh : MO) : ME := fun fr h => (ma fr h).bind fun x h1 => (ml fr h1).bind fun lo h2 => (mh fr h2).bind fun hi h3 => ofOpt (slD x lo hi h3)
theorem cutD_ok {K : PySem.W.Frag} {n : Nat} {ds : List D} {vs : List V} (lo hi : Option Int) (r : DRs K H ρ n ds vs) : DRs K H ρ n (cutD ds lo hi) (cutV vs lo hi) := by
  unfold cutD cutV
  rw [r.length]
  exact (r.drop _).take _
theorem cut_all {xs : List V} {lo hi : Option Int} (h : HT.sIx xs.length 0 lo = 0 ∧ HT.sIx xs.length xs.length hi = xs.length) : cutV xs lo hi = xs := by
  unfold cutV
  rw [h.1, h.2, List.drop_zero, Nat.sub_zero, List.take_length]
theorem pd_slice {e : Expr} {lo hi : Option Expr} {p2 pos : Pos} {ma : ME} {ml mh : MO} (he : PD X W e ma) (hl : PDo X W lo ml) (hu : PDo X W hi mh) : PD X W (.Subscript e (.Slice lo hi none p2) pos) (mSlice ma ml mh) := by
  refine ⟨pe_imp (pe_slice (SlR.or sl_list (SlR.or sl_tupA sl_str)) he.run hl.run hu.run) fun σ H Q ⟨ρ, fr, h, R, f, p⟩ => ⟨ρ, fr, h, R, f, p.bind fun x h1 ρ1 v H1 _ u1 R1 rx p1 => ?_⟩⟩
  refine ⟨ρ1, fr, h1, R1, f.up u1, p1.bind fun lo h2 ρ2 lo' H2 _ u2 R2 rlo p2 => ?_⟩
  refine ⟨ρ2, fr, h2, R2, (f.up u1).up u2, PostG.bind p2 fun hi h3 ρ3 hi' H3 _ u3 R3 rhi p3 => ?_⟩
  have rx := (rx.up u2).up u3
  cases rlo
  cases rhi
  have p3 := p3.opt
  unfold slD at p3
  split at p3
  · rename_i ds
    cases rx with
    | tup s rs =>
      refine .inr (.inl ⟨_, _, rfl, s, fun z => ?_, fun z => ?_⟩)
      · refine p3.here R3 ?_
        have q := cutD_ok lo hi rs
        rw [cut_all z] at q
        exact .tup s q
      · exact PostO.tup p3 R3 (cutD_ok lo hi rs)
  · rename_i a
    cases rx
    split at p3
    · rename_i ds z
      obtain ⟨xs, s, rs⟩ := R3.list (.inl z)
      exact .inl ⟨_, _, rfl, s, PostO.lst p3 R3 (cutD_ok lo hi rs)⟩
    · rename_i ds z
      obtain ⟨xs, s, rs⟩ := R3.list (.inr z)
      exact .inl ⟨_, _, rfl, s, PostO.lst p3 R3 (cutD_ok lo hi rs)⟩
    · exact p3.elim
  · rename_i z
    cases rx
    split at p3
    · rename_i c
      exact .inr (.inr ⟨_, rfl, by rw [sizeLine_eq]; exact c, p3.here R3 (.str _)⟩)
    · exact p3.elim
  · exact p3.elim

/-! ### built-in functions -/
abbrev GF := List D → Hm → Option (D × Hm)
structure FnD (X : Cx) (F : Value) (g : GF) : Prop where
  ex : ∃ r, CallR X F r ∧ ∀ (ρ : Nat → Addr) (h : Hm) (H : Hp) (ds : List D) (vs : List V) (Q : VK), Rep X.K H ρ h → DRs X.K H ρ h.length ds vs → PostO X.K (rD X.K) ρ h.length H Q (g ds h) → r vs H Q
def mB (g : GF) (ms : MA) : ME := fun fr h => (ms fr h).bind fun ds h1 => ofOpt (g ds h1)
theorem tCB_of {g : GF} {ms : MA} {r : List V → Hp → VK → Prop} (hr : ∀ (ρ : Nat → Addr) (h : Hm) (H : Hp) (ds : List D) (vs : List V) (Q : VK), Rep X.K H ρ h → DRs X.K H ρ h.length ds vs → PostO X.K (rD X.K) ρ h.length H Q (g ds h) → r vs H Q)
    {σ : L2.St} {H : Hp} {Q : VK} (t : tG X.K X.mg W (rD X.K) (mB g ms) σ H Q) : tCB r (tG X.K X.mg W (rDs X.K) ms) σ H Q := by
  obtain ⟨ρ, fr, h, R, f, p⟩ := t
  exact ⟨ρ, fr, h, R, f, p.bind fun ds h1 ρ1 vs H1 _ u1 R1 rx p1 => hr ρ1 h1 H1 ds vs Q R1 rx p1.opt⟩
section
variable {x : Str} {p pos : Pos} {e : Expr} {es : List Expr} {ms : MA} {id : String} {g : GF}
theorem pd_blt (o : FnD X (.builtin id) g) (hm : X.mg x = none) (hv : bootBuiltins x = some (.builtin id)) (ha : PDa X W (e :: es) ms) (hg : Gl X x := by rfl) (hn : x ≠ "__name__" := by decide) (hdb : (x == ("__debug__" : Str)) = false := by decide)
    (he : starEach (e :: es) X.env = (false, eval e X.env) :: starEach es X.env := by rfl) (hpl : (backTo pos (starEach es X.env)).any (·.1) = false := by rfl) : PD X W (.Call (.Name x p) (e :: es) [] pos) (mB g ms) := by
  obtain ⟨r, ho, hr⟩ := o.ex
  exact ⟨pe_imp (pe_callB ho hg hm hv ha.run hn hdb he hpl) fun σ H Q t => tCB_of hr t⟩
theorem pd_bty (o : FnD X (.type id) g) (hm : X.mg x = none) (hv : bootBuiltins x = some (.type id)) (ha : PDa X W (e :: es) ms) (hg : Gl X x := by rfl) (hn : x ≠ "__name__" := by decide) (hdb : (x == ("__debug__" : Str)) = false := by decide)
    (he : starEach (e :: es) X.env = (false, eval e X.env) :: starEach es X.env := by rfl) (hpl : (backTo pos (starEach es X.env)).any (·.1) = false := by rfl) : PD X W (.Call (.Name x p) (e :: es) [] pos) (mB g ms) := by
  obtain ⟨r, ho, hr⟩ := o.ex
  exact ⟨pe_imp (pe_callTy ho hg hm hv ha.run hn hdb he hpl) fun σ H Q t => tCB_of hr t⟩
theorem pd_bfun (o : FnD X (.builtin id) g) (hm : X.mg x = some (.builtin id)) (ha : PDa X W (e :: es) ms) (hg : Gl X x := by rfl) (hdb : (x == ("__debug__" : Str)) = false := by decide)
    (he : starEach (e :: es) X.env = (false, eval e X.env) :: starEach es X.env := by rfl) (hpl : (backTo pos (starEach es X.env)).any (·.1) = false := by rfl) : PD X W (.Call (.Name x p) (e :: es) [] pos) (mB g ms) := by
  obtain ⟨r, ho, hr⟩ := o.ex
  exact ⟨pe_imp (pe_callBfun ho hg hm ha.run hdb he hpl) fun σ H Q t => tCB_of hr t⟩
end
def lenD (x : D) (h : Hm) : Option Nat := match x with
  | .tup ds => some ds.length
  | .str z => if z.length ≤ 16777216 then some z.length else none
  | .ref a => match h[a]? with
    | some (.lst ds) => some ds.length
    | some (.rol ds) => some ds.length
    | none => none
  | _ => none
def gLen : GF := fun ds h => match ds with
  | [x] => match lenD x h with
    | some n => some (.int (n : Nat), h)
    | none => none
  | _ => none
theorem lenD_ok {K : PySem.W.Frag} {x : D} {v : V} {n : Nat} (R : Rep K H ρ h) (r : DR K H ρ h.length x v) (e : lenD x h = some n) : LenV K v H n := by
  unfold lenD at e
  split at e
  · cases r with
    | tup s rs =>
      cases e
      exact .inr ⟨_, s, rs.length⟩
  · cases r
    split at e
    · rename_i c
      cases e
      exact ⟨by rw [sizeLine_eq]; exact c, rfl⟩
    · cases e
  · cases r
    split at e
    · rename_i ds z
      obtain ⟨xs, s, rs⟩ := R.list (.inl z)
      cases e
      exact .inl ⟨_, s, rs.length⟩
    · rename_i ds z
      obtain ⟨xs, s, rs⟩ := R.list (.inr z)
      cases e
      exact .inl ⟨_, s, rs.length⟩
    · cases e
  · cases e
theorem fd_len : FnD X (.builtin "len") gLen := by
  refine ⟨_, call_len, fun ρ h H ds vs Q R rs p => ?_⟩
  unfold gLen at p
  split at p
  · rename_i x
    cases rs with
    | cons rx rn =>
      cases rn
      split at p
      · rename_i n e
        exact ⟨_, n, rfl, lenD_ok R rx e, p.here R (.int _)⟩
      · exact p.elim
  · exact p.elim
def gAbs : GF := fun ds h => match ds with
  | [.int i] => some (.int (if i < 0 then -i else i), h)
  | _ => none
theorem fd_abs : FnD X (.builtin "abs") gAbs := by
  refine ⟨_, call_abs, fun ρ h H ds vs Q R rs p => ?_⟩
  unfold gAbs at p
  split at p
  · rename_i i
    cases rs with
    | cons rx rn =>
      cases rn
      cases rx
      exact ⟨i, rfl, p.here R (.int _)⟩
  · exact p.elim
def gInt : GF := fun ds h => match ds with
  | [.int i] => some (.int i, h)
  | [.bl b] => some (.int (if b = true then 1 else 0), h)
  | _ => none
theorem fd_int : FnD X (.type "int") gInt := by
  refine ⟨_, call_int1, fun ρ h H ds vs Q R rs p => ?_⟩
  unfold gInt at p
  split at p
  · rename_i i
    cases rs with
    | cons rx rn =>
      cases rn
      cases rx
      exact .inl ⟨i, rfl, p.here R (.int _)⟩
  · rename_i i
    cases rs with
    | cons rx rn =>
      cases rn
      cases rx
      exact .inr ⟨i, rfl, p.here R (.int _)⟩
  · exact p.elim
def gStr : GF := fun ds h => match ds with
  | [.int i] => if i.natAbs.log2 < 1920 then some (.str (toString i), h) else none
  | _ => none
theorem fd_str : FnD X (.type "str") gStr := by
  refine ⟨_, call_str_int, fun ρ h H ds vs Q R rs p => ?_⟩
  unfold gStr at p
  split at p
  · rename_i i
    cases rs with
    | cons rx rn =>
      cases rn
      cases rx
      split at p
      · rename_i c
        exact ⟨i, rfl, c, p.here R (.str _)⟩
      · exact p.elim
  · exact p.elim
def gMin2 : GF := fun ds h => match ds with
  | [.int i, .int j] => some (.int (if j < i then j else i), h)
  | _ => none
def gMax2 : GF := fun ds h => match ds with
  | [.int i, .int j] => some (.int (if j > i then j else i), h)
  | _ => none
theorem fd_min2 (hc : X.calm = true) : FnD X (.builtin "min") gMin2 := by
  refine ⟨_, call_min2 hc, fun ρ h H ds vs Q R rs p => ?_⟩
  unfold gMin2 at p
  split at p
  · rename_i i j
    cases rs with
    | cons rx rn =>
      cases rn with
      | cons ry rn =>
        cases rn
        cases rx
        cases ry
        exact ⟨i, j, rfl, p.here R (.int _)⟩
  · exact p.elim
theorem fd_max2 (hc : X.calm = true) : FnD X (.builtin "max") gMax2 := by
  refine ⟨_, call_max2 hc, fun ρ h H ds vs Q R rs p => ?_⟩
  unfold gMax2 at p
  split at p
  · rename_i i j
    cases rs with
    | cons rx rn =>
      cases rn with
      | cons ry rn =>
        cases rn
        cases rx
        cases ry
        exact ⟨i, j, rfl, p.here R (.int _)⟩
  · exact p.elim
def gGcd : GF := fun ds h => match ds with
  | [.int i, .int j] => some (.int ((Nat.gcd i.natAbs j.natAbs : Nat) : Int), h)
  | _ => none
theorem fd_gcd : FnD X (.builtin "math.gcd") gGcd := by
  refine ⟨_, cr_gcd, fun ρ h H ds vs Q R rs p => ?_⟩
  unfold gGcd at p
  split at p
  · rename_i i j
    cases rs with
    | cons rx rn =>
      cases rn with
      | cons ry rn =>
        cases rn
        cases rx
        cases ry
        exact ⟨i, j, rfl, p.here R (.int _)⟩
  · exact p.elim
/-! ### isinstance -/
inductive Ty where | non | bool | int | str | tup | lst | dct
  deriving DecidableEq
def Ty.name : Ty → String
  | .non => "NoneType" | .bool => "bool" | .int => "int" | .str => "str" | .tup => "tuple" | .lst => "list" | .dct => "dict"
def tyD (x : D) (h : Hm) : Option Ty := match x with
  | .non => some .non
  | .bl _ => some .bool
  | .int _ => some .int
  | .str _ => some .str
  | .tup _ => some .tup
  | .ref a => match h[a]? with
    | some (.lst _) => some .lst
    | some (.rol _) => some .lst
    | none => none
def isiT (a b : Ty) : Bool := match a, b with
  | .bool, .int => true
  | a, b => decide (a = b)
theorem kit_isi (a b : Ty) : kitB a.name b.name = some (isiT a b) := by
  cases a <;> cases b <;> decide +kernel
theorem tyD_ok {K : PySem.W.Frag} {x : D} {v : V} {t : Ty} (R : Rep K H ρ h) (r : DR K H ρ h.length x v) (e : tyD x h = some t) : TyX K H v (.type t.name) := by
  cases r with
  | non => cases e; exact .base .non
  | bl b => cases e; exact .base (.bl b)
  | int i => cases e; exact .base (.int i)
  | str x => cases e; exact .base (.str x)
  | tup s rs =>
    cases e
    rcases s with (s | ⟨o, s⟩) | ⟨o, its, n, s, c, _⟩
    · exact .base (.tup s)
    · exact .fTuple s
    · exact .kTuple s c
  | ref hi =>
    rename_i i
    have q : (match h[i]? with
      | some (O.lst _) => some Ty.lst
      | some (O.rol _) => some Ty.lst
      | none => none) = some t := e
    split at q
    · rename_i ds z
      obtain ⟨xs, s, rs⟩ := R.obj i _ z
      cases q
      exact .base (.lst s)
    · rename_i ds z
      obtain ⟨xs, s, rs⟩ := R.obj i _ z
      cases q
      rcases s with ⟨o, s⟩ | ⟨o, its, n, s, c, _⟩
      · exact .base (.frz s)
      · exact .kList s c
    · cases q
def mIsi (t : Ty) (ma : ME) : ME := fun fr h => (ma fr h).bind fun x h1 => match tyD x h1 with
  | some a => .ok (.bl (isiT a t)) h1
  | none => .stuck
theorem pd_isi {e : Expr} {T : Str} {p1 p2 pos : Pos} {m : ME} (t : Ty) (ha : PD X W e m) (hm : X.mg "isinstance" = none) (hv : bootBuiltins "isinstance" = some (.builtin "isinstance")) (hmT : X.mg T = none) (hvT : bootBuiltins T = some (.type t.name)) (hg : Gl X "isinstance" := by rfl) (hgT : Gl X T := by rfl) (hnT : T ≠ "__name__" := by decide) (hdT : (T == ("__debug__" : Str)) = false := by decide)
    (he : starEach (e :: [.Name T p2]) X.env = (false, eval e X.env) :: starEach [.Name T p2] X.env := by rfl) (hpl : (backTo pos (starEach [Expr.Name T p2] X.env)).any (·.1) = false := by rfl)
    (he2 : starEach [.Name T p2] X.env = (false, eval (.Name T p2) X.env) :: starEach [] X.env := by rfl) :
    PD X W (.Call (.Name "isinstance" p1) [e, .Name T p2] [] pos) (mIsi t m) := by
  refine ⟨pe_imp (pe_callB call_isi hg hm hv (pa_cons ha.run (pa_cons (pe_bltn (v := .ty t.name) hgT hmT hvT rfl hnT hdT) pa_nil he2) he) (by decide) (by decide) he hpl) fun σ H Q ⟨ρ, fr, h, R, f, p⟩ => ⟨ρ, fr, h, R, f, p.bind fun x h1 ρ1 v H1 _ u1 R1 rx p1 => ?_⟩⟩
  split at p1
  · rename_i a e
    exact ⟨_, _, _, _, _, rfl, .ty _, tyD_ok R1 rx e, kit_ty (kit_isi a t), p1 ρ1 _ H1 .refl R1 (.bl _)⟩
  · exact p1.elim
/-! ### comparisons as tests -/
def blT (m : ME) : MT := fun fr h => (m fr h).bind fun x h1 => match x with
  | .bl b => .ok b h1
  | _ => .stuck
theorem tTest_of {m : ME} {t : TE} (ht : ∀ σ H (Q : VK), tG X.K X.mg W (rD X.K) m σ H Q → t σ H Q) {σ : L2.St} {H : Hp} {Q : Bool → Hp → Prop} (p : tG X.K X.mg W rB (blT m) σ H Q) : tTest t σ H Q := by
  obtain ⟨ρ, fr, h, R, f, p⟩ := p
  refine ht σ H _ ⟨ρ, fr, h, R, f, p.bind fun x h1 ρ1 v H1 _ u1 R1 rx p1 => ?_⟩
  cases rx with
  | bl k => exact ⟨k, rfl, p1 ρ1 k H1 .refl R1 rfl⟩
  | non => exact p1.elim
  | int i => exact p1.elim
  | str x => exact p1.elim
  | tup a b => exact p1.elim
  | ref a => exact p1.elim
theorem pdt_cmp {op : CmpOp} {a b : Expr} {pos : Pos} {g : G2} {ma mb : ME} (o : OpD X (compareOp op) g) (ha : PD X W a ma) (hb : PD X W b mb) (hm : behindInMarks op b = false := by first | exact nomark _ | rfl) : PDt X W (.Compare a [op] [b] pos) (blT (mBin g ma mb)) := by
  obtain ⟨r, ho, hr⟩ := o.ex
  exact ⟨pt_imp (pt_cmpR ho ha.run hb.run hm) fun σ H Q p => tTest_of (fun σ H Q t => tOp_of hr t) p⟩
theorem tChain_of {r r' : R2} {g g' : G2} {ma mb mc : ME} (hr : ∀ (ρ : Nat → Addr) (h : Hm) (H : Hp) (x y : D) (v w : V) (Q : VK), Rep X.K H ρ h → DR X.K H ρ h.length x v → DR X.K H ρ h.length y w → PostO X.K (rD X.K) ρ h.length H Q (g x y h) → r v w H Q)
    (hr' : ∀ (ρ : Nat → Addr) (h : Hm) (H : Hp) (x y : D) (v w : V) (Q : VK), Rep X.K H ρ h → DR X.K H ρ h.length x v → DR X.K H ρ h.length y w → PostO X.K (rD X.K) ρ h.length H Q (g' x y h) → r' v w H Q)
    (σ : L2.St) (H : Hp) (Q : VK) (t : tG X.K X.mg W (rD X.K) (mChain g g' ma mb mc) σ H Q) : tChain r r' (tG X.K X.mg W (rD X.K) ma) (tG X.K X.mg W (rD X.K) mb) (tG X.K X.mg W (rD X.K) mc) σ H Q := by
  obtain ⟨ρ, fr, h, R, f, p⟩ := t
  refine ⟨ρ, fr, h, R, f, p.bind fun x h1 ρ1 v H1 _ u1 R1 rx p1 => ⟨ρ1, fr, h1, R1, f.up u1, p1.bind fun y h2 ρ2 w H2 _ u2 R2 ry p2 => hr ρ2 h2 H2 x y v w _ R2 (rx.up u2) ry (PostG.opt (mg := X.mg) (W := W) (σ := σ) (p2.bind fun z h3 ρ3 q H3 _ u3 R3 rz p3 => ?_))⟩⟩
  cases rz with
  | bl k =>
    refine ⟨k, rfl, ?_⟩
    cases k with
    | true =>
      rw [if_pos rfl]
      exact ⟨ρ3, fr, h3, R3, (f.up u1).up (u2.trans u3), PostG.bind p3 fun q h4 ρ4 w' H4 _ u4 R4 rw' p4 => hr' ρ4 h4 H4 y q w w' Q R4 (ry.up (u3.trans u4)) rw' p4.opt⟩
    | false =>
      rw [if_neg Bool.false_ne_true]
      exact p3 ρ3 _ _ .refl R3 (.bl false)
  | non => exact p3.elim
  | int i => exact p3.elim
  | str x => exact p3.elim
  | tup a b => exact p3.elim
  | ref a => exact p3.elim
theorem pdt_chain {op op' : CmpOp} {a b c : Expr} {pos : Pos} {g g' : G2} {ma mb mc : ME} (o : OpD X (compareOp op) g) (o' : OpD X (compareOp op') g') (ha : PD X W a ma) (hb : PD X W b mb) (hc : PD X W c mc)
    (hm : lastMarks [op, op'] [b, c] = false := by with_unfolding_all rfl) : PDt X W (.Compare a [op, op'] [b, c] pos) (blT (mChain g g' ma mb mc)) := by
  obtain ⟨r, ho, hr⟩ := o.ex
  obtain ⟨r', ho', hr'⟩ := o'.ex
  exact ⟨pt_imp (pt_chain ho ho' ha.run hb.run hc.run hm) fun σ H Q p => tTest_of (tChain_of hr hr') p⟩
end
end FM

set_option Elab.async false
set_option linter.all false
set_option maxRecDepth 100000
set_option maxHeartbeats 4000000
/-! Statements, loops, comprehensions, exceptions, defs. -/
namespace FM
open PySem PySem.Spec PyProof.Rows L2
inductive RS where
  | nx (fr : Fr) (h : Hm) | rt (d : D) (h : Hm) | bk (fr : Fr) (h : Hm) | ct (fr : Fr) (h : Hm) | exc (x : Exc) (fr : Fr) (h : Hm) | stuck
abbrev MS := Fr → Hm → RS
def PostS (K : PySem.W.Frag) (mg : Str → Option Value) (W : WX) (ρ : Nat → Addr) (n : Nat) (H : Hp) (E : Ends) : RS → Prop
  | .nx fr' h' => ∀ ρ' σ' H', Up K ρ n H ρ' h'.length H' → Rep K H' ρ' h' → FR K H' ρ' h'.length fr' σ' → E.nx σ' H'
  | .rt d h' => ∀ ρ' v H', Up K ρ n H ρ' h'.length H' → Rep K H' ρ' h' → DR K H' ρ' h'.length d v → E.rt v H'
  | .bk fr' h' => ∀ ρ' σ' H', Up K ρ n H ρ' h'.length H' → Rep K H' ρ' h' → FR K H' ρ' h'.length fr' σ' → E.bk σ' H'
  | .ct fr' h' => ∀ ρ' σ' H', Up K ρ n H ρ' h'.length H' → Rep K H' ρ' h' → FR K H' ρ' h'.length fr' σ' → E.ct σ' H'
  | .exc x fr' h' => ∀ ρ' σ' cls dd H', Up K ρ n H ρ' h'.length H' → Rep K H' ρ' h' → FR K H' ρ' h'.length fr' σ' → XR K mg H' ρ' h'.length x cls dd → W cls dd σ' H'
  | .stuck => False
def tS (K : PySem.W.Frag) (mg : Str → Option Value) (W : WX) (m : MS) : TS := fun E σ H => ∃ ρ fr h, Rep K H ρ h ∧ FR K H ρ h.length fr σ ∧ PostS K mg W ρ h.length H E (m fr h)
structure PDs (X : Cx) (W : WX) (st : Stmt) (m : MS) : Prop where
  run : PS X st (tS X.K X.mg W m)
structure PDss (X : Cx) (W : WX) (sts : List Stmt) (m : MS) : Prop where
  run : PSs X sts (tS X.K X.mg W m)
def Res.toS {α : Type} (r : Res α) (fr : Fr) (f : α → Hm → RS) : RS := match r with
  | .ok a h => f a h
  | .exc x h => .exc x fr h
  | .stuck => .stuck
def RS.bind (r : RS) (f : MS) : RS := match r with
  | .nx fr h => f fr h
  | .rt d h => .rt d h
  | .bk fr h => .bk fr h
  | .ct fr h => .ct fr h
  | .exc x fr h => .exc x fr h
  | .stuck => .stuck
section
variable {α β : Type} {K : PySem.W.Frag} {mg : Str → Option Value} {W : WX} {R : Rl α β} {σ : L2.St} {ρ ρ1 : Nat → Addr} {n n1 : Nat} {H H1 : Hp} {Q : β → Hp → Prop} {E : Ends} {fr : Fr}
theorem PostS.up {r : RS} (p : PostS K mg W ρ n H E r) (u : Up K ρ n H ρ1 n1 H1) : PostS K mg W ρ1 n1 H1 E r := by
  cases r with
  | nx fr h => exact fun ρ' σ' H' u' => p ρ' σ' H' (u.trans u')
  | rt d h => exact fun ρ' σ' H' u' => p ρ' σ' H' (u.trans u')
  | bk fr h => exact fun ρ' σ' H' u' => p ρ' σ' H' (u.trans u')
  | ct fr h => exact fun ρ' σ' H' u' => p ρ' σ' H' (u.trans u')
  | exc x fr h => exact fun ρ' σ' c dd H' u' => p ρ' σ' c dd H' (u.trans u')
  | stuck => exact p
theorem PostS.toG {r : Res α} {f : α → Hm → RS} (p : PostS K mg W ρ n H E (r.toS fr f)) (F : FR K H ρ n fr σ)
    (h : ∀ d h1 ρ1 v H1, r = .ok d h1 → Up K ρ n H ρ1 h1.length H1 → Rep K H1 ρ1 h1 → R H1 ρ1 h1.length d v → PostS K mg W ρ1 h1.length H1 E (f d h1) → Q v H1) : PostG K mg W R σ ρ n H Q r := by
  cases r with
  | ok d h' => exact fun ρ' v H' u rp rd => h d h' ρ' v H' rfl u rp rd (PostS.up (r := f d h') p u)
  | exc x h' => exact fun ρ' c dd H' u rp xr => p ρ' σ c dd H' u rp (F.up u) xr
  | stuck => exact p
theorem PostS.seq {r : RS} {f : MS} (p : PostS K mg W ρ n H E (r.bind f)) : PostS K mg W ρ n H { E with nx := tS K mg W f E } r := by
  cases r with
  | nx fr h => exact fun ρ' σ' H' u rp fr' => ⟨ρ', fr, h, rp, fr', PostS.up (r := f fr h) p u⟩
  | rt d h => exact p
  | bk fr h => exact p
  | ct fr h => exact p
  | exc x fr h => exact p
  | stuck => exact p
end
section
variable {X : Cx} {W : WX}
theorem ps_imp {st : Stmt} {t t' : TS} (h : PS X st t) (f : ∀ E σ H, t' E σ H → t E σ H) : PS X st t' := ⟨fun pins s σ H E I q => h.run pins s σ H E I (f E σ H q)⟩
theorem pss_imp {st : List Stmt} {t t' : TS} (h : PSs X st t) (f : ∀ E σ H, t' E σ H → t E σ H) : PSs X st t' := ⟨fun pins s σ H E I q => h.run pins s σ H E I (f E σ H q)⟩
def mNext : MS := fun fr h => .nx fr h
def mSeq (m1 m2 : MS) : MS := fun fr h => (m1 fr h).bind m2
theorem pdss_nil : PDss X W [] mNext := ⟨pss_imp pss_nil fun E σ H ⟨ρ, fr, h, R, f, p⟩ => p ρ σ H .refl R f⟩
theorem pdss_cons {st : Stmt} {sts : List Stmt} {m1 m2 : MS} (h1 : PDs X W st m1) (h2 : PDss X W sts m2) : PDss X W (st :: sts) (mSeq m1 m2) :=
  ⟨pss_imp (pss_cons h1.run h2.run) fun E σ H ⟨ρ, fr, h, R, f, p⟩ => ⟨ρ, fr, h, R, f, p.seq⟩⟩
theorem pdss_one {st : Stmt} {m : MS} (h : PDs X W st m) : PDss X W [st] m := ⟨pss_one h.run⟩
def mBreak : MS := fun fr h => .bk fr h
def mCont : MS := fun fr h => .ct fr h
theorem pds_pass {pos : Pos} : PDs X W (.Pass pos) mNext := ⟨ps_imp ps_pass fun E σ H ⟨ρ, fr, h, R, f, p⟩ => p ρ σ H .refl R f⟩
theorem pds_break {pos : Pos} : PDs X W (.Break pos) mBreak := ⟨ps_imp ps_break fun E σ H ⟨ρ, fr, h, R, f, p⟩ => p ρ σ H .refl R f⟩
theorem pds_continue {pos : Pos} : PDs X W (.Continue pos) mCont := ⟨ps_imp ps_continue fun E σ H ⟨ρ, fr, h, R, f, p⟩ => p ρ σ H .refl R f⟩
def mExpr (m : ME) : MS := fun fr h => (m fr h).toS fr fun _ h1 => .nx fr h1
def mRet (m : ME) : MS := fun fr h => (m fr h).toS fr fun d h1 => .rt d h1
def mRetN : MS := fun _ h => .rt .non h
def mIfS (t : MT) (a b : MS) : MS := fun fr h => (t fr h).toS fr fun c h1 => if c = true then a fr h1 else b fr h1
theorem pds_expr {e : Expr} {pos : Pos} {m : ME} (he : PD X W e m) (hs : swapsWith e none pos.line X.env = pure false := by rfl) : PDs X W (.Expr e pos) (mExpr m) :=
  ⟨ps_imp (ps_expr he.run hs) fun E σ H ⟨ρ, fr, h, R, f, p⟩ => ⟨ρ, fr, h, R, f, p.toG f fun d h1 ρ1 v H1 _ u1 R1 _ p1 => p1 ρ1 σ H1 .refl R1 (f.up u1)⟩⟩
theorem pds_ret {e : Expr} {pos : Pos} {m : ME} (he : PD X W e m) : PDs X W (.Return (some e) pos) (mRet m) :=
  ⟨ps_imp (ps_ret he.run) fun E σ H ⟨ρ, fr, h, R, f, p⟩ => ⟨ρ, fr, h, R, f, p.toG f fun d h1 ρ1 v H1 _ u1 R1 r p1 => p1 ρ1 v H1 .refl R1 r⟩⟩
theorem pds_retN {pos : Pos} : PDs X W (.Return none pos) mRetN := ⟨ps_imp ps_retN fun E σ H ⟨ρ, fr, h, R, f, p⟩ => p ρ .non H .refl R .non⟩
theorem pds_if {c : Expr} {a b : List Stmt} {pos : Pos} {t : MT} {ma mb : MS} (hc : PDt X W c t) (ha : PDss X W a ma) (hb : PDss X W b mb) : PDs X W (.If c a b pos) (mIfS t ma mb) :=
  ⟨ps_imp (ps_if hc.run ha.run hb.run) fun E σ H ⟨ρ, fr, h, R, f, p⟩ => ⟨ρ, fr, h, R, f, p.toG f fun d h1 ρ1 v H1 _ u1 R1 r p1 => by
    cases r
    cases d with
    | true => exact ⟨ρ1, fr, h1, R1, f.up u1, p1⟩
    | false => exact ⟨ρ1, fr, h1, R1, f.up u1, p1⟩⟩⟩

/-! ### targets -/
abbrev MG := D → Fr → Hm → Option (Fr × Hm)
abbrev MGs := List D → Fr → Hm → Option (Fr × Hm)
/-- slots outside S are as they were -/
def Chg (S : List Nat) (σ σ' : L2.St) : Prop := σ'.length = σ.length ∧ ∀ j, j ∉ S → σ'[j]? = σ[j]?
def PostT (K : PySem.W.Frag) (S : List Nat) (σ : L2.St) (ρ : Nat → Addr) (n : Nat) (H : Hp) (Q : L2.St → Hp → Prop) : Option (Fr × Hm) → Prop
  | some (fr', h') => ∀ ρ' σ' H', Up K ρ n H ρ' h'.length H' → Rep K H' ρ' h' → FR K H' ρ' h'.length fr' σ' → Chg S σ σ' → Q σ' H'
  | none => False
def tT (K : PySem.W.Frag) (S : List Nat) (g : MG) : TG := fun v σ H Q => ∃ ρ fr h d, Rep K H ρ h ∧ FR K H ρ h.length fr σ ∧ DR K H ρ h.length d v ∧ PostT K S σ ρ h.length H Q (g d fr h)
def tTs (K : PySem.W.Frag) (S : List Nat) (g : MGs) : TGs := fun v σ H Q => ∃ ρ fr h d, Rep K H ρ h ∧ FR K H ρ h.length fr σ ∧ DRs K H ρ h.length d v ∧ PostT K S σ ρ h.length H Q (g d fr h)
structure PDg (X : Cx) (S : List Nat) (t : Expr) (g : MG) : Prop where
  run : PG X t (tT X.K S g)
structure PDgs (X : Cx) (S : List Nat) (t : List Expr) (g : MGs) : Prop where
  run : PGs X t (tTs X.K S g)
theorem Chg.refl {S : List Nat} {σ : L2.St} : Chg S σ σ := ⟨rfl, fun _ _ => rfl⟩
theorem Chg.trans {S : List Nat} {a b c : L2.St} (x : Chg S a b) (y : Chg S b c) : Chg S a c := ⟨y.1.trans x.1, fun j hj => (y.2 j hj).trans (x.2 j hj)⟩
theorem Chg.mono {S T : List Nat} {a b : L2.St} (x : Chg S a b) (h : ∀ j ∈ S, j ∈ T) : Chg T a b := ⟨x.1, fun j hj => x.2 j fun z => hj (h j z)⟩
theorem Chg.set {i : Nat} {σ : L2.St} {o : Option V} : Chg [i] σ (σ.set i o) := ⟨List.length_set, fun j hj => List.getElem?_set_ne fun e => hj (by rw [← e]; exact List.mem_singleton_self _)⟩
theorem pg_imp {t : Expr} {g g' : TG} (h : PG X t g) (f : ∀ v σ H Q, g' v σ H Q → g v σ H Q) : PG X t g' := ⟨fun pins s σ H v u Q I r q => h.run pins s σ H v u Q I r (f v σ H Q q)⟩
theorem pgs_imp {t : List Expr} {g g' : TGs} (h : PGs X t g) (f : ∀ v σ H Q, g' v σ H Q → g v σ H Q) : PGs X t g' := ⟨fun pins s σ H v u Q I r q => h.run pins s σ H v u Q I r (f v σ H Q q)⟩
def mgName (i : Nat) : MG := fun d fr h => some (fr.set i (some d), h)
theorem pdg_name (i : Nat) {x : Str} {pos : Pos} (hN : X.N.Nodup) (hi : X.N[i]? = some x := by rfl) (hx : Loc X.env.scope x := by first | exact .inl rfl | exact .inr rfl) (hf : X.fn x = true ∨ X.env.scope.names.lookup x = some .local := by first | exact .inl rfl | exact .inr rfl) : PDg X [i] (.Name x pos) (mgName i) :=
  ⟨pg_imp (pg_name hN hi hx hf) fun v σ H Q ⟨ρ, fr, h, d, R, f, r, p⟩ => p ρ _ H .refl R (f.set r) Chg.set⟩
def mgNil : MGs := fun ds fr h => match ds with
  | [] => some (fr, h)
  | _ => none
def mgCons (g : MG) (gs : MGs) : MGs := fun ds fr h => match ds with
  | [] => none
  | d :: r => match g d fr h with
    | some (fr1, h1) => gs r fr1 h1
    | none => none
theorem pdgs_nil : PDgs X [] [] mgNil := ⟨pgs_imp pgs_nil fun v σ H Q ⟨ρ, fr, h, d, R, f, r, p⟩ => by
  cases r with
  | nil => exact ⟨rfl, p ρ σ H .refl R f .refl⟩
  | cons a b => exact p.elim⟩
theorem pdgs_cons {e : Expr} {es : List Expr} {S T : List Nat} {g : MG} {gs : MGs} (h1 : PDg X S e g) (h2 : PDgs X T es gs)
    (hs : (assignEach (e :: es) X.env).map (·.2) = assign e X.env :: (assignEach es X.env).map (·.2) := by rfl) : PDgs X (S ++ T) (e :: es) (mgCons g gs) :=
  ⟨pgs_imp (pgs_cons h1.run h2.run hs) fun v σ H Q ⟨ρ, fr, h, d, R, f, r, p⟩ => by
    cases r with
    | nil => exact p.elim
    | @cons d0 ds v0 vs a b =>
      refine ⟨_, _, rfl, ρ, fr, h, d0, R, f, a, ?_⟩
      simp only [mgCons] at p
      cases e : g d0 fr h with
      | none => rw [e] at p; exact p.elim
      | some q =>
        obtain ⟨fr1, h1⟩ := q
        rw [e] at p
        refine fun ρ1 σ1 H1 u1 R1 f1 c1 => ⟨ρ1, fr1, h1, ds, R1, f1, b.up u1, ?_⟩
        simp only at p
        cases e2 : gs ds fr1 h1 with
        | none => rw [e2] at p; exact p.elim
        | some q2 =>
          obtain ⟨fr2, h2⟩ := q2
          rw [e2] at p
          exact fun ρ2 σ2 H2 u2 R2 f2 c2 => p ρ2 σ2 H2 (u1.trans u2) R2 f2 ((c1.mono fun j hj => List.mem_append_left _ hj).trans (c2.mono fun j hj => List.mem_append_right _ hj))⟩
def mgTup (n : Nat) (gs : MGs) : MG := fun d fr h => match d with
  | .tup ds => if ds.length = n then gs ds fr h else none
  | _ => none
theorem pdg_tup {es : List Expr} {k n : Nat} {pos : Pos} {S : List Nat} {gs : MGs} (hc : X.calm = true) (h : PDgs X S es gs) (hn : (assignEach es X.env).length = n := by rfl) (hst : (assignEach es X.env).findIdx? (·.1) = none := by rfl) :
    PDg X S (.Tuple es k pos) (mgTup n gs) :=
  ⟨pg_imp (pg_tup hc h.run hn hst) fun v σ H Q ⟨ρ, fr, h, d, R, f, r, p⟩ => by
    cases r with
    | @tup a xs ds s rs =>
      simp only [mgTup] at p
      by_cases hl : ds.length = n
      · rw [if_pos hl] at p
        exact ⟨a, xs, rfl, s, by rw [← rs.length]; exact hl, ρ, fr, h, ds, R, f, rs, p⟩
      · rw [if_neg hl] at p
        exact p.elim
    | non => exact p.elim
    | bl b => exact p.elim
    | int b => exact p.elim
    | str b => exact p.elim
    | ref b => exact p.elim⟩
/-- o[i] = v -/
structure SetD (X : Cx) (g : D → D → D → Hm → Option Hm) : Prop where
  ex : ∃ t : TSet, PSet X t ∧ ∀ (ρ : Nat → Addr) (h : Hm) (H : Hp) (o i d : D) (vo vi v : V) (Q : Hp → Prop), Rep X.K H ρ h → DR X.K H ρ h.length o vo → DR X.K H ρ h.length i vi → DR X.K H ρ h.length d v →
    (match g o i d h with | some h' => ∀ ρ' H', Up X.K ρ h.length H ρ' h'.length H' → Rep X.K H' ρ' h' → Q H' | none => False) → t vo vi v H Q
def mgSub (g : D → D → D → Hm → Option Hm) (mo mi : ME) : MG := fun d fr h => match mo fr h with
  | .ok o h1 => match mi fr h1 with
    | .ok i h2 => match g o i d h2 with
      | some h3 => some (fr, h3)
      | none => none
    | _ => none
  | _ => none
theorem pdg_sub {o i : Expr} {pos : Pos} {g : D → D → D → Hm → Option Hm} {mo mi : ME} (sd : SetD X g) (ho : PD X (fun _ _ _ _ => False) o mo) (hi : PD X (fun _ _ _ _ => False) i mi) (ha : ∀ v, assign (.Subscript o i pos) X.env v = (do
      let ov ← holding [v] (eval o X.env)
      let iv ← holding [v, ov] (eval i X.env)
      standAt pos
      holding [v, ov, iv] (setItem ov iv v)
      release [v, ov, iv] []) := by intro _; rfl) : PDg X [] (.Subscript o i pos) (mgSub g mo mi) := by
  obtain ⟨t, hs, ht⟩ := sd.ex
  refine ⟨pg_imp (pg_sub ho.run hi.run hs ha) fun v σ H Q ⟨ρ, fr, h, d, R, f, r, p⟩ => ⟨ρ, fr, h, R, f, ?_⟩⟩
  simp only [mgSub] at p
  cases e : mo fr h with
  | stuck => rw [e] at p; exact p.elim
  | exc x h1 => rw [e] at p; exact p.elim
  | ok od h1 =>
    rw [e] at p
    simp only at p
    refine fun ρ1 ov H1 u1 R1 ro => ⟨ρ1, fr, h1, R1, f.up u1, ?_⟩
    cases e2 : mi fr h1 with
    | stuck => rw [e2] at p; exact p.elim
    | exc x h1 => rw [e2] at p; exact p.elim
    | ok idx h2 =>
      rw [e2] at p
      simp only at p
      refine fun ρ2 iv H2 u2 R2 ri => ht ρ2 h2 H2 od idx d ov iv v _ R2 (ro.up u2) ri (r.up (u1.trans u2)) ?_
      cases e3 : g od idx d h2 with
      | none => rw [e3] at p; exact p.elim
      | some h3 =>
        rw [e3] at p
        exact fun ρ3 H3 u3 R3 => p ρ3 σ H3 ((u1.trans u2).trans u3) R3 (((f.up u1).up u2).up u3) .refl
def setD : D → D → D → Hm → Option Hm := fun o i d h => match o, i with
  | .ref a, .int k => match h[a]? with
    | some (.lst ds) => match ixN ds.length k with
      | some j => some (h.set a (O.lst (ds.set j d)))
      | none => none
    | _ => none
  | _, _ => none
theorem set_ok : SetD X setD := by
  refine ⟨_, set_list, fun ρ h H o i d vo vi v Q R ro ri r p => ?_⟩
  cases ro with
  | ref hi =>
    rename_i a
    cases ri with
    | int k =>
      simp only [setD] at p
      cases e : h[a]? with
      | none => rw [e] at p; exact p.elim
      | some ob =>
        cases ob with
        | rol ds => rw [e] at p; exact p.elim
        | lst ds =>
          rw [e] at p
          simp only at p
          obtain ⟨xs, s, rs⟩ := R.obj a _ e
          cases ej : ixN ds.length k with
          | none => rw [ej] at p; exact p.elim
          | some j =>
            rw [ej] at p
            obtain ⟨u, R'⟩ := put_lst R e (rs.set r j)
            exact ⟨_, _, _, j, rfl, rfl, s, by rw [← rs.length]; exact ej, p ρ _ u R'⟩
    | non => exact p.elim
    | bl b => exact p.elim
    | str b => exact p.elim
    | tup a b => exact p.elim
    | ref b => exact p.elim
  | non => exact p.elim
  | bl b => exact p.elim
  | int b => exact p.elim
  | str b => exact p.elim
  | tup a b => exact p.elim
/-! ### assignments -/
def mAsg (m : ME) (g : MG) : MS := fun fr h => (m fr h).toS fr fun d h1 => match g d fr h1 with
  | some (fr', h') => .nx fr' h'
  | none => .stuck
theorem tAsg_of {S : List Nat} {m : ME} {g : MG} {E : Ends} {σ : L2.St} {H : Hp} (t : tS X.K X.mg W (mAsg m g) E σ H) : tAsg (tG X.K X.mg W (rD X.K) m) (tT X.K S g) E σ H := by
  obtain ⟨ρ, fr, h, R, f, p⟩ := t
  refine ⟨ρ, fr, h, R, f, p.toG f fun d h1 ρ1 v H1 _ u1 R1 r p1 => ⟨ρ1, fr, h1, d, R1, f.up u1, r, ?_⟩⟩
  cases e : g d fr h1 with
  | none => rw [e] at p1; exact p1.elim
  | some q =>
    obtain ⟨fr', h'⟩ := q
    rw [e] at p1
    exact fun ρ2 σ2 H2 u2 R2 f2 _ => p1 ρ2 σ2 H2 u2 R2 f2
theorem pds_asg {tg e : Expr} {pos : Pos} {S : List Nat} {m : ME} {g : MG} (he : PD X W e m) (hg : PDg X S tg g) (hs : swapsWithSole [tg] e pos.line X.env = pure false := by rfl) (hw : swappedStores [tg] e X.env = pure none := by rfl)
    (h1 : (assignEach [tg] X.env).map (·.2) = [assign tg X.env] := by rfl) : PDs X W (.Assign [tg] e pos) (mAsg m g) :=
  ⟨ps_imp (ps_asg he.run hg.run hs hw h1) fun E σ H t => tAsg_of t⟩
theorem pds_set (i : Nat) {x : Str} {e : Expr} {pos pos' : Pos} {m : ME} (hN : X.N.Nodup) (he : PD X W e m) (hi : X.N[i]? = some x := by rfl) (hx : Loc X.env.scope x := by first | exact .inl rfl | exact .inr rfl) (hs : swapsWith e (some (.Name x pos')) pos.line X.env = pure false := by rfl)
    (hf : X.fn x = true ∨ X.env.scope.names.lookup x = some .local := by first | exact .inl rfl | exact .inr rfl) : PDs X W (.Assign [.Name x pos'] e pos) (mAsg m (mgName i)) := by
  refine ⟨ps_imp (ps_set hN hi hx he.run hs hf) fun E σ H t => ?_⟩
  obtain ⟨ρ, fr, h, R, f, p⟩ := t
  exact ⟨ρ, fr, h, R, f, p.toG f fun d h1 ρ1 v H1 _ u1 R1 r p1 => p1 ρ1 _ H1 .refl R1 ((f.up u1).set r)⟩
/-- a, b = x, y -/
def mPar (i j : Nat) (ms : MA) : MS := fun fr h => (ms fr h).toS fr fun ds h1 => match ds with
  | [a, b] => .nx ((fr.set i (some a)).set j (some b)) h1
  | _ => .stuck
theorem pds_par (i j : Nat) {x y : Str} {a b : Expr} {ms : MA} {px py pt pos : Pos} {kt k2 : Nat} {pt2 : Pos} (hc : X.calm = true) (hN : X.N.Nodup) (ha : PDa X W [a, b] ms) (hi : X.N[i]? = some x := by rfl) (hj : X.N[j]? = some y := by rfl) (hij : i ≠ j := by decide)
    (hx : X.env.scope.names.lookup x = some .local := by rfl) (hy : X.env.scope.names.lookup y = some .local := by rfl)
    (hw : swappedStores [.Tuple [.Name x px, .Name y py] kt pt] (.Tuple [a, b] k2 pt2) X.env = pure (some [x, y]) := by rfl)
    (hs : swapsWithSole [.Tuple [.Name x px, .Name y py] kt pt] (.Tuple [a, b] k2 pt2) pos.line X.env = pure false := by rfl) : PDs X W (.Assign [.Tuple [.Name x px, .Name y py] kt pt] (.Tuple [a, b] k2 pt2) pos) (mPar i j ms) := by
  refine ⟨ps_imp (ps_par hc hN hi hj hij hx hy ha.run hw hs) fun E σ H ⟨ρ, fr, h, R, f, p⟩ => ⟨ρ, fr, h, R, f, p.toG f fun ds h1 ρ1 vs H1 _ u1 R1 rs p1 => ?_⟩⟩
  cases rs with
  | nil => exact p1.elim
  | cons r rs =>
    cases rs with
    | nil => exact p1.elim
    | cons r' rs =>
      cases rs with
      | nil => exact ⟨_, _, rfl, p1 ρ1 _ H1 .refl R1 (((f.up u1).set r).set r')⟩
      | cons _ _ => exact p1.elim
end
end FM

set_option Elab.async false
set_option linter.all false
set_option maxRecDepth 100000
set_option maxHeartbeats 4000000
/-! Loops, comprehensions, exceptions, defs. -/
namespace FM
open PySem PySem.Spec PyProof.Rows L2
/-! ### what is walked -/
structure JOk (K : PySem.W.Frag) (ρ0 : Nat → Addr) (n0 : Nat) (H0 : Hp) (J : It) (items : List D) (guard : Hm → Bool) : Prop where
  go : ∀ (i : Nat) (ρ : Nat → Addr) (h : Hm) (H : Hp), i < items.length → Up K ρ0 n0 H0 ρ h.length H → Rep K H ρ h → guard h = true → J.go i H
  stop : ∀ (ρ : Nat → Addr) (h : Hm) (H : Hp), Up K ρ0 n0 H0 ρ h.length H → Rep K H ρ h → guard h = true → J.stop items.length H
  yld : ∀ (i : Nat) (ρ : Nat → Addr) (h : Hm) (H H' : Hp) (x : V) (d : D), Up K ρ0 n0 H0 ρ h.length H → Rep K H ρ h → guard h = true → items[i]? = some d → J.yld i H x H' →
    Up K ρ h.length H ρ h.length H' ∧ Rep K H' ρ h ∧ DR K H' ρ h.length d x
abbrev MI := Fr → Hm → Res (List D × (Hm → Bool))
abbrev rI (K : PySem.W.Frag) : Rl (List D × (Hm → Bool)) It := fun H ρ n p J => JOk K ρ n H J p.1 p.2
structure PDi (X : Cx) (W : WX) (tg iter : Expr) (m : MI) : Prop where
  run : PI X tg iter (tG X.K X.mg W (rI X.K) m)
mutual
def D.beq : D → D → Bool
  | .non, .non => true
  | .bl a, .bl b => a == b
  | .int a, .int b => a == b
  | .str a, .str b => a == b
  | .tup a, .tup b => D.beqs a b
  | .ref a, .ref b => a == b
  | .non, .bl _ | .non, .int _ | .non, .str _ | .non, .tup _ | .non, .ref _ => false
  | .bl _, .non | .bl _, .int _ | .bl _, .str _ | .bl _, .tup _ | .bl _, .ref _ => false
  | .int _, .non | .int _, .bl _ | .int _, .str _ | .int _, .tup _ | .int _, .ref _ => false
  | .str _, .non | .str _, .bl _ | .str _, .int _ | .str _, .tup _ | .str _, .ref _ => false
  | .tup _, .non | .tup _, .bl _ | .tup _, .int _ | .tup _, .str _ | .tup _, .ref _ => false
  | .ref _, .non | .ref _, .bl _ | .ref _, .int _ | .ref _, .str _ | .ref _, .tup _ => false
def D.beqs : List D → List D → Bool
  | [], [] => true
  | a :: as, b :: bs => D.beq a b && D.beqs as bs
  | [], _ :: _ => false
  | _ :: _, [] => false
end
mutual
theorem D.beq_eq : ∀ (a b : D), D.beq a b = true → a = b := fun a b h => by
  cases a <;> cases b <;> simp only [D.beq, beq_iff_eq, Bool.false_eq_true] at h
  all_goals first
    | rfl
    | exact congrArg _ h
    | exact congrArg _ (D.beqs_eq _ _ h)
theorem D.beqs_eq : ∀ (a b : List D), D.beqs a b = true → a = b := fun a b h => by
  cases a with
  | nil => cases b with
    | nil => rfl
    | cons _ _ => cases h
  | cons x xs => cases b with
    | nil => cases h
    | cons y ys =>
      simp only [D.beqs, Bool.and_eq_true] at h
      rw [D.beq_eq x y h.1, D.beqs_eq xs ys h.2]
end
mutual
theorem D.beq_refl : ∀ (a : D), D.beq a a = true := fun a => by
  cases a <;> simp only [D.beq, beq_self_eq_true]
  exact D.beqs_refl _
theorem D.beqs_refl : ∀ (a : List D), D.beqs a a = true := fun a => by
  cases a with
  | nil => rfl
  | cons x xs => simp only [D.beqs, D.beq_refl x, D.beqs_refl xs, Bool.and_self]
end
section
variable {X : Cx} {W : WX}
theorem pi_imp {tg iter : Expr} {t t' : TI} (h : PI X tg iter t) (f : ∀ σ H R, t' σ H R → t σ H R) : PI X tg iter t' := ⟨fun pins s σ H R I q => h.run pins s σ H R I (f σ H R q)⟩
/-- a list that stays as it is while it is walked -/
def isL (a : Nat) (ds : List D) : Hm → Bool := fun h => match h[a]? with
  | some (.lst es) => D.beqs es ds
  | some (.rol es) => D.beqs es ds
  | none => false
theorem isL_of {a : Nat} {ds : List D} {h : Hm} (e : isL a ds h = true) : h[a]? = some (.lst ds) ∨ h[a]? = some (.rol ds) := by
  unfold isL at e
  split at e
  · rename_i es z
    rw [D.beqs_eq _ _ e] at z
    exact .inl z
  · rename_i es z
    rw [D.beqs_eq _ _ e] at z
    exact .inr z
  · cases e
theorem isL_lst {a : Nat} {ds : List D} {h : Hm} (e : h[a]? = some (.lst ds)) : isL a ds h = true := by
  unfold isL
  rw [e]
  exact D.beqs_refl ds
theorem isL_rol {a : Nat} {ds : List D} {h : Hm} (e : h[a]? = some (.rol ds)) : isL a ds h = true := by
  unfold isL
  rw [e]
  exact D.beqs_refl ds
theorem jok_list {K : PySem.W.Frag} {ρ0 : Nat → Addr} {n0 : Nat} {H0 : Hp} {a : Nat} {ds : List D} (ha : a < n0) : JOk K ρ0 n0 H0 (Itl K (ρ0 a)) ds (isL a ds) := by
  have rd : ∀ {ρ : Nat → Addr} {h : Hm} {H : Hp}, Up K ρ0 n0 H0 ρ h.length H → Rep K H ρ h → isL a ds h = true → ∃ xs, SqL K H (ρ0 a) xs ∧ DRs K H ρ h.length ds xs := fun {ρ h H} u R g => by
    rw [← u.ag a ha]
    exact R.list (isL_of g)
  refine ⟨fun i ρ h H hi u R g => ?_, fun ρ h H u R g => ?_, fun i ρ h H H' x d u R g e y => ?_⟩
  · obtain ⟨xs, s, r⟩ := rd u R g
    have hl : i < xs.length := by rw [← r.length]; exact hi
    exact ⟨xs, xs[i], s, List.getElem?_eq_getElem hl⟩
  · obtain ⟨xs, s, r⟩ := rd u R g
    exact ⟨xs, s, Nat.le_of_eq r.length.symm⟩
  · obtain ⟨xs, s, r⟩ := rd u R g
    obtain ⟨e1, y⟩ := y
    subst e1
    obtain ⟨v, ev, rv⟩ := r.get e
    have ex := y xs s
    rw [ev] at ex
    cases ex
    exact ⟨.refl, R, rv⟩
theorem jok_tup {K : PySem.W.Frag} {ρ0 : Nat → Addr} {n0 : Nat} {H0 : Hp} {a : Addr} {xs : List V} {ds : List D} (s0 : SqT K H0 a xs) (r0 : DRs K H0 ρ0 n0 ds xs) : JOk K ρ0 n0 H0 (Itt K a) ds (fun _ => true) := by
  refine ⟨fun i ρ h H hi u R g => ?_, fun ρ h H u R g => ?_, fun i ρ h H H' x d u R g e y => ?_⟩
  · have hl : i < xs.length := by rw [← r0.length]; exact hi
    exact ⟨xs, xs[i], u.tp _ _ s0, List.getElem?_eq_getElem hl⟩
  · exact ⟨xs, u.tp _ _ s0, Nat.le_of_eq r0.length.symm⟩
  · obtain ⟨e1, y⟩ := y
    subst e1
    obtain ⟨v, ev, rv⟩ := (r0.up u).get e
    have ex := y xs (u.tp _ _ s0)
    rw [ev] at ex
    cases ex
    exact ⟨.refl, R, rv⟩
def mItL (m : ME) : MI := fun fr h => (m fr h).bind fun x h1 => match x with
  | .ref a => match h1[a]? with
    | some (.lst ds) => .ok (ds, isL a ds) h1
    | some (.rol ds) => .ok (ds, isL a ds) h1
    | none => .stuck
  | _ => .stuck
def mItT (m : ME) : MI := fun fr h => (m fr h).bind fun x h1 => match x with
  | .tup ds => .ok (ds, fun _ => true) h1
  | _ => .stuck
theorem pdi_list {l tg : Expr} {m : ME} (hl : PD X W l m) : PDi X W tg l (mItL m) := by
  refine ⟨pi_imp (pi_list hl.run) fun σ H Q ⟨ρ, fr, h, R, f, p⟩ => ⟨ρ, fr, h, R, f, p.bind fun x h1 ρ1 v H1 _ u1 R1 rx p1 => ?_⟩⟩
  cases rx with
  | @ref a ha =>
    simp only at p1
    split at p1
    · rename_i ds z
      obtain ⟨xs, s, rs⟩ := R1.list (.inl z)
      exact ⟨_, rfl, ⟨xs, s⟩, p1 ρ1 _ H1 .refl R1 (jok_list ha)⟩
    · rename_i ds z
      obtain ⟨xs, s, rs⟩ := R1.list (.inr z)
      exact ⟨_, rfl, ⟨xs, s⟩, p1 ρ1 _ H1 .refl R1 (jok_list ha)⟩
    · exact p1.elim
  | non => exact p1.elim
  | bl b => exact p1.elim
  | int b => exact p1.elim
  | str b => exact p1.elim
  | tup a b => exact p1.elim
theorem pdi_tup {l tg : Expr} {m : ME} (hl : PD X W l m) : PDi X W tg l (mItT m) := by
  refine ⟨pi_imp (pi_tup hl.run) fun σ H Q ⟨ρ, fr, h, R, f, p⟩ => ⟨ρ, fr, h, R, f, p.bind fun x h1 ρ1 v H1 _ u1 R1 rx p1 => ?_⟩⟩
  cases rx with
  | @tup a xs ds s rs => exact ⟨_, rfl, ⟨xs, s⟩, p1 ρ1 _ H1 .refl R1 (jok_tup s rs)⟩
  | non => exact p1.elim
  | bl b => exact p1.elim
  | int b => exact p1.elim
  | str b => exact p1.elim
  | ref a => exact p1.elim
/-- lo, lo + 1, .. -/
def rngD (lo : Int) (n : Nat) : List D := (List.range n).map fun (i : Nat) => D.int (lo + (i : Int))
theorem jok_rng {K : PySem.W.Frag} {ρ0 : Nat → Addr} {n0 : Nat} {H0 : Hp} {lo : Int} {n : Nat} : JOk K ρ0 n0 H0 (Itr lo n) (rngD lo n) (fun _ => true) := by
  have hl : (rngD lo n).length = n := by unfold rngD; rw [List.length_map, List.length_range]
  refine ⟨fun i ρ h H hi u R g => ?_, fun ρ h H u R g => ?_, fun i ρ h H H' x d u R g e y => ?_⟩
  · rw [hl] at hi
    exact hi
  · show n ≤ (rngD lo n).length
    rw [hl]
    exact Nat.le_refl _
  · obtain ⟨e1, y⟩ := y
    subst e1
    subst y
    have hi : i < n := by
      have := (List.getElem?_eq_some_iff.mp e).1
      rw [hl] at this
      exact this
    unfold rngD at e
    rw [List.getElem?_map, List.getElem?_range hi] at e
    cases e
    exact ⟨.refl, R, .int _⟩
def r62 (i : Int) : Bool := decide (-(2 ^ 62) ≤ i) && decide (i < 2 ^ 62)
def mRng1 (ms : MA) : MI := fun fr h => (ms fr h).bind fun ds h1 => match ds with
  | [.int j] => if r62 j = true then .ok (rngD 0 j.toNat, fun _ => true) h1 else .stuck
  | _ => .stuck
def mRng2 (ms : MA) : MI := fun fr h => (ms fr h).bind fun ds h1 => match ds with
  | [.int i, .int j] => if (r62 i && r62 j) = true then .ok (rngD i (j - i).toNat, fun _ => true) h1 else .stuck
  | _ => .stuck
theorem r62_of {i : Int} (h : r62 i = true) : -(2 ^ 62) ≤ i ∧ i < 2 ^ 62 := by
  unfold r62 at h
  simp only [Bool.and_eq_true, decide_eq_true_eq] at h
  exact h
theorem pdi_rng1 {a tg : Expr} {p pos : Pos} {ms : MA} (hm : X.mg "range" = none) (ha : PDa X W [a] ms) (hg : Gl X "range" := by rfl) (hs : starEach [a] X.env = [(false, eval a X.env)] := by rfl) : PDi X W tg (.Call (.Name "range" p) [a] [] pos) (mRng1 ms) := by
  refine ⟨pi_imp (pi_range1 hg hm ha.run hs) fun σ H Q ⟨ρ, fr, h, R, f, p⟩ => ⟨ρ, fr, h, R, f, p.bind fun x h1 ρ1 v H1 _ u1 R1 rx p1 => ?_⟩⟩
  split at p1
  · rename_i j _
    cases rx with
    | cons rx rn =>
      cases rn
      cases rx
      split at p1
      · rename_i c
        have := r62_of c
        exact ⟨j, rfl, this.1, this.2, p1 ρ1 _ H1 .refl R1 jok_rng⟩
      · exact p1.elim
  · exact p1.elim
theorem pdi_rng2 {a b tg : Expr} {p pos : Pos} {ms : MA} (hm : X.mg "range" = none) (ha : PDa X W [a, b] ms) (hg : Gl X "range" := by rfl) (hs : starEach [a, b] X.env = [(false, eval a X.env), (false, eval b X.env)] := by rfl) (hs2 : starEach [b] X.env = [(false, eval b X.env)] := by rfl) :
    PDi X W tg (.Call (.Name "range" p) [a, b] [] pos) (mRng2 ms) := by
  refine ⟨pi_imp (pi_range2 hg hm ha.run hs hs2) fun σ H Q ⟨ρ, fr, h, R, f, p⟩ => ⟨ρ, fr, h, R, f, p.bind fun x h1 ρ1 v H1 _ u1 R1 rx p1 => ?_⟩⟩
  split at p1
  · rename_i i j _
    cases rx with
    | cons rx rn =>
      cases rn with
      | cons ry rn =>
        cases rn
        cases rx
        cases ry
        split at p1
        · rename_i c
          rw [Bool.and_eq_true] at c
          have c1 := r62_of c.1
          have c2 := r62_of c.2
          exact ⟨i, j, rfl, ⟨c1.1, c1.2, c2.1, c2.2⟩, p1 ρ1 _ H1 .refl R1 jok_rng⟩
        · exact p1.elim
  · exact p1.elim

/-! ### for -/
def forL (g : MG) (b : MS) (guard : Hm → Bool) : List D → Fr → Hm → RS
  | [], fr, h => if guard h = true then .nx fr h else .stuck
  | d :: ds, fr, h => if guard h = true then match g d fr h with
      | some (fr1, h1) => match b fr1 h1 with
        | .nx fr2 h2 => forL g b guard ds fr2 h2
        | .ct fr2 h2 => forL g b guard ds fr2 h2
        | .bk fr2 h2 => .nx fr2 h2
        | .rt d h2 => .rt d h2
        | .exc x fr2 h2 => .exc x fr2 h2
        | .stuck => .stuck
      | none => .stuck
    else .stuck
def mFor (mi : MI) (g : MG) (b : MS) : MS := fun fr h => (mi fr h).toS fr fun p h1 => forL g b p.2 p.1 fr h1
theorem drop_cons {α : Type} {l : List α} {i : Nat} {d : α} {r : List α} (e : l.drop i = d :: r) : l[i]? = some d ∧ l.drop (i + 1) = r ∧ i < l.length := by
  have hi : i < l.length := by
    by_cases hi : i < l.length
    · exact hi
    · rw [List.drop_eq_nil_of_le (by omega)] at e
      cases e
  rw [List.drop_eq_getElem_cons hi] at e
  injection e with e1 e2
  exact ⟨by rw [List.getElem?_eq_getElem hi, e1], e2, hi⟩
theorem pds_for {tg iter : Expr} {body : List Stmt} {pos : Pos} {S : List Nat} {mi : MI} {g : MG} {b : MS} (hp : PassesOwn (model X.prog X.w) X.A X.env X.xe) (hc : X.calm = true) (hi : PDi X W tg iter mi) (hg : PDg X S tg g) (hb : PDss X W body b)
    (hs : ∀ x, foldedSetIterable iter X.env x = pure x := by intro _; rfl) : PDs X W (.For tg iter body [] pos) (mFor mi g b) := by
  refine ⟨ps_imp (ps_for hp hc hi.run hg.run hb.run hs) fun E σ H ⟨ρ, fr, h, R, f, p⟩ => ⟨ρ, fr, h, R, f, p.toG f fun q h1 ρ1 J H1 _ u1 R1 jk p1 => ?_⟩⟩
  obtain ⟨items, guard⟩ := q
  simp only at p1 jk
  refine ⟨fun i m σ' H' => ∃ ρ' fr' h', i + m = items.length ∧ Up X.K ρ1 h1.length H1 ρ' h'.length H' ∧ Rep X.K H' ρ' h' ∧ FR X.K H' ρ' h'.length fr' σ' ∧ PostS X.K X.mg W ρ' h'.length H' E (forL g b guard (items.drop i) fr' h'),
    ⟨items.length, ρ1, fr, h1, Nat.zero_add _, .refl, R1, f.up u1, p1⟩, ?_⟩
  rintro i m σ' H' ⟨ρ', fr', h', hm, u', R', f', p'⟩
  cases e : items.drop i with
  | nil =>
    rw [e] at p'
    simp only [forL] at p'
    have hil : i = items.length := by
      have := congrArg List.length e
      rw [List.length_drop, List.length_nil] at this
      omega
    split at p'
    · rename_i gd
      refine .inl ⟨?_, p' ρ' σ' H' .refl R' f'⟩
      rw [hil]
      exact jk.stop ρ' h' H' u' R' gd
    · exact p'.elim
  | cons d rest =>
    rw [e] at p'
    obtain ⟨ed, er, hil⟩ := drop_cons e
    simp only [forL] at p'
    split at p'
    · rename_i gd
      refine .inr ⟨jk.go i ρ' h' H' hil u' R' gd, fun σ2 H2 => ∃ ρ2 fr2 h2, Up X.K ρ1 h1.length H1 ρ2 h2.length H2 ∧ Rep X.K H2 ρ2 h2 ∧ FR X.K H2 ρ2 h2.length fr2 σ2 ∧ PostS X.K X.mg W ρ2 h2.length H2 E (forL g b guard rest fr2 h2),
        fun σ2 H2 ⟨ρ2, fr2, h2, a1, a2, a3, a4⟩ => ⟨m - 1, by omega, ρ2, fr2, h2, by omega, a1, a2, a3, by rw [er]; exact a4⟩, fun x H2 y => ?_⟩
      obtain ⟨u2, R2, rd⟩ := jk.yld i ρ' h' H' H2 x d u' R' gd ed y
      refine ⟨ρ', fr', h', d, R2, f'.up u2, rd, ?_⟩
      cases eg : g d fr' h' with
      | none => rw [eg] at p'; exact p'.elim
      | some q =>
        obtain ⟨fr3, h3⟩ := q
        rw [eg] at p'
        simp only at p'
        refine fun ρ3 σ3 H3 u3 R3 f3 _ => ⟨ρ3, fr3, h3, R3, f3, ?_⟩
        have uu := u2.trans u3
        have up3 := u'.trans uu
        cases eb : b fr3 h3 with
        | nx fr4 h4 =>
          rw [eb] at p'
          exact fun ρ4 σ4 H4 u4 R4 f4 => ⟨ρ4, fr4, h4, up3.trans u4, R4, f4, PostS.up (r := forL g b guard rest fr4 h4) p' (uu.trans u4)⟩
        | ct fr4 h4 =>
          rw [eb] at p'
          exact fun ρ4 σ4 H4 u4 R4 f4 => ⟨ρ4, fr4, h4, up3.trans u4, R4, f4, PostS.up (r := forL g b guard rest fr4 h4) p' (uu.trans u4)⟩
        | bk fr4 h4 =>
          rw [eb] at p'
          exact PostS.up (r := .nx fr4 h4) p' uu
        | rt d h4 =>
          rw [eb] at p'
          exact PostS.up (r := .rt d h4) p' uu
        | exc x fr4 h4 =>
          rw [eb] at p'
          exact PostS.up (r := .exc x fr4 h4) p' uu
        | stuck => rw [eb] at p'; exact p'.elim
    · exact p'.elim

/-! ### while -/
def whL (t : MT) (b : MS) : Nat → Fr → Hm → RS
  | 0, _, _ => .stuck
  | n + 1, fr, h => (t fr h).toS fr fun c h1 => if c = true then match b fr h1 with
      | .nx fr2 h2 => whL t b n fr2 h2
      | .ct fr2 h2 => whL t b n fr2 h2
      | .bk fr2 h2 => .nx fr2 h2
      | .rt d h2 => .rt d h2
      | .exc x fr2 h2 => .exc x fr2 h2
      | .stuck => .stuck
    else .nx fr h1
def mWhile (n : Nat) (t : MT) (b : MS) : MS := whL t b n
theorem pds_while (n : Nat) {c : Expr} {body : List Stmt} {pos : Pos} {t : MT} {b : MS} (hp : PassesOwn (model X.prog X.w) X.A X.env X.xe) (hc : PDt X W c t) (hb : PDss X W body b) : PDs X W (.While c body [] pos) (mWhile n t b) := by
  refine ⟨ps_imp (ps_while hp hc.run hb.run) fun E σ H ⟨ρ, fr, h, R, f, p⟩ => ?_⟩
  refine ⟨fun m σ' H' => ∃ ρ' fr' h', Rep X.K H' ρ' h' ∧ FR X.K H' ρ' h'.length fr' σ' ∧ PostS X.K X.mg W ρ' h'.length H' E (whL t b m fr' h'), ⟨n, ρ, fr, h, R, f, p⟩, ?_⟩
  rintro m σ' H' ⟨ρ', fr', h', R', f', p'⟩
  cases m with
  | zero => exact p'.elim
  | succ m =>
    refine ⟨ρ', fr', h', R', f', PostS.toG (R := rB) p' f' fun k h1 ρ1 kv H1 _ u1 R1 rk p1 => ?_⟩
    cases rk
    cases k with
    | false => exact p1 ρ1 σ' H1 .refl R1 (f'.up u1)
    | true =>
      rw [if_pos rfl] at p1
      rw [if_pos rfl]
      refine ⟨fun σ2 H2 => ∃ ρ2 fr2 h2, Rep X.K H2 ρ2 h2 ∧ FR X.K H2 ρ2 h2.length fr2 σ2 ∧ PostS X.K X.mg W ρ2 h2.length H2 E (whL t b m fr2 h2), fun σ2 H2 q => ⟨m, Nat.lt_succ_self _, q⟩, ρ1, fr', h1, R1, f'.up u1, ?_⟩
      cases eb : b fr' h1 with
      | nx fr4 h4 =>
        rw [eb] at p1
        exact fun ρ4 σ4 H4 u4 R4 f4 => ⟨ρ4, fr4, h4, R4, f4, PostS.up (r := whL t b m fr4 h4) p1 u4⟩
      | ct fr4 h4 =>
        rw [eb] at p1
        exact fun ρ4 σ4 H4 u4 R4 f4 => ⟨ρ4, fr4, h4, R4, f4, PostS.up (r := whL t b m fr4 h4) p1 u4⟩
      | bk fr4 h4 => rw [eb] at p1; exact p1
      | rt d h4 => rw [eb] at p1; exact p1
      | exc x fr4 h4 => rw [eb] at p1; exact p1
      | stuck => rw [eb] at p1; exact p1.elim

/-! ### comprehensions -/
def wipeF (fr : Fr) : List Nat → Fr
  | [] => fr
  | v :: vs => (wipeF fr vs).set v none
theorem FR.wipe {K : PySem.W.Frag} {H : Hp} {ρ : Nat → Addr} {n : Nat} {fr : Fr} {σ : L2.St} (f : FR K H ρ n fr σ) : ∀ vs : List Nat, FR K H ρ n (wipeF fr vs) (L2.wipe σ vs)
  | [] => f
  | v :: vs => (FR.wipe f vs).setNone
theorem wipe_get {σ : L2.St} {i : Nat} : ∀ {vs : List Nat}, (L2.wipe σ vs)[i]? = if i ∈ vs ∧ i < σ.length then some none else σ[i]?
  | [] => by simp [L2.wipe]
  | v :: vs => by
    unfold L2.wipe
    have ih := wipe_get (σ := σ) (i := i) (vs := vs)
    by_cases hv : v = i
    · subst hv
      by_cases hl : v < σ.length
      · rw [List.getElem?_set_self (by rw [wipe_length]; exact hl), if_pos ⟨List.mem_cons_self, hl⟩]
      · rw [List.getElem?_eq_none (by rw [List.length_set, wipe_length]; omega), if_neg (fun z => hl z.2), List.getElem?_eq_none (by omega)]
    · rw [List.getElem?_set_ne hv, ih]
      have : (i ∈ v :: vs) ↔ i ∈ vs := ⟨fun z => by
        rcases List.mem_cons.mp z with z | z
        · exact absurd z.symm hv
        · exact z, List.mem_cons_of_mem _⟩
      simp only [this]
theorem wipe_chg {S vs : List Nat} {σ σ' : L2.St} (c : Chg S σ σ') (h : ∀ j ∈ S, j ∈ vs) : L2.wipe σ' vs = L2.wipe σ vs := by
  refine List.ext_getElem? fun i => ?_
  rw [wipe_get, wipe_get, c.1]
  by_cases hi : i ∈ vs ∧ i < σ.length
  · rw [if_pos hi, if_pos hi]
  · rw [if_neg hi, if_neg hi]
    by_cases hv : i ∈ vs
    · have hl : ¬ i < σ.length := fun z => hi ⟨hv, z⟩
      rw [List.getElem?_eq_none (by rw [c.1]; omega), List.getElem?_eq_none (by omega)]
    · exact c.2 i fun z => hv (h i z)
theorem wipe_wipe {σ : L2.St} {vs : List Nat} : L2.wipe (L2.wipe σ vs) vs = L2.wipe σ vs := by
  refine List.ext_getElem? fun i => ?_
  rw [wipe_get, wipe_length]
  by_cases hi : i ∈ vs ∧ i < σ.length
  · rw [if_pos hi, wipe_get, if_pos hi]
  · rw [if_neg hi]
structure PDts (X : Cx) (W : WX) (ifs : List Expr) (m : MT) : Prop where
  run : PTs X ifs (tG X.K X.mg W rB m)
theorem pts_imp {ifs : List Expr} {t t' : TT} (h : PTs X ifs t) (f : ∀ σ H Q, t' σ H Q → t σ H Q) : PTs X ifs t' := ⟨fun pins s σ H Q I q => h.run pins s σ H Q I (f σ H Q q)⟩
def mYes : MT := fun _ h => .ok true h
theorem pdts_nil : PDts X W [] mYes := ⟨pts_imp pts_nil fun σ H Q ⟨ρ, fr, h, R, f, p⟩ => p ρ true H .refl R rfl⟩
theorem pdts_one {c : Expr} {m : MT} (h : PDt X W c m) : PDts X W [c] m := ⟨pts_one h.run⟩
def lcL (r : Nat) (g : MG) (t : MT) (e : ME) (guard : Hm → Bool) (fr : Fr) : List D → Hm → Res D
  | [], h => if guard h = true then .ok (.ref r) h else .stuck
  | d :: ds, h => if guard h = true then match g d fr h with
      | some (fr1, h1) => match t fr1 h1 with
        | .ok true h2 => match e fr1 h2 with
          | .ok y h3 => match h3[r]? with
            | some (.lst acc) => if acc.length < 16777216 then lcL r g t e guard fr ds (h3.set r (O.lst (acc ++ [y]))) else .stuck
            | _ => .stuck
          | _ => .stuck
        | .ok false h2 => lcL r g t e guard fr ds h2
        | _ => .stuck
      | none => .stuck
    else .stuck
def mLc (mi : MI) (g : MG) (t : MT) (e : ME) (vs : List Nat) : ME := fun fr h => (mi fr h).bind fun p h1 => lcL h1.length g t e p.2 (wipeF fr vs) p.1 (h1 ++ [O.lst []])
abbrev W0 : WX := fun _ _ _ _ => False
theorem tLc_of {mi : MI} {g : MG} {t : MT} {e : ME} {vs S : List Nat} (hS : ∀ j ∈ S, j ∈ vs) {σ : L2.St} {H : Hp} {Q : VK} (p : tG X.K X.mg W (rD X.K) (mLc mi g t e vs) σ H Q) :
    tLc (tG X.K X.mg W (rI X.K) mi) (tT X.K S g) (tG X.K X.mg W0 rB t) (tG X.K X.mg W0 (rD X.K) e) vs σ H Q := by
  obtain ⟨ρ, fr, h, R, f, p⟩ := p
  refine ⟨ρ, fr, h, R, f, p.bind fun q h1 ρ1 J H1 _ u1 R1 jk p1 => fun D hD => ?_⟩
  obtain ⟨items, guard⟩ := q
  simp only at p1 jk
  obtain ⟨un, Rn, rn⟩ := new_lst R1 (ds := []) (xs := []) .nil hD
  have hr : h1.length < (h1 ++ [O.lst []]).length := by rw [List.length_append, List.length_singleton]; exact Nat.lt_succ_self _
  -- from the loop's start on
  refine ⟨fun i m H' => ∃ ρ' h', i + m = items.length ∧ Up X.K (push ρ1 h1.length D) (h1 ++ [O.lst []]).length (upd H1 D (.lst [])) ρ' h'.length H' ∧ Rep X.K H' ρ' h' ∧
      PostG X.K X.mg W (rD X.K) σ ρ' h'.length H' Q (lcL h1.length g t e guard (wipeF fr vs) (items.drop i) h'),
    ⟨items.length, push ρ1 h1.length D, h1 ++ [O.lst []], Nat.zero_add _, .refl, Rn, PostG.up (r := lcL h1.length g t e guard (wipeF fr vs) items (h1 ++ [O.lst []])) p1 un⟩, ?_⟩
  rintro i m H' ⟨ρ', h', hm, u', R', p'⟩
  have u1' : Up X.K ρ1 h1.length H1 ρ' h'.length H' := un.trans u'
  have fw : FR X.K H' ρ' h'.length (wipeF fr vs) (L2.wipe σ vs) := ((f.up u1).up u1').wipe vs
  have eD : ∀ {ρ2 : Nat → Addr} {n2 : Nat} {H2 : Hp}, Up X.K ρ' h'.length H' ρ2 n2 H2 → ρ2 h1.length = D := fun {ρ2 n2 H2} u2 => by
    have a := (u'.trans u2).ag h1.length hr
    rw [a]
    exact push_same
  cases ei : items.drop i with
  | nil =>
    rw [ei] at p'
    simp only [lcL] at p'
    have hil : i = items.length := by
      have := congrArg List.length ei
      rw [List.length_drop, List.length_nil] at this
      omega
    split at p'
    · rename_i gd
      refine .inl ⟨?_, ?_⟩
      · rw [hil]
        exact jk.stop ρ' h' H' u1' R' gd
      · refine p' ρ' (.ref D) H' .refl R' ?_
        rw [← eD .refl]
        exact .ref (Nat.lt_of_lt_of_le hr u'.len)
    · exact p'.elim
  | cons d rest =>
    rw [ei] at p'
    obtain ⟨ed, er, hil⟩ := drop_cons ei
    simp only [lcL] at p'
    split at p'
    · rename_i gd
      refine .inr ⟨jk.go i ρ' h' H' hil u1' R' gd, fun H2 => ∃ ρ2 h2, Up X.K (push ρ1 h1.length D) (h1 ++ [O.lst []]).length (upd H1 D (.lst [])) ρ2 h2.length H2 ∧ Rep X.K H2 ρ2 h2 ∧ PostG X.K X.mg W (rD X.K) σ ρ2 h2.length H2 Q (lcL h1.length g t e guard (wipeF fr vs) rest h2),
        fun H2 ⟨ρ2, h2, a1, a2, a4⟩ => ⟨m - 1, by omega, ρ2, h2, by omega, a1, a2, by rw [er]; exact a4⟩, fun x H2 y => ?_⟩
      obtain ⟨u2, R2, rd⟩ := jk.yld i ρ' h' H' H2 x d u1' R' gd ed y
      refine ⟨ρ', wipeF fr vs, h', d, R2, fw.up u2, rd, ?_⟩
      cases eg : g d (wipeF fr vs) h' with
      | none => rw [eg] at p'; exact p'.elim
      | some q =>
        obtain ⟨fr3, h3⟩ := q
        rw [eg] at p'
        simp only at p'
        refine fun ρ3 σ3 H3 u3 R3 f3 c3 => ⟨by rw [wipe_chg c3 hS, wipe_wipe], ρ3, fr3, h3, R3, f3, ?_⟩
        have uu := u2.trans u3
        cases et : t fr3 h3 with
        | stuck => rw [et] at p'; exact p'.elim
        | exc x hx => rw [et] at p'; exact p'.elim
        | ok b h4 =>
          rw [et] at p'
          refine fun ρ4 bv H4 u4 R4 rb => ?_
          cases rb
          have u4' := uu.trans u4
          cases b with
          | false =>
            rw [if_neg Bool.false_ne_true]
            exact ⟨ρ4, h4, u'.trans u4', R4, PostG.up (r := lcL h1.length g t e guard (wipeF fr vs) rest h4) p' u4'⟩
          | true =>
            rw [if_pos rfl]
            simp only at p'
            refine ⟨ρ4, fr3, h4, R4, f3.up u4, ?_⟩
            cases ee : e fr3 h4 with
            | stuck => rw [ee] at p'; exact p'.elim
            | exc x hx => rw [ee] at p'; exact p'.elim
            | ok yv h5 =>
              rw [ee] at p'
              simp only at p'
              refine fun ρ5 v5 H5 u5 R5 r5 => ?_
              have u5' := u4'.trans u5
              cases ea : h5[h1.length]? with
              | none => rw [ea] at p'; exact p'.elim
              | some ob =>
                cases ob with
                | rol ds => rw [ea] at p'; exact p'.elim
                | lst acc =>
                  rw [ea] at p'
                  simp only at p'
                  obtain ⟨xs, s, rs⟩ := R5.obj _ _ ea
                  by_cases hl : acc.length < 16777216
                  · rw [if_pos hl] at p'
                    obtain ⟨u6, R6⟩ := put_lst R5 ea (rs.append (.cons r5 .nil))
                    rw [eD u5'] at s u6 R6
                    refine ⟨xs, s, by rw [sizeLine_eq, ← rs.length]; exact hl, ρ5, _, u'.trans (u5'.trans u6), R6, PostG.up p' (u5'.trans u6)⟩
                  · rw [if_neg hl] at p'
                    exact p'.elim
    · exact p'.elim
theorem pd_lc {elt tg iter : Expr} {ifs : List Expr} {scope : Scope} {own : List (Str × Nat)} {pos : Pos} {S : List Nat} {mi : MI} {g : MG} {t : MT} {e : ME} (hc : X.calm = true) (hN : X.N.Nodup) (hi : PDi X W tg iter mi) (ok : BlkOk X.N X.env.scope scope own) (hS : ∀ j ∈ S, j ∈ own.map (·.2))
    (hg : ∀ (s : Shared) (H : Hp) (C : Addr) (cl : List (Str × Addr)) (fp : List Addr), PDg (X.blk s H scope (compEnvC scope cl C X.env) fp) S tg g) (ht : ∀ (s : Shared) (H : Hp) (C : Addr) (cl : List (Str × Addr)) (fp : List Addr), PDts (X.blk s H scope (compEnvC scope cl C X.env) fp) W0 ifs t)
    (he : ∀ (s : Shared) (H : Hp) (C : Addr) (cl : List (Str × Addr)) (fp : List Addr), PD (X.blk s H scope (compEnvC scope cl C X.env) fp) W0 elt e) (hs : ∀ x, foldedSetIterable iter X.env x = pure x := by intro _; rfl) :
    PD X W (.ListComp elt [⟨tg, iter, ifs, 0⟩] scope pos) (mLc mi g t e (own.map (·.2))) :=
  ⟨pe_imp (pe_lc hc hN hi.run ok (fun s H C cl fp => (hg s H C cl fp).run) (fun s H C cl fp => (ht s H C cl fp).run) (fun s H C cl fp => (he s H C cl fp).run) hs) fun σ H Q p => tLc_of hS p⟩
/-- name = [..] -/
theorem pds_setLc (i : Nat) {y : Str} {py : Pos} {elt tg iter : Expr} {ifs : List Expr} {scope : Scope} {own : List (Str × Nat)} {pos spos : Pos} {S : List Nat} {mi : MI} {g : MG} {t : MT} {e : ME} (hc : X.calm = true) (hN : X.N.Nodup) (hi : PDi X W tg iter mi) (ok : BlkOk X.N X.env.scope scope own) (hS : ∀ j ∈ S, j ∈ own.map (·.2))
    (hg : ∀ (s : Shared) (H : Hp) (C : Addr) (cl : List (Str × Addr)) (fp : List Addr), PDg (X.blk s H scope (compEnvC scope cl C X.env) fp) S tg g) (ht : ∀ (s : Shared) (H : Hp) (C : Addr) (cl : List (Str × Addr)) (fp : List Addr), PDts (X.blk s H scope (compEnvC scope cl C X.env) fp) W0 ifs t)
    (he : ∀ (s : Shared) (H : Hp) (C : Addr) (cl : List (Str × Addr)) (fp : List Addr), PD (X.blk s H scope (compEnvC scope cl C X.env) fp) W0 elt e) (hy : X.N[i]? = some y := by rfl) (hyl : X.env.scope.names.lookup y = some .local := by rfl)
    (hsw : swapsWith (.ListComp elt [⟨tg, iter, ifs, 0⟩] scope pos) (some (.Name y py)) spos.line X.env = pure true := by exact sw_true rfl rfl rfl (by decide +kernel)) (hs : ∀ x, foldedSetIterable iter X.env x = pure x := by intro _; rfl) :
    PDs X W (.Assign [.Name y py] (.ListComp elt [⟨tg, iter, ifs, 0⟩] scope pos) spos) (mAsg (mLc mi g t e (own.map (·.2))) (mgName i)) := by
  refine ⟨ps_imp (ps_setLc (g := tT X.K S g) (tt := tG X.K X.mg W0 rB t) (te := tG X.K X.mg W0 (rD X.K) e) hc hN hy hyl hsw hi.run ok (fun s H C cl fp => (hg s H C cl fp).run) (fun s H C cl fp => (ht s H C cl fp).run) (fun s H C cl fp => (he s H C cl fp).run) hs) fun E σ H p => ?_⟩
  refine tLc_of hS ?_
  obtain ⟨ρ, fr, h, R, f, p⟩ := p
  exact ⟨ρ, fr, h, R, f, p.toG f fun d h1 ρ1 v H1 _ u1 R1 r p1 => p1 ρ1 _ H1 .refl R1 ((f.up u1).set r)⟩

/-! ### raise, try -/
def mRaise (c : Str) : MS := fun fr h => .exc ⟨c, []⟩ fr h
theorem pds_raise {x m : Str} {j : Nat} {p p2 pos pos' : Pos} {C : Addr} (hc : X.calm = true) (tk : Takes X W) {bmB : List Value} {B newId initId : String} (F : ExcBaseFacts B newId initId bmB) (q : PySem.W.excIn X.K C bmB newId = true) (gC : X.mg x = some (.ref C)) (kC : PySem.W.keepIn X.K (.ref C) = true)
    (h1 : PySem.W.subIn X.K (.ref C) (.type "BaseException") = some true) (h2 : PySem.W.typeIn X.K (.ref C) = some (.type "type")) (hg : Gl X x := by rfl) (hdb : (x == ("__debug__" : Str)) = false := by decide) :
    PDs X W (.Raise (some (.Call (.Name x p) [.Constant (.str m) j p2] [] pos)) none pos') (mRaise x) :=
  ⟨ps_imp (ps_raise hc tk (pmk_own F q gC kC (raises_own h1 h2) hg hdb)) fun E σ H ⟨ρ, fr, h, R, f, p⟩ => p ρ σ _ none H .refl R f ⟨gC, rfl, rfl⟩⟩
abbrev Hds := List (Str × MS)
def hdL (tab : Str → Str → Option Bool) (x : Exc) : Hds → MS
  | [] => fun fr h => .exc x fr h
  | (c, s) :: r => fun fr h => match tab x.cls c with
    | some true => match s fr h with
      | .exc _ _ _ => .stuck
      | q => q
    | some false => hdL tab x r fr h
    | none => .stuck
def mTry (tab : Str → Str → Option Bool) (b : MS) (hs : Hds) : MS := fun fr h => match b fr h with
  | .exc x fr1 h1 => hdL tab x hs fr1 h1
  | q => q
/-- how the program's exception classes stand to one another -/
def TabOk (K : PySem.W.Frag) (mg : Str → Option Value) (tab : Str → Str → Option Bool) : Prop := ∀ x c b vx vc, tab x c = some b → mg x = some vx → mg c = some vc → PySem.W.exmOne K vx vc = some b
inductive PDh (X : Cx) : List ExceptHandler → Hds → List (Value × (Addr → Value → Option Addr → TS)) → Prop
  | nil : PDh X [] [] []
  | cons' {x : Str} {c : Value} {b₀ : Stmt} {suite : List Stmt} {np pos' : Pos} {hds : List ExceptHandler} {m : MS} {l : Hds} {r : List (Value × (Addr → Value → Option Addr → TS))} (hm : X.mg x = some c) (hg : Gl X x) (hd : (x == ("__debug__" : Str)) = false)
      (hsu : ∀ (a : Addr) (pn : List (Addr × Obj)), PDss (X.suite a pn) W0 (b₀ :: suite) m) (t : PDh X hds l r) :
      PDh X (.ExceptHandler (some (.Name x np)) none (b₀ :: suite) pos' :: hds) ((x, m) :: l) ((c, fun _ _ _ => tS X.K X.mg W0 m) :: r)
theorem PDh.cons {x : Str} {c : Value} {b₀ : Stmt} {suite : List Stmt} {np pos' : Pos} {hds : List ExceptHandler} {m : MS} {l : Hds} {r : List (Value × (Addr → Value → Option Addr → TS))} (hm : X.mg x = some c)
    (hsu : ∀ (a : Addr) (pn : List (Addr × Obj)), PDss (X.suite a pn) W0 (b₀ :: suite) m) (t : PDh X hds l r) (hg : Gl X x := by rfl) (hd : (x == ("__debug__" : Str)) = false := by decide) :
    PDh X (.ExceptHandler (some (.Name x np)) none (b₀ :: suite) pos' :: hds) ((x, m) :: l) ((c, fun _ _ _ => tS X.K X.mg W0 m) :: r) := .cons' hm hg hd hsu t
theorem PDh.ok {hds : List ExceptHandler} {l : Hds} {r : List (Value × (Addr → Value → Option Addr → TS))} (h : PDh X hds l r) : HdsOk X hds r := by
  induction h with
  | nil => exact .nil
  | cons' hm hg hd hsu t ih => exact .cons ⟨hg, hd, .inl hm⟩ (fun a oe cls d pn _ _ => (hsu a ((a, oe) :: pn)).run) ih
theorem PDh.sound {tab : Str → Str → Option Bool} (T : TabOk X.K X.mg tab) {hds : List ExceptHandler} {l : Hds} {r : List (Value × (Addr → Value → Option Addr → TS))} (h : PDh X hds l r) {E : Ends} {x : Exc} {ρ : Nat → Addr} {fr : Fr} {hh : Hm} {σ : L2.St} {cls : Value} {dd : Option Addr} {H : Hp}
    (R : Rep X.K H ρ hh) (f : FR X.K H ρ hh.length fr σ) (xr : XR X.K X.mg H ρ hh.length x cls dd) (p : PostS X.K X.mg W ρ hh.length H E (hdL tab x l fr hh)) : wMany X.K W E r cls dd σ H := by
  induction h with
  | nil => exact p ρ σ cls dd H .refl R f xr
  | @cons' c v b₀ suite np pos' hds m l r hm hg hd hsu t ih =>
    simp only [hdL] at p
    cases et : tab x.cls c with
    | none => rw [et] at p; exact p.elim
    | some b =>
      rw [et] at p
      refine ⟨b, T _ _ _ _ _ et xr.1 hm, fun e a ha => ?_, fun e => ?_⟩
      · subst e
        simp only at p
        refine ⟨ρ, fr, hh, R, f, ?_⟩
        cases em : m fr hh with
        | nx fr h => rw [em] at p; exact p
        | rt d h => rw [em] at p; exact p
        | bk fr h => rw [em] at p; exact p
        | ct fr h => rw [em] at p; exact p
        | exc x fr h => rw [em] at p; exact p.elim
        | stuck => rw [em] at p; exact p.elim
      · subst e
        exact ih p
theorem pds_try {body : List Stmt} {h₀ : ExceptHandler} {hds : List ExceptHandler} {l : Hds} {r : List (Value × (Addr → Value → Option Addr → TS))} {pos : Pos} {b : MS} {tab : Str → Str → Option Bool} (T : TabOk X.K X.mg tab) (tk : Takes X W)
    (hb : ∀ (W' : WX) (pn : List (Addr × Obj)) (xe : Value → Shared → Prop), Takes (X.tr pn xe) W' → PassesOwn (model X.prog X.w) X.A X.env xe → PDss (X.tr pn xe) W' body b) (hh : PDh X (h₀ :: hds) l r) (hs : X.stack = X.env :: X.outer := by rfl) (hf : X.env.frame = some X.env.locals := by rfl) : PDs X W (.Try body (h₀ :: hds) [] [] pos) (mTry tab b l) := by
  refine ⟨ps_imp (ps_try_many (tb := fun W' => tS X.K X.mg W' b) hs hf tk (fun W' pn xe a c => (hb W' pn xe a c).run) hh.ok) fun E σ H ⟨ρ, fr, h, R, f, p⟩ => ⟨ρ, fr, h, R, f, ?_⟩⟩
  simp only [mTry] at p
  cases eb : b fr h with
  | nx fr h => rw [eb] at p; exact p
  | rt d h => rw [eb] at p; exact p
  | bk fr h => rw [eb] at p; exact p
  | ct fr h => rw [eb] at p; exact p
  | stuck => rw [eb] at p; exact p.elim
  | exc x fr1 h1 =>
    rw [eb] at p
    exact fun ρ' σ' cls dd H' u R' f' xr => hh.sound T R' f' xr (PostS.up (r := hdL tab x l fr1 h1) p u)
end
/-! ### defs -/
def mFun (n : Nat) (b : MS) : MFn := fun ds h => match b (ds.map some ++ List.replicate (n - ds.length) none) h with
  | .nx _ h1 => .ok .non h1
  | .rt d h1 => .ok d h1
  | .exc x _ h1 => .exc x h1
  | _ => .stuck
theorem FR.start {K : PySem.W.Frag} {H : Hp} {ρ : Nat → Addr} {n : Nat} {ds : List D} {vs : List V} (r : DRs K H ρ n ds vs) (k : Nat) : FR K H ρ n (ds.map some ++ List.replicate (k - ds.length) none) (vs.map some ++ List.replicate (k - vs.length) none) := by
  refine ⟨by simp only [List.length_append, List.length_map, List.length_replicate, r.length], fun i d e => ?_⟩
  by_cases hi : i < ds.length
  · rw [List.getElem?_append_left (by rw [List.length_map]; exact hi), List.getElem?_map] at e
    cases q : ds[i]? with
    | none => rw [q] at e; cases e
    | some d' =>
      rw [q] at e
      cases e
      obtain ⟨v, ev, rv⟩ := r.get q
      refine ⟨v, ?_, rv⟩
      rw [List.getElem?_append_left (by rw [List.length_map, ← r.length]; exact hi), List.getElem?_map, ev]
      rfl
  · rw [List.getElem?_append_right (by rw [List.length_map]; omega), List.getElem?_replicate] at e
    split at e <;> cases e
theorem fn_ok {P : Program} {w : World} {K : PySem.W.Frag} {mg : Str → Option Value} {base : Heap} {x qual : Str} {params : Arguments} {body : List Stmt} {scope : Scope} {dvs : List V} {kws : List (Str × V)} {f : Addr} {fd : FuncData} {N ps : List Str} {k : Nat} {m : MS}
    (F : FunD K x qual params body scope dvs kws f fd) (S : FnScope N ps scope)
    (hb : ∀ (cdv : Value) (A : Around) (outer : List Env) (s : Shared) (H : Hp) (E : XK), Room k (A.deeper (envOfC qual scope s.heap.objs.size f cdv)) →
      PDss (cxOf (L2.CX P w) P w K mg base N qual scope f cdv A outer s H E) (fun cls dd _ H' => E cls dd H') body m) : FnOk P w K mg base (L2.CX P w) (k + 1) f fd ps (spOf K mg ps.length (mFun N.length m)) := by
  refine F.ok S (fun vs H Q E h => h.1) fun cdv A outer s H vs Q E hr h => ⟨_, (hb cdv A outer s H E hr).run, ?_⟩
  obtain ⟨hl, ρ, ds, hh, R, rs, p⟩ := h
  refine ⟨ρ, _, hh, R, FR.start rs N.length, ?_⟩
  unfold mFun at p
  cases eb : m (ds.map some ++ List.replicate (N.length - ds.length) none) hh with
  | nx fr h1 => rw [eb] at p; exact fun ρ' σ' H' u R' f' => p ρ' .non H' u R' .non
  | rt d h1 => rw [eb] at p; exact p
  | exc x fr h1 => rw [eb] at p; exact fun ρ' σ' cls dd H' u R' f' xr => p ρ' cls dd H' u R' xr
  | bk fr h1 => rw [eb] at p; exact p.elim
  | ct fr h1 => rw [eb] at p; exact p.elim
  | stuck => rw [eb] at p; exact p.elim
/-- a function of no depth left -/
def mStuck : MFn := fun _ _ => .stuck
theorem fn_stuck {P : Program} {w : World} {K : PySem.W.Frag} {mg : Str → Option Value} {base : Heap} {f : Addr} {fd : FuncData} {ps : List Str} {k : Nat} : FnOk P w K mg base (L2.CX P w) k f fd ps (spOf K mg ps.length mStuck) :=
  ⟨fun vs H Q E h => h.1, fun A outer s H args us vs Q E _ _ _ _ h => by
    obtain ⟨_, _, _, _, _, _, p⟩ := h
    exact p.elim⟩
end FM

set_option Elab.async false
set_option linter.all false
set_option maxRecDepth 100000
set_option maxHeartbeats 4000000
/-! The end: facts by names, read off the head's heap; defs by names. -/
namespace FM
open PySem PySem.Spec PyProof.Rows L2
/-- further facts: a module's name for a built-in function -/
def bltB (K : PySem.W.Frag) (x : Str) (id : String) : Bool := match PySem.W.nsIn K mainGlobals x with
  | some (some (.builtin i)) => decide (i = id)
  | _ => false
theorem bltB_ok {K : PySem.W.Frag} {h : Heap} {mg : Str → Option Value} (X : K.In h) (G : h.Ns mainGlobals mg) {x : Str} {id : String} (c : bltB K x id = true) : mg x = some (.builtin id) := by
  unfold bltB at c
  cases e : PySem.W.nsIn K mainGlobals x with
  | none => rw [e] at c; cases c
  | some o =>
    rw [e] at c
    cases o with
    | none => cases c
    | some v =>
      cases v with
      | builtin i =>
        have ei : i = id := of_decide_eq_true c
        rw [ei] at e
        exact PySem.W.mg_of X G e
      | _ => cases c
abbrev Fb := PySem.W.Frag → Bool
abbrev AlX : Type := Bool × He.AlD
def obsX (fb : List Fb) (fa : List He.Fa) (fn : List He.DefD) (K : PySem.W.Frag) : AlX := (fb.all fun f => f K, He.obsD fa fn K)
def valX (fn : List He.DefD) : AlX := (true, He.valD fn)
def SaysX (fb : List Fb) (fa : List He.Fa) (fn : List He.DefD) (K : PySem.W.Frag) : Prop := obsX fb fa fn K = valX fn
def obsXG (n : Nat) (fb : List Fb) (fa : List He.Fa) (fn : List He.DefD) (g : Addr → Option Obj) : AlX := obsX fb fa fn (He.frG g (He.asD g n))
def hookX (n : Nat) (fb : List Fb) (fa : List He.Fa) (fn : List He.DefD) : PySem.W.Hook where
  α := AlX
  obs := fun s => obsXG n fb fa fn s.heap.get?
  val := fun _ => valX fn
  says := fun _ h => ∃ K : PySem.W.Frag, K.In h ∧ SaysX fb fa fn K
  of := fun _ _ e => ⟨_, He.frG_in, e⟩
  keeps := fun _ _ _ ⟨K, hK, c⟩ k => ⟨K, PySem.W.Frag.In.keeps hK k, c⟩
theorem obsXG_eq {n : Nat} {fb : List Fb} {fa : List He.Fa} {fn : List He.DefD} {g : Addr → Option Obj} {s : Shared} (h : ∀ a, g a = s.heap.get? a) : obsXG n fb fa fn g = (hookX n fb fa fn).obs s := by
  have e : g = s.heap.get? := funext h
  rw [e] <;> rfl
section
variable {fb : List Fb} {fa : List He.Fa} {fn : List He.DefD} {K : PySem.W.Frag}
theorem SaysX.d (c : SaysX fb fa fn K) : He.SaysD fa fn K := congrArg (fun z : AlX => z.2) c
theorem SaysX.b (c : SaysX fb fa fn K) (i : Nat) {f : Fb} (h : fb[i]? = some f := by rfl) : f K = true := by
  have c1 : (fb.all fun f => f K) = true := congrArg (fun z : AlX => z.1) c
  exact List.all_eq_true.mp c1 f (List.mem_of_getElem? h)
end
/-- a def of the program as the walk uses it -/
structure FnIn (P : Program) (w : World) (K : PySem.W.Frag) (mg : Str → Option Value) (base : Heap) (x : Str) (f : Addr) (fd : FuncData) (ps : List Str) (k : Nat) (m : MFn) : Prop where
  ok : FnOk P w K mg base (L2.CX P w) k f fd ps (spOf K mg ps.length m)
  mg_ : mg x = some (.ref f)
  kp : PySem.W.keepIn K (.ref f) = true
  bd : Binds K fd ps []
/-- where it stands, its keywords -/
structure FnAt (K : PySem.W.Frag) (mg : Str → Option Value) (x : Str) (args : Arguments) (body : List Stmt) (scope : Scope) (f : Addr) (fd : FuncData) : Prop where
  fun_ : FunD K x x args body scope [] [] f fd
  mg_ : mg x = some (.ref f)
section
variable {X : Cx} {W : WX}
theorem pd_fn {k : Nat} {f : Addr} {fd : FuncData} {ps : List Str} {m : MFn} {x : Str} {p pos : Pos} {e : Expr} {es : List Expr} {ms : MA} (tk : Takes X W) (hr : Room k X.A) (G : FnIn X.prog X.w X.K X.mg X.base x f fd ps k m) (ha : PDa X W (e :: es) ms) (hg : Gl X x := by rfl)
    (hl : (e :: es).length = ps.length := by rfl) (hdb : (x == ("__debug__" : Str)) = false := by decide)
    (he : starEach (e :: es) X.env = (false, eval e X.env) :: starEach es X.env := by rfl) (hpl : (backTo pos (starEach es X.env)).any (·.1) = false := by rfl) :
    PD X W (.Call (.Name x p) (e :: es) [] pos) (mCall m ms) := pd_call tk G.ok hr hg G.mg_ G.kp G.bd ha hl hdb he hpl
/-! ### keywords alone -/
structure PDk (X : Cx) (W : WX) (kws : List Keyword) (m : MA) : Prop where
  run : PK X kws (tG X.K X.mg W (rDs X.K) m)
  len : ∀ (fr : Fr) (h : Hm) (ds : List D) (h1 : Hm), m fr h = .ok ds h1 → ds.length = kws.length
theorem pk_imp {e : List Keyword} {t t' : TA} (h : PK X e t) (f : ∀ σ H Q, t' σ H Q → t σ H Q) : PK X e t' := ⟨fun pos pins s σ H Q I q => h.run pos pins s σ H Q I (f σ H Q q)⟩
theorem pdk_nil : PDk X W [] mNil := ⟨pk_imp pk_nil fun σ H Q ⟨ρ, fr, h, R, f, p⟩ => p ρ [] H .refl R .nil, fun _ _ _ _ e => by cases e; rfl⟩
theorem pdk_cons {nm : Option Str} {e : Expr} {kpos : Pos} {kws : List Keyword} {m : ME} {ms : MA} (ha : PD X W e m) (hr : PDk X W kws ms) : PDk X W (⟨nm, e, kpos⟩ :: kws) (mCons m ms) :=
  ⟨pk_imp (pk_cons ha.run hr.run) fun σ H Q ⟨ρ, fr, h, R, f, p⟩ => ⟨ρ, fr, h, R, f, p.bind fun x h1 ρ1 v H1 _ u1 R1 rx p1 => ⟨ρ1, fr, h1, R1, f.up u1, p1.bind fun xs h2 ρ2 vs H2 _ u2 R2 rxs p2 => p2 ρ2 _ H2 .refl R2 (.cons (rx.up u2) rxs)⟩⟩, fun fr h ds h1 e => by
    obtain ⟨x, h2, _, e⟩ := Res.bind_ok e
    obtain ⟨xs, h3, e3, e⟩ := Res.bind_ok e
    cases e
    exact congrArg Nat.succ (hr.len _ _ _ _ e3)⟩
/-- the values in the parameters' order: perm tells for each parameter its place among the written ones -/
def pick {α : Type} (perm : List Nat) (l : List α) : List α := perm.filterMap fun i => l[i]?
def mPick (perm : List Nat) (n : Nat) (ms : MA) : MA := fun fr h => (ms fr h).bind fun ds h1 => if (pick perm ds).length = n then .ok (pick perm ds) h1 else .stuck
theorem vals_pick {vs : List V} {us : List Value} (r : Vals vs us) : ∀ perm : List Nat, Vals (pick perm vs) (pick perm us)
  | [] => .nil
  | i :: p => by
    unfold pick
    rw [List.filterMap_cons, List.filterMap_cons]
    cases e : vs[i]? with
    | none =>
      rw [Vals.none_of r e]
      exact vals_pick r p
    | some v =>
      obtain ⟨u, eu, ru⟩ := Vals.get r e
      rw [eu]
      exact .cons ru (vals_pick r p)
theorem drs_pick {K : PySem.W.Frag} {H : Hp} {ρ : Nat → Addr} {n : Nat} {ds : List D} {vs : List V} (r : DRs K H ρ n ds vs) : ∀ perm : List Nat, DRs K H ρ n (pick perm ds) (pick perm vs)
  | [] => .nil
  | i :: p => by
    unfold pick
    rw [List.filterMap_cons, List.filterMap_cons]
    cases e : ds[i]? with
    | none =>
      have : vs[i]? = none := by
        rw [List.getElem?_eq_none_iff] at e ⊢
        rw [← r.length]
        exact e
      rw [this]
      exact drs_pick r p
    | some d =>
      obtain ⟨v, ev, rv⟩ := r.get e
      rw [ev]
      exact .cons rv (drs_pick r p)
/-- how the keywords ks bind, all parameters being written by name -/
structure KwB (K : PySem.W.Frag) (fd : FuncData) (ps ks : List Str) (perm : List Nat) : Prop where
  to : ∀ (s : Shared) (ws : List Value), K.In s.heap → ws.length = ks.length → BindsTo s fd ⟨[], ks.zip ws⟩ (ps.zip (pick perm ws))
theorem pd_fnk {k : Nat} {f : Addr} {fd : FuncData} {ps ks : List Str} {perm : List Nat} {m : MFn} {x : Str} {p pos : Pos} {kws : List Keyword} {ms : MA} (tk : Takes X W) (hr : Room k X.A) (G : FnIn X.prog X.w X.K X.mg X.base x f fd ps k m) (B : KwB X.K fd ps ks perm) (ha : PDk X W kws ms) (hkl : kws.length = ks.length := by rfl) (hg : Gl X x := by rfl)
    (hall : (backToKw pos (keywordEach kws X.env)).all (·.1.isSome) = true := by rfl) (hks : (backToKw pos (keywordEach kws X.env)).filterMap (·.1) = ks := by rfl) (hdb : (x == ("__debug__" : Str)) = false := by decide)
    (hpl : ((backTo pos (starEach [] X.env)).any (·.1) || (backToKw pos (keywordEach kws X.env)).any (·.1.isNone)) = false := by rfl) :
    PD X W (.Call (.Name x p) [] kws pos) (mCall m (mPick perm ps.length ms)) := by
  refine ⟨⟨fun pins s σ H Q I ⟨ρ, fr, h, R, F, q⟩ => ?_⟩⟩
  refine wpAny_Call_Name_kw (ld_glob I hg G.mg_ ?_ hdb)
  have q' : PostG X.K X.mg W (rD X.K) σ ρ h.length H Q ((ms fr h).bind fun ds h1 => (if (pick perm ds).length = ps.length then Res.ok (pick perm ds) h1 else .stuck).bind fun ds h1 => m ds h1) := by
    unfold mCall mPick at q
    cases e : ms fr h with
    | ok ds h1 => rw [e] at q; exact q
    | exc x h1 => rw [e] at q; exact q
    | stuck => rw [e] at q; exact q
  have run := ha.run.run pos pins s σ H (fun vs H1 => ∃ ds h1 ρ1, ds.length = ks.length ∧ (pick perm ds).length = ps.length ∧ Rep X.K H1 ρ1 h1 ∧ DRs X.K H1 ρ1 h1.length ds vs ∧ PostG X.K X.mg W (rD X.K) σ ρ1 h1.length H1 Q (m (pick perm ds) h1)) I
    ⟨ρ, fr, h, R, F, PostG.bind q' fun ds h1 ρ1 vs H1 e u1 R1 rs p1 => by
      by_cases hl : (pick perm ds).length = ps.length
      · rw [if_pos hl] at p1
        exact ⟨ds, h1, ρ1, (ha.len _ _ _ _ e).trans hkl, hl, R1, rs, p1⟩
      · rw [if_neg hl] at p1
        exact p1.elim⟩
  refine PySem.W.callWith_KW0 (h₀ := X.base) I.ok.mod.kin G.kp hall (thn run fun ws s2 ⟨zs, H2, I2, rz, ds, h1, ρ1, hl, hl2, R1, rs, p1⟩ => ⟨I2.kIn, ?_⟩) hpl
  rw [hks]
  have hw : ws.length = ks.length := by rw [← rz.length, ← rs.length, hl]
  have rp := vals_pick rz perm
  refine wpAny_call (codeAny_mono (G.ok.run X.A X.stack s2 H2 ⟨[], ks.zip ws⟩ (pick perm ws) (pick perm zs) Q (fun cls dd H' => W cls dd σ H') hr I2.env0 (B.to s2 ws I2.kIn hw) rp ⟨by rw [← (drs_pick rs perm).length]; exact hl2, ρ1, _, h1, R1, drs_pick rs perm, p1.wish⟩) fun r s' hq => ?_)
  cases r with
  | error e => exact passAt tk σ pins H2 s2 e s' I2 hq
  | ok fl =>
    cases fl with
    | ret u => exact I2.after hq
    | next => exact False.elim hq
    | brk => exact False.elim hq
    | cont => exact False.elim hq
end
/-! ### the end -/
theorem KwB.of {K : PySem.W.Frag} {x qual : Str} {params : Arguments} {body : List Stmt} {scope : Scope} {f : Addr} {fd : FuncData} {ps ks : List Str} {perm : List Nat} (F : FunD K x qual params body scope [] [] f fd)
    (h : ∀ (kV doc pm : Value) (an : Option Addr) (cdv ct : Value) (ws : List Value), ws.length = ks.length → bindArgs (PySem.W.fnOf x qual params body scope .none kV doc pm an cdv ct) ⟨[], ks.zip ws⟩ = pure (ps.zip (pick perm ws))) : KwB K fd ps ks perm := by
  obtain ⟨oc, od, dV, kV, doc, pm, an, cdv, ct, osl, rfl, lk, hcd, hD, hK⟩ := F.ex
  rcases hD with ⟨_, rfl⟩ | ⟨e, _⟩
  · exact ⟨fun s ws _ hl => .of_eq (h kV doc pm an cdv ct ws hl)⟩
  · exact absurd rfl e
theorem lookup_mem {α β : Type} [BEq α] [LawfulBEq α] : ∀ {l : List (α × β)} {a : α} {b : β}, l.lookup a = some b → (a, b) ∈ l
  | [], _, _, e => by cases e
  | (c, d) :: l, a, b, e => by
    rw [List.lookup_cons] at e
    cases q : a == c with
    | true =>
      rw [q] at e
      have h1 : a = c := eq_of_beq q
      have h2 : d = b := Option.some.inj e
      rw [h1, h2]
      exact List.mem_cons_self
    | false =>
      rw [q] at e
      exact List.mem_cons_of_mem _ (lookup_mem e)
/-- the facts of a table of classes -/
def tabFa (l : List ((Str × Str) × Bool)) : List He.Fa := l.flatMap fun q => [.glo q.1.1, .glo q.1.2, .exm q.1.1 q.1.2 q.2]
theorem tab_ok {K : PySem.W.Frag} {h : Heap} {mg : Str → Option Value} (X : K.In h) (G : h.Ns mainGlobals mg) {l : List ((Str × Str) × Bool)} (c : ∀ f ∈ tabFa l, f.ok K = true) : TabOk K mg fun x c => l.lookup (x, c) := by
  intro x y b vx vy e ex ey
  have m := lookup_mem e
  have at_ : ∀ f ∈ [He.Fa.glo x, He.Fa.glo y, He.Fa.exm x y b], f.ok K = true := fun f hf => c f (List.mem_flatMap.mpr ⟨((x, y), b), m, hf⟩)
  have g1 := He.glo_ok X G (at_ (.glo x) (by simp))
  have g2 := He.glo_ok X G (at_ (.glo y) (by simp))
  have g3 := He.exm_ok (at_ (.exm x y b) (by simp))
  rw [ex] at g1
  rw [ey] at g2
  cases g1
  cases g2
  exact g3
theorem SaysX.all {fb : List Fb} {fa : List He.Fa} {fn : List He.DefD} {K : PySem.W.Frag} (c : SaysX fb fa fn K) : ∀ f ∈ fa, f.ok K = true :=
  List.all_eq_true.mp (He.ba (show ((fa.all fun f => f.ok K) && fn.all fun d => d.ok K) = true from congrArg (fun z : He.AlD => z.1) c.d)).1
theorem walk_ofX {l : PySem.W.OpenLaw} {n k : Nat} {q : Program} {loose : List Str} {XP : (Str → Option Value) → Heap → Prop} {YP : World → Heap → Prop} {d : DefRec} {CX : World → CXT} {x : Str}
    (hn : l.most = some n) (hn2 : n ≤ sizeLine) (hdf : d.params.defaults = []) (hr : Room k callerA)
    (F : ∀ (w : World) (mg : Str → Option Value) (fa : Addr) (h : Heap), YP w h → h.Ns mainGlobals mg → mg d.name = some (.ref fa) →
      ∃ (K : PySem.W.Frag) (fd : FuncData) (sp : Sp), K.In h ∧ (∀ (s : Shared) (u : Value), BindsTo s fd ⟨[u], []⟩ [(x, u)]) ∧
        (∀ (H : Hp) (a : Addr) (ns : List Int), ns.length ≤ n → (∀ z ∈ ns, Builtin.Int.intBits z ≤ 1048576) → Only H → SqL K H a (ns.map V.int) → sp [.ref a] H (fun v _ => v = .bl true) fun _ _ _ => False) ∧
        ∀ base : Heap, K.In base → base.Ns mainGlobals mg → FnOk l.prog w K mg base (CX w) k fa fd [x] sp)
    (hCX : ∀ (w : World) (H : Hp) (s : Shared) (e : Value) (s' : Shared), CX w [] H s (fun _ _ _ => False) e s' → False) :
    PySem.W.WalkO q loose XP YP l.row.toRowW d [] (fun f vs => PySem.call f vs) := by
  refine Att.attach_callB hn hdf fun w s₀ s₁ mg mb fa o pm cd doc a vs ns G Y ho hd hcd hmg hobj hints hlen hbits hg => ?_
  obtain ⟨K, fd, sp, KX, hb, hsp, hF⟩ := F w mg fa _ Y G.T.g hmg
  exact law_call KX G.T.g G.T.b G.T.builtins G.T.nolimit hg hobj hints (Nat.le_trans hlen hn2) hr hF hb (fun H hO hS => hsp H a ns hlen hbits hO hS) fun H e s' => hCX w H s₁ e s'
/-- the script, at the beginning -/
theorem sp_start {K : PySem.W.Frag} {mg : Str → Option Value} {m : MFn} {H : Hp} {a : Addr} {ns : List Int} (hS : SqL K H a (ns.map V.int))
    (h : ∀ o : O, o = .lst (ns.map D.int) ∨ o = .rol (ns.map D.int) → ∃ h', m [.ref 0] [o] = .ok (.bl true) h') : spOf K mg 1 m [.ref a] H (fun v _ => v = .bl true) fun _ _ _ => False := by
  have drs : DRs K H (fun _ => a) 1 (ns.map D.int) (ns.map V.int) := by
    induction ns with
    | nil => exact .nil
    | cons i r ih => exact .cons (.int i) (by
        have : ∀ l : List Int, DRs K H (fun _ => a) 1 (l.map D.int) (l.map V.int) := fun l => by
          induction l with
          | nil => exact .nil
          | cons j t iht => exact .cons (.int j) iht
        exact this r)
  have go : ∀ o : O, (o = .lst (ns.map D.int) ∨ o = .rol (ns.map D.int)) → OR K H (fun _ => a) 1 a o → spOf K mg 1 m [.ref a] H (fun v _ => v = .bl true) fun _ _ _ => False := fun o ho oo => by
    obtain ⟨h', e⟩ := h o ho
    refine ⟨rfl, fun _ => a, [.ref 0], [o], ⟨fun i x ex => ?_, fun i j xs ys ei ej _ => ?_⟩, .cons (.ref (i := 0) (by show 0 < 1; decide)) .nil, ?_⟩
    · cases i with
      | zero =>
        cases ex
        exact oo
      | succ i => simp at ex
    · cases i with
      | succ i => simp at ei
      | zero => cases j with
        | zero => rfl
        | succ j => simp at ej
    · rw [e]
      intro ρ' v H' _ _ r
      cases r
      rfl
  rcases hS with (hS | ⟨z, hS⟩) | hS
  · exact go _ (.inl rfl) ⟨_, hS, drs⟩
  · exact go _ (.inr rfl) ⟨_, .inl ⟨z, hS⟩, drs⟩
  · exact go _ (.inr rfl) ⟨_, .inr hS, drs⟩
theorem cx_none {P : Program} {w : World} {H : Hp} {s : Shared} {e : Value} {s' : Shared} (c : L2.CX P w [] H s (fun _ _ _ => False) e s') : False := by
  obtain ⟨_, _, _, _, _, _, _, _, _, _, _, _, z⟩ := c
  exact z
end FM

set_option Elab.async false
set_option linter.all false
set_option maxRecDepth 100000
set_option maxHeartbeats 1000000
/-! Reckoning with the functional forms: each combinator at a frame and a heap, what follows kept folded. -/
namespace FM
open PySem PySem.Spec PyProof.Rows L2
/-- a literal, as an int -/
theorem natLit {n : Nat} : ((no_index (OfNat.ofNat n) : Nat) : Int) = (OfNat.ofNat n : Int) := rfl
section
variable {α β : Type} {h : Hm} {fr : Fr} {d x y : D}
theorem bind_ok {a : α} {f : α → Hm → Res β} : (Res.ok a h).bind f = f a h := rfl
theorem bind_exc {e : Exc} {f : α → Hm → Res β} : (Res.exc e h).bind f = .exc e h := rfl
theorem toS_ok {a : α} {f : α → Hm → RS} : (Res.ok a h).toS fr f = f a h := rfl
theorem toS_exc {e : Exc} {f : α → Hm → RS} : (Res.exc e h).toS fr f = .exc e fr h := rfl
theorem sb_nx {f : MS} : (RS.nx fr h).bind f = f fr h := rfl
theorem sb_rt {f : MS} : (RS.rt d h).bind f = .rt d h := rfl
theorem sb_bk {f : MS} : (RS.bk fr h).bind f = .bk fr h := rfl
theorem sb_ct {f : MS} : (RS.ct fr h).bind f = .ct fr h := rfl
theorem sb_exc {e : Exc} {f : MS} : (RS.exc e fr h).bind f = .exc e fr h := rfl
theorem oo_some {a : α} : ofOpt (some (a, h)) = .ok a h := rfl
/-! statements -/
theorem mSeq_ap {a b : MS} : mSeq a b fr h = (a fr h).bind b := rfl
theorem mNext_ap : mNext fr h = .nx fr h := rfl
theorem mBreak_ap : mBreak fr h = .bk fr h := rfl
theorem mCont_ap : mCont fr h = .ct fr h := rfl
theorem mRet_ap {m : ME} : mRet m fr h = (m fr h).toS fr (fun d h1 => .rt d h1) := rfl
theorem mRetN_ap : mRetN fr h = .rt .non h := rfl
theorem mExpr_ap {m : ME} : mExpr m fr h = (m fr h).toS fr (fun _ h1 => .nx fr h1) := rfl
def kIf (a b : MS) (fr : Fr) (c : Bool) (h : Hm) : RS := if c = true then a fr h else b fr h
theorem mIfS_ap {t : MT} {a b : MS} : mIfS t a b fr h = (t fr h).toS fr (kIf a b fr) := rfl
theorem kIf_t {a b : MS} : kIf a b fr true h = a fr h := rfl
theorem kIf_f {a b : MS} : kIf a b fr false h = b fr h := rfl
def kAsg (g : MG) (fr : Fr) (d : D) (h : Hm) : RS := match g d fr h with
  | some (fr', h') => .nx fr' h'
  | none => .stuck
theorem mAsg_ap {m : ME} {g : MG} : mAsg m g fr h = (m fr h).toS fr (kAsg g fr) := rfl
theorem kAsg_name {i : Nat} : kAsg (mgName i) fr d h = .nx (fr.set i (some d)) h := rfl
theorem kAsg_tup2 {i j : Nat} : kAsg (mgTup 2 (mgCons (mgName i) (mgCons (mgName j) mgNil))) fr (.tup [x, y]) h = .nx ((fr.set i (some x)).set j (some y)) h := rfl
def kPar (i j : Nat) (fr : Fr) (ds : List D) (h : Hm) : RS := match ds with
  | [a, b] => .nx ((fr.set i (some a)).set j (some b)) h
  | _ => .stuck
theorem mPar_ap {i j : Nat} {ms : MA} : mPar i j ms fr h = (ms fr h).toS fr (kPar i j fr) := rfl
theorem kPar_2 {i j : Nat} : kPar i j fr [x, y] h = .nx ((fr.set i (some x)).set j (some y)) h := rfl
def kFor (g : MG) (b : MS) (fr : Fr) (p : List D × (Hm → Bool)) (h : Hm) : RS := forL g b p.2 p.1 fr h
theorem mFor_ap {mi : MI} {g : MG} {b : MS} : mFor mi g b fr h = (mi fr h).toS fr (kFor g b fr) := rfl
theorem mRaise_ap {c : Str} : mRaise c fr h = .exc ⟨c, []⟩ fr h := rfl
def kTry (tab : Str → Str → Option Bool) (hs : Hds) (r : RS) : RS := match r with
  | .exc x fr1 h1 => hdL tab x hs fr1 h1
  | q => q
theorem mTry_ap {tab : Str → Str → Option Bool} {b : MS} {hs : Hds} : mTry tab b hs fr h = kTry tab hs (b fr h) := rfl
theorem kTry_nx {tab : Str → Str → Option Bool} {hs : Hds} : kTry tab hs (.nx fr h) = .nx fr h := rfl
theorem kTry_rt {tab : Str → Str → Option Bool} {hs : Hds} : kTry tab hs (.rt d h) = .rt d h := rfl
theorem kTry_exc {tab : Str → Str → Option Bool} {hs : Hds} {e : Exc} : kTry tab hs (.exc e fr h) = hdL tab e hs fr h := rfl
theorem hdL_yes {tab : Str → Str → Option Bool} {r : Hds} {e : Exc} {c : Str} {s : MS} {fr' : Fr} {h' : Hm} (t : tab e.cls c = some true) (q : s fr h = .nx fr' h') : hdL tab e ((c, s) :: r) fr h = .nx fr' h' := by
  simp only [hdL, t, q]
theorem hdL_no {tab : Str → Str → Option Bool} {r : Hds} {e : Exc} {c : Str} {s : MS} (t : tab e.cls c = some false) : hdL tab e ((c, s) :: r) fr h = hdL tab e r fr h := by
  simp only [hdL, t]
def finF (r : RS) : Res D := match r with
  | .nx _ h1 => .ok .non h1
  | .rt d h1 => .ok d h1
  | .exc x _ h1 => .exc x h1
  | _ => .stuck
theorem mFun_ap {n : Nat} {b : MS} {ds : List D} : mFun n b ds h = finF (b (ds.map some ++ List.replicate (n - ds.length) none) h) := rfl
theorem fin_nx : finF (.nx fr h) = .ok .non h := rfl
theorem fin_rt : finF (.rt d h) = .ok d h := rfl
theorem fin_exc {e : Exc} : finF (.exc e fr h) = .exc e h := rfl
/-! expressions -/
theorem mC_ap : mC d fr h = .ok d h := rfl
theorem mVar_0 {o : Option D} {l : Fr} : mVar 0 (some d :: l) h = .ok d h := rfl
theorem mVar_s {i : Nat} {o : Option D} {l : Fr} : mVar (i + 1) (o :: l) h = mVar i l h := rfl
theorem mVar_at {i : Nat} (e : fr[i]? = some (some d)) : mVar i fr h = .ok d h := by simp only [mVar, e]
def kB1 (g : G2) (mb : ME) (fr : Fr) (x : D) (h : Hm) : Res D := (mb fr h).bind fun y h2 => ofOpt (g x y h2)
def kB2 (g : G2) (x y : D) (h : Hm) : Res D := ofOpt (g x y h)
theorem mBin_ap {g : G2} {ma mb : ME} : mBin g ma mb fr h = (ma fr h).bind (kB1 g mb fr) := rfl
theorem kB1_ap {g : G2} {mb : ME} : kB1 g mb fr x h = (mb fr h).bind (kB2 g x) := rfl
theorem kB2_ap {g : G2} : kB2 g x y h = ofOpt (g x y h) := rfl
def kUn (g : D → Option D) (x : D) (h : Hm) : Res D := match g x with
  | some d => .ok d h
  | none => .stuck
theorem mUn_ap {g : D → Option D} {ma : ME} : mUn g ma fr h = (ma fr h).bind (kUn g) := rfl
theorem kUn_neg {i : Int} : kUn gNeg (.int i) h = .ok (.int (-i)) h := rfl
theorem mNil_ap : mNil fr h = .ok [] h := rfl
def kC1 (ms : MA) (fr : Fr) (x : D) (h : Hm) : Res (List D) := (ms fr h).bind fun xs h2 => .ok (x :: xs) h2
def kC2 (x : D) (xs : List D) (h : Hm) : Res (List D) := .ok (x :: xs) h
theorem mCons_ap {m : ME} {ms : MA} : mCons m ms fr h = (m fr h).bind (kC1 ms fr) := rfl
theorem kC1_ap {ms : MA} : kC1 ms fr x h = (ms fr h).bind (kC2 x) := rfl
theorem kC2_ap {xs : List D} : kC2 x xs h = .ok (x :: xs) h := rfl
def kTup (ds : List D) (h : Hm) : Res D := if ds.length ≤ 1000 then .ok (.tup ds) h else .stuck
theorem mTup_ap {ms : MA} : mTup ms fr h = (ms fr h).bind kTup := rfl
theorem kTup_ap {ds : List D} (l : ds.length ≤ 1000 := by decide) : kTup ds h = .ok (.tup ds) h := if_pos l
def kLst (ds : List D) (h : Hm) : Res D := if ds.length ≤ 1000 then .ok (.ref h.length) (h ++ [O.lst ds]) else .stuck
theorem mLst_ap {ms : MA} : mLst ms fr h = (ms fr h).bind kLst := rfl
theorem kLst_ap {ds : List D} (l : ds.length ≤ 1000 := by decide) : kLst ds h = .ok (.ref h.length) (h ++ [O.lst ds]) := if_pos l
theorem mCall_ap {f : MFn} {ms : MA} : mCall f ms fr h = (ms fr h).bind f := rfl
def kPick (perm : List Nat) (n : Nat) (ds : List D) (h : Hm) : Res (List D) := if (pick perm ds).length = n then .ok (pick perm ds) h else .stuck
theorem mPick_ap {perm : List Nat} {n : Nat} {ms : MA} : mPick perm n ms fr h = (ms fr h).bind (kPick perm n) := rfl
theorem kPick_01 : kPick [0, 1] 2 [x, y] h = .ok [x, y] h := rfl
theorem kPick_10 : kPick [1, 0] 2 [x, y] h = .ok [y, x] h := rfl
def kG (g : GF) (ds : List D) (h : Hm) : Res D := ofOpt (g ds h)
theorem mB_ap {g : GF} {ms : MA} : mB g ms fr h = (ms fr h).bind (kG g) := rfl
theorem kG_ap {g : GF} {ds : List D} : kG g ds h = ofOpt (g ds h) := rfl
def kIfE (ma mb : ME) (fr : Fr) (c : Bool) (h : Hm) : Res D := if c = true then ma fr h else mb fr h
theorem mIf_ap {t : MT} {ma mb : ME} : mIf t ma mb fr h = (t fr h).bind (kIfE ma mb fr) := rfl
theorem kIfE_t {a b : ME} : kIfE a b fr true h = a fr h := rfl
theorem kIfE_f {a b : ME} : kIfE a b fr false h = b fr h := rfl
def kAnd (mb : ME) (fr : Fr) (x : D) (h : Hm) : Res D := match x with
  | .bl true => mb fr h
  | .bl false => .ok (.bl false) h
  | _ => .stuck
theorem mAnd_ap {ma mb : ME} : mAnd ma mb fr h = (ma fr h).bind (kAnd mb fr) := rfl
theorem kAnd_t {mb : ME} : kAnd mb fr (.bl true) h = mb fr h := rfl
theorem kAnd_f {mb : ME} : kAnd mb fr (.bl false) h = .ok (.bl false) h := rfl
def kOr (mb : ME) (fr : Fr) (x : D) (h : Hm) : Res D := match x with
  | .bl true => .ok (.bl true) h
  | .bl false => mb fr h
  | _ => .stuck
theorem mOr_ap {ma mb : ME} : mOr ma mb fr h = (ma fr h).bind (kOr mb fr) := rfl
theorem kOr_t {mb : ME} : kOr mb fr (.bl true) h = .ok (.bl true) h := rfl
theorem kOr_f {mb : ME} : kOr mb fr (.bl false) h = mb fr h := rfl
def kNot (x : D) (h : Hm) : Res D := match x with
  | .bl b => .ok (.bl (!b)) h
  | _ => .stuck
theorem mNot_ap {ma : ME} : mNot ma fr h = (ma fr h).bind kNot := rfl
theorem kNot_ap {b : Bool} : kNot (.bl b) h = .ok (.bl (!b)) h := rfl
/-! tests -/
def kBlT (x : D) (h : Hm) : Res Bool := match x with
  | .bl b => .ok b h
  | _ => .stuck
theorem blT_ap {m : ME} : blT m fr h = (m fr h).bind kBlT := rfl
theorem kBlT_ap {b : Bool} : kBlT (.bl b) h = .ok b h := rfl
def kTru (x : D) (h : Hm) : Res Bool := match truD x h with
  | some b => .ok b h
  | none => .stuck
theorem mTru_ap {m : ME} : mTru truD m fr h = (m fr h).bind kTru := rfl
theorem kTru_bl {b : Bool} : kTru (.bl b) h = .ok b h := rfl
theorem kTru_non : kTru .non h = .ok false h := rfl
theorem kTru_int {i : Int} : kTru (.int i) h = .ok (i != 0) h := rfl
theorem kTru_tup {ds : List D} : kTru (.tup ds) h = .ok (!ds.isEmpty) h := rfl
def kTnot (b : Bool) (h : Hm) : Res Bool := .ok (!b) h
theorem mTnot_ap {t : MT} : mTnot t fr h = (t fr h).bind kTnot := rfl
theorem kTnot_ap {b : Bool} : kTnot b h = .ok (!b) h := rfl
def kTand (u : MT) (fr : Fr) (b : Bool) (h : Hm) : Res Bool := if b = true then u fr h else .ok false h
theorem mTand_ap {t u : MT} : mTand t u fr h = (t fr h).bind (kTand u fr) := rfl
theorem kTand_t {u : MT} : kTand u fr true h = u fr h := rfl
theorem kTand_f {u : MT} : kTand u fr false h = .ok false h := rfl
def kTor (u : MT) (fr : Fr) (b : Bool) (h : Hm) : Res Bool := if b = true then .ok true h else u fr h
theorem mTor_ap {t u : MT} : mTor t u fr h = (t fr h).bind (kTor u fr) := rfl
theorem kTor_t {u : MT} : kTor u fr true h = .ok true h := rfl
theorem kTor_f {u : MT} : kTor u fr false h = u fr h := rfl
def kIsi (t : Ty) (x : D) (h : Hm) : Res D := match tyD x h with
  | some a => .ok (.bl (isiT a t)) h
  | none => .stuck
theorem mIsi_ap {t : Ty} {m : ME} : mIsi t m fr h = (m fr h).bind (kIsi t) := rfl
theorem kIsi_int {t : Ty} {i : Int} : kIsi t (.int i) h = .ok (.bl (isiT .int t)) h := rfl
theorem kIsi_bl {t : Ty} {i : Bool} : kIsi t (.bl i) h = .ok (.bl (isiT .bool t)) h := rfl
theorem kIsi_str {t : Ty} {i : Str} : kIsi t (.str i) h = .ok (.bl (isiT .str t)) h := rfl
theorem kIsi_non {t : Ty} : kIsi t .non h = .ok (.bl (isiT .non t)) h := rfl
theorem kIsi_tup {t : Ty} {ds : List D} : kIsi t (.tup ds) h = .ok (.bl (isiT .tup t)) h := rfl
theorem kIsi_lst {t : Ty} {a : Nat} {ds : List D} (e : h[a]? = some (.lst ds)) : kIsi t (.ref a) h = .ok (.bl (isiT .lst t)) h := by simp only [kIsi, tyD, e]
/-! operators -/
theorem gI_yes {f : Int → Int → D} {i j : Int} : gI yes2 f (.int i) (.int j) h = some (f i j, h) := rfl
theorem gAdd_int {i j : Int} : gAdd (.int i) (.int j) h = some (.int (i + j), h) := rfl
theorem gSub_int {i j : Int} : gSubI (.int i) (.int j) h = some (.int (i - j), h) := rfl
theorem gMul_int {i j : Int} (c : mulC i j = true) : gMulI (.int i) (.int j) h = some (.int (i * j), h) := if_pos c
theorem gFdiv_int {i j : Int} (c : divC i j = true) : gFdiv (.int i) (.int j) h = some (.int (i.fdiv j), h) := if_pos c
theorem gMod_int {i j : Int} (c : j ≠ 0) : gMod (.int i) (.int j) h = some (.int (i.fmod j), h) := if_pos (decide_eq_true c)
theorem gLt_int {i j : Int} : gLt (.int i) (.int j) h = some (.bl (decide (i < j)), h) := rfl
theorem gLe_int {i j : Int} : gLe (.int i) (.int j) h = some (.bl (decide (i ≤ j)), h) := rfl
theorem gGt_int {i j : Int} : gGt (.int i) (.int j) h = some (.bl (decide (j < i)), h) := rfl
theorem gGe_int {i j : Int} : gGe (.int i) (.int j) h = some (.bl (decide (j ≤ i)), h) := rfl
theorem gEq_int {i j : Int} : gEq (.int i) (.int j) h = some (.bl (decide (i = j)), h) := rfl
theorem gNe_int {i j : Int} : gNe (.int i) (.int j) h = some (.bl (!decide (i = j)), h) := rfl
theorem gEq_str {i j : Str} : gEq (.str i) (.str j) h = some (.bl (decide (i = j)), h) := rfl
theorem gNe_str {i j : Str} : gNe (.str i) (.str j) h = some (.bl (!decide (i = j)), h) := rfl
theorem gEq_bl {i j : Bool} : gEq (.bl i) (.bl j) h = some (.bl (decide (i = j)), h) := rfl
theorem gNe_bl {i j : Bool} : gNe (.bl i) (.bl j) h = some (.bl (!decide (i = j)), h) := rfl
theorem gIsN_ap : gIsN x .non h = some (.bl (isN x), h) := rfl
theorem gNotN_ap : gNotN x .non h = some (.bl (!isN x), h) := rfl
theorem ix_0 {a : D} {l : List D} : gIx (.tup (a :: l)) (.int 0) h = some (a, h) := by
  have : atI (a :: l) 0 = some a := atI_nat (j := 0) rfl
  simp only [gIx, this]
theorem ix_1 {a b : D} {l : List D} : gIx (.tup (a :: b :: l)) (.int 1) h = some (b, h) := by
  have : atI (a :: b :: l) 1 = some b := atI_nat (j := 1) rfl
  simp only [gIx, this]
theorem ix_2 {a b c : D} {l : List D} : gIx (.tup (a :: b :: c :: l)) (.int 2) h = some (c, h) := by
  have : atI (a :: b :: c :: l) 2 = some c := atI_nat (j := 2) rfl
  simp only [gIx, this]
/-- an item of a list -/
theorem ix_l {a : Nat} {ds : List D} {j : Nat} (e : h[a]? = some (.lst ds)) (i : ds[j]? = some d) : gIx (.ref a) (.int (j : Int)) h = some (d, h) := by
  have : atI ds (j : Int) = some d := atI_nat i
  simp only [gIx, e, this]
theorem ix_li {a : Nat} {ds : List D} {j : Int} (h0 : 0 ≤ j) (e : h[a]? = some (.lst ds)) (i : ds[j.toNat]? = some d) : gIx (.ref a) (.int j) h = some (d, h) := by
  have q := ix_l (h := h) e i
  rw [show ((j.toNat : Nat) : Int) = j by omega] at q
  exact q
theorem ix_l0 {a : Nat} {y : D} {l : List D} (e : h[a]? = some (.lst (y :: l))) : gIx (.ref a) (.int 0) h = some (y, h) := ix_l (j := 0) e rfl
theorem ix_l1 {a : Nat} {y z : D} {l : List D} (e : h[a]? = some (.lst (y :: z :: l))) : gIx (.ref a) (.int 1) h = some (z, h) := ix_l (j := 1) e rfl
theorem ix_l2 {a : Nat} {y z u : D} {l : List D} (e : h[a]? = some (.lst (y :: z :: u :: l))) : gIx (.ref a) (.int 2) h = some (u, h) := ix_l (j := 2) e rfl
theorem gLen_tup {ds : List D} : gLen [.tup ds] h = some (.int (ds.length : Nat), h) := rfl
theorem gLen_l {a : Nat} {ds : List D} (e : h[a]? = some (.lst ds)) : gLen [.ref a] h = some (.int (ds.length : Nat), h) := by simp only [gLen, lenD, e]
theorem gAbs_int {i : Int} : gAbs [.int i] h = some (.int (if i < 0 then -i else i), h) := rfl
theorem gInt_int {i : Int} : gInt [.int i] h = some (.int i, h) := rfl
theorem gInt_bl {b : Bool} : gInt [.bl b] h = some (.int (if b = true then 1 else 0), h) := rfl
theorem gGcd_int {i j : Int} : gGcd [.int i, .int j] h = some (.int ((Nat.gcd i.natAbs j.natAbs : Nat) : Int), h) := rfl
theorem gMin2_int {i j : Int} : gMin2 [.int i, .int j] h = some (.int (if j < i then j else i), h) := rfl
theorem set_l {a : Nat} {ds : List D} {k : Int} {j : Nat} (e : h[a]? = some (.lst ds)) (i : ixN ds.length k = some j) : setD (.ref a) (.int k) d h = some (h.set a (O.lst (ds.set j d))) := by simp only [setD, e, i]
theorem kAsg_sub {g : D → D → D → Hm → Option Hm} {mo mi : ME} {o i : D} {h1 h2 h3 : Hm} (e1 : mo fr h = .ok o h1) (e2 : mi fr h1 = .ok i h2) (e3 : g o i d h2 = some h3) : kAsg (mgSub g mo mi) fr d h = .nx fr h3 := by
  simp only [kAsg, mgSub, e1, e2, e3]
end
/-! sizes -/
theorem log2_lt {n k : Nat} (h : n < 2 ^ k) (hk : 0 < k) : n.log2 < k := by
  by_cases h0 : n = 0
  · subst h0; simpa using hk
  · exact (Nat.log2_lt h0).mpr h
theorem divC_ok {t j : Int} (h0 : j ≠ 0) (hj : j.natAbs < 2 ^ 8000) : divC t j = true := by
  unfold divC
  simp only [Bool.and_eq_true, decide_eq_true_eq]
  exact ⟨h0, Nat.lt_trans (log2_lt hj (by omega)) (by omega)⟩
theorem mulC_of {i j : Int} {a b : Nat} (hi : i.natAbs < 2 ^ a) (hj : j.natAbs < 2 ^ b) (h : a + b ≤ 1000000 := by omega) (h0 : 0 < a := by omega) (h1 : 0 < b := by omega) : mulC i j = true := by
  unfold mulC
  simp only [Bool.or_eq_true, decide_eq_true_eq]
  exact .inr (by have := log2_lt hi h0; have := log2_lt hj h1; omega)
theorem mulC_r {i j : Int} (h : -(2 ^ 64) < j ∧ j < 2 ^ 64) : mulC i j = true := by
  unfold mulC
  simp only [Bool.or_eq_true, decide_eq_true_eq]
  exact .inl (.inr h)
theorem mulC_l {i j : Int} (h : -(2 ^ 64) < i ∧ i < 2 ^ 64) : mulC i j = true := by
  unfold mulC
  simp only [Bool.or_eq_true, decide_eq_true_eq]
  exact .inl (.inl h)
/-- what stood stands -/
def Ext (h h' : Hm) : Prop := h.length ≤ h'.length ∧ ∀ i, i < h.length → h'[i]? = h[i]?
theorem Ext.refl {h : Hm} : Ext h h := ⟨Nat.le_refl _, fun _ _ => rfl⟩
theorem Ext.trans {a b c : Hm} (x : Ext a b) (y : Ext b c) : Ext a c := ⟨Nat.le_trans x.1 y.1, fun i hi => (y.2 i (Nat.lt_of_lt_of_le hi x.1)).trans (x.2 i hi)⟩
theorem Ext.push {h : Hm} {o : O} : Ext h (h ++ [o]) := ⟨by rw [List.length_append]; omega, fun i hi => List.getElem?_append_left hi⟩
theorem Ext.get {h h' : Hm} (x : Ext h h') {i : Nat} {o : O} (e : h[i]? = some o) : h'[i]? = some o := by
  rw [x.2 i (List.getElem?_eq_some_iff.mp e).1]
  exact e
theorem push_get {h : Hm} {o : O} : (h ++ [o])[h.length]? = some o := by rw [List.getElem?_append_right (Nat.le_refl _), Nat.sub_self]; rfl
end FM

set_option Elab.async false
set_option linter.all false
set_option maxRecDepth 100000
set_option maxHeartbeats 4000000
namespace K63
open PySem PySem.Spec PyProof.Rows L2 FM
def top (i : Nat) : Stmt := PySem.Challenge.pw_flatfuns_k63_ratios_of_great_integers.main.body.getD i (.Pass ⟨0, 0, 0, 0⟩)
@[irreducible] def bigN : Nat := 2 ^ 100000
def tabL : List ((Str × Str) × Bool) := [(("FlatError", "FlatError"), true), (("FlatError", "BadRatio"), false), (("FlatError", "ZeroBottom"), false), (("BadRatio", "FlatError"), true), (("BadRatio", "BadRatio"), true), (("BadRatio", "ZeroBottom"), false), (("ZeroBottom", "FlatError"), true), (("ZeroBottom", "BadRatio"), false), (("ZeroBottom", "ZeroBottom"), true)]
def tab (x c : Str) : Option Bool := tabL.lookup (x, c)
abbrev s_is_int : Stmt := top 6
abbrev N_is_int : List Str := ["x"]
theorem sc_is_int : FnScope N_is_int ["x"] (defScope s_is_int) := ⟨rfl, rfl, rfl, by decide +kernel, rfl, by decide +kernel, by decide +kernel⟩
def b_is_int : MS := (mRet (mAnd (mIsi .int (mVar 0)) (mNot (mIsi .bool (mVar 0)))))
def m_is_int : MFn := mFun 1 b_is_int
abbrev s_lowest : Stmt := top 8
abbrev N_lowest : List Str := ["top", "bottom", "common"]
theorem sc_lowest : FnScope N_lowest ["top", "bottom"] (defScope s_lowest) := ⟨rfl, rfl, rfl, by decide +kernel, rfl, by decide +kernel, by decide +kernel⟩
def b_lowest : MS := (mSeq (mIfS (blT (mBin gLt (mVar 1) (mC (.int 0)))) (mSeq (mAsg (mUn gNeg (mVar 0)) (mgName 0))
    (mAsg (mUn gNeg (mVar 1)) (mgName 1))) mNext)
    (mSeq (mAsg (mB gGcd (mCons (mVar 0) (mCons (mVar 1) mNil))) (mgName 2))
    (mRet (mTup (mCons (mBin gFdiv (mVar 0) (mVar 2)) (mCons (mBin gFdiv (mVar 1) (mVar 2)) mNil))))))
def m_lowest : MFn := mFun 3 b_lowest
abbrev s_is_ratio : Stmt := top 9
abbrev N_is_ratio : List Str := ["thing"]
theorem sc_is_ratio : FnScope N_is_ratio ["thing"] (defScope s_is_ratio) := ⟨rfl, rfl, rfl, by decide +kernel, rfl, by decide +kernel, by decide +kernel⟩
def b_is_ratio : MS := (mSeq (mIfS (mTor (mTnot (mTru truD (mIsi .tup (mVar 0)))) (blT (mBin gNe (mB gLen (mCons (mVar 0) mNil)) (mC (.int 2))))) (mRet (mC (.bl false))) mNext)
    (mSeq (mIfS (mTor (mTnot (mTru truD (mCall m_is_int (mCons (mBin gIx (mVar 0) (mC (.int 0))) mNil)))) (mTor (mTnot (mTru truD (mCall m_is_int (mCons (mBin gIx (mVar 0) (mC (.int 1))) mNil)))) (blT (mBin gLt (mBin gIx (mVar 0) (mC (.int 1))) (mC (.int 1)))))) (mRet (mC (.bl false))) mNext)
    (mRet (mBin gEq (mB gGcd (mCons (mBin gIx (mVar 0) (mC (.int 0))) (mCons (mBin gIx (mVar 0) (mC (.int 1))) mNil))) (mC (.int 1))))))
def m_is_ratio : MFn := mFun 1 b_is_ratio
abbrev s_need_ratio : Stmt := top 10
abbrev N_need_ratio : List Str := ["thing"]
theorem sc_need_ratio : FnScope N_need_ratio ["thing"] (defScope s_need_ratio) := ⟨rfl, rfl, rfl, by decide +kernel, rfl, by decide +kernel, by decide +kernel⟩
def b_need_ratio : MS := (mIfS (mTnot (mTru truD (mCall m_is_ratio (mCons (mVar 0) mNil)))) (mRaise "BadRatio") mNext)
def m_need_ratio : MFn := mFun 1 b_need_ratio
abbrev s_ratio : Stmt := top 11
abbrev N_ratio : List Str := ["top", "bottom"]
theorem sc_ratio : FnScope N_ratio ["top", "bottom"] (defScope s_ratio) := ⟨rfl, rfl, rfl, by decide +kernel, rfl, by decide +kernel, by decide +kernel⟩
def b_ratio : MS := (mSeq (mIfS (blT (mBin gEq (mVar 1) (mC (.int 0)))) (mRaise "ZeroBottom") mNext)
    (mRet (mCall m_lowest (mCons (mVar 0) (mCons (mVar 1) mNil)))))
def m_ratio : MFn := mFun 2 b_ratio
abbrev s_plus : Stmt := top 12
abbrev N_plus : List Str := ["a", "b"]
theorem sc_plus : FnScope N_plus ["a", "b"] (defScope s_plus) := ⟨rfl, rfl, rfl, by decide +kernel, rfl, by decide +kernel, by decide +kernel⟩
def b_plus : MS := (mSeq (mExpr (mCall m_need_ratio (mCons (mVar 0) mNil)))
    (mSeq (mExpr (mCall m_need_ratio (mCons (mVar 1) mNil)))
    (mRet (mCall m_lowest (mCons (mBin gAdd (mBin gMulI (mBin gIx (mVar 0) (mC (.int 0))) (mBin gIx (mVar 1) (mC (.int 1)))) (mBin gMulI (mBin gIx (mVar 1) (mC (.int 0))) (mBin gIx (mVar 0) (mC (.int 1))))) (mCons (mBin gMulI (mBin gIx (mVar 0) (mC (.int 1))) (mBin gIx (mVar 1) (mC (.int 1)))) mNil))))))
def m_plus : MFn := mFun 2 b_plus
abbrev s_minus : Stmt := top 13
abbrev N_minus : List Str := ["a", "b"]
theorem sc_minus : FnScope N_minus ["a", "b"] (defScope s_minus) := ⟨rfl, rfl, rfl, by decide +kernel, rfl, by decide +kernel, by decide +kernel⟩
def b_minus : MS := (mSeq (mExpr (mCall m_need_ratio (mCons (mVar 0) mNil)))
    (mSeq (mExpr (mCall m_need_ratio (mCons (mVar 1) mNil)))
    (mRet (mCall m_lowest (mCons (mBin gSubI (mBin gMulI (mBin gIx (mVar 0) (mC (.int 0))) (mBin gIx (mVar 1) (mC (.int 1)))) (mBin gMulI (mBin gIx (mVar 1) (mC (.int 0))) (mBin gIx (mVar 0) (mC (.int 1))))) (mCons (mBin gMulI (mBin gIx (mVar 0) (mC (.int 1))) (mBin gIx (mVar 1) (mC (.int 1)))) mNil))))))
def m_minus : MFn := mFun 2 b_minus
abbrev s_product : Stmt := top 14
abbrev N_product : List Str := ["a", "b"]
theorem sc_product : FnScope N_product ["a", "b"] (defScope s_product) := ⟨rfl, rfl, rfl, by decide +kernel, rfl, by decide +kernel, by decide +kernel⟩
def b_product : MS := (mSeq (mExpr (mCall m_need_ratio (mCons (mVar 0) mNil)))
    (mSeq (mExpr (mCall m_need_ratio (mCons (mVar 1) mNil)))
    (mRet (mCall m_lowest (mCons (mBin gMulI (mBin gIx (mVar 0) (mC (.int 0))) (mBin gIx (mVar 1) (mC (.int 0)))) (mCons (mBin gMulI (mBin gIx (mVar 0) (mC (.int 1))) (mBin gIx (mVar 1) (mC (.int 1)))) mNil))))))
def m_product : MFn := mFun 2 b_product
abbrev s_quotient : Stmt := top 15
abbrev N_quotient : List Str := ["a", "b"]
theorem sc_quotient : FnScope N_quotient ["a", "b"] (defScope s_quotient) := ⟨rfl, rfl, rfl, by decide +kernel, rfl, by decide +kernel, by decide +kernel⟩
def b_quotient : MS := (mSeq (mExpr (mCall m_need_ratio (mCons (mVar 0) mNil)))
    (mSeq (mExpr (mCall m_need_ratio (mCons (mVar 1) mNil)))
    (mSeq (mIfS (blT (mBin gEq (mBin gIx (mVar 1) (mC (.int 0))) (mC (.int 0)))) (mRaise "ZeroBottom") mNext)
    (mRet (mCall m_lowest (mCons (mBin gMulI (mBin gIx (mVar 0) (mC (.int 0))) (mBin gIx (mVar 1) (mC (.int 1)))) (mCons (mBin gMulI (mBin gIx (mVar 0) (mC (.int 1))) (mBin gIx (mVar 1) (mC (.int 0)))) mNil)))))))
def m_quotient : MFn := mFun 2 b_quotient
abbrev s_below : Stmt := top 16
abbrev N_below : List Str := ["a", "b"]
theorem sc_below : FnScope N_below ["a", "b"] (defScope s_below) := ⟨rfl, rfl, rfl, by decide +kernel, rfl, by decide +kernel, by decide +kernel⟩
def b_below : MS := (mSeq (mExpr (mCall m_need_ratio (mCons (mVar 0) mNil)))
    (mSeq (mExpr (mCall m_need_ratio (mCons (mVar 1) mNil)))
    (mRet (mBin gLt (mBin gMulI (mBin gIx (mVar 0) (mC (.int 0))) (mBin gIx (mVar 1) (mC (.int 1)))) (mBin gMulI (mBin gIx (mVar 1) (mC (.int 0))) (mBin gIx (mVar 0) (mC (.int 1))))))))
def m_below : MFn := mFun 2 b_below
abbrev s_law_well : Stmt := top 18
abbrev N_law_well : List Str := ["script", "cell"]
theorem sc_law_well : FnScope N_law_well ["script"] (defScope s_law_well) := ⟨rfl, rfl, rfl, by decide +kernel, rfl, by decide +kernel, by decide +kernel⟩
def b_law_well : MS := (mRet (mLst (mCons (mLc (mItL (mSlice (mVar 0) mNoPart (mPart (mC (.int 63))))) (mgName 1) mYes (mB gInt (mCons (mVar 1) mNil)) [1]) (mCons (mC (.int 0)) (mCons (mC (.int 0)) mNil)))))
def m_law_well : MFn := mFun 2 b_law_well
abbrev s_law_draw : Stmt := top 19
abbrev N_law_draw : List Str := ["well", "many", "at", "cell", "got"]
theorem sc_law_draw : FnScope N_law_draw ["well", "many"] (defScope s_law_draw) := ⟨rfl, rfl, rfl, by decide +kernel, rfl, by decide +kernel, by decide +kernel⟩
def b_law_draw : MS := (mSeq (mIfS (blT (mBin gLt (mBin gIx (mVar 0) (mC (.int 2))) (mVar 1))) (mSeq (mAsg (mBin gIx (mVar 0) (mC (.int 1))) (mgName 2))
    (mSeq (mAsg (mIf (blT (mBin gLt (mVar 2) (mB gLen (mCons (mBin gIx (mVar 0) (mC (.int 0))) mNil)))) (mBin gAdd (mBin gMulI (mB gAbs (mCons (mBin gIx (mBin gIx (mVar 0) (mC (.int 0))) (mVar 2)) mNil)) (mC (.int 2))) (mB gInt (mCons (mBin gLt (mBin gIx (mBin gIx (mVar 0) (mC (.int 0))) (mVar 2)) (mC (.int 0))) mNil))) (mBin gAdd (mBin gMulI (mVar 2) (mVar 2)) (mC (.int 3)))) (mgName 3))
    (mSeq (mIfS (blT (mBin gLt (mVar 3) (mBin gPow (mC (.int 10)) (mC (.int 18))))) (mSeq (mAsg (mBin gMulI (mBin gAdd (mVar 3) (mC (.int 472882027))) (mBin gAdd (mBin gAdd (mBin gMulI (mVar 3) (mC (.int 858599509))) (mBin gMulI (mVar 2) (mC (.int 674506081)))) (mC (.int 961748941)))) (mgName 3))
    (mAsg (mBin gAdd (mBin gFdiv (mBin gMulI (mVar 3) (mVar 3)) (mC (.int 1013))) (mBin gMulI (mVar 3) (mC (.int 6291469)))) (mgName 3))) mNext)
    (mSeq (mAsg (mBin gAdd (mVar 2) (mC (.int 1))) (mgSub setD (mVar 0) (mC (.int 1))))
    (mAsg (mVar 3) (mgSub setD (mVar 0) (mC (.int 2)))))))) mNext)
    (mSeq (mAsg (mBin gMod (mB gInt (mCons (mBin gIx (mVar 0) (mC (.int 2))) mNil)) (mVar 1)) (mgName 4))
    (mSeq (mAsg (mBin gFdiv (mBin gIx (mVar 0) (mC (.int 2))) (mVar 1)) (mgSub setD (mVar 0) (mC (.int 2))))
    (mRet (mVar 4)))))
def m_law_draw : MFn := mFun 5 b_law_draw
abbrev s_law_one : Stmt := top 20
abbrev N_law_one : List Str := ["well", "some"]
theorem sc_law_one : FnScope N_law_one ["well", "some"] (defScope s_law_one) := ⟨rfl, rfl, rfl, by decide +kernel, rfl, by decide +kernel, by decide +kernel⟩
def b_law_one : MS := (mRet (mBin gIx (mVar 1) (mCall m_law_draw (mCons (mVar 0) (mCons (mB gLen (mCons (mVar 1) mNil)) mNil)))))
def m_law_one : MFn := mFun 2 b_law_one
abbrev s_law_same : Stmt := top 21
abbrev N_law_same : List Str := ["found", "due", "k"]
theorem sc_law_same : FnScope N_law_same ["found", "due"] (defScope s_law_same) := ⟨rfl, rfl, rfl, by decide +kernel, rfl, by decide +kernel, by decide +kernel⟩
def b_law_same (m_law_samen : MFn) : MS := (mSeq (mIfS (mTru truD (mIsi .tup (mVar 1))) (mSeq (mIfS (mTor (mTnot (mTru truD (mIsi .tup (mVar 0)))) (blT (mBin gNe (mB gLen (mCons (mVar 0) mNil)) (mB gLen (mCons (mVar 1) mNil))))) (mRet (mC (.bl false))) mNext)
    (mRet (mBin gEq (mLc (mRng1 (mCons (mB gLen (mCons (mVar 1) mNil)) mNil)) (mgName 2) (mTnot (mTru truD (mCall m_law_samen (mCons (mBin gIx (mVar 0) (mVar 2)) (mCons (mBin gIx (mVar 1) (mVar 2)) mNil))))) (mVar 2) [2]) (mLst mNil)))) mNext)
    (mSeq (mIfS (mTor (blT (mBin gIsN (mVar 1) (mC .non))) (mTru truD (mIsi .str (mVar 1)))) (mRet (mAnd (mBin gEq (mIsi .str (mVar 0)) (mIsi .str (mVar 1))) (mBin gEq (mVar 0) (mVar 1)))) mNext)
    (mRet (mAnd (mIsi .int (mVar 0)) (mAnd (mNot (mIsi .bool (mVar 0))) (mBin gEq (mVar 0) (mVar 1)))))))
def m_law_same : Nat → MFn
  | 0 => mStuck
  | n + 1 => mFun 3 (b_law_same (m_law_same n))
abbrev s_law_common : Stmt := top 22
abbrev N_law_common : List Str := ["a", "b"]
theorem sc_law_common : FnScope N_law_common ["a", "b"] (defScope s_law_common) := ⟨rfl, rfl, rfl, by decide +kernel, rfl, by decide +kernel, by decide +kernel⟩
def b_law_common : MS := (mSeq (mPar 0 1 (mCons (mB gAbs (mCons (mVar 0) mNil)) (mCons (mB gAbs (mCons (mVar 1) mNil)) mNil)))
    (mSeq (mWhile bigN (blT (mBin gNe (mVar 1) (mC (.int 0)))) (mPar 0 1 (mCons (mVar 1) (mCons (mBin gMod (mB gInt (mCons (mVar 0) mNil)) (mVar 1)) mNil))))
    (mRet (mVar 0))))
def m_law_common : MFn := mFun 2 b_law_common
abbrev s_law_short : Stmt := top 23
abbrev N_law_short : List Str := ["top", "bottom", "common"]
theorem sc_law_short : FnScope N_law_short ["top", "bottom"] (defScope s_law_short) := ⟨rfl, rfl, rfl, by decide +kernel, rfl, by decide +kernel, by decide +kernel⟩
def b_law_short : MS := (mSeq (mAsg (mBin gMulI (mCall m_law_common (mCons (mVar 0) (mCons (mVar 1) mNil))) (mIf (blT (mBin gGt (mVar 1) (mC (.int 0)))) (mC (.int 1)) (mUn gNeg (mC (.int 1))))) (mgName 2))
    (mRet (mTup (mCons (mBin gFdiv (mVar 0) (mVar 2)) (mCons (mBin gFdiv (mVar 1) (mVar 2)) mNil)))))
def m_law_short : MFn := mFun 3 b_law_short
abbrev s_law_integer : Stmt := top 24
abbrev N_law_integer : List Str := ["well", "found", "turn"]
theorem sc_law_integer : FnScope N_law_integer ["well"] (defScope s_law_integer) := ⟨rfl, rfl, rfl, by decide +kernel, rfl, by decide +kernel, by decide +kernel⟩
def b_law_integer : MS := (mSeq (mAsg (mBin gSubI (mCall m_law_draw (mCons (mVar 0) (mCons (mC (.int 13)) mNil))) (mC (.int 6))) (mgName 1))
    (mSeq (mFor (mRng1 (mCons (mCall m_law_draw (mCons (mVar 0) (mCons (mC (.int 4)) mNil))) mNil)) (mgName 2) (mAsg (mBin gMulI (mVar 1) (mCall m_law_one (mCons (mVar 0) (mCons (mLst (mCons (mC (.int 2)) (mCons (mC (.int 6)) (mCons (mBin gAdd (mBin gPow (mC (.int 10)) (mC (.int 9))) (mC (.int 7))) (mCons (mBin gPow (mC (.int 3)) (mC (.int 40))) (mCons (mBin gPow (mC (.int 12)) (mC (.int 9))) (mCons (mUn gNeg (mC (.int 35))) (mCons (mBin gAdd (mCall m_law_draw (mCons (mVar 0) (mCons (mC (.int 1000)) mNil))) (mC (.int 1))) mNil)))))))) mNil)))) (mgName 1)))
    (mRet (mVar 1))))
def m_law_integer : MFn := mFun 3 b_law_integer
abbrev s_law_ratio : Stmt := top 25
abbrev N_law_ratio : List Str := ["well", "bottom"]
theorem sc_law_ratio : FnScope N_law_ratio ["well"] (defScope s_law_ratio) := ⟨rfl, rfl, rfl, by decide +kernel, rfl, by decide +kernel, by decide +kernel⟩
def b_law_ratio : MS := (mSeq (mAsg (mCall m_law_integer (mCons (mVar 0) mNil)) (mgName 1))
    (mRet (mCall m_law_short (mCons (mCall m_law_integer (mCons (mVar 0) mNil)) (mCons (mIf (blT (mBin gNe (mVar 1) (mC (.int 0)))) (mVar 1) (mC (.int 1))) mNil)))))
def m_law_ratio : MFn := mFun 2 b_law_ratio
abbrev s_law_none : Stmt := top 26
abbrev N_law_none : List Str := ["well", "one", "top", "bottom", "some"]
theorem sc_law_none : FnScope N_law_none ["well", "one"] (defScope s_law_none) := ⟨rfl, rfl, rfl, by decide +kernel, rfl, by decide +kernel, by decide +kernel⟩
def b_law_none : MS := (mSeq (mAsg (mVar 1) (mgTup 2 (mgCons (mgName 2) (mgCons (mgName 3) mgNil))))
    (mSeq (mAsg (mLst (mCons (mC .non) (mCons (mC (.int 7)) (mCons (mLst (mCons (mVar 2) (mCons (mVar 3) mNil))) (mCons (mTup (mCons (mVar 2) mNil)) (mCons (mTup (mCons (mVar 2) (mCons (mVar 3) (mCons (mC (.int 1)) mNil)))) (mCons (mTup (mCons (mBin gMulI (mVar 2) (mC (.int 2))) (mCons (mBin gMulI (mVar 3) (mC (.int 2))) mNil))) (mCons (mTup (mCons (mVar 2) (mCons (mC (.int 0)) mNil))) (mCons (mTup (mCons (mUn gNeg (mVar 2)) (mCons (mUn gNeg (mVar 3)) mNil))) mNil))))))))) (mgName 4))
    (mSeq (mAsg (mBin gAdd (mVar 4) (mLst (mCons (mTup (mCons (mC (.bl true)) (mCons (mC (.int 1)) mNil))) (mCons (mTup (mCons (mVar 2) (mCons (mC (.bl true)) mNil))) (mCons (mTup (mCons (mB gStr (mCons (mVar 2) mNil)) (mCons (mC (.int 1)) mNil))) (mCons (mTup (mCons (mC (.int 0)) (mCons (mC (.int 2)) mNil))) (mCons (mTup (mCons (mC (.int 1)) (mCons (mC .non) mNil))) (mCons (mTup (mCons (mTup (mCons (mVar 2) (mCons (mVar 3) mNil))) (mCons (mC (.int 1)) mNil))) mNil)))))))) (mgName 4))
    (mRet (mCall m_law_one (mCons (mVar 0) (mCons (mVar 4) mNil)))))))
def m_law_none : MFn := mFun 5 b_law_none
abbrev s_law_call : Stmt := top 27
abbrev N_law_call : List Str := ["door", "a", "b", "named"]
theorem sc_law_call : FnScope N_law_call ["door", "a", "b", "named"] (defScope s_law_call) := ⟨rfl, rfl, rfl, by decide +kernel, rfl, by decide +kernel, by decide +kernel⟩
def b_law_call : MS := (mSeq (mIfS (blT (mBin gEq (mVar 0) (mC (.int 0)))) (mRet (mIf (mTru truD (mVar 3)) (mCall m_plus (mPick [0, 1] 2 (mCons (mVar 1) (mCons (mVar 2) mNil)))) (mCall m_plus (mCons (mVar 1) (mCons (mVar 2) mNil))))) mNext)
    (mSeq (mIfS (blT (mBin gEq (mVar 0) (mC (.int 1)))) (mRet (mIf (mTru truD (mVar 3)) (mCall m_minus (mPick [1, 0] 2 (mCons (mVar 2) (mCons (mVar 1) mNil)))) (mCall m_minus (mCons (mVar 1) (mCons (mVar 2) mNil))))) mNext)
    (mSeq (mIfS (blT (mBin gEq (mVar 0) (mC (.int 2)))) (mRet (mIf (mTru truD (mVar 3)) (mCall m_product (mPick [0, 1] 2 (mCons (mVar 1) (mCons (mVar 2) mNil)))) (mCall m_product (mCons (mVar 1) (mCons (mVar 2) mNil))))) mNext)
    (mSeq (mIfS (blT (mBin gEq (mVar 0) (mC (.int 3)))) (mRet (mIf (mTru truD (mVar 3)) (mCall m_quotient (mPick [1, 0] 2 (mCons (mVar 2) (mCons (mVar 1) mNil)))) (mCall m_quotient (mCons (mVar 1) (mCons (mVar 2) mNil))))) mNext)
    (mRet (mIf (mTru truD (mVar 3)) (mCall m_below (mPick [1, 0] 2 (mCons (mVar 2) (mCons (mVar 1) mNil)))) (mCall m_below (mCons (mVar 1) (mCons (mVar 2) mNil)))))))))
def m_law_call : MFn := mFun 4 b_law_call
abbrev s_law_told : Stmt := top 28
abbrev N_law_told : List Str := ["door", "a", "b", "named", "told"]
theorem sc_law_told : FnScope N_law_told ["door", "a", "b", "named"] (defScope s_law_told) := ⟨rfl, rfl, rfl, by decide +kernel, rfl, by decide +kernel, by decide +kernel⟩
def b_law_told : MS := (mSeq (mAsg (mC .non) (mgName 4))
    (mSeq (mTry tab (mAsg (mCall m_law_call (mCons (mVar 0) (mCons (mVar 1) (mCons (mVar 2) (mCons (mVar 3) mNil))))) (mgName 4)) (("BadRatio", (mAsg (mC (.str "ratio")) (mgName 4))) :: (("ZeroBottom", (mAsg (mC (.str "zero")) (mgName 4))) :: (("FlatError", (mAsg (mC (.str "other")) (mgName 4))) :: []))))
    (mRet (mVar 4))))
def m_law_told : MFn := mFun 5 b_law_told
abbrev s_law_due : Stmt := top 29
abbrev N_law_due : List Str := ["door", "a", "b", "p", "q", "r", "s"]
theorem sc_law_due : FnScope N_law_due ["door", "a", "b"] (defScope s_law_due) := ⟨rfl, rfl, rfl, by decide +kernel, rfl, by decide +kernel, by decide +kernel⟩
def b_law_due : MS := (mSeq (mAsg (mTup (mCons (mVar 1) (mCons (mVar 2) mNil))) (mgTup 2 (mgCons (mgTup 2 (mgCons (mgName 3) (mgCons (mgName 4) mgNil))) (mgCons (mgTup 2 (mgCons (mgName 5) (mgCons (mgName 6) mgNil))) mgNil))))
    (mSeq (mIfS (blT (mBin gLt (mVar 0) (mC (.int 2)))) (mRet (mCall m_law_short (mCons (mBin gAdd (mBin gMulI (mVar 3) (mVar 6)) (mBin gMulI (mBin gMulI (mVar 5) (mVar 4)) (mBin gSubI (mC (.int 1)) (mBin gMulI (mC (.int 2)) (mVar 0))))) (mCons (mBin gMulI (mVar 4) (mVar 6)) mNil)))) mNext)
    (mSeq (mIfS (blT (mBin gEq (mVar 0) (mC (.int 2)))) (mRet (mCall m_law_short (mCons (mBin gMulI (mVar 3) (mVar 5)) (mCons (mBin gMulI (mVar 4) (mVar 6)) mNil)))) mNext)
    (mRet (mIf (blT (mBin gEq (mVar 5) (mC (.int 0)))) (mC (.str "zero")) (mCall m_law_short (mCons (mBin gMulI (mVar 3) (mVar 6)) (mCons (mBin gMulI (mVar 4) (mVar 5)) mNil))))))))
def m_law_due : MFn := mFun 7 b_law_due
abbrev s_law_ratio_right : Stmt := top 30
abbrev N_law_ratio_right : List Str := ["top", "bottom", "told"]
theorem sc_law_ratio_right : FnScope N_law_ratio_right ["top", "bottom"] (defScope s_law_ratio_right) := ⟨rfl, rfl, rfl, by decide +kernel, rfl, by decide +kernel, by decide +kernel⟩
def b_law_ratio_right : MS := (mSeq (mAsg (mC .non) (mgName 2))
    (mSeq (mTry tab (mAsg (mCall m_ratio (mPick [1, 0] 2 (mCons (mVar 1) (mCons (mVar 0) mNil)))) (mgName 2)) (("ZeroBottom", (mAsg (mC (.str "zero")) (mgName 2))) :: []))
    (mRet (mCall (m_law_same 4) (mCons (mVar 2) (mCons (mIf (blT (mBin gEq (mVar 1) (mC (.int 0)))) (mC (.str "zero")) (mCall m_law_short (mCons (mVar 0) (mCons (mVar 1) mNil)))) mNil))))))
def m_law_ratio_right : MFn := mFun 3 b_law_ratio_right
abbrev s_law : Stmt := top 31
abbrev N_law : List Str := ["script", "well", "turn", "a", "b", "named", "door", "found", "wrong", "side"]
theorem sc_law : FnScope N_law ["script"] (defScope s_law) := ⟨rfl, rfl, rfl, by decide +kernel, rfl, by decide +kernel, by decide +kernel⟩
def b_law : MS := (mSeq (mAsg (mCall m_law_well (mCons (mVar 0) mNil)) (mgName 1))
    (mSeq (mFor (mRng1 (mCons (mBin gAdd (mC (.int 12)) (mB gMin2 (mCons (mB gLen (mCons (mVar 0) mNil)) (mCons (mC (.int 9)) mNil)))) mNil)) (mgName 2) (mSeq (mPar 3 4 (mCons (mCall m_law_ratio (mCons (mVar 1) mNil)) (mCons (mCall m_law_ratio (mCons (mVar 1) mNil)) mNil)))
    (mSeq (mAsg (mIf (blT (mBin gEq (mCall m_law_draw (mCons (mVar 1) (mCons (mC (.int 5)) mNil))) (mC (.int 0)))) (mCall m_law_one (mCons (mVar 1) (mCons (mLst (mCons (mVar 3) (mCons (mTup (mCons (mC (.int 0)) (mCons (mC (.int 1)) mNil))) (mCons (mTup (mCons (mUn gNeg (mBin gIx (mVar 3) (mC (.int 0)))) (mCons (mBin gIx (mVar 3) (mC (.int 1))) mNil))) (mCons (mTup (mCons (mBin gAdd (mBin gIx (mVar 3) (mC (.int 0))) (mC (.int 1))) (mCons (mC (.int 1)) mNil))) mNil))))) mNil))) (mVar 4)) (mgName 4))
    (mSeq (mAsg (mBin gEq (mCall m_law_draw (mCons (mVar 1) (mCons (mC (.int 2)) mNil))) (mC (.int 0))) (mgName 5))
    (mSeq (mFor (mRng1 (mCons (mC (.int 4)) mNil)) (mgName 6) (mIfS (mTnot (mTru truD (mCall (m_law_same 4) (mCons (mCall m_law_told (mCons (mVar 6) (mCons (mVar 3) (mCons (mVar 4) (mCons (mVar 5) mNil))))) (mCons (mCall m_law_due (mCons (mVar 6) (mCons (mVar 3) (mCons (mVar 4) mNil)))) mNil))))) (mRet (mC (.bl false))) mNext))
    (mSeq (mAsg (mCall m_law_told (mCons (mC (.int 4)) (mCons (mVar 3) (mCons (mVar 4) (mCons (mVar 5) mNil))))) (mgName 7))
    (mSeq (mIfS (mTor (mTnot (mTru truD (mIsi .bool (mVar 7)))) (blT (mBin gNe (mVar 7) (mBin gLt (mBin gMulI (mBin gIx (mVar 3) (mC (.int 0))) (mBin gIx (mVar 4) (mC (.int 1)))) (mBin gMulI (mBin gIx (mVar 4) (mC (.int 0))) (mBin gIx (mVar 3) (mC (.int 1)))))))) (mRet (mC (.bl false))) mNext)
    (mSeq (mIfS (mTnot (mTru truD (mCall (m_law_same 4) (mCons (mTup (mCons (mCall m_minus (mCons (mCall m_plus (mCons (mVar 3) (mCons (mVar 4) mNil))) (mCons (mVar 4) mNil))) (mCons (mCall m_plus (mCons (mCall m_minus (mCons (mVar 3) (mCons (mVar 4) mNil))) (mCons (mVar 4) mNil))) mNil))) (mCons (mTup (mCons (mVar 3) (mCons (mVar 3) mNil))) mNil))))) (mRet (mC (.bl false))) mNext)
    (mSeq (mIfS (mTand (blT (mBin gNe (mBin gIx (mVar 4) (mC (.int 0))) (mC (.int 0)))) (mTnot (mTru truD (mCall (m_law_same 4) (mCons (mCall m_quotient (mCons (mCall m_product (mCons (mVar 3) (mCons (mVar 4) mNil))) (mCons (mVar 4) mNil))) (mCons (mVar 3) mNil)))))) (mRet (mC (.bl false))) mNext)
    (mSeq (mIfS (mTor (mTnot (mTru truD (mCall m_law_ratio_right (mCons (mCall m_law_integer (mCons (mVar 1) mNil)) (mCons (mCall m_law_integer (mCons (mVar 1) mNil)) mNil))))) (mTnot (mTru truD (mCall m_law_ratio_right (mCons (mBin gIx (mVar 3) (mC (.int 0))) (mCons (mC (.int 0)) mNil)))))) (mRet (mC (.bl false))) mNext)
    (mSeq (mPar 8 9 (mCons (mCall m_law_none (mCons (mVar 1) (mCons (mVar 3) mNil))) (mCons (mCall m_law_draw (mCons (mVar 1) (mCons (mC (.int 3)) mNil))) mNil)))
    (mFor (mRng1 (mCons (mC (.int 5)) mNil)) (mgName 6) (mIfS (blT (mBin gNe (mCall m_law_told (mCons (mVar 6) (mCons (mIf (blT (mBin gEq (mVar 9) (mC (.int 0)))) (mVar 4) (mVar 8)) (mCons (mIf (blT (mBin gEq (mVar 9) (mC (.int 1)))) (mVar 3) (mVar 8)) (mCons (mVar 5) mNil))))) (mC (.str "ratio")))) (mRet (mC (.bl false))) mNext)))))))))))))
    (mRet (mC (.bl true)))))
def m_law : MFn := mFun 10 b_law
end K63

set_option Elab.async false
set_option linter.all false
set_option maxRecDepth 100000
set_option maxHeartbeats 4000000
namespace K63
open PySem PySem.Spec PyProof.Rows L2 FM
section
variable {P : Program} {w : World} {K : PySem.W.Frag} {mg : Str → Option Value} {base : Heap}
/-- an exception class -/
structure ExcIn (K : PySem.W.Frag) (mg : Str → Option Value) (x : Str) (C : Addr) : Prop where
  g : mg x = some (.ref C)
  q : PySem.W.excIn K C He.veBase "ValueError.__new__" = true
  k : PySem.W.keepIn K (.ref C) = true
  s : PySem.W.subIn K (.ref C) (.type "BaseException") = some true
  t : PySem.W.typeIn K (.ref C) = some (.type "type")
theorem bv_isinstance : bootBuiltins "isinstance" = some (.builtin "isinstance") := by decide +kernel
theorem bv_int : bootBuiltins "int" = some (.type "int") := by decide +kernel
theorem bv_bool : bootBuiltins "bool" = some (.type "bool") := by decide +kernel
theorem bv_tuple : bootBuiltins "tuple" = some (.type "tuple") := by decide +kernel
theorem bv_len : bootBuiltins "len" = some (.builtin "len") := by decide +kernel
theorem bv_abs : bootBuiltins "abs" = some (.builtin "abs") := by decide +kernel
theorem bv_str : bootBuiltins "str" = some (.type "str") := by decide +kernel
theorem bv_min : bootBuiltins "min" = some (.builtin "min") := by decide +kernel
theorem ok_is_int {f_is_int : Addr} {fd_is_int : FuncData} (F : FunD K "is_int" "is_int" (defArgs s_is_int) (defBody s_is_int) (defScope s_is_int) [] [] f_is_int fd_is_int) (M : mg "is_int" = some (.ref f_is_int)) (z_isinstance : mg "isinstance" = none) (z_int : mg "int" = none) (z_bool : mg "bool" = none) : FnIn P w K mg base "is_int" f_is_int fd_is_int ["x"] 1 m_is_int := by
  refine ⟨(fn_ok (k := 0) F sc_is_int (fun cdv A outer s H E hr => ?_) : FnOk P w K mg base (L2.CX P w) 1 f_is_int fd_is_int ["x"] (spOf K mg 1 m_is_int)), M, F.kp, F.bindsN fun _ _ _ _ _ _ us hl => match us, hl with | [_], _ => rfl⟩
  have tk := takes_of (X := cxOf (L2.CX P w) P w K mg base N_is_int "is_int" (defScope s_is_int) f_is_int cdv A outer s H E) (E := E) rfl rfl rfl rfl
  have po : PassesOwn (model P w) (cxOf (L2.CX P w) P w K mg base N_is_int "is_int" (defScope s_is_int) f_is_int cdv A outer s H E).A (cxOf (L2.CX P w) P w K mg base N_is_int "is_int" (defScope s_is_int) f_is_int cdv A outer s H E).env (cxOf (L2.CX P w) P w K mg base N_is_int "is_int" (defScope s_is_int) f_is_int cdv A outer s H E).xe := passes_of rfl
  have hn : (cxOf (L2.CX P w) P w K mg base N_is_int "is_int" (defScope s_is_int) f_is_int cdv A outer s H E).N.Nodup := sc_is_int.nd
  exact (pdss_one (pds_ret (pd_and (pd_isi .int (pd_var 0) z_isinstance bv_isinstance z_int bv_int) (pd_one (pd_not (pd_isi .bool (pd_var 0) z_isinstance bv_isinstance z_bool bv_bool))))))

theorem ok_lowest {f_lowest : Addr} {fd_lowest : FuncData} (F : FunD K "lowest" "lowest" (defArgs s_lowest) (defBody s_lowest) (defScope s_lowest) [] [] f_lowest fd_lowest) (M : mg "lowest" = some (.ref f_lowest)) (y_gcd : mg "gcd" = some (.builtin "math.gcd")) : FnIn P w K mg base "lowest" f_lowest fd_lowest ["top", "bottom"] 1 m_lowest := by
  refine ⟨(fn_ok (k := 0) F sc_lowest (fun cdv A outer s H E hr => ?_) : FnOk P w K mg base (L2.CX P w) 1 f_lowest fd_lowest ["top", "bottom"] (spOf K mg 2 m_lowest)), M, F.kp, F.bindsN fun _ _ _ _ _ _ us hl => match us, hl with | [_, _], _ => rfl⟩
  have tk := takes_of (X := cxOf (L2.CX P w) P w K mg base N_lowest "lowest" (defScope s_lowest) f_lowest cdv A outer s H E) (E := E) rfl rfl rfl rfl
  have po : PassesOwn (model P w) (cxOf (L2.CX P w) P w K mg base N_lowest "lowest" (defScope s_lowest) f_lowest cdv A outer s H E).A (cxOf (L2.CX P w) P w K mg base N_lowest "lowest" (defScope s_lowest) f_lowest cdv A outer s H E).env (cxOf (L2.CX P w) P w K mg base N_lowest "lowest" (defScope s_lowest) f_lowest cdv A outer s H E).xe := passes_of rfl
  have hn : (cxOf (L2.CX P w) P w K mg base N_lowest "lowest" (defScope s_lowest) f_lowest cdv A outer s H E).N.Nodup := sc_lowest.nd
  exact (pdss_cons (pds_if (pdt_cmp od_lt (pd_var 1) pd_int) (pdss_cons (pds_set 0 hn (pd_neg (pd_var 0)))
    (pdss_one (pds_set 1 hn (pd_neg (pd_var 1))))) pdss_nil)
    (pdss_cons (pds_set 2 hn (pd_bfun fd_gcd y_gcd (pda_cons (pd_var 0) (pda_cons (pd_var 1) pda_nil))))
    (pdss_one (pds_ret (pd_tup (pda_cons (pd_bin od_fdiv (pd_var 0) (pd_var 2)) (pda_cons (pd_bin od_fdiv (pd_var 1) (pd_var 2)) pda_nil)))))))

theorem ok_is_ratio {f_is_ratio f_is_int : Addr} {fd_is_ratio fd_is_int : FuncData} (F : FunD K "is_ratio" "is_ratio" (defArgs s_is_ratio) (defBody s_is_ratio) (defScope s_is_ratio) [] [] f_is_ratio fd_is_ratio) (M : mg "is_ratio" = some (.ref f_is_ratio)) (G_is_int : FnIn P w K mg base "is_int" f_is_int fd_is_int ["x"] 1 m_is_int) (z_isinstance : mg "isinstance" = none) (z_tuple : mg "tuple" = none) (z_len : mg "len" = none) (y_gcd : mg "gcd" = some (.builtin "math.gcd")) : FnIn P w K mg base "is_ratio" f_is_ratio fd_is_ratio ["thing"] 2 m_is_ratio := by
  refine ⟨(fn_ok (k := 1) F sc_is_ratio (fun cdv A outer s H E hr => ?_) : FnOk P w K mg base (L2.CX P w) 2 f_is_ratio fd_is_ratio ["thing"] (spOf K mg 1 m_is_ratio)), M, F.kp, F.bindsN fun _ _ _ _ _ _ us hl => match us, hl with | [_], _ => rfl⟩
  have tk := takes_of (X := cxOf (L2.CX P w) P w K mg base N_is_ratio "is_ratio" (defScope s_is_ratio) f_is_ratio cdv A outer s H E) (E := E) rfl rfl rfl rfl
  have po : PassesOwn (model P w) (cxOf (L2.CX P w) P w K mg base N_is_ratio "is_ratio" (defScope s_is_ratio) f_is_ratio cdv A outer s H E).A (cxOf (L2.CX P w) P w K mg base N_is_ratio "is_ratio" (defScope s_is_ratio) f_is_ratio cdv A outer s H E).env (cxOf (L2.CX P w) P w K mg base N_is_ratio "is_ratio" (defScope s_is_ratio) f_is_ratio cdv A outer s H E).xe := passes_of rfl
  have hn : (cxOf (L2.CX P w) P w K mg base N_is_ratio "is_ratio" (defScope s_is_ratio) f_is_ratio cdv A outer s H E).N.Nodup := sc_is_ratio.nd
  exact (pdss_cons (pds_if (pdw_or (pdt_not (pdt_val (pd_isi .tup (pd_var 0) z_isinstance bv_isinstance z_tuple bv_tuple))) (pdw_or1 (pdt_cmp (od_ne hr.units) (pd_blt fd_len z_len bv_len (pda_cons (pd_var 0) pda_nil)) pd_int))).t (pdss_one (pds_ret pd_bl)) pdss_nil)
    (pdss_cons (pds_if (pdw_or (pdt_not (pdt_val (pd_fn tk (hr.mono (by omega)) G_is_int (pda_cons (pd_ix ix_ok (pd_var 0) pd_int) pda_nil)))) (pdw_or (pdt_not (pdt_val (pd_fn tk (hr.mono (by omega)) G_is_int (pda_cons (pd_ix ix_ok (pd_var 0) pd_int) pda_nil)))) (pdw_or1 (pdt_cmp od_lt (pd_ix ix_ok (pd_var 0) pd_int) pd_int)))).t (pdss_one (pds_ret pd_bl)) pdss_nil)
    (pdss_one (pds_ret (pd_cmp (od_eq hr.units) (pd_bfun fd_gcd y_gcd (pda_cons (pd_ix ix_ok (pd_var 0) pd_int) (pda_cons (pd_ix ix_ok (pd_var 0) pd_int) pda_nil))) pd_int)))))

theorem ok_need_ratio {f_need_ratio f_is_ratio c_BadRatio : Addr} {fd_need_ratio fd_is_ratio : FuncData} (F : FunD K "need_ratio" "need_ratio" (defArgs s_need_ratio) (defBody s_need_ratio) (defScope s_need_ratio) [] [] f_need_ratio fd_need_ratio) (M : mg "need_ratio" = some (.ref f_need_ratio)) (G_is_ratio : FnIn P w K mg base "is_ratio" f_is_ratio fd_is_ratio ["thing"] 2 m_is_ratio) (X_BadRatio : ExcIn K mg "BadRatio" c_BadRatio) : FnIn P w K mg base "need_ratio" f_need_ratio fd_need_ratio ["thing"] 3 m_need_ratio := by
  refine ⟨(fn_ok (k := 2) F sc_need_ratio (fun cdv A outer s H E hr => ?_) : FnOk P w K mg base (L2.CX P w) 3 f_need_ratio fd_need_ratio ["thing"] (spOf K mg 1 m_need_ratio)), M, F.kp, F.bindsN fun _ _ _ _ _ _ us hl => match us, hl with | [_], _ => rfl⟩
  have tk := takes_of (X := cxOf (L2.CX P w) P w K mg base N_need_ratio "need_ratio" (defScope s_need_ratio) f_need_ratio cdv A outer s H E) (E := E) rfl rfl rfl rfl
  have po : PassesOwn (model P w) (cxOf (L2.CX P w) P w K mg base N_need_ratio "need_ratio" (defScope s_need_ratio) f_need_ratio cdv A outer s H E).A (cxOf (L2.CX P w) P w K mg base N_need_ratio "need_ratio" (defScope s_need_ratio) f_need_ratio cdv A outer s H E).env (cxOf (L2.CX P w) P w K mg base N_need_ratio "need_ratio" (defScope s_need_ratio) f_need_ratio cdv A outer s H E).xe := passes_of rfl
  have hn : (cxOf (L2.CX P w) P w K mg base N_need_ratio "need_ratio" (defScope s_need_ratio) f_need_ratio cdv A outer s H E).N.Nodup := sc_need_ratio.nd
  exact (pdss_one (pds_if (pdt_not (pdt_val (pd_fn tk (hr.mono (by omega)) G_is_ratio (pda_cons (pd_var 0) pda_nil)))) (pdss_one (pds_raise rfl tk PySem.F.excBase_ValueError X_BadRatio.q X_BadRatio.g X_BadRatio.k X_BadRatio.s X_BadRatio.t)) pdss_nil))

theorem ok_ratio {f_ratio f_lowest c_ZeroBottom : Addr} {fd_ratio fd_lowest : FuncData} (F : FunD K "ratio" "ratio" (defArgs s_ratio) (defBody s_ratio) (defScope s_ratio) [] [] f_ratio fd_ratio) (M : mg "ratio" = some (.ref f_ratio)) (G_lowest : FnIn P w K mg base "lowest" f_lowest fd_lowest ["top", "bottom"] 1 m_lowest) (X_ZeroBottom : ExcIn K mg "ZeroBottom" c_ZeroBottom) : FnIn P w K mg base "ratio" f_ratio fd_ratio ["top", "bottom"] 2 m_ratio := by
  refine ⟨(fn_ok (k := 1) F sc_ratio (fun cdv A outer s H E hr => ?_) : FnOk P w K mg base (L2.CX P w) 2 f_ratio fd_ratio ["top", "bottom"] (spOf K mg 2 m_ratio)), M, F.kp, F.bindsN fun _ _ _ _ _ _ us hl => match us, hl with | [_, _], _ => rfl⟩
  have tk := takes_of (X := cxOf (L2.CX P w) P w K mg base N_ratio "ratio" (defScope s_ratio) f_ratio cdv A outer s H E) (E := E) rfl rfl rfl rfl
  have po : PassesOwn (model P w) (cxOf (L2.CX P w) P w K mg base N_ratio "ratio" (defScope s_ratio) f_ratio cdv A outer s H E).A (cxOf (L2.CX P w) P w K mg base N_ratio "ratio" (defScope s_ratio) f_ratio cdv A outer s H E).env (cxOf (L2.CX P w) P w K mg base N_ratio "ratio" (defScope s_ratio) f_ratio cdv A outer s H E).xe := passes_of rfl
  have hn : (cxOf (L2.CX P w) P w K mg base N_ratio "ratio" (defScope s_ratio) f_ratio cdv A outer s H E).N.Nodup := sc_ratio.nd
  exact (pdss_cons (pds_if (pdt_cmp (od_eq hr.units) (pd_var 1) pd_int) (pdss_one (pds_raise rfl tk PySem.F.excBase_ValueError X_ZeroBottom.q X_ZeroBottom.g X_ZeroBottom.k X_ZeroBottom.s X_ZeroBottom.t)) pdss_nil)
    (pdss_one (pds_ret (pd_fn tk (hr.mono (by omega)) G_lowest (pda_cons (pd_var 0) (pda_cons (pd_var 1) pda_nil))))))

theorem ok_plus {f_plus f_need_ratio f_lowest : Addr} {fd_plus fd_need_ratio fd_lowest : FuncData} (F : FunD K "plus" "plus" (defArgs s_plus) (defBody s_plus) (defScope s_plus) [] [] f_plus fd_plus) (M : mg "plus" = some (.ref f_plus)) (G_need_ratio : FnIn P w K mg base "need_ratio" f_need_ratio fd_need_ratio ["thing"] 3 m_need_ratio) (G_lowest : FnIn P w K mg base "lowest" f_lowest fd_lowest ["top", "bottom"] 1 m_lowest) : FnIn P w K mg base "plus" f_plus fd_plus ["a", "b"] 4 m_plus := by
  refine ⟨(fn_ok (k := 3) F sc_plus (fun cdv A outer s H E hr => ?_) : FnOk P w K mg base (L2.CX P w) 4 f_plus fd_plus ["a", "b"] (spOf K mg 2 m_plus)), M, F.kp, F.bindsN fun _ _ _ _ _ _ us hl => match us, hl with | [_, _], _ => rfl⟩
  have tk := takes_of (X := cxOf (L2.CX P w) P w K mg base N_plus "plus" (defScope s_plus) f_plus cdv A outer s H E) (E := E) rfl rfl rfl rfl
  have po : PassesOwn (model P w) (cxOf (L2.CX P w) P w K mg base N_plus "plus" (defScope s_plus) f_plus cdv A outer s H E).A (cxOf (L2.CX P w) P w K mg base N_plus "plus" (defScope s_plus) f_plus cdv A outer s H E).env (cxOf (L2.CX P w) P w K mg base N_plus "plus" (defScope s_plus) f_plus cdv A outer s H E).xe := passes_of rfl
  have hn : (cxOf (L2.CX P w) P w K mg base N_plus "plus" (defScope s_plus) f_plus cdv A outer s H E).N.Nodup := sc_plus.nd
  exact (pdss_cons (pds_expr (pd_fn tk (hr.mono (by omega)) G_need_ratio (pda_cons (pd_var 0) pda_nil)))
    (pdss_cons (pds_expr (pd_fn tk (hr.mono (by omega)) G_need_ratio (pda_cons (pd_var 1) pda_nil)))
    (pdss_one (pds_ret (pd_fn tk (hr.mono (by omega)) G_lowest (pda_cons (pd_bin od_add (pd_bin od_mulI (pd_ix ix_ok (pd_var 0) pd_int) (pd_ix ix_ok (pd_var 1) pd_int)) (pd_bin od_mulI (pd_ix ix_ok (pd_var 1) pd_int) (pd_ix ix_ok (pd_var 0) pd_int))) (pda_cons (pd_bin od_mulI (pd_ix ix_ok (pd_var 0) pd_int) (pd_ix ix_ok (pd_var 1) pd_int)) pda_nil)))))))

theorem ok_minus {f_minus f_need_ratio f_lowest : Addr} {fd_minus fd_need_ratio fd_lowest : FuncData} (F : FunD K "minus" "minus" (defArgs s_minus) (defBody s_minus) (defScope s_minus) [] [] f_minus fd_minus) (M : mg "minus" = some (.ref f_minus)) (G_need_ratio : FnIn P w K mg base "need_ratio" f_need_ratio fd_need_ratio ["thing"] 3 m_need_ratio) (G_lowest : FnIn P w K mg base "lowest" f_lowest fd_lowest ["top", "bottom"] 1 m_lowest) : FnIn P w K mg base "minus" f_minus fd_minus ["a", "b"] 4 m_minus := by
  refine ⟨(fn_ok (k := 3) F sc_minus (fun cdv A outer s H E hr => ?_) : FnOk P w K mg base (L2.CX P w) 4 f_minus fd_minus ["a", "b"] (spOf K mg 2 m_minus)), M, F.kp, F.bindsN fun _ _ _ _ _ _ us hl => match us, hl with | [_, _], _ => rfl⟩
  have tk := takes_of (X := cxOf (L2.CX P w) P w K mg base N_minus "minus" (defScope s_minus) f_minus cdv A outer s H E) (E := E) rfl rfl rfl rfl
  have po : PassesOwn (model P w) (cxOf (L2.CX P w) P w K mg base N_minus "minus" (defScope s_minus) f_minus cdv A outer s H E).A (cxOf (L2.CX P w) P w K mg base N_minus "minus" (defScope s_minus) f_minus cdv A outer s H E).env (cxOf (L2.CX P w) P w K mg base N_minus "minus" (defScope s_minus) f_minus cdv A outer s H E).xe := passes_of rfl
  have hn : (cxOf (L2.CX P w) P w K mg base N_minus "minus" (defScope s_minus) f_minus cdv A outer s H E).N.Nodup := sc_minus.nd
  exact (pdss_cons (pds_expr (pd_fn tk (hr.mono (by omega)) G_need_ratio (pda_cons (pd_var 0) pda_nil)))
    (pdss_cons (pds_expr (pd_fn tk (hr.mono (by omega)) G_need_ratio (pda_cons (pd_var 1) pda_nil)))
    (pdss_one (pds_ret (pd_fn tk (hr.mono (by omega)) G_lowest (pda_cons (pd_bin od_sub (pd_bin od_mulI (pd_ix ix_ok (pd_var 0) pd_int) (pd_ix ix_ok (pd_var 1) pd_int)) (pd_bin od_mulI (pd_ix ix_ok (pd_var 1) pd_int) (pd_ix ix_ok (pd_var 0) pd_int))) (pda_cons (pd_bin od_mulI (pd_ix ix_ok (pd_var 0) pd_int) (pd_ix ix_ok (pd_var 1) pd_int)) pda_nil)))))))

theorem ok_product {f_product f_need_ratio f_lowest : Addr} {fd_product fd_need_ratio fd_lowest : FuncData} (F : FunD K "product" "product" (defArgs s_product) (defBody s_product) (defScope s_product) [] [] f_product fd_product) (M : mg "product" = some (.ref f_product)) (G_need_ratio : FnIn P w K mg base "need_ratio" f_need_ratio fd_need_ratio ["thing"] 3 m_need_ratio) (G_lowest : FnIn P w K mg base "lowest" f_lowest fd_lowest ["top", "bottom"] 1 m_lowest) : FnIn P w K mg base "product" f_product fd_product ["a", "b"] 4 m_product := by
  refine ⟨(fn_ok (k := 3) F sc_product (fun cdv A outer s H E hr => ?_) : FnOk P w K mg base (L2.CX P w) 4 f_product fd_product ["a", "b"] (spOf K mg 2 m_product)), M, F.kp, F.bindsN fun _ _ _ _ _ _ us hl => match us, hl with | [_, _], _ => rfl⟩
  have tk := takes_of (X := cxOf (L2.CX P w) P w K mg base N_product "product" (defScope s_product) f_product cdv A outer s H E) (E := E) rfl rfl rfl rfl
  have po : PassesOwn (model P w) (cxOf (L2.CX P w) P w K mg base N_product "product" (defScope s_product) f_product cdv A outer s H E).A (cxOf (L2.CX P w) P w K mg base N_product "product" (defScope s_product) f_product cdv A outer s H E).env (cxOf (L2.CX P w) P w K mg base N_product "product" (defScope s_product) f_product cdv A outer s H E).xe := passes_of rfl
  have hn : (cxOf (L2.CX P w) P w K mg base N_product "product" (defScope s_product) f_product cdv A outer s H E).N.Nodup := sc_product.nd
  exact (pdss_cons (pds_expr (pd_fn tk (hr.mono (by omega)) G_need_ratio (pda_cons (pd_var 0) pda_nil)))
    (pdss_cons (pds_expr (pd_fn tk (hr.mono (by omega)) G_need_ratio (pda_cons (pd_var 1) pda_nil)))
    (pdss_one (pds_ret (pd_fn tk (hr.mono (by omega)) G_lowest (pda_cons (pd_bin od_mulI (pd_ix ix_ok (pd_var 0) pd_int) (pd_ix ix_ok (pd_var 1) pd_int)) (pda_cons (pd_bin od_mulI (pd_ix ix_ok (pd_var 0) pd_int) (pd_ix ix_ok (pd_var 1) pd_int)) pda_nil)))))))

theorem ok_quotient {f_quotient f_need_ratio f_lowest c_ZeroBottom : Addr} {fd_quotient fd_need_ratio fd_lowest : FuncData} (F : FunD K "quotient" "quotient" (defArgs s_quotient) (defBody s_quotient) (defScope s_quotient) [] [] f_quotient fd_quotient) (M : mg "quotient" = some (.ref f_quotient)) (G_need_ratio : FnIn P w K mg base "need_ratio" f_need_ratio fd_need_ratio ["thing"] 3 m_need_ratio) (G_lowest : FnIn P w K mg base "lowest" f_lowest fd_lowest ["top", "bottom"] 1 m_lowest) (X_ZeroBottom : ExcIn K mg "ZeroBottom" c_ZeroBottom) : FnIn P w K mg base "quotient" f_quotient fd_quotient ["a", "b"] 4 m_quotient := by
  refine ⟨(fn_ok (k := 3) F sc_quotient (fun cdv A outer s H E hr => ?_) : FnOk P w K mg base (L2.CX P w) 4 f_quotient fd_quotient ["a", "b"] (spOf K mg 2 m_quotient)), M, F.kp, F.bindsN fun _ _ _ _ _ _ us hl => match us, hl with | [_, _], _ => rfl⟩
  have tk := takes_of (X := cxOf (L2.CX P w) P w K mg base N_quotient "quotient" (defScope s_quotient) f_quotient cdv A outer s H E) (E := E) rfl rfl rfl rfl
  have po : PassesOwn (model P w) (cxOf (L2.CX P w) P w K mg base N_quotient "quotient" (defScope s_quotient) f_quotient cdv A outer s H E).A (cxOf (L2.CX P w) P w K mg base N_quotient "quotient" (defScope s_quotient) f_quotient cdv A outer s H E).env (cxOf (L2.CX P w) P w K mg base N_quotient "quotient" (defScope s_quotient) f_quotient cdv A outer s H E).xe := passes_of rfl
  have hn : (cxOf (L2.CX P w) P w K mg base N_quotient "quotient" (defScope s_quotient) f_quotient cdv A outer s H E).N.Nodup := sc_quotient.nd
  exact (pdss_cons (pds_expr (pd_fn tk (hr.mono (by omega)) G_need_ratio (pda_cons (pd_var 0) pda_nil)))
    (pdss_cons (pds_expr (pd_fn tk (hr.mono (by omega)) G_need_ratio (pda_cons (pd_var 1) pda_nil)))
    (pdss_cons (pds_if (pdt_cmp (od_eq hr.units) (pd_ix ix_ok (pd_var 1) pd_int) pd_int) (pdss_one (pds_raise rfl tk PySem.F.excBase_ValueError X_ZeroBottom.q X_ZeroBottom.g X_ZeroBottom.k X_ZeroBottom.s X_ZeroBottom.t)) pdss_nil)
    (pdss_one (pds_ret (pd_fn tk (hr.mono (by omega)) G_lowest (pda_cons (pd_bin od_mulI (pd_ix ix_ok (pd_var 0) pd_int) (pd_ix ix_ok (pd_var 1) pd_int)) (pda_cons (pd_bin od_mulI (pd_ix ix_ok (pd_var 0) pd_int) (pd_ix ix_ok (pd_var 1) pd_int)) pda_nil))))))))

theorem ok_below {f_below f_need_ratio : Addr} {fd_below fd_need_ratio : FuncData} (F : FunD K "below" "below" (defArgs s_below) (defBody s_below) (defScope s_below) [] [] f_below fd_below) (M : mg "below" = some (.ref f_below)) (G_need_ratio : FnIn P w K mg base "need_ratio" f_need_ratio fd_need_ratio ["thing"] 3 m_need_ratio) : FnIn P w K mg base "below" f_below fd_below ["a", "b"] 4 m_below := by
  refine ⟨(fn_ok (k := 3) F sc_below (fun cdv A outer s H E hr => ?_) : FnOk P w K mg base (L2.CX P w) 4 f_below fd_below ["a", "b"] (spOf K mg 2 m_below)), M, F.kp, F.bindsN fun _ _ _ _ _ _ us hl => match us, hl with | [_, _], _ => rfl⟩
  have tk := takes_of (X := cxOf (L2.CX P w) P w K mg base N_below "below" (defScope s_below) f_below cdv A outer s H E) (E := E) rfl rfl rfl rfl
  have po : PassesOwn (model P w) (cxOf (L2.CX P w) P w K mg base N_below "below" (defScope s_below) f_below cdv A outer s H E).A (cxOf (L2.CX P w) P w K mg base N_below "below" (defScope s_below) f_below cdv A outer s H E).env (cxOf (L2.CX P w) P w K mg base N_below "below" (defScope s_below) f_below cdv A outer s H E).xe := passes_of rfl
  have hn : (cxOf (L2.CX P w) P w K mg base N_below "below" (defScope s_below) f_below cdv A outer s H E).N.Nodup := sc_below.nd
  exact (pdss_cons (pds_expr (pd_fn tk (hr.mono (by omega)) G_need_ratio (pda_cons (pd_var 0) pda_nil)))
    (pdss_cons (pds_expr (pd_fn tk (hr.mono (by omega)) G_need_ratio (pda_cons (pd_var 1) pda_nil)))
    (pdss_one (pds_ret (pd_cmp od_lt (pd_bin od_mulI (pd_ix ix_ok (pd_var 0) pd_int) (pd_ix ix_ok (pd_var 1) pd_int)) (pd_bin od_mulI (pd_ix ix_ok (pd_var 1) pd_int) (pd_ix ix_ok (pd_var 0) pd_int)))))))

theorem ok_law_well {f_law_well : Addr} {fd_law_well : FuncData} (F : FunD K "_law_well" "_law_well" (defArgs s_law_well) (defBody s_law_well) (defScope s_law_well) [] [] f_law_well fd_law_well) (M : mg "_law_well" = some (.ref f_law_well)) (z_int : mg "int" = none) : FnIn P w K mg base "_law_well" f_law_well fd_law_well ["script"] 1 m_law_well := by
  refine ⟨(fn_ok (k := 0) F sc_law_well (fun cdv A outer s H E hr => ?_) : FnOk P w K mg base (L2.CX P w) 1 f_law_well fd_law_well ["script"] (spOf K mg 1 m_law_well)), M, F.kp, F.bindsN fun _ _ _ _ _ _ us hl => match us, hl with | [_], _ => rfl⟩
  have tk := takes_of (X := cxOf (L2.CX P w) P w K mg base N_law_well "_law_well" (defScope s_law_well) f_law_well cdv A outer s H E) (E := E) rfl rfl rfl rfl
  have po : PassesOwn (model P w) (cxOf (L2.CX P w) P w K mg base N_law_well "_law_well" (defScope s_law_well) f_law_well cdv A outer s H E).A (cxOf (L2.CX P w) P w K mg base N_law_well "_law_well" (defScope s_law_well) f_law_well cdv A outer s H E).env (cxOf (L2.CX P w) P w K mg base N_law_well "_law_well" (defScope s_law_well) f_law_well cdv A outer s H E).xe := passes_of rfl
  have hn : (cxOf (L2.CX P w) P w K mg base N_law_well "_law_well" (defScope s_law_well) f_law_well cdv A outer s H E).N.Nodup := sc_law_well.nd
  exact (pdss_one (pds_ret (pd_lst (pda_cons (pd_lc (own := [("cell", 1)]) rfl hn (pdi_list (pd_slice (pd_var 0) pdo_none (pdo_some pd_int))) (blkOk_by (N := N_law_well) (sc := defScope s_law_well) (by decide +kernel)) (by decide) (fun _ _ _ _ _ => (pdg_name 1 hn)) (fun _ _ _ _ _ => pdts_nil) (fun _ _ _ _ _ => (pd_bty fd_int z_int bv_int (pda_cons (pd_var 1) pda_nil)))) (pda_cons pd_int (pda_cons pd_int pda_nil))))))

theorem ok_law_draw {f_law_draw : Addr} {fd_law_draw : FuncData} (F : FunD K "_law_draw" "_law_draw" (defArgs s_law_draw) (defBody s_law_draw) (defScope s_law_draw) [] [] f_law_draw fd_law_draw) (M : mg "_law_draw" = some (.ref f_law_draw)) (z_len : mg "len" = none) (z_abs : mg "abs" = none) (z_int : mg "int" = none) : FnIn P w K mg base "_law_draw" f_law_draw fd_law_draw ["well", "many"] 1 m_law_draw := by
  refine ⟨(fn_ok (k := 0) F sc_law_draw (fun cdv A outer s H E hr => ?_) : FnOk P w K mg base (L2.CX P w) 1 f_law_draw fd_law_draw ["well", "many"] (spOf K mg 2 m_law_draw)), M, F.kp, F.bindsN fun _ _ _ _ _ _ us hl => match us, hl with | [_, _], _ => rfl⟩
  have tk := takes_of (X := cxOf (L2.CX P w) P w K mg base N_law_draw "_law_draw" (defScope s_law_draw) f_law_draw cdv A outer s H E) (E := E) rfl rfl rfl rfl
  have po : PassesOwn (model P w) (cxOf (L2.CX P w) P w K mg base N_law_draw "_law_draw" (defScope s_law_draw) f_law_draw cdv A outer s H E).A (cxOf (L2.CX P w) P w K mg base N_law_draw "_law_draw" (defScope s_law_draw) f_law_draw cdv A outer s H E).env (cxOf (L2.CX P w) P w K mg base N_law_draw "_law_draw" (defScope s_law_draw) f_law_draw cdv A outer s H E).xe := passes_of rfl
  have hn : (cxOf (L2.CX P w) P w K mg base N_law_draw "_law_draw" (defScope s_law_draw) f_law_draw cdv A outer s H E).N.Nodup := sc_law_draw.nd
  exact (pdss_cons (pds_if (pdt_cmp od_lt (pd_ix ix_ok (pd_var 0) pd_int) (pd_var 1)) (pdss_cons (pds_set 2 hn (pd_ix ix_ok (pd_var 0) pd_int))
    (pdss_cons (pds_set 3 hn (pd_if (pdt_cmp od_lt (pd_var 2) (pd_blt fd_len z_len bv_len (pda_cons (pd_ix ix_ok (pd_var 0) pd_int) pda_nil))) (pd_bin od_add (pd_bin od_mulI (pd_blt fd_abs z_abs bv_abs (pda_cons (pd_ix ix_ok (pd_ix ix_ok (pd_var 0) pd_int) (pd_var 2)) pda_nil)) pd_int) (pd_bty fd_int z_int bv_int (pda_cons (pd_cmp od_lt (pd_ix ix_ok (pd_ix ix_ok (pd_var 0) pd_int) (pd_var 2)) pd_int) pda_nil))) (pd_bin od_add (pd_bin od_mulI (pd_var 2) (pd_var 2)) pd_int)))
    (pdss_cons (pds_if (pdt_cmp od_lt (pd_var 3) (pd_bin od_pow pd_int pd_int)) (pdss_cons (pds_set 3 hn (pd_bin od_mulI (pd_bin od_add (pd_var 3) pd_int) (pd_bin od_add (pd_bin od_add (pd_bin od_mulI (pd_var 3) pd_int) (pd_bin od_mulI (pd_var 2) pd_int)) pd_int)))
    (pdss_one (pds_set 3 hn (pd_bin od_add (pd_bin od_fdiv (pd_bin od_mulI (pd_var 3) (pd_var 3)) pd_int) (pd_bin od_mulI (pd_var 3) pd_int))))) pdss_nil)
    (pdss_cons (pds_asg (pd_bin od_add (pd_var 2) pd_int) (pdg_sub set_ok (pd_var 0) pd_int))
    (pdss_one (pds_asg (pd_var 3) (pdg_sub set_ok (pd_var 0) pd_int))))))) pdss_nil)
    (pdss_cons (pds_set 4 hn (pd_bin od_mod (pd_bty fd_int z_int bv_int (pda_cons (pd_ix ix_ok (pd_var 0) pd_int) pda_nil)) (pd_var 1)))
    (pdss_cons (pds_asg (pd_bin od_fdiv (pd_ix ix_ok (pd_var 0) pd_int) (pd_var 1)) (pdg_sub set_ok (pd_var 0) pd_int))
    (pdss_one (pds_ret (pd_var 4))))))

theorem ok_law_one {f_law_one f_law_draw : Addr} {fd_law_one fd_law_draw : FuncData} (F : FunD K "_law_one" "_law_one" (defArgs s_law_one) (defBody s_law_one) (defScope s_law_one) [] [] f_law_one fd_law_one) (M : mg "_law_one" = some (.ref f_law_one)) (G_law_draw : FnIn P w K mg base "_law_draw" f_law_draw fd_law_draw ["well", "many"] 1 m_law_draw) (z_len : mg "len" = none) : FnIn P w K mg base "_law_one" f_law_one fd_law_one ["well", "some"] 2 m_law_one := by
  refine ⟨(fn_ok (k := 1) F sc_law_one (fun cdv A outer s H E hr => ?_) : FnOk P w K mg base (L2.CX P w) 2 f_law_one fd_law_one ["well", "some"] (spOf K mg 2 m_law_one)), M, F.kp, F.bindsN fun _ _ _ _ _ _ us hl => match us, hl with | [_, _], _ => rfl⟩
  have tk := takes_of (X := cxOf (L2.CX P w) P w K mg base N_law_one "_law_one" (defScope s_law_one) f_law_one cdv A outer s H E) (E := E) rfl rfl rfl rfl
  have po : PassesOwn (model P w) (cxOf (L2.CX P w) P w K mg base N_law_one "_law_one" (defScope s_law_one) f_law_one cdv A outer s H E).A (cxOf (L2.CX P w) P w K mg base N_law_one "_law_one" (defScope s_law_one) f_law_one cdv A outer s H E).env (cxOf (L2.CX P w) P w K mg base N_law_one "_law_one" (defScope s_law_one) f_law_one cdv A outer s H E).xe := passes_of rfl
  have hn : (cxOf (L2.CX P w) P w K mg base N_law_one "_law_one" (defScope s_law_one) f_law_one cdv A outer s H E).N.Nodup := sc_law_one.nd
  exact (pdss_one (pds_ret (pd_ix ix_ok (pd_var 1) (pd_fn tk (hr.mono (by omega)) G_law_draw (pda_cons (pd_var 0) (pda_cons (pd_blt fd_len z_len bv_len (pda_cons (pd_var 1) pda_nil)) pda_nil))))))

theorem ok_law_same {n : Nat} {f_law_same : Addr} {fd_law_same : FuncData} (F : FunD K "_law_same" "_law_same" (defArgs s_law_same) (defBody s_law_same) (defScope s_law_same) [] [] f_law_same fd_law_same) (M : mg "_law_same" = some (.ref f_law_same)) (G_law_same : FnIn P w K mg base "_law_same" f_law_same fd_law_same ["found", "due"] (0 + n) (m_law_same n)) (z_isinstance : mg "isinstance" = none) (z_tuple : mg "tuple" = none) (z_len : mg "len" = none) (z_range : mg "range" = none) (z_str : mg "str" = none) (z_int : mg "int" = none) (z_bool : mg "bool" = none) : FnIn P w K mg base "_law_same" f_law_same fd_law_same ["found", "due"] (0 + (n + 1)) (m_law_same (n + 1)) := by
  refine ⟨(fn_ok (k := 0 + n) F sc_law_same (fun cdv A outer s H E hr => ?_) : FnOk P w K mg base (L2.CX P w) (0 + n + 1) f_law_same fd_law_same ["found", "due"] (spOf K mg 2 (mFun 3 (b_law_same (m_law_same n))))), M, F.kp, F.bindsN fun _ _ _ _ _ _ us hl => match us, hl with | [_, _], _ => rfl⟩
  have tk := takes_of (X := cxOf (L2.CX P w) P w K mg base N_law_same "_law_same" (defScope s_law_same) f_law_same cdv A outer s H E) (E := E) rfl rfl rfl rfl
  have po : PassesOwn (model P w) (cxOf (L2.CX P w) P w K mg base N_law_same "_law_same" (defScope s_law_same) f_law_same cdv A outer s H E).A (cxOf (L2.CX P w) P w K mg base N_law_same "_law_same" (defScope s_law_same) f_law_same cdv A outer s H E).env (cxOf (L2.CX P w) P w K mg base N_law_same "_law_same" (defScope s_law_same) f_law_same cdv A outer s H E).xe := passes_of rfl
  have hn : (cxOf (L2.CX P w) P w K mg base N_law_same "_law_same" (defScope s_law_same) f_law_same cdv A outer s H E).N.Nodup := sc_law_same.nd
  exact (pdss_cons (pds_if (pdt_val (pd_isi .tup (pd_var 1) z_isinstance bv_isinstance z_tuple bv_tuple)) (pdss_cons (pds_if (pdw_or (pdt_not (pdt_val (pd_isi .tup (pd_var 0) z_isinstance bv_isinstance z_tuple bv_tuple))) (pdw_or1 (pdt_cmp (od_ne hr.units) (pd_blt fd_len z_len bv_len (pda_cons (pd_var 0) pda_nil)) (pd_blt fd_len z_len bv_len (pda_cons (pd_var 1) pda_nil))))).t (pdss_one (pds_ret pd_bl)) pdss_nil)
    (pdss_one (pds_ret (pd_cmp (od_eq hr.units) (pd_lc (own := [("k", 2)]) rfl hn (pdi_rng1 z_range (pda_cons (pd_blt fd_len z_len bv_len (pda_cons (pd_var 1) pda_nil)) pda_nil)) (blkOk_by (N := N_law_same) (sc := defScope s_law_same) (by decide +kernel)) (by decide) (fun _ _ _ _ _ => (pdg_name 2 hn)) (fun _ _ _ _ _ => (pdts_one (pdt_not (pdt_val (pd_fn takes0 (hr.mono (by omega)) G_law_same (pda_cons (pd_ix ix_ok (pd_var 0) (pd_var 2)) (pda_cons (pd_ix ix_ok (pd_var 1) (pd_var 2)) pda_nil))))))) (fun _ _ _ _ _ => (pd_var 2))) (pd_lst pda_nil))))) pdss_nil)
    (pdss_cons (pds_if (pdw_or (pdt_cmp od_isN (pd_var 1) pd_non) (pdw_or1 (pdt_val (pd_isi .str (pd_var 1) z_isinstance bv_isinstance z_str bv_str)))).t (pdss_one (pds_ret (pd_and (pd_cmp (od_eq hr.units) (pd_isi .str (pd_var 0) z_isinstance bv_isinstance z_str bv_str) (pd_isi .str (pd_var 1) z_isinstance bv_isinstance z_str bv_str)) (pd_one (pd_cmp (od_eq hr.units) (pd_var 0) (pd_var 1)))))) pdss_nil)
    (pdss_one (pds_ret (pd_and (pd_isi .int (pd_var 0) z_isinstance bv_isinstance z_int bv_int) (pd_and (pd_not (pd_isi .bool (pd_var 0) z_isinstance bv_isinstance z_bool bv_bool)) (pd_one (pd_cmp (od_eq hr.units) (pd_var 0) (pd_var 1)))))))))

theorem ok_law_common {f_law_common : Addr} {fd_law_common : FuncData} (F : FunD K "_law_common" "_law_common" (defArgs s_law_common) (defBody s_law_common) (defScope s_law_common) [] [] f_law_common fd_law_common) (M : mg "_law_common" = some (.ref f_law_common)) (z_abs : mg "abs" = none) (z_int : mg "int" = none) : FnIn P w K mg base "_law_common" f_law_common fd_law_common ["a", "b"] 1 m_law_common := by
  refine ⟨(fn_ok (k := 0) F sc_law_common (fun cdv A outer s H E hr => ?_) : FnOk P w K mg base (L2.CX P w) 1 f_law_common fd_law_common ["a", "b"] (spOf K mg 2 m_law_common)), M, F.kp, F.bindsN fun _ _ _ _ _ _ us hl => match us, hl with | [_, _], _ => rfl⟩
  have tk := takes_of (X := cxOf (L2.CX P w) P w K mg base N_law_common "_law_common" (defScope s_law_common) f_law_common cdv A outer s H E) (E := E) rfl rfl rfl rfl
  have po : PassesOwn (model P w) (cxOf (L2.CX P w) P w K mg base N_law_common "_law_common" (defScope s_law_common) f_law_common cdv A outer s H E).A (cxOf (L2.CX P w) P w K mg base N_law_common "_law_common" (defScope s_law_common) f_law_common cdv A outer s H E).env (cxOf (L2.CX P w) P w K mg base N_law_common "_law_common" (defScope s_law_common) f_law_common cdv A outer s H E).xe := passes_of rfl
  have hn : (cxOf (L2.CX P w) P w K mg base N_law_common "_law_common" (defScope s_law_common) f_law_common cdv A outer s H E).N.Nodup := sc_law_common.nd
  exact (pdss_cons (pds_par 0 1 rfl hn (pda_cons (pd_blt fd_abs z_abs bv_abs (pda_cons (pd_var 0) pda_nil)) (pda_cons (pd_blt fd_abs z_abs bv_abs (pda_cons (pd_var 1) pda_nil)) pda_nil)))
    (pdss_cons (pds_while bigN po (pdt_cmp (od_ne hr.units) (pd_var 1) pd_int) (pdss_one (pds_par 0 1 rfl hn (pda_cons (pd_var 1) (pda_cons (pd_bin od_mod (pd_bty fd_int z_int bv_int (pda_cons (pd_var 0) pda_nil)) (pd_var 1)) pda_nil)))))
    (pdss_one (pds_ret (pd_var 0)))))

theorem ok_law_short {f_law_short f_law_common : Addr} {fd_law_short fd_law_common : FuncData} (F : FunD K "_law_short" "_law_short" (defArgs s_law_short) (defBody s_law_short) (defScope s_law_short) [] [] f_law_short fd_law_short) (M : mg "_law_short" = some (.ref f_law_short)) (G_law_common : FnIn P w K mg base "_law_common" f_law_common fd_law_common ["a", "b"] 1 m_law_common) : FnIn P w K mg base "_law_short" f_law_short fd_law_short ["top", "bottom"] 2 m_law_short := by
  refine ⟨(fn_ok (k := 1) F sc_law_short (fun cdv A outer s H E hr => ?_) : FnOk P w K mg base (L2.CX P w) 2 f_law_short fd_law_short ["top", "bottom"] (spOf K mg 2 m_law_short)), M, F.kp, F.bindsN fun _ _ _ _ _ _ us hl => match us, hl with | [_, _], _ => rfl⟩
  have tk := takes_of (X := cxOf (L2.CX P w) P w K mg base N_law_short "_law_short" (defScope s_law_short) f_law_short cdv A outer s H E) (E := E) rfl rfl rfl rfl
  have po : PassesOwn (model P w) (cxOf (L2.CX P w) P w K mg base N_law_short "_law_short" (defScope s_law_short) f_law_short cdv A outer s H E).A (cxOf (L2.CX P w) P w K mg base N_law_short "_law_short" (defScope s_law_short) f_law_short cdv A outer s H E).env (cxOf (L2.CX P w) P w K mg base N_law_short "_law_short" (defScope s_law_short) f_law_short cdv A outer s H E).xe := passes_of rfl
  have hn : (cxOf (L2.CX P w) P w K mg base N_law_short "_law_short" (defScope s_law_short) f_law_short cdv A outer s H E).N.Nodup := sc_law_short.nd
  exact (pdss_cons (pds_set 2 hn (pd_bin od_mulI (pd_fn tk (hr.mono (by omega)) G_law_common (pda_cons (pd_var 0) (pda_cons (pd_var 1) pda_nil))) (pd_if (pdt_cmp od_gt (pd_var 1) pd_int) pd_int (pd_neg pd_int))))
    (pdss_one (pds_ret (pd_tup (pda_cons (pd_bin od_fdiv (pd_var 0) (pd_var 2)) (pda_cons (pd_bin od_fdiv (pd_var 1) (pd_var 2)) pda_nil))))))

theorem ok_law_integer {f_law_integer f_law_draw f_law_one : Addr} {fd_law_integer fd_law_draw fd_law_one : FuncData} (F : FunD K "_law_integer" "_law_integer" (defArgs s_law_integer) (defBody s_law_integer) (defScope s_law_integer) [] [] f_law_integer fd_law_integer) (M : mg "_law_integer" = some (.ref f_law_integer)) (G_law_draw : FnIn P w K mg base "_law_draw" f_law_draw fd_law_draw ["well", "many"] 1 m_law_draw) (G_law_one : FnIn P w K mg base "_law_one" f_law_one fd_law_one ["well", "some"] 2 m_law_one) (z_range : mg "range" = none) : FnIn P w K mg base "_law_integer" f_law_integer fd_law_integer ["well"] 3 m_law_integer := by
  refine ⟨(fn_ok (k := 2) F sc_law_integer (fun cdv A outer s H E hr => ?_) : FnOk P w K mg base (L2.CX P w) 3 f_law_integer fd_law_integer ["well"] (spOf K mg 1 m_law_integer)), M, F.kp, F.bindsN fun _ _ _ _ _ _ us hl => match us, hl with | [_], _ => rfl⟩
  have tk := takes_of (X := cxOf (L2.CX P w) P w K mg base N_law_integer "_law_integer" (defScope s_law_integer) f_law_integer cdv A outer s H E) (E := E) rfl rfl rfl rfl
  have po : PassesOwn (model P w) (cxOf (L2.CX P w) P w K mg base N_law_integer "_law_integer" (defScope s_law_integer) f_law_integer cdv A outer s H E).A (cxOf (L2.CX P w) P w K mg base N_law_integer "_law_integer" (defScope s_law_integer) f_law_integer cdv A outer s H E).env (cxOf (L2.CX P w) P w K mg base N_law_integer "_law_integer" (defScope s_law_integer) f_law_integer cdv A outer s H E).xe := passes_of rfl
  have hn : (cxOf (L2.CX P w) P w K mg base N_law_integer "_law_integer" (defScope s_law_integer) f_law_integer cdv A outer s H E).N.Nodup := sc_law_integer.nd
  exact (pdss_cons (pds_set 1 hn (pd_bin od_sub (pd_fn tk (hr.mono (by omega)) G_law_draw (pda_cons (pd_var 0) (pda_cons pd_int pda_nil))) pd_int))
    (pdss_cons (pds_for po rfl (pdi_rng1 z_range (pda_cons (pd_fn tk (hr.mono (by omega)) G_law_draw (pda_cons (pd_var 0) (pda_cons pd_int pda_nil))) pda_nil)) (pdg_name 2 hn) (pdss_one (pds_set 1 hn (pd_bin od_mulI (pd_var 1) (pd_fn tk (hr.mono (by omega)) G_law_one (pda_cons (pd_var 0) (pda_cons (pd_lst (pda_cons pd_int (pda_cons pd_int (pda_cons (pd_bin od_add (pd_bin od_pow pd_int pd_int) pd_int) (pda_cons (pd_bin od_pow pd_int pd_int) (pda_cons (pd_bin od_pow pd_int pd_int) (pda_cons (pd_neg pd_int) (pda_cons (pd_bin od_add (pd_fn tk (hr.mono (by omega)) G_law_draw (pda_cons (pd_var 0) (pda_cons pd_int pda_nil))) pd_int) pda_nil)))))))) pda_nil)))))))
    (pdss_one (pds_ret (pd_var 1)))))

theorem ok_law_ratio {f_law_ratio f_law_integer f_law_short : Addr} {fd_law_ratio fd_law_integer fd_law_short : FuncData} (F : FunD K "_law_ratio" "_law_ratio" (defArgs s_law_ratio) (defBody s_law_ratio) (defScope s_law_ratio) [] [] f_law_ratio fd_law_ratio) (M : mg "_law_ratio" = some (.ref f_law_ratio)) (G_law_integer : FnIn P w K mg base "_law_integer" f_law_integer fd_law_integer ["well"] 3 m_law_integer) (G_law_short : FnIn P w K mg base "_law_short" f_law_short fd_law_short ["top", "bottom"] 2 m_law_short) : FnIn P w K mg base "_law_ratio" f_law_ratio fd_law_ratio ["well"] 4 m_law_ratio := by
  refine ⟨(fn_ok (k := 3) F sc_law_ratio (fun cdv A outer s H E hr => ?_) : FnOk P w K mg base (L2.CX P w) 4 f_law_ratio fd_law_ratio ["well"] (spOf K mg 1 m_law_ratio)), M, F.kp, F.bindsN fun _ _ _ _ _ _ us hl => match us, hl with | [_], _ => rfl⟩
  have tk := takes_of (X := cxOf (L2.CX P w) P w K mg base N_law_ratio "_law_ratio" (defScope s_law_ratio) f_law_ratio cdv A outer s H E) (E := E) rfl rfl rfl rfl
  have po : PassesOwn (model P w) (cxOf (L2.CX P w) P w K mg base N_law_ratio "_law_ratio" (defScope s_law_ratio) f_law_ratio cdv A outer s H E).A (cxOf (L2.CX P w) P w K mg base N_law_ratio "_law_ratio" (defScope s_law_ratio) f_law_ratio cdv A outer s H E).env (cxOf (L2.CX P w) P w K mg base N_law_ratio "_law_ratio" (defScope s_law_ratio) f_law_ratio cdv A outer s H E).xe := passes_of rfl
  have hn : (cxOf (L2.CX P w) P w K mg base N_law_ratio "_law_ratio" (defScope s_law_ratio) f_law_ratio cdv A outer s H E).N.Nodup := sc_law_ratio.nd
  exact (pdss_cons (pds_set 1 hn (pd_fn tk (hr.mono (by omega)) G_law_integer (pda_cons (pd_var 0) pda_nil)))
    (pdss_one (pds_ret (pd_fn tk (hr.mono (by omega)) G_law_short (pda_cons (pd_fn tk (hr.mono (by omega)) G_law_integer (pda_cons (pd_var 0) pda_nil)) (pda_cons (pd_if (pdt_cmp (od_ne hr.units) (pd_var 1) pd_int) (pd_var 1) pd_int) pda_nil))))))

theorem ok_law_none {f_law_none f_law_one : Addr} {fd_law_none fd_law_one : FuncData} (F : FunD K "_law_none" "_law_none" (defArgs s_law_none) (defBody s_law_none) (defScope s_law_none) [] [] f_law_none fd_law_none) (M : mg "_law_none" = some (.ref f_law_none)) (G_law_one : FnIn P w K mg base "_law_one" f_law_one fd_law_one ["well", "some"] 2 m_law_one) (z_str : mg "str" = none) : FnIn P w K mg base "_law_none" f_law_none fd_law_none ["well", "one"] 3 m_law_none := by
  refine ⟨(fn_ok (k := 2) F sc_law_none (fun cdv A outer s H E hr => ?_) : FnOk P w K mg base (L2.CX P w) 3 f_law_none fd_law_none ["well", "one"] (spOf K mg 2 m_law_none)), M, F.kp, F.bindsN fun _ _ _ _ _ _ us hl => match us, hl with | [_, _], _ => rfl⟩
  have tk := takes_of (X := cxOf (L2.CX P w) P w K mg base N_law_none "_law_none" (defScope s_law_none) f_law_none cdv A outer s H E) (E := E) rfl rfl rfl rfl
  have po : PassesOwn (model P w) (cxOf (L2.CX P w) P w K mg base N_law_none "_law_none" (defScope s_law_none) f_law_none cdv A outer s H E).A (cxOf (L2.CX P w) P w K mg base N_law_none "_law_none" (defScope s_law_none) f_law_none cdv A outer s H E).env (cxOf (L2.CX P w) P w K mg base N_law_none "_law_none" (defScope s_law_none) f_law_none cdv A outer s H E).xe := passes_of rfl
  have hn : (cxOf (L2.CX P w) P w K mg base N_law_none "_law_none" (defScope s_law_none) f_law_none cdv A outer s H E).N.Nodup := sc_law_none.nd
  exact (pdss_cons (pds_asg (pd_var 1) (pdg_tup rfl (pdgs_cons (pdg_name 2 hn) (pdgs_cons (pdg_name 3 hn) pdgs_nil))))
    (pdss_cons (pds_set 4 hn (pd_lst (pda_cons pd_non (pda_cons pd_int (pda_cons (pd_lst (pda_cons (pd_var 2) (pda_cons (pd_var 3) pda_nil))) (pda_cons (pd_tup (pda_cons (pd_var 2) pda_nil)) (pda_cons (pd_tup (pda_cons (pd_var 2) (pda_cons (pd_var 3) (pda_cons pd_int pda_nil)))) (pda_cons (pd_tup (pda_cons (pd_bin od_mulI (pd_var 2) pd_int) (pda_cons (pd_bin od_mulI (pd_var 3) pd_int) pda_nil))) (pda_cons (pd_tup (pda_cons (pd_var 2) (pda_cons pd_int pda_nil))) (pda_cons (pd_tup (pda_cons (pd_neg (pd_var 2)) (pda_cons (pd_neg (pd_var 3)) pda_nil))) pda_nil))))))))))
    (pdss_cons (pds_set 4 hn (pd_bin od_add (pd_var 4) (pd_lst (pda_cons (pd_tup (pda_cons pd_bl (pda_cons pd_int pda_nil))) (pda_cons (pd_tup (pda_cons (pd_var 2) (pda_cons pd_bl pda_nil))) (pda_cons (pd_tup (pda_cons (pd_bty fd_str z_str bv_str (pda_cons (pd_var 2) pda_nil)) (pda_cons pd_int pda_nil))) (pda_cons (pd_tup (pda_cons pd_int (pda_cons pd_int pda_nil))) (pda_cons (pd_tup (pda_cons pd_int (pda_cons pd_non pda_nil))) (pda_cons (pd_tup (pda_cons (pd_tup (pda_cons (pd_var 2) (pda_cons (pd_var 3) pda_nil))) (pda_cons pd_int pda_nil))) pda_nil)))))))))
    (pdss_one (pds_ret (pd_fn tk (hr.mono (by omega)) G_law_one (pda_cons (pd_var 0) (pda_cons (pd_var 4) pda_nil))))))))

theorem ok_law_call {f_law_call f_plus f_minus f_product f_quotient f_below : Addr} {fd_law_call fd_plus fd_minus fd_product fd_quotient fd_below : FuncData} (F : FunD K "_law_call" "_law_call" (defArgs s_law_call) (defBody s_law_call) (defScope s_law_call) [] [] f_law_call fd_law_call) (M : mg "_law_call" = some (.ref f_law_call)) (G_plus : FnIn P w K mg base "plus" f_plus fd_plus ["a", "b"] 4 m_plus) (B_plus_a_b : KwB K fd_plus ["a", "b"] ["a", "b"] [0, 1]) (G_minus : FnIn P w K mg base "minus" f_minus fd_minus ["a", "b"] 4 m_minus) (B_minus_b_a : KwB K fd_minus ["a", "b"] ["b", "a"] [1, 0]) (G_product : FnIn P w K mg base "product" f_product fd_product ["a", "b"] 4 m_product) (B_product_a_b : KwB K fd_product ["a", "b"] ["a", "b"] [0, 1]) (G_quotient : FnIn P w K mg base "quotient" f_quotient fd_quotient ["a", "b"] 4 m_quotient) (B_quotient_b_a : KwB K fd_quotient ["a", "b"] ["b", "a"] [1, 0]) (G_below : FnIn P w K mg base "below" f_below fd_below ["a", "b"] 4 m_below) (B_below_b_a : KwB K fd_below ["a", "b"] ["b", "a"] [1, 0]) : FnIn P w K mg base "_law_call" f_law_call fd_law_call ["door", "a", "b", "named"] 5 m_law_call := by
  refine ⟨(fn_ok (k := 4) F sc_law_call (fun cdv A outer s H E hr => ?_) : FnOk P w K mg base (L2.CX P w) 5 f_law_call fd_law_call ["door", "a", "b", "named"] (spOf K mg 4 m_law_call)), M, F.kp, F.bindsN fun _ _ _ _ _ _ us hl => match us, hl with | [_, _, _, _], _ => rfl⟩
  have tk := takes_of (X := cxOf (L2.CX P w) P w K mg base N_law_call "_law_call" (defScope s_law_call) f_law_call cdv A outer s H E) (E := E) rfl rfl rfl rfl
  have po : PassesOwn (model P w) (cxOf (L2.CX P w) P w K mg base N_law_call "_law_call" (defScope s_law_call) f_law_call cdv A outer s H E).A (cxOf (L2.CX P w) P w K mg base N_law_call "_law_call" (defScope s_law_call) f_law_call cdv A outer s H E).env (cxOf (L2.CX P w) P w K mg base N_law_call "_law_call" (defScope s_law_call) f_law_call cdv A outer s H E).xe := passes_of rfl
  have hn : (cxOf (L2.CX P w) P w K mg base N_law_call "_law_call" (defScope s_law_call) f_law_call cdv A outer s H E).N.Nodup := sc_law_call.nd
  exact (pdss_cons (pds_if (pdt_cmp (od_eq hr.units) (pd_var 0) pd_int) (pdss_one (pds_ret (pd_if (pdt_val (pd_var 3)) (pd_fnk tk (hr.mono (by omega)) G_plus B_plus_a_b (pdk_cons (pd_var 1) (pdk_cons (pd_var 2) pdk_nil))) (pd_fn tk (hr.mono (by omega)) G_plus (pda_cons (pd_var 1) (pda_cons (pd_var 2) pda_nil)))))) pdss_nil)
    (pdss_cons (pds_if (pdt_cmp (od_eq hr.units) (pd_var 0) pd_int) (pdss_one (pds_ret (pd_if (pdt_val (pd_var 3)) (pd_fnk tk (hr.mono (by omega)) G_minus B_minus_b_a (pdk_cons (pd_var 2) (pdk_cons (pd_var 1) pdk_nil))) (pd_fn tk (hr.mono (by omega)) G_minus (pda_cons (pd_var 1) (pda_cons (pd_var 2) pda_nil)))))) pdss_nil)
    (pdss_cons (pds_if (pdt_cmp (od_eq hr.units) (pd_var 0) pd_int) (pdss_one (pds_ret (pd_if (pdt_val (pd_var 3)) (pd_fnk tk (hr.mono (by omega)) G_product B_product_a_b (pdk_cons (pd_var 1) (pdk_cons (pd_var 2) pdk_nil))) (pd_fn tk (hr.mono (by omega)) G_product (pda_cons (pd_var 1) (pda_cons (pd_var 2) pda_nil)))))) pdss_nil)
    (pdss_cons (pds_if (pdt_cmp (od_eq hr.units) (pd_var 0) pd_int) (pdss_one (pds_ret (pd_if (pdt_val (pd_var 3)) (pd_fnk tk (hr.mono (by omega)) G_quotient B_quotient_b_a (pdk_cons (pd_var 2) (pdk_cons (pd_var 1) pdk_nil))) (pd_fn tk (hr.mono (by omega)) G_quotient (pda_cons (pd_var 1) (pda_cons (pd_var 2) pda_nil)))))) pdss_nil)
    (pdss_one (pds_ret (pd_if (pdt_val (pd_var 3)) (pd_fnk tk (hr.mono (by omega)) G_below B_below_b_a (pdk_cons (pd_var 2) (pdk_cons (pd_var 1) pdk_nil))) (pd_fn tk (hr.mono (by omega)) G_below (pda_cons (pd_var 1) (pda_cons (pd_var 2) pda_nil))))))))))

theorem ok_law_told {f_law_told f_law_call c_FlatError c_ZeroBottom c_BadRatio : Addr} {fd_law_told fd_law_call : FuncData} (F : FunD K "_law_told" "_law_told" (defArgs s_law_told) (defBody s_law_told) (defScope s_law_told) [] [] f_law_told fd_law_told) (M : mg "_law_told" = some (.ref f_law_told)) (G_law_call : FnIn P w K mg base "_law_call" f_law_call fd_law_call ["door", "a", "b", "named"] 5 m_law_call) (T : TabOk K mg tab) (C_FlatError : mg "FlatError" = some (.ref c_FlatError)) (C_ZeroBottom : mg "ZeroBottom" = some (.ref c_ZeroBottom)) (C_BadRatio : mg "BadRatio" = some (.ref c_BadRatio)) : FnIn P w K mg base "_law_told" f_law_told fd_law_told ["door", "a", "b", "named"] 6 m_law_told := by
  refine ⟨(fn_ok (k := 5) F sc_law_told (fun cdv A outer s H E hr => ?_) : FnOk P w K mg base (L2.CX P w) 6 f_law_told fd_law_told ["door", "a", "b", "named"] (spOf K mg 4 m_law_told)), M, F.kp, F.bindsN fun _ _ _ _ _ _ us hl => match us, hl with | [_, _, _, _], _ => rfl⟩
  have tk := takes_of (X := cxOf (L2.CX P w) P w K mg base N_law_told "_law_told" (defScope s_law_told) f_law_told cdv A outer s H E) (E := E) rfl rfl rfl rfl
  have po : PassesOwn (model P w) (cxOf (L2.CX P w) P w K mg base N_law_told "_law_told" (defScope s_law_told) f_law_told cdv A outer s H E).A (cxOf (L2.CX P w) P w K mg base N_law_told "_law_told" (defScope s_law_told) f_law_told cdv A outer s H E).env (cxOf (L2.CX P w) P w K mg base N_law_told "_law_told" (defScope s_law_told) f_law_told cdv A outer s H E).xe := passes_of rfl
  have hn : (cxOf (L2.CX P w) P w K mg base N_law_told "_law_told" (defScope s_law_told) f_law_told cdv A outer s H E).N.Nodup := sc_law_told.nd
  exact (pdss_cons (pds_set 4 hn pd_non)
    (pdss_cons (pds_try T tk (fun _ _ _ tk' po' => (pdss_one (pds_set 4 hn (pd_fn tk' (hr.mono (by omega)) G_law_call (pda_cons (pd_var 0) (pda_cons (pd_var 1) (pda_cons (pd_var 2) (pda_cons (pd_var 3) pda_nil)))))))) (PDh.cons C_BadRatio (fun _ _ => (pdss_one (pds_set 4 hn pd_str))) (PDh.cons C_ZeroBottom (fun _ _ => (pdss_one (pds_set 4 hn pd_str))) (PDh.cons C_FlatError (fun _ _ => (pdss_one (pds_set 4 hn pd_str))) PDh.nil))))
    (pdss_one (pds_ret (pd_var 4)))))

theorem ok_law_due {f_law_due f_law_short : Addr} {fd_law_due fd_law_short : FuncData} (F : FunD K "_law_due" "_law_due" (defArgs s_law_due) (defBody s_law_due) (defScope s_law_due) [] [] f_law_due fd_law_due) (M : mg "_law_due" = some (.ref f_law_due)) (G_law_short : FnIn P w K mg base "_law_short" f_law_short fd_law_short ["top", "bottom"] 2 m_law_short) : FnIn P w K mg base "_law_due" f_law_due fd_law_due ["door", "a", "b"] 3 m_law_due := by
  refine ⟨(fn_ok (k := 2) F sc_law_due (fun cdv A outer s H E hr => ?_) : FnOk P w K mg base (L2.CX P w) 3 f_law_due fd_law_due ["door", "a", "b"] (spOf K mg 3 m_law_due)), M, F.kp, F.bindsN fun _ _ _ _ _ _ us hl => match us, hl with | [_, _, _], _ => rfl⟩
  have tk := takes_of (X := cxOf (L2.CX P w) P w K mg base N_law_due "_law_due" (defScope s_law_due) f_law_due cdv A outer s H E) (E := E) rfl rfl rfl rfl
  have po : PassesOwn (model P w) (cxOf (L2.CX P w) P w K mg base N_law_due "_law_due" (defScope s_law_due) f_law_due cdv A outer s H E).A (cxOf (L2.CX P w) P w K mg base N_law_due "_law_due" (defScope s_law_due) f_law_due cdv A outer s H E).env (cxOf (L2.CX P w) P w K mg base N_law_due "_law_due" (defScope s_law_due) f_law_due cdv A outer s H E).xe := passes_of rfl
  have hn : (cxOf (L2.CX P w) P w K mg base N_law_due "_law_due" (defScope s_law_due) f_law_due cdv A outer s H E).N.Nodup := sc_law_due.nd
  exact (pdss_cons (pds_asg (pd_tup (pda_cons (pd_var 1) (pda_cons (pd_var 2) pda_nil))) (pdg_tup rfl (pdgs_cons (pdg_tup rfl (pdgs_cons (pdg_name 3 hn) (pdgs_cons (pdg_name 4 hn) pdgs_nil))) (pdgs_cons (pdg_tup rfl (pdgs_cons (pdg_name 5 hn) (pdgs_cons (pdg_name 6 hn) pdgs_nil))) pdgs_nil))))
    (pdss_cons (pds_if (pdt_cmp od_lt (pd_var 0) pd_int) (pdss_one (pds_ret (pd_fn tk (hr.mono (by omega)) G_law_short (pda_cons (pd_bin od_add (pd_bin od_mulI (pd_var 3) (pd_var 6)) (pd_bin od_mulI (pd_bin od_mulI (pd_var 5) (pd_var 4)) (pd_bin od_sub pd_int (pd_bin od_mulI pd_int (pd_var 0))))) (pda_cons (pd_bin od_mulI (pd_var 4) (pd_var 6)) pda_nil))))) pdss_nil)
    (pdss_cons (pds_if (pdt_cmp (od_eq hr.units) (pd_var 0) pd_int) (pdss_one (pds_ret (pd_fn tk (hr.mono (by omega)) G_law_short (pda_cons (pd_bin od_mulI (pd_var 3) (pd_var 5)) (pda_cons (pd_bin od_mulI (pd_var 4) (pd_var 6)) pda_nil))))) pdss_nil)
    (pdss_one (pds_ret (pd_if (pdt_cmp (od_eq hr.units) (pd_var 5) pd_int) pd_str (pd_fn tk (hr.mono (by omega)) G_law_short (pda_cons (pd_bin od_mulI (pd_var 3) (pd_var 6)) (pda_cons (pd_bin od_mulI (pd_var 4) (pd_var 5)) pda_nil)))))))))

theorem ok_law_ratio_right {f_law_ratio_right f_ratio f_law_same f_law_short c_ZeroBottom : Addr} {fd_law_ratio_right fd_ratio fd_law_same fd_law_short : FuncData} (F : FunD K "_law_ratio_right" "_law_ratio_right" (defArgs s_law_ratio_right) (defBody s_law_ratio_right) (defScope s_law_ratio_right) [] [] f_law_ratio_right fd_law_ratio_right) (M : mg "_law_ratio_right" = some (.ref f_law_ratio_right)) (G_ratio : FnIn P w K mg base "ratio" f_ratio fd_ratio ["top", "bottom"] 2 m_ratio) (B_ratio_bottom_top : KwB K fd_ratio ["top", "bottom"] ["bottom", "top"] [1, 0]) (G_law_same : FnIn P w K mg base "_law_same" f_law_same fd_law_same ["found", "due"] 4 (m_law_same 4)) (G_law_short : FnIn P w K mg base "_law_short" f_law_short fd_law_short ["top", "bottom"] 2 m_law_short) (T : TabOk K mg tab) (C_ZeroBottom : mg "ZeroBottom" = some (.ref c_ZeroBottom)) : FnIn P w K mg base "_law_ratio_right" f_law_ratio_right fd_law_ratio_right ["top", "bottom"] 5 m_law_ratio_right := by
  refine ⟨(fn_ok (k := 4) F sc_law_ratio_right (fun cdv A outer s H E hr => ?_) : FnOk P w K mg base (L2.CX P w) 5 f_law_ratio_right fd_law_ratio_right ["top", "bottom"] (spOf K mg 2 m_law_ratio_right)), M, F.kp, F.bindsN fun _ _ _ _ _ _ us hl => match us, hl with | [_, _], _ => rfl⟩
  have tk := takes_of (X := cxOf (L2.CX P w) P w K mg base N_law_ratio_right "_law_ratio_right" (defScope s_law_ratio_right) f_law_ratio_right cdv A outer s H E) (E := E) rfl rfl rfl rfl
  have po : PassesOwn (model P w) (cxOf (L2.CX P w) P w K mg base N_law_ratio_right "_law_ratio_right" (defScope s_law_ratio_right) f_law_ratio_right cdv A outer s H E).A (cxOf (L2.CX P w) P w K mg base N_law_ratio_right "_law_ratio_right" (defScope s_law_ratio_right) f_law_ratio_right cdv A outer s H E).env (cxOf (L2.CX P w) P w K mg base N_law_ratio_right "_law_ratio_right" (defScope s_law_ratio_right) f_law_ratio_right cdv A outer s H E).xe := passes_of rfl
  have hn : (cxOf (L2.CX P w) P w K mg base N_law_ratio_right "_law_ratio_right" (defScope s_law_ratio_right) f_law_ratio_right cdv A outer s H E).N.Nodup := sc_law_ratio_right.nd
  exact (pdss_cons (pds_set 2 hn pd_non)
    (pdss_cons (pds_try T tk (fun _ _ _ tk' po' => (pdss_one (pds_set 2 hn (pd_fnk tk' (hr.mono (by omega)) G_ratio B_ratio_bottom_top (pdk_cons (pd_var 1) (pdk_cons (pd_var 0) pdk_nil)))))) (PDh.cons C_ZeroBottom (fun _ _ => (pdss_one (pds_set 2 hn pd_str))) PDh.nil))
    (pdss_one (pds_ret (pd_fn tk (hr.mono (by omega)) G_law_same (pda_cons (pd_var 2) (pda_cons (pd_if (pdt_cmp (od_eq hr.units) (pd_var 1) pd_int) pd_str (pd_fn tk (hr.mono (by omega)) G_law_short (pda_cons (pd_var 0) (pda_cons (pd_var 1) pda_nil)))) pda_nil)))))))

theorem ok_law {f_law f_law_well f_law_ratio f_law_draw f_law_one f_law_same f_law_told f_law_due f_minus f_plus f_quotient f_product f_law_ratio_right f_law_integer f_law_none : Addr} {fd_law fd_law_well fd_law_ratio fd_law_draw fd_law_one fd_law_same fd_law_told fd_law_due fd_minus fd_plus fd_quotient fd_product fd_law_ratio_right fd_law_integer fd_law_none : FuncData} (F : FunD K "law" "law" (defArgs s_law) (defBody s_law) (defScope s_law) [] [] f_law fd_law) (M : mg "law" = some (.ref f_law)) (G_law_well : FnIn P w K mg base "_law_well" f_law_well fd_law_well ["script"] 1 m_law_well) (G_law_ratio : FnIn P w K mg base "_law_ratio" f_law_ratio fd_law_ratio ["well"] 4 m_law_ratio) (G_law_draw : FnIn P w K mg base "_law_draw" f_law_draw fd_law_draw ["well", "many"] 1 m_law_draw) (G_law_one : FnIn P w K mg base "_law_one" f_law_one fd_law_one ["well", "some"] 2 m_law_one) (G_law_same : FnIn P w K mg base "_law_same" f_law_same fd_law_same ["found", "due"] 4 (m_law_same 4)) (G_law_told : FnIn P w K mg base "_law_told" f_law_told fd_law_told ["door", "a", "b", "named"] 6 m_law_told) (G_law_due : FnIn P w K mg base "_law_due" f_law_due fd_law_due ["door", "a", "b"] 3 m_law_due) (G_minus : FnIn P w K mg base "minus" f_minus fd_minus ["a", "b"] 4 m_minus) (G_plus : FnIn P w K mg base "plus" f_plus fd_plus ["a", "b"] 4 m_plus) (G_quotient : FnIn P w K mg base "quotient" f_quotient fd_quotient ["a", "b"] 4 m_quotient) (G_product : FnIn P w K mg base "product" f_product fd_product ["a", "b"] 4 m_product) (G_law_ratio_right : FnIn P w K mg base "_law_ratio_right" f_law_ratio_right fd_law_ratio_right ["top", "bottom"] 5 m_law_ratio_right) (G_law_integer : FnIn P w K mg base "_law_integer" f_law_integer fd_law_integer ["well"] 3 m_law_integer) (G_law_none : FnIn P w K mg base "_law_none" f_law_none fd_law_none ["well", "one"] 3 m_law_none) (z_range : mg "range" = none) (z_min : mg "min" = none) (z_len : mg "len" = none) (z_isinstance : mg "isinstance" = none) (z_bool : mg "bool" = none) : FnIn P w K mg base "law" f_law fd_law ["script"] 7 m_law := by
  refine ⟨(fn_ok (k := 6) F sc_law (fun cdv A outer s H E hr => ?_) : FnOk P w K mg base (L2.CX P w) 7 f_law fd_law ["script"] (spOf K mg 1 m_law)), M, F.kp, F.bindsN fun _ _ _ _ _ _ us hl => match us, hl with | [_], _ => rfl⟩
  have tk := takes_of (X := cxOf (L2.CX P w) P w K mg base N_law "law" (defScope s_law) f_law cdv A outer s H E) (E := E) rfl rfl rfl rfl
  have po : PassesOwn (model P w) (cxOf (L2.CX P w) P w K mg base N_law "law" (defScope s_law) f_law cdv A outer s H E).A (cxOf (L2.CX P w) P w K mg base N_law "law" (defScope s_law) f_law cdv A outer s H E).env (cxOf (L2.CX P w) P w K mg base N_law "law" (defScope s_law) f_law cdv A outer s H E).xe := passes_of rfl
  have hn : (cxOf (L2.CX P w) P w K mg base N_law "law" (defScope s_law) f_law cdv A outer s H E).N.Nodup := sc_law.nd
  exact (pdss_cons (pds_set 1 hn (pd_fn tk (hr.mono (by omega)) G_law_well (pda_cons (pd_var 0) pda_nil)))
    (pdss_cons (pds_for po rfl (pdi_rng1 z_range (pda_cons (pd_bin od_add pd_int (pd_blt (fd_min2 rfl) z_min bv_min (pda_cons (pd_blt fd_len z_len bv_len (pda_cons (pd_var 0) pda_nil)) (pda_cons pd_int pda_nil)))) pda_nil)) (pdg_name 2 hn) (pdss_cons (pds_par 3 4 rfl hn (pda_cons (pd_fn tk (hr.mono (by omega)) G_law_ratio (pda_cons (pd_var 1) pda_nil)) (pda_cons (pd_fn tk (hr.mono (by omega)) G_law_ratio (pda_cons (pd_var 1) pda_nil)) pda_nil)))
    (pdss_cons (pds_set 4 hn (pd_if (pdt_cmp (od_eq hr.units) (pd_fn tk (hr.mono (by omega)) G_law_draw (pda_cons (pd_var 1) (pda_cons pd_int pda_nil))) pd_int) (pd_fn tk (hr.mono (by omega)) G_law_one (pda_cons (pd_var 1) (pda_cons (pd_lst (pda_cons (pd_var 3) (pda_cons (pd_tup (pda_cons pd_int (pda_cons pd_int pda_nil))) (pda_cons (pd_tup (pda_cons (pd_neg (pd_ix ix_ok (pd_var 3) pd_int)) (pda_cons (pd_ix ix_ok (pd_var 3) pd_int) pda_nil))) (pda_cons (pd_tup (pda_cons (pd_bin od_add (pd_ix ix_ok (pd_var 3) pd_int) pd_int) (pda_cons pd_int pda_nil))) pda_nil))))) pda_nil))) (pd_var 4)))
    (pdss_cons (pds_set 5 hn (pd_cmp (od_eq hr.units) (pd_fn tk (hr.mono (by omega)) G_law_draw (pda_cons (pd_var 1) (pda_cons pd_int pda_nil))) pd_int))
    (pdss_cons (pds_for po rfl (pdi_rng1 z_range (pda_cons pd_int pda_nil)) (pdg_name 6 hn) (pdss_one (pds_if (pdt_not (pdt_val (pd_fn tk (hr.mono (by omega)) G_law_same (pda_cons (pd_fn tk (hr.mono (by omega)) G_law_told (pda_cons (pd_var 6) (pda_cons (pd_var 3) (pda_cons (pd_var 4) (pda_cons (pd_var 5) pda_nil))))) (pda_cons (pd_fn tk (hr.mono (by omega)) G_law_due (pda_cons (pd_var 6) (pda_cons (pd_var 3) (pda_cons (pd_var 4) pda_nil)))) pda_nil))))) (pdss_one (pds_ret pd_bl)) pdss_nil)))
    (pdss_cons (pds_set 7 hn (pd_fn tk (hr.mono (by omega)) G_law_told (pda_cons pd_int (pda_cons (pd_var 3) (pda_cons (pd_var 4) (pda_cons (pd_var 5) pda_nil))))))
    (pdss_cons (pds_if (pdw_or (pdt_not (pdt_val (pd_isi .bool (pd_var 7) z_isinstance bv_isinstance z_bool bv_bool))) (pdw_or1 (pdt_cmp (od_ne hr.units) (pd_var 7) (pd_cmp od_lt (pd_bin od_mulI (pd_ix ix_ok (pd_var 3) pd_int) (pd_ix ix_ok (pd_var 4) pd_int)) (pd_bin od_mulI (pd_ix ix_ok (pd_var 4) pd_int) (pd_ix ix_ok (pd_var 3) pd_int)))))).t (pdss_one (pds_ret pd_bl)) pdss_nil)
    (pdss_cons (pds_if (pdt_not (pdt_val (pd_fn tk (hr.mono (by omega)) G_law_same (pda_cons (pd_tup (pda_cons (pd_fn tk (hr.mono (by omega)) G_minus (pda_cons (pd_fn tk (hr.mono (by omega)) G_plus (pda_cons (pd_var 3) (pda_cons (pd_var 4) pda_nil))) (pda_cons (pd_var 4) pda_nil))) (pda_cons (pd_fn tk (hr.mono (by omega)) G_plus (pda_cons (pd_fn tk (hr.mono (by omega)) G_minus (pda_cons (pd_var 3) (pda_cons (pd_var 4) pda_nil))) (pda_cons (pd_var 4) pda_nil))) pda_nil))) (pda_cons (pd_tup (pda_cons (pd_var 3) (pda_cons (pd_var 3) pda_nil))) pda_nil))))) (pdss_one (pds_ret pd_bl)) pdss_nil)
    (pdss_cons (pds_if (pdw_and (pdt_cmp (od_ne hr.units) (pd_ix ix_ok (pd_var 4) pd_int) pd_int) (pdw_and1 (pdt_not (pdt_val (pd_fn tk (hr.mono (by omega)) G_law_same (pda_cons (pd_fn tk (hr.mono (by omega)) G_quotient (pda_cons (pd_fn tk (hr.mono (by omega)) G_product (pda_cons (pd_var 3) (pda_cons (pd_var 4) pda_nil))) (pda_cons (pd_var 4) pda_nil))) (pda_cons (pd_var 3) pda_nil))))))).t (pdss_one (pds_ret pd_bl)) pdss_nil)
    (pdss_cons (pds_if (pdw_or (pdt_not (pdt_val (pd_fn tk (hr.mono (by omega)) G_law_ratio_right (pda_cons (pd_fn tk (hr.mono (by omega)) G_law_integer (pda_cons (pd_var 1) pda_nil)) (pda_cons (pd_fn tk (hr.mono (by omega)) G_law_integer (pda_cons (pd_var 1) pda_nil)) pda_nil))))) (pdw_or1 (pdt_not (pdt_val (pd_fn tk (hr.mono (by omega)) G_law_ratio_right (pda_cons (pd_ix ix_ok (pd_var 3) pd_int) (pda_cons pd_int pda_nil))))))).t (pdss_one (pds_ret pd_bl)) pdss_nil)
    (pdss_cons (pds_par 8 9 rfl hn (pda_cons (pd_fn tk (hr.mono (by omega)) G_law_none (pda_cons (pd_var 1) (pda_cons (pd_var 3) pda_nil))) (pda_cons (pd_fn tk (hr.mono (by omega)) G_law_draw (pda_cons (pd_var 1) (pda_cons pd_int pda_nil))) pda_nil)))
    (pdss_one (pds_for po rfl (pdi_rng1 z_range (pda_cons pd_int pda_nil)) (pdg_name 6 hn) (pdss_one (pds_if (pdt_cmp (od_ne hr.units) (pd_fn tk (hr.mono (by omega)) G_law_told (pda_cons (pd_var 6) (pda_cons (pd_if (pdt_cmp (od_eq hr.units) (pd_var 9) pd_int) (pd_var 4) (pd_var 8)) (pda_cons (pd_if (pdt_cmp (od_eq hr.units) (pd_var 9) pd_int) (pd_var 3) (pd_var 8)) (pda_cons (pd_var 5) pda_nil))))) pd_str) (pdss_one (pds_ret pd_bl)) pdss_nil)))))))))))))))
    (pdss_one (pds_ret pd_bl))))

end
end K63

set_option Elab.async false
set_option linter.all false
set_option maxRecDepth 100000
set_option maxHeartbeats 1000000
namespace K63
open PySem PySem.Spec PyProof.Rows L2 FM
abbrev pr (p : Int × Int) : D := .tup [.int p.1, .int p.2]
def norm (t b : Int) : Int × Int := if b < 0 then ((-t).fdiv (Int.gcd t b), (-b).fdiv (Int.gcd t b)) else (t.fdiv (Int.gcd t b), b.fdiv (Int.gcd t b))
structure Norm (p : Int × Int) : Prop where
  pos : 1 ≤ p.2
  cop : Int.gcd p.1 p.2 = 1
theorem gcd_pos {t b : Int} (hb : b ≠ 0) : 0 < Int.gcd t b := Nat.pos_of_ne_zero fun h => hb (Int.gcd_eq_zero_iff.mp h).2
theorem gcd_le {t b : Int} (hb : b ≠ 0) : Int.gcd t b ≤ b.natAbs := Nat.le_of_dvd (by omega) (Nat.gcd_dvd_right _ _)
/-! ### the mathematics of shortened ratios -/
/-- exact division by the common part, up to a sign -/
theorem norm_eq {t b : Int} (hb : b ≠ 0) : ∃ (g s u v : Int), 0 < g ∧ (s = 1 ∨ s = -1) ∧ g = Int.gcd t b ∧ t = g * u ∧ b = g * v ∧ (s = 1 ↔ 0 < b) ∧ norm t b = (s * u, s * v) := by
  have hp := gcd_pos (t := t) hb
  obtain ⟨u, hu⟩ := Int.gcd_dvd_left t b
  obtain ⟨v, hv⟩ := Int.gcd_dvd_right t b
  generalize hg : ((Int.gcd t b : Nat) : Int) = g at *
  have hg0 : 0 < g := by omega
  have dv : ∀ x y : Int, x = g * y → x.fdiv g = y := fun x y e => by rw [e, Int.mul_fdiv_cancel_left _ (by omega)]
  by_cases c : b < 0
  · refine ⟨g, -1, u, v, hg0, .inr rfl, rfl, hu, hv, ⟨fun e => by omega, fun e => by omega⟩, ?_⟩
    unfold norm
    rw [if_pos c, hg, dv (-t) (-1 * u) (by rw [hu]; rw [Int.mul_left_comm]; simp), dv (-b) (-1 * v) (by rw [hv]; rw [Int.mul_left_comm]; simp)]
  · refine ⟨g, 1, u, v, hg0, .inl rfl, rfl, hu, hv, ⟨fun e => by omega, fun e => rfl⟩, ?_⟩
    unfold norm
    rw [if_neg c, hg, dv t u hu, dv b v hv, Int.one_mul, Int.one_mul]
theorem norm_cross {t b : Int} (hb : b ≠ 0) : (norm t b).1 * b = t * (norm t b).2 := by
  obtain ⟨g, s, u, v, _, _, _, ht, hv, _, e⟩ := norm_eq (t := t) hb
  rw [e, ht, hv]
  show s * u * (g * v) = g * u * (s * v)
  simp only [Int.mul_assoc, Int.mul_left_comm, Int.mul_comm]
theorem pos_of {g v : Int} (hg : 0 < g) (h : 0 < g * v) : 0 < v := by
  by_cases c : 0 < v
  · exact c
  · have := Int.mul_le_mul_of_nonneg_left (show v ≤ 0 by omega) (Int.le_of_lt hg)
    rw [Int.mul_zero] at this
    omega
theorem dvd_of {p q r : Int} (h : p ∣ q * r) (c : Int.gcd p q = 1) : p ∣ r := by
  have h1 : p.natAbs ∣ q.natAbs * r.natAbs := by
    rw [← Int.natAbs_mul]
    exact Int.natAbs_dvd_natAbs.mpr h
  have h2 : Nat.Coprime p.natAbs q.natAbs := c
  exact Int.natAbs_dvd_natAbs.mp (Nat.Coprime.dvd_of_dvd_mul_left h2 h1)
theorem norm_Norm {t b : Int} (hb : b ≠ 0) : Norm (norm t b) := by
  obtain ⟨g, s, u, v, hg, hs, eg, ht, hv, sp, e⟩ := norm_eq (t := t) hb
  have cop : Int.gcd u v = 1 := by
    have h1 : Int.gcd t b = g.natAbs * Int.gcd u v := by
      rw [ht, hv, Int.gcd_mul_left]
    have h2 : Int.gcd t b = g.natAbs := by omega
    have h3 : 0 < g.natAbs := by omega
    rw [h2] at h1
    have : g.natAbs * 1 = g.natAbs * Int.gcd u v := by rw [Nat.mul_one]; exact h1
    exact (Nat.eq_of_mul_eq_mul_left h3 this).symm
  rw [e]
  refine ⟨?_, ?_⟩
  · show 1 ≤ s * v
    rcases hs with h | h
    · have hb0 := sp.mp h
      rw [h, Int.one_mul]
      rw [hv] at hb0
      have := pos_of hg hb0
      omega
    · have hb0 : ¬ 0 < b := fun z => by have := sp.mpr z; omega
      rw [h]
      have h4 : 0 < g * (-v) := by rw [Int.mul_neg, ← hv]; omega
      have := pos_of hg h4
      omega
  · show Int.gcd (s * u) (s * v) = 1
    rcases hs with h | h <;> rw [h]
    · rw [Int.one_mul, Int.one_mul]; exact cop
    · rw [Int.neg_mul, Int.neg_mul, Int.one_mul, Int.one_mul, Int.gcd_neg, Int.neg_gcd]; exact cop
/-- two shortened ratios of the same value are one -/
theorem norm_uniq {p q : Int × Int} (hp : Norm p) (hq : Norm q) (h : p.1 * q.2 = q.1 * p.2) : p = q := by
  have h1 := hp.pos
  have h2 := hq.pos
  have d1 : p.2 ∣ q.2 := by
    have : p.2 ∣ p.1 * q.2 := ⟨q.1, by rw [h, Int.mul_comm]⟩
    exact dvd_of this (by rw [Int.gcd_comm]; exact hp.cop)
  have d2 : q.2 ∣ p.2 := by
    have : q.2 ∣ q.1 * p.2 := ⟨p.1, by rw [← h, Int.mul_comm]⟩
    exact dvd_of this (by rw [Int.gcd_comm]; exact hq.cop)
  have e2 : p.2 = q.2 := Int.le_antisymm (Int.le_of_dvd (by omega) d1) (Int.le_of_dvd (by omega) d2)
  have e1 : p.1 = q.1 := by
    rw [e2] at h
    exact Int.eq_of_mul_eq_mul_right (by omega) h
  exact Prod.ext e1 e2
theorem norm_of {t b : Int} {p : Int × Int} (hb : b ≠ 0) (hp : Norm p) (h : p.1 * b = t * p.2) : norm t b = p := by
  refine norm_uniq (norm_Norm hb) hp ?_
  have c := norm_cross (t := t) hb
  have : ((norm t b).1 * p.2) * b = (p.1 * (norm t b).2) * b := by
    calc ((norm t b).1 * p.2) * b = ((norm t b).1 * b) * p.2 := by simp only [Int.mul_assoc, Int.mul_comm, Int.mul_left_comm]
      _ = (t * (norm t b).2) * p.2 := by rw [c]
      _ = (t * p.2) * (norm t b).2 := by simp only [Int.mul_assoc, Int.mul_comm, Int.mul_left_comm]
      _ = (p.1 * b) * (norm t b).2 := by rw [h]
      _ = (p.1 * (norm t b).2) * b := by simp only [Int.mul_assoc, Int.mul_comm, Int.mul_left_comm]
  exact Int.eq_of_mul_eq_mul_right hb this
theorem norm_size {t b : Int} (hb : b ≠ 0) : (norm t b).1.natAbs ≤ t.natAbs ∧ (norm t b).2.natAbs ≤ b.natAbs := by
  obtain ⟨g, s, u, v, hg, hs, eg, ht, hv, sp, e⟩ := norm_eq (t := t) hb
  have hs1 : s.natAbs = 1 := by rcases hs with h | h <;> rw [h] <;> rfl
  have hg1 : 1 ≤ g.natAbs := by omega
  rw [e, ht, hv]
  refine ⟨?_, ?_⟩
  · show (s * u).natAbs ≤ (g * u).natAbs
    rw [Int.natAbs_mul, Int.natAbs_mul, hs1]
    exact Nat.mul_le_mul_right _ hg1
  · show (s * v).natAbs ≤ (g * v).natAbs
    rw [Int.natAbs_mul, Int.natAbs_mul, hs1]
    exact Nat.mul_le_mul_right _ hg1
/-! ### the program's defs -/
theorem lowest_eq {t b : Int} (hb : b ≠ 0) (hs : b.natAbs < 2 ^ 8000) (h : Hm) : m_lowest [.int t, .int b] h = .ok (pr (norm t b)) h := by
  have hp := gcd_pos (t := t) hb
  have hl := gcd_le (t := t) hb
  have d : ∀ x : Int, divC x ((Int.gcd t b : Nat) : Int) = true := fun x => divC_ok (by omega) (by rw [Int.natAbs_natCast]; omega)
  have e1 : (-t).natAbs.gcd (-b).natAbs = Int.gcd t b := by rw [Int.natAbs_neg, Int.natAbs_neg]; rfl
  have e2 : t.natAbs.gcd b.natAbs = Int.gcd t b := rfl
  unfold m_lowest b_lowest
  by_cases c : b < 0
  · simp only [bind_ok, bind_exc, toS_ok, toS_exc, sb_nx, sb_rt, sb_bk, sb_ct, sb_exc, oo_some, mSeq_ap, mNext_ap, mBreak_ap, mCont_ap, mRet_ap, mRetN_ap, mExpr_ap, mIfS_ap, kIf_t, kIf_f, mAsg_ap, kAsg_name, kAsg_tup2, mPar_ap, kPar_2, mFor_ap, mRaise_ap, mTry_ap, kTry_nx, kTry_rt, kTry_exc, mFun_ap, fin_nx, fin_rt, fin_exc, mC_ap, mVar_0, mVar_s, mBin_ap, kB1_ap, kB2_ap, mUn_ap, kUn_neg, mNil_ap, mCons_ap, kC1_ap, kC2_ap, mTup_ap, kTup_ap, mLst_ap, kLst_ap, mCall_ap, mPick_ap, kPick_01, kPick_10, mB_ap, kG_ap, mIf_ap, kIfE_t, kIfE_f, mAnd_ap, kAnd_t, kAnd_f, mOr_ap, kOr_t, kOr_f, mNot_ap, kNot_ap, blT_ap, kBlT_ap, mTru_ap, kTru_bl, kTru_non, kTru_int, kTru_tup, mTnot_ap, kTnot_ap, mTand_ap, kTand_t, kTand_f, mTor_ap, kTor_t, kTor_f, mIsi_ap, kIsi_int, kIsi_bl, kIsi_str, kIsi_non, kIsi_tup, isiT, gAdd_int, gSub_int, gLt_int, gLe_int, gGt_int, gGe_int, gEq_int, gNe_int, gEq_str, gNe_str, gEq_bl, gNe_bl, gIsN_ap, gNotN_ap, isN, ix_0, ix_1, ix_2, gLen_tup, gAbs_int, gInt_int, gInt_bl, gGcd_int, gMin2_int, gMul_int, gFdiv_int, gMod_int, List.map_cons, List.map_nil, List.length_cons, List.length_nil, List.replicate, List.cons_append, List.nil_append, List.append_nil, List.set_cons_zero, List.set_cons_succ, List.isEmpty_cons, List.isEmpty_nil, Nat.reduceSub, Nat.reduceAdd, Nat.reduceLeDiff, if_true, if_false, reduceIte, Bool.false_eq_true, Bool.true_eq_false, Bool.not_true, Bool.not_false, decide_true, decide_false, reduceCtorEq, eq_self, Nat.zero_add, Nat.reduceMul, natLit, Int.reduceEq, Int.reduceNe, Int.reduceLT, Int.reduceLE, c, e1, e2, gFdiv_int (d _), norm]
  · simp only [bind_ok, bind_exc, toS_ok, toS_exc, sb_nx, sb_rt, sb_bk, sb_ct, sb_exc, oo_some, mSeq_ap, mNext_ap, mBreak_ap, mCont_ap, mRet_ap, mRetN_ap, mExpr_ap, mIfS_ap, kIf_t, kIf_f, mAsg_ap, kAsg_name, kAsg_tup2, mPar_ap, kPar_2, mFor_ap, mRaise_ap, mTry_ap, kTry_nx, kTry_rt, kTry_exc, mFun_ap, fin_nx, fin_rt, fin_exc, mC_ap, mVar_0, mVar_s, mBin_ap, kB1_ap, kB2_ap, mUn_ap, kUn_neg, mNil_ap, mCons_ap, kC1_ap, kC2_ap, mTup_ap, kTup_ap, mLst_ap, kLst_ap, mCall_ap, mPick_ap, kPick_01, kPick_10, mB_ap, kG_ap, mIf_ap, kIfE_t, kIfE_f, mAnd_ap, kAnd_t, kAnd_f, mOr_ap, kOr_t, kOr_f, mNot_ap, kNot_ap, blT_ap, kBlT_ap, mTru_ap, kTru_bl, kTru_non, kTru_int, kTru_tup, mTnot_ap, kTnot_ap, mTand_ap, kTand_t, kTand_f, mTor_ap, kTor_t, kTor_f, mIsi_ap, kIsi_int, kIsi_bl, kIsi_str, kIsi_non, kIsi_tup, isiT, gAdd_int, gSub_int, gLt_int, gLe_int, gGt_int, gGe_int, gEq_int, gNe_int, gEq_str, gNe_str, gEq_bl, gNe_bl, gIsN_ap, gNotN_ap, isN, ix_0, ix_1, ix_2, gLen_tup, gAbs_int, gInt_int, gInt_bl, gGcd_int, gMin2_int, gMul_int, gFdiv_int, gMod_int, List.map_cons, List.map_nil, List.length_cons, List.length_nil, List.replicate, List.cons_append, List.nil_append, List.append_nil, List.set_cons_zero, List.set_cons_succ, List.isEmpty_cons, List.isEmpty_nil, Nat.reduceSub, Nat.reduceAdd, Nat.reduceLeDiff, if_true, if_false, reduceIte, Bool.false_eq_true, Bool.true_eq_false, Bool.not_true, Bool.not_false, decide_true, decide_false, reduceCtorEq, eq_self, Nat.zero_add, Nat.reduceMul, natLit, Int.reduceEq, Int.reduceNe, Int.reduceLT, Int.reduceLE, c, e1, e2, gFdiv_int (d _), norm]
theorem is_int_int {i : Int} {h : Hm} : m_is_int [.int i] h = .ok (.bl true) h := rfl
theorem is_ratio_pr {p : Int × Int} (n : Norm p) (h : Hm) : m_is_ratio [pr p] h = .ok (.bl true) h := by
  have h1 : ¬ p.2 < 1 := by have := n.pos; omega
  have h2 : p.1.natAbs.gcd p.2.natAbs = 1 := n.cop
  unfold m_is_ratio b_is_ratio
  simp only [bind_ok, bind_exc, toS_ok, toS_exc, sb_nx, sb_rt, sb_bk, sb_ct, sb_exc, oo_some, mSeq_ap, mNext_ap, mBreak_ap, mCont_ap, mRet_ap, mRetN_ap, mExpr_ap, mIfS_ap, kIf_t, kIf_f, mAsg_ap, kAsg_name, kAsg_tup2, mPar_ap, kPar_2, mFor_ap, mRaise_ap, mTry_ap, kTry_nx, kTry_rt, kTry_exc, mFun_ap, fin_nx, fin_rt, fin_exc, mC_ap, mVar_0, mVar_s, mBin_ap, kB1_ap, kB2_ap, mUn_ap, kUn_neg, mNil_ap, mCons_ap, kC1_ap, kC2_ap, mTup_ap, kTup_ap, mLst_ap, kLst_ap, mCall_ap, mPick_ap, kPick_01, kPick_10, mB_ap, kG_ap, mIf_ap, kIfE_t, kIfE_f, mAnd_ap, kAnd_t, kAnd_f, mOr_ap, kOr_t, kOr_f, mNot_ap, kNot_ap, blT_ap, kBlT_ap, mTru_ap, kTru_bl, kTru_non, kTru_int, kTru_tup, mTnot_ap, kTnot_ap, mTand_ap, kTand_t, kTand_f, mTor_ap, kTor_t, kTor_f, mIsi_ap, kIsi_int, kIsi_bl, kIsi_str, kIsi_non, kIsi_tup, isiT, gAdd_int, gSub_int, gLt_int, gLe_int, gGt_int, gGe_int, gEq_int, gNe_int, gEq_str, gNe_str, gEq_bl, gNe_bl, gIsN_ap, gNotN_ap, isN, ix_0, ix_1, ix_2, gLen_tup, gAbs_int, gInt_int, gInt_bl, gGcd_int, gMin2_int, gMul_int, gFdiv_int, gMod_int, List.map_cons, List.map_nil, List.length_cons, List.length_nil, List.replicate, List.cons_append, List.nil_append, List.append_nil, List.set_cons_zero, List.set_cons_succ, List.isEmpty_cons, List.isEmpty_nil, Nat.reduceSub, Nat.reduceAdd, Nat.reduceLeDiff, if_true, if_false, reduceIte, Bool.false_eq_true, Bool.true_eq_false, Bool.not_true, Bool.not_false, decide_true, decide_false, reduceCtorEq, eq_self, Nat.zero_add, Nat.reduceMul, natLit, Int.reduceEq, Int.reduceNe, Int.reduceLT, Int.reduceLE, is_int_int, h1, h2]
theorem need_ratio_pr {p : Int × Int} (n : Norm p) (h : Hm) : m_need_ratio [pr p] h = .ok .non h := by
  unfold m_need_ratio b_need_ratio
  simp only [bind_ok, bind_exc, toS_ok, toS_exc, sb_nx, sb_rt, sb_bk, sb_ct, sb_exc, oo_some, mSeq_ap, mNext_ap, mBreak_ap, mCont_ap, mRet_ap, mRetN_ap, mExpr_ap, mIfS_ap, kIf_t, kIf_f, mAsg_ap, kAsg_name, kAsg_tup2, mPar_ap, kPar_2, mFor_ap, mRaise_ap, mTry_ap, kTry_nx, kTry_rt, kTry_exc, mFun_ap, fin_nx, fin_rt, fin_exc, mC_ap, mVar_0, mVar_s, mBin_ap, kB1_ap, kB2_ap, mUn_ap, kUn_neg, mNil_ap, mCons_ap, kC1_ap, kC2_ap, mTup_ap, kTup_ap, mLst_ap, kLst_ap, mCall_ap, mPick_ap, kPick_01, kPick_10, mB_ap, kG_ap, mIf_ap, kIfE_t, kIfE_f, mAnd_ap, kAnd_t, kAnd_f, mOr_ap, kOr_t, kOr_f, mNot_ap, kNot_ap, blT_ap, kBlT_ap, mTru_ap, kTru_bl, kTru_non, kTru_int, kTru_tup, mTnot_ap, kTnot_ap, mTand_ap, kTand_t, kTand_f, mTor_ap, kTor_t, kTor_f, mIsi_ap, kIsi_int, kIsi_bl, kIsi_str, kIsi_non, kIsi_tup, isiT, gAdd_int, gSub_int, gLt_int, gLe_int, gGt_int, gGe_int, gEq_int, gNe_int, gEq_str, gNe_str, gEq_bl, gNe_bl, gIsN_ap, gNotN_ap, isN, ix_0, ix_1, ix_2, gLen_tup, gAbs_int, gInt_int, gInt_bl, gGcd_int, gMin2_int, gMul_int, gFdiv_int, gMod_int, List.map_cons, List.map_nil, List.length_cons, List.length_nil, List.replicate, List.cons_append, List.nil_append, List.append_nil, List.set_cons_zero, List.set_cons_succ, List.isEmpty_cons, List.isEmpty_nil, Nat.reduceSub, Nat.reduceAdd, Nat.reduceLeDiff, if_true, if_false, reduceIte, Bool.false_eq_true, Bool.true_eq_false, Bool.not_true, Bool.not_false, decide_true, decide_false, reduceCtorEq, eq_self, Nat.zero_add, Nat.reduceMul, natLit, Int.reduceEq, Int.reduceNe, Int.reduceLT, Int.reduceLE, is_ratio_pr n]
theorem need_ratio_no {x : D} {h h' : Hm} (n : m_is_ratio [x] h = .ok (.bl false) h') : m_need_ratio [x] h = .exc ⟨"BadRatio", []⟩ h' := by
  unfold m_need_ratio b_need_ratio
  simp only [bind_ok, bind_exc, toS_ok, toS_exc, sb_nx, sb_rt, sb_bk, sb_ct, sb_exc, oo_some, mSeq_ap, mNext_ap, mBreak_ap, mCont_ap, mRet_ap, mRetN_ap, mExpr_ap, mIfS_ap, kIf_t, kIf_f, mAsg_ap, kAsg_name, kAsg_tup2, mPar_ap, kPar_2, mFor_ap, mRaise_ap, mTry_ap, kTry_nx, kTry_rt, kTry_exc, mFun_ap, fin_nx, fin_rt, fin_exc, mC_ap, mVar_0, mVar_s, mBin_ap, kB1_ap, kB2_ap, mUn_ap, kUn_neg, mNil_ap, mCons_ap, kC1_ap, kC2_ap, mTup_ap, kTup_ap, mLst_ap, kLst_ap, mCall_ap, mPick_ap, kPick_01, kPick_10, mB_ap, kG_ap, mIf_ap, kIfE_t, kIfE_f, mAnd_ap, kAnd_t, kAnd_f, mOr_ap, kOr_t, kOr_f, mNot_ap, kNot_ap, blT_ap, kBlT_ap, mTru_ap, kTru_bl, kTru_non, kTru_int, kTru_tup, mTnot_ap, kTnot_ap, mTand_ap, kTand_t, kTand_f, mTor_ap, kTor_t, kTor_f, mIsi_ap, kIsi_int, kIsi_bl, kIsi_str, kIsi_non, kIsi_tup, isiT, gAdd_int, gSub_int, gLt_int, gLe_int, gGt_int, gGe_int, gEq_int, gNe_int, gEq_str, gNe_str, gEq_bl, gNe_bl, gIsN_ap, gNotN_ap, isN, ix_0, ix_1, ix_2, gLen_tup, gAbs_int, gInt_int, gInt_bl, gGcd_int, gMin2_int, gMul_int, gFdiv_int, gMod_int, List.map_cons, List.map_nil, List.length_cons, List.length_nil, List.replicate, List.cons_append, List.nil_append, List.append_nil, List.set_cons_zero, List.set_cons_succ, List.isEmpty_cons, List.isEmpty_nil, Nat.reduceSub, Nat.reduceAdd, Nat.reduceLeDiff, if_true, if_false, reduceIte, Bool.false_eq_true, Bool.true_eq_false, Bool.not_true, Bool.not_false, decide_true, decide_false, reduceCtorEq, eq_self, Nat.zero_add, Nat.reduceMul, natLit, Int.reduceEq, Int.reduceNe, Int.reduceLT, Int.reduceLE, n]
theorem ratio_eq {t b : Int} (hs : b.natAbs < 2 ^ 8000) (h : Hm) : m_ratio [.int t, .int b] h = if b = 0 then .exc ⟨"ZeroBottom", []⟩ h else .ok (pr (norm t b)) h := by
  unfold m_ratio b_ratio
  by_cases c : b = 0
  · simp only [bind_ok, bind_exc, toS_ok, toS_exc, sb_nx, sb_rt, sb_bk, sb_ct, sb_exc, oo_some, mSeq_ap, mNext_ap, mBreak_ap, mCont_ap, mRet_ap, mRetN_ap, mExpr_ap, mIfS_ap, kIf_t, kIf_f, mAsg_ap, kAsg_name, kAsg_tup2, mPar_ap, kPar_2, mFor_ap, mRaise_ap, mTry_ap, kTry_nx, kTry_rt, kTry_exc, mFun_ap, fin_nx, fin_rt, fin_exc, mC_ap, mVar_0, mVar_s, mBin_ap, kB1_ap, kB2_ap, mUn_ap, kUn_neg, mNil_ap, mCons_ap, kC1_ap, kC2_ap, mTup_ap, kTup_ap, mLst_ap, kLst_ap, mCall_ap, mPick_ap, kPick_01, kPick_10, mB_ap, kG_ap, mIf_ap, kIfE_t, kIfE_f, mAnd_ap, kAnd_t, kAnd_f, mOr_ap, kOr_t, kOr_f, mNot_ap, kNot_ap, blT_ap, kBlT_ap, mTru_ap, kTru_bl, kTru_non, kTru_int, kTru_tup, mTnot_ap, kTnot_ap, mTand_ap, kTand_t, kTand_f, mTor_ap, kTor_t, kTor_f, mIsi_ap, kIsi_int, kIsi_bl, kIsi_str, kIsi_non, kIsi_tup, isiT, gAdd_int, gSub_int, gLt_int, gLe_int, gGt_int, gGe_int, gEq_int, gNe_int, gEq_str, gNe_str, gEq_bl, gNe_bl, gIsN_ap, gNotN_ap, isN, ix_0, ix_1, ix_2, gLen_tup, gAbs_int, gInt_int, gInt_bl, gGcd_int, gMin2_int, gMul_int, gFdiv_int, gMod_int, List.map_cons, List.map_nil, List.length_cons, List.length_nil, List.replicate, List.cons_append, List.nil_append, List.append_nil, List.set_cons_zero, List.set_cons_succ, List.isEmpty_cons, List.isEmpty_nil, Nat.reduceSub, Nat.reduceAdd, Nat.reduceLeDiff, if_true, if_false, reduceIte, Bool.false_eq_true, Bool.true_eq_false, Bool.not_true, Bool.not_false, decide_true, decide_false, reduceCtorEq, eq_self, Nat.zero_add, Nat.reduceMul, natLit, Int.reduceEq, Int.reduceNe, Int.reduceLT, Int.reduceLE, c]
  · simp only [bind_ok, bind_exc, toS_ok, toS_exc, sb_nx, sb_rt, sb_bk, sb_ct, sb_exc, oo_some, mSeq_ap, mNext_ap, mBreak_ap, mCont_ap, mRet_ap, mRetN_ap, mExpr_ap, mIfS_ap, kIf_t, kIf_f, mAsg_ap, kAsg_name, kAsg_tup2, mPar_ap, kPar_2, mFor_ap, mRaise_ap, mTry_ap, kTry_nx, kTry_rt, kTry_exc, mFun_ap, fin_nx, fin_rt, fin_exc, mC_ap, mVar_0, mVar_s, mBin_ap, kB1_ap, kB2_ap, mUn_ap, kUn_neg, mNil_ap, mCons_ap, kC1_ap, kC2_ap, mTup_ap, kTup_ap, mLst_ap, kLst_ap, mCall_ap, mPick_ap, kPick_01, kPick_10, mB_ap, kG_ap, mIf_ap, kIfE_t, kIfE_f, mAnd_ap, kAnd_t, kAnd_f, mOr_ap, kOr_t, kOr_f, mNot_ap, kNot_ap, blT_ap, kBlT_ap, mTru_ap, kTru_bl, kTru_non, kTru_int, kTru_tup, mTnot_ap, kTnot_ap, mTand_ap, kTand_t, kTand_f, mTor_ap, kTor_t, kTor_f, mIsi_ap, kIsi_int, kIsi_bl, kIsi_str, kIsi_non, kIsi_tup, isiT, gAdd_int, gSub_int, gLt_int, gLe_int, gGt_int, gGe_int, gEq_int, gNe_int, gEq_str, gNe_str, gEq_bl, gNe_bl, gIsN_ap, gNotN_ap, isN, ix_0, ix_1, ix_2, gLen_tup, gAbs_int, gInt_int, gInt_bl, gGcd_int, gMin2_int, gMul_int, gFdiv_int, gMod_int, List.map_cons, List.map_nil, List.length_cons, List.length_nil, List.replicate, List.cons_append, List.nil_append, List.append_nil, List.set_cons_zero, List.set_cons_succ, List.isEmpty_cons, List.isEmpty_nil, Nat.reduceSub, Nat.reduceAdd, Nat.reduceLeDiff, if_true, if_false, reduceIte, Bool.false_eq_true, Bool.true_eq_false, Bool.not_true, Bool.not_false, decide_true, decide_false, reduceCtorEq, eq_self, Nat.zero_add, Nat.reduceMul, natLit, Int.reduceEq, Int.reduceNe, Int.reduceLT, Int.reduceLE, c, lowest_eq c hs]
/-- sizes that stand far below the limits -/
def Sm (n : Nat) (p : Int × Int) : Prop := p.1.natAbs < 2 ^ n ∧ p.2.natAbs < 2 ^ n
theorem mul_lt {a b : Int} {n m : Nat} (ha : a.natAbs < 2 ^ n) (hb : b.natAbs < 2 ^ m) : (a * b).natAbs < 2 ^ (n + m) := by
  rw [Int.natAbs_mul, Nat.pow_add]
  exact Nat.mul_lt_mul'' ha hb
theorem add_lt {a b : Int} {n : Nat} (ha : a.natAbs < 2 ^ n) (hb : b.natAbs < 2 ^ n) : (a + b).natAbs < 2 ^ (n + 1) := by
  have := Int.natAbs_add_le a b
  rw [Nat.pow_succ]
  omega
theorem sub_lt {a b : Int} {n : Nat} (ha : a.natAbs < 2 ^ n) (hb : b.natAbs < 2 ^ n) : (a - b).natAbs < 2 ^ (n + 1) := by
  have := Int.natAbs_sub_le a b
  rw [Nat.pow_succ]
  omega
theorem lt_mono {a : Int} {n m : Nat} (h : a.natAbs < 2 ^ n) (l : n ≤ m) : a.natAbs < 2 ^ m := Nat.lt_of_lt_of_le h (Nat.pow_le_pow_right (by omega) l)
def vPlus (a b : Int × Int) : Int × Int := norm (a.1 * b.2 + b.1 * a.2) (a.2 * b.2)
def vMinus (a b : Int × Int) : Int × Int := norm (a.1 * b.2 - b.1 * a.2) (a.2 * b.2)
def vProd (a b : Int × Int) : Int × Int := norm (a.1 * b.1) (a.2 * b.2)
def vQuot (a b : Int × Int) : Int × Int := norm (a.1 * b.2) (a.2 * b.1)
theorem bottom_ne {a b : Int × Int} (ha : Norm a) (hb : Norm b) : a.2 * b.2 ≠ 0 := by
  have h1 := ha.pos
  have h2 := hb.pos
  exact Int.mul_ne_zero (by omega) (by omega)
section
variable {a b : Int × Int} {n m : Nat} (ha : Norm a) (hb : Norm b) (sa : Sm n a) (sb : Sm m b) (l : n + m ≤ 7000) (h : Hm)
include ha hb sa sb l
theorem mulOk : mulC a.1 b.1 = true ∧ mulC a.1 b.2 = true ∧ mulC b.1 a.2 = true ∧ mulC a.2 b.2 = true ∧ mulC a.2 b.1 = true ∧ mulC b.1 a.2 = true := by
  have up : ∀ {x : Int} {k : Nat}, x.natAbs < 2 ^ k → k ≤ 7000 → x.natAbs < 2 ^ 7000 := fun h l => lt_mono h l
  have f : ∀ x y : Int, x.natAbs < 2 ^ 7000 → y.natAbs < 2 ^ 7000 → mulC x y = true := fun x y hx hy => mulC_of hx hy
  have a1 := up sa.1 (by omega)
  have a2 := up sa.2 (by omega)
  have b1 := up sb.1 (by omega)
  have b2 := up sb.2 (by omega)
  exact ⟨f _ _ a1 b1, f _ _ a1 b2, f _ _ b1 a2, f _ _ a2 b2, f _ _ a2 b1, f _ _ b1 a2⟩
theorem plus_eq : m_plus [pr a, pr b] h = .ok (pr (vPlus a b)) h := by
  obtain ⟨_, k2, k3, k4, _, _⟩ := mulOk ha hb sa sb l
  have s := lt_mono (mul_lt sa.2 sb.2) (m := 8000) (by omega)
  unfold m_plus b_plus
  simp only [bind_ok, bind_exc, toS_ok, toS_exc, sb_nx, sb_rt, sb_bk, sb_ct, sb_exc, oo_some, mSeq_ap, mNext_ap, mBreak_ap, mCont_ap, mRet_ap, mRetN_ap, mExpr_ap, mIfS_ap, kIf_t, kIf_f, mAsg_ap, kAsg_name, kAsg_tup2, mPar_ap, kPar_2, mFor_ap, mRaise_ap, mTry_ap, kTry_nx, kTry_rt, kTry_exc, mFun_ap, fin_nx, fin_rt, fin_exc, mC_ap, mVar_0, mVar_s, mBin_ap, kB1_ap, kB2_ap, mUn_ap, kUn_neg, mNil_ap, mCons_ap, kC1_ap, kC2_ap, mTup_ap, kTup_ap, mLst_ap, kLst_ap, mCall_ap, mPick_ap, kPick_01, kPick_10, mB_ap, kG_ap, mIf_ap, kIfE_t, kIfE_f, mAnd_ap, kAnd_t, kAnd_f, mOr_ap, kOr_t, kOr_f, mNot_ap, kNot_ap, blT_ap, kBlT_ap, mTru_ap, kTru_bl, kTru_non, kTru_int, kTru_tup, mTnot_ap, kTnot_ap, mTand_ap, kTand_t, kTand_f, mTor_ap, kTor_t, kTor_f, mIsi_ap, kIsi_int, kIsi_bl, kIsi_str, kIsi_non, kIsi_tup, isiT, gAdd_int, gSub_int, gLt_int, gLe_int, gGt_int, gGe_int, gEq_int, gNe_int, gEq_str, gNe_str, gEq_bl, gNe_bl, gIsN_ap, gNotN_ap, isN, ix_0, ix_1, ix_2, gLen_tup, gAbs_int, gInt_int, gInt_bl, gGcd_int, gMin2_int, gMul_int, gFdiv_int, gMod_int, List.map_cons, List.map_nil, List.length_cons, List.length_nil, List.replicate, List.cons_append, List.nil_append, List.append_nil, List.set_cons_zero, List.set_cons_succ, List.isEmpty_cons, List.isEmpty_nil, Nat.reduceSub, Nat.reduceAdd, Nat.reduceLeDiff, if_true, if_false, reduceIte, Bool.false_eq_true, Bool.true_eq_false, Bool.not_true, Bool.not_false, decide_true, decide_false, reduceCtorEq, eq_self, Nat.zero_add, Nat.reduceMul, natLit, Int.reduceEq, Int.reduceNe, Int.reduceLT, Int.reduceLE, need_ratio_pr ha, need_ratio_pr hb, gMul_int k2, gMul_int k3, gMul_int k4, lowest_eq (bottom_ne ha hb) s]
  rfl
theorem minus_eq : m_minus [pr a, pr b] h = .ok (pr (vMinus a b)) h := by
  obtain ⟨_, k2, k3, k4, _, _⟩ := mulOk ha hb sa sb l
  have s := lt_mono (mul_lt sa.2 sb.2) (m := 8000) (by omega)
  unfold m_minus b_minus
  simp only [bind_ok, bind_exc, toS_ok, toS_exc, sb_nx, sb_rt, sb_bk, sb_ct, sb_exc, oo_some, mSeq_ap, mNext_ap, mBreak_ap, mCont_ap, mRet_ap, mRetN_ap, mExpr_ap, mIfS_ap, kIf_t, kIf_f, mAsg_ap, kAsg_name, kAsg_tup2, mPar_ap, kPar_2, mFor_ap, mRaise_ap, mTry_ap, kTry_nx, kTry_rt, kTry_exc, mFun_ap, fin_nx, fin_rt, fin_exc, mC_ap, mVar_0, mVar_s, mBin_ap, kB1_ap, kB2_ap, mUn_ap, kUn_neg, mNil_ap, mCons_ap, kC1_ap, kC2_ap, mTup_ap, kTup_ap, mLst_ap, kLst_ap, mCall_ap, mPick_ap, kPick_01, kPick_10, mB_ap, kG_ap, mIf_ap, kIfE_t, kIfE_f, mAnd_ap, kAnd_t, kAnd_f, mOr_ap, kOr_t, kOr_f, mNot_ap, kNot_ap, blT_ap, kBlT_ap, mTru_ap, kTru_bl, kTru_non, kTru_int, kTru_tup, mTnot_ap, kTnot_ap, mTand_ap, kTand_t, kTand_f, mTor_ap, kTor_t, kTor_f, mIsi_ap, kIsi_int, kIsi_bl, kIsi_str, kIsi_non, kIsi_tup, isiT, gAdd_int, gSub_int, gLt_int, gLe_int, gGt_int, gGe_int, gEq_int, gNe_int, gEq_str, gNe_str, gEq_bl, gNe_bl, gIsN_ap, gNotN_ap, isN, ix_0, ix_1, ix_2, gLen_tup, gAbs_int, gInt_int, gInt_bl, gGcd_int, gMin2_int, gMul_int, gFdiv_int, gMod_int, List.map_cons, List.map_nil, List.length_cons, List.length_nil, List.replicate, List.cons_append, List.nil_append, List.append_nil, List.set_cons_zero, List.set_cons_succ, List.isEmpty_cons, List.isEmpty_nil, Nat.reduceSub, Nat.reduceAdd, Nat.reduceLeDiff, if_true, if_false, reduceIte, Bool.false_eq_true, Bool.true_eq_false, Bool.not_true, Bool.not_false, decide_true, decide_false, reduceCtorEq, eq_self, Nat.zero_add, Nat.reduceMul, natLit, Int.reduceEq, Int.reduceNe, Int.reduceLT, Int.reduceLE, need_ratio_pr ha, need_ratio_pr hb, gMul_int k2, gMul_int k3, gMul_int k4, lowest_eq (bottom_ne ha hb) s]
  rfl
theorem product_eq : m_product [pr a, pr b] h = .ok (pr (vProd a b)) h := by
  obtain ⟨k1, k2, k3, k4, _, _⟩ := mulOk ha hb sa sb l
  have s := lt_mono (mul_lt sa.2 sb.2) (m := 8000) (by omega)
  unfold m_product b_product
  simp only [bind_ok, bind_exc, toS_ok, toS_exc, sb_nx, sb_rt, sb_bk, sb_ct, sb_exc, oo_some, mSeq_ap, mNext_ap, mBreak_ap, mCont_ap, mRet_ap, mRetN_ap, mExpr_ap, mIfS_ap, kIf_t, kIf_f, mAsg_ap, kAsg_name, kAsg_tup2, mPar_ap, kPar_2, mFor_ap, mRaise_ap, mTry_ap, kTry_nx, kTry_rt, kTry_exc, mFun_ap, fin_nx, fin_rt, fin_exc, mC_ap, mVar_0, mVar_s, mBin_ap, kB1_ap, kB2_ap, mUn_ap, kUn_neg, mNil_ap, mCons_ap, kC1_ap, kC2_ap, mTup_ap, kTup_ap, mLst_ap, kLst_ap, mCall_ap, mPick_ap, kPick_01, kPick_10, mB_ap, kG_ap, mIf_ap, kIfE_t, kIfE_f, mAnd_ap, kAnd_t, kAnd_f, mOr_ap, kOr_t, kOr_f, mNot_ap, kNot_ap, blT_ap, kBlT_ap, mTru_ap, kTru_bl, kTru_non, kTru_int, kTru_tup, mTnot_ap, kTnot_ap, mTand_ap, kTand_t, kTand_f, mTor_ap, kTor_t, kTor_f, mIsi_ap, kIsi_int, kIsi_bl, kIsi_str, kIsi_non, kIsi_tup, isiT, gAdd_int, gSub_int, gLt_int, gLe_int, gGt_int, gGe_int, gEq_int, gNe_int, gEq_str, gNe_str, gEq_bl, gNe_bl, gIsN_ap, gNotN_ap, isN, ix_0, ix_1, ix_2, gLen_tup, gAbs_int, gInt_int, gInt_bl, gGcd_int, gMin2_int, gMul_int, gFdiv_int, gMod_int, List.map_cons, List.map_nil, List.length_cons, List.length_nil, List.replicate, List.cons_append, List.nil_append, List.append_nil, List.set_cons_zero, List.set_cons_succ, List.isEmpty_cons, List.isEmpty_nil, Nat.reduceSub, Nat.reduceAdd, Nat.reduceLeDiff, if_true, if_false, reduceIte, Bool.false_eq_true, Bool.true_eq_false, Bool.not_true, Bool.not_false, decide_true, decide_false, reduceCtorEq, eq_self, Nat.zero_add, Nat.reduceMul, natLit, Int.reduceEq, Int.reduceNe, Int.reduceLT, Int.reduceLE, need_ratio_pr ha, need_ratio_pr hb, gMul_int k1, gMul_int k4, lowest_eq (bottom_ne ha hb) s]
  rfl
theorem quotient_eq : m_quotient [pr a, pr b] h = if b.1 = 0 then .exc ⟨"ZeroBottom", []⟩ h else .ok (pr (vQuot a b)) h := by
  obtain ⟨k1, k2, k3, k4, k5, _⟩ := mulOk ha hb sa sb l
  unfold m_quotient b_quotient
  by_cases c : b.1 = 0
  · simp only [bind_ok, bind_exc, toS_ok, toS_exc, sb_nx, sb_rt, sb_bk, sb_ct, sb_exc, oo_some, mSeq_ap, mNext_ap, mBreak_ap, mCont_ap, mRet_ap, mRetN_ap, mExpr_ap, mIfS_ap, kIf_t, kIf_f, mAsg_ap, kAsg_name, kAsg_tup2, mPar_ap, kPar_2, mFor_ap, mRaise_ap, mTry_ap, kTry_nx, kTry_rt, kTry_exc, mFun_ap, fin_nx, fin_rt, fin_exc, mC_ap, mVar_0, mVar_s, mBin_ap, kB1_ap, kB2_ap, mUn_ap, kUn_neg, mNil_ap, mCons_ap, kC1_ap, kC2_ap, mTup_ap, kTup_ap, mLst_ap, kLst_ap, mCall_ap, mPick_ap, kPick_01, kPick_10, mB_ap, kG_ap, mIf_ap, kIfE_t, kIfE_f, mAnd_ap, kAnd_t, kAnd_f, mOr_ap, kOr_t, kOr_f, mNot_ap, kNot_ap, blT_ap, kBlT_ap, mTru_ap, kTru_bl, kTru_non, kTru_int, kTru_tup, mTnot_ap, kTnot_ap, mTand_ap, kTand_t, kTand_f, mTor_ap, kTor_t, kTor_f, mIsi_ap, kIsi_int, kIsi_bl, kIsi_str, kIsi_non, kIsi_tup, isiT, gAdd_int, gSub_int, gLt_int, gLe_int, gGt_int, gGe_int, gEq_int, gNe_int, gEq_str, gNe_str, gEq_bl, gNe_bl, gIsN_ap, gNotN_ap, isN, ix_0, ix_1, ix_2, gLen_tup, gAbs_int, gInt_int, gInt_bl, gGcd_int, gMin2_int, gMul_int, gFdiv_int, gMod_int, List.map_cons, List.map_nil, List.length_cons, List.length_nil, List.replicate, List.cons_append, List.nil_append, List.append_nil, List.set_cons_zero, List.set_cons_succ, List.isEmpty_cons, List.isEmpty_nil, Nat.reduceSub, Nat.reduceAdd, Nat.reduceLeDiff, if_true, if_false, reduceIte, Bool.false_eq_true, Bool.true_eq_false, Bool.not_true, Bool.not_false, decide_true, decide_false, reduceCtorEq, eq_self, Nat.zero_add, Nat.reduceMul, natLit, Int.reduceEq, Int.reduceNe, Int.reduceLT, Int.reduceLE, need_ratio_pr ha, need_ratio_pr hb, c]
  · have s := lt_mono (mul_lt sa.2 sb.1) (m := 8000) (by omega)
    have z : a.2 * b.1 ≠ 0 := by have := ha.pos; exact Int.mul_ne_zero (by omega) c
    simp only [bind_ok, bind_exc, toS_ok, toS_exc, sb_nx, sb_rt, sb_bk, sb_ct, sb_exc, oo_some, mSeq_ap, mNext_ap, mBreak_ap, mCont_ap, mRet_ap, mRetN_ap, mExpr_ap, mIfS_ap, kIf_t, kIf_f, mAsg_ap, kAsg_name, kAsg_tup2, mPar_ap, kPar_2, mFor_ap, mRaise_ap, mTry_ap, kTry_nx, kTry_rt, kTry_exc, mFun_ap, fin_nx, fin_rt, fin_exc, mC_ap, mVar_0, mVar_s, mBin_ap, kB1_ap, kB2_ap, mUn_ap, kUn_neg, mNil_ap, mCons_ap, kC1_ap, kC2_ap, mTup_ap, kTup_ap, mLst_ap, kLst_ap, mCall_ap, mPick_ap, kPick_01, kPick_10, mB_ap, kG_ap, mIf_ap, kIfE_t, kIfE_f, mAnd_ap, kAnd_t, kAnd_f, mOr_ap, kOr_t, kOr_f, mNot_ap, kNot_ap, blT_ap, kBlT_ap, mTru_ap, kTru_bl, kTru_non, kTru_int, kTru_tup, mTnot_ap, kTnot_ap, mTand_ap, kTand_t, kTand_f, mTor_ap, kTor_t, kTor_f, mIsi_ap, kIsi_int, kIsi_bl, kIsi_str, kIsi_non, kIsi_tup, isiT, gAdd_int, gSub_int, gLt_int, gLe_int, gGt_int, gGe_int, gEq_int, gNe_int, gEq_str, gNe_str, gEq_bl, gNe_bl, gIsN_ap, gNotN_ap, isN, ix_0, ix_1, ix_2, gLen_tup, gAbs_int, gInt_int, gInt_bl, gGcd_int, gMin2_int, gMul_int, gFdiv_int, gMod_int, List.map_cons, List.map_nil, List.length_cons, List.length_nil, List.replicate, List.cons_append, List.nil_append, List.append_nil, List.set_cons_zero, List.set_cons_succ, List.isEmpty_cons, List.isEmpty_nil, Nat.reduceSub, Nat.reduceAdd, Nat.reduceLeDiff, if_true, if_false, reduceIte, Bool.false_eq_true, Bool.true_eq_false, Bool.not_true, Bool.not_false, decide_true, decide_false, reduceCtorEq, eq_self, Nat.zero_add, Nat.reduceMul, natLit, Int.reduceEq, Int.reduceNe, Int.reduceLT, Int.reduceLE, need_ratio_pr ha, need_ratio_pr hb, c, gMul_int k2, gMul_int k5, lowest_eq z s]
    rfl
theorem below_eq : m_below [pr a, pr b] h = .ok (.bl (decide (a.1 * b.2 < b.1 * a.2))) h := by
  obtain ⟨k1, k2, k3, k4, k5, _⟩ := mulOk ha hb sa sb l
  unfold m_below b_below
  simp only [bind_ok, bind_exc, toS_ok, toS_exc, sb_nx, sb_rt, sb_bk, sb_ct, sb_exc, oo_some, mSeq_ap, mNext_ap, mBreak_ap, mCont_ap, mRet_ap, mRetN_ap, mExpr_ap, mIfS_ap, kIf_t, kIf_f, mAsg_ap, kAsg_name, kAsg_tup2, mPar_ap, kPar_2, mFor_ap, mRaise_ap, mTry_ap, kTry_nx, kTry_rt, kTry_exc, mFun_ap, fin_nx, fin_rt, fin_exc, mC_ap, mVar_0, mVar_s, mBin_ap, kB1_ap, kB2_ap, mUn_ap, kUn_neg, mNil_ap, mCons_ap, kC1_ap, kC2_ap, mTup_ap, kTup_ap, mLst_ap, kLst_ap, mCall_ap, mPick_ap, kPick_01, kPick_10, mB_ap, kG_ap, mIf_ap, kIfE_t, kIfE_f, mAnd_ap, kAnd_t, kAnd_f, mOr_ap, kOr_t, kOr_f, mNot_ap, kNot_ap, blT_ap, kBlT_ap, mTru_ap, kTru_bl, kTru_non, kTru_int, kTru_tup, mTnot_ap, kTnot_ap, mTand_ap, kTand_t, kTand_f, mTor_ap, kTor_t, kTor_f, mIsi_ap, kIsi_int, kIsi_bl, kIsi_str, kIsi_non, kIsi_tup, isiT, gAdd_int, gSub_int, gLt_int, gLe_int, gGt_int, gGe_int, gEq_int, gNe_int, gEq_str, gNe_str, gEq_bl, gNe_bl, gIsN_ap, gNotN_ap, isN, ix_0, ix_1, ix_2, gLen_tup, gAbs_int, gInt_int, gInt_bl, gGcd_int, gMin2_int, gMul_int, gFdiv_int, gMod_int, List.map_cons, List.map_nil, List.length_cons, List.length_nil, List.replicate, List.cons_append, List.nil_append, List.append_nil, List.set_cons_zero, List.set_cons_succ, List.isEmpty_cons, List.isEmpty_nil, Nat.reduceSub, Nat.reduceAdd, Nat.reduceLeDiff, if_true, if_false, reduceIte, Bool.false_eq_true, Bool.true_eq_false, Bool.not_true, Bool.not_false, decide_true, decide_false, reduceCtorEq, eq_self, Nat.zero_add, Nat.reduceMul, natLit, Int.reduceEq, Int.reduceNe, Int.reduceLT, Int.reduceLE, need_ratio_pr ha, need_ratio_pr hb, gMul_int k2, gMul_int k3]
end
end K63

set_option Elab.async false
set_option linter.all false
set_option maxRecDepth 100000
set_option maxHeartbeats 1000000
namespace K63
open PySem PySem.Spec PyProof.Rows L2 FM
/-! ### the law's own draws -/
structure Well (h : Hm) (w c : Nat) (cells : List Int) (n : Nat) : Prop where
  ex : ∃ at_ left : Int, h[w]? = some (.lst [.ref c, .int at_, .int left]) ∧ 0 ≤ at_ ∧ at_ ≤ n ∧ 0 ≤ left
  cl : h[c]? = some (.lst (cells.map D.int))
  ne : w ≠ c
def Kp (w : Nat) (h h' : Hm) : Prop := h.length ≤ h'.length ∧ ∀ i, i < h.length → i ≠ w → h'[i]? = h[i]?
theorem Kp.refl {w : Nat} {h : Hm} : Kp w h h := ⟨Nat.le_refl _, fun _ _ _ => rfl⟩
theorem Kp.trans {w : Nat} {a b c : Hm} (x : Kp w a b) (y : Kp w b c) : Kp w a c := ⟨Nat.le_trans x.1 y.1, fun i hi hw => (y.2 i (Nat.lt_of_lt_of_le hi x.1) hw).trans (x.2 i hi hw)⟩
theorem Kp.of_ext {w : Nat} {a b : Hm} (x : Ext a b) : Kp w a b := ⟨x.1, fun i hi _ => x.2 i hi⟩
theorem Kp.get {w : Nat} {h h' : Hm} (x : Kp w h h') {i : Nat} {o : O} (hw : i ≠ w) (e : h[i]? = some o) : h'[i]? = some o := by
  rw [x.2 i (List.getElem?_eq_some_iff.mp e).1 hw]
  exact e
theorem Kp.set {w : Nat} {h : Hm} {o : O} : Kp w h (h.set w o) := ⟨by rw [List.length_set]; exact Nat.le_refl _, fun i _ hw => List.getElem?_set_ne fun e => hw e.symm⟩
theorem Well.ext {h h' : Hm} {w c n : Nat} {cells : List Int} (W : Well h w c cells n) (x : Ext h h') : Well h' w c cells n := by
  obtain ⟨a, l, e, r⟩ := W.ex
  exact ⟨⟨a, l, x.get e, r⟩, x.get W.cl, W.ne⟩
theorem Well.mono {h : Hm} {w c n m : Nat} {cells : List Int} (W : Well h w c cells n) (l : n ≤ m) : Well h w c cells m := by
  obtain ⟨a, lf, e, h0, h1, h2⟩ := W.ex
  exact ⟨⟨a, lf, e, h0, by omega, h2⟩, W.cl, W.ne⟩
theorem Well.lt {h : Hm} {w c n : Nat} {cells : List Int} (W : Well h w c cells n) : w < h.length := by
  obtain ⟨a, lf, e, _⟩ := W.ex
  exact (List.getElem?_eq_some_iff.mp e).1
theorem pow18 {h : Hm} : gPow (.int 10) (.int 18) h = some (.int 1000000000000000000, h) := by
  have : powC 10 18 = true := by decide +kernel
  show (if powC 10 18 = true then some (D.int (10 ^ (18 : Int).toNat), h) else none) = _
  rw [if_pos this]
  rfl
theorem fmod_range {a b : Int} (hb : 0 < b) : 0 ≤ a.fmod b ∧ a.fmod b < b := ⟨Int.fmod_nonneg_of_pos a hb, Int.fmod_lt_of_pos a hb⟩
/-- the last steps of a draw -/
theorem draw_tail {h : Hm} {w c n : Nat} {cells : List Int} {at_ left many : Int} {x2 x3 : Option D} (e : h[w]? = some (.lst [.ref c, .int at_, .int left])) (h0 : 0 ≤ at_) (h1 : at_ ≤ n) (hl : 0 ≤ left) (cl : h[c]? = some (.lst (cells.map D.int))) (ne : w ≠ c)
    (hm : 0 < many) (hm2 : many < 2 ^ 60) : ∃ r h', finF (mSeq (mAsg (mBin gMod (mB gInt (mCons (mBin gIx (mVar 0) (mC (.int 2))) mNil)) (mVar 1)) (mgName 4))
    (mSeq (mAsg (mBin gFdiv (mBin gIx (mVar 0) (mC (.int 2))) (mVar 1)) (mgSub setD (mVar 0) (mC (.int 2))))
    (mRet (mVar 4))) [some (.ref w), some (.int many), x2, x3, none] h) = .ok (.int r) h' ∧ 0 ≤ r ∧ r < many ∧ h'.length = h.length ∧ Kp w h h' ∧ Well h' w c cells n := by
  have hz : many ≠ 0 := by omega
  have dv : divC left many = true := divC_ok hz (by have : many.natAbs < 2 ^ 60 := by omega
                                                    exact lt_mono this (by omega))
  have ks : kAsg (mgSub setD (mVar 0) (mC (.int 2))) [some (.ref w), some (.int many), x2, x3, some (.int (left.fmod many))] (.int (left.fdiv many)) h = .nx [some (.ref w), some (.int many), x2, x3, some (.int (left.fmod many))] (h.set w (O.lst [.ref c, .int at_, .int (left.fdiv many)])) :=
    kAsg_sub (o := .ref w) (i := .int 2) (h1 := h) (h2 := h) rfl rfl (set_l (j := 2) e rfl)
  have r := fmod_range (a := left) hm
  refine ⟨left.fmod many, h.set w (O.lst [.ref c, .int at_, .int (left.fdiv many)]), ?_, r.1, r.2, List.length_set, Kp.set, ⟨⟨at_, left.fdiv many, List.getElem?_set_self (List.getElem?_eq_some_iff.mp e).1, h0, h1, Int.fdiv_nonneg hl (by omega)⟩, by rw [List.getElem?_set_ne ne]; exact cl, ne⟩⟩
  simp only [bind_ok, bind_exc, toS_ok, toS_exc, sb_nx, sb_rt, sb_bk, sb_ct, sb_exc, oo_some, mSeq_ap, mNext_ap, mBreak_ap, mCont_ap, mRet_ap, mRetN_ap, mExpr_ap, mIfS_ap, kIf_t, kIf_f, mAsg_ap, kAsg_name, kAsg_tup2, mPar_ap, kPar_2, mFor_ap, mRaise_ap, mTry_ap, kTry_nx, kTry_rt, kTry_exc, mFun_ap, fin_nx, fin_rt, fin_exc, mC_ap, mVar_0, mVar_s, mBin_ap, kB1_ap, kB2_ap, mUn_ap, kUn_neg, mNil_ap, mCons_ap, kC1_ap, kC2_ap, mTup_ap, kTup_ap, mLst_ap, kLst_ap, mCall_ap, mPick_ap, kPick_01, kPick_10, mB_ap, kG_ap, mIf_ap, kIfE_t, kIfE_f, mAnd_ap, kAnd_t, kAnd_f, mOr_ap, kOr_t, kOr_f, mNot_ap, kNot_ap, blT_ap, kBlT_ap, mTru_ap, kTru_bl, kTru_non, kTru_int, kTru_tup, mTnot_ap, kTnot_ap, mTand_ap, kTand_t, kTand_f, mTor_ap, kTor_t, kTor_f, mIsi_ap, kIsi_int, kIsi_bl, kIsi_str, kIsi_non, kIsi_tup, isiT, gAdd_int, gSub_int, gLt_int, gLe_int, gGt_int, gGe_int, gEq_int, gNe_int, gEq_str, gNe_str, gEq_bl, gNe_bl, gIsN_ap, gNotN_ap, isN, ix_0, ix_1, ix_2, gLen_tup, gAbs_int, gInt_int, gInt_bl, gGcd_int, gMin2_int, gMul_int, gFdiv_int, gMod_int, List.map_cons, List.map_nil, List.length_cons, List.length_nil, List.replicate, List.cons_append, List.nil_append, List.append_nil, List.set_cons_zero, List.set_cons_succ, List.isEmpty_cons, List.isEmpty_nil, Nat.reduceSub, Nat.reduceAdd, Nat.reduceLeDiff, if_true, if_false, reduceIte, Bool.false_eq_true, Bool.true_eq_false, Bool.not_true, Bool.not_false, decide_true, decide_false, reduceCtorEq, eq_self, Nat.zero_add, Nat.reduceMul, natLit, Int.reduceEq, Int.reduceNe, Int.reduceLT, Int.reduceLE, ix_l2 e, hz, dv, ks, ne_eq, not_false_eq_true]
theorem draw_spec {h : Hm} {w c n : Nat} {cells : List Int} {many : Int} (W : Well h w c cells n) (hn : n ≤ 100000) (hm : 0 < many) (hm2 : many < 2 ^ 60) :
    ∃ r h', m_law_draw [.ref w, .int many] h = .ok (.int r) h' ∧ 0 ≤ r ∧ r < many ∧ h'.length = h.length ∧ Kp w h h' ∧ Well h' w c cells (n + 1) := by
  obtain ⟨at_, left, e, h0, h1, hl⟩ := W.ex
  by_cases c1 : left < many
  · -- a new cell
    have m2 : ∀ x, mulC x 2 = true := fun x => mulC_r (by omega)
    have m3 : ∀ x, mulC x 858599509 = true := fun x => mulC_r (by omega)
    have m4 : ∀ x, mulC x 674506081 = true := fun x => mulC_r (by omega)
    have m5 : ∀ x, mulC x 6291469 = true := fun x => mulC_r (by omega)
    have mat : mulC at_ at_ = true := mulC_l (by omega)
    -- the cell that comes: some number that is not below 0
    have fin : ∀ cell : Int, 0 ≤ cell → ∃ r h', finF ((mSeq (mIfS (blT (mBin gLt (mVar 3) (mBin gPow (mC (.int 10)) (mC (.int 18))))) (mSeq (mAsg (mBin gMulI (mBin gAdd (mVar 3) (mC (.int 472882027))) (mBin gAdd (mBin gAdd (mBin gMulI (mVar 3) (mC (.int 858599509))) (mBin gMulI (mVar 2) (mC (.int 674506081)))) (mC (.int 961748941)))) (mgName 3))
        (mAsg (mBin gAdd (mBin gFdiv (mBin gMulI (mVar 3) (mVar 3)) (mC (.int 1013))) (mBin gMulI (mVar 3) (mC (.int 6291469)))) (mgName 3))) mNext)
        (mSeq (mAsg (mBin gAdd (mVar 2) (mC (.int 1))) (mgSub setD (mVar 0) (mC (.int 1))))
        (mAsg (mVar 3) (mgSub setD (mVar 0) (mC (.int 2))))) [some (.ref w), some (.int many), some (.int at_), some (.int cell), none] h).bind (mSeq (mAsg (mBin gMod (mB gInt (mCons (mBin gIx (mVar 0) (mC (.int 2))) mNil)) (mVar 1)) (mgName 4))
        (mSeq (mAsg (mBin gFdiv (mBin gIx (mVar 0) (mC (.int 2))) (mVar 1)) (mgSub setD (mVar 0) (mC (.int 2))))
        (mRet (mVar 4))))) = .ok (.int r) h' ∧ 0 ≤ r ∧ r < many ∧ h'.length = h.length ∧ Kp w h h' ∧ Well h' w c cells (n + 1) := fun cell hc => by
      have last : ∀ cell' : Int, 0 ≤ cell' → ∃ r h', finF ((mSeq (mAsg (mBin gAdd (mVar 2) (mC (.int 1))) (mgSub setD (mVar 0) (mC (.int 1))))
          (mAsg (mVar 3) (mgSub setD (mVar 0) (mC (.int 2)))) [some (.ref w), some (.int many), some (.int at_), some (.int cell'), none] h).bind (mSeq (mAsg (mBin gMod (mB gInt (mCons (mBin gIx (mVar 0) (mC (.int 2))) mNil)) (mVar 1)) (mgName 4))
          (mSeq (mAsg (mBin gFdiv (mBin gIx (mVar 0) (mC (.int 2))) (mVar 1)) (mgSub setD (mVar 0) (mC (.int 2))))
          (mRet (mVar 4))))) = .ok (.int r) h' ∧ 0 ≤ r ∧ r < many ∧ h'.length = h.length ∧ Kp w h h' ∧ Well h' w c cells (n + 1) := fun cell' hc' => by
        have k1 : kAsg (mgSub setD (mVar 0) (mC (.int 1))) [some (.ref w), some (.int many), some (.int at_), some (.int cell'), none] (.int (at_ + 1)) h = .nx [some (.ref w), some (.int many), some (.int at_), some (.int cell'), none] (h.set w (O.lst [.ref c, .int (at_ + 1), .int left])) :=
          kAsg_sub (o := .ref w) (i := .int 1) (h1 := h) (h2 := h) rfl rfl (set_l (j := 1) e rfl)
        have hw := (List.getElem?_eq_some_iff.mp e).1
        have e2 : (h.set w (O.lst [.ref c, .int (at_ + 1), .int left]))[w]? = some (O.lst [.ref c, .int (at_ + 1), .int left]) := List.getElem?_set_self hw
        have k2 : kAsg (mgSub setD (mVar 0) (mC (.int 2))) [some (.ref w), some (.int many), some (.int at_), some (.int cell'), none] (.int cell') (h.set w (O.lst [.ref c, .int (at_ + 1), .int left])) = .nx [some (.ref w), some (.int many), some (.int at_), some (.int cell'), none] ((h.set w (O.lst [.ref c, .int (at_ + 1), .int left])).set w (O.lst [.ref c, .int (at_ + 1), .int cell'])) :=
          kAsg_sub (o := .ref w) (i := .int 2) (h1 := h.set w (O.lst [.ref c, .int (at_ + 1), .int left])) (h2 := h.set w (O.lst [.ref c, .int (at_ + 1), .int left])) rfl rfl (set_l (j := 2) e2 rfl)
        rw [List.set_set] at k2
        obtain ⟨r, h', q, q1, q2, q3, q4, q5⟩ := draw_tail (h := h.set w (O.lst [.ref c, .int (at_ + 1), .int cell'])) (w := w) (c := c) (n := n + 1) (cells := cells) (at_ := at_ + 1) (left := cell') (many := many) (x2 := some (.int at_)) (x3 := some (.int cell')) (List.getElem?_set_self hw) (by omega) (by omega) hc' (by rw [List.getElem?_set_ne W.ne]; exact W.cl) W.ne hm hm2
        refine ⟨r, h', ?_, q1, q2, by rw [q3, List.length_set], Kp.set.trans q4, q5⟩
        rw [← q]
        simp only [mSeq_ap, mAsg_ap, mBin_ap, mVar_s, mVar_0, bind_ok, kB1_ap, mC_ap, kB2_ap, gAdd_int, oo_some, toS_ok, k1, k2, sb_nx]
      by_cases c2 : cell < 1000000000000000000
      · have m6 : mulC (cell + 472882027) (cell * 858599509 + at_ * 674506081 + 961748941) = true := mulC_l (by omega)
        have b1 : (cell + 472882027).natAbs < 2 ^ 62 := by omega
        have b2 : (cell * 858599509 + at_ * 674506081 + 961748941).natAbs < 2 ^ 100 := by omega
        have b3 := mul_lt b1 b2
        have m7 : mulC ((cell + 472882027) * (cell * 858599509 + at_ * 674506081 + 961748941)) ((cell + 472882027) * (cell * 858599509 + at_ * 674506081 + 961748941)) = true := mulC_of b3 b3
        have p0 : 0 ≤ (cell + 472882027) * (cell * 858599509 + at_ * 674506081 + 961748941) := Int.mul_nonneg (by omega) (by omega)
        obtain ⟨r, h', q, rest⟩ := last ((((cell + 472882027) * (cell * 858599509 + at_ * 674506081 + 961748941)) * ((cell + 472882027) * (cell * 858599509 + at_ * 674506081 + 961748941))).fdiv 1013 + ((cell + 472882027) * (cell * 858599509 + at_ * 674506081 + 961748941)) * 6291469)
          (Int.add_nonneg (Int.fdiv_nonneg (Int.mul_nonneg p0 p0) (by omega)) (Int.mul_nonneg p0 (by omega)))
        refine ⟨r, h', ?_, rest⟩
        rw [← q]
        have dv : ∀ x, divC x 1013 = true := fun x => divC_ok (by omega) (by decide +kernel)
        simp only [bind_ok, bind_exc, toS_ok, toS_exc, sb_nx, sb_rt, sb_bk, sb_ct, sb_exc, oo_some, mSeq_ap, mNext_ap, mBreak_ap, mCont_ap, mRet_ap, mRetN_ap, mExpr_ap, mIfS_ap, kIf_t, kIf_f, mAsg_ap, kAsg_name, kAsg_tup2, mPar_ap, kPar_2, mFor_ap, mRaise_ap, mTry_ap, kTry_nx, kTry_rt, kTry_exc, mFun_ap, fin_nx, fin_rt, fin_exc, mC_ap, mVar_0, mVar_s, mBin_ap, kB1_ap, kB2_ap, mUn_ap, kUn_neg, mNil_ap, mCons_ap, kC1_ap, kC2_ap, mTup_ap, kTup_ap, mLst_ap, kLst_ap, mCall_ap, mPick_ap, kPick_01, kPick_10, mB_ap, kG_ap, mIf_ap, kIfE_t, kIfE_f, mAnd_ap, kAnd_t, kAnd_f, mOr_ap, kOr_t, kOr_f, mNot_ap, kNot_ap, blT_ap, kBlT_ap, mTru_ap, kTru_bl, kTru_non, kTru_int, kTru_tup, mTnot_ap, kTnot_ap, mTand_ap, kTand_t, kTand_f, mTor_ap, kTor_t, kTor_f, mIsi_ap, kIsi_int, kIsi_bl, kIsi_str, kIsi_non, kIsi_tup, isiT, gAdd_int, gSub_int, gLt_int, gLe_int, gGt_int, gGe_int, gEq_int, gNe_int, gEq_str, gNe_str, gEq_bl, gNe_bl, gIsN_ap, gNotN_ap, isN, ix_0, ix_1, ix_2, gLen_tup, gAbs_int, gInt_int, gInt_bl, gGcd_int, gMin2_int, gMul_int, gFdiv_int, gMod_int, List.map_cons, List.map_nil, List.length_cons, List.length_nil, List.replicate, List.cons_append, List.nil_append, List.append_nil, List.set_cons_zero, List.set_cons_succ, List.isEmpty_cons, List.isEmpty_nil, Nat.reduceSub, Nat.reduceAdd, Nat.reduceLeDiff, if_true, if_false, reduceIte, Bool.false_eq_true, Bool.true_eq_false, Bool.not_true, Bool.not_false, decide_true, decide_false, reduceCtorEq, eq_self, Nat.zero_add, Nat.reduceMul, natLit, Int.reduceEq, Int.reduceNe, Int.reduceLT, Int.reduceLE, pow18, c2, m3, m4, m5, m6, m7, dv]
      · obtain ⟨r, h', q, rest⟩ := last cell hc
        refine ⟨r, h', ?_, rest⟩
        rw [← q]
        simp only [bind_ok, bind_exc, toS_ok, toS_exc, sb_nx, sb_rt, sb_bk, sb_ct, sb_exc, oo_some, mSeq_ap, mNext_ap, mBreak_ap, mCont_ap, mRet_ap, mRetN_ap, mExpr_ap, mIfS_ap, kIf_t, kIf_f, mAsg_ap, kAsg_name, kAsg_tup2, mPar_ap, kPar_2, mFor_ap, mRaise_ap, mTry_ap, kTry_nx, kTry_rt, kTry_exc, mFun_ap, fin_nx, fin_rt, fin_exc, mC_ap, mVar_0, mVar_s, mBin_ap, kB1_ap, kB2_ap, mUn_ap, kUn_neg, mNil_ap, mCons_ap, kC1_ap, kC2_ap, mTup_ap, kTup_ap, mLst_ap, kLst_ap, mCall_ap, mPick_ap, kPick_01, kPick_10, mB_ap, kG_ap, mIf_ap, kIfE_t, kIfE_f, mAnd_ap, kAnd_t, kAnd_f, mOr_ap, kOr_t, kOr_f, mNot_ap, kNot_ap, blT_ap, kBlT_ap, mTru_ap, kTru_bl, kTru_non, kTru_int, kTru_tup, mTnot_ap, kTnot_ap, mTand_ap, kTand_t, kTand_f, mTor_ap, kTor_t, kTor_f, mIsi_ap, kIsi_int, kIsi_bl, kIsi_str, kIsi_non, kIsi_tup, isiT, gAdd_int, gSub_int, gLt_int, gLe_int, gGt_int, gGe_int, gEq_int, gNe_int, gEq_str, gNe_str, gEq_bl, gNe_bl, gIsN_ap, gNotN_ap, isN, ix_0, ix_1, ix_2, gLen_tup, gAbs_int, gInt_int, gInt_bl, gGcd_int, gMin2_int, gMul_int, gFdiv_int, gMod_int, List.map_cons, List.map_nil, List.length_cons, List.length_nil, List.replicate, List.cons_append, List.nil_append, List.append_nil, List.set_cons_zero, List.set_cons_succ, List.isEmpty_cons, List.isEmpty_nil, Nat.reduceSub, Nat.reduceAdd, Nat.reduceLeDiff, if_true, if_false, reduceIte, Bool.false_eq_true, Bool.true_eq_false, Bool.not_true, Bool.not_false, decide_true, decide_false, reduceCtorEq, eq_self, Nat.zero_add, Nat.reduceMul, natLit, Int.reduceEq, Int.reduceNe, Int.reduceLT, Int.reduceLE, pow18, c2]
    by_cases c3 : at_ < (cells.length : Int)
    · have ix : (cells.map D.int)[at_.toNat]? = some (.int (cells[at_.toNat]'(by omega))) := by rw [List.getElem?_map, List.getElem?_eq_getElem (by omega)]; rfl
      generalize hx : cells[at_.toNat]'(by omega) = x at ix
      obtain ⟨r, h', q, rest⟩ := fin ((if x < 0 then -x else x) * 2 + if decide (x < 0) = true then 1 else 0) (by split <;> split <;> omega)
      refine ⟨r, h', ?_, rest⟩
      rw [← q]
      unfold m_law_draw b_law_draw
      simp only [bind_ok, bind_exc, toS_ok, toS_exc, sb_nx, sb_rt, sb_bk, sb_ct, sb_exc, oo_some, mSeq_ap, mNext_ap, mBreak_ap, mCont_ap, mRet_ap, mRetN_ap, mExpr_ap, mIfS_ap, kIf_t, kIf_f, mAsg_ap, kAsg_name, kAsg_tup2, mPar_ap, kPar_2, mFor_ap, mRaise_ap, mTry_ap, kTry_nx, kTry_rt, kTry_exc, mFun_ap, fin_nx, fin_rt, fin_exc, mC_ap, mVar_0, mVar_s, mBin_ap, kB1_ap, kB2_ap, mUn_ap, kUn_neg, mNil_ap, mCons_ap, kC1_ap, kC2_ap, mTup_ap, kTup_ap, mLst_ap, kLst_ap, mCall_ap, mPick_ap, kPick_01, kPick_10, mB_ap, kG_ap, mIf_ap, kIfE_t, kIfE_f, mAnd_ap, kAnd_t, kAnd_f, mOr_ap, kOr_t, kOr_f, mNot_ap, kNot_ap, blT_ap, kBlT_ap, mTru_ap, kTru_bl, kTru_non, kTru_int, kTru_tup, mTnot_ap, kTnot_ap, mTand_ap, kTand_t, kTand_f, mTor_ap, kTor_t, kTor_f, mIsi_ap, kIsi_int, kIsi_bl, kIsi_str, kIsi_non, kIsi_tup, isiT, gAdd_int, gSub_int, gLt_int, gLe_int, gGt_int, gGe_int, gEq_int, gNe_int, gEq_str, gNe_str, gEq_bl, gNe_bl, gIsN_ap, gNotN_ap, isN, ix_0, ix_1, ix_2, gLen_tup, gAbs_int, gInt_int, gInt_bl, gGcd_int, gMin2_int, gMul_int, gFdiv_int, gMod_int, List.map_cons, List.map_nil, List.length_cons, List.length_nil, List.replicate, List.cons_append, List.nil_append, List.append_nil, List.set_cons_zero, List.set_cons_succ, List.isEmpty_cons, List.isEmpty_nil, Nat.reduceSub, Nat.reduceAdd, Nat.reduceLeDiff, if_true, if_false, reduceIte, Bool.false_eq_true, Bool.true_eq_false, Bool.not_true, Bool.not_false, decide_true, decide_false, reduceCtorEq, eq_self, Nat.zero_add, Nat.reduceMul, natLit, Int.reduceEq, Int.reduceNe, Int.reduceLT, Int.reduceLE, ix_l2 e, ix_l1 e, ix_l0 e, c1, gLen_l W.cl, List.length_map, c3, ix_li h0 W.cl ix, m2]
    · obtain ⟨r, h', q, rest⟩ := fin (at_ * at_ + 3) (by have := Int.mul_nonneg h0 h0; omega)
      refine ⟨r, h', ?_, rest⟩
      rw [← q]
      unfold m_law_draw b_law_draw
      simp only [bind_ok, bind_exc, toS_ok, toS_exc, sb_nx, sb_rt, sb_bk, sb_ct, sb_exc, oo_some, mSeq_ap, mNext_ap, mBreak_ap, mCont_ap, mRet_ap, mRetN_ap, mExpr_ap, mIfS_ap, kIf_t, kIf_f, mAsg_ap, kAsg_name, kAsg_tup2, mPar_ap, kPar_2, mFor_ap, mRaise_ap, mTry_ap, kTry_nx, kTry_rt, kTry_exc, mFun_ap, fin_nx, fin_rt, fin_exc, mC_ap, mVar_0, mVar_s, mBin_ap, kB1_ap, kB2_ap, mUn_ap, kUn_neg, mNil_ap, mCons_ap, kC1_ap, kC2_ap, mTup_ap, kTup_ap, mLst_ap, kLst_ap, mCall_ap, mPick_ap, kPick_01, kPick_10, mB_ap, kG_ap, mIf_ap, kIfE_t, kIfE_f, mAnd_ap, kAnd_t, kAnd_f, mOr_ap, kOr_t, kOr_f, mNot_ap, kNot_ap, blT_ap, kBlT_ap, mTru_ap, kTru_bl, kTru_non, kTru_int, kTru_tup, mTnot_ap, kTnot_ap, mTand_ap, kTand_t, kTand_f, mTor_ap, kTor_t, kTor_f, mIsi_ap, kIsi_int, kIsi_bl, kIsi_str, kIsi_non, kIsi_tup, isiT, gAdd_int, gSub_int, gLt_int, gLe_int, gGt_int, gGe_int, gEq_int, gNe_int, gEq_str, gNe_str, gEq_bl, gNe_bl, gIsN_ap, gNotN_ap, isN, ix_0, ix_1, ix_2, gLen_tup, gAbs_int, gInt_int, gInt_bl, gGcd_int, gMin2_int, gMul_int, gFdiv_int, gMod_int, List.map_cons, List.map_nil, List.length_cons, List.length_nil, List.replicate, List.cons_append, List.nil_append, List.append_nil, List.set_cons_zero, List.set_cons_succ, List.isEmpty_cons, List.isEmpty_nil, Nat.reduceSub, Nat.reduceAdd, Nat.reduceLeDiff, if_true, if_false, reduceIte, Bool.false_eq_true, Bool.true_eq_false, Bool.not_true, Bool.not_false, decide_true, decide_false, reduceCtorEq, eq_self, Nat.zero_add, Nat.reduceMul, natLit, Int.reduceEq, Int.reduceNe, Int.reduceLT, Int.reduceLE, ix_l2 e, ix_l1 e, ix_l0 e, c1, gLen_l W.cl, List.length_map, c3, mat]
  · obtain ⟨r, h', q, q1, q2, q3, q4, q5⟩ := draw_tail (x2 := none) (x3 := none) e h0 h1 hl W.cl W.ne hm hm2
    refine ⟨r, h', ?_, q1, q2, q3, q4, q5.mono (by omega)⟩
    rw [← q]
    unfold m_law_draw b_law_draw
    simp only [bind_ok, bind_exc, toS_ok, toS_exc, sb_nx, sb_rt, sb_bk, sb_ct, sb_exc, oo_some, mSeq_ap, mNext_ap, mBreak_ap, mCont_ap, mRet_ap, mRetN_ap, mExpr_ap, mIfS_ap, kIf_t, kIf_f, mAsg_ap, kAsg_name, kAsg_tup2, mPar_ap, kPar_2, mFor_ap, mRaise_ap, mTry_ap, kTry_nx, kTry_rt, kTry_exc, mFun_ap, fin_nx, fin_rt, fin_exc, mC_ap, mVar_0, mVar_s, mBin_ap, kB1_ap, kB2_ap, mUn_ap, kUn_neg, mNil_ap, mCons_ap, kC1_ap, kC2_ap, mTup_ap, kTup_ap, mLst_ap, kLst_ap, mCall_ap, mPick_ap, kPick_01, kPick_10, mB_ap, kG_ap, mIf_ap, kIfE_t, kIfE_f, mAnd_ap, kAnd_t, kAnd_f, mOr_ap, kOr_t, kOr_f, mNot_ap, kNot_ap, blT_ap, kBlT_ap, mTru_ap, kTru_bl, kTru_non, kTru_int, kTru_tup, mTnot_ap, kTnot_ap, mTand_ap, kTand_t, kTand_f, mTor_ap, kTor_t, kTor_f, mIsi_ap, kIsi_int, kIsi_bl, kIsi_str, kIsi_non, kIsi_tup, isiT, gAdd_int, gSub_int, gLt_int, gLe_int, gGt_int, gGe_int, gEq_int, gNe_int, gEq_str, gNe_str, gEq_bl, gNe_bl, gIsN_ap, gNotN_ap, isN, ix_0, ix_1, ix_2, gLen_tup, gAbs_int, gInt_int, gInt_bl, gGcd_int, gMin2_int, gMul_int, gFdiv_int, gMod_int, List.map_cons, List.map_nil, List.length_cons, List.length_nil, List.replicate, List.cons_append, List.nil_append, List.append_nil, List.set_cons_zero, List.set_cons_succ, List.isEmpty_cons, List.isEmpty_nil, Nat.reduceSub, Nat.reduceAdd, Nat.reduceLeDiff, if_true, if_false, reduceIte, Bool.false_eq_true, Bool.true_eq_false, Bool.not_true, Bool.not_false, decide_true, decide_false, reduceCtorEq, eq_self, Nat.zero_add, Nat.reduceMul, natLit, Int.reduceEq, Int.reduceNe, Int.reduceLT, Int.reduceLE, ix_l2 e, c1]
end K63

set_option Elab.async false
set_option linter.all false
set_option maxRecDepth 100000
set_option maxHeartbeats 1000000
namespace K63
open PySem PySem.Spec PyProof.Rows L2 FM
theorem one_spec {h : Hm} {w c n s : Nat} {cells : List Int} {ds : List D} (W : Well h w c cells n) (hn : n ≤ 100000) (hs : h[s]? = some (.lst ds)) (h0 : 0 < ds.length) (h1 : ds.length < 2 ^ 59) (ne : s ≠ w) :
    ∃ d h', m_law_one [.ref w, .ref s] h = .ok d h' ∧ d ∈ ds ∧ h'.length = h.length ∧ Kp w h h' ∧ Well h' w c cells (n + 1) := by
  obtain ⟨r, h', e, r0, r1, hl, k, W'⟩ := draw_spec (many := (ds.length : Int)) W hn (by omega) (by omega)
  have hi : r.toNat < ds.length := by omega
  refine ⟨ds[r.toNat], h', ?_, List.getElem_mem hi, hl, k, W'⟩
  unfold m_law_one b_law_one
  simp only [bind_ok, bind_exc, toS_ok, toS_exc, sb_nx, sb_rt, sb_bk, sb_ct, sb_exc, oo_some, mSeq_ap, mNext_ap, mBreak_ap, mCont_ap, mRet_ap, mRetN_ap, mExpr_ap, mIfS_ap, kIf_t, kIf_f, mAsg_ap, kAsg_name, kAsg_tup2, mPar_ap, kPar_2, mFor_ap, mRaise_ap, mTry_ap, kTry_nx, kTry_rt, kTry_exc, mFun_ap, fin_nx, fin_rt, fin_exc, mC_ap, mVar_0, mVar_s, mBin_ap, kB1_ap, kB2_ap, mUn_ap, kUn_neg, mNil_ap, mCons_ap, kC1_ap, kC2_ap, mTup_ap, kTup_ap, mLst_ap, kLst_ap, mCall_ap, mPick_ap, kPick_01, kPick_10, mB_ap, kG_ap, mIf_ap, kIfE_t, kIfE_f, mAnd_ap, kAnd_t, kAnd_f, mOr_ap, kOr_t, kOr_f, mNot_ap, kNot_ap, blT_ap, kBlT_ap, mTru_ap, kTru_bl, kTru_non, kTru_int, kTru_tup, mTnot_ap, kTnot_ap, mTand_ap, kTand_t, kTand_f, mTor_ap, kTor_t, kTor_f, mIsi_ap, kIsi_int, kIsi_bl, kIsi_str, kIsi_non, kIsi_tup, isiT, gAdd_int, gSub_int, gLt_int, gLe_int, gGt_int, gGe_int, gEq_int, gNe_int, gEq_str, gNe_str, gEq_bl, gNe_bl, gIsN_ap, gNotN_ap, isN, ix_0, ix_1, ix_2, gLen_tup, gAbs_int, gInt_int, gInt_bl, gGcd_int, gMin2_int, gMul_int, gFdiv_int, gMod_int, List.map_cons, List.map_nil, List.length_cons, List.length_nil, List.replicate, List.cons_append, List.nil_append, List.append_nil, List.set_cons_zero, List.set_cons_succ, List.isEmpty_cons, List.isEmpty_nil, Nat.reduceSub, Nat.reduceAdd, Nat.reduceLeDiff, if_true, if_false, reduceIte, Bool.false_eq_true, Bool.true_eq_false, Bool.not_true, Bool.not_false, decide_true, decide_false, reduceCtorEq, eq_self, Nat.zero_add, Nat.reduceMul, natLit, Int.reduceEq, Int.reduceNe, Int.reduceLT, Int.reduceLE, gLen_l hs, e, ix_li r0 (k.get ne hs) (List.getElem?_eq_getElem hi)]
/-! ### common, short -/
def frC (a b : Int) : Fr := [some (.int a), some (.int b)]
theorem wh_common {h : Hm} : ∀ (n a b : Nat), b < n → whL (blT (mBin gNe (mVar 1) (mC (.int 0)))) (mPar 0 1 (mCons (mVar 1) (mCons (mBin gMod (mB gInt (mCons (mVar 0) mNil)) (mVar 1)) mNil))) n (frC a b) h = .nx (frC (Nat.gcd a b : Nat) 0) h
  | 0, a, b, hb => absurd hb (Nat.not_lt_zero b)
  | n + 1, a, b, hb => by
    by_cases c : b = 0
    · subst c
      simp only [whL, frC]
      simp only [bind_ok, bind_exc, toS_ok, toS_exc, sb_nx, sb_rt, sb_bk, sb_ct, sb_exc, oo_some, mSeq_ap, mNext_ap, mBreak_ap, mCont_ap, mRet_ap, mRetN_ap, mExpr_ap, mIfS_ap, kIf_t, kIf_f, mAsg_ap, kAsg_name, kAsg_tup2, mPar_ap, kPar_2, mFor_ap, mRaise_ap, mTry_ap, kTry_nx, kTry_rt, kTry_exc, mFun_ap, fin_nx, fin_rt, fin_exc, mC_ap, mVar_0, mVar_s, mBin_ap, kB1_ap, kB2_ap, mUn_ap, kUn_neg, mNil_ap, mCons_ap, kC1_ap, kC2_ap, mTup_ap, kTup_ap, mLst_ap, kLst_ap, mCall_ap, mPick_ap, kPick_01, kPick_10, mB_ap, kG_ap, mIf_ap, kIfE_t, kIfE_f, mAnd_ap, kAnd_t, kAnd_f, mOr_ap, kOr_t, kOr_f, mNot_ap, kNot_ap, blT_ap, kBlT_ap, mTru_ap, kTru_bl, kTru_non, kTru_int, kTru_tup, mTnot_ap, kTnot_ap, mTand_ap, kTand_t, kTand_f, mTor_ap, kTor_t, kTor_f, mIsi_ap, kIsi_int, kIsi_bl, kIsi_str, kIsi_non, kIsi_tup, isiT, gAdd_int, gSub_int, gLt_int, gLe_int, gGt_int, gGe_int, gEq_int, gNe_int, gEq_str, gNe_str, gEq_bl, gNe_bl, gIsN_ap, gNotN_ap, isN, ix_0, ix_1, ix_2, gLen_tup, gAbs_int, gInt_int, gInt_bl, gGcd_int, gMin2_int, gMul_int, gFdiv_int, gMod_int, List.map_cons, List.map_nil, List.length_cons, List.length_nil, List.replicate, List.cons_append, List.nil_append, List.append_nil, List.set_cons_zero, List.set_cons_succ, List.isEmpty_cons, List.isEmpty_nil, Nat.reduceSub, Nat.reduceAdd, Nat.reduceLeDiff, if_true, if_false, reduceIte, Bool.false_eq_true, Bool.true_eq_false, Bool.not_true, Bool.not_false, decide_true, decide_false, reduceCtorEq, eq_self, Nat.zero_add, Nat.reduceMul, natLit, Int.reduceEq, Int.reduceNe, Int.reduceLT, Int.reduceLE, Nat.gcd_zero_right]
    · have c' : ¬ (b : Int) = 0 := by omega
      have e : (a : Int).fmod (b : Int) = ((a % b : Nat) : Int) := by rw [Int.fmod_eq_emod_of_nonneg _ (by omega)]; rfl
      have lt : a % b < n := Nat.lt_of_lt_of_le (Nat.mod_lt a (by omega)) (by omega)
      have ih := wh_common (h := h) n b (a % b) lt
      have g : Nat.gcd b (a % b) = Nat.gcd a b := by rw [Nat.gcd_comm b, ← Nat.gcd_rec, Nat.gcd_comm]
      rw [g] at ih
      rw [← ih]
      simp only [frC] at ih ⊢
      rw [whL]
      simp only [bind_ok, bind_exc, toS_ok, toS_exc, sb_nx, sb_rt, sb_bk, sb_ct, sb_exc, oo_some, mSeq_ap, mNext_ap, mBreak_ap, mCont_ap, mRet_ap, mRetN_ap, mExpr_ap, mIfS_ap, kIf_t, kIf_f, mAsg_ap, kAsg_name, kAsg_tup2, mPar_ap, kPar_2, mFor_ap, mRaise_ap, mTry_ap, kTry_nx, kTry_rt, kTry_exc, mFun_ap, fin_nx, fin_rt, fin_exc, mC_ap, mVar_0, mVar_s, mBin_ap, kB1_ap, kB2_ap, mUn_ap, kUn_neg, mNil_ap, mCons_ap, kC1_ap, kC2_ap, mTup_ap, kTup_ap, mLst_ap, kLst_ap, mCall_ap, mPick_ap, kPick_01, kPick_10, mB_ap, kG_ap, mIf_ap, kIfE_t, kIfE_f, mAnd_ap, kAnd_t, kAnd_f, mOr_ap, kOr_t, kOr_f, mNot_ap, kNot_ap, blT_ap, kBlT_ap, mTru_ap, kTru_bl, kTru_non, kTru_int, kTru_tup, mTnot_ap, kTnot_ap, mTand_ap, kTand_t, kTand_f, mTor_ap, kTor_t, kTor_f, mIsi_ap, kIsi_int, kIsi_bl, kIsi_str, kIsi_non, kIsi_tup, isiT, gAdd_int, gSub_int, gLt_int, gLe_int, gGt_int, gGe_int, gEq_int, gNe_int, gEq_str, gNe_str, gEq_bl, gNe_bl, gIsN_ap, gNotN_ap, isN, ix_0, ix_1, ix_2, gLen_tup, gAbs_int, gInt_int, gInt_bl, gGcd_int, gMin2_int, gMul_int, gFdiv_int, gMod_int, List.map_cons, List.map_nil, List.length_cons, List.length_nil, List.replicate, List.cons_append, List.nil_append, List.append_nil, List.set_cons_zero, List.set_cons_succ, List.isEmpty_cons, List.isEmpty_nil, Nat.reduceSub, Nat.reduceAdd, Nat.reduceLeDiff, if_true, if_false, reduceIte, Bool.false_eq_true, Bool.true_eq_false, Bool.not_true, Bool.not_false, decide_true, decide_false, reduceCtorEq, eq_self, Nat.zero_add, Nat.reduceMul, natLit, Int.reduceEq, Int.reduceNe, Int.reduceLT, Int.reduceLE, c', e, ne_eq, not_false_eq_true]
theorem bigN_gt {b : Nat} (h : b < 2 ^ 8000) : b < bigN := by
  unfold bigN
  exact Nat.lt_of_lt_of_le h (Nat.pow_le_pow_right (by omega) (by omega))
theorem common_core {a b : Int} {N : Nat} (h : Hm) {g : Int} (w : whL (blT (mBin gNe (mVar 1) (mC (.int 0)))) (mPar 0 1 (mCons (mVar 1) (mCons (mBin gMod (mB gInt (mCons (mVar 0) mNil)) (mVar 1)) mNil))) N [some (.int a.natAbs), some (.int b.natAbs)] h = .nx [some (.int g), some (.int 0)] h) : mFun 2 (mSeq (mPar 0 1 (mCons (mB gAbs (mCons (mVar 0) mNil)) (mCons (mB gAbs (mCons (mVar 1) mNil)) mNil)))
    (mSeq (mWhile N (blT (mBin gNe (mVar 1) (mC (.int 0)))) (mPar 0 1 (mCons (mVar 1) (mCons (mBin gMod (mB gInt (mCons (mVar 0) mNil)) (mVar 1)) mNil))))
    (mRet (mVar 0)))) [.int a, .int b] h = .ok (.int g) h := by
  have e1 : (if a < 0 then -a else a) = ((a.natAbs : Nat) : Int) := by split <;> omega
  have e2 : (if b < 0 then -b else b) = ((b.natAbs : Nat) : Int) := by split <;> omega
  simp only [bind_ok, bind_exc, toS_ok, toS_exc, sb_nx, sb_rt, sb_bk, sb_ct, sb_exc, oo_some, mSeq_ap, mNext_ap, mBreak_ap, mCont_ap, mRet_ap, mRetN_ap, mExpr_ap, mIfS_ap, kIf_t, kIf_f, mAsg_ap, kAsg_name, kAsg_tup2, mPar_ap, kPar_2, mFor_ap, mRaise_ap, mTry_ap, kTry_nx, kTry_rt, kTry_exc, mFun_ap, fin_nx, fin_rt, fin_exc, mC_ap, mVar_0, mVar_s, mBin_ap, kB1_ap, kB2_ap, mUn_ap, kUn_neg, mNil_ap, mCons_ap, kC1_ap, kC2_ap, mTup_ap, kTup_ap, mLst_ap, kLst_ap, mCall_ap, mPick_ap, kPick_01, kPick_10, mB_ap, kG_ap, mIf_ap, kIfE_t, kIfE_f, mAnd_ap, kAnd_t, kAnd_f, mOr_ap, kOr_t, kOr_f, mNot_ap, kNot_ap, blT_ap, kBlT_ap, mTru_ap, kTru_bl, kTru_non, kTru_int, kTru_tup, mTnot_ap, kTnot_ap, mTand_ap, kTand_t, kTand_f, mTor_ap, kTor_t, kTor_f, mIsi_ap, kIsi_int, kIsi_bl, kIsi_str, kIsi_non, kIsi_tup, isiT, gAdd_int, gSub_int, gLt_int, gLe_int, gGt_int, gGe_int, gEq_int, gNe_int, gEq_str, gNe_str, gEq_bl, gNe_bl, gIsN_ap, gNotN_ap, isN, ix_0, ix_1, ix_2, gLen_tup, gAbs_int, gInt_int, gInt_bl, gGcd_int, gMin2_int, gMul_int, gFdiv_int, gMod_int, List.map_cons, List.map_nil, List.length_cons, List.length_nil, List.replicate, List.cons_append, List.nil_append, List.append_nil, List.set_cons_zero, List.set_cons_succ, List.isEmpty_cons, List.isEmpty_nil, Nat.reduceSub, Nat.reduceAdd, Nat.reduceLeDiff, if_true, if_false, reduceIte, Bool.false_eq_true, Bool.true_eq_false, Bool.not_true, Bool.not_false, decide_true, decide_false, reduceCtorEq, eq_self, Nat.zero_add, Nat.reduceMul, natLit, Int.reduceEq, Int.reduceNe, Int.reduceLT, Int.reduceLE, e1, e2, mWhile, w]
theorem common_eq {a b : Int} (hb : b.natAbs < 2 ^ 8000) (h : Hm) : m_law_common [.int a, .int b] h = .ok (.int (Int.gcd a b : Nat)) h := common_core h (wh_common (h := h) bigN a.natAbs b.natAbs (bigN_gt hb))
theorem sgn_p {t b : Int} {h : Hm} (c : 0 < b) : mIf (blT (mBin gGt (mVar 1) (mC (.int 0)))) (mC (.int 1)) (mUn gNeg (mC (.int 1))) [some (.int t), some (.int b), none] h = .ok (.int 1) h := by
  simp only [bind_ok, bind_exc, toS_ok, toS_exc, sb_nx, sb_rt, sb_bk, sb_ct, sb_exc, oo_some, mSeq_ap, mNext_ap, mBreak_ap, mCont_ap, mRet_ap, mRetN_ap, mExpr_ap, mIfS_ap, kIf_t, kIf_f, mAsg_ap, kAsg_name, kAsg_tup2, mPar_ap, kPar_2, mFor_ap, mRaise_ap, mTry_ap, kTry_nx, kTry_rt, kTry_exc, mFun_ap, fin_nx, fin_rt, fin_exc, mC_ap, mVar_0, mVar_s, mBin_ap, kB1_ap, kB2_ap, mUn_ap, kUn_neg, mNil_ap, mCons_ap, kC1_ap, kC2_ap, mTup_ap, kTup_ap, mLst_ap, kLst_ap, mCall_ap, mPick_ap, kPick_01, kPick_10, mB_ap, kG_ap, mIf_ap, kIfE_t, kIfE_f, mAnd_ap, kAnd_t, kAnd_f, mOr_ap, kOr_t, kOr_f, mNot_ap, kNot_ap, blT_ap, kBlT_ap, mTru_ap, kTru_bl, kTru_non, kTru_int, kTru_tup, mTnot_ap, kTnot_ap, mTand_ap, kTand_t, kTand_f, mTor_ap, kTor_t, kTor_f, mIsi_ap, kIsi_int, kIsi_bl, kIsi_str, kIsi_non, kIsi_tup, isiT, gAdd_int, gSub_int, gLt_int, gLe_int, gGt_int, gGe_int, gEq_int, gNe_int, gEq_str, gNe_str, gEq_bl, gNe_bl, gIsN_ap, gNotN_ap, isN, ix_0, ix_1, ix_2, gLen_tup, gAbs_int, gInt_int, gInt_bl, gGcd_int, gMin2_int, gMul_int, gFdiv_int, gMod_int, List.map_cons, List.map_nil, List.length_cons, List.length_nil, List.replicate, List.cons_append, List.nil_append, List.append_nil, List.set_cons_zero, List.set_cons_succ, List.isEmpty_cons, List.isEmpty_nil, Nat.reduceSub, Nat.reduceAdd, Nat.reduceLeDiff, if_true, if_false, reduceIte, Bool.false_eq_true, Bool.true_eq_false, Bool.not_true, Bool.not_false, decide_true, decide_false, reduceCtorEq, eq_self, Nat.zero_add, Nat.reduceMul, natLit, Int.reduceEq, Int.reduceNe, Int.reduceLT, Int.reduceLE, c]
theorem sgn_n {t b : Int} {h : Hm} (c : ¬ 0 < b) : mIf (blT (mBin gGt (mVar 1) (mC (.int 0)))) (mC (.int 1)) (mUn gNeg (mC (.int 1))) [some (.int t), some (.int b), none] h = .ok (.int (-1)) h := by
  simp only [bind_ok, bind_exc, toS_ok, toS_exc, sb_nx, sb_rt, sb_bk, sb_ct, sb_exc, oo_some, mSeq_ap, mNext_ap, mBreak_ap, mCont_ap, mRet_ap, mRetN_ap, mExpr_ap, mIfS_ap, kIf_t, kIf_f, mAsg_ap, kAsg_name, kAsg_tup2, mPar_ap, kPar_2, mFor_ap, mRaise_ap, mTry_ap, kTry_nx, kTry_rt, kTry_exc, mFun_ap, fin_nx, fin_rt, fin_exc, mC_ap, mVar_0, mVar_s, mBin_ap, kB1_ap, kB2_ap, mUn_ap, kUn_neg, mNil_ap, mCons_ap, kC1_ap, kC2_ap, mTup_ap, kTup_ap, mLst_ap, kLst_ap, mCall_ap, mPick_ap, kPick_01, kPick_10, mB_ap, kG_ap, mIf_ap, kIfE_t, kIfE_f, mAnd_ap, kAnd_t, kAnd_f, mOr_ap, kOr_t, kOr_f, mNot_ap, kNot_ap, blT_ap, kBlT_ap, mTru_ap, kTru_bl, kTru_non, kTru_int, kTru_tup, mTnot_ap, kTnot_ap, mTand_ap, kTand_t, kTand_f, mTor_ap, kTor_t, kTor_f, mIsi_ap, kIsi_int, kIsi_bl, kIsi_str, kIsi_non, kIsi_tup, isiT, gAdd_int, gSub_int, gLt_int, gLe_int, gGt_int, gGe_int, gEq_int, gNe_int, gEq_str, gNe_str, gEq_bl, gNe_bl, gIsN_ap, gNotN_ap, isN, ix_0, ix_1, ix_2, gLen_tup, gAbs_int, gInt_int, gInt_bl, gGcd_int, gMin2_int, gMul_int, gFdiv_int, gMod_int, List.map_cons, List.map_nil, List.length_cons, List.length_nil, List.replicate, List.cons_append, List.nil_append, List.append_nil, List.set_cons_zero, List.set_cons_succ, List.isEmpty_cons, List.isEmpty_nil, Nat.reduceSub, Nat.reduceAdd, Nat.reduceLeDiff, if_true, if_false, reduceIte, Bool.false_eq_true, Bool.true_eq_false, Bool.not_true, Bool.not_false, decide_true, decide_false, reduceCtorEq, eq_self, Nat.zero_add, Nat.reduceMul, natLit, Int.reduceEq, Int.reduceNe, Int.reduceLT, Int.reduceLE, c]
theorem short_core {t b g s : Int} {f : MFn} {me : ME} {h : Hm} (hc : f [.int t, .int b] h = .ok (.int g) h) (hi : me [some (.int t), some (.int b), none] h = .ok (.int s) h) (m : mulC g s = true) (d : ∀ x, divC x (g * s) = true) :
    mFun 3 (mSeq (mAsg (mBin gMulI (mCall f (mCons (mVar 0) (mCons (mVar 1) mNil))) me) (mgName 2))
    (mRet (mTup (mCons (mBin gFdiv (mVar 0) (mVar 2)) (mCons (mBin gFdiv (mVar 1) (mVar 2)) mNil))))) [.int t, .int b] h = .ok (.tup [.int (t.fdiv (g * s)), .int (b.fdiv (g * s))]) h := by
  simp only [bind_ok, bind_exc, toS_ok, toS_exc, sb_nx, sb_rt, sb_bk, sb_ct, sb_exc, oo_some, mSeq_ap, mNext_ap, mBreak_ap, mCont_ap, mRet_ap, mRetN_ap, mExpr_ap, mIfS_ap, kIf_t, kIf_f, mAsg_ap, kAsg_name, kAsg_tup2, mPar_ap, kPar_2, mFor_ap, mRaise_ap, mTry_ap, kTry_nx, kTry_rt, kTry_exc, mFun_ap, fin_nx, fin_rt, fin_exc, mC_ap, mVar_0, mVar_s, mBin_ap, kB1_ap, kB2_ap, mUn_ap, kUn_neg, mNil_ap, mCons_ap, kC1_ap, kC2_ap, mTup_ap, kTup_ap, mLst_ap, kLst_ap, mCall_ap, mPick_ap, kPick_01, kPick_10, mB_ap, kG_ap, mIf_ap, kIfE_t, kIfE_f, mAnd_ap, kAnd_t, kAnd_f, mOr_ap, kOr_t, kOr_f, mNot_ap, kNot_ap, blT_ap, kBlT_ap, mTru_ap, kTru_bl, kTru_non, kTru_int, kTru_tup, mTnot_ap, kTnot_ap, mTand_ap, kTand_t, kTand_f, mTor_ap, kTor_t, kTor_f, mIsi_ap, kIsi_int, kIsi_bl, kIsi_str, kIsi_non, kIsi_tup, isiT, gAdd_int, gSub_int, gLt_int, gLe_int, gGt_int, gGe_int, gEq_int, gNe_int, gEq_str, gNe_str, gEq_bl, gNe_bl, gIsN_ap, gNotN_ap, isN, ix_0, ix_1, ix_2, gLen_tup, gAbs_int, gInt_int, gInt_bl, gGcd_int, gMin2_int, gMul_int, gFdiv_int, gMod_int, List.map_cons, List.map_nil, List.length_cons, List.length_nil, List.replicate, List.cons_append, List.nil_append, List.append_nil, List.set_cons_zero, List.set_cons_succ, List.isEmpty_cons, List.isEmpty_nil, Nat.reduceSub, Nat.reduceAdd, Nat.reduceLeDiff, if_true, if_false, reduceIte, Bool.false_eq_true, Bool.true_eq_false, Bool.not_true, Bool.not_false, decide_true, decide_false, reduceCtorEq, eq_self, Nat.zero_add, Nat.reduceMul, natLit, Int.reduceEq, Int.reduceNe, Int.reduceLT, Int.reduceLE, hc, hi, m, d]
theorem short_eq {t b : Int} (hb : b ≠ 0) (hs : b.natAbs < 2 ^ 8000) (h : Hm) : m_law_short [.int t, .int b] h = .ok (pr (norm t b)) h := by
  have hp := gcd_pos (t := t) hb
  have hl := Nat.lt_of_le_of_lt (gcd_le (t := t) hb) hs
  have hc := common_eq (a := t) hs h
  have hn : norm t b = if b < 0 then ((-t).fdiv (Int.gcd t b), (-b).fdiv (Int.gcd t b)) else (t.fdiv (Int.gcd t b), b.fdiv (Int.gcd t b)) := rfl
  have gl : ((Int.gcd t b : Nat) : Int).natAbs < 2 ^ 8000 := by rw [Int.natAbs_natCast]; exact hl
  have g0 : ((Int.gcd t b : Nat) : Int) ≠ 0 := fun z => absurd (Int.ofNat.inj z) (Nat.ne_of_gt hp)
  rw [hn]
  generalize ((Int.gcd t b : Nat) : Int) = g at *
  clear hn hl hp hs
  by_cases c : 0 < b
  · have c2 : ¬ b < 0 := by clear gl; omega
    refine (short_core hc (sgn_p c) (mulC_r (by decide)) fun x => divC_ok (by rw [Int.mul_one]; exact g0) (by rw [Int.mul_one]; exact gl)).trans ?_
    rw [if_neg c2, Int.mul_one]
  · have gm : g * -1 = -g := by clear gl; omega
    have c2 : b < 0 := by clear gl; omega
    have e : ∀ x : Int, x.fdiv (g * -1) = (-x).fdiv g := fun x => by
      rw [gm, ← Int.neg_fdiv_neg, Int.neg_neg]
    refine (short_core hc (sgn_n c) (mulC_r (by decide)) fun x => divC_ok (by rw [gm]; clear gl; omega) (by rw [gm, Int.natAbs_neg]; exact gl)).trans ?_
    rw [if_pos c2, e, e]
/-! ### integers, ratios -/
def isz (x : Int) (n : Nat) : Prop := x.natAbs < 2 ^ n
theorem pow9 {h : Hm} : gPow (.int 10) (.int 9) h = some (.int 1000000000, h) := by
  have : powC 10 9 = true := by decide +kernel
  show (if powC 10 9 = true then some (D.int (10 ^ (9 : Int).toNat), h) else none) = _
  rw [if_pos this]
  rfl
theorem pow340 {h : Hm} : gPow (.int 3) (.int 40) h = some (.int 12157665459056928801, h) := by
  have : powC 3 40 = true := by decide +kernel
  show (if powC 3 40 = true then some (D.int (3 ^ (40 : Int).toNat), h) else none) = _
  rw [if_pos this]
  rfl
theorem pow129 {h : Hm} : gPow (.int 12) (.int 9) h = some (.int 5159780352, h) := by
  have : powC 12 9 = true := by decide +kernel
  show (if powC 12 9 = true then some (D.int (12 ^ (9 : Int).toNat), h) else none) = _
  rw [if_pos this]
  rfl
abbrev intB : MS := (mAsg (mBin gMulI (mVar 1) (mCall m_law_one (mCons (mVar 0) (mCons (mLst (mCons (mC (.int 2)) (mCons (mC (.int 6)) (mCons (mBin gAdd (mBin gPow (mC (.int 10)) (mC (.int 9))) (mC (.int 7))) (mCons (mBin gPow (mC (.int 3)) (mC (.int 40))) (mCons (mBin gPow (mC (.int 12)) (mC (.int 9))) (mCons (mUn gNeg (mC (.int 35))) (mCons (mBin gAdd (mCall m_law_draw (mCons (mVar 0) (mCons (mC (.int 1000)) mNil))) (mC (.int 1))) mNil)))))))) mNil)))) (mgName 1))
/-- one turn: the number grows by less than 64 bits -/
theorem int_turn {h : Hm} {w c n : Nat} {cells : List Int} {x : Int} {k : Nat} {o : Option D} (W : Well h w c cells n) (hn : n ≤ 99990) (hx : x.natAbs < 2 ^ k) (hk0 : 0 < k) (hk : k ≤ 1000) :
    ∃ y h', intB [some (.ref w), some (.int x), o] h = .nx [some (.ref w), some (.int y), o] h' ∧ y.natAbs < 2 ^ (k + 64) ∧ Kp w h h' ∧ Well h' w c cells (n + 2) := by
  obtain ⟨r, h1, e1, r0, r1, hl1, k1, W1⟩ := draw_spec (many := 1000) W (by omega) (by omega) (by omega)
  have hw1 := W1.lt
  have x1 : Ext h1 (h1 ++ [O.lst [.int 2, .int 6, .int 1000000007, .int 12157665459056928801, .int 5159780352, .int (-35), .int (r + 1)]]) := Ext.push
  obtain ⟨d, h2, e2, hd, hl2, k2, W2⟩ := one_spec (s := h1.length) (W1.ext x1) (by omega) push_get (by show 0 < 7; omega) (by show 7 < 2 ^ 59; omega) (by omega)
  obtain ⟨y, hy, ey⟩ : ∃ y : Int, y.natAbs < 2 ^ 64 ∧ d = .int y := by
    simp only [List.mem_cons, List.not_mem_nil, or_false] at hd
    rcases hd with h | h | h | h | h | h | h <;> exact ⟨_, by omega, h⟩
  subst ey
  have mc := mulC_of hx hy (by omega) hk0 (by omega)
  refine ⟨x * y, h2, ?_, mul_lt hx hy, k1.trans ((Kp.of_ext x1).trans k2), W2⟩
  simp only [bind_ok, bind_exc, toS_ok, toS_exc, sb_nx, sb_rt, sb_bk, sb_ct, sb_exc, oo_some, mSeq_ap, mNext_ap, mBreak_ap, mCont_ap, mRet_ap, mRetN_ap, mExpr_ap, mIfS_ap, kIf_t, kIf_f, mAsg_ap, kAsg_name, kAsg_tup2, mPar_ap, kPar_2, mFor_ap, mRaise_ap, mTry_ap, kTry_nx, kTry_rt, kTry_exc, mFun_ap, fin_nx, fin_rt, fin_exc, mC_ap, mVar_0, mVar_s, mBin_ap, kB1_ap, kB2_ap, mUn_ap, kUn_neg, mNil_ap, mCons_ap, kC1_ap, kC2_ap, mTup_ap, kTup_ap, mLst_ap, kLst_ap, mCall_ap, mPick_ap, kPick_01, kPick_10, mB_ap, kG_ap, mIf_ap, kIfE_t, kIfE_f, mAnd_ap, kAnd_t, kAnd_f, mOr_ap, kOr_t, kOr_f, mNot_ap, kNot_ap, blT_ap, kBlT_ap, mTru_ap, kTru_bl, kTru_non, kTru_int, kTru_tup, mTnot_ap, kTnot_ap, mTand_ap, kTand_t, kTand_f, mTor_ap, kTor_t, kTor_f, mIsi_ap, kIsi_int, kIsi_bl, kIsi_str, kIsi_non, kIsi_tup, isiT, gAdd_int, gSub_int, gLt_int, gLe_int, gGt_int, gGe_int, gEq_int, gNe_int, gEq_str, gNe_str, gEq_bl, gNe_bl, gIsN_ap, gNotN_ap, isN, ix_0, ix_1, ix_2, gLen_tup, gAbs_int, gInt_int, gInt_bl, gGcd_int, gMin2_int, gMul_int, gFdiv_int, gMod_int, List.map_cons, List.map_nil, List.length_cons, List.length_nil, List.replicate, List.cons_append, List.nil_append, List.append_nil, List.set_cons_zero, List.set_cons_succ, List.isEmpty_cons, List.isEmpty_nil, Nat.reduceSub, Nat.reduceAdd, Nat.reduceLeDiff, if_true, if_false, reduceIte, Bool.false_eq_true, Bool.true_eq_false, Bool.not_true, Bool.not_false, decide_true, decide_false, reduceCtorEq, eq_self, Nat.zero_add, Nat.reduceMul, natLit, Int.reduceEq, Int.reduceNe, Int.reduceLT, Int.reduceLE, pow9, pow340, pow129, e1, e2, mc, Int.reduceAdd]
theorem int_loop {w c : Nat} {cells : List Int} : ∀ (ds : List D) {h : Hm} {n : Nat} {x : Int} {k : Nat} {o : Option D}, Well h w c cells n → n + 2 * ds.length ≤ 99990 → x.natAbs < 2 ^ k → 0 < k → k + 64 * ds.length ≤ 1000 →
    ∃ y h' o', forL (mgName 2) intB (fun _ => true) ds [some (.ref w), some (.int x), o] h = .nx [some (.ref w), some (.int y), o'] h' ∧ y.natAbs < 2 ^ (k + 64 * ds.length) ∧ Kp w h h' ∧ Well h' w c cells (n + 2 * ds.length)
  | [], h, n, x, k, o, W, _, hx, _, _ => ⟨x, h, o, rfl, hx, .refl, W⟩
  | d :: ds, h, n, x, k, o, W, hn, hx, hk0, hk => by
    rw [List.length_cons] at hn hk
    obtain ⟨y, h1, e1, hy, k1, W1⟩ := int_turn (o := some d) W (by omega) hx hk0 (by omega)
    obtain ⟨z, h2, o2, e2, hz, k2, W2⟩ := int_loop ds (o := some d) W1 (by omega) hy (by omega) (by omega)
    refine ⟨z, h2, o2, ?_, ?_, k1.trans k2, ?_⟩
    · show forL (mgName 2) intB (fun _ => true) (d :: ds) [some (.ref w), some (.int x), o] h = _
      simp only [forL, mgName, List.set_cons_succ, List.set_cons_zero, if_true] at e2 ⊢
      simp only [e1]
      exact e2
    · rw [List.length_cons, show k + 64 * (ds.length + 1) = k + 64 + 64 * ds.length by omega]
      exact hz
    · rw [List.length_cons, show n + 2 * (ds.length + 1) = n + 2 + 2 * ds.length by omega]
      exact W2
theorem integer_spec {h : Hm} {w c n : Nat} {cells : List Int} (W : Well h w c cells n) (hn : n ≤ 90000) :
    ∃ x h', m_law_integer [.ref w] h = .ok (.int x) h' ∧ x.natAbs < 2 ^ 200 ∧ Kp w h h' ∧ Well h' w c cells (n + 8) := by
  obtain ⟨r, h1, e1, r0, r1, hl1, k1, W1⟩ := draw_spec (many := 13) W (by omega) (by omega) (by omega)
  obtain ⟨t, h2, e2, t0, t1, hl2, k2, W2⟩ := draw_spec (many := 4) W1 (by omega) (by omega) (by omega)
  have hl : (rngD 0 t.toNat).length = t.toNat := by unfold rngD; rw [List.length_map, List.length_range]
  obtain ⟨y, h3, o3, e3, hy, k3, W3⟩ := int_loop (rngD 0 t.toNat) (o := none) (x := r - 6) (k := 4) W2 (by rw [hl]; omega) (by omega) (by omega) (by rw [hl]; omega)
  rw [hl] at hy W3
  refine ⟨y, h3, ?_, lt_mono hy (by omega), k1.trans (k2.trans k3), W3.mono (by omega)⟩
  have r62t : r62 t = true := by unfold r62; simp only [Bool.and_eq_true, decide_eq_true_eq]; omega
  unfold m_law_integer b_law_integer
  simp only [bind_ok, bind_exc, toS_ok, toS_exc, sb_nx, sb_rt, sb_bk, sb_ct, sb_exc, oo_some, mSeq_ap, mNext_ap, mBreak_ap, mCont_ap, mRet_ap, mRetN_ap, mExpr_ap, mIfS_ap, kIf_t, kIf_f, mAsg_ap, kAsg_name, kAsg_tup2, mPar_ap, kPar_2, mFor_ap, mRaise_ap, mTry_ap, kTry_nx, kTry_rt, kTry_exc, mFun_ap, fin_nx, fin_rt, fin_exc, mC_ap, mVar_0, mVar_s, mBin_ap, kB1_ap, kB2_ap, mUn_ap, kUn_neg, mNil_ap, mCons_ap, kC1_ap, kC2_ap, mTup_ap, kTup_ap, mLst_ap, kLst_ap, mCall_ap, mPick_ap, kPick_01, kPick_10, mB_ap, kG_ap, mIf_ap, kIfE_t, kIfE_f, mAnd_ap, kAnd_t, kAnd_f, mOr_ap, kOr_t, kOr_f, mNot_ap, kNot_ap, blT_ap, kBlT_ap, mTru_ap, kTru_bl, kTru_non, kTru_int, kTru_tup, mTnot_ap, kTnot_ap, mTand_ap, kTand_t, kTand_f, mTor_ap, kTor_t, kTor_f, mIsi_ap, kIsi_int, kIsi_bl, kIsi_str, kIsi_non, kIsi_tup, isiT, gAdd_int, gSub_int, gLt_int, gLe_int, gGt_int, gGe_int, gEq_int, gNe_int, gEq_str, gNe_str, gEq_bl, gNe_bl, gIsN_ap, gNotN_ap, isN, ix_0, ix_1, ix_2, gLen_tup, gAbs_int, gInt_int, gInt_bl, gGcd_int, gMin2_int, gMul_int, gFdiv_int, gMod_int, List.map_cons, List.map_nil, List.length_cons, List.length_nil, List.replicate, List.cons_append, List.nil_append, List.append_nil, List.set_cons_zero, List.set_cons_succ, List.isEmpty_cons, List.isEmpty_nil, Nat.reduceSub, Nat.reduceAdd, Nat.reduceLeDiff, if_true, if_false, reduceIte, Bool.false_eq_true, Bool.true_eq_false, Bool.not_true, Bool.not_false, decide_true, decide_false, reduceCtorEq, eq_self, Nat.zero_add, Nat.reduceMul, natLit, Int.reduceEq, Int.reduceNe, Int.reduceLT, Int.reduceLE, e1, e2, mRng1, r62t, kFor, e3]
theorem ratio_spec {h : Hm} {w c n : Nat} {cells : List Int} (W : Well h w c cells n) (hn : n ≤ 80000) :
    ∃ p h', m_law_ratio [.ref w] h = .ok (pr p) h' ∧ Norm p ∧ Sm 200 p ∧ Kp w h h' ∧ Well h' w c cells (n + 16) := by
  obtain ⟨b, h1, e1, hb, k1, W1⟩ := integer_spec W (by omega)
  obtain ⟨t, h2, e2, ht, k2, W2⟩ := integer_spec W1 (by omega)
  have go : ∀ b' : Int, b' ≠ 0 → b'.natAbs < 2 ^ 200 → Norm (norm t b') ∧ Sm 200 (norm t b') := fun b' hb' hs => ⟨norm_Norm hb', by
    have := norm_size (t := t) hb'
    exact ⟨by omega, by omega⟩⟩
  by_cases c : b = 0
  · obtain ⟨g1, g2⟩ := go 1 (by omega) (by omega)
    refine ⟨norm t 1, h2, ?_, g1, g2, k1.trans k2, W2⟩
    unfold m_law_ratio b_law_ratio
    simp only [bind_ok, bind_exc, toS_ok, toS_exc, sb_nx, sb_rt, sb_bk, sb_ct, sb_exc, oo_some, mSeq_ap, mNext_ap, mBreak_ap, mCont_ap, mRet_ap, mRetN_ap, mExpr_ap, mIfS_ap, kIf_t, kIf_f, mAsg_ap, kAsg_name, kAsg_tup2, mPar_ap, kPar_2, mFor_ap, mRaise_ap, mTry_ap, kTry_nx, kTry_rt, kTry_exc, mFun_ap, fin_nx, fin_rt, fin_exc, mC_ap, mVar_0, mVar_s, mBin_ap, kB1_ap, kB2_ap, mUn_ap, kUn_neg, mNil_ap, mCons_ap, kC1_ap, kC2_ap, mTup_ap, kTup_ap, mLst_ap, kLst_ap, mCall_ap, mPick_ap, kPick_01, kPick_10, mB_ap, kG_ap, mIf_ap, kIfE_t, kIfE_f, mAnd_ap, kAnd_t, kAnd_f, mOr_ap, kOr_t, kOr_f, mNot_ap, kNot_ap, blT_ap, kBlT_ap, mTru_ap, kTru_bl, kTru_non, kTru_int, kTru_tup, mTnot_ap, kTnot_ap, mTand_ap, kTand_t, kTand_f, mTor_ap, kTor_t, kTor_f, mIsi_ap, kIsi_int, kIsi_bl, kIsi_str, kIsi_non, kIsi_tup, isiT, gAdd_int, gSub_int, gLt_int, gLe_int, gGt_int, gGe_int, gEq_int, gNe_int, gEq_str, gNe_str, gEq_bl, gNe_bl, gIsN_ap, gNotN_ap, isN, ix_0, ix_1, ix_2, gLen_tup, gAbs_int, gInt_int, gInt_bl, gGcd_int, gMin2_int, gMul_int, gFdiv_int, gMod_int, List.map_cons, List.map_nil, List.length_cons, List.length_nil, List.replicate, List.cons_append, List.nil_append, List.append_nil, List.set_cons_zero, List.set_cons_succ, List.isEmpty_cons, List.isEmpty_nil, Nat.reduceSub, Nat.reduceAdd, Nat.reduceLeDiff, if_true, if_false, reduceIte, Bool.false_eq_true, Bool.true_eq_false, Bool.not_true, Bool.not_false, decide_true, decide_false, reduceCtorEq, eq_self, Nat.zero_add, Nat.reduceMul, natLit, Int.reduceEq, Int.reduceNe, Int.reduceLT, Int.reduceLE, e1, e2, c, short_eq (t := t) (b := 1) (by omega) (by decide +kernel)]
  · obtain ⟨g1, g2⟩ := go b c hb
    refine ⟨norm t b, h2, ?_, g1, g2, k1.trans k2, W2⟩
    unfold m_law_ratio b_law_ratio
    simp only [bind_ok, bind_exc, toS_ok, toS_exc, sb_nx, sb_rt, sb_bk, sb_ct, sb_exc, oo_some, mSeq_ap, mNext_ap, mBreak_ap, mCont_ap, mRet_ap, mRetN_ap, mExpr_ap, mIfS_ap, kIf_t, kIf_f, mAsg_ap, kAsg_name, kAsg_tup2, mPar_ap, kPar_2, mFor_ap, mRaise_ap, mTry_ap, kTry_nx, kTry_rt, kTry_exc, mFun_ap, fin_nx, fin_rt, fin_exc, mC_ap, mVar_0, mVar_s, mBin_ap, kB1_ap, kB2_ap, mUn_ap, kUn_neg, mNil_ap, mCons_ap, kC1_ap, kC2_ap, mTup_ap, kTup_ap, mLst_ap, kLst_ap, mCall_ap, mPick_ap, kPick_01, kPick_10, mB_ap, kG_ap, mIf_ap, kIfE_t, kIfE_f, mAnd_ap, kAnd_t, kAnd_f, mOr_ap, kOr_t, kOr_f, mNot_ap, kNot_ap, blT_ap, kBlT_ap, mTru_ap, kTru_bl, kTru_non, kTru_int, kTru_tup, mTnot_ap, kTnot_ap, mTand_ap, kTand_t, kTand_f, mTor_ap, kTor_t, kTor_f, mIsi_ap, kIsi_int, kIsi_bl, kIsi_str, kIsi_non, kIsi_tup, isiT, gAdd_int, gSub_int, gLt_int, gLe_int, gGt_int, gGe_int, gEq_int, gNe_int, gEq_str, gNe_str, gEq_bl, gNe_bl, gIsN_ap, gNotN_ap, isN, ix_0, ix_1, ix_2, gLen_tup, gAbs_int, gInt_int, gInt_bl, gGcd_int, gMin2_int, gMul_int, gFdiv_int, gMod_int, List.map_cons, List.map_nil, List.length_cons, List.length_nil, List.replicate, List.cons_append, List.nil_append, List.append_nil, List.set_cons_zero, List.set_cons_succ, List.isEmpty_cons, List.isEmpty_nil, Nat.reduceSub, Nat.reduceAdd, Nat.reduceLeDiff, if_true, if_false, reduceIte, Bool.false_eq_true, Bool.true_eq_false, Bool.not_true, Bool.not_false, decide_true, decide_false, reduceCtorEq, eq_self, Nat.zero_add, Nat.reduceMul, natLit, Int.reduceEq, Int.reduceNe, Int.reduceLT, Int.reduceLE, e1, e2, c, short_eq (t := t) (b := b) c (lt_mono hb (by omega))]
end K63

set_option Elab.async false
set_option linter.all false
set_option maxRecDepth 100000
set_option maxHeartbeats 1000000
namespace K63
open PySem PySem.Spec PyProof.Rows L2 FM
/-! ### things that are no ratio -/
def Bad (d : D) (h : Hm) : Prop := m_is_ratio [d] h = .ok (.bl false) h
theorem bad_non {h : Hm} : Bad .non h := rfl
theorem bad_int {i : Int} {h : Hm} : Bad (.int i) h := rfl
theorem bad_lst {r : Nat} {ds : List D} {h : Hm} (e : h[r]? = some (.lst ds)) : Bad (.ref r) h := by
  unfold Bad m_is_ratio b_is_ratio
  simp only [bind_ok, bind_exc, toS_ok, toS_exc, sb_nx, sb_rt, sb_bk, sb_ct, sb_exc, oo_some, mSeq_ap, mNext_ap, mBreak_ap, mCont_ap, mRet_ap, mRetN_ap, mExpr_ap, mIfS_ap, kIf_t, kIf_f, mAsg_ap, kAsg_name, kAsg_tup2, mPar_ap, kPar_2, mFor_ap, mRaise_ap, mTry_ap, kTry_nx, kTry_rt, kTry_exc, mFun_ap, fin_nx, fin_rt, fin_exc, mC_ap, mVar_0, mVar_s, mBin_ap, kB1_ap, kB2_ap, mUn_ap, kUn_neg, mNil_ap, mCons_ap, kC1_ap, kC2_ap, mTup_ap, kTup_ap, mLst_ap, kLst_ap, mCall_ap, mPick_ap, kPick_01, kPick_10, mB_ap, kG_ap, mIf_ap, kIfE_t, kIfE_f, mAnd_ap, kAnd_t, kAnd_f, mOr_ap, kOr_t, kOr_f, mNot_ap, kNot_ap, blT_ap, kBlT_ap, mTru_ap, kTru_bl, kTru_non, kTru_int, kTru_tup, mTnot_ap, kTnot_ap, mTand_ap, kTand_t, kTand_f, mTor_ap, kTor_t, kTor_f, mIsi_ap, kIsi_int, kIsi_bl, kIsi_str, kIsi_non, kIsi_tup, isiT, gAdd_int, gSub_int, gLt_int, gLe_int, gGt_int, gGe_int, gEq_int, gNe_int, gEq_str, gNe_str, gEq_bl, gNe_bl, gIsN_ap, gNotN_ap, isN, ix_0, ix_1, ix_2, gLen_tup, gAbs_int, gInt_int, gInt_bl, gGcd_int, gMin2_int, gMul_int, gFdiv_int, gMod_int, List.map_cons, List.map_nil, List.length_cons, List.length_nil, List.replicate, List.cons_append, List.nil_append, List.append_nil, List.set_cons_zero, List.set_cons_succ, List.isEmpty_cons, List.isEmpty_nil, Nat.reduceSub, Nat.reduceAdd, Nat.reduceLeDiff, if_true, if_false, reduceIte, Bool.false_eq_true, Bool.true_eq_false, Bool.not_true, Bool.not_false, decide_true, decide_false, reduceCtorEq, eq_self, Nat.zero_add, Nat.reduceMul, natLit, Int.reduceEq, Int.reduceNe, Int.reduceLT, Int.reduceLE, kIsi_lst e]
theorem bad_t1 {x : D} {h : Hm} : Bad (.tup [x]) h := by
  unfold Bad m_is_ratio b_is_ratio
  simp only [bind_ok, bind_exc, toS_ok, toS_exc, sb_nx, sb_rt, sb_bk, sb_ct, sb_exc, oo_some, mSeq_ap, mNext_ap, mBreak_ap, mCont_ap, mRet_ap, mRetN_ap, mExpr_ap, mIfS_ap, kIf_t, kIf_f, mAsg_ap, kAsg_name, kAsg_tup2, mPar_ap, kPar_2, mFor_ap, mRaise_ap, mTry_ap, kTry_nx, kTry_rt, kTry_exc, mFun_ap, fin_nx, fin_rt, fin_exc, mC_ap, mVar_0, mVar_s, mBin_ap, kB1_ap, kB2_ap, mUn_ap, kUn_neg, mNil_ap, mCons_ap, kC1_ap, kC2_ap, mTup_ap, kTup_ap, mLst_ap, kLst_ap, mCall_ap, mPick_ap, kPick_01, kPick_10, mB_ap, kG_ap, mIf_ap, kIfE_t, kIfE_f, mAnd_ap, kAnd_t, kAnd_f, mOr_ap, kOr_t, kOr_f, mNot_ap, kNot_ap, blT_ap, kBlT_ap, mTru_ap, kTru_bl, kTru_non, kTru_int, kTru_tup, mTnot_ap, kTnot_ap, mTand_ap, kTand_t, kTand_f, mTor_ap, kTor_t, kTor_f, mIsi_ap, kIsi_int, kIsi_bl, kIsi_str, kIsi_non, kIsi_tup, isiT, gAdd_int, gSub_int, gLt_int, gLe_int, gGt_int, gGe_int, gEq_int, gNe_int, gEq_str, gNe_str, gEq_bl, gNe_bl, gIsN_ap, gNotN_ap, isN, ix_0, ix_1, ix_2, gLen_tup, gAbs_int, gInt_int, gInt_bl, gGcd_int, gMin2_int, gMul_int, gFdiv_int, gMod_int, List.map_cons, List.map_nil, List.length_cons, List.length_nil, List.replicate, List.cons_append, List.nil_append, List.append_nil, List.set_cons_zero, List.set_cons_succ, List.isEmpty_cons, List.isEmpty_nil, Nat.reduceSub, Nat.reduceAdd, Nat.reduceLeDiff, if_true, if_false, reduceIte, Bool.false_eq_true, Bool.true_eq_false, Bool.not_true, Bool.not_false, decide_true, decide_false, reduceCtorEq, eq_self, Nat.zero_add, Nat.reduceMul, natLit, Int.reduceEq, Int.reduceNe, Int.reduceLT, Int.reduceLE]
theorem bad_t3 {x y z : D} {h : Hm} : Bad (.tup [x, y, z]) h := by
  unfold Bad m_is_ratio b_is_ratio
  simp only [bind_ok, bind_exc, toS_ok, toS_exc, sb_nx, sb_rt, sb_bk, sb_ct, sb_exc, oo_some, mSeq_ap, mNext_ap, mBreak_ap, mCont_ap, mRet_ap, mRetN_ap, mExpr_ap, mIfS_ap, kIf_t, kIf_f, mAsg_ap, kAsg_name, kAsg_tup2, mPar_ap, kPar_2, mFor_ap, mRaise_ap, mTry_ap, kTry_nx, kTry_rt, kTry_exc, mFun_ap, fin_nx, fin_rt, fin_exc, mC_ap, mVar_0, mVar_s, mBin_ap, kB1_ap, kB2_ap, mUn_ap, kUn_neg, mNil_ap, mCons_ap, kC1_ap, kC2_ap, mTup_ap, kTup_ap, mLst_ap, kLst_ap, mCall_ap, mPick_ap, kPick_01, kPick_10, mB_ap, kG_ap, mIf_ap, kIfE_t, kIfE_f, mAnd_ap, kAnd_t, kAnd_f, mOr_ap, kOr_t, kOr_f, mNot_ap, kNot_ap, blT_ap, kBlT_ap, mTru_ap, kTru_bl, kTru_non, kTru_int, kTru_tup, mTnot_ap, kTnot_ap, mTand_ap, kTand_t, kTand_f, mTor_ap, kTor_t, kTor_f, mIsi_ap, kIsi_int, kIsi_bl, kIsi_str, kIsi_non, kIsi_tup, isiT, gAdd_int, gSub_int, gLt_int, gLe_int, gGt_int, gGe_int, gEq_int, gNe_int, gEq_str, gNe_str, gEq_bl, gNe_bl, gIsN_ap, gNotN_ap, isN, ix_0, ix_1, ix_2, gLen_tup, gAbs_int, gInt_int, gInt_bl, gGcd_int, gMin2_int, gMul_int, gFdiv_int, gMod_int, List.map_cons, List.map_nil, List.length_cons, List.length_nil, List.replicate, List.cons_append, List.nil_append, List.append_nil, List.set_cons_zero, List.set_cons_succ, List.isEmpty_cons, List.isEmpty_nil, Nat.reduceSub, Nat.reduceAdd, Nat.reduceLeDiff, if_true, if_false, reduceIte, Bool.false_eq_true, Bool.true_eq_false, Bool.not_true, Bool.not_false, decide_true, decide_false, reduceCtorEq, eq_self, Nat.zero_add, Nat.reduceMul, natLit, Int.reduceEq, Int.reduceNe, Int.reduceLT, Int.reduceLE]
theorem is_int_bl {i : Bool} {h : Hm} : m_is_int [.bl i] h = .ok (.bl false) h := rfl
theorem is_int_str {i : Str} {h : Hm} : m_is_int [.str i] h = .ok (.bl false) h := rfl
theorem is_int_non {h : Hm} : m_is_int [.non] h = .ok (.bl false) h := rfl
theorem is_int_tup {ds : List D} {h : Hm} : m_is_int [.tup ds] h = .ok (.bl false) h := rfl
theorem bad_2a {x y : D} {h : Hm} (e : m_is_int [x] h = .ok (.bl false) h) : Bad (.tup [x, y]) h := by
  unfold Bad m_is_ratio b_is_ratio
  simp only [bind_ok, bind_exc, toS_ok, toS_exc, sb_nx, sb_rt, sb_bk, sb_ct, sb_exc, oo_some, mSeq_ap, mNext_ap, mBreak_ap, mCont_ap, mRet_ap, mRetN_ap, mExpr_ap, mIfS_ap, kIf_t, kIf_f, mAsg_ap, kAsg_name, kAsg_tup2, mPar_ap, kPar_2, mFor_ap, mRaise_ap, mTry_ap, kTry_nx, kTry_rt, kTry_exc, mFun_ap, fin_nx, fin_rt, fin_exc, mC_ap, mVar_0, mVar_s, mBin_ap, kB1_ap, kB2_ap, mUn_ap, kUn_neg, mNil_ap, mCons_ap, kC1_ap, kC2_ap, mTup_ap, kTup_ap, mLst_ap, kLst_ap, mCall_ap, mPick_ap, kPick_01, kPick_10, mB_ap, kG_ap, mIf_ap, kIfE_t, kIfE_f, mAnd_ap, kAnd_t, kAnd_f, mOr_ap, kOr_t, kOr_f, mNot_ap, kNot_ap, blT_ap, kBlT_ap, mTru_ap, kTru_bl, kTru_non, kTru_int, kTru_tup, mTnot_ap, kTnot_ap, mTand_ap, kTand_t, kTand_f, mTor_ap, kTor_t, kTor_f, mIsi_ap, kIsi_int, kIsi_bl, kIsi_str, kIsi_non, kIsi_tup, isiT, gAdd_int, gSub_int, gLt_int, gLe_int, gGt_int, gGe_int, gEq_int, gNe_int, gEq_str, gNe_str, gEq_bl, gNe_bl, gIsN_ap, gNotN_ap, isN, ix_0, ix_1, ix_2, gLen_tup, gAbs_int, gInt_int, gInt_bl, gGcd_int, gMin2_int, gMul_int, gFdiv_int, gMod_int, List.map_cons, List.map_nil, List.length_cons, List.length_nil, List.replicate, List.cons_append, List.nil_append, List.append_nil, List.set_cons_zero, List.set_cons_succ, List.isEmpty_cons, List.isEmpty_nil, Nat.reduceSub, Nat.reduceAdd, Nat.reduceLeDiff, if_true, if_false, reduceIte, Bool.false_eq_true, Bool.true_eq_false, Bool.not_true, Bool.not_false, decide_true, decide_false, reduceCtorEq, eq_self, Nat.zero_add, Nat.reduceMul, natLit, Int.reduceEq, Int.reduceNe, Int.reduceLT, Int.reduceLE, e]
theorem bad_2b {i : Int} {y : D} {h : Hm} (e : m_is_int [y] h = .ok (.bl false) h) : Bad (.tup [.int i, y]) h := by
  unfold Bad m_is_ratio b_is_ratio
  simp only [bind_ok, bind_exc, toS_ok, toS_exc, sb_nx, sb_rt, sb_bk, sb_ct, sb_exc, oo_some, mSeq_ap, mNext_ap, mBreak_ap, mCont_ap, mRet_ap, mRetN_ap, mExpr_ap, mIfS_ap, kIf_t, kIf_f, mAsg_ap, kAsg_name, kAsg_tup2, mPar_ap, kPar_2, mFor_ap, mRaise_ap, mTry_ap, kTry_nx, kTry_rt, kTry_exc, mFun_ap, fin_nx, fin_rt, fin_exc, mC_ap, mVar_0, mVar_s, mBin_ap, kB1_ap, kB2_ap, mUn_ap, kUn_neg, mNil_ap, mCons_ap, kC1_ap, kC2_ap, mTup_ap, kTup_ap, mLst_ap, kLst_ap, mCall_ap, mPick_ap, kPick_01, kPick_10, mB_ap, kG_ap, mIf_ap, kIfE_t, kIfE_f, mAnd_ap, kAnd_t, kAnd_f, mOr_ap, kOr_t, kOr_f, mNot_ap, kNot_ap, blT_ap, kBlT_ap, mTru_ap, kTru_bl, kTru_non, kTru_int, kTru_tup, mTnot_ap, kTnot_ap, mTand_ap, kTand_t, kTand_f, mTor_ap, kTor_t, kTor_f, mIsi_ap, kIsi_int, kIsi_bl, kIsi_str, kIsi_non, kIsi_tup, isiT, gAdd_int, gSub_int, gLt_int, gLe_int, gGt_int, gGe_int, gEq_int, gNe_int, gEq_str, gNe_str, gEq_bl, gNe_bl, gIsN_ap, gNotN_ap, isN, ix_0, ix_1, ix_2, gLen_tup, gAbs_int, gInt_int, gInt_bl, gGcd_int, gMin2_int, gMul_int, gFdiv_int, gMod_int, List.map_cons, List.map_nil, List.length_cons, List.length_nil, List.replicate, List.cons_append, List.nil_append, List.append_nil, List.set_cons_zero, List.set_cons_succ, List.isEmpty_cons, List.isEmpty_nil, Nat.reduceSub, Nat.reduceAdd, Nat.reduceLeDiff, if_true, if_false, reduceIte, Bool.false_eq_true, Bool.true_eq_false, Bool.not_true, Bool.not_false, decide_true, decide_false, reduceCtorEq, eq_self, Nat.zero_add, Nat.reduceMul, natLit, Int.reduceEq, Int.reduceNe, Int.reduceLT, Int.reduceLE, is_int_int, e]
theorem bad_low {i j : Int} {h : Hm} (e : j < 1) : Bad (.tup [.int i, .int j]) h := by
  unfold Bad m_is_ratio b_is_ratio
  simp only [bind_ok, bind_exc, toS_ok, toS_exc, sb_nx, sb_rt, sb_bk, sb_ct, sb_exc, oo_some, mSeq_ap, mNext_ap, mBreak_ap, mCont_ap, mRet_ap, mRetN_ap, mExpr_ap, mIfS_ap, kIf_t, kIf_f, mAsg_ap, kAsg_name, kAsg_tup2, mPar_ap, kPar_2, mFor_ap, mRaise_ap, mTry_ap, kTry_nx, kTry_rt, kTry_exc, mFun_ap, fin_nx, fin_rt, fin_exc, mC_ap, mVar_0, mVar_s, mBin_ap, kB1_ap, kB2_ap, mUn_ap, kUn_neg, mNil_ap, mCons_ap, kC1_ap, kC2_ap, mTup_ap, kTup_ap, mLst_ap, kLst_ap, mCall_ap, mPick_ap, kPick_01, kPick_10, mB_ap, kG_ap, mIf_ap, kIfE_t, kIfE_f, mAnd_ap, kAnd_t, kAnd_f, mOr_ap, kOr_t, kOr_f, mNot_ap, kNot_ap, blT_ap, kBlT_ap, mTru_ap, kTru_bl, kTru_non, kTru_int, kTru_tup, mTnot_ap, kTnot_ap, mTand_ap, kTand_t, kTand_f, mTor_ap, kTor_t, kTor_f, mIsi_ap, kIsi_int, kIsi_bl, kIsi_str, kIsi_non, kIsi_tup, isiT, gAdd_int, gSub_int, gLt_int, gLe_int, gGt_int, gGe_int, gEq_int, gNe_int, gEq_str, gNe_str, gEq_bl, gNe_bl, gIsN_ap, gNotN_ap, isN, ix_0, ix_1, ix_2, gLen_tup, gAbs_int, gInt_int, gInt_bl, gGcd_int, gMin2_int, gMul_int, gFdiv_int, gMod_int, List.map_cons, List.map_nil, List.length_cons, List.length_nil, List.replicate, List.cons_append, List.nil_append, List.append_nil, List.set_cons_zero, List.set_cons_succ, List.isEmpty_cons, List.isEmpty_nil, Nat.reduceSub, Nat.reduceAdd, Nat.reduceLeDiff, if_true, if_false, reduceIte, Bool.false_eq_true, Bool.true_eq_false, Bool.not_true, Bool.not_false, decide_true, decide_false, reduceCtorEq, eq_self, Nat.zero_add, Nat.reduceMul, natLit, Int.reduceEq, Int.reduceNe, Int.reduceLT, Int.reduceLE, is_int_int, e]
theorem bad_gcd {i j : Int} {h : Hm} (e : ¬ Nat.gcd i.natAbs j.natAbs = 1) : Bad (.tup [.int i, .int j]) h := by
  have e' : ¬ ((Nat.gcd i.natAbs j.natAbs : Nat) : Int) = 1 := by omega
  unfold Bad m_is_ratio b_is_ratio
  by_cases c : j < 1
  · simp only [bind_ok, bind_exc, toS_ok, toS_exc, sb_nx, sb_rt, sb_bk, sb_ct, sb_exc, oo_some, mSeq_ap, mNext_ap, mBreak_ap, mCont_ap, mRet_ap, mRetN_ap, mExpr_ap, mIfS_ap, kIf_t, kIf_f, mAsg_ap, kAsg_name, kAsg_tup2, mPar_ap, kPar_2, mFor_ap, mRaise_ap, mTry_ap, kTry_nx, kTry_rt, kTry_exc, mFun_ap, fin_nx, fin_rt, fin_exc, mC_ap, mVar_0, mVar_s, mBin_ap, kB1_ap, kB2_ap, mUn_ap, kUn_neg, mNil_ap, mCons_ap, kC1_ap, kC2_ap, mTup_ap, kTup_ap, mLst_ap, kLst_ap, mCall_ap, mPick_ap, kPick_01, kPick_10, mB_ap, kG_ap, mIf_ap, kIfE_t, kIfE_f, mAnd_ap, kAnd_t, kAnd_f, mOr_ap, kOr_t, kOr_f, mNot_ap, kNot_ap, blT_ap, kBlT_ap, mTru_ap, kTru_bl, kTru_non, kTru_int, kTru_tup, mTnot_ap, kTnot_ap, mTand_ap, kTand_t, kTand_f, mTor_ap, kTor_t, kTor_f, mIsi_ap, kIsi_int, kIsi_bl, kIsi_str, kIsi_non, kIsi_tup, isiT, gAdd_int, gSub_int, gLt_int, gLe_int, gGt_int, gGe_int, gEq_int, gNe_int, gEq_str, gNe_str, gEq_bl, gNe_bl, gIsN_ap, gNotN_ap, isN, ix_0, ix_1, ix_2, gLen_tup, gAbs_int, gInt_int, gInt_bl, gGcd_int, gMin2_int, gMul_int, gFdiv_int, gMod_int, List.map_cons, List.map_nil, List.length_cons, List.length_nil, List.replicate, List.cons_append, List.nil_append, List.append_nil, List.set_cons_zero, List.set_cons_succ, List.isEmpty_cons, List.isEmpty_nil, Nat.reduceSub, Nat.reduceAdd, Nat.reduceLeDiff, if_true, if_false, reduceIte, Bool.false_eq_true, Bool.true_eq_false, Bool.not_true, Bool.not_false, decide_true, decide_false, reduceCtorEq, eq_self, Nat.zero_add, Nat.reduceMul, natLit, Int.reduceEq, Int.reduceNe, Int.reduceLT, Int.reduceLE, is_int_int, c]
  · simp only [bind_ok, bind_exc, toS_ok, toS_exc, sb_nx, sb_rt, sb_bk, sb_ct, sb_exc, oo_some, mSeq_ap, mNext_ap, mBreak_ap, mCont_ap, mRet_ap, mRetN_ap, mExpr_ap, mIfS_ap, kIf_t, kIf_f, mAsg_ap, kAsg_name, kAsg_tup2, mPar_ap, kPar_2, mFor_ap, mRaise_ap, mTry_ap, kTry_nx, kTry_rt, kTry_exc, mFun_ap, fin_nx, fin_rt, fin_exc, mC_ap, mVar_0, mVar_s, mBin_ap, kB1_ap, kB2_ap, mUn_ap, kUn_neg, mNil_ap, mCons_ap, kC1_ap, kC2_ap, mTup_ap, kTup_ap, mLst_ap, kLst_ap, mCall_ap, mPick_ap, kPick_01, kPick_10, mB_ap, kG_ap, mIf_ap, kIfE_t, kIfE_f, mAnd_ap, kAnd_t, kAnd_f, mOr_ap, kOr_t, kOr_f, mNot_ap, kNot_ap, blT_ap, kBlT_ap, mTru_ap, kTru_bl, kTru_non, kTru_int, kTru_tup, mTnot_ap, kTnot_ap, mTand_ap, kTand_t, kTand_f, mTor_ap, kTor_t, kTor_f, mIsi_ap, kIsi_int, kIsi_bl, kIsi_str, kIsi_non, kIsi_tup, isiT, gAdd_int, gSub_int, gLt_int, gLe_int, gGt_int, gGe_int, gEq_int, gNe_int, gEq_str, gNe_str, gEq_bl, gNe_bl, gIsN_ap, gNotN_ap, isN, ix_0, ix_1, ix_2, gLen_tup, gAbs_int, gInt_int, gInt_bl, gGcd_int, gMin2_int, gMul_int, gFdiv_int, gMod_int, List.map_cons, List.map_nil, List.length_cons, List.length_nil, List.replicate, List.cons_append, List.nil_append, List.append_nil, List.set_cons_zero, List.set_cons_succ, List.isEmpty_cons, List.isEmpty_nil, Nat.reduceSub, Nat.reduceAdd, Nat.reduceLeDiff, if_true, if_false, reduceIte, Bool.false_eq_true, Bool.true_eq_false, Bool.not_true, Bool.not_false, decide_true, decide_false, reduceCtorEq, eq_self, Nat.zero_add, Nat.reduceMul, natLit, Int.reduceEq, Int.reduceNe, Int.reduceLT, Int.reduceLE, is_int_int, c, e']
theorem none_spec {h : Hm} {w c n : Nat} {cells : List Int} {a : Int × Int} (W : Well h w c cells n) (hn : n ≤ 100000) (N : Norm a) (S : Sm 210 a) :
    ∃ d h', m_law_none [.ref w, pr a] h = .ok d h' ∧ (∀ h'', Kp w h' h'' → Bad d h'') ∧ Kp w h h' ∧ Well h' w c cells (n + 1) := by
  have W0 := W.lt
  have sl : a.1.natAbs.log2 < 1920 := Nat.lt_trans (log2_lt S.1 (by omega)) (by omega)
  have x1 : Ext h (h ++ [O.lst [.int a.1, .int a.2]]) := Ext.push
  let l1 : List D := [.non, .int 7, .ref h.length, .tup [.int a.1], .tup [.int a.1, .int a.2, .int 1], .tup [.int (a.1 * 2), .int (a.2 * 2)], .tup [.int a.1, .int 0], .tup [.int (-a.1), .int (-a.2)]]
  let l2 : List D := [.tup [.bl true, .int 1], .tup [.int a.1, .bl true], .tup [.str (toString a.1), .int 1], .tup [.int 0, .int 2], .tup [.int 1, .non], .tup [.tup [.int a.1, .int a.2], .int 1]]
  let h1 := h ++ [O.lst [.int a.1, .int a.2]]
  let h2 := h1 ++ [O.lst l1]
  let h3 := h2 ++ [O.lst l2]
  let h4 := h3 ++ [O.lst (l1 ++ l2)]
  have x4 : Ext h h4 := x1.trans ((Ext.push).trans ((Ext.push).trans Ext.push))
  have y4 : Ext h1 h4 := (Ext.push).trans ((Ext.push).trans Ext.push)
  obtain ⟨d, h5, e5, hd, hl5, k5, W5⟩ := one_spec (s := h3.length) (ds := l1 ++ l2) (W.ext x4) hn push_get (by show 0 < 14; omega) (by show 14 < 2 ^ 59; omega) (by
    have : h.length ≤ h3.length := (x1.trans ((Ext.push).trans Ext.push)).1
    omega)
  refine ⟨d, h5, ?_, ?_, (Kp.of_ext x4).trans k5, W5⟩
  · have m1 : ∀ x, mulC x 2 = true := fun x => mulC_r (by decide)
    have ga : gAdd (.ref h1.length) (.ref h2.length) h3 = some (.ref h3.length, h4) := by
      have g1 : h3[h1.length]? = some (.lst l1) := (Ext.push : Ext h2 h3).get push_get
      have g2 : h3[h2.length]? = some (.lst l2) := push_get
      show (match gAddL (.ref h1.length) (.ref h2.length) h3 with | some r => some r | none => none) = _
      simp only [gAddL, g1, g2]
      rfl
    have gs : ∀ hh, gStr [.int a.1] hh = some (.str (toString a.1), hh) := fun hh => if_pos sl
    unfold m_law_none b_law_none
    simp only [h4, h3, h2, h1, l1, l2, List.cons_append, List.nil_append] at ga e5
    simp only [bind_ok, bind_exc, toS_ok, toS_exc, sb_nx, sb_rt, sb_bk, sb_ct, sb_exc, oo_some, mSeq_ap, mNext_ap, mBreak_ap, mCont_ap, mRet_ap, mRetN_ap, mExpr_ap, mIfS_ap, kIf_t, kIf_f, mAsg_ap, kAsg_name, kAsg_tup2, mPar_ap, kPar_2, mFor_ap, mRaise_ap, mTry_ap, kTry_nx, kTry_rt, kTry_exc, mFun_ap, fin_nx, fin_rt, fin_exc, mC_ap, mVar_0, mVar_s, mBin_ap, kB1_ap, kB2_ap, mUn_ap, kUn_neg, mNil_ap, mCons_ap, kC1_ap, kC2_ap, mTup_ap, kTup_ap, mLst_ap, kLst_ap, mCall_ap, mPick_ap, kPick_01, kPick_10, mB_ap, kG_ap, mIf_ap, kIfE_t, kIfE_f, mAnd_ap, kAnd_t, kAnd_f, mOr_ap, kOr_t, kOr_f, mNot_ap, kNot_ap, blT_ap, kBlT_ap, mTru_ap, kTru_bl, kTru_non, kTru_int, kTru_tup, mTnot_ap, kTnot_ap, mTand_ap, kTand_t, kTand_f, mTor_ap, kTor_t, kTor_f, mIsi_ap, kIsi_int, kIsi_bl, kIsi_str, kIsi_non, kIsi_tup, isiT, gAdd_int, gSub_int, gLt_int, gLe_int, gGt_int, gGe_int, gEq_int, gNe_int, gEq_str, gNe_str, gEq_bl, gNe_bl, gIsN_ap, gNotN_ap, isN, ix_0, ix_1, ix_2, gLen_tup, gAbs_int, gInt_int, gInt_bl, gGcd_int, gMin2_int, gMul_int, gFdiv_int, gMod_int, List.map_cons, List.map_nil, List.length_cons, List.length_nil, List.replicate, List.cons_append, List.nil_append, List.append_nil, List.set_cons_zero, List.set_cons_succ, List.isEmpty_cons, List.isEmpty_nil, Nat.reduceSub, Nat.reduceAdd, Nat.reduceLeDiff, if_true, if_false, reduceIte, Bool.false_eq_true, Bool.true_eq_false, Bool.not_true, Bool.not_false, decide_true, decide_false, reduceCtorEq, eq_self, Nat.zero_add, Nat.reduceMul, natLit, Int.reduceEq, Int.reduceNe, Int.reduceLT, Int.reduceLE, m1, ga, gs, e5]
  · intro h'' k
    have gr : h''[h.length]? = some (.lst [.int a.1, .int a.2]) := k.get (by omega) (k5.get (by omega) (y4.get push_get))
    have h2 : ∀ x y : Nat, ¬ Nat.gcd (x * 2) (y * 2) = 1 := fun x y e => by
      rw [Nat.gcd_mul_right] at e
      omega
    simp only [l1, l2, List.cons_append, List.nil_append, List.mem_cons, List.not_mem_nil, or_false] at hd
    rcases hd with q | q | q | q | q | q | q | q | q | q | q | q | q | q <;> subst q
    · exact bad_non
    · exact bad_int
    · exact bad_lst gr
    · exact bad_t1
    · exact bad_t3
    · refine bad_gcd ?_
      rw [Int.natAbs_mul, Int.natAbs_mul]
      exact h2 _ _
    · exact bad_low (by omega)
    · exact bad_low (by have := N.pos; omega)
    · exact bad_2a is_int_bl
    · exact bad_2b is_int_bl
    · exact bad_2a is_int_str
    · exact bad_gcd (by decide)
    · exact bad_2b is_int_non
    · exact bad_2a is_int_tup
/-! ### calls -/
def door (i : Int) : MFn := if i = 0 then m_plus else if i = 1 then m_minus else if i = 2 then m_product else if i = 3 then m_quotient else m_below
theorem call_ok {i : Int} {x y d : D} {nm : Bool} {h h' : Hm} (e : door i [x, y] h = .ok d h') : m_law_call [.int i, x, y, .bl nm] h = .ok d h' := by
  unfold door at e
  unfold m_law_call b_law_call
  by_cases c0 : i = 0
  · rw [if_pos c0] at e; cases nm <;> simp only [bind_ok, bind_exc, toS_ok, toS_exc, sb_nx, sb_rt, sb_bk, sb_ct, sb_exc, oo_some, mSeq_ap, mNext_ap, mBreak_ap, mCont_ap, mRet_ap, mRetN_ap, mExpr_ap, mIfS_ap, kIf_t, kIf_f, mAsg_ap, kAsg_name, kAsg_tup2, mPar_ap, kPar_2, mFor_ap, mRaise_ap, mTry_ap, kTry_nx, kTry_rt, kTry_exc, mFun_ap, fin_nx, fin_rt, fin_exc, mC_ap, mVar_0, mVar_s, mBin_ap, kB1_ap, kB2_ap, mUn_ap, kUn_neg, mNil_ap, mCons_ap, kC1_ap, kC2_ap, mTup_ap, kTup_ap, mLst_ap, kLst_ap, mCall_ap, mPick_ap, kPick_01, kPick_10, mB_ap, kG_ap, mIf_ap, kIfE_t, kIfE_f, mAnd_ap, kAnd_t, kAnd_f, mOr_ap, kOr_t, kOr_f, mNot_ap, kNot_ap, blT_ap, kBlT_ap, mTru_ap, kTru_bl, kTru_non, kTru_int, kTru_tup, mTnot_ap, kTnot_ap, mTand_ap, kTand_t, kTand_f, mTor_ap, kTor_t, kTor_f, mIsi_ap, kIsi_int, kIsi_bl, kIsi_str, kIsi_non, kIsi_tup, isiT, gAdd_int, gSub_int, gLt_int, gLe_int, gGt_int, gGe_int, gEq_int, gNe_int, gEq_str, gNe_str, gEq_bl, gNe_bl, gIsN_ap, gNotN_ap, isN, ix_0, ix_1, ix_2, gLen_tup, gAbs_int, gInt_int, gInt_bl, gGcd_int, gMin2_int, gMul_int, gFdiv_int, gMod_int, List.map_cons, List.map_nil, List.length_cons, List.length_nil, List.replicate, List.cons_append, List.nil_append, List.append_nil, List.set_cons_zero, List.set_cons_succ, List.isEmpty_cons, List.isEmpty_nil, Nat.reduceSub, Nat.reduceAdd, Nat.reduceLeDiff, if_true, if_false, reduceIte, Bool.false_eq_true, Bool.true_eq_false, Bool.not_true, Bool.not_false, decide_true, decide_false, reduceCtorEq, eq_self, Nat.zero_add, Nat.reduceMul, natLit, Int.reduceEq, Int.reduceNe, Int.reduceLT, Int.reduceLE, c0, e]
  · rw [if_neg c0] at e
    by_cases c1 : i = 1
    · rw [if_pos c1] at e; cases nm <;> simp only [bind_ok, bind_exc, toS_ok, toS_exc, sb_nx, sb_rt, sb_bk, sb_ct, sb_exc, oo_some, mSeq_ap, mNext_ap, mBreak_ap, mCont_ap, mRet_ap, mRetN_ap, mExpr_ap, mIfS_ap, kIf_t, kIf_f, mAsg_ap, kAsg_name, kAsg_tup2, mPar_ap, kPar_2, mFor_ap, mRaise_ap, mTry_ap, kTry_nx, kTry_rt, kTry_exc, mFun_ap, fin_nx, fin_rt, fin_exc, mC_ap, mVar_0, mVar_s, mBin_ap, kB1_ap, kB2_ap, mUn_ap, kUn_neg, mNil_ap, mCons_ap, kC1_ap, kC2_ap, mTup_ap, kTup_ap, mLst_ap, kLst_ap, mCall_ap, mPick_ap, kPick_01, kPick_10, mB_ap, kG_ap, mIf_ap, kIfE_t, kIfE_f, mAnd_ap, kAnd_t, kAnd_f, mOr_ap, kOr_t, kOr_f, mNot_ap, kNot_ap, blT_ap, kBlT_ap, mTru_ap, kTru_bl, kTru_non, kTru_int, kTru_tup, mTnot_ap, kTnot_ap, mTand_ap, kTand_t, kTand_f, mTor_ap, kTor_t, kTor_f, mIsi_ap, kIsi_int, kIsi_bl, kIsi_str, kIsi_non, kIsi_tup, isiT, gAdd_int, gSub_int, gLt_int, gLe_int, gGt_int, gGe_int, gEq_int, gNe_int, gEq_str, gNe_str, gEq_bl, gNe_bl, gIsN_ap, gNotN_ap, isN, ix_0, ix_1, ix_2, gLen_tup, gAbs_int, gInt_int, gInt_bl, gGcd_int, gMin2_int, gMul_int, gFdiv_int, gMod_int, List.map_cons, List.map_nil, List.length_cons, List.length_nil, List.replicate, List.cons_append, List.nil_append, List.append_nil, List.set_cons_zero, List.set_cons_succ, List.isEmpty_cons, List.isEmpty_nil, Nat.reduceSub, Nat.reduceAdd, Nat.reduceLeDiff, if_true, if_false, reduceIte, Bool.false_eq_true, Bool.true_eq_false, Bool.not_true, Bool.not_false, decide_true, decide_false, reduceCtorEq, eq_self, Nat.zero_add, Nat.reduceMul, natLit, Int.reduceEq, Int.reduceNe, Int.reduceLT, Int.reduceLE, c1, e]
    · rw [if_neg c1] at e
      by_cases c2 : i = 2
      · rw [if_pos c2] at e; cases nm <;> simp only [bind_ok, bind_exc, toS_ok, toS_exc, sb_nx, sb_rt, sb_bk, sb_ct, sb_exc, oo_some, mSeq_ap, mNext_ap, mBreak_ap, mCont_ap, mRet_ap, mRetN_ap, mExpr_ap, mIfS_ap, kIf_t, kIf_f, mAsg_ap, kAsg_name, kAsg_tup2, mPar_ap, kPar_2, mFor_ap, mRaise_ap, mTry_ap, kTry_nx, kTry_rt, kTry_exc, mFun_ap, fin_nx, fin_rt, fin_exc, mC_ap, mVar_0, mVar_s, mBin_ap, kB1_ap, kB2_ap, mUn_ap, kUn_neg, mNil_ap, mCons_ap, kC1_ap, kC2_ap, mTup_ap, kTup_ap, mLst_ap, kLst_ap, mCall_ap, mPick_ap, kPick_01, kPick_10, mB_ap, kG_ap, mIf_ap, kIfE_t, kIfE_f, mAnd_ap, kAnd_t, kAnd_f, mOr_ap, kOr_t, kOr_f, mNot_ap, kNot_ap, blT_ap, kBlT_ap, mTru_ap, kTru_bl, kTru_non, kTru_int, kTru_tup, mTnot_ap, kTnot_ap, mTand_ap, kTand_t, kTand_f, mTor_ap, kTor_t, kTor_f, mIsi_ap, kIsi_int, kIsi_bl, kIsi_str, kIsi_non, kIsi_tup, isiT, gAdd_int, gSub_int, gLt_int, gLe_int, gGt_int, gGe_int, gEq_int, gNe_int, gEq_str, gNe_str, gEq_bl, gNe_bl, gIsN_ap, gNotN_ap, isN, ix_0, ix_1, ix_2, gLen_tup, gAbs_int, gInt_int, gInt_bl, gGcd_int, gMin2_int, gMul_int, gFdiv_int, gMod_int, List.map_cons, List.map_nil, List.length_cons, List.length_nil, List.replicate, List.cons_append, List.nil_append, List.append_nil, List.set_cons_zero, List.set_cons_succ, List.isEmpty_cons, List.isEmpty_nil, Nat.reduceSub, Nat.reduceAdd, Nat.reduceLeDiff, if_true, if_false, reduceIte, Bool.false_eq_true, Bool.true_eq_false, Bool.not_true, Bool.not_false, decide_true, decide_false, reduceCtorEq, eq_self, Nat.zero_add, Nat.reduceMul, natLit, Int.reduceEq, Int.reduceNe, Int.reduceLT, Int.reduceLE, c2, e]
      · rw [if_neg c2] at e
        by_cases c3 : i = 3
        · rw [if_pos c3] at e; cases nm <;> simp only [bind_ok, bind_exc, toS_ok, toS_exc, sb_nx, sb_rt, sb_bk, sb_ct, sb_exc, oo_some, mSeq_ap, mNext_ap, mBreak_ap, mCont_ap, mRet_ap, mRetN_ap, mExpr_ap, mIfS_ap, kIf_t, kIf_f, mAsg_ap, kAsg_name, kAsg_tup2, mPar_ap, kPar_2, mFor_ap, mRaise_ap, mTry_ap, kTry_nx, kTry_rt, kTry_exc, mFun_ap, fin_nx, fin_rt, fin_exc, mC_ap, mVar_0, mVar_s, mBin_ap, kB1_ap, kB2_ap, mUn_ap, kUn_neg, mNil_ap, mCons_ap, kC1_ap, kC2_ap, mTup_ap, kTup_ap, mLst_ap, kLst_ap, mCall_ap, mPick_ap, kPick_01, kPick_10, mB_ap, kG_ap, mIf_ap, kIfE_t, kIfE_f, mAnd_ap, kAnd_t, kAnd_f, mOr_ap, kOr_t, kOr_f, mNot_ap, kNot_ap, blT_ap, kBlT_ap, mTru_ap, kTru_bl, kTru_non, kTru_int, kTru_tup, mTnot_ap, kTnot_ap, mTand_ap, kTand_t, kTand_f, mTor_ap, kTor_t, kTor_f, mIsi_ap, kIsi_int, kIsi_bl, kIsi_str, kIsi_non, kIsi_tup, isiT, gAdd_int, gSub_int, gLt_int, gLe_int, gGt_int, gGe_int, gEq_int, gNe_int, gEq_str, gNe_str, gEq_bl, gNe_bl, gIsN_ap, gNotN_ap, isN, ix_0, ix_1, ix_2, gLen_tup, gAbs_int, gInt_int, gInt_bl, gGcd_int, gMin2_int, gMul_int, gFdiv_int, gMod_int, List.map_cons, List.map_nil, List.length_cons, List.length_nil, List.replicate, List.cons_append, List.nil_append, List.append_nil, List.set_cons_zero, List.set_cons_succ, List.isEmpty_cons, List.isEmpty_nil, Nat.reduceSub, Nat.reduceAdd, Nat.reduceLeDiff, if_true, if_false, reduceIte, Bool.false_eq_true, Bool.true_eq_false, Bool.not_true, Bool.not_false, decide_true, decide_false, reduceCtorEq, eq_self, Nat.zero_add, Nat.reduceMul, natLit, Int.reduceEq, Int.reduceNe, Int.reduceLT, Int.reduceLE, c3, e]
        · rw [if_neg c3] at e; cases nm <;> simp only [bind_ok, bind_exc, toS_ok, toS_exc, sb_nx, sb_rt, sb_bk, sb_ct, sb_exc, oo_some, mSeq_ap, mNext_ap, mBreak_ap, mCont_ap, mRet_ap, mRetN_ap, mExpr_ap, mIfS_ap, kIf_t, kIf_f, mAsg_ap, kAsg_name, kAsg_tup2, mPar_ap, kPar_2, mFor_ap, mRaise_ap, mTry_ap, kTry_nx, kTry_rt, kTry_exc, mFun_ap, fin_nx, fin_rt, fin_exc, mC_ap, mVar_0, mVar_s, mBin_ap, kB1_ap, kB2_ap, mUn_ap, kUn_neg, mNil_ap, mCons_ap, kC1_ap, kC2_ap, mTup_ap, kTup_ap, mLst_ap, kLst_ap, mCall_ap, mPick_ap, kPick_01, kPick_10, mB_ap, kG_ap, mIf_ap, kIfE_t, kIfE_f, mAnd_ap, kAnd_t, kAnd_f, mOr_ap, kOr_t, kOr_f, mNot_ap, kNot_ap, blT_ap, kBlT_ap, mTru_ap, kTru_bl, kTru_non, kTru_int, kTru_tup, mTnot_ap, kTnot_ap, mTand_ap, kTand_t, kTand_f, mTor_ap, kTor_t, kTor_f, mIsi_ap, kIsi_int, kIsi_bl, kIsi_str, kIsi_non, kIsi_tup, isiT, gAdd_int, gSub_int, gLt_int, gLe_int, gGt_int, gGe_int, gEq_int, gNe_int, gEq_str, gNe_str, gEq_bl, gNe_bl, gIsN_ap, gNotN_ap, isN, ix_0, ix_1, ix_2, gLen_tup, gAbs_int, gInt_int, gInt_bl, gGcd_int, gMin2_int, gMul_int, gFdiv_int, gMod_int, List.map_cons, List.map_nil, List.length_cons, List.length_nil, List.replicate, List.cons_append, List.nil_append, List.append_nil, List.set_cons_zero, List.set_cons_succ, List.isEmpty_cons, List.isEmpty_nil, Nat.reduceSub, Nat.reduceAdd, Nat.reduceLeDiff, if_true, if_false, reduceIte, Bool.false_eq_true, Bool.true_eq_false, Bool.not_true, Bool.not_false, decide_true, decide_false, reduceCtorEq, eq_self, Nat.zero_add, Nat.reduceMul, natLit, Int.reduceEq, Int.reduceNe, Int.reduceLT, Int.reduceLE, c0, c1, c2, c3, e]
theorem call_exc {i : Int} {x y : D} {d : Exc} {nm : Bool} {h h' : Hm} (e : door i [x, y] h = .exc d h') : m_law_call [.int i, x, y, .bl nm] h = .exc d h' := by
  unfold door at e
  unfold m_law_call b_law_call
  by_cases c0 : i = 0
  · rw [if_pos c0] at e; cases nm <;> simp only [bind_ok, bind_exc, toS_ok, toS_exc, sb_nx, sb_rt, sb_bk, sb_ct, sb_exc, oo_some, mSeq_ap, mNext_ap, mBreak_ap, mCont_ap, mRet_ap, mRetN_ap, mExpr_ap, mIfS_ap, kIf_t, kIf_f, mAsg_ap, kAsg_name, kAsg_tup2, mPar_ap, kPar_2, mFor_ap, mRaise_ap, mTry_ap, kTry_nx, kTry_rt, kTry_exc, mFun_ap, fin_nx, fin_rt, fin_exc, mC_ap, mVar_0, mVar_s, mBin_ap, kB1_ap, kB2_ap, mUn_ap, kUn_neg, mNil_ap, mCons_ap, kC1_ap, kC2_ap, mTup_ap, kTup_ap, mLst_ap, kLst_ap, mCall_ap, mPick_ap, kPick_01, kPick_10, mB_ap, kG_ap, mIf_ap, kIfE_t, kIfE_f, mAnd_ap, kAnd_t, kAnd_f, mOr_ap, kOr_t, kOr_f, mNot_ap, kNot_ap, blT_ap, kBlT_ap, mTru_ap, kTru_bl, kTru_non, kTru_int, kTru_tup, mTnot_ap, kTnot_ap, mTand_ap, kTand_t, kTand_f, mTor_ap, kTor_t, kTor_f, mIsi_ap, kIsi_int, kIsi_bl, kIsi_str, kIsi_non, kIsi_tup, isiT, gAdd_int, gSub_int, gLt_int, gLe_int, gGt_int, gGe_int, gEq_int, gNe_int, gEq_str, gNe_str, gEq_bl, gNe_bl, gIsN_ap, gNotN_ap, isN, ix_0, ix_1, ix_2, gLen_tup, gAbs_int, gInt_int, gInt_bl, gGcd_int, gMin2_int, gMul_int, gFdiv_int, gMod_int, List.map_cons, List.map_nil, List.length_cons, List.length_nil, List.replicate, List.cons_append, List.nil_append, List.append_nil, List.set_cons_zero, List.set_cons_succ, List.isEmpty_cons, List.isEmpty_nil, Nat.reduceSub, Nat.reduceAdd, Nat.reduceLeDiff, if_true, if_false, reduceIte, Bool.false_eq_true, Bool.true_eq_false, Bool.not_true, Bool.not_false, decide_true, decide_false, reduceCtorEq, eq_self, Nat.zero_add, Nat.reduceMul, natLit, Int.reduceEq, Int.reduceNe, Int.reduceLT, Int.reduceLE, c0, e]
  · rw [if_neg c0] at e
    by_cases c1 : i = 1
    · rw [if_pos c1] at e; cases nm <;> simp only [bind_ok, bind_exc, toS_ok, toS_exc, sb_nx, sb_rt, sb_bk, sb_ct, sb_exc, oo_some, mSeq_ap, mNext_ap, mBreak_ap, mCont_ap, mRet_ap, mRetN_ap, mExpr_ap, mIfS_ap, kIf_t, kIf_f, mAsg_ap, kAsg_name, kAsg_tup2, mPar_ap, kPar_2, mFor_ap, mRaise_ap, mTry_ap, kTry_nx, kTry_rt, kTry_exc, mFun_ap, fin_nx, fin_rt, fin_exc, mC_ap, mVar_0, mVar_s, mBin_ap, kB1_ap, kB2_ap, mUn_ap, kUn_neg, mNil_ap, mCons_ap, kC1_ap, kC2_ap, mTup_ap, kTup_ap, mLst_ap, kLst_ap, mCall_ap, mPick_ap, kPick_01, kPick_10, mB_ap, kG_ap, mIf_ap, kIfE_t, kIfE_f, mAnd_ap, kAnd_t, kAnd_f, mOr_ap, kOr_t, kOr_f, mNot_ap, kNot_ap, blT_ap, kBlT_ap, mTru_ap, kTru_bl, kTru_non, kTru_int, kTru_tup, mTnot_ap, kTnot_ap, mTand_ap, kTand_t, kTand_f, mTor_ap, kTor_t, kTor_f, mIsi_ap, kIsi_int, kIsi_bl, kIsi_str, kIsi_non, kIsi_tup, isiT, gAdd_int, gSub_int, gLt_int, gLe_int, gGt_int, gGe_int, gEq_int, gNe_int, gEq_str, gNe_str, gEq_bl, gNe_bl, gIsN_ap, gNotN_ap, isN, ix_0, ix_1, ix_2, gLen_tup, gAbs_int, gInt_int, gInt_bl, gGcd_int, gMin2_int, gMul_int, gFdiv_int, gMod_int, List.map_cons, List.map_nil, List.length_cons, List.length_nil, List.replicate, List.cons_append, List.nil_append, List.append_nil, List.set_cons_zero, List.set_cons_succ, List.isEmpty_cons, List.isEmpty_nil, Nat.reduceSub, Nat.reduceAdd, Nat.reduceLeDiff, if_true, if_false, reduceIte, Bool.false_eq_true, Bool.true_eq_false, Bool.not_true, Bool.not_false, decide_true, decide_false, reduceCtorEq, eq_self, Nat.zero_add, Nat.reduceMul, natLit, Int.reduceEq, Int.reduceNe, Int.reduceLT, Int.reduceLE, c1, e]
    · rw [if_neg c1] at e
      by_cases c2 : i = 2
      · rw [if_pos c2] at e; cases nm <;> simp only [bind_ok, bind_exc, toS_ok, toS_exc, sb_nx, sb_rt, sb_bk, sb_ct, sb_exc, oo_some, mSeq_ap, mNext_ap, mBreak_ap, mCont_ap, mRet_ap, mRetN_ap, mExpr_ap, mIfS_ap, kIf_t, kIf_f, mAsg_ap, kAsg_name, kAsg_tup2, mPar_ap, kPar_2, mFor_ap, mRaise_ap, mTry_ap, kTry_nx, kTry_rt, kTry_exc, mFun_ap, fin_nx, fin_rt, fin_exc, mC_ap, mVar_0, mVar_s, mBin_ap, kB1_ap, kB2_ap, mUn_ap, kUn_neg, mNil_ap, mCons_ap, kC1_ap, kC2_ap, mTup_ap, kTup_ap, mLst_ap, kLst_ap, mCall_ap, mPick_ap, kPick_01, kPick_10, mB_ap, kG_ap, mIf_ap, kIfE_t, kIfE_f, mAnd_ap, kAnd_t, kAnd_f, mOr_ap, kOr_t, kOr_f, mNot_ap, kNot_ap, blT_ap, kBlT_ap, mTru_ap, kTru_bl, kTru_non, kTru_int, kTru_tup, mTnot_ap, kTnot_ap, mTand_ap, kTand_t, kTand_f, mTor_ap, kTor_t, kTor_f, mIsi_ap, kIsi_int, kIsi_bl, kIsi_str, kIsi_non, kIsi_tup, isiT, gAdd_int, gSub_int, gLt_int, gLe_int, gGt_int, gGe_int, gEq_int, gNe_int, gEq_str, gNe_str, gEq_bl, gNe_bl, gIsN_ap, gNotN_ap, isN, ix_0, ix_1, ix_2, gLen_tup, gAbs_int, gInt_int, gInt_bl, gGcd_int, gMin2_int, gMul_int, gFdiv_int, gMod_int, List.map_cons, List.map_nil, List.length_cons, List.length_nil, List.replicate, List.cons_append, List.nil_append, List.append_nil, List.set_cons_zero, List.set_cons_succ, List.isEmpty_cons, List.isEmpty_nil, Nat.reduceSub, Nat.reduceAdd, Nat.reduceLeDiff, if_true, if_false, reduceIte, Bool.false_eq_true, Bool.true_eq_false, Bool.not_true, Bool.not_false, decide_true, decide_false, reduceCtorEq, eq_self, Nat.zero_add, Nat.reduceMul, natLit, Int.reduceEq, Int.reduceNe, Int.reduceLT, Int.reduceLE, c2, e]
      · rw [if_neg c2] at e
        by_cases c3 : i = 3
        · rw [if_pos c3] at e; cases nm <;> simp only [bind_ok, bind_exc, toS_ok, toS_exc, sb_nx, sb_rt, sb_bk, sb_ct, sb_exc, oo_some, mSeq_ap, mNext_ap, mBreak_ap, mCont_ap, mRet_ap, mRetN_ap, mExpr_ap, mIfS_ap, kIf_t, kIf_f, mAsg_ap, kAsg_name, kAsg_tup2, mPar_ap, kPar_2, mFor_ap, mRaise_ap, mTry_ap, kTry_nx, kTry_rt, kTry_exc, mFun_ap, fin_nx, fin_rt, fin_exc, mC_ap, mVar_0, mVar_s, mBin_ap, kB1_ap, kB2_ap, mUn_ap, kUn_neg, mNil_ap, mCons_ap, kC1_ap, kC2_ap, mTup_ap, kTup_ap, mLst_ap, kLst_ap, mCall_ap, mPick_ap, kPick_01, kPick_10, mB_ap, kG_ap, mIf_ap, kIfE_t, kIfE_f, mAnd_ap, kAnd_t, kAnd_f, mOr_ap, kOr_t, kOr_f, mNot_ap, kNot_ap, blT_ap, kBlT_ap, mTru_ap, kTru_bl, kTru_non, kTru_int, kTru_tup, mTnot_ap, kTnot_ap, mTand_ap, kTand_t, kTand_f, mTor_ap, kTor_t, kTor_f, mIsi_ap, kIsi_int, kIsi_bl, kIsi_str, kIsi_non, kIsi_tup, isiT, gAdd_int, gSub_int, gLt_int, gLe_int, gGt_int, gGe_int, gEq_int, gNe_int, gEq_str, gNe_str, gEq_bl, gNe_bl, gIsN_ap, gNotN_ap, isN, ix_0, ix_1, ix_2, gLen_tup, gAbs_int, gInt_int, gInt_bl, gGcd_int, gMin2_int, gMul_int, gFdiv_int, gMod_int, List.map_cons, List.map_nil, List.length_cons, List.length_nil, List.replicate, List.cons_append, List.nil_append, List.append_nil, List.set_cons_zero, List.set_cons_succ, List.isEmpty_cons, List.isEmpty_nil, Nat.reduceSub, Nat.reduceAdd, Nat.reduceLeDiff, if_true, if_false, reduceIte, Bool.false_eq_true, Bool.true_eq_false, Bool.not_true, Bool.not_false, decide_true, decide_false, reduceCtorEq, eq_self, Nat.zero_add, Nat.reduceMul, natLit, Int.reduceEq, Int.reduceNe, Int.reduceLT, Int.reduceLE, c3, e]
        · rw [if_neg c3] at e; cases nm <;> simp only [bind_ok, bind_exc, toS_ok, toS_exc, sb_nx, sb_rt, sb_bk, sb_ct, sb_exc, oo_some, mSeq_ap, mNext_ap, mBreak_ap, mCont_ap, mRet_ap, mRetN_ap, mExpr_ap, mIfS_ap, kIf_t, kIf_f, mAsg_ap, kAsg_name, kAsg_tup2, mPar_ap, kPar_2, mFor_ap, mRaise_ap, mTry_ap, kTry_nx, kTry_rt, kTry_exc, mFun_ap, fin_nx, fin_rt, fin_exc, mC_ap, mVar_0, mVar_s, mBin_ap, kB1_ap, kB2_ap, mUn_ap, kUn_neg, mNil_ap, mCons_ap, kC1_ap, kC2_ap, mTup_ap, kTup_ap, mLst_ap, kLst_ap, mCall_ap, mPick_ap, kPick_01, kPick_10, mB_ap, kG_ap, mIf_ap, kIfE_t, kIfE_f, mAnd_ap, kAnd_t, kAnd_f, mOr_ap, kOr_t, kOr_f, mNot_ap, kNot_ap, blT_ap, kBlT_ap, mTru_ap, kTru_bl, kTru_non, kTru_int, kTru_tup, mTnot_ap, kTnot_ap, mTand_ap, kTand_t, kTand_f, mTor_ap, kTor_t, kTor_f, mIsi_ap, kIsi_int, kIsi_bl, kIsi_str, kIsi_non, kIsi_tup, isiT, gAdd_int, gSub_int, gLt_int, gLe_int, gGt_int, gGe_int, gEq_int, gNe_int, gEq_str, gNe_str, gEq_bl, gNe_bl, gIsN_ap, gNotN_ap, isN, ix_0, ix_1, ix_2, gLen_tup, gAbs_int, gInt_int, gInt_bl, gGcd_int, gMin2_int, gMul_int, gFdiv_int, gMod_int, List.map_cons, List.map_nil, List.length_cons, List.length_nil, List.replicate, List.cons_append, List.nil_append, List.append_nil, List.set_cons_zero, List.set_cons_succ, List.isEmpty_cons, List.isEmpty_nil, Nat.reduceSub, Nat.reduceAdd, Nat.reduceLeDiff, if_true, if_false, reduceIte, Bool.false_eq_true, Bool.true_eq_false, Bool.not_true, Bool.not_false, decide_true, decide_false, reduceCtorEq, eq_self, Nat.zero_add, Nat.reduceMul, natLit, Int.reduceEq, Int.reduceNe, Int.reduceLT, Int.reduceLE, c0, c1, c2, c3, e]
theorem told_ok {i : Int} {x y d : D} {nm : Bool} {h h' : Hm} (e : door i [x, y] h = .ok d h') : m_law_told [.int i, x, y, .bl nm] h = .ok d h' := by
  have e' := call_ok (nm := nm) e
  unfold m_law_told b_law_told
  generalize m_law_call = f at e' ⊢
  simp only [bind_ok, bind_exc, toS_ok, toS_exc, sb_nx, sb_rt, sb_bk, sb_ct, sb_exc, oo_some, mSeq_ap, mNext_ap, mBreak_ap, mCont_ap, mRet_ap, mRetN_ap, mExpr_ap, mIfS_ap, kIf_t, kIf_f, mAsg_ap, kAsg_name, kAsg_tup2, mPar_ap, kPar_2, mFor_ap, mRaise_ap, mTry_ap, kTry_nx, kTry_rt, kTry_exc, mFun_ap, fin_nx, fin_rt, fin_exc, mC_ap, mVar_0, mVar_s, mBin_ap, kB1_ap, kB2_ap, mUn_ap, kUn_neg, mNil_ap, mCons_ap, kC1_ap, kC2_ap, mTup_ap, kTup_ap, mLst_ap, kLst_ap, mCall_ap, mPick_ap, kPick_01, kPick_10, mB_ap, kG_ap, mIf_ap, kIfE_t, kIfE_f, mAnd_ap, kAnd_t, kAnd_f, mOr_ap, kOr_t, kOr_f, mNot_ap, kNot_ap, blT_ap, kBlT_ap, mTru_ap, kTru_bl, kTru_non, kTru_int, kTru_tup, mTnot_ap, kTnot_ap, mTand_ap, kTand_t, kTand_f, mTor_ap, kTor_t, kTor_f, mIsi_ap, kIsi_int, kIsi_bl, kIsi_str, kIsi_non, kIsi_tup, isiT, gAdd_int, gSub_int, gLt_int, gLe_int, gGt_int, gGe_int, gEq_int, gNe_int, gEq_str, gNe_str, gEq_bl, gNe_bl, gIsN_ap, gNotN_ap, isN, ix_0, ix_1, ix_2, gLen_tup, gAbs_int, gInt_int, gInt_bl, gGcd_int, gMin2_int, gMul_int, gFdiv_int, gMod_int, List.map_cons, List.map_nil, List.length_cons, List.length_nil, List.replicate, List.cons_append, List.nil_append, List.append_nil, List.set_cons_zero, List.set_cons_succ, List.isEmpty_cons, List.isEmpty_nil, Nat.reduceSub, Nat.reduceAdd, Nat.reduceLeDiff, if_true, if_false, reduceIte, Bool.false_eq_true, Bool.true_eq_false, Bool.not_true, Bool.not_false, decide_true, decide_false, reduceCtorEq, eq_self, Nat.zero_add, Nat.reduceMul, natLit, Int.reduceEq, Int.reduceNe, Int.reduceLT, Int.reduceLE, e']
theorem tab_BB : tab "BadRatio" "BadRatio" = some true := by decide +kernel
theorem tab_ZB : tab "ZeroBottom" "BadRatio" = some false := by decide +kernel
theorem tab_ZZ : tab "ZeroBottom" "ZeroBottom" = some true := by decide +kernel
theorem told_bad {i : Int} {x y : D} {nm : Bool} {h h' : Hm} (e : door i [x, y] h = .exc ⟨"BadRatio", []⟩ h') : m_law_told [.int i, x, y, .bl nm] h = .ok (.str "ratio") h' := by
  have e' := call_exc (nm := nm) e
  have tb := tab_BB
  unfold m_law_told b_law_told
  generalize m_law_call = f at e' ⊢
  generalize tab = t at tb ⊢
  simp only [bind_ok, bind_exc, toS_ok, toS_exc, sb_nx, sb_rt, sb_bk, sb_ct, sb_exc, oo_some, mSeq_ap, mNext_ap, mBreak_ap, mCont_ap, mRet_ap, mRetN_ap, mExpr_ap, mIfS_ap, kIf_t, kIf_f, mAsg_ap, kAsg_name, kAsg_tup2, mPar_ap, kPar_2, mFor_ap, mRaise_ap, mTry_ap, kTry_nx, kTry_rt, kTry_exc, mFun_ap, fin_nx, fin_rt, fin_exc, mC_ap, mVar_0, mVar_s, mBin_ap, kB1_ap, kB2_ap, mUn_ap, kUn_neg, mNil_ap, mCons_ap, kC1_ap, kC2_ap, mTup_ap, kTup_ap, mLst_ap, kLst_ap, mCall_ap, mPick_ap, kPick_01, kPick_10, mB_ap, kG_ap, mIf_ap, kIfE_t, kIfE_f, mAnd_ap, kAnd_t, kAnd_f, mOr_ap, kOr_t, kOr_f, mNot_ap, kNot_ap, blT_ap, kBlT_ap, mTru_ap, kTru_bl, kTru_non, kTru_int, kTru_tup, mTnot_ap, kTnot_ap, mTand_ap, kTand_t, kTand_f, mTor_ap, kTor_t, kTor_f, mIsi_ap, kIsi_int, kIsi_bl, kIsi_str, kIsi_non, kIsi_tup, isiT, gAdd_int, gSub_int, gLt_int, gLe_int, gGt_int, gGe_int, gEq_int, gNe_int, gEq_str, gNe_str, gEq_bl, gNe_bl, gIsN_ap, gNotN_ap, isN, ix_0, ix_1, ix_2, gLen_tup, gAbs_int, gInt_int, gInt_bl, gGcd_int, gMin2_int, gMul_int, gFdiv_int, gMod_int, List.map_cons, List.map_nil, List.length_cons, List.length_nil, List.replicate, List.cons_append, List.nil_append, List.append_nil, List.set_cons_zero, List.set_cons_succ, List.isEmpty_cons, List.isEmpty_nil, Nat.reduceSub, Nat.reduceAdd, Nat.reduceLeDiff, if_true, if_false, reduceIte, Bool.false_eq_true, Bool.true_eq_false, Bool.not_true, Bool.not_false, decide_true, decide_false, reduceCtorEq, eq_self, Nat.zero_add, Nat.reduceMul, natLit, Int.reduceEq, Int.reduceNe, Int.reduceLT, Int.reduceLE, e', hdL, tb]
theorem told_zero {i : Int} {x y : D} {nm : Bool} {h h' : Hm} (e : door i [x, y] h = .exc ⟨"ZeroBottom", []⟩ h') : m_law_told [.int i, x, y, .bl nm] h = .ok (.str "zero") h' := by
  have e' := call_exc (nm := nm) e
  have tb := tab_ZB
  have tz := tab_ZZ
  unfold m_law_told b_law_told
  generalize m_law_call = f at e' ⊢
  generalize tab = t at tb tz ⊢
  simp only [bind_ok, bind_exc, toS_ok, toS_exc, sb_nx, sb_rt, sb_bk, sb_ct, sb_exc, oo_some, mSeq_ap, mNext_ap, mBreak_ap, mCont_ap, mRet_ap, mRetN_ap, mExpr_ap, mIfS_ap, kIf_t, kIf_f, mAsg_ap, kAsg_name, kAsg_tup2, mPar_ap, kPar_2, mFor_ap, mRaise_ap, mTry_ap, kTry_nx, kTry_rt, kTry_exc, mFun_ap, fin_nx, fin_rt, fin_exc, mC_ap, mVar_0, mVar_s, mBin_ap, kB1_ap, kB2_ap, mUn_ap, kUn_neg, mNil_ap, mCons_ap, kC1_ap, kC2_ap, mTup_ap, kTup_ap, mLst_ap, kLst_ap, mCall_ap, mPick_ap, kPick_01, kPick_10, mB_ap, kG_ap, mIf_ap, kIfE_t, kIfE_f, mAnd_ap, kAnd_t, kAnd_f, mOr_ap, kOr_t, kOr_f, mNot_ap, kNot_ap, blT_ap, kBlT_ap, mTru_ap, kTru_bl, kTru_non, kTru_int, kTru_tup, mTnot_ap, kTnot_ap, mTand_ap, kTand_t, kTand_f, mTor_ap, kTor_t, kTor_f, mIsi_ap, kIsi_int, kIsi_bl, kIsi_str, kIsi_non, kIsi_tup, isiT, gAdd_int, gSub_int, gLt_int, gLe_int, gGt_int, gGe_int, gEq_int, gNe_int, gEq_str, gNe_str, gEq_bl, gNe_bl, gIsN_ap, gNotN_ap, isN, ix_0, ix_1, ix_2, gLen_tup, gAbs_int, gInt_int, gInt_bl, gGcd_int, gMin2_int, gMul_int, gFdiv_int, gMod_int, List.map_cons, List.map_nil, List.length_cons, List.length_nil, List.replicate, List.cons_append, List.nil_append, List.append_nil, List.set_cons_zero, List.set_cons_succ, List.isEmpty_cons, List.isEmpty_nil, Nat.reduceSub, Nat.reduceAdd, Nat.reduceLeDiff, if_true, if_false, reduceIte, Bool.false_eq_true, Bool.true_eq_false, Bool.not_true, Bool.not_false, decide_true, decide_false, reduceCtorEq, eq_self, Nat.zero_add, Nat.reduceMul, natLit, Int.reduceEq, Int.reduceNe, Int.reduceLT, Int.reduceLE, e', hdL, tb, tz]
theorem need_bad {x : D} {h : Hm} (b : Bad x h) : m_need_ratio [x] h = .exc ⟨"BadRatio", []⟩ h := need_ratio_no b
theorem door_bad1 {i : Int} {x y : D} {h : Hm} (b : Bad x h) : door i [x, y] h = .exc ⟨"BadRatio", []⟩ h := by
  have nb := need_bad b
  unfold door
  split
  · unfold m_plus b_plus; simp only [bind_ok, bind_exc, toS_ok, toS_exc, sb_nx, sb_rt, sb_bk, sb_ct, sb_exc, oo_some, mSeq_ap, mNext_ap, mBreak_ap, mCont_ap, mRet_ap, mRetN_ap, mExpr_ap, mIfS_ap, kIf_t, kIf_f, mAsg_ap, kAsg_name, kAsg_tup2, mPar_ap, kPar_2, mFor_ap, mRaise_ap, mTry_ap, kTry_nx, kTry_rt, kTry_exc, mFun_ap, fin_nx, fin_rt, fin_exc, mC_ap, mVar_0, mVar_s, mBin_ap, kB1_ap, kB2_ap, mUn_ap, kUn_neg, mNil_ap, mCons_ap, kC1_ap, kC2_ap, mTup_ap, kTup_ap, mLst_ap, kLst_ap, mCall_ap, mPick_ap, kPick_01, kPick_10, mB_ap, kG_ap, mIf_ap, kIfE_t, kIfE_f, mAnd_ap, kAnd_t, kAnd_f, mOr_ap, kOr_t, kOr_f, mNot_ap, kNot_ap, blT_ap, kBlT_ap, mTru_ap, kTru_bl, kTru_non, kTru_int, kTru_tup, mTnot_ap, kTnot_ap, mTand_ap, kTand_t, kTand_f, mTor_ap, kTor_t, kTor_f, mIsi_ap, kIsi_int, kIsi_bl, kIsi_str, kIsi_non, kIsi_tup, isiT, gAdd_int, gSub_int, gLt_int, gLe_int, gGt_int, gGe_int, gEq_int, gNe_int, gEq_str, gNe_str, gEq_bl, gNe_bl, gIsN_ap, gNotN_ap, isN, ix_0, ix_1, ix_2, gLen_tup, gAbs_int, gInt_int, gInt_bl, gGcd_int, gMin2_int, gMul_int, gFdiv_int, gMod_int, List.map_cons, List.map_nil, List.length_cons, List.length_nil, List.replicate, List.cons_append, List.nil_append, List.append_nil, List.set_cons_zero, List.set_cons_succ, List.isEmpty_cons, List.isEmpty_nil, Nat.reduceSub, Nat.reduceAdd, Nat.reduceLeDiff, if_true, if_false, reduceIte, Bool.false_eq_true, Bool.true_eq_false, Bool.not_true, Bool.not_false, decide_true, decide_false, reduceCtorEq, eq_self, Nat.zero_add, Nat.reduceMul, natLit, Int.reduceEq, Int.reduceNe, Int.reduceLT, Int.reduceLE, nb]
  · split
    · unfold m_minus b_minus; simp only [bind_ok, bind_exc, toS_ok, toS_exc, sb_nx, sb_rt, sb_bk, sb_ct, sb_exc, oo_some, mSeq_ap, mNext_ap, mBreak_ap, mCont_ap, mRet_ap, mRetN_ap, mExpr_ap, mIfS_ap, kIf_t, kIf_f, mAsg_ap, kAsg_name, kAsg_tup2, mPar_ap, kPar_2, mFor_ap, mRaise_ap, mTry_ap, kTry_nx, kTry_rt, kTry_exc, mFun_ap, fin_nx, fin_rt, fin_exc, mC_ap, mVar_0, mVar_s, mBin_ap, kB1_ap, kB2_ap, mUn_ap, kUn_neg, mNil_ap, mCons_ap, kC1_ap, kC2_ap, mTup_ap, kTup_ap, mLst_ap, kLst_ap, mCall_ap, mPick_ap, kPick_01, kPick_10, mB_ap, kG_ap, mIf_ap, kIfE_t, kIfE_f, mAnd_ap, kAnd_t, kAnd_f, mOr_ap, kOr_t, kOr_f, mNot_ap, kNot_ap, blT_ap, kBlT_ap, mTru_ap, kTru_bl, kTru_non, kTru_int, kTru_tup, mTnot_ap, kTnot_ap, mTand_ap, kTand_t, kTand_f, mTor_ap, kTor_t, kTor_f, mIsi_ap, kIsi_int, kIsi_bl, kIsi_str, kIsi_non, kIsi_tup, isiT, gAdd_int, gSub_int, gLt_int, gLe_int, gGt_int, gGe_int, gEq_int, gNe_int, gEq_str, gNe_str, gEq_bl, gNe_bl, gIsN_ap, gNotN_ap, isN, ix_0, ix_1, ix_2, gLen_tup, gAbs_int, gInt_int, gInt_bl, gGcd_int, gMin2_int, gMul_int, gFdiv_int, gMod_int, List.map_cons, List.map_nil, List.length_cons, List.length_nil, List.replicate, List.cons_append, List.nil_append, List.append_nil, List.set_cons_zero, List.set_cons_succ, List.isEmpty_cons, List.isEmpty_nil, Nat.reduceSub, Nat.reduceAdd, Nat.reduceLeDiff, if_true, if_false, reduceIte, Bool.false_eq_true, Bool.true_eq_false, Bool.not_true, Bool.not_false, decide_true, decide_false, reduceCtorEq, eq_self, Nat.zero_add, Nat.reduceMul, natLit, Int.reduceEq, Int.reduceNe, Int.reduceLT, Int.reduceLE, nb]
    · split
      · unfold m_product b_product; simp only [bind_ok, bind_exc, toS_ok, toS_exc, sb_nx, sb_rt, sb_bk, sb_ct, sb_exc, oo_some, mSeq_ap, mNext_ap, mBreak_ap, mCont_ap, mRet_ap, mRetN_ap, mExpr_ap, mIfS_ap, kIf_t, kIf_f, mAsg_ap, kAsg_name, kAsg_tup2, mPar_ap, kPar_2, mFor_ap, mRaise_ap, mTry_ap, kTry_nx, kTry_rt, kTry_exc, mFun_ap, fin_nx, fin_rt, fin_exc, mC_ap, mVar_0, mVar_s, mBin_ap, kB1_ap, kB2_ap, mUn_ap, kUn_neg, mNil_ap, mCons_ap, kC1_ap, kC2_ap, mTup_ap, kTup_ap, mLst_ap, kLst_ap, mCall_ap, mPick_ap, kPick_01, kPick_10, mB_ap, kG_ap, mIf_ap, kIfE_t, kIfE_f, mAnd_ap, kAnd_t, kAnd_f, mOr_ap, kOr_t, kOr_f, mNot_ap, kNot_ap, blT_ap, kBlT_ap, mTru_ap, kTru_bl, kTru_non, kTru_int, kTru_tup, mTnot_ap, kTnot_ap, mTand_ap, kTand_t, kTand_f, mTor_ap, kTor_t, kTor_f, mIsi_ap, kIsi_int, kIsi_bl, kIsi_str, kIsi_non, kIsi_tup, isiT, gAdd_int, gSub_int, gLt_int, gLe_int, gGt_int, gGe_int, gEq_int, gNe_int, gEq_str, gNe_str, gEq_bl, gNe_bl, gIsN_ap, gNotN_ap, isN, ix_0, ix_1, ix_2, gLen_tup, gAbs_int, gInt_int, gInt_bl, gGcd_int, gMin2_int, gMul_int, gFdiv_int, gMod_int, List.map_cons, List.map_nil, List.length_cons, List.length_nil, List.replicate, List.cons_append, List.nil_append, List.append_nil, List.set_cons_zero, List.set_cons_succ, List.isEmpty_cons, List.isEmpty_nil, Nat.reduceSub, Nat.reduceAdd, Nat.reduceLeDiff, if_true, if_false, reduceIte, Bool.false_eq_true, Bool.true_eq_false, Bool.not_true, Bool.not_false, decide_true, decide_false, reduceCtorEq, eq_self, Nat.zero_add, Nat.reduceMul, natLit, Int.reduceEq, Int.reduceNe, Int.reduceLT, Int.reduceLE, nb]
      · split
        · unfold m_quotient b_quotient; simp only [bind_ok, bind_exc, toS_ok, toS_exc, sb_nx, sb_rt, sb_bk, sb_ct, sb_exc, oo_some, mSeq_ap, mNext_ap, mBreak_ap, mCont_ap, mRet_ap, mRetN_ap, mExpr_ap, mIfS_ap, kIf_t, kIf_f, mAsg_ap, kAsg_name, kAsg_tup2, mPar_ap, kPar_2, mFor_ap, mRaise_ap, mTry_ap, kTry_nx, kTry_rt, kTry_exc, mFun_ap, fin_nx, fin_rt, fin_exc, mC_ap, mVar_0, mVar_s, mBin_ap, kB1_ap, kB2_ap, mUn_ap, kUn_neg, mNil_ap, mCons_ap, kC1_ap, kC2_ap, mTup_ap, kTup_ap, mLst_ap, kLst_ap, mCall_ap, mPick_ap, kPick_01, kPick_10, mB_ap, kG_ap, mIf_ap, kIfE_t, kIfE_f, mAnd_ap, kAnd_t, kAnd_f, mOr_ap, kOr_t, kOr_f, mNot_ap, kNot_ap, blT_ap, kBlT_ap, mTru_ap, kTru_bl, kTru_non, kTru_int, kTru_tup, mTnot_ap, kTnot_ap, mTand_ap, kTand_t, kTand_f, mTor_ap, kTor_t, kTor_f, mIsi_ap, kIsi_int, kIsi_bl, kIsi_str, kIsi_non, kIsi_tup, isiT, gAdd_int, gSub_int, gLt_int, gLe_int, gGt_int, gGe_int, gEq_int, gNe_int, gEq_str, gNe_str, gEq_bl, gNe_bl, gIsN_ap, gNotN_ap, isN, ix_0, ix_1, ix_2, gLen_tup, gAbs_int, gInt_int, gInt_bl, gGcd_int, gMin2_int, gMul_int, gFdiv_int, gMod_int, List.map_cons, List.map_nil, List.length_cons, List.length_nil, List.replicate, List.cons_append, List.nil_append, List.append_nil, List.set_cons_zero, List.set_cons_succ, List.isEmpty_cons, List.isEmpty_nil, Nat.reduceSub, Nat.reduceAdd, Nat.reduceLeDiff, if_true, if_false, reduceIte, Bool.false_eq_true, Bool.true_eq_false, Bool.not_true, Bool.not_false, decide_true, decide_false, reduceCtorEq, eq_self, Nat.zero_add, Nat.reduceMul, natLit, Int.reduceEq, Int.reduceNe, Int.reduceLT, Int.reduceLE, nb]
        · unfold m_below b_below; simp only [bind_ok, bind_exc, toS_ok, toS_exc, sb_nx, sb_rt, sb_bk, sb_ct, sb_exc, oo_some, mSeq_ap, mNext_ap, mBreak_ap, mCont_ap, mRet_ap, mRetN_ap, mExpr_ap, mIfS_ap, kIf_t, kIf_f, mAsg_ap, kAsg_name, kAsg_tup2, mPar_ap, kPar_2, mFor_ap, mRaise_ap, mTry_ap, kTry_nx, kTry_rt, kTry_exc, mFun_ap, fin_nx, fin_rt, fin_exc, mC_ap, mVar_0, mVar_s, mBin_ap, kB1_ap, kB2_ap, mUn_ap, kUn_neg, mNil_ap, mCons_ap, kC1_ap, kC2_ap, mTup_ap, kTup_ap, mLst_ap, kLst_ap, mCall_ap, mPick_ap, kPick_01, kPick_10, mB_ap, kG_ap, mIf_ap, kIfE_t, kIfE_f, mAnd_ap, kAnd_t, kAnd_f, mOr_ap, kOr_t, kOr_f, mNot_ap, kNot_ap, blT_ap, kBlT_ap, mTru_ap, kTru_bl, kTru_non, kTru_int, kTru_tup, mTnot_ap, kTnot_ap, mTand_ap, kTand_t, kTand_f, mTor_ap, kTor_t, kTor_f, mIsi_ap, kIsi_int, kIsi_bl, kIsi_str, kIsi_non, kIsi_tup, isiT, gAdd_int, gSub_int, gLt_int, gLe_int, gGt_int, gGe_int, gEq_int, gNe_int, gEq_str, gNe_str, gEq_bl, gNe_bl, gIsN_ap, gNotN_ap, isN, ix_0, ix_1, ix_2, gLen_tup, gAbs_int, gInt_int, gInt_bl, gGcd_int, gMin2_int, gMul_int, gFdiv_int, gMod_int, List.map_cons, List.map_nil, List.length_cons, List.length_nil, List.replicate, List.cons_append, List.nil_append, List.append_nil, List.set_cons_zero, List.set_cons_succ, List.isEmpty_cons, List.isEmpty_nil, Nat.reduceSub, Nat.reduceAdd, Nat.reduceLeDiff, if_true, if_false, reduceIte, Bool.false_eq_true, Bool.true_eq_false, Bool.not_true, Bool.not_false, decide_true, decide_false, reduceCtorEq, eq_self, Nat.zero_add, Nat.reduceMul, natLit, Int.reduceEq, Int.reduceNe, Int.reduceLT, Int.reduceLE, nb]
theorem door_bad2 {i : Int} {a : Int × Int} {y : D} {h : Hm} (N : Norm a) (b : Bad y h) : door i [pr a, y] h = .exc ⟨"BadRatio", []⟩ h := by
  have nb := need_bad b
  have na := need_ratio_pr N h
  unfold door
  split
  · unfold m_plus b_plus; simp only [bind_ok, bind_exc, toS_ok, toS_exc, sb_nx, sb_rt, sb_bk, sb_ct, sb_exc, oo_some, mSeq_ap, mNext_ap, mBreak_ap, mCont_ap, mRet_ap, mRetN_ap, mExpr_ap, mIfS_ap, kIf_t, kIf_f, mAsg_ap, kAsg_name, kAsg_tup2, mPar_ap, kPar_2, mFor_ap, mRaise_ap, mTry_ap, kTry_nx, kTry_rt, kTry_exc, mFun_ap, fin_nx, fin_rt, fin_exc, mC_ap, mVar_0, mVar_s, mBin_ap, kB1_ap, kB2_ap, mUn_ap, kUn_neg, mNil_ap, mCons_ap, kC1_ap, kC2_ap, mTup_ap, kTup_ap, mLst_ap, kLst_ap, mCall_ap, mPick_ap, kPick_01, kPick_10, mB_ap, kG_ap, mIf_ap, kIfE_t, kIfE_f, mAnd_ap, kAnd_t, kAnd_f, mOr_ap, kOr_t, kOr_f, mNot_ap, kNot_ap, blT_ap, kBlT_ap, mTru_ap, kTru_bl, kTru_non, kTru_int, kTru_tup, mTnot_ap, kTnot_ap, mTand_ap, kTand_t, kTand_f, mTor_ap, kTor_t, kTor_f, mIsi_ap, kIsi_int, kIsi_bl, kIsi_str, kIsi_non, kIsi_tup, isiT, gAdd_int, gSub_int, gLt_int, gLe_int, gGt_int, gGe_int, gEq_int, gNe_int, gEq_str, gNe_str, gEq_bl, gNe_bl, gIsN_ap, gNotN_ap, isN, ix_0, ix_1, ix_2, gLen_tup, gAbs_int, gInt_int, gInt_bl, gGcd_int, gMin2_int, gMul_int, gFdiv_int, gMod_int, List.map_cons, List.map_nil, List.length_cons, List.length_nil, List.replicate, List.cons_append, List.nil_append, List.append_nil, List.set_cons_zero, List.set_cons_succ, List.isEmpty_cons, List.isEmpty_nil, Nat.reduceSub, Nat.reduceAdd, Nat.reduceLeDiff, if_true, if_false, reduceIte, Bool.false_eq_true, Bool.true_eq_false, Bool.not_true, Bool.not_false, decide_true, decide_false, reduceCtorEq, eq_self, Nat.zero_add, Nat.reduceMul, natLit, Int.reduceEq, Int.reduceNe, Int.reduceLT, Int.reduceLE, na, nb]
  · split
    · unfold m_minus b_minus; simp only [bind_ok, bind_exc, toS_ok, toS_exc, sb_nx, sb_rt, sb_bk, sb_ct, sb_exc, oo_some, mSeq_ap, mNext_ap, mBreak_ap, mCont_ap, mRet_ap, mRetN_ap, mExpr_ap, mIfS_ap, kIf_t, kIf_f, mAsg_ap, kAsg_name, kAsg_tup2, mPar_ap, kPar_2, mFor_ap, mRaise_ap, mTry_ap, kTry_nx, kTry_rt, kTry_exc, mFun_ap, fin_nx, fin_rt, fin_exc, mC_ap, mVar_0, mVar_s, mBin_ap, kB1_ap, kB2_ap, mUn_ap, kUn_neg, mNil_ap, mCons_ap, kC1_ap, kC2_ap, mTup_ap, kTup_ap, mLst_ap, kLst_ap, mCall_ap, mPick_ap, kPick_01, kPick_10, mB_ap, kG_ap, mIf_ap, kIfE_t, kIfE_f, mAnd_ap, kAnd_t, kAnd_f, mOr_ap, kOr_t, kOr_f, mNot_ap, kNot_ap, blT_ap, kBlT_ap, mTru_ap, kTru_bl, kTru_non, kTru_int, kTru_tup, mTnot_ap, kTnot_ap, mTand_ap, kTand_t, kTand_f, mTor_ap, kTor_t, kTor_f, mIsi_ap, kIsi_int, kIsi_bl, kIsi_str, kIsi_non, kIsi_tup, isiT, gAdd_int, gSub_int, gLt_int, gLe_int, gGt_int, gGe_int, gEq_int, gNe_int, gEq_str, gNe_str, gEq_bl, gNe_bl, gIsN_ap, gNotN_ap, isN, ix_0, ix_1, ix_2, gLen_tup, gAbs_int, gInt_int, gInt_bl, gGcd_int, gMin2_int, gMul_int, gFdiv_int, gMod_int, List.map_cons, List.map_nil, List.length_cons, List.length_nil, List.replicate, List.cons_append, List.nil_append, List.append_nil, List.set_cons_zero, List.set_cons_succ, List.isEmpty_cons, List.isEmpty_nil, Nat.reduceSub, Nat.reduceAdd, Nat.reduceLeDiff, if_true, if_false, reduceIte, Bool.false_eq_true, Bool.true_eq_false, Bool.not_true, Bool.not_false, decide_true, decide_false, reduceCtorEq, eq_self, Nat.zero_add, Nat.reduceMul, natLit, Int.reduceEq, Int.reduceNe, Int.reduceLT, Int.reduceLE, na, nb]
    · split
      · unfold m_product b_product; simp only [bind_ok, bind_exc, toS_ok, toS_exc, sb_nx, sb_rt, sb_bk, sb_ct, sb_exc, oo_some, mSeq_ap, mNext_ap, mBreak_ap, mCont_ap, mRet_ap, mRetN_ap, mExpr_ap, mIfS_ap, kIf_t, kIf_f, mAsg_ap, kAsg_name, kAsg_tup2, mPar_ap, kPar_2, mFor_ap, mRaise_ap, mTry_ap, kTry_nx, kTry_rt, kTry_exc, mFun_ap, fin_nx, fin_rt, fin_exc, mC_ap, mVar_0, mVar_s, mBin_ap, kB1_ap, kB2_ap, mUn_ap, kUn_neg, mNil_ap, mCons_ap, kC1_ap, kC2_ap, mTup_ap, kTup_ap, mLst_ap, kLst_ap, mCall_ap, mPick_ap, kPick_01, kPick_10, mB_ap, kG_ap, mIf_ap, kIfE_t, kIfE_f, mAnd_ap, kAnd_t, kAnd_f, mOr_ap, kOr_t, kOr_f, mNot_ap, kNot_ap, blT_ap, kBlT_ap, mTru_ap, kTru_bl, kTru_non, kTru_int, kTru_tup, mTnot_ap, kTnot_ap, mTand_ap, kTand_t, kTand_f, mTor_ap, kTor_t, kTor_f, mIsi_ap, kIsi_int, kIsi_bl, kIsi_str, kIsi_non, kIsi_tup, isiT, gAdd_int, gSub_int, gLt_int, gLe_int, gGt_int, gGe_int, gEq_int, gNe_int, gEq_str, gNe_str, gEq_bl, gNe_bl, gIsN_ap, gNotN_ap, isN, ix_0, ix_1, ix_2, gLen_tup, gAbs_int, gInt_int, gInt_bl, gGcd_int, gMin2_int, gMul_int, gFdiv_int, gMod_int, List.map_cons, List.map_nil, List.length_cons, List.length_nil, List.replicate, List.cons_append, List.nil_append, List.append_nil, List.set_cons_zero, List.set_cons_succ, List.isEmpty_cons, List.isEmpty_nil, Nat.reduceSub, Nat.reduceAdd, Nat.reduceLeDiff, if_true, if_false, reduceIte, Bool.false_eq_true, Bool.true_eq_false, Bool.not_true, Bool.not_false, decide_true, decide_false, reduceCtorEq, eq_self, Nat.zero_add, Nat.reduceMul, natLit, Int.reduceEq, Int.reduceNe, Int.reduceLT, Int.reduceLE, na, nb]
      · split
        · unfold m_quotient b_quotient; simp only [bind_ok, bind_exc, toS_ok, toS_exc, sb_nx, sb_rt, sb_bk, sb_ct, sb_exc, oo_some, mSeq_ap, mNext_ap, mBreak_ap, mCont_ap, mRet_ap, mRetN_ap, mExpr_ap, mIfS_ap, kIf_t, kIf_f, mAsg_ap, kAsg_name, kAsg_tup2, mPar_ap, kPar_2, mFor_ap, mRaise_ap, mTry_ap, kTry_nx, kTry_rt, kTry_exc, mFun_ap, fin_nx, fin_rt, fin_exc, mC_ap, mVar_0, mVar_s, mBin_ap, kB1_ap, kB2_ap, mUn_ap, kUn_neg, mNil_ap, mCons_ap, kC1_ap, kC2_ap, mTup_ap, kTup_ap, mLst_ap, kLst_ap, mCall_ap, mPick_ap, kPick_01, kPick_10, mB_ap, kG_ap, mIf_ap, kIfE_t, kIfE_f, mAnd_ap, kAnd_t, kAnd_f, mOr_ap, kOr_t, kOr_f, mNot_ap, kNot_ap, blT_ap, kBlT_ap, mTru_ap, kTru_bl, kTru_non, kTru_int, kTru_tup, mTnot_ap, kTnot_ap, mTand_ap, kTand_t, kTand_f, mTor_ap, kTor_t, kTor_f, mIsi_ap, kIsi_int, kIsi_bl, kIsi_str, kIsi_non, kIsi_tup, isiT, gAdd_int, gSub_int, gLt_int, gLe_int, gGt_int, gGe_int, gEq_int, gNe_int, gEq_str, gNe_str, gEq_bl, gNe_bl, gIsN_ap, gNotN_ap, isN, ix_0, ix_1, ix_2, gLen_tup, gAbs_int, gInt_int, gInt_bl, gGcd_int, gMin2_int, gMul_int, gFdiv_int, gMod_int, List.map_cons, List.map_nil, List.length_cons, List.length_nil, List.replicate, List.cons_append, List.nil_append, List.append_nil, List.set_cons_zero, List.set_cons_succ, List.isEmpty_cons, List.isEmpty_nil, Nat.reduceSub, Nat.reduceAdd, Nat.reduceLeDiff, if_true, if_false, reduceIte, Bool.false_eq_true, Bool.true_eq_false, Bool.not_true, Bool.not_false, decide_true, decide_false, reduceCtorEq, eq_self, Nat.zero_add, Nat.reduceMul, natLit, Int.reduceEq, Int.reduceNe, Int.reduceLT, Int.reduceLE, na, nb]
        · unfold m_below b_below; simp only [bind_ok, bind_exc, toS_ok, toS_exc, sb_nx, sb_rt, sb_bk, sb_ct, sb_exc, oo_some, mSeq_ap, mNext_ap, mBreak_ap, mCont_ap, mRet_ap, mRetN_ap, mExpr_ap, mIfS_ap, kIf_t, kIf_f, mAsg_ap, kAsg_name, kAsg_tup2, mPar_ap, kPar_2, mFor_ap, mRaise_ap, mTry_ap, kTry_nx, kTry_rt, kTry_exc, mFun_ap, fin_nx, fin_rt, fin_exc, mC_ap, mVar_0, mVar_s, mBin_ap, kB1_ap, kB2_ap, mUn_ap, kUn_neg, mNil_ap, mCons_ap, kC1_ap, kC2_ap, mTup_ap, kTup_ap, mLst_ap, kLst_ap, mCall_ap, mPick_ap, kPick_01, kPick_10, mB_ap, kG_ap, mIf_ap, kIfE_t, kIfE_f, mAnd_ap, kAnd_t, kAnd_f, mOr_ap, kOr_t, kOr_f, mNot_ap, kNot_ap, blT_ap, kBlT_ap, mTru_ap, kTru_bl, kTru_non, kTru_int, kTru_tup, mTnot_ap, kTnot_ap, mTand_ap, kTand_t, kTand_f, mTor_ap, kTor_t, kTor_f, mIsi_ap, kIsi_int, kIsi_bl, kIsi_str, kIsi_non, kIsi_tup, isiT, gAdd_int, gSub_int, gLt_int, gLe_int, gGt_int, gGe_int, gEq_int, gNe_int, gEq_str, gNe_str, gEq_bl, gNe_bl, gIsN_ap, gNotN_ap, isN, ix_0, ix_1, ix_2, gLen_tup, gAbs_int, gInt_int, gInt_bl, gGcd_int, gMin2_int, gMul_int, gFdiv_int, gMod_int, List.map_cons, List.map_nil, List.length_cons, List.length_nil, List.replicate, List.cons_append, List.nil_append, List.append_nil, List.set_cons_zero, List.set_cons_succ, List.isEmpty_cons, List.isEmpty_nil, Nat.reduceSub, Nat.reduceAdd, Nat.reduceLeDiff, if_true, if_false, reduceIte, Bool.false_eq_true, Bool.true_eq_false, Bool.not_true, Bool.not_false, decide_true, decide_false, reduceCtorEq, eq_self, Nat.zero_add, Nat.reduceMul, natLit, Int.reduceEq, Int.reduceNe, Int.reduceLT, Int.reduceLE, na, nb]
/-! ### what is due -/
theorem kAsg_nest {fr : Fr} {h : Hm} {x y u v : D} : kAsg (mgTup 2 (mgCons (mgTup 2 (mgCons (mgName 3) (mgCons (mgName 4) mgNil))) (mgCons (mgTup 2 (mgCons (mgName 5) (mgCons (mgName 6) mgNil))) mgNil))) fr (.tup [.tup [x, y], .tup [u, v]]) h = .nx ((((fr.set 3 (some x)).set 4 (some y)).set 5 (some u)).set 6 (some v)) h := rfl
def vDoor (i : Int) (a b : Int × Int) : Int × Int := if i = 0 then vPlus a b else if i = 1 then vMinus a b else if i = 2 then vProd a b else vQuot a b
section
variable {a b : Int × Int} (ha : Norm a) (hb : Norm b) (sa : Sm 210 a) (sb : Sm 210 b) (h : Hm)
include ha hb sa sb
theorem mul5 : ∀ x y : Int, x.natAbs < 2 ^ 500 → y.natAbs < 2 ^ 500 → mulC x y = true := fun x y hx hy => mulC_of hx hy
theorem due_01 {i : Int} (hi : i = 0 ∨ i = 1) : m_law_due [.int i, pr a, pr b] h = .ok (pr (vDoor i a b)) h := by
  have a1 := lt_mono sa.1 (show 210 ≤ 500 by omega)
  have a2 := lt_mono sa.2 (show 210 ≤ 500 by omega)
  have b1 := lt_mono sb.1 (show 210 ≤ 500 by omega)
  have b2 := lt_mono sb.2 (show 210 ≤ 500 by omega)
  have k1 : mulC a.1 b.2 = true := mulC_of a1 b2
  have k2 : mulC b.1 a.2 = true := mulC_of b1 a2
  have k3 : mulC a.2 b.2 = true := mulC_of a2 b2
  have hii : mulC 2 i = true := mulC_l (by decide)
  have k4 : mulC (b.1 * a.2) (1 - 2 * i) = true := mulC_r (by omega)
  have hlt : i < 2 := by omega
  have s := lt_mono (mul_lt sa.2 sb.2) (m := 8000) (by omega)
  have e := short_eq (t := a.1 * b.2 + b.1 * a.2 * (1 - 2 * i)) (bottom_ne ha hb) s h
  have v : norm (a.1 * b.2 + b.1 * a.2 * (1 - 2 * i)) (a.2 * b.2) = vDoor i a b := by
    rcases hi with q | q <;> subst q
    · simp [vDoor, vPlus]
    · simp only [vDoor, vMinus]
      rw [show b.1 * a.2 * (1 - 2 * 1) = -(b.1 * a.2) by omega, ← Int.sub_eq_add_neg]
      rfl
  rw [v] at e
  unfold m_law_due b_law_due
  generalize m_law_short = f at e ⊢
  simp only [bind_ok, bind_exc, toS_ok, toS_exc, sb_nx, sb_rt, sb_bk, sb_ct, sb_exc, oo_some, mSeq_ap, mNext_ap, mBreak_ap, mCont_ap, mRet_ap, mRetN_ap, mExpr_ap, mIfS_ap, kIf_t, kIf_f, mAsg_ap, kAsg_name, kAsg_tup2, mPar_ap, kPar_2, mFor_ap, mRaise_ap, mTry_ap, kTry_nx, kTry_rt, kTry_exc, mFun_ap, fin_nx, fin_rt, fin_exc, mC_ap, mVar_0, mVar_s, mBin_ap, kB1_ap, kB2_ap, mUn_ap, kUn_neg, mNil_ap, mCons_ap, kC1_ap, kC2_ap, mTup_ap, kTup_ap, mLst_ap, kLst_ap, mCall_ap, mPick_ap, kPick_01, kPick_10, mB_ap, kG_ap, mIf_ap, kIfE_t, kIfE_f, mAnd_ap, kAnd_t, kAnd_f, mOr_ap, kOr_t, kOr_f, mNot_ap, kNot_ap, blT_ap, kBlT_ap, mTru_ap, kTru_bl, kTru_non, kTru_int, kTru_tup, mTnot_ap, kTnot_ap, mTand_ap, kTand_t, kTand_f, mTor_ap, kTor_t, kTor_f, mIsi_ap, kIsi_int, kIsi_bl, kIsi_str, kIsi_non, kIsi_tup, isiT, gAdd_int, gSub_int, gLt_int, gLe_int, gGt_int, gGe_int, gEq_int, gNe_int, gEq_str, gNe_str, gEq_bl, gNe_bl, gIsN_ap, gNotN_ap, isN, ix_0, ix_1, ix_2, gLen_tup, gAbs_int, gInt_int, gInt_bl, gGcd_int, gMin2_int, gMul_int, gFdiv_int, gMod_int, List.map_cons, List.map_nil, List.length_cons, List.length_nil, List.replicate, List.cons_append, List.nil_append, List.append_nil, List.set_cons_zero, List.set_cons_succ, List.isEmpty_cons, List.isEmpty_nil, Nat.reduceSub, Nat.reduceAdd, Nat.reduceLeDiff, if_true, if_false, reduceIte, Bool.false_eq_true, Bool.true_eq_false, Bool.not_true, Bool.not_false, decide_true, decide_false, reduceCtorEq, eq_self, Nat.zero_add, Nat.reduceMul, natLit, Int.reduceEq, Int.reduceNe, Int.reduceLT, Int.reduceLE, kAsg_nest, hlt, gMul_int k1, gMul_int k2, gMul_int k3, gMul_int hii, gMul_int k4, e]
theorem due_2 : m_law_due [.int 2, pr a, pr b] h = .ok (pr (vDoor 2 a b)) h := by
  have a1 := lt_mono sa.1 (show 210 ≤ 500 by omega)
  have a2 := lt_mono sa.2 (show 210 ≤ 500 by omega)
  have b1 := lt_mono sb.1 (show 210 ≤ 500 by omega)
  have b2 := lt_mono sb.2 (show 210 ≤ 500 by omega)
  have k1 : mulC a.1 b.1 = true := mulC_of a1 b1
  have k3 : mulC a.2 b.2 = true := mulC_of a2 b2
  have s := lt_mono (mul_lt sa.2 sb.2) (m := 8000) (by omega)
  have e := short_eq (t := a.1 * b.1) (bottom_ne ha hb) s h
  have v : norm (a.1 * b.1) (a.2 * b.2) = vDoor 2 a b := rfl
  rw [v] at e
  unfold m_law_due b_law_due
  generalize m_law_short = f at e ⊢
  simp only [bind_ok, bind_exc, toS_ok, toS_exc, sb_nx, sb_rt, sb_bk, sb_ct, sb_exc, oo_some, mSeq_ap, mNext_ap, mBreak_ap, mCont_ap, mRet_ap, mRetN_ap, mExpr_ap, mIfS_ap, kIf_t, kIf_f, mAsg_ap, kAsg_name, kAsg_tup2, mPar_ap, kPar_2, mFor_ap, mRaise_ap, mTry_ap, kTry_nx, kTry_rt, kTry_exc, mFun_ap, fin_nx, fin_rt, fin_exc, mC_ap, mVar_0, mVar_s, mBin_ap, kB1_ap, kB2_ap, mUn_ap, kUn_neg, mNil_ap, mCons_ap, kC1_ap, kC2_ap, mTup_ap, kTup_ap, mLst_ap, kLst_ap, mCall_ap, mPick_ap, kPick_01, kPick_10, mB_ap, kG_ap, mIf_ap, kIfE_t, kIfE_f, mAnd_ap, kAnd_t, kAnd_f, mOr_ap, kOr_t, kOr_f, mNot_ap, kNot_ap, blT_ap, kBlT_ap, mTru_ap, kTru_bl, kTru_non, kTru_int, kTru_tup, mTnot_ap, kTnot_ap, mTand_ap, kTand_t, kTand_f, mTor_ap, kTor_t, kTor_f, mIsi_ap, kIsi_int, kIsi_bl, kIsi_str, kIsi_non, kIsi_tup, isiT, gAdd_int, gSub_int, gLt_int, gLe_int, gGt_int, gGe_int, gEq_int, gNe_int, gEq_str, gNe_str, gEq_bl, gNe_bl, gIsN_ap, gNotN_ap, isN, ix_0, ix_1, ix_2, gLen_tup, gAbs_int, gInt_int, gInt_bl, gGcd_int, gMin2_int, gMul_int, gFdiv_int, gMod_int, List.map_cons, List.map_nil, List.length_cons, List.length_nil, List.replicate, List.cons_append, List.nil_append, List.append_nil, List.set_cons_zero, List.set_cons_succ, List.isEmpty_cons, List.isEmpty_nil, Nat.reduceSub, Nat.reduceAdd, Nat.reduceLeDiff, if_true, if_false, reduceIte, Bool.false_eq_true, Bool.true_eq_false, Bool.not_true, Bool.not_false, decide_true, decide_false, reduceCtorEq, eq_self, Nat.zero_add, Nat.reduceMul, natLit, Int.reduceEq, Int.reduceNe, Int.reduceLT, Int.reduceLE, kAsg_nest, gMul_int k1, gMul_int k3, e]
theorem due_3 : m_law_due [.int 3, pr a, pr b] h = if b.1 = 0 then .ok (.str "zero") h else .ok (pr (vDoor 3 a b)) h := by
  have a1 := lt_mono sa.1 (show 210 ≤ 500 by omega)
  have a2 := lt_mono sa.2 (show 210 ≤ 500 by omega)
  have b1 := lt_mono sb.1 (show 210 ≤ 500 by omega)
  have b2 := lt_mono sb.2 (show 210 ≤ 500 by omega)
  have k1 : mulC a.1 b.2 = true := mulC_of a1 b2
  have k3 : mulC a.2 b.1 = true := mulC_of a2 b1
  unfold m_law_due b_law_due
  by_cases c : b.1 = 0
  · generalize m_law_short = f
    simp only [bind_ok, bind_exc, toS_ok, toS_exc, sb_nx, sb_rt, sb_bk, sb_ct, sb_exc, oo_some, mSeq_ap, mNext_ap, mBreak_ap, mCont_ap, mRet_ap, mRetN_ap, mExpr_ap, mIfS_ap, kIf_t, kIf_f, mAsg_ap, kAsg_name, kAsg_tup2, mPar_ap, kPar_2, mFor_ap, mRaise_ap, mTry_ap, kTry_nx, kTry_rt, kTry_exc, mFun_ap, fin_nx, fin_rt, fin_exc, mC_ap, mVar_0, mVar_s, mBin_ap, kB1_ap, kB2_ap, mUn_ap, kUn_neg, mNil_ap, mCons_ap, kC1_ap, kC2_ap, mTup_ap, kTup_ap, mLst_ap, kLst_ap, mCall_ap, mPick_ap, kPick_01, kPick_10, mB_ap, kG_ap, mIf_ap, kIfE_t, kIfE_f, mAnd_ap, kAnd_t, kAnd_f, mOr_ap, kOr_t, kOr_f, mNot_ap, kNot_ap, blT_ap, kBlT_ap, mTru_ap, kTru_bl, kTru_non, kTru_int, kTru_tup, mTnot_ap, kTnot_ap, mTand_ap, kTand_t, kTand_f, mTor_ap, kTor_t, kTor_f, mIsi_ap, kIsi_int, kIsi_bl, kIsi_str, kIsi_non, kIsi_tup, isiT, gAdd_int, gSub_int, gLt_int, gLe_int, gGt_int, gGe_int, gEq_int, gNe_int, gEq_str, gNe_str, gEq_bl, gNe_bl, gIsN_ap, gNotN_ap, isN, ix_0, ix_1, ix_2, gLen_tup, gAbs_int, gInt_int, gInt_bl, gGcd_int, gMin2_int, gMul_int, gFdiv_int, gMod_int, List.map_cons, List.map_nil, List.length_cons, List.length_nil, List.replicate, List.cons_append, List.nil_append, List.append_nil, List.set_cons_zero, List.set_cons_succ, List.isEmpty_cons, List.isEmpty_nil, Nat.reduceSub, Nat.reduceAdd, Nat.reduceLeDiff, if_true, if_false, reduceIte, Bool.false_eq_true, Bool.true_eq_false, Bool.not_true, Bool.not_false, decide_true, decide_false, reduceCtorEq, eq_self, Nat.zero_add, Nat.reduceMul, natLit, Int.reduceEq, Int.reduceNe, Int.reduceLT, Int.reduceLE, kAsg_nest, c]
  · have s := lt_mono (mul_lt sa.2 sb.1) (m := 8000) (by omega)
    have z : a.2 * b.1 ≠ 0 := by have := ha.pos; exact Int.mul_ne_zero (by omega) c
    have e := short_eq (t := a.1 * b.2) z s h
    have v : norm (a.1 * b.2) (a.2 * b.1) = vDoor 3 a b := rfl
    rw [v] at e
    generalize m_law_short = f at e ⊢
    simp only [bind_ok, bind_exc, toS_ok, toS_exc, sb_nx, sb_rt, sb_bk, sb_ct, sb_exc, oo_some, mSeq_ap, mNext_ap, mBreak_ap, mCont_ap, mRet_ap, mRetN_ap, mExpr_ap, mIfS_ap, kIf_t, kIf_f, mAsg_ap, kAsg_name, kAsg_tup2, mPar_ap, kPar_2, mFor_ap, mRaise_ap, mTry_ap, kTry_nx, kTry_rt, kTry_exc, mFun_ap, fin_nx, fin_rt, fin_exc, mC_ap, mVar_0, mVar_s, mBin_ap, kB1_ap, kB2_ap, mUn_ap, kUn_neg, mNil_ap, mCons_ap, kC1_ap, kC2_ap, mTup_ap, kTup_ap, mLst_ap, kLst_ap, mCall_ap, mPick_ap, kPick_01, kPick_10, mB_ap, kG_ap, mIf_ap, kIfE_t, kIfE_f, mAnd_ap, kAnd_t, kAnd_f, mOr_ap, kOr_t, kOr_f, mNot_ap, kNot_ap, blT_ap, kBlT_ap, mTru_ap, kTru_bl, kTru_non, kTru_int, kTru_tup, mTnot_ap, kTnot_ap, mTand_ap, kTand_t, kTand_f, mTor_ap, kTor_t, kTor_f, mIsi_ap, kIsi_int, kIsi_bl, kIsi_str, kIsi_non, kIsi_tup, isiT, gAdd_int, gSub_int, gLt_int, gLe_int, gGt_int, gGe_int, gEq_int, gNe_int, gEq_str, gNe_str, gEq_bl, gNe_bl, gIsN_ap, gNotN_ap, isN, ix_0, ix_1, ix_2, gLen_tup, gAbs_int, gInt_int, gInt_bl, gGcd_int, gMin2_int, gMul_int, gFdiv_int, gMod_int, List.map_cons, List.map_nil, List.length_cons, List.length_nil, List.replicate, List.cons_append, List.nil_append, List.append_nil, List.set_cons_zero, List.set_cons_succ, List.isEmpty_cons, List.isEmpty_nil, Nat.reduceSub, Nat.reduceAdd, Nat.reduceLeDiff, if_true, if_false, reduceIte, Bool.false_eq_true, Bool.true_eq_false, Bool.not_true, Bool.not_false, decide_true, decide_false, reduceCtorEq, eq_self, Nat.zero_add, Nat.reduceMul, natLit, Int.reduceEq, Int.reduceNe, Int.reduceLT, Int.reduceLE, kAsg_nest, c, gMul_int k1, gMul_int k3, e]
/-- told and due, side by side -/
theorem told_due {i : Int} (hi : i = 0 ∨ i = 1 ∨ i = 2 ∨ i = 3) (nm : Bool) : ∃ d, m_law_told [.int i, pr a, pr b, .bl nm] h = .ok d h ∧ m_law_due [.int i, pr a, pr b] h = .ok d h ∧ (d = .str "zero" ∨ ∃ p, d = pr p) := by
  have l : 210 + 210 ≤ 7000 := by omega
  rcases hi with q | q | q | q
  · exact ⟨_, told_ok (d := pr (vDoor i a b)) (by subst q; exact plus_eq ha hb sa sb l h), due_01 ha hb sa sb h (.inl q), .inr ⟨_, rfl⟩⟩
  · exact ⟨_, told_ok (d := pr (vDoor i a b)) (by subst q; exact minus_eq ha hb sa sb l h), due_01 ha hb sa sb h (.inr q), .inr ⟨_, rfl⟩⟩
  · subst q
    exact ⟨_, told_ok (d := pr (vDoor 2 a b)) (product_eq ha hb sa sb l h), due_2 ha hb sa sb h, .inr ⟨_, rfl⟩⟩
  · subst q
    have e1 := quotient_eq ha hb sa sb l h
    have e2 := due_3 ha hb sa sb h
    by_cases c : b.1 = 0
    · rw [if_pos c] at e1 e2
      exact ⟨_, told_zero e1, e2, .inl rfl⟩
    · rw [if_neg c] at e1 e2
      exact ⟨_, told_ok (d := pr (vDoor 3 a b)) e1, e2, .inr ⟨_, rfl⟩⟩
theorem told_4 (nm : Bool) : m_law_told [.int 4, pr a, pr b, .bl nm] h = .ok (.bl (decide (a.1 * b.2 < b.1 * a.2))) h := told_ok (below_eq ha hb sa sb (by omega) h)
end
/-! ### same -/
theorem same_int {n : Nat} {i : Int} {h : Hm} : m_law_same (n + 1) [.int i, .int i] h = .ok (.bl true) h := by
  show mFun 3 (b_law_same (m_law_same n)) _ h = _
  unfold b_law_same
  generalize m_law_same n = f
  simp only [bind_ok, bind_exc, toS_ok, toS_exc, sb_nx, sb_rt, sb_bk, sb_ct, sb_exc, oo_some, mSeq_ap, mNext_ap, mBreak_ap, mCont_ap, mRet_ap, mRetN_ap, mExpr_ap, mIfS_ap, kIf_t, kIf_f, mAsg_ap, kAsg_name, kAsg_tup2, mPar_ap, kPar_2, mFor_ap, mRaise_ap, mTry_ap, kTry_nx, kTry_rt, kTry_exc, mFun_ap, fin_nx, fin_rt, fin_exc, mC_ap, mVar_0, mVar_s, mBin_ap, kB1_ap, kB2_ap, mUn_ap, kUn_neg, mNil_ap, mCons_ap, kC1_ap, kC2_ap, mTup_ap, kTup_ap, mLst_ap, kLst_ap, mCall_ap, mPick_ap, kPick_01, kPick_10, mB_ap, kG_ap, mIf_ap, kIfE_t, kIfE_f, mAnd_ap, kAnd_t, kAnd_f, mOr_ap, kOr_t, kOr_f, mNot_ap, kNot_ap, blT_ap, kBlT_ap, mTru_ap, kTru_bl, kTru_non, kTru_int, kTru_tup, mTnot_ap, kTnot_ap, mTand_ap, kTand_t, kTand_f, mTor_ap, kTor_t, kTor_f, mIsi_ap, kIsi_int, kIsi_bl, kIsi_str, kIsi_non, kIsi_tup, isiT, gAdd_int, gSub_int, gLt_int, gLe_int, gGt_int, gGe_int, gEq_int, gNe_int, gEq_str, gNe_str, gEq_bl, gNe_bl, gIsN_ap, gNotN_ap, isN, ix_0, ix_1, ix_2, gLen_tup, gAbs_int, gInt_int, gInt_bl, gGcd_int, gMin2_int, gMul_int, gFdiv_int, gMod_int, List.map_cons, List.map_nil, List.length_cons, List.length_nil, List.replicate, List.cons_append, List.nil_append, List.append_nil, List.set_cons_zero, List.set_cons_succ, List.isEmpty_cons, List.isEmpty_nil, Nat.reduceSub, Nat.reduceAdd, Nat.reduceLeDiff, if_true, if_false, reduceIte, Bool.false_eq_true, Bool.true_eq_false, Bool.not_true, Bool.not_false, decide_true, decide_false, reduceCtorEq, eq_self, Nat.zero_add, Nat.reduceMul, natLit, Int.reduceEq, Int.reduceNe, Int.reduceLT, Int.reduceLE]
theorem same_str {n : Nat} {i : Str} {h : Hm} : m_law_same (n + 1) [.str i, .str i] h = .ok (.bl true) h := by
  show mFun 3 (b_law_same (m_law_same n)) _ h = _
  unfold b_law_same
  generalize m_law_same n = f
  simp only [bind_ok, bind_exc, toS_ok, toS_exc, sb_nx, sb_rt, sb_bk, sb_ct, sb_exc, oo_some, mSeq_ap, mNext_ap, mBreak_ap, mCont_ap, mRet_ap, mRetN_ap, mExpr_ap, mIfS_ap, kIf_t, kIf_f, mAsg_ap, kAsg_name, kAsg_tup2, mPar_ap, kPar_2, mFor_ap, mRaise_ap, mTry_ap, kTry_nx, kTry_rt, kTry_exc, mFun_ap, fin_nx, fin_rt, fin_exc, mC_ap, mVar_0, mVar_s, mBin_ap, kB1_ap, kB2_ap, mUn_ap, kUn_neg, mNil_ap, mCons_ap, kC1_ap, kC2_ap, mTup_ap, kTup_ap, mLst_ap, kLst_ap, mCall_ap, mPick_ap, kPick_01, kPick_10, mB_ap, kG_ap, mIf_ap, kIfE_t, kIfE_f, mAnd_ap, kAnd_t, kAnd_f, mOr_ap, kOr_t, kOr_f, mNot_ap, kNot_ap, blT_ap, kBlT_ap, mTru_ap, kTru_bl, kTru_non, kTru_int, kTru_tup, mTnot_ap, kTnot_ap, mTand_ap, kTand_t, kTand_f, mTor_ap, kTor_t, kTor_f, mIsi_ap, kIsi_int, kIsi_bl, kIsi_str, kIsi_non, kIsi_tup, isiT, gAdd_int, gSub_int, gLt_int, gLe_int, gGt_int, gGe_int, gEq_int, gNe_int, gEq_str, gNe_str, gEq_bl, gNe_bl, gIsN_ap, gNotN_ap, isN, ix_0, ix_1, ix_2, gLen_tup, gAbs_int, gInt_int, gInt_bl, gGcd_int, gMin2_int, gMul_int, gFdiv_int, gMod_int, List.map_cons, List.map_nil, List.length_cons, List.length_nil, List.replicate, List.cons_append, List.nil_append, List.append_nil, List.set_cons_zero, List.set_cons_succ, List.isEmpty_cons, List.isEmpty_nil, Nat.reduceSub, Nat.reduceAdd, Nat.reduceLeDiff, if_true, if_false, reduceIte, Bool.false_eq_true, Bool.true_eq_false, Bool.not_true, Bool.not_false, decide_true, decide_false, reduceCtorEq, eq_self, Nat.zero_add, Nat.reduceMul, natLit, Int.reduceEq, Int.reduceNe, Int.reduceLT, Int.reduceLE]
theorem gEq_nil {r s : Nat} {h : Hm} (e1 : h[r]? = some (.lst [])) (e2 : h[s]? = some (.lst [])) : gEq (.ref r) (.ref s) h = some (.bl true, h) := by
  simp only [gEq, eqD, eqS, eqP, toP, e1, e2, mapO, Option.map]
  rfl
theorem kTnot_call {f : MFn} {fr : Fr} {h h' : Hm} {x y : D} (e : f [x, y] h = .ok (.bl true) h') (e1 : mVar 0 fr h = .ok (.tup [x]) h) : True := trivial
/-- two pairs whose items are the same -/
theorem same_two {n : Nat} {x y : D} {h h1 h2 : Hm} (hx : ∀ hh, ∃ h', m_law_same n [x, x] hh = .ok (.bl true) h' ∧ Ext hh h') (hy : ∀ hh, ∃ h', m_law_same n [y, y] hh = .ok (.bl true) h' ∧ Ext hh h') :
    ∃ h', m_law_same (n + 1) [.tup [x, y], .tup [x, y]] h = .ok (.bl true) h' ∧ Ext h h' := by
  obtain ⟨h1, e1, x1⟩ := hx (h ++ [O.lst []])
  obtain ⟨h2, e2, x2⟩ := hy h1
  have g0 : h2[h.length]? = some (.lst []) := x2.get (x1.get push_get)
  have x3 : Ext h2 (h2 ++ [O.lst []]) := Ext.push
  have q : gEq (.ref h.length) (.ref h2.length) (h2 ++ [O.lst []]) = some (.bl true, h2 ++ [O.lst []]) := gEq_nil (x3.get g0) push_get
  refine ⟨h2 ++ [O.lst []], ?_, (Ext.push).trans (x1.trans (x2.trans x3))⟩
  show mFun 3 (b_law_same (m_law_same n)) _ h = _
  unfold b_law_same
  generalize m_law_same n = f at *
  have r2 : rngD 0 2 = [.int 0, .int 1] := rfl
  have r62t : r62 2 = true := by decide +kernel
  simp only [bind_ok, bind_exc, toS_ok, toS_exc, sb_nx, sb_rt, sb_bk, sb_ct, sb_exc, oo_some, mSeq_ap, mNext_ap, mBreak_ap, mCont_ap, mRet_ap, mRetN_ap, mExpr_ap, mIfS_ap, kIf_t, kIf_f, mAsg_ap, kAsg_name, kAsg_tup2, mPar_ap, kPar_2, mFor_ap, mRaise_ap, mTry_ap, kTry_nx, kTry_rt, kTry_exc, mFun_ap, fin_nx, fin_rt, fin_exc, mC_ap, mVar_0, mVar_s, mBin_ap, kB1_ap, kB2_ap, mUn_ap, kUn_neg, mNil_ap, mCons_ap, kC1_ap, kC2_ap, mTup_ap, kTup_ap, mLst_ap, kLst_ap, mCall_ap, mPick_ap, kPick_01, kPick_10, mB_ap, kG_ap, mIf_ap, kIfE_t, kIfE_f, mAnd_ap, kAnd_t, kAnd_f, mOr_ap, kOr_t, kOr_f, mNot_ap, kNot_ap, blT_ap, kBlT_ap, mTru_ap, kTru_bl, kTru_non, kTru_int, kTru_tup, mTnot_ap, kTnot_ap, mTand_ap, kTand_t, kTand_f, mTor_ap, kTor_t, kTor_f, mIsi_ap, kIsi_int, kIsi_bl, kIsi_str, kIsi_non, kIsi_tup, isiT, gAdd_int, gSub_int, gLt_int, gLe_int, gGt_int, gGe_int, gEq_int, gNe_int, gEq_str, gNe_str, gEq_bl, gNe_bl, gIsN_ap, gNotN_ap, isN, ix_0, ix_1, ix_2, gLen_tup, gAbs_int, gInt_int, gInt_bl, gGcd_int, gMin2_int, gMul_int, gFdiv_int, gMod_int, List.map_cons, List.map_nil, List.length_cons, List.length_nil, List.replicate, List.cons_append, List.nil_append, List.append_nil, List.set_cons_zero, List.set_cons_succ, List.isEmpty_cons, List.isEmpty_nil, Nat.reduceSub, Nat.reduceAdd, Nat.reduceLeDiff, if_true, if_false, reduceIte, Bool.false_eq_true, Bool.true_eq_false, Bool.not_true, Bool.not_false, decide_true, decide_false, reduceCtorEq, eq_self, Nat.zero_add, Nat.reduceMul, natLit, Int.reduceEq, Int.reduceNe, Int.reduceLT, Int.reduceLE, mLc, mRng1, r2, r62t, lcL, mgName, wipeF, e1, e2, q, Int.toNat]
end K63

set_option Elab.async false
set_option linter.all false
set_option maxRecDepth 100000
set_option maxHeartbeats 1000000
namespace K63
open PySem PySem.Spec PyProof.Rows L2 FM
def P0 : MS := (mAsg (mCall m_law_well (mCons (mVar 0) mNil)) (mgName 1))
def RR : MI := (mRng1 (mCons (mBin gAdd (mC (.int 12)) (mB gMin2 (mCons (mB gLen (mCons (mVar 0) mNil)) (mCons (mC (.int 9)) mNil)))) mNil))
def P1 : MS := (mPar 3 4 (mCons (mCall m_law_ratio (mCons (mVar 1) mNil)) (mCons (mCall m_law_ratio (mCons (mVar 1) mNil)) mNil)))
def P2 : MS := (mAsg (mIf (blT (mBin gEq (mCall m_law_draw (mCons (mVar 1) (mCons (mC (.int 5)) mNil))) (mC (.int 0)))) (mCall m_law_one (mCons (mVar 1) (mCons (mLst (mCons (mVar 3) (mCons (mTup (mCons (mC (.int 0)) (mCons (mC (.int 1)) mNil))) (mCons (mTup (mCons (mUn gNeg (mBin gIx (mVar 3) (mC (.int 0)))) (mCons (mBin gIx (mVar 3) (mC (.int 1))) mNil))) (mCons (mTup (mCons (mBin gAdd (mBin gIx (mVar 3) (mC (.int 0))) (mC (.int 1))) (mCons (mC (.int 1)) mNil))) mNil))))) mNil))) (mVar 4)) (mgName 4))
def P3 : MS := (mAsg (mBin gEq (mCall m_law_draw (mCons (mVar 1) (mCons (mC (.int 2)) mNil))) (mC (.int 0))) (mgName 5))
def P4 : MS := (mFor (mRng1 (mCons (mC (.int 4)) mNil)) (mgName 6) (mIfS (mTnot (mTru truD (mCall (m_law_same 4) (mCons (mCall m_law_told (mCons (mVar 6) (mCons (mVar 3) (mCons (mVar 4) (mCons (mVar 5) mNil))))) (mCons (mCall m_law_due (mCons (mVar 6) (mCons (mVar 3) (mCons (mVar 4) mNil)))) mNil))))) (mRet (mC (.bl false))) mNext))
def P5 : MS := (mAsg (mCall m_law_told (mCons (mC (.int 4)) (mCons (mVar 3) (mCons (mVar 4) (mCons (mVar 5) mNil))))) (mgName 7))
def P6 : MS := (mIfS (mTor (mTnot (mTru truD (mIsi .bool (mVar 7)))) (blT (mBin gNe (mVar 7) (mBin gLt (mBin gMulI (mBin gIx (mVar 3) (mC (.int 0))) (mBin gIx (mVar 4) (mC (.int 1)))) (mBin gMulI (mBin gIx (mVar 4) (mC (.int 0))) (mBin gIx (mVar 3) (mC (.int 1)))))))) (mRet (mC (.bl false))) mNext)
def P7 : MS := (mIfS (mTnot (mTru truD (mCall (m_law_same 4) (mCons (mTup (mCons (mCall m_minus (mCons (mCall m_plus (mCons (mVar 3) (mCons (mVar 4) mNil))) (mCons (mVar 4) mNil))) (mCons (mCall m_plus (mCons (mCall m_minus (mCons (mVar 3) (mCons (mVar 4) mNil))) (mCons (mVar 4) mNil))) mNil))) (mCons (mTup (mCons (mVar 3) (mCons (mVar 3) mNil))) mNil))))) (mRet (mC (.bl false))) mNext)
def P8 : MS := (mIfS (mTand (blT (mBin gNe (mBin gIx (mVar 4) (mC (.int 0))) (mC (.int 0)))) (mTnot (mTru truD (mCall (m_law_same 4) (mCons (mCall m_quotient (mCons (mCall m_product (mCons (mVar 3) (mCons (mVar 4) mNil))) (mCons (mVar 4) mNil))) (mCons (mVar 3) mNil)))))) (mRet (mC (.bl false))) mNext)
def P9 : MS := (mIfS (mTor (mTnot (mTru truD (mCall m_law_ratio_right (mCons (mCall m_law_integer (mCons (mVar 1) mNil)) (mCons (mCall m_law_integer (mCons (mVar 1) mNil)) mNil))))) (mTnot (mTru truD (mCall m_law_ratio_right (mCons (mBin gIx (mVar 3) (mC (.int 0))) (mCons (mC (.int 0)) mNil)))))) (mRet (mC (.bl false))) mNext)
def P10 : MS := (mPar 8 9 (mCons (mCall m_law_none (mCons (mVar 1) (mCons (mVar 3) mNil))) (mCons (mCall m_law_draw (mCons (mVar 1) (mCons (mC (.int 3)) mNil))) mNil)))
def P11 : MS := (mFor (mRng1 (mCons (mC (.int 5)) mNil)) (mgName 6) (mIfS (blT (mBin gNe (mCall m_law_told (mCons (mVar 6) (mCons (mIf (blT (mBin gEq (mVar 9) (mC (.int 0)))) (mVar 4) (mVar 8)) (mCons (mIf (blT (mBin gEq (mVar 9) (mC (.int 1)))) (mVar 3) (mVar 8)) (mCons (mVar 5) mNil))))) (mC (.str "ratio")))) (mRet (mC (.bl false))) mNext))
def TB : MS := (mSeq P1 (mSeq P2 (mSeq P3 (mSeq P4 (mSeq P5 (mSeq P6 (mSeq P7 (mSeq P8 (mSeq P9 (mSeq P10 P11))))))))))
theorem b_law_eq : b_law = mSeq P0 (mSeq (mFor RR (mgName 2) TB) (mRet (mC (.bl true)))) := rfl

/-! ### sameness of what is compared -/
def Alike (n : Nat) (d : D) : Prop := ∀ hh, ∃ h', m_law_same n [d, d] hh = .ok (.bl true) h' ∧ Ext hh h'
theorem alike_int {n : Nat} {i : Int} : Alike (n + 1) (.int i) := fun hh => ⟨hh, same_int, .refl⟩
theorem alike_str {n : Nat} {i : Str} : Alike (n + 1) (.str i) := fun hh => ⟨hh, same_str, .refl⟩
theorem alike_two {n : Nat} {x y : D} (hx : Alike n x) (hy : Alike n y) : Alike (n + 1) (.tup [x, y]) := fun hh => same_two (h := hh) (h1 := hh) (h2 := hh) hx hy
theorem alike_pr {n : Nat} {p : Int × Int} : Alike (n + 2) (pr p) := alike_two alike_int alike_int
theorem Well.push {h h' : Hm} {w c n : Nat} {cells : List Int} (W : Well h w c cells n) (x : Ext h h') : Well h' w c cells n := W.ext x
/-! ### the algebra -/
theorem plus_size {a b : Int × Int} {n : Nat} (ha : Norm a) (hb : Norm b) (sa : Sm n a) (sb : Sm n b) : Sm (n + n + 1) (vPlus a b) := by
  have := norm_size (t := a.1 * b.2 + b.1 * a.2) (bottom_ne ha hb)
  exact ⟨Nat.lt_of_le_of_lt this.1 (add_lt (mul_lt sa.1 sb.2) (mul_lt sb.1 sa.2)), Nat.lt_of_le_of_lt this.2 (lt_mono (mul_lt sa.2 sb.2) (by omega))⟩
theorem minus_size {a b : Int × Int} {n : Nat} (ha : Norm a) (hb : Norm b) (sa : Sm n a) (sb : Sm n b) : Sm (n + n + 1) (vMinus a b) := by
  have := norm_size (t := a.1 * b.2 - b.1 * a.2) (bottom_ne ha hb)
  exact ⟨Nat.lt_of_le_of_lt this.1 (sub_lt (mul_lt sa.1 sb.2) (mul_lt sb.1 sa.2)), Nat.lt_of_le_of_lt this.2 (lt_mono (mul_lt sa.2 sb.2) (by omega))⟩
theorem prod_size {a b : Int × Int} {n : Nat} (ha : Norm a) (hb : Norm b) (sa : Sm n a) (sb : Sm n b) : Sm (n + n + 1) (vProd a b) := by
  have := norm_size (t := a.1 * b.1) (bottom_ne ha hb)
  exact ⟨Nat.lt_of_le_of_lt this.1 (lt_mono (mul_lt sa.1 sb.1) (by omega)), Nat.lt_of_le_of_lt this.2 (lt_mono (mul_lt sa.2 sb.2) (by omega))⟩
theorem plus_Norm {a b : Int × Int} (ha : Norm a) (hb : Norm b) : Norm (vPlus a b) := norm_Norm (bottom_ne ha hb)
theorem minus_Norm {a b : Int × Int} (ha : Norm a) (hb : Norm b) : Norm (vMinus a b) := norm_Norm (bottom_ne ha hb)
theorem prod_Norm {a b : Int × Int} (ha : Norm a) (hb : Norm b) : Norm (vProd a b) := norm_Norm (bottom_ne ha hb)
theorem plus_minus {a b : Int × Int} (ha : Norm a) (hb : Norm b) : vMinus (vPlus a b) b = a := by
  refine norm_of (bottom_ne (plus_Norm ha hb) hb) ha ?_
  have c := norm_cross (t := a.1 * b.2 + b.1 * a.2) (bottom_ne ha hb)
  show a.1 * ((vPlus a b).2 * b.2) = ((vPlus a b).1 * b.2 - b.1 * (vPlus a b).2) * a.2
  change (vPlus a b).1 * (a.2 * b.2) = (a.1 * b.2 + b.1 * a.2) * (vPlus a b).2 at c
  generalize vPlus a b = p at *
  simp only [Int.sub_mul, Int.add_mul, Int.mul_sub, Int.mul_add, Int.mul_assoc, Int.mul_comm, Int.mul_left_comm] at *
  omega
theorem minus_plus {a b : Int × Int} (ha : Norm a) (hb : Norm b) : vPlus (vMinus a b) b = a := by
  refine norm_of (bottom_ne (minus_Norm ha hb) hb) ha ?_
  have c := norm_cross (t := a.1 * b.2 - b.1 * a.2) (bottom_ne ha hb)
  show a.1 * ((vMinus a b).2 * b.2) = ((vMinus a b).1 * b.2 + b.1 * (vMinus a b).2) * a.2
  change (vMinus a b).1 * (a.2 * b.2) = (a.1 * b.2 - b.1 * a.2) * (vMinus a b).2 at c
  generalize vMinus a b = p at *
  simp only [Int.sub_mul, Int.add_mul, Int.mul_sub, Int.mul_add, Int.mul_assoc, Int.mul_comm, Int.mul_left_comm] at *
  omega
theorem prod_quot {a b : Int × Int} (ha : Norm a) (hb : Norm b) (h0 : b.1 ≠ 0) : vQuot (vProd a b) b = a := by
  have pn := prod_Norm ha hb
  refine norm_of (by have := pn.pos; exact Int.mul_ne_zero (by omega) h0) ha ?_
  have c := norm_cross (t := a.1 * b.1) (bottom_ne ha hb)
  show a.1 * ((vProd a b).2 * b.1) = ((vProd a b).1 * b.2) * a.2
  change (vProd a b).1 * (a.2 * b.2) = (a.1 * b.1) * (vProd a b).2 at c
  generalize vProd a b = p at *
  simp only [Int.sub_mul, Int.add_mul, Int.mul_sub, Int.mul_add, Int.mul_assoc, Int.mul_comm, Int.mul_left_comm] at *
  omega
theorem Sm.mono {n m : Nat} {p : Int × Int} (s : Sm n p) (l : n ≤ m) : Sm m p := ⟨lt_mono s.1 l, lt_mono s.2 l⟩
/-! ### ratio told right -/
theorem right_spec {t b : Int} (hs : b.natAbs < 2 ^ 8000) (h : Hm) : ∃ h', m_law_ratio_right [.int t, .int b] h = .ok (.bl true) h' ∧ Ext h h' := by
  have r := ratio_eq (t := t) hs h
  by_cases c : b = 0
  · rw [if_pos c] at r
    subst c
    have e := same_str (n := 3) (i := ("zero" : Str)) (h := h)
    have tz := tab_ZZ
    refine ⟨h, ?_, .refl⟩
    unfold m_law_ratio_right b_law_ratio_right
    generalize tab = tb at tz ⊢
    generalize m_law_same 4 = sm at e ⊢
    generalize m_law_short = sh
    generalize m_ratio = ra at r ⊢
    simp only [bind_ok, bind_exc, toS_ok, toS_exc, sb_nx, sb_rt, sb_bk, sb_ct, sb_exc, oo_some, mSeq_ap, mNext_ap, mBreak_ap, mCont_ap, mRet_ap, mRetN_ap, mExpr_ap, mIfS_ap, kIf_t, kIf_f, mAsg_ap, kAsg_name, kAsg_tup2, mPar_ap, kPar_2, mFor_ap, mRaise_ap, mTry_ap, kTry_nx, kTry_rt, kTry_exc, mFun_ap, fin_nx, fin_rt, fin_exc, mC_ap, mVar_0, mVar_s, mBin_ap, kB1_ap, kB2_ap, mUn_ap, kUn_neg, mNil_ap, mCons_ap, kC1_ap, kC2_ap, mTup_ap, kTup_ap, mLst_ap, kLst_ap, mCall_ap, mPick_ap, kPick_01, kPick_10, mB_ap, kG_ap, mIf_ap, kIfE_t, kIfE_f, mAnd_ap, kAnd_t, kAnd_f, mOr_ap, kOr_t, kOr_f, mNot_ap, kNot_ap, blT_ap, kBlT_ap, mTru_ap, kTru_bl, kTru_non, kTru_int, kTru_tup, mTnot_ap, kTnot_ap, mTand_ap, kTand_t, kTand_f, mTor_ap, kTor_t, kTor_f, mIsi_ap, kIsi_int, kIsi_bl, kIsi_str, kIsi_non, kIsi_tup, isiT, gAdd_int, gSub_int, gLt_int, gLe_int, gGt_int, gGe_int, gEq_int, gNe_int, gEq_str, gNe_str, gEq_bl, gNe_bl, gIsN_ap, gNotN_ap, isN, ix_0, ix_1, ix_2, gLen_tup, gAbs_int, gInt_int, gInt_bl, gGcd_int, gMin2_int, gMul_int, gFdiv_int, gMod_int, List.map_cons, List.map_nil, List.length_cons, List.length_nil, List.replicate, List.cons_append, List.nil_append, List.append_nil, List.set_cons_zero, List.set_cons_succ, List.isEmpty_cons, List.isEmpty_nil, Nat.reduceSub, Nat.reduceAdd, Nat.reduceLeDiff, if_true, if_false, reduceIte, Bool.false_eq_true, Bool.true_eq_false, Bool.not_true, Bool.not_false, decide_true, decide_false, reduceCtorEq, eq_self, Nat.zero_add, Nat.reduceMul, natLit, Int.reduceEq, Int.reduceNe, Int.reduceLT, Int.reduceLE, r, hdL, tz, e]
  · rw [if_neg c] at r
    have e2 := short_eq (t := t) c hs h
    obtain ⟨h', e, x⟩ := alike_pr (n := 2) (p := norm t b) h
    refine ⟨h', ?_, x⟩
    unfold m_law_ratio_right b_law_ratio_right
    generalize m_law_same 4 = sm at e ⊢
    generalize m_law_short = sh at e2 ⊢
    generalize m_ratio = ra at r ⊢
    generalize norm t b = p at *
    simp only [bind_ok, bind_exc, toS_ok, toS_exc, sb_nx, sb_rt, sb_bk, sb_ct, sb_exc, oo_some, mSeq_ap, mNext_ap, mBreak_ap, mCont_ap, mRet_ap, mRetN_ap, mExpr_ap, mIfS_ap, kIf_t, kIf_f, mAsg_ap, kAsg_name, kAsg_tup2, mPar_ap, kPar_2, mFor_ap, mRaise_ap, mTry_ap, kTry_nx, kTry_rt, kTry_exc, mFun_ap, fin_nx, fin_rt, fin_exc, mC_ap, mVar_0, mVar_s, mBin_ap, kB1_ap, kB2_ap, mUn_ap, kUn_neg, mNil_ap, mCons_ap, kC1_ap, kC2_ap, mTup_ap, kTup_ap, mLst_ap, kLst_ap, mCall_ap, mPick_ap, kPick_01, kPick_10, mB_ap, kG_ap, mIf_ap, kIfE_t, kIfE_f, mAnd_ap, kAnd_t, kAnd_f, mOr_ap, kOr_t, kOr_f, mNot_ap, kNot_ap, blT_ap, kBlT_ap, mTru_ap, kTru_bl, kTru_non, kTru_int, kTru_tup, mTnot_ap, kTnot_ap, mTand_ap, kTand_t, kTand_f, mTor_ap, kTor_t, kTor_f, mIsi_ap, kIsi_int, kIsi_bl, kIsi_str, kIsi_non, kIsi_tup, isiT, gAdd_int, gSub_int, gLt_int, gLe_int, gGt_int, gGe_int, gEq_int, gNe_int, gEq_str, gNe_str, gEq_bl, gNe_bl, gIsN_ap, gNotN_ap, isN, ix_0, ix_1, ix_2, gLen_tup, gAbs_int, gInt_int, gInt_bl, gGcd_int, gMin2_int, gMul_int, gFdiv_int, gMod_int, List.map_cons, List.map_nil, List.length_cons, List.length_nil, List.replicate, List.cons_append, List.nil_append, List.append_nil, List.set_cons_zero, List.set_cons_succ, List.isEmpty_cons, List.isEmpty_nil, Nat.reduceSub, Nat.reduceAdd, Nat.reduceLeDiff, if_true, if_false, reduceIte, Bool.false_eq_true, Bool.true_eq_false, Bool.not_true, Bool.not_false, decide_true, decide_false, reduceCtorEq, eq_self, Nat.zero_add, Nat.reduceMul, natLit, Int.reduceEq, Int.reduceNe, Int.reduceLT, Int.reduceLE, r, c, e2, e]

/-! ### a turn, statement by statement -/
abbrev Fm (w : Nat) (o2 o3 o4 o5 o6 o7 o8 o9 : Option D) : Fr := [some (.ref 0), some (.ref w), o2, o3, o4, o5, o6, o7, o8, o9]
section
variable {h : Hm} {w c n : Nat} {cells : List Int} {o2 o3 o4 o5 o6 o7 o8 o9 : Option D} {a b : Int × Int} {nm : Bool}
theorem seg1 (W : Well h w c cells n) (hn : n ≤ 70000) : ∃ a b h', P1 (Fm w o2 o3 o4 o5 o6 o7 o8 o9) h = .nx (Fm w o2 (some (pr a)) (some (pr b)) o5 o6 o7 o8 o9) h' ∧ Norm a ∧ Norm b ∧ Sm 200 a ∧ Sm 200 b ∧ Well h' w c cells (n + 32) := by
  obtain ⟨a, h1, e1, na, sa, k1, W1⟩ := ratio_spec W (by omega)
  obtain ⟨b, h2, e2, nb, sb, k2, W2⟩ := ratio_spec W1 (by omega)
  refine ⟨a, b, h2, ?_, na, nb, sa, sb, W2.mono (by omega)⟩
  unfold P1
  generalize m_law_ratio = f at *
  simp only [bind_ok, bind_exc, toS_ok, toS_exc, sb_nx, sb_rt, sb_bk, sb_ct, sb_exc, oo_some, mSeq_ap, mNext_ap, mBreak_ap, mCont_ap, mRet_ap, mRetN_ap, mExpr_ap, mIfS_ap, kIf_t, kIf_f, mAsg_ap, kAsg_name, kAsg_tup2, mPar_ap, kPar_2, mFor_ap, mRaise_ap, mTry_ap, kTry_nx, kTry_rt, kTry_exc, mFun_ap, fin_nx, fin_rt, fin_exc, mC_ap, mVar_0, mVar_s, mBin_ap, kB1_ap, kB2_ap, mUn_ap, kUn_neg, mNil_ap, mCons_ap, kC1_ap, kC2_ap, mTup_ap, kTup_ap, mLst_ap, kLst_ap, mCall_ap, mPick_ap, kPick_01, kPick_10, mB_ap, kG_ap, mIf_ap, kIfE_t, kIfE_f, mAnd_ap, kAnd_t, kAnd_f, mOr_ap, kOr_t, kOr_f, mNot_ap, kNot_ap, blT_ap, kBlT_ap, mTru_ap, kTru_bl, kTru_non, kTru_int, kTru_tup, mTnot_ap, kTnot_ap, mTand_ap, kTand_t, kTand_f, mTor_ap, kTor_t, kTor_f, mIsi_ap, kIsi_int, kIsi_bl, kIsi_str, kIsi_non, kIsi_tup, isiT, gAdd_int, gSub_int, gLt_int, gLe_int, gGt_int, gGe_int, gEq_int, gNe_int, gEq_str, gNe_str, gEq_bl, gNe_bl, gIsN_ap, gNotN_ap, isN, ix_0, ix_1, ix_2, gLen_tup, gAbs_int, gInt_int, gInt_bl, gGcd_int, gMin2_int, gMul_int, gFdiv_int, gMod_int, List.map_cons, List.map_nil, List.length_cons, List.length_nil, List.replicate, List.cons_append, List.nil_append, List.append_nil, List.set_cons_zero, List.set_cons_succ, List.isEmpty_cons, List.isEmpty_nil, Nat.reduceSub, Nat.reduceAdd, Nat.reduceLeDiff, if_true, if_false, reduceIte, Bool.false_eq_true, Bool.true_eq_false, Bool.not_true, Bool.not_false, decide_true, decide_false, reduceCtorEq, eq_self, Nat.zero_add, Nat.reduceMul, natLit, Int.reduceEq, Int.reduceNe, Int.reduceLT, Int.reduceLE, e1, e2]
theorem seg2 (W : Well h w c cells n) (hn : n ≤ 70000) (na : Norm a) (nb : Norm b) (sa : Sm 200 a) (sb : Sm 200 b) : ∃ b' h', P2 (Fm w o2 (some (pr a)) (some (pr b)) o5 o6 o7 o8 o9) h = .nx (Fm w o2 (some (pr a)) (some (pr b')) o5 o6 o7 o8 o9) h' ∧ Norm b' ∧ Sm 210 b' ∧ Well h' w c cells (n + 2) := by
  obtain ⟨r, h1, e1, r0, r1, hl1, k1, W1⟩ := draw_spec (many := 5) W (by omega) (by omega) (by omega)
  by_cases z : r = 0
  · subst z
    have x1 : Ext h1 (h1 ++ [O.lst [pr a, .tup [.int 0, .int 1], .tup [.int (-a.1), .int a.2], .tup [.int (a.1 + 1), .int 1]]]) := Ext.push
    have hw1 := W1.lt
    obtain ⟨d, h2, e2, hd, hl2, k2, W2⟩ := one_spec (s := h1.length) (W1.ext x1) (by omega) push_get (by show 0 < 4; omega) (by show 4 < 2 ^ 59; omega) (by omega)
    have hq : ∃ p, d = pr p ∧ Norm p ∧ Sm 210 p := by
      simp only [List.mem_cons, List.not_mem_nil, or_false] at hd
      rcases hd with q | q | q | q
      · exact ⟨a, q, na, sa.mono (by omega)⟩
      · exact ⟨(0, 1), q, ⟨by decide, by decide⟩, ⟨by decide +kernel, by decide +kernel⟩⟩
      · exact ⟨(-a.1, a.2), q, ⟨na.pos, by rw [Int.neg_gcd]; exact na.cop⟩, ⟨by show (-a.1).natAbs < _; rw [Int.natAbs_neg]; exact (sa.mono (m := 210) (by omega)).1, (sa.mono (m := 210) (by omega)).2⟩⟩
      · refine ⟨(a.1 + 1, 1), q, ⟨by show (1 : Int) ≤ 1; decide, by simp⟩, ⟨?_, by show (1 : Int).natAbs < 2 ^ 210; decide +kernel⟩⟩
        exact lt_mono (add_lt sa.1 (b := 1) (by decide +kernel)) (by omega)
    obtain ⟨p, rfl, np, sp⟩ := hq
    refine ⟨p, h2, ?_, np, sp, W2.mono (by omega)⟩
    unfold P2
    generalize m_law_draw = f at *
    generalize m_law_one = g at *
    simp only [bind_ok, bind_exc, toS_ok, toS_exc, sb_nx, sb_rt, sb_bk, sb_ct, sb_exc, oo_some, mSeq_ap, mNext_ap, mBreak_ap, mCont_ap, mRet_ap, mRetN_ap, mExpr_ap, mIfS_ap, kIf_t, kIf_f, mAsg_ap, kAsg_name, kAsg_tup2, mPar_ap, kPar_2, mFor_ap, mRaise_ap, mTry_ap, kTry_nx, kTry_rt, kTry_exc, mFun_ap, fin_nx, fin_rt, fin_exc, mC_ap, mVar_0, mVar_s, mBin_ap, kB1_ap, kB2_ap, mUn_ap, kUn_neg, mNil_ap, mCons_ap, kC1_ap, kC2_ap, mTup_ap, kTup_ap, mLst_ap, kLst_ap, mCall_ap, mPick_ap, kPick_01, kPick_10, mB_ap, kG_ap, mIf_ap, kIfE_t, kIfE_f, mAnd_ap, kAnd_t, kAnd_f, mOr_ap, kOr_t, kOr_f, mNot_ap, kNot_ap, blT_ap, kBlT_ap, mTru_ap, kTru_bl, kTru_non, kTru_int, kTru_tup, mTnot_ap, kTnot_ap, mTand_ap, kTand_t, kTand_f, mTor_ap, kTor_t, kTor_f, mIsi_ap, kIsi_int, kIsi_bl, kIsi_str, kIsi_non, kIsi_tup, isiT, gAdd_int, gSub_int, gLt_int, gLe_int, gGt_int, gGe_int, gEq_int, gNe_int, gEq_str, gNe_str, gEq_bl, gNe_bl, gIsN_ap, gNotN_ap, isN, ix_0, ix_1, ix_2, gLen_tup, gAbs_int, gInt_int, gInt_bl, gGcd_int, gMin2_int, gMul_int, gFdiv_int, gMod_int, List.map_cons, List.map_nil, List.length_cons, List.length_nil, List.replicate, List.cons_append, List.nil_append, List.append_nil, List.set_cons_zero, List.set_cons_succ, List.isEmpty_cons, List.isEmpty_nil, Nat.reduceSub, Nat.reduceAdd, Nat.reduceLeDiff, if_true, if_false, reduceIte, Bool.false_eq_true, Bool.true_eq_false, Bool.not_true, Bool.not_false, decide_true, decide_false, reduceCtorEq, eq_self, Nat.zero_add, Nat.reduceMul, natLit, Int.reduceEq, Int.reduceNe, Int.reduceLT, Int.reduceLE, e1, e2]
  · refine ⟨b, h1, ?_, nb, sb.mono (by omega), W1.mono (by omega)⟩
    unfold P2
    generalize m_law_draw = f at *
    generalize m_law_one = g at *
    simp only [bind_ok, bind_exc, toS_ok, toS_exc, sb_nx, sb_rt, sb_bk, sb_ct, sb_exc, oo_some, mSeq_ap, mNext_ap, mBreak_ap, mCont_ap, mRet_ap, mRetN_ap, mExpr_ap, mIfS_ap, kIf_t, kIf_f, mAsg_ap, kAsg_name, kAsg_tup2, mPar_ap, kPar_2, mFor_ap, mRaise_ap, mTry_ap, kTry_nx, kTry_rt, kTry_exc, mFun_ap, fin_nx, fin_rt, fin_exc, mC_ap, mVar_0, mVar_s, mBin_ap, kB1_ap, kB2_ap, mUn_ap, kUn_neg, mNil_ap, mCons_ap, kC1_ap, kC2_ap, mTup_ap, kTup_ap, mLst_ap, kLst_ap, mCall_ap, mPick_ap, kPick_01, kPick_10, mB_ap, kG_ap, mIf_ap, kIfE_t, kIfE_f, mAnd_ap, kAnd_t, kAnd_f, mOr_ap, kOr_t, kOr_f, mNot_ap, kNot_ap, blT_ap, kBlT_ap, mTru_ap, kTru_bl, kTru_non, kTru_int, kTru_tup, mTnot_ap, kTnot_ap, mTand_ap, kTand_t, kTand_f, mTor_ap, kTor_t, kTor_f, mIsi_ap, kIsi_int, kIsi_bl, kIsi_str, kIsi_non, kIsi_tup, isiT, gAdd_int, gSub_int, gLt_int, gLe_int, gGt_int, gGe_int, gEq_int, gNe_int, gEq_str, gNe_str, gEq_bl, gNe_bl, gIsN_ap, gNotN_ap, isN, ix_0, ix_1, ix_2, gLen_tup, gAbs_int, gInt_int, gInt_bl, gGcd_int, gMin2_int, gMul_int, gFdiv_int, gMod_int, List.map_cons, List.map_nil, List.length_cons, List.length_nil, List.replicate, List.cons_append, List.nil_append, List.append_nil, List.set_cons_zero, List.set_cons_succ, List.isEmpty_cons, List.isEmpty_nil, Nat.reduceSub, Nat.reduceAdd, Nat.reduceLeDiff, if_true, if_false, reduceIte, Bool.false_eq_true, Bool.true_eq_false, Bool.not_true, Bool.not_false, decide_true, decide_false, reduceCtorEq, eq_self, Nat.zero_add, Nat.reduceMul, natLit, Int.reduceEq, Int.reduceNe, Int.reduceLT, Int.reduceLE, e1, z]
theorem seg3 (W : Well h w c cells n) (hn : n ≤ 70000) : ∃ nm h', P3 (Fm w o2 o3 o4 o5 o6 o7 o8 o9) h = .nx (Fm w o2 o3 o4 (some (.bl nm)) o6 o7 o8 o9) h' ∧ Well h' w c cells (n + 1) := by
  obtain ⟨r, h1, e1, r0, r1, hl1, k1, W1⟩ := draw_spec (many := 2) W (by omega) (by omega) (by omega)
  refine ⟨decide (r = 0), h1, ?_, W1⟩
  unfold P3
  generalize m_law_draw = f at *
  simp only [bind_ok, bind_exc, toS_ok, toS_exc, sb_nx, sb_rt, sb_bk, sb_ct, sb_exc, oo_some, mSeq_ap, mNext_ap, mBreak_ap, mCont_ap, mRet_ap, mRetN_ap, mExpr_ap, mIfS_ap, kIf_t, kIf_f, mAsg_ap, kAsg_name, kAsg_tup2, mPar_ap, kPar_2, mFor_ap, mRaise_ap, mTry_ap, kTry_nx, kTry_rt, kTry_exc, mFun_ap, fin_nx, fin_rt, fin_exc, mC_ap, mVar_0, mVar_s, mBin_ap, kB1_ap, kB2_ap, mUn_ap, kUn_neg, mNil_ap, mCons_ap, kC1_ap, kC2_ap, mTup_ap, kTup_ap, mLst_ap, kLst_ap, mCall_ap, mPick_ap, kPick_01, kPick_10, mB_ap, kG_ap, mIf_ap, kIfE_t, kIfE_f, mAnd_ap, kAnd_t, kAnd_f, mOr_ap, kOr_t, kOr_f, mNot_ap, kNot_ap, blT_ap, kBlT_ap, mTru_ap, kTru_bl, kTru_non, kTru_int, kTru_tup, mTnot_ap, kTnot_ap, mTand_ap, kTand_t, kTand_f, mTor_ap, kTor_t, kTor_f, mIsi_ap, kIsi_int, kIsi_bl, kIsi_str, kIsi_non, kIsi_tup, isiT, gAdd_int, gSub_int, gLt_int, gLe_int, gGt_int, gGe_int, gEq_int, gNe_int, gEq_str, gNe_str, gEq_bl, gNe_bl, gIsN_ap, gNotN_ap, isN, ix_0, ix_1, ix_2, gLen_tup, gAbs_int, gInt_int, gInt_bl, gGcd_int, gMin2_int, gMul_int, gFdiv_int, gMod_int, List.map_cons, List.map_nil, List.length_cons, List.length_nil, List.replicate, List.cons_append, List.nil_append, List.append_nil, List.set_cons_zero, List.set_cons_succ, List.isEmpty_cons, List.isEmpty_nil, Nat.reduceSub, Nat.reduceAdd, Nat.reduceLeDiff, if_true, if_false, reduceIte, Bool.false_eq_true, Bool.true_eq_false, Bool.not_true, Bool.not_false, decide_true, decide_false, reduceCtorEq, eq_self, Nat.zero_add, Nat.reduceMul, natLit, Int.reduceEq, Int.reduceNe, Int.reduceLT, Int.reduceLE, e1]
section
variable (na : Norm a) (nb : Norm b) (sa : Sm 210 a) (sb : Sm 210 b)
include na nb sa sb
abbrev B4 : MS := (mIfS (mTnot (mTru truD (mCall (m_law_same 4) (mCons (mCall m_law_told (mCons (mVar 6) (mCons (mVar 3) (mCons (mVar 4) (mCons (mVar 5) mNil))))) (mCons (mCall m_law_due (mCons (mVar 6) (mCons (mVar 3) (mCons (mVar 4) mNil)))) mNil))))) (mRet (mC (.bl false))) mNext)
theorem seg4_turn {i : Int} (hi : i = 0 ∨ i = 1 ∨ i = 2 ∨ i = 3) : ∃ h', B4 (Fm w o2 (some (pr a)) (some (pr b)) (some (.bl nm)) (some (.int i)) o7 o8 o9) h = .nx (Fm w o2 (some (pr a)) (some (pr b)) (some (.bl nm)) (some (.int i)) o7 o8 o9) h' ∧ Ext h h' := by
  obtain ⟨d, e1, e2, hd⟩ := told_due na nb sa sb h hi nm
  have al : Alike 4 d := by
    rcases hd with q | ⟨p, q⟩ <;> subst q
    · exact alike_str
    · exact alike_pr
  obtain ⟨h', e3, x⟩ := al h
  refine ⟨h', ?_, x⟩
  unfold B4
  generalize m_law_told = f at *
  generalize m_law_due = g at *
  generalize m_law_same 4 = s at *
  simp only [bind_ok, bind_exc, toS_ok, toS_exc, sb_nx, sb_rt, sb_bk, sb_ct, sb_exc, oo_some, mSeq_ap, mNext_ap, mBreak_ap, mCont_ap, mRet_ap, mRetN_ap, mExpr_ap, mIfS_ap, kIf_t, kIf_f, mAsg_ap, kAsg_name, kAsg_tup2, mPar_ap, kPar_2, mFor_ap, mRaise_ap, mTry_ap, kTry_nx, kTry_rt, kTry_exc, mFun_ap, fin_nx, fin_rt, fin_exc, mC_ap, mVar_0, mVar_s, mBin_ap, kB1_ap, kB2_ap, mUn_ap, kUn_neg, mNil_ap, mCons_ap, kC1_ap, kC2_ap, mTup_ap, kTup_ap, mLst_ap, kLst_ap, mCall_ap, mPick_ap, kPick_01, kPick_10, mB_ap, kG_ap, mIf_ap, kIfE_t, kIfE_f, mAnd_ap, kAnd_t, kAnd_f, mOr_ap, kOr_t, kOr_f, mNot_ap, kNot_ap, blT_ap, kBlT_ap, mTru_ap, kTru_bl, kTru_non, kTru_int, kTru_tup, mTnot_ap, kTnot_ap, mTand_ap, kTand_t, kTand_f, mTor_ap, kTor_t, kTor_f, mIsi_ap, kIsi_int, kIsi_bl, kIsi_str, kIsi_non, kIsi_tup, isiT, gAdd_int, gSub_int, gLt_int, gLe_int, gGt_int, gGe_int, gEq_int, gNe_int, gEq_str, gNe_str, gEq_bl, gNe_bl, gIsN_ap, gNotN_ap, isN, ix_0, ix_1, ix_2, gLen_tup, gAbs_int, gInt_int, gInt_bl, gGcd_int, gMin2_int, gMul_int, gFdiv_int, gMod_int, List.map_cons, List.map_nil, List.length_cons, List.length_nil, List.replicate, List.cons_append, List.nil_append, List.append_nil, List.set_cons_zero, List.set_cons_succ, List.isEmpty_cons, List.isEmpty_nil, Nat.reduceSub, Nat.reduceAdd, Nat.reduceLeDiff, if_true, if_false, reduceIte, Bool.false_eq_true, Bool.true_eq_false, Bool.not_true, Bool.not_false, decide_true, decide_false, reduceCtorEq, eq_self, Nat.zero_add, Nat.reduceMul, natLit, Int.reduceEq, Int.reduceNe, Int.reduceLT, Int.reduceLE, e1, e2, e3]
theorem seg4_loop : ∀ (is : List Int), (∀ i ∈ is, i = 0 ∨ i = 1 ∨ i = 2 ∨ i = 3) → ∀ (h : Hm) (o6 : Option D), ∃ h' o6', forL (mgName 6) B4 (fun _ => true) (is.map D.int) (Fm w o2 (some (pr a)) (some (pr b)) (some (.bl nm)) o6 o7 o8 o9) h = .nx (Fm w o2 (some (pr a)) (some (pr b)) (some (.bl nm)) o6' o7 o8 o9) h' ∧ Ext h h'
  | [], _, h, o6 => ⟨h, o6, rfl, .refl⟩
  | i :: is, H, h, o6 => by
    obtain ⟨h1, e1, x1⟩ := seg4_turn (w := w) (h := h) (o2 := o2) (o7 := o7) (o8 := o8) (o9 := o9) (nm := nm) na nb sa sb (H i (List.mem_cons_self ..))
    obtain ⟨h2, o2', e2, x2⟩ := seg4_loop is (fun j hj => H j (List.mem_cons_of_mem _ hj)) h1 (some (.int i))
    refine ⟨h2, o2', ?_, x1.trans x2⟩
    rw [List.map_cons]
    simp only [forL, if_true, mgName]
    simp only [Fm, List.set_cons_succ, List.set_cons_zero] at e1 e2 ⊢
    rw [e1]
    exact e2
theorem seg4 (W : Well h w c cells n) : ∃ h' o6', P4 (Fm w o2 (some (pr a)) (some (pr b)) (some (.bl nm)) o6 o7 o8 o9) h = .nx (Fm w o2 (some (pr a)) (some (pr b)) (some (.bl nm)) o6' o7 o8 o9) h' ∧ Well h' w c cells n := by
  obtain ⟨h', o', e, x⟩ := seg4_loop (w := w) (o2 := o2) (o7 := o7) (o8 := o8) (o9 := o9) (nm := nm) na nb sa sb [0, 1, 2, 3] (by simp) h o6
  refine ⟨h', o', ?_, W.ext x⟩
  have r4 : rngD 0 4 = [D.int 0, D.int 1, D.int 2, D.int 3] := rfl
  have r62t : r62 4 = true := by decide +kernel
  have i4 : Int.toNat 4 = 4 := rfl
  show mFor (mRng1 (mCons (mC (.int 4)) mNil)) (mgName 6) B4 _ h = _
  generalize B4 = bb at *
  simp only [bind_ok, bind_exc, toS_ok, toS_exc, sb_nx, sb_rt, sb_bk, sb_ct, sb_exc, oo_some, mSeq_ap, mNext_ap, mBreak_ap, mCont_ap, mRet_ap, mRetN_ap, mExpr_ap, mIfS_ap, kIf_t, kIf_f, mAsg_ap, kAsg_name, kAsg_tup2, mPar_ap, kPar_2, mFor_ap, mRaise_ap, mTry_ap, kTry_nx, kTry_rt, kTry_exc, mFun_ap, fin_nx, fin_rt, fin_exc, mC_ap, mVar_0, mVar_s, mBin_ap, kB1_ap, kB2_ap, mUn_ap, kUn_neg, mNil_ap, mCons_ap, kC1_ap, kC2_ap, mTup_ap, kTup_ap, mLst_ap, kLst_ap, mCall_ap, mPick_ap, kPick_01, kPick_10, mB_ap, kG_ap, mIf_ap, kIfE_t, kIfE_f, mAnd_ap, kAnd_t, kAnd_f, mOr_ap, kOr_t, kOr_f, mNot_ap, kNot_ap, blT_ap, kBlT_ap, mTru_ap, kTru_bl, kTru_non, kTru_int, kTru_tup, mTnot_ap, kTnot_ap, mTand_ap, kTand_t, kTand_f, mTor_ap, kTor_t, kTor_f, mIsi_ap, kIsi_int, kIsi_bl, kIsi_str, kIsi_non, kIsi_tup, isiT, gAdd_int, gSub_int, gLt_int, gLe_int, gGt_int, gGe_int, gEq_int, gNe_int, gEq_str, gNe_str, gEq_bl, gNe_bl, gIsN_ap, gNotN_ap, isN, ix_0, ix_1, ix_2, gLen_tup, gAbs_int, gInt_int, gInt_bl, gGcd_int, gMin2_int, gMul_int, gFdiv_int, gMod_int, List.map_cons, List.map_nil, List.length_cons, List.length_nil, List.replicate, List.cons_append, List.nil_append, List.append_nil, List.set_cons_zero, List.set_cons_succ, List.isEmpty_cons, List.isEmpty_nil, Nat.reduceSub, Nat.reduceAdd, Nat.reduceLeDiff, if_true, if_false, reduceIte, Bool.false_eq_true, Bool.true_eq_false, Bool.not_true, Bool.not_false, decide_true, decide_false, reduceCtorEq, eq_self, Nat.zero_add, Nat.reduceMul, natLit, Int.reduceEq, Int.reduceNe, Int.reduceLT, Int.reduceLE, mRng1, r62t, kFor, i4, r4]
  exact e
theorem seg5 : P5 (Fm w o2 (some (pr a)) (some (pr b)) (some (.bl nm)) o6 o7 o8 o9) h = .nx (Fm w o2 (some (pr a)) (some (pr b)) (some (.bl nm)) o6 (some (.bl (decide (a.1 * b.2 < b.1 * a.2)))) o8 o9) h := by
  have e := told_4 na nb sa sb h nm
  unfold P5
  generalize m_law_told = f at *
  simp only [bind_ok, bind_exc, toS_ok, toS_exc, sb_nx, sb_rt, sb_bk, sb_ct, sb_exc, oo_some, mSeq_ap, mNext_ap, mBreak_ap, mCont_ap, mRet_ap, mRetN_ap, mExpr_ap, mIfS_ap, kIf_t, kIf_f, mAsg_ap, kAsg_name, kAsg_tup2, mPar_ap, kPar_2, mFor_ap, mRaise_ap, mTry_ap, kTry_nx, kTry_rt, kTry_exc, mFun_ap, fin_nx, fin_rt, fin_exc, mC_ap, mVar_0, mVar_s, mBin_ap, kB1_ap, kB2_ap, mUn_ap, kUn_neg, mNil_ap, mCons_ap, kC1_ap, kC2_ap, mTup_ap, kTup_ap, mLst_ap, kLst_ap, mCall_ap, mPick_ap, kPick_01, kPick_10, mB_ap, kG_ap, mIf_ap, kIfE_t, kIfE_f, mAnd_ap, kAnd_t, kAnd_f, mOr_ap, kOr_t, kOr_f, mNot_ap, kNot_ap, blT_ap, kBlT_ap, mTru_ap, kTru_bl, kTru_non, kTru_int, kTru_tup, mTnot_ap, kTnot_ap, mTand_ap, kTand_t, kTand_f, mTor_ap, kTor_t, kTor_f, mIsi_ap, kIsi_int, kIsi_bl, kIsi_str, kIsi_non, kIsi_tup, isiT, gAdd_int, gSub_int, gLt_int, gLe_int, gGt_int, gGe_int, gEq_int, gNe_int, gEq_str, gNe_str, gEq_bl, gNe_bl, gIsN_ap, gNotN_ap, isN, ix_0, ix_1, ix_2, gLen_tup, gAbs_int, gInt_int, gInt_bl, gGcd_int, gMin2_int, gMul_int, gFdiv_int, gMod_int, List.map_cons, List.map_nil, List.length_cons, List.length_nil, List.replicate, List.cons_append, List.nil_append, List.append_nil, List.set_cons_zero, List.set_cons_succ, List.isEmpty_cons, List.isEmpty_nil, Nat.reduceSub, Nat.reduceAdd, Nat.reduceLeDiff, if_true, if_false, reduceIte, Bool.false_eq_true, Bool.true_eq_false, Bool.not_true, Bool.not_false, decide_true, decide_false, reduceCtorEq, eq_self, Nat.zero_add, Nat.reduceMul, natLit, Int.reduceEq, Int.reduceNe, Int.reduceLT, Int.reduceLE, e]
theorem seg6 : P6 (Fm w o2 (some (pr a)) (some (pr b)) o5 o6 (some (.bl (decide (a.1 * b.2 < b.1 * a.2)))) o8 o9) h = .nx (Fm w o2 (some (pr a)) (some (pr b)) o5 o6 (some (.bl (decide (a.1 * b.2 < b.1 * a.2)))) o8 o9) h := by
  have k2 : mulC a.1 b.2 = true := mulC_of sa.1 sb.2
  have k3 : mulC b.1 a.2 = true := mulC_of sb.1 sa.2
  unfold P6
  simp only [bind_ok, bind_exc, toS_ok, toS_exc, sb_nx, sb_rt, sb_bk, sb_ct, sb_exc, oo_some, mSeq_ap, mNext_ap, mBreak_ap, mCont_ap, mRet_ap, mRetN_ap, mExpr_ap, mIfS_ap, kIf_t, kIf_f, mAsg_ap, kAsg_name, kAsg_tup2, mPar_ap, kPar_2, mFor_ap, mRaise_ap, mTry_ap, kTry_nx, kTry_rt, kTry_exc, mFun_ap, fin_nx, fin_rt, fin_exc, mC_ap, mVar_0, mVar_s, mBin_ap, kB1_ap, kB2_ap, mUn_ap, kUn_neg, mNil_ap, mCons_ap, kC1_ap, kC2_ap, mTup_ap, kTup_ap, mLst_ap, kLst_ap, mCall_ap, mPick_ap, kPick_01, kPick_10, mB_ap, kG_ap, mIf_ap, kIfE_t, kIfE_f, mAnd_ap, kAnd_t, kAnd_f, mOr_ap, kOr_t, kOr_f, mNot_ap, kNot_ap, blT_ap, kBlT_ap, mTru_ap, kTru_bl, kTru_non, kTru_int, kTru_tup, mTnot_ap, kTnot_ap, mTand_ap, kTand_t, kTand_f, mTor_ap, kTor_t, kTor_f, mIsi_ap, kIsi_int, kIsi_bl, kIsi_str, kIsi_non, kIsi_tup, isiT, gAdd_int, gSub_int, gLt_int, gLe_int, gGt_int, gGe_int, gEq_int, gNe_int, gEq_str, gNe_str, gEq_bl, gNe_bl, gIsN_ap, gNotN_ap, isN, ix_0, ix_1, ix_2, gLen_tup, gAbs_int, gInt_int, gInt_bl, gGcd_int, gMin2_int, gMul_int, gFdiv_int, gMod_int, List.map_cons, List.map_nil, List.length_cons, List.length_nil, List.replicate, List.cons_append, List.nil_append, List.append_nil, List.set_cons_zero, List.set_cons_succ, List.isEmpty_cons, List.isEmpty_nil, Nat.reduceSub, Nat.reduceAdd, Nat.reduceLeDiff, if_true, if_false, reduceIte, Bool.false_eq_true, Bool.true_eq_false, Bool.not_true, Bool.not_false, decide_true, decide_false, reduceCtorEq, eq_self, Nat.zero_add, Nat.reduceMul, natLit, Int.reduceEq, Int.reduceNe, Int.reduceLT, Int.reduceLE, gMul_int k2, gMul_int k3]
theorem seg7 (W : Well h w c cells n) : ∃ h', P7 (Fm w o2 (some (pr a)) (some (pr b)) o5 o6 o7 o8 o9) h = .nx (Fm w o2 (some (pr a)) (some (pr b)) o5 o6 o7 o8 o9) h' ∧ Well h' w c cells n := by
  have e1 := plus_eq na nb sa sb (by omega) h
  have e2 := minus_eq (plus_Norm na nb) nb (plus_size na nb sa sb) sb (by omega) h
  have e3 := minus_eq na nb sa sb (by omega) h
  have e4 := plus_eq (minus_Norm na nb) nb (minus_size na nb sa sb) sb (by omega) h
  rw [plus_minus na nb] at e2
  rw [minus_plus na nb] at e4
  obtain ⟨h', e5, x⟩ := alike_two (n := 3) (alike_pr (n := 1) (p := a)) (alike_pr (n := 1) (p := a)) h
  refine ⟨h', ?_, W.ext x⟩
  unfold P7
  generalize m_plus = f at *
  generalize m_minus = g at *
  generalize vPlus a b = p at *
  generalize vMinus a b = q at *
  generalize m_law_same 4 = s at *
  simp only [bind_ok, bind_exc, toS_ok, toS_exc, sb_nx, sb_rt, sb_bk, sb_ct, sb_exc, oo_some, mSeq_ap, mNext_ap, mBreak_ap, mCont_ap, mRet_ap, mRetN_ap, mExpr_ap, mIfS_ap, kIf_t, kIf_f, mAsg_ap, kAsg_name, kAsg_tup2, mPar_ap, kPar_2, mFor_ap, mRaise_ap, mTry_ap, kTry_nx, kTry_rt, kTry_exc, mFun_ap, fin_nx, fin_rt, fin_exc, mC_ap, mVar_0, mVar_s, mBin_ap, kB1_ap, kB2_ap, mUn_ap, kUn_neg, mNil_ap, mCons_ap, kC1_ap, kC2_ap, mTup_ap, kTup_ap, mLst_ap, kLst_ap, mCall_ap, mPick_ap, kPick_01, kPick_10, mB_ap, kG_ap, mIf_ap, kIfE_t, kIfE_f, mAnd_ap, kAnd_t, kAnd_f, mOr_ap, kOr_t, kOr_f, mNot_ap, kNot_ap, blT_ap, kBlT_ap, mTru_ap, kTru_bl, kTru_non, kTru_int, kTru_tup, mTnot_ap, kTnot_ap, mTand_ap, kTand_t, kTand_f, mTor_ap, kTor_t, kTor_f, mIsi_ap, kIsi_int, kIsi_bl, kIsi_str, kIsi_non, kIsi_tup, isiT, gAdd_int, gSub_int, gLt_int, gLe_int, gGt_int, gGe_int, gEq_int, gNe_int, gEq_str, gNe_str, gEq_bl, gNe_bl, gIsN_ap, gNotN_ap, isN, ix_0, ix_1, ix_2, gLen_tup, gAbs_int, gInt_int, gInt_bl, gGcd_int, gMin2_int, gMul_int, gFdiv_int, gMod_int, List.map_cons, List.map_nil, List.length_cons, List.length_nil, List.replicate, List.cons_append, List.nil_append, List.append_nil, List.set_cons_zero, List.set_cons_succ, List.isEmpty_cons, List.isEmpty_nil, Nat.reduceSub, Nat.reduceAdd, Nat.reduceLeDiff, if_true, if_false, reduceIte, Bool.false_eq_true, Bool.true_eq_false, Bool.not_true, Bool.not_false, decide_true, decide_false, reduceCtorEq, eq_self, Nat.zero_add, Nat.reduceMul, natLit, Int.reduceEq, Int.reduceNe, Int.reduceLT, Int.reduceLE, e1, e2, e3, e4, e5]
theorem seg8 (W : Well h w c cells n) : ∃ h', P8 (Fm w o2 (some (pr a)) (some (pr b)) o5 o6 o7 o8 o9) h = .nx (Fm w o2 (some (pr a)) (some (pr b)) o5 o6 o7 o8 o9) h' ∧ Well h' w c cells n := by
  by_cases z : b.1 = 0
  · refine ⟨h, ?_, W⟩
    unfold P8
    generalize m_law_same 4 = s at *
    simp only [bind_ok, bind_exc, toS_ok, toS_exc, sb_nx, sb_rt, sb_bk, sb_ct, sb_exc, oo_some, mSeq_ap, mNext_ap, mBreak_ap, mCont_ap, mRet_ap, mRetN_ap, mExpr_ap, mIfS_ap, kIf_t, kIf_f, mAsg_ap, kAsg_name, kAsg_tup2, mPar_ap, kPar_2, mFor_ap, mRaise_ap, mTry_ap, kTry_nx, kTry_rt, kTry_exc, mFun_ap, fin_nx, fin_rt, fin_exc, mC_ap, mVar_0, mVar_s, mBin_ap, kB1_ap, kB2_ap, mUn_ap, kUn_neg, mNil_ap, mCons_ap, kC1_ap, kC2_ap, mTup_ap, kTup_ap, mLst_ap, kLst_ap, mCall_ap, mPick_ap, kPick_01, kPick_10, mB_ap, kG_ap, mIf_ap, kIfE_t, kIfE_f, mAnd_ap, kAnd_t, kAnd_f, mOr_ap, kOr_t, kOr_f, mNot_ap, kNot_ap, blT_ap, kBlT_ap, mTru_ap, kTru_bl, kTru_non, kTru_int, kTru_tup, mTnot_ap, kTnot_ap, mTand_ap, kTand_t, kTand_f, mTor_ap, kTor_t, kTor_f, mIsi_ap, kIsi_int, kIsi_bl, kIsi_str, kIsi_non, kIsi_tup, isiT, gAdd_int, gSub_int, gLt_int, gLe_int, gGt_int, gGe_int, gEq_int, gNe_int, gEq_str, gNe_str, gEq_bl, gNe_bl, gIsN_ap, gNotN_ap, isN, ix_0, ix_1, ix_2, gLen_tup, gAbs_int, gInt_int, gInt_bl, gGcd_int, gMin2_int, gMul_int, gFdiv_int, gMod_int, List.map_cons, List.map_nil, List.length_cons, List.length_nil, List.replicate, List.cons_append, List.nil_append, List.append_nil, List.set_cons_zero, List.set_cons_succ, List.isEmpty_cons, List.isEmpty_nil, Nat.reduceSub, Nat.reduceAdd, Nat.reduceLeDiff, if_true, if_false, reduceIte, Bool.false_eq_true, Bool.true_eq_false, Bool.not_true, Bool.not_false, decide_true, decide_false, reduceCtorEq, eq_self, Nat.zero_add, Nat.reduceMul, natLit, Int.reduceEq, Int.reduceNe, Int.reduceLT, Int.reduceLE, z]
  · have e1 := product_eq na nb sa sb (by omega) h
    have e2 := quotient_eq (prod_Norm na nb) nb (prod_size na nb sa sb) sb (by omega) h
    rw [if_neg z, prod_quot na nb z] at e2
    obtain ⟨h', e5, x⟩ := alike_pr (n := 2) (p := a) h
    refine ⟨h', ?_, W.ext x⟩
    unfold P8
    generalize m_product = f at *
    generalize m_quotient = g at *
    generalize vProd a b = p at *
    generalize m_law_same 4 = s at *
    simp only [bind_ok, bind_exc, toS_ok, toS_exc, sb_nx, sb_rt, sb_bk, sb_ct, sb_exc, oo_some, mSeq_ap, mNext_ap, mBreak_ap, mCont_ap, mRet_ap, mRetN_ap, mExpr_ap, mIfS_ap, kIf_t, kIf_f, mAsg_ap, kAsg_name, kAsg_tup2, mPar_ap, kPar_2, mFor_ap, mRaise_ap, mTry_ap, kTry_nx, kTry_rt, kTry_exc, mFun_ap, fin_nx, fin_rt, fin_exc, mC_ap, mVar_0, mVar_s, mBin_ap, kB1_ap, kB2_ap, mUn_ap, kUn_neg, mNil_ap, mCons_ap, kC1_ap, kC2_ap, mTup_ap, kTup_ap, mLst_ap, kLst_ap, mCall_ap, mPick_ap, kPick_01, kPick_10, mB_ap, kG_ap, mIf_ap, kIfE_t, kIfE_f, mAnd_ap, kAnd_t, kAnd_f, mOr_ap, kOr_t, kOr_f, mNot_ap, kNot_ap, blT_ap, kBlT_ap, mTru_ap, kTru_bl, kTru_non, kTru_int, kTru_tup, mTnot_ap, kTnot_ap, mTand_ap, kTand_t, kTand_f, mTor_ap, kTor_t, kTor_f, mIsi_ap, kIsi_int, kIsi_bl, kIsi_str, kIsi_non, kIsi_tup, isiT, gAdd_int, gSub_int, gLt_int, gLe_int, gGt_int, gGe_int, gEq_int, gNe_int, gEq_str, gNe_str, gEq_bl, gNe_bl, gIsN_ap, gNotN_ap, isN, ix_0, ix_1, ix_2, gLen_tup, gAbs_int, gInt_int, gInt_bl, gGcd_int, gMin2_int, gMul_int, gFdiv_int, gMod_int, List.map_cons, List.map_nil, List.length_cons, List.length_nil, List.replicate, List.cons_append, List.nil_append, List.append_nil, List.set_cons_zero, List.set_cons_succ, List.isEmpty_cons, List.isEmpty_nil, Nat.reduceSub, Nat.reduceAdd, Nat.reduceLeDiff, if_true, if_false, reduceIte, Bool.false_eq_true, Bool.true_eq_false, Bool.not_true, Bool.not_false, decide_true, decide_false, reduceCtorEq, eq_self, Nat.zero_add, Nat.reduceMul, natLit, Int.reduceEq, Int.reduceNe, Int.reduceLT, Int.reduceLE, z, e1, e2, e5]
end
theorem seg9 (W : Well h w c cells n) (hn : n ≤ 70000) : ∃ h', P9 (Fm w o2 (some (pr a)) o4 o5 o6 o7 o8 o9) h = .nx (Fm w o2 (some (pr a)) o4 o5 o6 o7 o8 o9) h' ∧ Well h' w c cells (n + 16) := by
  obtain ⟨x, h1, e1, sx, k1, W1⟩ := integer_spec W (by omega)
  obtain ⟨y, h2, e2, sy, k2, W2⟩ := integer_spec W1 (by omega)
  obtain ⟨h3, e3, x3⟩ := right_spec (t := x) (lt_mono sy (m := 8000) (by omega)) h2
  obtain ⟨h4, e4, x4⟩ := right_spec (t := a.1) (b := 0) (by decide +kernel) h3
  refine ⟨h4, ?_, ((W2.ext x3).ext x4).mono (by omega)⟩
  unfold P9
  generalize m_law_integer = f at *
  generalize m_law_ratio_right = g at *
  simp only [bind_ok, bind_exc, toS_ok, toS_exc, sb_nx, sb_rt, sb_bk, sb_ct, sb_exc, oo_some, mSeq_ap, mNext_ap, mBreak_ap, mCont_ap, mRet_ap, mRetN_ap, mExpr_ap, mIfS_ap, kIf_t, kIf_f, mAsg_ap, kAsg_name, kAsg_tup2, mPar_ap, kPar_2, mFor_ap, mRaise_ap, mTry_ap, kTry_nx, kTry_rt, kTry_exc, mFun_ap, fin_nx, fin_rt, fin_exc, mC_ap, mVar_0, mVar_s, mBin_ap, kB1_ap, kB2_ap, mUn_ap, kUn_neg, mNil_ap, mCons_ap, kC1_ap, kC2_ap, mTup_ap, kTup_ap, mLst_ap, kLst_ap, mCall_ap, mPick_ap, kPick_01, kPick_10, mB_ap, kG_ap, mIf_ap, kIfE_t, kIfE_f, mAnd_ap, kAnd_t, kAnd_f, mOr_ap, kOr_t, kOr_f, mNot_ap, kNot_ap, blT_ap, kBlT_ap, mTru_ap, kTru_bl, kTru_non, kTru_int, kTru_tup, mTnot_ap, kTnot_ap, mTand_ap, kTand_t, kTand_f, mTor_ap, kTor_t, kTor_f, mIsi_ap, kIsi_int, kIsi_bl, kIsi_str, kIsi_non, kIsi_tup, isiT, gAdd_int, gSub_int, gLt_int, gLe_int, gGt_int, gGe_int, gEq_int, gNe_int, gEq_str, gNe_str, gEq_bl, gNe_bl, gIsN_ap, gNotN_ap, isN, ix_0, ix_1, ix_2, gLen_tup, gAbs_int, gInt_int, gInt_bl, gGcd_int, gMin2_int, gMul_int, gFdiv_int, gMod_int, List.map_cons, List.map_nil, List.length_cons, List.length_nil, List.replicate, List.cons_append, List.nil_append, List.append_nil, List.set_cons_zero, List.set_cons_succ, List.isEmpty_cons, List.isEmpty_nil, Nat.reduceSub, Nat.reduceAdd, Nat.reduceLeDiff, if_true, if_false, reduceIte, Bool.false_eq_true, Bool.true_eq_false, Bool.not_true, Bool.not_false, decide_true, decide_false, reduceCtorEq, eq_self, Nat.zero_add, Nat.reduceMul, natLit, Int.reduceEq, Int.reduceNe, Int.reduceLT, Int.reduceLE, e1, e2, e3, e4]
theorem seg10 (W : Well h w c cells n) (hn : n ≤ 70000) (na : Norm a) (sa : Sm 210 a) : ∃ d r h', P10 (Fm w o2 (some (pr a)) o4 o5 o6 o7 o8 o9) h = .nx (Fm w o2 (some (pr a)) o4 o5 o6 o7 (some d) (some (.int r))) h' ∧ Bad d h' ∧ Well h' w c cells (n + 2) := by
  obtain ⟨d, h1, e1, bd, k1, W1⟩ := none_spec W (by omega) na sa
  obtain ⟨r, h2, e2, r0, r1, hl2, k2, W2⟩ := draw_spec (many := 3) W1 (by omega) (by omega) (by omega)
  refine ⟨d, r, h2, ?_, bd _ k2, W2⟩
  unfold P10
  generalize m_law_none = f at *
  generalize m_law_draw = g at *
  simp only [bind_ok, bind_exc, toS_ok, toS_exc, sb_nx, sb_rt, sb_bk, sb_ct, sb_exc, oo_some, mSeq_ap, mNext_ap, mBreak_ap, mCont_ap, mRet_ap, mRetN_ap, mExpr_ap, mIfS_ap, kIf_t, kIf_f, mAsg_ap, kAsg_name, kAsg_tup2, mPar_ap, kPar_2, mFor_ap, mRaise_ap, mTry_ap, kTry_nx, kTry_rt, kTry_exc, mFun_ap, fin_nx, fin_rt, fin_exc, mC_ap, mVar_0, mVar_s, mBin_ap, kB1_ap, kB2_ap, mUn_ap, kUn_neg, mNil_ap, mCons_ap, kC1_ap, kC2_ap, mTup_ap, kTup_ap, mLst_ap, kLst_ap, mCall_ap, mPick_ap, kPick_01, kPick_10, mB_ap, kG_ap, mIf_ap, kIfE_t, kIfE_f, mAnd_ap, kAnd_t, kAnd_f, mOr_ap, kOr_t, kOr_f, mNot_ap, kNot_ap, blT_ap, kBlT_ap, mTru_ap, kTru_bl, kTru_non, kTru_int, kTru_tup, mTnot_ap, kTnot_ap, mTand_ap, kTand_t, kTand_f, mTor_ap, kTor_t, kTor_f, mIsi_ap, kIsi_int, kIsi_bl, kIsi_str, kIsi_non, kIsi_tup, isiT, gAdd_int, gSub_int, gLt_int, gLe_int, gGt_int, gGe_int, gEq_int, gNe_int, gEq_str, gNe_str, gEq_bl, gNe_bl, gIsN_ap, gNotN_ap, isN, ix_0, ix_1, ix_2, gLen_tup, gAbs_int, gInt_int, gInt_bl, gGcd_int, gMin2_int, gMul_int, gFdiv_int, gMod_int, List.map_cons, List.map_nil, List.length_cons, List.length_nil, List.replicate, List.cons_append, List.nil_append, List.append_nil, List.set_cons_zero, List.set_cons_succ, List.isEmpty_cons, List.isEmpty_nil, Nat.reduceSub, Nat.reduceAdd, Nat.reduceLeDiff, if_true, if_false, reduceIte, Bool.false_eq_true, Bool.true_eq_false, Bool.not_true, Bool.not_false, decide_true, decide_false, reduceCtorEq, eq_self, Nat.zero_add, Nat.reduceMul, natLit, Int.reduceEq, Int.reduceNe, Int.reduceLT, Int.reduceLE, e1, e2]
abbrev B11 : MS := (mIfS (blT (mBin gNe (mCall m_law_told (mCons (mVar 6) (mCons (mIf (blT (mBin gEq (mVar 9) (mC (.int 0)))) (mVar 4) (mVar 8)) (mCons (mIf (blT (mBin gEq (mVar 9) (mC (.int 1)))) (mVar 3) (mVar 8)) (mCons (mVar 5) mNil))))) (mC (.str "ratio")))) (mRet (mC (.bl false))) mNext)
theorem seg11_turn {i r : Int} {d : D} (nb : Norm b) (bd : Bad d h) : B11 (Fm w o2 (some (pr a)) (some (pr b)) (some (.bl nm)) (some (.int i)) o7 (some d) (some (.int r))) h = .nx (Fm w o2 (some (pr a)) (some (pr b)) (some (.bl nm)) (some (.int i)) o7 (some d) (some (.int r))) h := by
  have e1 := told_bad (nm := nm) (door_bad2 (i := i) nb bd)
  have e2 : ∀ y, m_law_told [.int i, d, y, .bl nm] h = .ok (.str "ratio") h := fun y => told_bad (nm := nm) (door_bad1 (i := i) bd)
  unfold B11
  generalize m_law_told = f at *
  by_cases z : r = 0
  · subst z
    simp only [bind_ok, bind_exc, toS_ok, toS_exc, sb_nx, sb_rt, sb_bk, sb_ct, sb_exc, oo_some, mSeq_ap, mNext_ap, mBreak_ap, mCont_ap, mRet_ap, mRetN_ap, mExpr_ap, mIfS_ap, kIf_t, kIf_f, mAsg_ap, kAsg_name, kAsg_tup2, mPar_ap, kPar_2, mFor_ap, mRaise_ap, mTry_ap, kTry_nx, kTry_rt, kTry_exc, mFun_ap, fin_nx, fin_rt, fin_exc, mC_ap, mVar_0, mVar_s, mBin_ap, kB1_ap, kB2_ap, mUn_ap, kUn_neg, mNil_ap, mCons_ap, kC1_ap, kC2_ap, mTup_ap, kTup_ap, mLst_ap, kLst_ap, mCall_ap, mPick_ap, kPick_01, kPick_10, mB_ap, kG_ap, mIf_ap, kIfE_t, kIfE_f, mAnd_ap, kAnd_t, kAnd_f, mOr_ap, kOr_t, kOr_f, mNot_ap, kNot_ap, blT_ap, kBlT_ap, mTru_ap, kTru_bl, kTru_non, kTru_int, kTru_tup, mTnot_ap, kTnot_ap, mTand_ap, kTand_t, kTand_f, mTor_ap, kTor_t, kTor_f, mIsi_ap, kIsi_int, kIsi_bl, kIsi_str, kIsi_non, kIsi_tup, isiT, gAdd_int, gSub_int, gLt_int, gLe_int, gGt_int, gGe_int, gEq_int, gNe_int, gEq_str, gNe_str, gEq_bl, gNe_bl, gIsN_ap, gNotN_ap, isN, ix_0, ix_1, ix_2, gLen_tup, gAbs_int, gInt_int, gInt_bl, gGcd_int, gMin2_int, gMul_int, gFdiv_int, gMod_int, List.map_cons, List.map_nil, List.length_cons, List.length_nil, List.replicate, List.cons_append, List.nil_append, List.append_nil, List.set_cons_zero, List.set_cons_succ, List.isEmpty_cons, List.isEmpty_nil, Nat.reduceSub, Nat.reduceAdd, Nat.reduceLeDiff, if_true, if_false, reduceIte, Bool.false_eq_true, Bool.true_eq_false, Bool.not_true, Bool.not_false, decide_true, decide_false, reduceCtorEq, eq_self, Nat.zero_add, Nat.reduceMul, natLit, Int.reduceEq, Int.reduceNe, Int.reduceLT, Int.reduceLE, e1]
  · by_cases z1 : r = 1
    · subst z1
      simp only [bind_ok, bind_exc, toS_ok, toS_exc, sb_nx, sb_rt, sb_bk, sb_ct, sb_exc, oo_some, mSeq_ap, mNext_ap, mBreak_ap, mCont_ap, mRet_ap, mRetN_ap, mExpr_ap, mIfS_ap, kIf_t, kIf_f, mAsg_ap, kAsg_name, kAsg_tup2, mPar_ap, kPar_2, mFor_ap, mRaise_ap, mTry_ap, kTry_nx, kTry_rt, kTry_exc, mFun_ap, fin_nx, fin_rt, fin_exc, mC_ap, mVar_0, mVar_s, mBin_ap, kB1_ap, kB2_ap, mUn_ap, kUn_neg, mNil_ap, mCons_ap, kC1_ap, kC2_ap, mTup_ap, kTup_ap, mLst_ap, kLst_ap, mCall_ap, mPick_ap, kPick_01, kPick_10, mB_ap, kG_ap, mIf_ap, kIfE_t, kIfE_f, mAnd_ap, kAnd_t, kAnd_f, mOr_ap, kOr_t, kOr_f, mNot_ap, kNot_ap, blT_ap, kBlT_ap, mTru_ap, kTru_bl, kTru_non, kTru_int, kTru_tup, mTnot_ap, kTnot_ap, mTand_ap, kTand_t, kTand_f, mTor_ap, kTor_t, kTor_f, mIsi_ap, kIsi_int, kIsi_bl, kIsi_str, kIsi_non, kIsi_tup, isiT, gAdd_int, gSub_int, gLt_int, gLe_int, gGt_int, gGe_int, gEq_int, gNe_int, gEq_str, gNe_str, gEq_bl, gNe_bl, gIsN_ap, gNotN_ap, isN, ix_0, ix_1, ix_2, gLen_tup, gAbs_int, gInt_int, gInt_bl, gGcd_int, gMin2_int, gMul_int, gFdiv_int, gMod_int, List.map_cons, List.map_nil, List.length_cons, List.length_nil, List.replicate, List.cons_append, List.nil_append, List.append_nil, List.set_cons_zero, List.set_cons_succ, List.isEmpty_cons, List.isEmpty_nil, Nat.reduceSub, Nat.reduceAdd, Nat.reduceLeDiff, if_true, if_false, reduceIte, Bool.false_eq_true, Bool.true_eq_false, Bool.not_true, Bool.not_false, decide_true, decide_false, reduceCtorEq, eq_self, Nat.zero_add, Nat.reduceMul, natLit, Int.reduceEq, Int.reduceNe, Int.reduceLT, Int.reduceLE, e2]
    · simp only [bind_ok, bind_exc, toS_ok, toS_exc, sb_nx, sb_rt, sb_bk, sb_ct, sb_exc, oo_some, mSeq_ap, mNext_ap, mBreak_ap, mCont_ap, mRet_ap, mRetN_ap, mExpr_ap, mIfS_ap, kIf_t, kIf_f, mAsg_ap, kAsg_name, kAsg_tup2, mPar_ap, kPar_2, mFor_ap, mRaise_ap, mTry_ap, kTry_nx, kTry_rt, kTry_exc, mFun_ap, fin_nx, fin_rt, fin_exc, mC_ap, mVar_0, mVar_s, mBin_ap, kB1_ap, kB2_ap, mUn_ap, kUn_neg, mNil_ap, mCons_ap, kC1_ap, kC2_ap, mTup_ap, kTup_ap, mLst_ap, kLst_ap, mCall_ap, mPick_ap, kPick_01, kPick_10, mB_ap, kG_ap, mIf_ap, kIfE_t, kIfE_f, mAnd_ap, kAnd_t, kAnd_f, mOr_ap, kOr_t, kOr_f, mNot_ap, kNot_ap, blT_ap, kBlT_ap, mTru_ap, kTru_bl, kTru_non, kTru_int, kTru_tup, mTnot_ap, kTnot_ap, mTand_ap, kTand_t, kTand_f, mTor_ap, kTor_t, kTor_f, mIsi_ap, kIsi_int, kIsi_bl, kIsi_str, kIsi_non, kIsi_tup, isiT, gAdd_int, gSub_int, gLt_int, gLe_int, gGt_int, gGe_int, gEq_int, gNe_int, gEq_str, gNe_str, gEq_bl, gNe_bl, gIsN_ap, gNotN_ap, isN, ix_0, ix_1, ix_2, gLen_tup, gAbs_int, gInt_int, gInt_bl, gGcd_int, gMin2_int, gMul_int, gFdiv_int, gMod_int, List.map_cons, List.map_nil, List.length_cons, List.length_nil, List.replicate, List.cons_append, List.nil_append, List.append_nil, List.set_cons_zero, List.set_cons_succ, List.isEmpty_cons, List.isEmpty_nil, Nat.reduceSub, Nat.reduceAdd, Nat.reduceLeDiff, if_true, if_false, reduceIte, Bool.false_eq_true, Bool.true_eq_false, Bool.not_true, Bool.not_false, decide_true, decide_false, reduceCtorEq, eq_self, Nat.zero_add, Nat.reduceMul, natLit, Int.reduceEq, Int.reduceNe, Int.reduceLT, Int.reduceLE, z, z1, e2]
theorem seg11_loop {r : Int} {d : D} (nb : Norm b) (bd : Bad d h) : ∀ (is : List Int) (o6 : Option D), ∃ o6', forL (mgName 6) B11 (fun _ => true) (is.map D.int) (Fm w o2 (some (pr a)) (some (pr b)) (some (.bl nm)) o6 o7 (some d) (some (.int r))) h = .nx (Fm w o2 (some (pr a)) (some (pr b)) (some (.bl nm)) o6' o7 (some d) (some (.int r))) h
  | [], o6 => ⟨o6, rfl⟩
  | i :: is, o6 => by
    have e1 := seg11_turn (w := w) (h := h) (o2 := o2) (o7 := o7) (a := a) (i := i) (r := r) (nm := nm) nb bd
    obtain ⟨o2', e2⟩ := seg11_loop (r := r) (d := d) nb bd is (some (.int i))
    refine ⟨o2', ?_⟩
    rw [List.map_cons]
    simp only [forL, if_true, mgName]
    simp only [Fm, List.set_cons_succ, List.set_cons_zero] at e1 e2 ⊢
    rw [e1]
    exact e2
theorem seg11 {r : Int} {d : D} (nb : Norm b) (bd : Bad d h) : ∃ o6', P11 (Fm w o2 (some (pr a)) (some (pr b)) (some (.bl nm)) o6 o7 (some d) (some (.int r))) h = .nx (Fm w o2 (some (pr a)) (some (pr b)) (some (.bl nm)) o6' o7 (some d) (some (.int r))) h := by
  obtain ⟨o', e⟩ := seg11_loop (w := w) (o2 := o2) (o7 := o7) (a := a) (r := r) (nm := nm) nb bd [0, 1, 2, 3, 4] o6
  refine ⟨o', ?_⟩
  have r4 : rngD 0 5 = [D.int 0, D.int 1, D.int 2, D.int 3, D.int 4] := rfl
  have r62t : r62 5 = true := by decide +kernel
  have i4 : Int.toNat 5 = 5 := rfl
  show mFor (mRng1 (mCons (mC (.int 5)) mNil)) (mgName 6) B11 _ h = _
  generalize B11 = bb at *
  simp only [bind_ok, bind_exc, toS_ok, toS_exc, sb_nx, sb_rt, sb_bk, sb_ct, sb_exc, oo_some, mSeq_ap, mNext_ap, mBreak_ap, mCont_ap, mRet_ap, mRetN_ap, mExpr_ap, mIfS_ap, kIf_t, kIf_f, mAsg_ap, kAsg_name, kAsg_tup2, mPar_ap, kPar_2, mFor_ap, mRaise_ap, mTry_ap, kTry_nx, kTry_rt, kTry_exc, mFun_ap, fin_nx, fin_rt, fin_exc, mC_ap, mVar_0, mVar_s, mBin_ap, kB1_ap, kB2_ap, mUn_ap, kUn_neg, mNil_ap, mCons_ap, kC1_ap, kC2_ap, mTup_ap, kTup_ap, mLst_ap, kLst_ap, mCall_ap, mPick_ap, kPick_01, kPick_10, mB_ap, kG_ap, mIf_ap, kIfE_t, kIfE_f, mAnd_ap, kAnd_t, kAnd_f, mOr_ap, kOr_t, kOr_f, mNot_ap, kNot_ap, blT_ap, kBlT_ap, mTru_ap, kTru_bl, kTru_non, kTru_int, kTru_tup, mTnot_ap, kTnot_ap, mTand_ap, kTand_t, kTand_f, mTor_ap, kTor_t, kTor_f, mIsi_ap, kIsi_int, kIsi_bl, kIsi_str, kIsi_non, kIsi_tup, isiT, gAdd_int, gSub_int, gLt_int, gLe_int, gGt_int, gGe_int, gEq_int, gNe_int, gEq_str, gNe_str, gEq_bl, gNe_bl, gIsN_ap, gNotN_ap, isN, ix_0, ix_1, ix_2, gLen_tup, gAbs_int, gInt_int, gInt_bl, gGcd_int, gMin2_int, gMul_int, gFdiv_int, gMod_int, List.map_cons, List.map_nil, List.length_cons, List.length_nil, List.replicate, List.cons_append, List.nil_append, List.append_nil, List.set_cons_zero, List.set_cons_succ, List.isEmpty_cons, List.isEmpty_nil, Nat.reduceSub, Nat.reduceAdd, Nat.reduceLeDiff, if_true, if_false, reduceIte, Bool.false_eq_true, Bool.true_eq_false, Bool.not_true, Bool.not_false, decide_true, decide_false, reduceCtorEq, eq_self, Nat.zero_add, Nat.reduceMul, natLit, Int.reduceEq, Int.reduceNe, Int.reduceLT, Int.reduceLE, mRng1, r62t, kFor, i4, r4]
  exact e
theorem turn (W : Well h w c cells n) (hn : n ≤ 60000) : ∃ h' p3 p4 p5 p6 p7 p8 p9, TB (Fm w o2 o3 o4 o5 o6 o7 o8 o9) h = .nx (Fm w o2 p3 p4 p5 p6 p7 p8 p9) h' ∧ Well h' w c cells (n + 53) := by
  obtain ⟨a, b0, h1, e1, na, nb0, sa, sb0, W1⟩ := seg1 (o2 := o2) (o3 := o3) (o4 := o4) (o5 := o5) (o6 := o6) (o7 := o7) (o8 := o8) (o9 := o9) W (by omega)
  obtain ⟨b, h2, e2, nb, sb, W2⟩ := seg2 (o2 := o2) (o5 := o5) (o6 := o6) (o7 := o7) (o8 := o8) (o9 := o9) W1 (by omega) na nb0 sa sb0
  have sa := sa.mono (m := 210) (by omega)
  obtain ⟨nm, h3, e3, W3⟩ := seg3 (o2 := o2) (o3 := some (pr a)) (o4 := some (pr b)) (o5 := o5) (o6 := o6) (o7 := o7) (o8 := o8) (o9 := o9) W2 (by omega)
  obtain ⟨h4, p6, e4, W4⟩ := seg4 (o2 := o2) (o6 := o6) (o7 := o7) (o8 := o8) (o9 := o9) (nm := nm) na nb sa sb W3
  have e5 := seg5 (h := h4) (w := w) (o2 := o2) (o6 := p6) (o7 := o7) (o8 := o8) (o9 := o9) (nm := nm) na nb sa sb
  have e6 := seg6 (h := h4) (w := w) (o2 := o2) (o5 := some (.bl nm)) (o6 := p6) (o8 := o8) (o9 := o9) na nb sa sb
  generalize hp7 : some (D.bl (decide (a.1 * b.2 < b.1 * a.2))) = p7 at e5 e6
  obtain ⟨h7, e7, W7⟩ := seg7 (o2 := o2) (o5 := some (.bl nm)) (o6 := p6) (o7 := p7) (o8 := o8) (o9 := o9) na nb sa sb W4
  obtain ⟨h8, e8, W8⟩ := seg8 (o2 := o2) (o5 := some (.bl nm)) (o6 := p6) (o7 := p7) (o8 := o8) (o9 := o9) na nb sa sb W7
  obtain ⟨h9, e9, W9⟩ := seg9 (a := a) (o2 := o2) (o4 := some (pr b)) (o5 := some (.bl nm)) (o6 := p6) (o7 := p7) (o8 := o8) (o9 := o9) W8 (by omega)
  obtain ⟨d, r, h10, e10, bd, W10⟩ := seg10 (o2 := o2) (o4 := some (pr b)) (o5 := some (.bl nm)) (o6 := p6) (o7 := p7) (o8 := o8) (o9 := o9) W9 (by omega) na sa
  obtain ⟨q6, e11⟩ := seg11 (w := w) (a := a) (nm := nm) (o2 := o2) (o6 := p6) (o7 := p7) (r := r) nb bd
  refine ⟨h10, some (pr a), some (pr b), some (.bl nm), q6, p7, some d, some (.int r), ?_, W10.mono (by omega)⟩
  unfold TB
  simp only [mSeq_ap, e1, e2, e3, e4, e5, e6, e7, e8, e9, e10, e11, sb_nx]
theorem turns : ∀ (ds : List D) (h : Hm) (n : Nat) (o2 o3 o4 o5 o6 o7 o8 o9 : Option D), Well h w c cells n → n + 53 * ds.length ≤ 60000 → ∃ fr' h', forL (mgName 2) TB (fun _ => true) ds (Fm w o2 o3 o4 o5 o6 o7 o8 o9) h = .nx fr' h'
  | [], h, n, o2, o3, o4, o5, o6, o7, o8, o9, W, l => ⟨_, h, rfl⟩
  | d :: ds, h, n, o2, o3, o4, o5, o6, o7, o8, o9, W, l => by
    rw [List.length_cons] at l
    obtain ⟨h1, p3, p4, p5, p6, p7, p8, p9, e1, W1⟩ := turn (o2 := some d) (o3 := o3) (o4 := o4) (o5 := o5) (o6 := o6) (o7 := o7) (o8 := o8) (o9 := o9) W (by omega)
    obtain ⟨fr', h', e2⟩ := turns ds h1 (n + 53) (some d) p3 p4 p5 p6 p7 p8 p9 W1 (by omega)
    refine ⟨fr', h', ?_⟩
    simp only [forL, if_true, mgName]
    simp only [Fm, List.set_cons_succ, List.set_cons_zero] at e1 e2 ⊢
    rw [e1]
    exact e2
end
/-! ### the well -/
theorem lc_ints {r s : Nat} {x : Option D} {all : List D} (ne : s ≠ r) : ∀ (ds : List Int) (h : Hm) (acc : List Int), h[s]? = some (.lst all) → h[r]? = some (.lst (acc.map D.int)) → acc.length + ds.length ≤ 1000 →
    ∃ h', lcL r (mgName 1) mYes (mB gInt (mCons (mVar 1) mNil)) (isL s all) [x, none] (ds.map D.int) h = .ok (.ref r) h' ∧ h'.length = h.length ∧ (∀ i, i ≠ r → h'[i]? = h[i]?) ∧ h'[r]? = some (.lst ((acc ++ ds).map D.int))
  | [], h, acc, hs, hr, _ => by
    refine ⟨h, ?_, rfl, fun _ _ => rfl, by rw [List.append_nil]; exact hr⟩
    have g : isL s all h = true := by unfold isL; rw [hs]; exact D.beqs_refl _
    simp only [List.map_nil, lcL, g, if_true]
  | i :: is, h, acc, hs, hr, l => by
    have g : isL s all h = true := by unfold isL; rw [hs]; exact D.beqs_refl _
    have hlt : r < h.length := (List.getElem?_eq_some_iff.mp hr).1
    have hr' : (h.set r (O.lst ((acc ++ [i]).map D.int)))[r]? = some (.lst ((acc ++ [i]).map D.int)) := List.getElem?_set_self hlt
    have hs' : (h.set r (O.lst ((acc ++ [i]).map D.int)))[s]? = some (.lst all) := by rw [List.getElem?_set_ne (fun e => ne e.symm)]; exact hs
    rw [List.length_cons] at l
    obtain ⟨h', e, hl, hk, hh⟩ := lc_ints ne is _ (acc ++ [i]) hs' hr' (by rw [List.length_append, List.length_singleton]; omega)
    refine ⟨h', ?_, by rw [hl, List.length_set], fun j hj => by rw [hk j hj, List.getElem?_set_ne (fun e => hj e.symm)], by rw [hh, List.append_assoc]; rfl⟩
    rw [List.map_cons]
    have ev : mB gInt (mCons (mVar 1) mNil) [x, some (.int i)] h = .ok (.int i) h := by simp only [bind_ok, bind_exc, toS_ok, toS_exc, sb_nx, sb_rt, sb_bk, sb_ct, sb_exc, oo_some, mSeq_ap, mNext_ap, mBreak_ap, mCont_ap, mRet_ap, mRetN_ap, mExpr_ap, mIfS_ap, kIf_t, kIf_f, mAsg_ap, kAsg_name, kAsg_tup2, mPar_ap, kPar_2, mFor_ap, mRaise_ap, mTry_ap, kTry_nx, kTry_rt, kTry_exc, mFun_ap, fin_nx, fin_rt, fin_exc, mC_ap, mVar_0, mVar_s, mBin_ap, kB1_ap, kB2_ap, mUn_ap, kUn_neg, mNil_ap, mCons_ap, kC1_ap, kC2_ap, mTup_ap, kTup_ap, mLst_ap, kLst_ap, mCall_ap, mPick_ap, kPick_01, kPick_10, mB_ap, kG_ap, mIf_ap, kIfE_t, kIfE_f, mAnd_ap, kAnd_t, kAnd_f, mOr_ap, kOr_t, kOr_f, mNot_ap, kNot_ap, blT_ap, kBlT_ap, mTru_ap, kTru_bl, kTru_non, kTru_int, kTru_tup, mTnot_ap, kTnot_ap, mTand_ap, kTand_t, kTand_f, mTor_ap, kTor_t, kTor_f, mIsi_ap, kIsi_int, kIsi_bl, kIsi_str, kIsi_non, kIsi_tup, isiT, gAdd_int, gSub_int, gLt_int, gLe_int, gGt_int, gGe_int, gEq_int, gNe_int, gEq_str, gNe_str, gEq_bl, gNe_bl, gIsN_ap, gNotN_ap, isN, ix_0, ix_1, ix_2, gLen_tup, gAbs_int, gInt_int, gInt_bl, gGcd_int, gMin2_int, gMul_int, gFdiv_int, gMod_int, List.map_cons, List.map_nil, List.length_cons, List.length_nil, List.replicate, List.cons_append, List.nil_append, List.append_nil, List.set_cons_zero, List.set_cons_succ, List.isEmpty_cons, List.isEmpty_nil, Nat.reduceSub, Nat.reduceAdd, Nat.reduceLeDiff, if_true, if_false, reduceIte, Bool.false_eq_true, Bool.true_eq_false, Bool.not_true, Bool.not_false, decide_true, decide_false, reduceCtorEq, eq_self, Nat.zero_add, Nat.reduceMul, natLit, Int.reduceEq, Int.reduceNe, Int.reduceLT, Int.reduceLE]
    simp only [lcL, g, if_true, mgName, List.set_cons_succ, List.set_cons_zero, mYes, ev, hr]
    rw [if_pos (by rw [List.length_map]; omega), ← List.map_singleton, ← List.map_append]
    exact e
theorem well_spec {o : O} {ns : List Int} (hl : ns.length ≤ 63) (ho : o = .lst (ns.map D.int) ∨ o = .rol (ns.map D.int)) : ∃ w c cells h', m_law_well [.ref 0] [o] = .ok (.ref w) h' ∧ Well h' w c cells 0 ∧ h'[0]? = some o := by
  have hsl : slD (.ref 0) none (some 63) [o] = some (.ref 1, [o, O.lst (FM.cutD (ns.map D.int) none (some 63))]) := by
    rcases ho with q | q <;> subst q <;> rfl
  have cut : FM.cutD (ns.map D.int) none (some 63) = ((ns.drop (HT.sIx (ns.map D.int).length 0 none)).take (HT.sIx (ns.map D.int).length (ns.map D.int).length (some 63) - HT.sIx (ns.map D.int).length 0 none)).map D.int := by
    unfold FM.cutD
    rw [List.map_take, List.map_drop]
  generalize hcs : (ns.drop (HT.sIx (ns.map D.int).length 0 none)).take (HT.sIx (ns.map D.int).length (ns.map D.int).length (some 63) - HT.sIx (ns.map D.int).length 0 none) = cs at cut
  have hcl : cs.length ≤ 63 := by
    rw [← hcs, List.length_take, List.length_drop]
    omega
  rw [cut] at hsl
  obtain ⟨h', e, hl', hk, hh⟩ := lc_ints (r := 2) (s := 1) (x := some (.ref 0)) (all := cs.map D.int) (by omega) cs [o, O.lst (cs.map D.int), O.lst []] [] rfl rfl (by simp only [List.length_nil]; omega)
  have l3 : h'.length = 3 := hl'
  refine ⟨3, 2, cs, h' ++ [O.lst [.ref 2, .int 0, .int 0]], ?_, ⟨⟨0, 0, ?_, by omega, by omega, by omega⟩, ?_, by omega⟩, ?_⟩
  · have g : isL 1 (cs.map D.int) = isL 1 (cs.map D.int) := rfl
    have hi : mItL (mSlice (mVar 0) mNoPart (mPart (mC (.int 63)))) [some (.ref 0), none] [o] = .ok (cs.map D.int, isL 1 (cs.map D.int)) [o, O.lst (cs.map D.int)] := by
      simp only [mItL, mSlice, mVar_0 (o := none), bind_ok, mNoPart, mPart, mC_ap, hsl, oo_some]
      rfl
    have hlc : mLc (mItL (mSlice (mVar 0) mNoPart (mPart (mC (.int 63))))) (mgName 1) mYes (mB gInt (mCons (mVar 1) mNil)) [1] [some (.ref 0), none] [o] = .ok (.ref 2) h' := by
      unfold mLc
      rw [hi]
      exact e
    unfold m_law_well b_law_well
    generalize mLc (mItL (mSlice (mVar 0) mNoPart (mPart (mC (.int 63))))) (mgName 1) mYes (mB gInt (mCons (mVar 1) mNil)) [1] = lc at *
    simp only [bind_ok, bind_exc, toS_ok, toS_exc, sb_nx, sb_rt, sb_bk, sb_ct, sb_exc, oo_some, mSeq_ap, mNext_ap, mBreak_ap, mCont_ap, mRet_ap, mRetN_ap, mExpr_ap, mIfS_ap, kIf_t, kIf_f, mAsg_ap, kAsg_name, kAsg_tup2, mPar_ap, kPar_2, mFor_ap, mRaise_ap, mTry_ap, kTry_nx, kTry_rt, kTry_exc, mFun_ap, fin_nx, fin_rt, fin_exc, mC_ap, mVar_0, mVar_s, mBin_ap, kB1_ap, kB2_ap, mUn_ap, kUn_neg, mNil_ap, mCons_ap, kC1_ap, kC2_ap, mTup_ap, kTup_ap, mLst_ap, kLst_ap, mCall_ap, mPick_ap, kPick_01, kPick_10, mB_ap, kG_ap, mIf_ap, kIfE_t, kIfE_f, mAnd_ap, kAnd_t, kAnd_f, mOr_ap, kOr_t, kOr_f, mNot_ap, kNot_ap, blT_ap, kBlT_ap, mTru_ap, kTru_bl, kTru_non, kTru_int, kTru_tup, mTnot_ap, kTnot_ap, mTand_ap, kTand_t, kTand_f, mTor_ap, kTor_t, kTor_f, mIsi_ap, kIsi_int, kIsi_bl, kIsi_str, kIsi_non, kIsi_tup, isiT, gAdd_int, gSub_int, gLt_int, gLe_int, gGt_int, gGe_int, gEq_int, gNe_int, gEq_str, gNe_str, gEq_bl, gNe_bl, gIsN_ap, gNotN_ap, isN, ix_0, ix_1, ix_2, gLen_tup, gAbs_int, gInt_int, gInt_bl, gGcd_int, gMin2_int, gMul_int, gFdiv_int, gMod_int, List.map_cons, List.map_nil, List.length_cons, List.length_nil, List.replicate, List.cons_append, List.nil_append, List.append_nil, List.set_cons_zero, List.set_cons_succ, List.isEmpty_cons, List.isEmpty_nil, Nat.reduceSub, Nat.reduceAdd, Nat.reduceLeDiff, if_true, if_false, reduceIte, Bool.false_eq_true, Bool.true_eq_false, Bool.not_true, Bool.not_false, decide_true, decide_false, reduceCtorEq, eq_self, Nat.zero_add, Nat.reduceMul, natLit, Int.reduceEq, Int.reduceNe, Int.reduceLT, Int.reduceLE, hlc, l3]
  · have q := push_get (h := h') (o := O.lst [.ref 2, .int 0, .int 0])
    rw [l3] at q
    exact q
  · exact (Ext.push).get hh
  · exact (Ext.push).get (hk 0 (by omega))
theorem law_true (ns : List Int) (hl : ns.length ≤ 63) (hb : ∀ z ∈ ns, Builtin.Int.intBits z ≤ 1048576) (o : O) (ho : o = .lst (ns.map D.int) ∨ o = .rol (ns.map D.int)) : ∃ h', m_law [.ref 0] [o] = .ok (.bl true) h' := by
  obtain ⟨w, c, cells, h1, e1, W, h0⟩ := well_spec hl ho
  have hlen : gLen [.ref 0] h1 = some (.int (ns.length : Nat), h1) := by
    rcases ho with q | q <;> subst q <;> simp only [gLen, lenD, h0, List.length_map]
  generalize hm : (if (9 : Int) < ((ns.length : Nat) : Int) then (9 : Int) else ((ns.length : Nat) : Int)) = m
  have m0 : 0 ≤ m ∧ m ≤ 9 := by omega
  have rl : (rngD 0 (12 + m).toNat).length = (12 + m).toNat := by unfold rngD; rw [List.length_map, List.length_range]
  obtain ⟨fr', h', e2⟩ := turns (rngD 0 (12 + m).toNat) h1 0 none none none none none none none none W (by rw [rl]; omega)
  refine ⟨h', ?_⟩
  have r62t : r62 (12 + m) = true := by unfold r62; simp only [Bool.and_eq_true, decide_eq_true_eq]; omega
  have eR : RR (Fm w none none none none none none none none) h1 = .ok (rngD 0 (12 + m).toNat, fun _ => true) h1 := by
    unfold RR
    simp only [bind_ok, bind_exc, toS_ok, toS_exc, sb_nx, sb_rt, sb_bk, sb_ct, sb_exc, oo_some, mSeq_ap, mNext_ap, mBreak_ap, mCont_ap, mRet_ap, mRetN_ap, mExpr_ap, mIfS_ap, kIf_t, kIf_f, mAsg_ap, kAsg_name, kAsg_tup2, mPar_ap, kPar_2, mFor_ap, mRaise_ap, mTry_ap, kTry_nx, kTry_rt, kTry_exc, mFun_ap, fin_nx, fin_rt, fin_exc, mC_ap, mVar_0, mVar_s, mBin_ap, kB1_ap, kB2_ap, mUn_ap, kUn_neg, mNil_ap, mCons_ap, kC1_ap, kC2_ap, mTup_ap, kTup_ap, mLst_ap, kLst_ap, mCall_ap, mPick_ap, kPick_01, kPick_10, mB_ap, kG_ap, mIf_ap, kIfE_t, kIfE_f, mAnd_ap, kAnd_t, kAnd_f, mOr_ap, kOr_t, kOr_f, mNot_ap, kNot_ap, blT_ap, kBlT_ap, mTru_ap, kTru_bl, kTru_non, kTru_int, kTru_tup, mTnot_ap, kTnot_ap, mTand_ap, kTand_t, kTand_f, mTor_ap, kTor_t, kTor_f, mIsi_ap, kIsi_int, kIsi_bl, kIsi_str, kIsi_non, kIsi_tup, isiT, gAdd_int, gSub_int, gLt_int, gLe_int, gGt_int, gGe_int, gEq_int, gNe_int, gEq_str, gNe_str, gEq_bl, gNe_bl, gIsN_ap, gNotN_ap, isN, ix_0, ix_1, ix_2, gLen_tup, gAbs_int, gInt_int, gInt_bl, gGcd_int, gMin2_int, gMul_int, gFdiv_int, gMod_int, List.map_cons, List.map_nil, List.length_cons, List.length_nil, List.replicate, List.cons_append, List.nil_append, List.append_nil, List.set_cons_zero, List.set_cons_succ, List.isEmpty_cons, List.isEmpty_nil, Nat.reduceSub, Nat.reduceAdd, Nat.reduceLeDiff, if_true, if_false, reduceIte, Bool.false_eq_true, Bool.true_eq_false, Bool.not_true, Bool.not_false, decide_true, decide_false, reduceCtorEq, eq_self, Nat.zero_add, Nat.reduceMul, natLit, Int.reduceEq, Int.reduceNe, Int.reduceLT, Int.reduceLE, mRng1, hlen, hm, r62t]
  have eP : P0 [some (.ref 0), none, none, none, none, none, none, none, none, none] [o] = .nx (Fm w none none none none none none none none) h1 := by
    unfold P0
    generalize m_law_well = f at *
    simp only [bind_ok, bind_exc, toS_ok, toS_exc, sb_nx, sb_rt, sb_bk, sb_ct, sb_exc, oo_some, mSeq_ap, mNext_ap, mBreak_ap, mCont_ap, mRet_ap, mRetN_ap, mExpr_ap, mIfS_ap, kIf_t, kIf_f, mAsg_ap, kAsg_name, kAsg_tup2, mPar_ap, kPar_2, mFor_ap, mRaise_ap, mTry_ap, kTry_nx, kTry_rt, kTry_exc, mFun_ap, fin_nx, fin_rt, fin_exc, mC_ap, mVar_0, mVar_s, mBin_ap, kB1_ap, kB2_ap, mUn_ap, kUn_neg, mNil_ap, mCons_ap, kC1_ap, kC2_ap, mTup_ap, kTup_ap, mLst_ap, kLst_ap, mCall_ap, mPick_ap, kPick_01, kPick_10, mB_ap, kG_ap, mIf_ap, kIfE_t, kIfE_f, mAnd_ap, kAnd_t, kAnd_f, mOr_ap, kOr_t, kOr_f, mNot_ap, kNot_ap, blT_ap, kBlT_ap, mTru_ap, kTru_bl, kTru_non, kTru_int, kTru_tup, mTnot_ap, kTnot_ap, mTand_ap, kTand_t, kTand_f, mTor_ap, kTor_t, kTor_f, mIsi_ap, kIsi_int, kIsi_bl, kIsi_str, kIsi_non, kIsi_tup, isiT, gAdd_int, gSub_int, gLt_int, gLe_int, gGt_int, gGe_int, gEq_int, gNe_int, gEq_str, gNe_str, gEq_bl, gNe_bl, gIsN_ap, gNotN_ap, isN, ix_0, ix_1, ix_2, gLen_tup, gAbs_int, gInt_int, gInt_bl, gGcd_int, gMin2_int, gMul_int, gFdiv_int, gMod_int, List.map_cons, List.map_nil, List.length_cons, List.length_nil, List.replicate, List.cons_append, List.nil_append, List.append_nil, List.set_cons_zero, List.set_cons_succ, List.isEmpty_cons, List.isEmpty_nil, Nat.reduceSub, Nat.reduceAdd, Nat.reduceLeDiff, if_true, if_false, reduceIte, Bool.false_eq_true, Bool.true_eq_false, Bool.not_true, Bool.not_false, decide_true, decide_false, reduceCtorEq, eq_self, Nat.zero_add, Nat.reduceMul, natLit, Int.reduceEq, Int.reduceNe, Int.reduceLT, Int.reduceLE, e1]
  have eF : mFor RR (mgName 2) TB (Fm w none none none none none none none none) h1 = .nx fr' h' := by
    rw [mFor_ap, eR, toS_ok]
    exact e2
  unfold m_law
  rw [b_law_eq]
  show finF ((mSeq P0 (mSeq (mFor RR (mgName 2) TB) (mRet (mC (.bl true))))) [some (.ref 0), none, none, none, none, none, none, none, none, none] [o]) = _
  generalize P0 = p at *
  generalize mFor RR (mgName 2) TB = q at *
  simp only [bind_ok, bind_exc, toS_ok, toS_exc, sb_nx, sb_rt, sb_bk, sb_ct, sb_exc, oo_some, mSeq_ap, mNext_ap, mBreak_ap, mCont_ap, mRet_ap, mRetN_ap, mExpr_ap, mIfS_ap, kIf_t, kIf_f, mAsg_ap, kAsg_name, kAsg_tup2, mPar_ap, kPar_2, mFor_ap, mRaise_ap, mTry_ap, kTry_nx, kTry_rt, kTry_exc, mFun_ap, fin_nx, fin_rt, fin_exc, mC_ap, mVar_0, mVar_s, mBin_ap, kB1_ap, kB2_ap, mUn_ap, kUn_neg, mNil_ap, mCons_ap, kC1_ap, kC2_ap, mTup_ap, kTup_ap, mLst_ap, kLst_ap, mCall_ap, mPick_ap, kPick_01, kPick_10, mB_ap, kG_ap, mIf_ap, kIfE_t, kIfE_f, mAnd_ap, kAnd_t, kAnd_f, mOr_ap, kOr_t, kOr_f, mNot_ap, kNot_ap, blT_ap, kBlT_ap, mTru_ap, kTru_bl, kTru_non, kTru_int, kTru_tup, mTnot_ap, kTnot_ap, mTand_ap, kTand_t, kTand_f, mTor_ap, kTor_t, kTor_f, mIsi_ap, kIsi_int, kIsi_bl, kIsi_str, kIsi_non, kIsi_tup, isiT, gAdd_int, gSub_int, gLt_int, gLe_int, gGt_int, gGe_int, gEq_int, gNe_int, gEq_str, gNe_str, gEq_bl, gNe_bl, gIsN_ap, gNotN_ap, isN, ix_0, ix_1, ix_2, gLen_tup, gAbs_int, gInt_int, gInt_bl, gGcd_int, gMin2_int, gMul_int, gFdiv_int, gMod_int, List.map_cons, List.map_nil, List.length_cons, List.length_nil, List.replicate, List.cons_append, List.nil_append, List.append_nil, List.set_cons_zero, List.set_cons_succ, List.isEmpty_cons, List.isEmpty_nil, Nat.reduceSub, Nat.reduceAdd, Nat.reduceLeDiff, if_true, if_false, reduceIte, Bool.false_eq_true, Bool.true_eq_false, Bool.not_true, Bool.not_false, decide_true, decide_false, reduceCtorEq, eq_self, Nat.zero_add, Nat.reduceMul, natLit, Int.reduceEq, Int.reduceNe, Int.reduceLT, Int.reduceLE, eP, eF]
end K63

set_option Elab.async false
set_option linter.all false
set_option maxRecDepth 100000
set_option maxHeartbeats 4000000
namespace K63
open PySem PySem.Spec PyProof.Rows L2 FM
def d_is_int : He.DefD := ⟨("is_int", none), "is_int", "is_int", defArgs s_is_int, defBody s_is_int, defScope s_is_int, [], []⟩
def d_lowest : He.DefD := ⟨("lowest", none), "lowest", "lowest", defArgs s_lowest, defBody s_lowest, defScope s_lowest, [], []⟩
def d_is_ratio : He.DefD := ⟨("is_ratio", none), "is_ratio", "is_ratio", defArgs s_is_ratio, defBody s_is_ratio, defScope s_is_ratio, [], []⟩
def d_need_ratio : He.DefD := ⟨("need_ratio", none), "need_ratio", "need_ratio", defArgs s_need_ratio, defBody s_need_ratio, defScope s_need_ratio, [], []⟩
def d_ratio : He.DefD := ⟨("ratio", none), "ratio", "ratio", defArgs s_ratio, defBody s_ratio, defScope s_ratio, [], []⟩
def d_plus : He.DefD := ⟨("plus", none), "plus", "plus", defArgs s_plus, defBody s_plus, defScope s_plus, [], []⟩
def d_minus : He.DefD := ⟨("minus", none), "minus", "minus", defArgs s_minus, defBody s_minus, defScope s_minus, [], []⟩
def d_product : He.DefD := ⟨("product", none), "product", "product", defArgs s_product, defBody s_product, defScope s_product, [], []⟩
def d_quotient : He.DefD := ⟨("quotient", none), "quotient", "quotient", defArgs s_quotient, defBody s_quotient, defScope s_quotient, [], []⟩
def d_below : He.DefD := ⟨("below", none), "below", "below", defArgs s_below, defBody s_below, defScope s_below, [], []⟩
def d_law_well : He.DefD := ⟨("_law_well", none), "_law_well", "_law_well", defArgs s_law_well, defBody s_law_well, defScope s_law_well, [], []⟩
def d_law_draw : He.DefD := ⟨("_law_draw", none), "_law_draw", "_law_draw", defArgs s_law_draw, defBody s_law_draw, defScope s_law_draw, [], []⟩
def d_law_one : He.DefD := ⟨("_law_one", none), "_law_one", "_law_one", defArgs s_law_one, defBody s_law_one, defScope s_law_one, [], []⟩
def d_law_same : He.DefD := ⟨("_law_same", none), "_law_same", "_law_same", defArgs s_law_same, defBody s_law_same, defScope s_law_same, [], []⟩
def d_law_common : He.DefD := ⟨("_law_common", none), "_law_common", "_law_common", defArgs s_law_common, defBody s_law_common, defScope s_law_common, [], []⟩
def d_law_short : He.DefD := ⟨("_law_short", none), "_law_short", "_law_short", defArgs s_law_short, defBody s_law_short, defScope s_law_short, [], []⟩
def d_law_integer : He.DefD := ⟨("_law_integer", none), "_law_integer", "_law_integer", defArgs s_law_integer, defBody s_law_integer, defScope s_law_integer, [], []⟩
def d_law_ratio : He.DefD := ⟨("_law_ratio", none), "_law_ratio", "_law_ratio", defArgs s_law_ratio, defBody s_law_ratio, defScope s_law_ratio, [], []⟩
def d_law_none : He.DefD := ⟨("_law_none", none), "_law_none", "_law_none", defArgs s_law_none, defBody s_law_none, defScope s_law_none, [], []⟩
def d_law_call : He.DefD := ⟨("_law_call", none), "_law_call", "_law_call", defArgs s_law_call, defBody s_law_call, defScope s_law_call, [], []⟩
def d_law_told : He.DefD := ⟨("_law_told", none), "_law_told", "_law_told", defArgs s_law_told, defBody s_law_told, defScope s_law_told, [], []⟩
def d_law_due : He.DefD := ⟨("_law_due", none), "_law_due", "_law_due", defArgs s_law_due, defBody s_law_due, defScope s_law_due, [], []⟩
def d_law_ratio_right : He.DefD := ⟨("_law_ratio_right", none), "_law_ratio_right", "_law_ratio_right", defArgs s_law_ratio_right, defBody s_law_ratio_right, defScope s_law_ratio_right, [], []⟩
def d_law : He.DefD := ⟨("law", none), "law", "law", defArgs s_law, defBody s_law, defScope s_law, [], []⟩
def dfs : List He.DefD := [d_is_int, d_lowest, d_is_ratio, d_need_ratio, d_ratio, d_plus, d_minus, d_product, d_quotient, d_below, d_law_well, d_law_draw, d_law_one, d_law_same, d_law_common, d_law_short, d_law_integer, d_law_ratio, d_law_none, d_law_call, d_law_told, d_law_due, d_law_ratio_right, d_law]
def fa0 : List He.Fa := [.glo "is_int", .glo "lowest", .glo "is_ratio", .glo "need_ratio", .glo "ratio", .glo "plus", .glo "minus", .glo "product", .glo "quotient", .glo "below", .glo "_law_well", .glo "_law_draw", .glo "_law_one", .glo "_law_same", .glo "_law_common", .glo "_law_short", .glo "_law_integer", .glo "_law_ratio", .glo "_law_none", .glo "_law_call", .glo "_law_told", .glo "_law_due", .glo "_law_ratio_right", .glo "law", .free "isinstance", .free "int", .free "bool", .free "tuple", .free "len", .free "abs", .free "range", .free "str", .free "min", .exc "FlatError", .exc "BadRatio", .exc "ZeroBottom", .glo "FlatError", .glo "BadRatio", .glo "ZeroBottom"]
def fa : List He.Fa := fa0 ++ tabFa tabL
def fb : List Fb := [fun K => bltB K "gcd" "math.gcd"]
abbrev R : PySem.W.OpenRow := PySem.W.OpenLaw.row PySem.Challenge.rw_flatfuns_k63_ratios_of_great_integers
abbrev hk : PySem.W.Hook := hookX 4 fb fa dfs
def ob (s : PySem.W.SharedT) : AlX := obsXG 4 fb fa dfs (HandSHeadRun.getT s)
theorem ob_eq (s : PySem.W.SharedT) : ob s = hk.obs s.abs := obsXG_eq (HandSHeadRun.getT_eq s)
def loose : List Str := (["FlatError", "BadRatio", "ZeroBottom", "is_int", "lowest", "is_ratio", "need_ratio", "ratio", "plus", "minus", "product", "quotient", "below", "_law_well", "_law_draw", "_law_one", "_law_same", "_law_common", "_law_short", "_law_integer", "_law_ratio", "_law_none", "_law_call", "_law_told", "_law_due", "_law_ratio_right"] : List Str)
theorem run (w : World) : HandSHeadRun.RunEqI R (PySem.W.view R.prog [0, 31]) hk ob 60000 loose w := by
  unfold HandSHeadRun.RunEqI
  kernel_rfl
theorem facts {P : Program} {w : World} {K : PySem.W.Frag} {h : Heap} {mg : Str → Option Value} {f : Addr} (X : K.In h) (G : h.Ns mainGlobals mg) (hfa : mg ("law" : Str) = some (.ref f)) (c : SaysX fb fa dfs K) :
    ∃ fd : FuncData, (∀ (s : Shared) (v : Value), BindsTo s fd ⟨[v], []⟩ [("script", v)]) ∧ ∀ base : Heap, K.In base → base.Ns mainGlobals mg → FnOk P w K mg base (L2.CX P w) 7 f fd ["script"] (spOf K mg 1 m_law) := by
  have ca : ∀ f ∈ fa0, f.ok K = true := fun f hf => c.all f (List.mem_append_left _ hf)
  have T : TabOk K mg tab := tab_ok X G (l := tabL) fun f hf => c.all f (List.mem_append_right _ hf)
  have z_isinstance : mg "isinstance" = none := He.free_ok X G (ca (.free "isinstance") (List.mem_of_getElem? (i := 24) rfl))
  have z_int : mg "int" = none := He.free_ok X G (ca (.free "int") (List.mem_of_getElem? (i := 25) rfl))
  have z_bool : mg "bool" = none := He.free_ok X G (ca (.free "bool") (List.mem_of_getElem? (i := 26) rfl))
  have z_tuple : mg "tuple" = none := He.free_ok X G (ca (.free "tuple") (List.mem_of_getElem? (i := 27) rfl))
  have z_len : mg "len" = none := He.free_ok X G (ca (.free "len") (List.mem_of_getElem? (i := 28) rfl))
  have z_abs : mg "abs" = none := He.free_ok X G (ca (.free "abs") (List.mem_of_getElem? (i := 29) rfl))
  have z_range : mg "range" = none := He.free_ok X G (ca (.free "range") (List.mem_of_getElem? (i := 30) rfl))
  have z_str : mg "str" = none := He.free_ok X G (ca (.free "str") (List.mem_of_getElem? (i := 31) rfl))
  have z_min : mg "min" = none := He.free_ok X G (ca (.free "min") (List.mem_of_getElem? (i := 32) rfl))
  have y_gcd : mg "gcd" = some (.builtin "math.gcd") := bltB_ok X G (c.b 0 (f := fun K => bltB K "gcd" "math.gcd") rfl)
  have C_FlatError := He.glo_ok X G (ca (.glo "FlatError") (List.mem_of_getElem? (i := 36) rfl))
  have X_FlatError : ExcIn K mg "FlatError" (He.ga K "FlatError") := ⟨C_FlatError, (He.exc_ok (ca (.exc "FlatError") (List.mem_of_getElem? (i := 33) rfl))).1, (He.exc_ok (ca (.exc "FlatError") (List.mem_of_getElem? (i := 33) rfl))).2.1, (He.exc_ok (ca (.exc "FlatError") (List.mem_of_getElem? (i := 33) rfl))).2.2.1, (He.exc_ok (ca (.exc "FlatError") (List.mem_of_getElem? (i := 33) rfl))).2.2.2⟩
  have C_BadRatio := He.glo_ok X G (ca (.glo "BadRatio") (List.mem_of_getElem? (i := 37) rfl))
  have X_BadRatio : ExcIn K mg "BadRatio" (He.ga K "BadRatio") := ⟨C_BadRatio, (He.exc_ok (ca (.exc "BadRatio") (List.mem_of_getElem? (i := 34) rfl))).1, (He.exc_ok (ca (.exc "BadRatio") (List.mem_of_getElem? (i := 34) rfl))).2.1, (He.exc_ok (ca (.exc "BadRatio") (List.mem_of_getElem? (i := 34) rfl))).2.2.1, (He.exc_ok (ca (.exc "BadRatio") (List.mem_of_getElem? (i := 34) rfl))).2.2.2⟩
  have C_ZeroBottom := He.glo_ok X G (ca (.glo "ZeroBottom") (List.mem_of_getElem? (i := 38) rfl))
  have X_ZeroBottom : ExcIn K mg "ZeroBottom" (He.ga K "ZeroBottom") := ⟨C_ZeroBottom, (He.exc_ok (ca (.exc "ZeroBottom") (List.mem_of_getElem? (i := 35) rfl))).1, (He.exc_ok (ca (.exc "ZeroBottom") (List.mem_of_getElem? (i := 35) rfl))).2.1, (He.exc_ok (ca (.exc "ZeroBottom") (List.mem_of_getElem? (i := 35) rfl))).2.2.1, (He.exc_ok (ca (.exc "ZeroBottom") (List.mem_of_getElem? (i := 35) rfl))).2.2.2⟩
  obtain ⟨fd_is_int, F_is_int⟩ := c.d.def_ 0 (d := d_is_int) rfl
  have M_is_int := He.glo_ok X G (ca (.glo "is_int") (List.mem_of_getElem? (i := 0) rfl))
  obtain ⟨fd_lowest, F_lowest⟩ := c.d.def_ 1 (d := d_lowest) rfl
  have M_lowest := He.glo_ok X G (ca (.glo "lowest") (List.mem_of_getElem? (i := 1) rfl))
  obtain ⟨fd_is_ratio, F_is_ratio⟩ := c.d.def_ 2 (d := d_is_ratio) rfl
  have M_is_ratio := He.glo_ok X G (ca (.glo "is_ratio") (List.mem_of_getElem? (i := 2) rfl))
  obtain ⟨fd_need_ratio, F_need_ratio⟩ := c.d.def_ 3 (d := d_need_ratio) rfl
  have M_need_ratio := He.glo_ok X G (ca (.glo "need_ratio") (List.mem_of_getElem? (i := 3) rfl))
  obtain ⟨fd_ratio, F_ratio⟩ := c.d.def_ 4 (d := d_ratio) rfl
  have M_ratio := He.glo_ok X G (ca (.glo "ratio") (List.mem_of_getElem? (i := 4) rfl))
  obtain ⟨fd_plus, F_plus⟩ := c.d.def_ 5 (d := d_plus) rfl
  have M_plus := He.glo_ok X G (ca (.glo "plus") (List.mem_of_getElem? (i := 5) rfl))
  obtain ⟨fd_minus, F_minus⟩ := c.d.def_ 6 (d := d_minus) rfl
  have M_minus := He.glo_ok X G (ca (.glo "minus") (List.mem_of_getElem? (i := 6) rfl))
  obtain ⟨fd_product, F_product⟩ := c.d.def_ 7 (d := d_product) rfl
  have M_product := He.glo_ok X G (ca (.glo "product") (List.mem_of_getElem? (i := 7) rfl))
  obtain ⟨fd_quotient, F_quotient⟩ := c.d.def_ 8 (d := d_quotient) rfl
  have M_quotient := He.glo_ok X G (ca (.glo "quotient") (List.mem_of_getElem? (i := 8) rfl))
  obtain ⟨fd_below, F_below⟩ := c.d.def_ 9 (d := d_below) rfl
  have M_below := He.glo_ok X G (ca (.glo "below") (List.mem_of_getElem? (i := 9) rfl))
  obtain ⟨fd_law_well, F_law_well⟩ := c.d.def_ 10 (d := d_law_well) rfl
  have M_law_well := He.glo_ok X G (ca (.glo "_law_well") (List.mem_of_getElem? (i := 10) rfl))
  obtain ⟨fd_law_draw, F_law_draw⟩ := c.d.def_ 11 (d := d_law_draw) rfl
  have M_law_draw := He.glo_ok X G (ca (.glo "_law_draw") (List.mem_of_getElem? (i := 11) rfl))
  obtain ⟨fd_law_one, F_law_one⟩ := c.d.def_ 12 (d := d_law_one) rfl
  have M_law_one := He.glo_ok X G (ca (.glo "_law_one") (List.mem_of_getElem? (i := 12) rfl))
  obtain ⟨fd_law_same, F_law_same⟩ := c.d.def_ 13 (d := d_law_same) rfl
  have M_law_same := He.glo_ok X G (ca (.glo "_law_same") (List.mem_of_getElem? (i := 13) rfl))
  obtain ⟨fd_law_common, F_law_common⟩ := c.d.def_ 14 (d := d_law_common) rfl
  have M_law_common := He.glo_ok X G (ca (.glo "_law_common") (List.mem_of_getElem? (i := 14) rfl))
  obtain ⟨fd_law_short, F_law_short⟩ := c.d.def_ 15 (d := d_law_short) rfl
  have M_law_short := He.glo_ok X G (ca (.glo "_law_short") (List.mem_of_getElem? (i := 15) rfl))
  obtain ⟨fd_law_integer, F_law_integer⟩ := c.d.def_ 16 (d := d_law_integer) rfl
  have M_law_integer := He.glo_ok X G (ca (.glo "_law_integer") (List.mem_of_getElem? (i := 16) rfl))
  obtain ⟨fd_law_ratio, F_law_ratio⟩ := c.d.def_ 17 (d := d_law_ratio) rfl
  have M_law_ratio := He.glo_ok X G (ca (.glo "_law_ratio") (List.mem_of_getElem? (i := 17) rfl))
  obtain ⟨fd_law_none, F_law_none⟩ := c.d.def_ 18 (d := d_law_none) rfl
  have M_law_none := He.glo_ok X G (ca (.glo "_law_none") (List.mem_of_getElem? (i := 18) rfl))
  obtain ⟨fd_law_call, F_law_call⟩ := c.d.def_ 19 (d := d_law_call) rfl
  have M_law_call := He.glo_ok X G (ca (.glo "_law_call") (List.mem_of_getElem? (i := 19) rfl))
  obtain ⟨fd_law_told, F_law_told⟩ := c.d.def_ 20 (d := d_law_told) rfl
  have M_law_told := He.glo_ok X G (ca (.glo "_law_told") (List.mem_of_getElem? (i := 20) rfl))
  obtain ⟨fd_law_due, F_law_due⟩ := c.d.def_ 21 (d := d_law_due) rfl
  have M_law_due := He.glo_ok X G (ca (.glo "_law_due") (List.mem_of_getElem? (i := 21) rfl))
  obtain ⟨fd_law_ratio_right, F_law_ratio_right⟩ := c.d.def_ 22 (d := d_law_ratio_right) rfl
  have M_law_ratio_right := He.glo_ok X G (ca (.glo "_law_ratio_right") (List.mem_of_getElem? (i := 22) rfl))
  obtain ⟨fd_law, F_law⟩ := c.d.def_ 23 (d := d_law) rfl
  have M_law := He.glo_ok X G (ca (.glo "law") (List.mem_of_getElem? (i := 23) rfl))
  have e := hfa.symm.trans M_law
  cases e
  have B_plus_a_b : KwB K fd_plus ["a", "b"] ["a", "b"] [0, 1] := KwB.of F_plus fun _ _ _ _ _ _ ws hl => match ws, hl with | [_, _], _ => rfl
  have B_minus_b_a : KwB K fd_minus ["a", "b"] ["b", "a"] [1, 0] := KwB.of F_minus fun _ _ _ _ _ _ ws hl => match ws, hl with | [_, _], _ => rfl
  have B_product_a_b : KwB K fd_product ["a", "b"] ["a", "b"] [0, 1] := KwB.of F_product fun _ _ _ _ _ _ ws hl => match ws, hl with | [_, _], _ => rfl
  have B_quotient_b_a : KwB K fd_quotient ["a", "b"] ["b", "a"] [1, 0] := KwB.of F_quotient fun _ _ _ _ _ _ ws hl => match ws, hl with | [_, _], _ => rfl
  have B_below_b_a : KwB K fd_below ["a", "b"] ["b", "a"] [1, 0] := KwB.of F_below fun _ _ _ _ _ _ ws hl => match ws, hl with | [_, _], _ => rfl
  have B_ratio_bottom_top : KwB K fd_ratio ["top", "bottom"] ["bottom", "top"] [1, 0] := KwB.of F_ratio fun _ _ _ _ _ _ ws hl => match ws, hl with | [_, _], _ => rfl
  refine ⟨fd_law, fun s v => FunD.bindsA (ps := ["script"]) F_law (fun _ _ _ _ _ _ us hl => match us, hl with | [_], _ => rfl) s [v] rfl, fun base _ _ => ?_⟩
  have G_is_int := ok_is_int (P := P) (w := w) (base := base) F_is_int M_is_int z_isinstance z_int z_bool
  have G_lowest := ok_lowest (P := P) (w := w) (base := base) F_lowest M_lowest y_gcd
  have G_is_ratio := ok_is_ratio (P := P) (w := w) (base := base) F_is_ratio M_is_ratio G_is_int z_isinstance z_tuple z_len y_gcd
  have G_need_ratio := ok_need_ratio (P := P) (w := w) (base := base) F_need_ratio M_need_ratio G_is_ratio X_BadRatio
  have G_ratio := ok_ratio (P := P) (w := w) (base := base) F_ratio M_ratio G_lowest X_ZeroBottom
  have G_plus := ok_plus (P := P) (w := w) (base := base) F_plus M_plus G_need_ratio G_lowest
  have G_minus := ok_minus (P := P) (w := w) (base := base) F_minus M_minus G_need_ratio G_lowest
  have G_product := ok_product (P := P) (w := w) (base := base) F_product M_product G_need_ratio G_lowest
  have G_quotient := ok_quotient (P := P) (w := w) (base := base) F_quotient M_quotient G_need_ratio G_lowest X_ZeroBottom
  have G_below := ok_below (P := P) (w := w) (base := base) F_below M_below G_need_ratio
  have G_law_well := ok_law_well (P := P) (w := w) (base := base) F_law_well M_law_well z_int
  have G_law_draw := ok_law_draw (P := P) (w := w) (base := base) F_law_draw M_law_draw z_len z_abs z_int
  have G_law_one := ok_law_one (P := P) (w := w) (base := base) F_law_one M_law_one G_law_draw z_len
  have G_law_same : FnIn P w K mg base "_law_same" (He.ga K "_law_same") fd_law_same ["found", "due"] 4 (m_law_same 4) := by
    have all : ∀ n, FnIn P w K mg base "_law_same" (He.ga K "_law_same") fd_law_same ["found", "due"] (0 + n) (m_law_same n) := fun n => by
      induction n with
      | zero => exact ⟨fn_stuck, M_law_same, F_law_same.kp, F_law_same.bindsN fun _ _ _ _ _ _ us hl => match us, hl with | [_, _], _ => rfl⟩
      | succ n ih => exact ok_law_same F_law_same M_law_same ih z_isinstance z_tuple z_len z_range z_str z_int z_bool
    exact all 4
  have G_law_common := ok_law_common (P := P) (w := w) (base := base) F_law_common M_law_common z_abs z_int
  have G_law_short := ok_law_short (P := P) (w := w) (base := base) F_law_short M_law_short G_law_common
  have G_law_integer := ok_law_integer (P := P) (w := w) (base := base) F_law_integer M_law_integer G_law_draw G_law_one z_range
  have G_law_ratio := ok_law_ratio (P := P) (w := w) (base := base) F_law_ratio M_law_ratio G_law_integer G_law_short
  have G_law_none := ok_law_none (P := P) (w := w) (base := base) F_law_none M_law_none G_law_one z_str
  have G_law_call := ok_law_call (P := P) (w := w) (base := base) F_law_call M_law_call G_plus B_plus_a_b G_minus B_minus_b_a G_product B_product_a_b G_quotient B_quotient_b_a G_below B_below_b_a
  have G_law_told := ok_law_told (P := P) (w := w) (base := base) F_law_told M_law_told G_law_call T C_FlatError C_ZeroBottom C_BadRatio
  have G_law_due := ok_law_due (P := P) (w := w) (base := base) F_law_due M_law_due G_law_short
  have G_law_ratio_right := ok_law_ratio_right (P := P) (w := w) (base := base) F_law_ratio_right M_law_ratio_right G_ratio B_ratio_bottom_top G_law_same G_law_short T C_ZeroBottom
  have G_law := ok_law (P := P) (w := w) (base := base) F_law M_law G_law_well G_law_ratio G_law_draw G_law_one G_law_same G_law_told G_law_due G_minus G_plus G_quotient G_product G_law_ratio_right G_law_integer G_law_none z_range z_min z_len z_isinstance z_bool
  exact G_law.ok
end K63
open PySem PySem.W PySem.Calls PyProof.Rows
set_option maxRecDepth 100000 in
set_option maxHeartbeats 0 in
theorem PySem.Challenge.cw_flatfuns_k63_ratios_of_great_integers_holds : PySem.Challenge.rw_flatfuns_k63_ratios_of_great_integers.Holds := by
  w_on; o_law
  refine HandSHeadRun.head_imp (r := OpenLaw.row PySem.Challenge.rw_flatfuns_k63_ratios_of_great_integers) (q := view (OpenLaw.row PySem.Challenge.rw_flatfuns_k63_ratios_of_great_integers).prog [0, 31]) (H := K63.hk) (ob := K63.ob) (M := 60000) (loose := K63.loose) (d := HandSHeadRun.topDef (OpenLaw.row PySem.Challenge.rw_flatfuns_k63_ratios_of_great_integers).prog 31) (kwd := []) K63.ob_eq
    K63.run (by kernel_rfl) (by kernel_rfl) (by kernel_rfl) (by rfl) (by first | assumption | decide +kernel) (by decide +kernel) ⟨rfl, rfl, rfl, rfl, rfl, by decide +kernel⟩ ?hw ?hc
  case hw => w_witness2
  case hc =>
    refine FM.walk_ofX (l := PySem.Challenge.rw_flatfuns_k63_ratios_of_great_integers) (n := 63) (k := 7) (x := "script") (CX := fun w => L2.CX (PySem.Challenge.rw_flatfuns_k63_ratios_of_great_integers).prog w) rfl (by decide) (by kernel_rfl) ⟨rfl, by decide, by decide⟩ ?F (fun _ _ _ _ _ z => FM.cx_none z)
    intro w mg fa h Y G hmg0
    obtain ⟨K, KX, c⟩ := Y
    have hmg : mg ("law" : PySem.Str) = some (.ref fa) := by
      have e : (HandSHeadRun.topDef (OpenLaw.row PySem.Challenge.rw_flatfuns_k63_ratios_of_great_integers).prog 31).name = ("law" : PySem.Str) := by kernel_rfl
      rw [← e]
      exact hmg0
    obtain ⟨fd, hb, hF⟩ := K63.facts (P := (PySem.Challenge.rw_flatfuns_k63_ratios_of_great_integers).prog) (w := w) KX G hmg c
    exact ⟨K, fd, FM.spOf K mg 1 K63.m_law, KX, hb, fun H a ns hl hbits _ hS => FM.sp_start hS fun o ho => K63.law_true ns hl hbits o ho, hF⟩
