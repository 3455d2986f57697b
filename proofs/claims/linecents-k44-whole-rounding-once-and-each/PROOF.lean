import PyProof.Rows.All
import Wide.All
import OpenK.AllK
import Wide.FinOn
import HandS.ForMost
import HandS.Star
import HandS.Defaults
import HandS.Property
import HandS.TupAny
import HandS.TupMul
import HandS.TupLen
import HandS.DictTup
import HandS.DictComp
import HandS.Zip
import HandS.FStr
import HandS.Style
import HandS.IsInst
import HandS.Flow
import HandS.Conv
import HandS.Codes
import HandS.Walk
import HandS.Evl
import HandS.HeadHook1
import HandS.HeadHook2
import HandS.HeadNt
import PySem.Challenge.RW_linecents_k44_whole_rounding_once_and_ea
import KE.KStateDown
import Lean
import HandS.HeadEnd
import HandS.Head0
import HandS.Head1
import HandS.Head2
import KE.GoesEnum
import KE.GoesMore
import KE.GoesZip
import KE.KDictWalk

section
-- text Fw
set_option Elab.async false
set_option linter.all false
set_option maxRecDepth 100000
set_option maxHeartbeats 4000000
/-! Data, slots, and what evaluates to them. -/
namespace K44
open PySem PySem.Spec L2
open Evl (Ex)

/-! ### data -/
inductive Dt where
  | v (x : V)
  | tup (ds : List Dt)
mutual
def Rep (H : Hp) : Dt → V → Prop
  | .v x, y => y = x
  | .tup ds, y => ∃ p vs, y = .ref p ∧ H p = some (.tup vs) ∧ RepL H ds vs
def RepL (H : Hp) : List Dt → List V → Prop
  | [], vs => vs = []
  | d :: ds, vs => ∃ v r, vs = v :: r ∧ Rep H d v ∧ RepL H ds r
end
/-- the tuples of H stand in H' -/
def Tups (H H' : Hp) : Prop := ∀ a xs, H a = some (.tup xs) → H' a = some (.tup xs)
theorem Tups.ex {H H' : Hp} (e : Ex H H') : Tups H H' := fun a xs h => e a _ h
theorem Tups.upd {H : Hp} {p : Addr} {o : HO} (h : ∀ xs, H p ≠ some (.tup xs)) : Tups H (upd H p o) := fun a xs e => by
  have n : a ≠ p := fun z => h xs (z ▸ e)
  rw [upd_ne n]; exact e
mutual
theorem Rep.tup {H H' : Hp} (e : Tups H H') : ∀ {d : Dt} {y : V}, Rep H d y → Rep H' d y
  | .v x, y, h => by unfold Rep at h ⊢; exact h
  | .tup ds, y, h => by
    unfold Rep at h ⊢
    obtain ⟨p, vs, h1, h2, h3⟩ := h
    exact ⟨p, vs, h1, e _ _ h2, RepL.tup e h3⟩
theorem RepL.tup {H H' : Hp} (e : Tups H H') : ∀ {ds : List Dt} {vs : List V}, RepL H ds vs → RepL H' ds vs
  | [], vs, h => by unfold RepL at h ⊢; exact h
  | d :: ds, vs, h => by
    unfold RepL at h ⊢
    obtain ⟨v, r, h1, h2, h3⟩ := h
    exact ⟨v, r, h1, Rep.tup e h2, RepL.tup e h3⟩
end
theorem Rep.mono {H H' : Hp} (e : Ex H H') {d : Dt} {y : V} (h : Rep H d y) : Rep H' d y := h.tup (.ex e)
theorem RepL.mono {H H' : Hp} (e : Ex H H') {ds : List Dt} {vs : List V} (h : RepL H ds vs) : RepL H' ds vs := h.tup (.ex e)
theorem Rep.flat {H : Hp} {x y : V} (h : Rep H (.v x) y) : y = x := by unfold Rep at h; exact h
theorem Rep.of {H : Hp} {x : V} : Rep H (.v x) x := by unfold Rep; rfl
theorem RepL.nil {H : Hp} : RepL H [] [] := by unfold RepL; rfl
theorem RepL.cons {H : Hp} {d : Dt} {ds : List Dt} {y : V} {ys : List V} (h : Rep H d y) (r : RepL H ds ys) : RepL H (d :: ds) (y :: ys) := by
  unfold RepL; exact ⟨y, ys, rfl, h, r⟩
theorem RepL.inv {H : Hp} {d : Dt} {ds : List Dt} {vs : List V} (h : RepL H (d :: ds) vs) : ∃ y ys, vs = y :: ys ∧ Rep H d y ∧ RepL H ds ys := by
  unfold RepL at h; exact h
theorem RepL.inv0 {H : Hp} {vs : List V} (h : RepL H [] vs) : vs = [] := by unfold RepL at h; exact h
theorem RepL.length {H : Hp} : ∀ {ds : List Dt} {vs : List V}, RepL H ds vs → vs.length = ds.length
  | [], vs, h => by rw [h.inv0] <;> rfl
  | d :: ds, vs, h => by
    obtain ⟨y, ys, e, _, r⟩ := h.inv
    subst e
    exact congrArg Nat.succ r.length
theorem RepL.get {H : Hp} : ∀ {ds : List Dt} {vs : List V} {i : Nat} {d : Dt}, RepL H ds vs → ds[i]? = some d → ∃ y, vs[i]? = some y ∧ Rep H d y
  | [], vs, i, d, h, e => by simp at e
  | c :: ds, vs, 0, d, h, e => by
    obtain ⟨y, ys, q, r, _⟩ := h.inv
    subst q
    simp at e
    subst e
    exact ⟨y, rfl, r⟩
  | c :: ds, vs, i + 1, d, h, e => by
    obtain ⟨y, ys, q, _, r⟩ := h.inv
    subst q
    obtain ⟨z, h1, h2⟩ := RepL.get (i := i) (d := d) r (by simpa using e)
    exact ⟨z, by simpa using h1, h2⟩
theorem RepL.append {H : Hp} : ∀ {ds es : List Dt} {vs us : List V}, RepL H ds vs → RepL H es us → RepL H (ds ++ es) (vs ++ us)
  | [], es, vs, us, h, g => by rw [h.inv0]; exact g
  | d :: ds, es, vs, us, h, g => by
    obtain ⟨y, ys, q, r, t⟩ := h.inv
    subst q
    exact .cons r (t.append g)
theorem RepL.flat {H : Hp} {α : Type} (f : α → V) : ∀ {ns : List α} {vs : List V}, RepL H (ns.map fun n => Dt.v (f n)) vs → vs = ns.map f
  | [], vs, h => h.inv0
  | n :: ns, vs, h => by
    obtain ⟨y, ys, q, r, t⟩ := RepL.inv (show RepL H (Dt.v (f n) :: ns.map fun n => Dt.v (f n)) vs from h)
    subst q
    rw [r.flat, RepL.flat f t]
    rfl
theorem RepL.ofFlat {H : Hp} {α : Type} (f : α → V) : ∀ (ns : List α), RepL H (ns.map fun n => Dt.v (f n)) (ns.map f)
  | [] => .nil
  | n :: ns => .cons .of (RepL.ofFlat f ns)
abbrev Dt.i (n : Int) : Dt := .v (.int n)
abbrev Dt.s (x : Str) : Dt := .v (.str x)
abbrev Dt.b (x : Bool) : Dt := .v (.bl x)
abbrev Dt.r (a : Addr) : Dt := .v (.ref a)
def intsD (ns : List Int) : List Dt := ns.map fun n => .v (.int n)
theorem RepL.intsD {H : Hp} {ns : List Int} {vs : List V} (h : RepL H (intsD ns) vs) : vs = ns.map V.int := RepL.flat V.int h

/-! ### lists and dicts at an address -/
def lstAt (H : Hp) (p : Addr) (xs : List Dt) : Prop := ∃ vs, H p = some (.lst vs) ∧ RepL H xs vs
theorem lstAt.mono {H H' : Hp} (e : Ex H H') {p : Addr} {xs : List Dt} (h : lstAt H p xs) : lstAt H' p xs := let ⟨vs, a, b⟩ := h; ⟨vs, e _ _ a, b.mono e⟩
theorem lstAt.some {H : Hp} {p : Addr} {xs : List Dt} (h : lstAt H p xs) : H p ≠ none := fun e => by
  obtain ⟨vs, a, _⟩ := h
  rw [e] at a; cases a
theorem lstAt.sq {K : PySem.W.Frag} {H : Hp} {p : Addr} {xs : List Dt} (h : lstAt H p xs) : ∃ vs, SqL K H p vs ∧ RepL H xs vs := let ⟨vs, a, b⟩ := h; ⟨vs, .inl (.inl a), b⟩
def RepM (H : Hp) : List (List Key × Dt) → List (List Key × V) → Prop
  | [], vs => vs = []
  | (k, d) :: r, vs => ∃ y t, vs = (k, y) :: t ∧ Rep H d y ∧ RepM H r t
theorem RepM.tup {H H' : Hp} (e : Tups H H') : ∀ {ks : List (List Key × Dt)} {vs : List (List Key × V)}, RepM H ks vs → RepM H' ks vs
  | [], vs, h => h
  | (k, d) :: r, vs, h => by
    obtain ⟨y, t, h1, h2, h3⟩ := h
    exact ⟨y, t, h1, h2.tup e, h3.tup e⟩
theorem RepM.length {H : Hp} : ∀ {ks : List (List Key × Dt)} {vs : List (List Key × V)}, RepM H ks vs → vs.length = ks.length
  | [], vs, h => by rw [show vs = [] from h] <;> rfl
  | (k, d) :: r, vs, h => by
    obtain ⟨y, t, h1, _, h3⟩ := h
    subst h1
    exact congrArg Nat.succ h3.length
def mapAt (H : Hp) (p : Addr) (ks : List (List Key × Dt)) : Prop := ∃ vs o, H p = some (.frz o (.dT vs)) ∧ RepM H ks vs
def mapO (H : Hp) (p : Addr) (ks : List (List Key × Dt)) : Prop := ∃ vs, H p = some (.dT vs) ∧ RepM H ks vs
theorem mapAt.mono {H H' : Hp} (e : Ex H H') {p : Addr} {xs : List (List Key × Dt)} (h : mapAt H p xs) : mapAt H' p xs := let ⟨vs, o, a, b⟩ := h; ⟨vs, o, e _ _ a, b.tup (.ex e)⟩
theorem mapO.mono {H H' : Hp} (e : Ex H H') {p : Addr} {xs : List (List Key × Dt)} (h : mapO H p xs) : mapO H' p xs := let ⟨vs, a, b⟩ := h; ⟨vs, e _ _ a, b.tup (.ex e)⟩
theorem mapAt.some {H : Hp} {p : Addr} {xs : List (List Key × Dt)} (h : mapAt H p xs) : H p ≠ none := fun e => by
  obtain ⟨vs, o, a, _⟩ := h
  rw [e] at a; cases a
theorem mapO.some {H : Hp} {p : Addr} {xs : List (List Key × Dt)} (h : mapO H p xs) : H p ≠ none := fun e => by
  obtain ⟨vs, a, _⟩ := h
  rw [e] at a; cases a

/-! ### slots -/
inductive Sl where
  | no
  | d (d : Dt)
  | l (xs : List Dt)
  | own (xs : List Dt)
  | m (ks : List (List Key × Dt))
  | om (ks : List (List Key × Dt))
def Sl.isOwn : Sl → Bool
  | .own _ | .om _ => true
  | _ => false
def Sl.isObj : Sl → Bool
  | .own _ | .om _ | .l _ | .m _ => true
  | _ => false
def SlAt (H0 H : Hp) : Sl → V → Prop
  | .no, _ => True
  | .d d, y => Rep H d y
  | .l xs, y => ∃ p, y = .ref p ∧ lstAt H p xs
  | .own xs, y => ∃ p, y = .ref p ∧ H0 p = none ∧ lstAt H p xs
  | .m ks, y => ∃ p, y = .ref p ∧ mapAt H p ks
  | .om ks, y => ∃ p, y = .ref p ∧ H0 p = none ∧ mapO H p ks
def SlO (H0 H : Hp) (s : Sl) (o : Option (Option V)) : Prop := s = .no ∨ ∃ y, o = some (some y) ∧ SlAt H0 H s y
theorem SlAt.mono {H0 H H' : Hp} (e : Ex H H') {s : Sl} {y : V} (h : SlAt H0 H s y) : SlAt H0 H' s y := by
  cases s with
  | no => exact trivial
  | d d => exact Rep.mono e h
  | l xs => obtain ⟨p, a, b⟩ := h; exact ⟨p, a, b.mono e⟩
  | own xs => obtain ⟨p, a, z, b⟩ := h; exact ⟨p, a, z, b.mono e⟩
  | m xs => obtain ⟨p, a, b⟩ := h; exact ⟨p, a, b.mono e⟩
  | om xs => obtain ⟨p, a, z, b⟩ := h; exact ⟨p, a, z, b.mono e⟩
theorem SlAt.down {H0 Hb H : Hp} (e : Ex H0 Hb) {s : Sl} {y : V} (h : SlAt Hb H s y) : SlAt H0 H s y := by
  cases s with
  | own xs => obtain ⟨p, a, z, b⟩ := h; exact ⟨p, a, Evl.fresh_back e z, b⟩
  | om xs => obtain ⟨p, a, z, b⟩ := h; exact ⟨p, a, Evl.fresh_back e z, b⟩
  | no => exact h
  | d d => exact h
  | l xs => exact h
  | m xs => exact h
/-- the address of an object slot is tracked -/
theorem SlAt.there {H0 H : Hp} {s : Sl} {p : Addr} (h : SlAt H0 H s (.ref p)) (o : s.isObj = true) : H p ≠ none := by
  cases s with
  | no => cases o
  | d d => cases o
  | l xs => obtain ⟨q, a, b⟩ := h; cases a; exact b.some
  | own xs => obtain ⟨q, a, _, b⟩ := h; cases a; exact b.some
  | m xs => obtain ⟨q, a, b⟩ := h; cases a; exact b.some
  | om xs => obtain ⟨q, a, _, b⟩ := h; cases a; exact b.some
structure SR (H0 H : Hp) (σ : St) (ss : List Sl) : Prop where
  ex : Ex H0 H
  len : σ.length = ss.length
  at_ : ∀ (i : Nat) (s : Sl), ss[i]? = some s → SlO H0 H s σ[i]?
  sep : ∀ (i j : Nat) (s t : Sl) (p : Addr), i ≠ j → ss[i]? = some s → ss[j]? = some t → s.isOwn = true → t.isObj = true → σ[i]? = some (some (.ref p)) → σ[j]? ≠ some (some (.ref p))
theorem SR.mono {H0 H H' : Hp} {σ : St} {ss : List Sl} (h : SR H0 H σ ss) (e : Ex H H') : SR H0 H' σ ss :=
  ⟨h.ex.trans e, h.len, fun i s q => (h.at_ i s q).imp id fun ⟨y, a, b⟩ => ⟨y, a, b.mono e⟩, h.sep⟩
theorem SR.down {H0 Hb H : Hp} {σ : St} {ss : List Sl} (e : Ex H0 Hb) (h : SR Hb H σ ss) : SR H0 H σ ss :=
  ⟨e.trans h.ex, h.len, fun i s q => (h.at_ i s q).imp id fun ⟨y, a, b⟩ => ⟨y, a, b.down e⟩, h.sep⟩
theorem SR.get {H0 H : Hp} {σ : St} {ss : List Sl} (h : SR H0 H σ ss) {i : Nat} {s : Sl} (q : ss[i]? = some s) (n : s ≠ .no) : ∃ y, σ[i]? = some (some y) ∧ SlAt H0 H s y :=
  (h.at_ i s q).resolve_left n
/-- a slot is set; its own address is not an own one's -/
theorem SR.put {H0 H : Hp} {σ : St} {ss : List Sl} (h : SR H0 H σ ss) {i : Nat} {s : Sl} {y : V} (a : SlAt H0 H s y)
    (n : s.isObj = true → ∀ (j : Nat) (t : Sl) (p : Addr), j ≠ i → ss[j]? = some t → (t.isOwn = true ∨ (s.isOwn = true ∧ t.isObj = true)) → y = .ref p → σ[j]? ≠ some (some (.ref p))) : SR H0 H (σ.set i (some y)) (ss.set i s) := by
  refine ⟨h.ex, by simp [h.len], fun j t q => ?_, fun j k t u p hjk qj qk ht hu ej ek => ?_⟩
  · by_cases hj : j = i
    · subst hj
      have hl : j < ss.length := by
        have := (List.getElem?_eq_some_iff.mp q).1
        simpa using this
      rw [List.getElem?_set_self hl] at q
      cases q
      exact .inr ⟨y, by rw [List.getElem?_set_self (by rw [h.len]; exact hl)], a⟩
    · rw [List.getElem?_set_ne (Ne.symm hj)] at q ⊢
      exact h.at_ j t q
  · have hl : ∀ {z : Nat} {w : Sl}, (ss.set i s)[z]? = some w → z < ss.length := fun {z w} q => by
      have := (List.getElem?_eq_some_iff.mp q).1
      simpa using this
    by_cases hj : j = i
    · subst hj
      have hk : k ≠ j := Ne.symm hjk
      rw [List.getElem?_set_self (hl qj)] at qj
      cases qj
      rw [List.getElem?_set_self (by rw [h.len]; exact hl (z := j) (w := s) (by rw [List.getElem?_set_self]; exact (List.getElem?_eq_some_iff.mp (show (σ.set j (some y))[j]? = _ from ej)).1 |> fun z => by simpa [h.len] using z))] at ej
      rw [List.getElem?_set_ne (Ne.symm hk)] at qk ek
      have ey : y = .ref p := by simpa using ej
      have so : s.isObj = true := by cases s <;> first | rfl | cases ht
      exact n so k u p hk qk (.inr ⟨ht, hu⟩) ey ek
    · rw [List.getElem?_set_ne (Ne.symm hj)] at qj ej
      by_cases hk : k = i
      · subst hk
        rw [List.getElem?_set_self (hl qk)] at qk
        cases qk
        have hlk : k < σ.length := by
          have := (List.getElem?_eq_some_iff.mp ek).1
          simpa using this
        rw [List.getElem?_set_self hlk] at ek
        have ey : y = .ref p := by simpa using ek
        exact n hu j t p hj qj (.inl ht) ey ej
      · rw [List.getElem?_set_ne (Ne.symm hk)] at qk ek
        exact h.sep j k t u p hjk qj qk ht hu ej ek
theorem SR.putD {H0 H : Hp} {σ : St} {ss : List Sl} (h : SR H0 H σ ss) {i : Nat} {d : Dt} {y : V} (a : Rep H d y) : SR H0 H (σ.set i (some y)) (ss.set i (.d d)) :=
  h.put a fun q => nomatch q
/-- a new object is put -/
theorem SR.putN {H0 H H' : Hp} {σ : St} {ss : List Sl} (h : SR H0 H σ ss) (e : Ex H H') {i : Nat} {s : Sl} {p : Addr} (n : H p = none) (a : SlAt H0 H' s (.ref p)) : SR H0 H' (σ.set i (some (.ref p))) (ss.set i s) :=
  (h.mono e).put a fun _ j t q _ ej ht eq => by
    cases eq
    intro es
    rcases ht with ht | ⟨_, ht⟩
    all_goals
      have no : t ≠ .no := fun z => by subst z; cases ht
      obtain ⟨y, ey, sa⟩ := h.get ej no
      rw [es] at ey
      cases ey
      refine sa.there ?_ n
      first
        | exact ht
        | (cases t <;> first | rfl | cases ht)
theorem SR.drop {H0 H : Hp} {σ : St} {ss : List Sl} (h : SR H0 H σ ss) (i : Nat) : SR H0 H (σ.set i none) (ss.set i .no) := by
  refine ⟨h.ex, by simp [h.len], fun j t q => ?_, fun j k t u p hjk qj qk ht hu ej ek => ?_⟩
  · by_cases hj : j = i
    · subst hj
      have hl : j < ss.length := by
        have := (List.getElem?_eq_some_iff.mp q).1
        simpa using this
      rw [List.getElem?_set_self hl] at q
      cases q
      exact .inl rfl
    · rw [List.getElem?_set_ne (Ne.symm hj)] at q ⊢
      exact h.at_ j t q
  · by_cases hj : j = i
    · subst hj
      have hl : j < ss.length := by
        have := (List.getElem?_eq_some_iff.mp qj).1
        simpa using this
      rw [List.getElem?_set_self hl] at qj
      cases qj
      cases ht
    · by_cases hk : k = i
      · subst hk
        have hl : k < ss.length := by
          have := (List.getElem?_eq_some_iff.mp qk).1
          simpa using this
        rw [List.getElem?_set_self hl] at qk
        cases qk
        cases hu
      · rw [List.getElem?_set_ne (Ne.symm hj)] at qj ej
        rw [List.getElem?_set_ne (Ne.symm hk)] at qk ek
        exact h.sep j k t u p hjk qj qk ht hu ej ek
def wipeS (ss : List Sl) : List Nat → List Sl
  | [] => ss
  | v :: vs => (wipeS ss vs).set v .no
theorem SR.wipe {H0 H : Hp} {σ : St} {ss : List Sl} (h : SR H0 H σ ss) : ∀ vs : List Nat, SR H0 H (wipe σ vs) (wipeS ss vs)
  | [] => h
  | v :: vs => (h.wipe vs).drop v
end K44
end

section
-- text Fw2
set_option Elab.async false
set_option linter.all false
set_option maxRecDepth 100000
set_option maxHeartbeats 4000000
namespace K44
open PySem PySem.Spec L2
open Evl (Ex)
open StX (pa_star)

/-! ### any reading -/
def RE (X : Cx) (e : Expr) : TE := fun σ H Q => ∃ t, PE X e t ∧ t σ H Q
def RT (X : Cx) (c : Expr) : TT := fun σ H Q => ∃ t, PT X c t ∧ t σ H Q
def RA (X : Cx) (es : List Expr) : TA := fun σ H Q => ∃ t, PA X es t ∧ t σ H Q
def RS (X : Cx) (st : Stmt) : TS := fun D σ H => ∃ t, PS X st t ∧ t D σ H
def RB (X : Cx) (sts : List Stmt) : TS := fun D σ H => ∃ t, PSs X sts t ∧ t D σ H
def RG (X : Cx) (tg : Expr) : TG := fun v σ H Q => ∃ t, PG X tg t ∧ t v σ H Q
def RI (X : Cx) (tg it : Expr) : TI := fun σ H R => ∃ t, PI X tg it t ∧ t σ H R
theorem pe_any {X : Cx} {e : Expr} : PE X e (RE X e) := ⟨fun pins s σ H Q I ⟨_, p, q⟩ => p.run pins s σ H Q I q⟩
theorem pt_any {X : Cx} {e : Expr} : PT X e (RT X e) := ⟨fun pins s σ H Q I ⟨_, p, q⟩ => p.run pins s σ H Q I q⟩
theorem pa_any {X : Cx} {es : List Expr} : PA X es (RA X es) := ⟨fun pos pins s σ H Q I ⟨_, p, q⟩ => p.run pos pins s σ H Q I q⟩
theorem ps_any {X : Cx} {st : Stmt} : PS X st (RS X st) := ⟨fun pins s σ H D I ⟨_, p, q⟩ => p.run pins s σ H D I q⟩
theorem pb_any {X : Cx} {sts : List Stmt} : PSs X sts (RB X sts) := ⟨fun pins s σ H D I ⟨_, p, q⟩ => p.run pins s σ H D I q⟩
theorem pg_any {X : Cx} {tg : Expr} : PG X tg (RG X tg) := ⟨fun pins s σ H v u Q I r ⟨_, p, q⟩ => p.run pins s σ H v u Q I r q⟩
theorem pi_any {X : Cx} {tg it : Expr} : PI X tg it (RI X tg it) := ⟨fun pins s σ H R I ⟨_, p, q⟩ => p.run pins s σ H R I q⟩

/-! ### what an expression gives -/
inductive Kd where
  | d (d : Dt)
  | r (xs : List Dt)
  | nl (xs : List Dt)
  | rm (ks : List (List Key × Dt))
  | nm (ks : List (List Key × Dt))
  | o (P : Hp → Addr → Prop)
def Is (H H' : Hp) : Kd → V → Prop
  | .d d, y => Rep H' d y
  | .r xs, y => ∃ p, y = .ref p ∧ lstAt H' p xs
  | .nl xs, y => ∃ p, y = .ref p ∧ H p = none ∧ lstAt H' p xs
  | .rm ks, y => ∃ p, y = .ref p ∧ mapAt H' p ks
  | .nm ks, y => ∃ p, y = .ref p ∧ H p = none ∧ mapO H' p ks
  | .o P, y => ∃ a, y = .ref a ∧ P H' a
/-- to be read now -/
def Kd.rd : Kd → Kd
  | .nl xs => .r xs
  | .nm _ => .o fun _ _ => True
  | .o _ => .o fun _ _ => True
  | k => k
def Ag (H : Hp) (k : Kd) (y : V) : Prop := Is H H k.rd y
theorem Is.ag {H H' : Hp} {k : Kd} {y : V} (h : Is H H' k y) : Ag H' k y := by
  cases k with
  | d d => exact h
  | r xs => exact h
  | nl xs => obtain ⟨p, a, _, b⟩ := h; exact ⟨p, a, b⟩
  | rm xs => exact h
  | nm xs => obtain ⟨p, a, _, _⟩ := h; exact ⟨p, a, trivial⟩
  | o P => obtain ⟨a, q, _⟩ := h; exact ⟨a, q, trivial⟩
theorem Ag.mono {H H' : Hp} (e : Ex H H') {k : Kd} {y : V} (h : Ag H k y) : Ag H' k y := by
  cases k with
  | d d => exact Rep.mono e h
  | r xs => obtain ⟨p, a, b⟩ := h; exact ⟨p, a, b.mono e⟩
  | nl xs => obtain ⟨p, a, b⟩ := h; exact ⟨p, a, b.mono e⟩
  | rm xs => obtain ⟨p, a, b⟩ := h; exact ⟨p, a, b.mono e⟩
  | nm xs => exact h
  | o P => exact h
theorem Is.back {H H1 H' : Hp} (e : Ex H H1) {k : Kd} {y : V} (h : Is H1 H' k y) : Is H H' k y := by
  cases k with
  | d d => exact h
  | r xs => exact h
  | nl xs => obtain ⟨p, a, z, b⟩ := h; exact ⟨p, a, Evl.fresh_back e z, b⟩
  | rm xs => exact h
  | nm xs => obtain ⟨p, a, z, b⟩ := h; exact ⟨p, a, Evl.fresh_back e z, b⟩
  | o P => exact h
def Ags (H : Hp) : List Kd → List V → Prop
  | [], vs => vs = []
  | k :: ks, vs => ∃ y ys, vs = y :: ys ∧ Ag H k y ∧ Ags H ks ys
theorem Ags.mono {H H' : Hp} (e : Ex H H') : ∀ {ks : List Kd} {vs : List V}, Ags H ks vs → Ags H' ks vs
  | [], _, h => h
  | _ :: _, _, ⟨y, ys, q, a, b⟩ => ⟨y, ys, q, a.mono e, b.mono e⟩
theorem Ags.length {H : Hp} : ∀ {ks : List Kd} {vs : List V}, Ags H ks vs → vs.length = ks.length
  | [], vs, h => by rw [show vs = [] from h] <;> rfl
  | _ :: _, vs, ⟨y, ys, q, _, b⟩ => by rw [q]; exact congrArg Nat.succ b.length

theorem isv {H H' : Hp} {x y : V} (h : Is H H' (.d (.v x)) y) : y = x := Rep.flat (H := H') h
theorem is_v {H H' : Hp} {x : V} : Is H H' (.d (.v x)) x := Rep.of (H := H')
def EX (X : Cx) (H0 : Hp) (ss : List Sl) (e : Expr) (k : Kd) : Prop :=
  ∀ (σ : L2.St) (H : Hp) (Q : VK), SR H0 H σ ss → (∀ y H', Ex H H' → Is H H' k y → Q y H') → RE X e σ H Q
def ET (X : Cx) (H0 : Hp) (ss : List Sl) (c : Expr) (b : Bool) : Prop :=
  ∀ (σ : L2.St) (H : Hp) (Q : Bool → Hp → Prop), SR H0 H σ ss → (∀ H', Ex H H' → Q b H') → RT X c σ H Q
def EA (X : Cx) (H0 : Hp) (ss : List Sl) (es : List Expr) (ks : List Kd) : Prop :=
  ∀ (σ : L2.St) (H : Hp) (Q : List V → Hp → Prop), SR H0 H σ ss → (∀ vs H', Ex H H' → Ags H' ks vs → Q vs H') → RA X es σ H Q
def SX (X : Cx) (H0 : Hp) (st : Stmt) (ss : List Sl) (Nx : List Sl → Prop) (Rt : Kd → Prop) : Prop :=
  ∀ (σ : L2.St) (H : Hp) (D : Ends), SR H0 H σ ss → (∀ ss' σ' H', Nx ss' → SR H0 H' σ' ss' → D.nx σ' H') → (∀ k y H', Rt k → Ex H0 H' → Is H0 H' k y → D.rt y H') → RS X st D σ H
def BX (X : Cx) (H0 : Hp) (sts : List Stmt) (ss : List Sl) (Nx : List Sl → Prop) (Rt : Kd → Prop) : Prop :=
  ∀ (σ : L2.St) (H : Hp) (D : Ends), SR H0 H σ ss → (∀ ss' σ' H', Nx ss' → SR H0 H' σ' ss' → D.nx σ' H') → (∀ k y H', Rt k → Ex H0 H' → Is H0 H' k y → D.rt y H') → RB X sts D σ H
def GX (X : Cx) (H0 : Hp) (tg : Expr) (js : List Nat) (ss : List Sl) (d : Dt) (ss' : List Sl) : Prop :=
  ∀ (v : V) (σ : L2.St) (H : Hp) (Q : L2.St → Hp → Prop), SR H0 H σ ss → Rep H d v → (∀ σ', σ'.length = σ.length → (∀ n, n ∉ js → σ'[n]? = σ[n]?) → SR H0 H σ' ss' → Q σ' H) → RG X tg v σ H Q
/-- no own slot stands at p -/
def NoOwn (σ : L2.St) (ss : List Sl) (p : Addr) : Prop := ∀ (i : Nat) (s : Sl), ss[i]? = some s → s.isOwn = true → σ[i]? ≠ some (some (.ref p))
/-- a sequence: a tuple (tp), a list -/
def sqAt (H : Hp) (tp : Bool) (p : Addr) (l : List Dt) : Prop := ∃ vs, H p = some (if tp then .tup vs else .lst vs) ∧ RepL H l vs
def ES (X : Cx) (H0 : Hp) (ss : List Sl) (e : Expr) (tp : Bool) (l : List Dt) : Prop :=
  ∀ (σ : L2.St) (H : Hp) (Q : VK), SR H0 H σ ss → (∀ p H', Ex H H' → NoOwn σ ss p → sqAt H' tp p l → Q (.ref p) H') → RE X e σ H Q
structure WalkD (J : It) (items : List Dt) (Hb : Hp) : Prop where
  w : Walk J items.length (fun H => Ex Hb H) (fun i H x H' => Ex H H' ∧ ∃ d, items[i]? = some d ∧ Rep H' d x)
def IX (X : Cx) (H0 : Hp) (tg it : Expr) (ss : List Sl) (items : List Dt) : Prop :=
  ∀ (σ : L2.St) (H : Hp) (R : It → Hp → Prop), SR H0 H σ ss → (∀ J H' Hb, Ex H H' → Ex H0 Hb → SR Hb H' σ ss → WalkD J items Hb → R J H') → RI X tg it σ H R

section
variable {X : Cx} {H0 : Hp} {ss : List Sl} {pos p1 p2 : Pos}

/-! ### names, constants -/
theorem ex_var (i : Nat) {x : Str} {d : Dt} (hs : ss[i]? = some (.d d) := by rfl) (hN : X.N[i]? = some x := by rfl)
    (hv : Vis X.env.scope x := by first | exact Or.inl rfl | exact Or.inr (Or.inl rfl) | exact Or.inr (Or.inr rfl)) (hd : (x == ("__debug__" : Str)) = false := by decide)
    (hcd : (x == ("__classdict__" : Str)) = false := by decide) : EX X H0 ss (.Name x pos) (.d d) := fun σ H Q S k => by
  obtain ⟨y, e, a⟩ := S.get hs (by intro z; cases z)
  exact ⟨_, pe_var hN hv hd hcd, y, e, k y H (Evl.Ex.refl H) a⟩
theorem ex_varL (i : Nat) {x : Str} {xs : List Dt} (hs : ss[i]? = some (.l xs) ∨ ss[i]? = some (.own xs)) (hN : X.N[i]? = some x := by rfl)
    (hv : Vis X.env.scope x := by first | exact Or.inl rfl | exact Or.inr (Or.inl rfl) | exact Or.inr (Or.inr rfl)) (hd : (x == ("__debug__" : Str)) = false := by decide)
    (hcd : (x == ("__classdict__" : Str)) = false := by decide) : EX X H0 ss (.Name x pos) (.r xs) := fun σ H Q S k => by
  rcases hs with hs | hs
  · obtain ⟨y, e, a⟩ := S.get hs (by intro z; cases z)
    exact ⟨_, pe_var hN hv hd hcd, y, e, k y H (Evl.Ex.refl H) a⟩
  · obtain ⟨y, e, p, a, _, b⟩ := S.get hs (by intro z; cases z)
    exact ⟨_, pe_var hN hv hd hcd, y, e, k y H (Evl.Ex.refl H) ⟨p, a, b⟩⟩
theorem ex_varM (i : Nat) {x : Str} {xs : List (List Key × Dt)} (hs : ss[i]? = some (.m xs) := by rfl) (hN : X.N[i]? = some x := by rfl)
    (hv : Vis X.env.scope x := by first | exact Or.inl rfl | exact Or.inr (Or.inl rfl) | exact Or.inr (Or.inr rfl)) (hd : (x == ("__debug__" : Str)) = false := by decide)
    (hcd : (x == ("__classdict__" : Str)) = false := by decide) : EX X H0 ss (.Name x pos) (.rm xs) := fun σ H Q S k => by
  obtain ⟨y, e, a⟩ := S.get hs (by intro z; cases z)
  exact ⟨_, pe_var hN hv hd hcd, y, e, k y H (Evl.Ex.refl H) a⟩
theorem ex_c {e : Expr} {v : V} (h : PE X e (tC v)) : EX X H0 ss e (.d (.v v)) := fun σ H Q S k => ⟨_, h, k v H (Evl.Ex.refl H) is_v⟩
theorem ex_int {i : Int} {j : Nat} : EX X H0 ss (.Constant (.int i) j pos) (.d (.v (.int i))) := ex_c pe_int
theorem ex_str {x : Str} {j : Nat} : EX X H0 ss (.Constant (.str x) j pos) (.d (.v (.str x))) := ex_c pe_str
theorem ex_bl {x : Bool} {j : Nat} : EX X H0 ss (.Constant (.bool x) j pos) (.d (.v (.bl x))) := ex_c pe_bl
theorem ex_non {j : Nat} : EX X H0 ss (.Constant .none j pos) (.d (.v .non)) := ex_c pe_non
theorem ex_gint {x : Str} {n : Int} (h : ∃ t, X.mg x = some (.int n t)) (hg : Gl X x := by rfl) (hd : (x == ("__debug__" : Str)) = false := by decide) : EX X H0 ss (.Name x pos) (.d (.v (.int n))) :=
  let ⟨t, e⟩ := h; ex_c (pe_glob hg e ⟨t, rfl⟩ hd)
theorem ex_gstr {x : Str} {n : Str} (h : ∃ t, X.mg x = some (.str n t)) (hg : Gl X x := by rfl) (hd : (x == ("__debug__" : Str)) = false := by decide) : EX X H0 ss (.Name x pos) (.d (.v (.str n))) :=
  let ⟨t, e⟩ := h; ex_c (pe_glob hg e ⟨t, rfl⟩ hd)
theorem ex_gref {x : Str} {a : Addr} (h : X.mg x = some (.ref a)) (hg : Gl X x := by rfl) (hd : (x == ("__debug__" : Str)) = false := by decide) : EX X H0 ss (.Name x pos) (.d (.v (.ref a))) :=
  ex_c (pe_glob hg h rfl hd)
theorem ex_gty {x : Str} {T : String} (h : X.mg x = none) (hv : bootBuiltins x = some (.type T) := by decide +kernel) (hg : Gl X x := by rfl) (hn : x ≠ "__name__" := by decide) (hd : (x == ("__debug__" : Str)) = false := by decide) : EX X H0 ss (.Name x pos) (.d (.v (.ty T))) :=
  ex_c (pe_bltn hg h hv rfl hn hd)

/-! ### operators -/
variable {a b c : Expr}
theorem ex_bin {op : Operator} {r : R2} {x y z : V} (ho : OpR X (binaryOp op) r) (ha : EX X H0 ss a (.d (.v x))) (hb : EX X H0 ss b (.d (.v y))) (hr : ∀ (H : Hp) (Q : VK), Q z H → r x y H Q) : EX X H0 ss (.BinOp a op b pos) (.d (.v z)) := fun σ H Q S k =>
  ⟨_, pe_op ho pe_any pe_any, ha σ H _ S fun u H1 e1 r1 => hb σ H1 _ (S.mono e1) fun w H2 e2 r2 => by
    rw [isv r1, isv r2]
    exact hr H2 Q (k z H2 (e1.trans e2) is_v)⟩
theorem ex_add {i j : Int} (ha : EX X H0 ss a (.d (.v (.int i)))) (hb : EX X H0 ss b (.d (.v (.int j)))) : EX X H0 ss (.BinOp a .Add b pos) (.d (.v (.int (i + j)))) :=
  ex_bin op_add ha hb fun H Q q => ⟨i, j, rfl, rfl, q⟩
theorem ex_sub {i j : Int} (ha : EX X H0 ss a (.d (.v (.int i)))) (hb : EX X H0 ss b (.d (.v (.int j)))) : EX X H0 ss (.BinOp a .Sub b pos) (.d (.v (.int (i - j)))) :=
  ex_bin op_sub ha hb fun H Q q => ⟨i, j, rfl, rfl, q⟩
theorem ex_mul {i j : Int} (ha : EX X H0 ss a (.d (.v (.int i)))) (hb : EX X H0 ss b (.d (.v (.int j)))) (h : (-(2 ^ 64) < i ∧ i < 2 ^ 64) ∨ (-(2 ^ 64) < j ∧ j < 2 ^ 64)) : EX X H0 ss (.BinOp a .Mult b pos) (.d (.v (.int (i * j)))) :=
  ex_bin op_mul ha hb fun H Q q => ⟨i, j, rfl, rfl, h, q⟩
theorem ex_fdiv {i j : Int} (ha : EX X H0 ss a (.d (.v (.int i)))) (hb : EX X H0 ss b (.d (.v (.int j)))) (h : 0 < j ∧ j < 1073741824) : EX X H0 ss (.BinOp a .FloorDiv b pos) (.d (.v (.int (i / j)))) :=
  ex_bin op_fdiv ha hb fun H Q q => ⟨i, j, rfl, rfl, h, q⟩
theorem ex_mod {i j : Int} (ha : EX X H0 ss a (.d (.v (.int i)))) (hb : EX X H0 ss b (.d (.v (.int j)))) (h : 0 < j) : EX X H0 ss (.BinOp a .Mod b pos) (.d (.v (.int (i % j)))) :=
  ex_bin op_mod ha hb fun H Q q => ⟨i, j, rfl, rfl, h, q⟩
theorem ex_neg {i : Int} (ha : EX X H0 ss a (.d (.v (.int i)))) : EX X H0 ss (.UnaryOp .USub a pos) (.d (.v (.int (-i)))) := fun σ H Q S k =>
  ⟨_, pe_un un_neg pe_any, ha σ H _ S fun u H1 e1 r1 => by
    rw [isv r1]
    exact ⟨i, rfl, k _ H1 e1 is_v⟩⟩
theorem ex_cmp {op : CmpOp} {r : R2} {x y z : V} (ho : OpR X (compareOp op) r) (hm : behindInMarks op b = false) (ha : EX X H0 ss a (.d (.v x))) (hb : EX X H0 ss b (.d (.v y))) (hr : ∀ (H : Hp) (Q : VK), Q z H → r x y H Q) : EX X H0 ss (.Compare a [op] [b] pos) (.d (.v z)) := fun σ H Q S k =>
  ⟨_, pe_cmpR ho pe_any pe_any hm, ha σ H _ S fun u H1 e1 r1 => hb σ H1 _ (S.mono e1) fun w H2 e2 r2 => by
    rw [isv r1, isv r2]
    exact hr H2 Q (k z H2 (e1.trans e2) is_v)⟩
theorem ex_lt {i j : Int} (ha : EX X H0 ss a (.d (.v (.int i)))) (hb : EX X H0 ss b (.d (.v (.int j)))) : EX X H0 ss (.Compare a [.Lt] [b] pos) (.d (.v (.bl (decide (i < j))))) :=
  ex_cmp op_lt (nomark _) ha hb fun H Q q => ⟨i, j, rfl, rfl, q⟩
theorem ex_le {i j : Int} (ha : EX X H0 ss a (.d (.v (.int i)))) (hb : EX X H0 ss b (.d (.v (.int j)))) : EX X H0 ss (.Compare a [.LtE] [b] pos) (.d (.v (.bl (decide (i ≤ j))))) :=
  ex_cmp op_le (nomark _) ha hb fun H Q q => ⟨i, j, rfl, rfl, q⟩
theorem ex_gt {i j : Int} (ha : EX X H0 ss a (.d (.v (.int i)))) (hb : EX X H0 ss b (.d (.v (.int j)))) : EX X H0 ss (.Compare a [.Gt] [b] pos) (.d (.v (.bl (decide (j < i))))) :=
  ex_cmp op_gt (nomark _) ha hb fun H Q q => ⟨i, j, rfl, rfl, q⟩
theorem ex_ge {i j : Int} (ha : EX X H0 ss a (.d (.v (.int i)))) (hb : EX X H0 ss b (.d (.v (.int j)))) : EX X H0 ss (.Compare a [.GtE] [b] pos) (.d (.v (.bl (decide (j ≤ i))))) :=
  ex_cmp op_ge (nomark _) ha hb fun H Q q => ⟨i, j, rfl, rfl, q⟩
theorem ex_eq {x y : V} (ha : EX X H0 ss a (.d (.v x))) (hb : EX X H0 ss b (.d (.v y))) (hs : scal x y = true := by rfl) : EX X H0 ss (.Compare a [.Eq] [b] pos) (.d (.v (.bl (decide (x = y))))) :=
  ex_cmp op_eq (nomark _) ha hb fun H Q q => ⟨hs, q⟩
theorem ex_ne {x y : V} (ha : EX X H0 ss a (.d (.v x))) (hb : EX X H0 ss b (.d (.v y))) (hs : scal x y = true := by rfl) : EX X H0 ss (.Compare a [.NotEq] [b] pos) (.d (.v (.bl (!decide (x = y))))) :=
  ex_cmp op_ne (nomark _) ha hb fun H Q q => ⟨hs, q⟩
theorem ex_isN {x : V} {j : Nat} (ha : EX X H0 ss a (.d (.v x))) : EX X H0 ss (.Compare a [.Is] [.Constant .none j p1] pos) (.d (.v (.bl (decide (x = .non))))) :=
  ex_cmp op_isN (nomark _) ha ex_non fun H Q q => ⟨rfl, q⟩
theorem ex_notN {x : V} {j : Nat} (ha : EX X H0 ss a (.d (.v x))) : EX X H0 ss (.Compare a [.IsNot] [.Constant .none j p1] pos) (.d (.v (.bl (!decide (x = .non))))) :=
  ex_cmp op_notN (nomark _) ha ex_non fun H Q q => ⟨rfl, q⟩
theorem ex_to {k k' : Kd} {e : Expr} (h : EX X H0 ss e k) (q : k = k') : EX X H0 ss e k' := q ▸ h

/-! ### tests -/
theorem et_val {x : Bool} (h : EX X H0 ss c (.d (.v (.bl x)))) (he : ∀ whole, isTrue c X.env whole = (do let v ← whole; standAt c.pos; holding [v] (truthy v)) := by intro _; rfl) : ET X H0 ss c x := fun σ H Q S k =>
  ⟨_, pt_val pe_any he, h σ H _ S fun u H1 e1 r1 => by
    rw [isv r1]
    exact ⟨x, rfl, k H1 e1⟩⟩
theorem et_cmp {op : CmpOp} {r : R2} {x y : V} {z : Bool} (ho : OpR X (compareOp op) r) (hm : behindInMarks op b = false) (ha : EX X H0 ss a (.d (.v x))) (hb : EX X H0 ss b (.d (.v y))) (hr : ∀ (H : Hp) (Q : VK), Q (.bl z) H → r x y H Q) : ET X H0 ss (.Compare a [op] [b] pos) z := fun σ H Q S k =>
  ⟨_, pt_cmpR ho pe_any pe_any hm, ha σ H _ S fun u H1 e1 r1 => hb σ H1 _ (S.mono e1) fun w H2 e2 r2 => by
    rw [isv r1, isv r2]
    exact hr H2 _ ⟨z, rfl, k H2 (e1.trans e2)⟩⟩
theorem et_lt {i j : Int} (ha : EX X H0 ss a (.d (.v (.int i)))) (hb : EX X H0 ss b (.d (.v (.int j)))) : ET X H0 ss (.Compare a [.Lt] [b] pos) (decide (i < j)) :=
  et_cmp op_lt (nomark _) ha hb fun H Q q => ⟨i, j, rfl, rfl, q⟩
theorem et_le {i j : Int} (ha : EX X H0 ss a (.d (.v (.int i)))) (hb : EX X H0 ss b (.d (.v (.int j)))) : ET X H0 ss (.Compare a [.LtE] [b] pos) (decide (i ≤ j)) :=
  et_cmp op_le (nomark _) ha hb fun H Q q => ⟨i, j, rfl, rfl, q⟩
theorem et_gt {i j : Int} (ha : EX X H0 ss a (.d (.v (.int i)))) (hb : EX X H0 ss b (.d (.v (.int j)))) : ET X H0 ss (.Compare a [.Gt] [b] pos) (decide (j < i)) :=
  et_cmp op_gt (nomark _) ha hb fun H Q q => ⟨i, j, rfl, rfl, q⟩
theorem et_ge {i j : Int} (ha : EX X H0 ss a (.d (.v (.int i)))) (hb : EX X H0 ss b (.d (.v (.int j)))) : ET X H0 ss (.Compare a [.GtE] [b] pos) (decide (j ≤ i)) :=
  et_cmp op_ge (nomark _) ha hb fun H Q q => ⟨i, j, rfl, rfl, q⟩
theorem et_eq {x y : V} (ha : EX X H0 ss a (.d (.v x))) (hb : EX X H0 ss b (.d (.v y))) (hs : scal x y = true := by rfl) : ET X H0 ss (.Compare a [.Eq] [b] pos) (decide (x = y)) :=
  et_cmp op_eq (nomark _) ha hb fun H Q q => ⟨hs, q⟩
theorem et_ne {x y : V} (ha : EX X H0 ss a (.d (.v x))) (hb : EX X H0 ss b (.d (.v y))) (hs : scal x y = true := by rfl) : ET X H0 ss (.Compare a [.NotEq] [b] pos) (!decide (x = y)) :=
  et_cmp op_ne (nomark _) ha hb fun H Q q => ⟨hs, q⟩
theorem et_isN {x : V} {j : Nat} (ha : EX X H0 ss a (.d (.v x))) : ET X H0 ss (.Compare a [.Is] [.Constant .none j p1] pos) (decide (x = .non)) :=
  et_cmp op_isN (nomark _) ha ex_non fun H Q q => ⟨rfl, q⟩
theorem et_notN {x : V} {j : Nat} (ha : EX X H0 ss a (.d (.v x))) : ET X H0 ss (.Compare a [.IsNot] [.Constant .none j p1] pos) (!decide (x = .non)) :=
  et_cmp op_notN (nomark _) ha ex_non fun H Q q => ⟨rfl, q⟩
theorem et_to {x y : Bool} (h : ET X H0 ss c x) (q : x = y) : ET X H0 ss c y := q ▸ h
theorem pw_any {c : Expr} {t : TT} (h : PW X c t) : PT X c t := h.pt
theorem et_not {x : Bool} (h : ET X H0 ss a x) : ET X H0 ss (.UnaryOp .Not a pos) (!x) := fun σ H Q S k =>
  ⟨_, pt_not pt_any, h σ H _ S fun H1 e1 => k H1 e1⟩
def RW (X : Cx) (c : Expr) : TT := fun σ H Q => ∃ t, PW X c t ∧ t σ H Q
theorem pw_all {X : Cx} {c : Expr} : PW X c (RW X c) := ⟨fun w pins s σ H Q I ⟨_, p, q⟩ => p.run w pins s σ H Q I q⟩
/-- and, or: each by the whole's own judgement -/
def EW (X : Cx) (H0 : Hp) (ss : List Sl) (c : Expr) (b : Bool) : Prop :=
  ∃ t, PW X c t ∧ ∀ (σ : L2.St) (H : Hp) (Q : Bool → Hp → Prop), SR H0 H σ ss → (∀ H', Ex H H' → Q b H') → t σ H Q
theorem EW.t {x : Bool} (h : EW X H0 ss c x) : ET X H0 ss c x := fun σ H Q S k => let ⟨t, p, q⟩ := h; ⟨t, p.pt, q σ H Q S k⟩
theorem ew_and1 {x : Bool} {q : Pos} (h : ET X H0 ss a x) : EW X H0 ss (.BoolOp .And [a] q) x := ⟨_, pw_and1 pt_any, fun σ H Q S k => h σ H Q S k⟩
theorem ew_or1 {x : Bool} {q : Pos} (h : ET X H0 ss a x) : EW X H0 ss (.BoolOp .Or [a] q) x := ⟨_, pw_or1 pt_any, fun σ H Q S k => h σ H Q S k⟩
theorem ew_and {x y : Bool} {r : List Expr} (h : ET X H0 ss a x) (hr : x = true → EW X H0 ss (.BoolOp .And (b :: r) pos) y) : EW X H0 ss (.BoolOp .And (a :: b :: r) pos) (x && y) := by
  cases x with
  | true =>
    obtain ⟨t, p, q⟩ := hr rfl
    exact ⟨_, pw_and pt_any p, fun σ H Q S k => h σ H _ S fun H1 e1 => iteT (q σ H1 Q (S.mono e1) fun H2 e2 => k H2 (e1.trans e2))⟩
  | false =>
    refine ⟨_, pw_and pt_any pw_all, fun σ H Q S k => h σ H _ S fun H1 e1 => iteF (k H1 e1)⟩
theorem ew_or {x y : Bool} {r : List Expr} (h : ET X H0 ss a x) (hr : x = false → EW X H0 ss (.BoolOp .Or (b :: r) pos) y) : EW X H0 ss (.BoolOp .Or (a :: b :: r) pos) (x || y) := by
  cases x with
  | false =>
    obtain ⟨t, p, q⟩ := hr rfl
    exact ⟨_, pw_or pt_any p, fun σ H Q S k => h σ H _ S fun H1 e1 => iteF (q σ H1 Q (S.mono e1) fun H2 e2 => k H2 (e1.trans e2))⟩
  | true =>
    refine ⟨_, pw_or pt_any pw_all, fun σ H Q S k => h σ H _ S fun H1 e1 => iteT (k H1 e1)⟩
/-- as values -/
theorem ex_not {x : Bool} (h : EX X H0 ss a (.d (.v (.bl x)))) : EX X H0 ss (.UnaryOp .Not a pos) (.d (.v (.bl (!x)))) := fun σ H Q S k =>
  ⟨_, pe_not pe_any, h σ H _ S fun u H1 e1 r1 => by
    rw [isv r1]
    exact ⟨x, rfl, k _ H1 e1 is_v⟩⟩
theorem ex_one {k : Kd} {op : BoolOp} (h : EX X H0 ss a k) : EX X H0 ss (.BoolOp op [a] pos) k := fun σ H Q S q =>
  ⟨_, pe_one pe_any, h σ H Q S q⟩
theorem ex_and {x y : Bool} {r : List Expr} (h : EX X H0 ss a (.d (.v (.bl x)))) (hr : x = true → EX X H0 ss (.BoolOp .And (b :: r) pos) (.d (.v (.bl y)))) : EX X H0 ss (.BoolOp .And (a :: b :: r) pos) (.d (.v (.bl (x && y)))) := fun σ H Q S k =>
  ⟨_, pe_and pe_any pe_any, h σ H _ S fun u H1 e1 r1 => by
    rw [isv r1]
    cases x with
    | true => exact ⟨true, rfl, iteT (hr rfl σ H1 Q (S.mono e1) fun u H2 e2 r2 => k u H2 (e1.trans e2) r2)⟩
    | false => exact ⟨false, rfl, iteF (k _ H1 e1 is_v)⟩⟩
theorem ex_or {x y : Bool} {r : List Expr} (h : EX X H0 ss a (.d (.v (.bl x)))) (hr : x = false → EX X H0 ss (.BoolOp .Or (b :: r) pos) (.d (.v (.bl y)))) : EX X H0 ss (.BoolOp .Or (a :: b :: r) pos) (.d (.v (.bl (x || y)))) := fun σ H Q S k =>
  ⟨_, pe_or pe_any pe_any, h σ H _ S fun u H1 e1 r1 => by
    rw [isv r1]
    cases x with
    | false => exact ⟨false, rfl, iteF (hr rfl σ H1 Q (S.mono e1) fun u H2 e2 r2 => k u H2 (e1.trans e2) r2)⟩
    | true => exact ⟨true, rfl, iteT (k _ H1 e1 is_v)⟩⟩
theorem Is.on {H H1 H2 : Hp} (e : Ex H H1) {k : Kd} {y : V} (h : Is H1 H2 k y) : Is H H2 k y := h.back e
theorem ex_if {x : Bool} {k : Kd} (h : ET X H0 ss c x) (h1 : x = true → EX X H0 ss a k) (h2 : x = false → EX X H0 ss b k) : EX X H0 ss (.IfExp c a b pos) k := fun σ H Q S q =>
  ⟨_, pe_ifExp pt_any pe_any pe_any, h σ H _ S fun H1 e1 => by
    cases x with
    | true => exact iteT (h1 rfl σ H1 Q (S.mono e1) fun u H2 e2 r2 => q u H2 (e1.trans e2) (r2.back e1))
    | false => exact iteF (h2 rfl σ H1 Q (S.mono e1) fun u H2 e2 r2 => q u H2 (e1.trans e2) (r2.back e1))⟩

/-! ### arguments, displays -/
theorem ea_nil : EA X H0 ss [] [] := fun σ H Q S k => ⟨_, pa_nil, k [] H (Evl.Ex.refl H) rfl⟩
theorem ea_cons {e : Expr} {es : List Expr} {k : Kd} {ks : List Kd} (h : EX X H0 ss e k) (hr : EA X H0 ss es ks) (hs : starEach (e :: es) X.env = (false, eval e X.env) :: starEach es X.env := by rfl) : EA X H0 ss (e :: es) (k :: ks) := fun σ H Q S q =>
  ⟨_, pa_cons pe_any pa_any hs, h σ H _ S fun y H1 e1 r1 => hr σ H1 _ (S.mono e1) fun ys H2 e2 r2 => q (y :: ys) H2 (e1.trans e2) ⟨y, ys, rfl, r1.ag.mono e2, r2⟩⟩
def ds (l : List Dt) : List Kd := l.map Kd.d
theorem ags_ds {H : Hp} : ∀ {l : List Dt} {vs : List V}, Ags H (ds l) vs → RepL H l vs
  | [], vs, h => by rw [show vs = [] from h]; exact .nil
  | d :: l, vs, ⟨y, ys, q, a, b⟩ => by rw [q]; exact .cons a (ags_ds b)
theorem ags_of {H : Hp} : ∀ {l : List Dt} {vs : List V}, RepL H l vs → Ags H (ds l) vs
  | [], vs, h => h.inv0
  | d :: l, vs, h => let ⟨y, ys, q, a, b⟩ := h.inv; ⟨y, ys, q, a, ags_of b⟩
theorem ags_app {H : Hp} : ∀ {k l : List Kd} {vs us : List V}, Ags H k vs → Ags H l us → Ags H (k ++ l) (vs ++ us)
  | [], l, vs, us, h, g => by rw [show vs = [] from h]; exact g
  | _ :: _, l, vs, us, ⟨y, ys, q, a, b⟩, g => by rw [q]; exact ⟨y, _, rfl, a, ags_app b g⟩
/-- *e, a tuple or a list -/
theorem ea_star {e : Expr} {es : List Expr} {l : List Dt} {ks : List Kd} (h : EX X H0 ss e (.d (.tup l)) ∨ EX X H0 ss e (.r l) ∨ EX X H0 ss e (.nl l)) (hr : EA X H0 ss es ks)
    (hs : starEach (.Starred e p1 :: es) X.env = (true, eval e X.env) :: starEach es X.env := by rfl) : EA X H0 ss (.Starred e p1 :: es) (ds l ++ ks) := fun σ H Q S q => by
  refine ⟨_, pa_star pe_any pa_any hs, ?_⟩
  rcases h with h | h | h
  · refine h σ H _ S fun y H1 e1 r1 => ?_
    obtain ⟨p, vs, ey, hp, r⟩ := (show ∃ p vs, y = V.ref p ∧ H1 p = some (.tup vs) ∧ RepL H1 l vs by
      have r1 : Rep H1 (.tup l) y := r1
      unfold Rep at r1; exact r1)
    exact ⟨p, vs, ey, .inl (SqT.of hp), hr σ H1 _ (S.mono e1) fun ys H2 e2 r2 => q _ H2 (e1.trans e2) (ags_app (ags_of (r.mono e2)) r2)⟩
  · refine h σ H _ S fun y H1 e1 r1 => ?_
    obtain ⟨p, ey, vs, hp, r⟩ := r1
    exact ⟨p, vs, ey, .inr (SqL.of hp), hr σ H1 _ (S.mono e1) fun ys H2 e2 r2 => q _ H2 (e1.trans e2) (ags_app (ags_of (r.mono e2)) r2)⟩
  · refine h σ H _ S fun y H1 e1 r1 => ?_
    obtain ⟨p, ey, _, vs, hp, r⟩ := r1
    exact ⟨p, vs, ey, .inr (SqL.of hp), hr σ H1 _ (S.mono e1) fun ys H2 e2 r2 => q _ H2 (e1.trans e2) (ags_app (ags_of (r.mono e2)) r2)⟩
theorem rep_tup {H : Hp} {p : Addr} {l : List Dt} {vs : List V} (h : H p = some (.tup vs)) (r : RepL H l vs) : Rep H (.tup l) (.ref p) := by
  unfold Rep; exact ⟨p, vs, rfl, h, r⟩
theorem rep_tupI {H : Hp} {y : V} {l : List Dt} (h : Rep H (.tup l) y) : ∃ p vs, y = .ref p ∧ H p = some (.tup vs) ∧ RepL H l vs := by
  unfold Rep at h; exact h
theorem ex_tup {es : List Expr} {l : List Dt} {n : Nat} (h : EA X H0 ss es (ds l)) (hl : l.length ≤ 100000 := by simp) : EX X H0 ss (.Tuple es n pos) (.d (.tup l)) := fun σ H Q S k =>
  ⟨_, pe_tup pa_any, h σ H _ S fun vs H1 e1 r1 => by
    have r := ags_ds r1
    exact ⟨by rw [r.length]; exact Evl.sz_of hl, fun p hp => k _ _ (e1.trans (Evl.Ex.new hp)) (rep_tup upd_same (r.mono (Evl.Ex.new hp)))⟩⟩
theorem ex_lst {es : List Expr} {l : List Dt} (h : EA X H0 ss es (ds l)) (hl : l.length ≤ 100000 := by simp) : EX X H0 ss (.List es pos) (.nl l) := fun σ H Q S k =>
  ⟨_, pe_lst pa_any, h σ H _ S fun vs H1 e1 r1 => by
    have r := ags_ds r1
    exact ⟨by rw [r.length]; exact Evl.sz_of hl, fun p hp => k _ _ (e1.trans (Evl.Ex.new hp)) ⟨p, rfl, Evl.fresh_back e1 hp, _, upd_same, r.mono (Evl.Ex.new hp)⟩⟩⟩
/-- t[i], xs[i] -/
def ixD (l : List Dt) (i : Int) (d : Dt) : Prop := ∃ j : Nat, l[j]? = some d ∧ ((i = (j : Int)) ∨ (i = (j : Int) - (l.length : Int)))
theorem ats {H : Hp} {l : List Dt} {vs : List V} {i : Int} {d : Dt} (r : RepL H l vs) (h : ixD l i d) : ∃ y, atI vs i = some y ∧ Rep H d y := by
  obtain ⟨j, h, q⟩ := h
  obtain ⟨y, e, z⟩ := r.get h
  have hl := (List.getElem?_eq_some_iff.mp h).1
  refine ⟨y, ?_, z⟩
  rcases q with rfl | rfl
  · exact atI_nat e
  · unfold atI ixN
    rw [r.length, if_neg (by omega), if_pos (by omega)]
    have e2 : ((j : Int) - (l.length : Int) + (l.length : Nat)).toNat = j := by omega
    show vs[((j : Int) - (l.length : Int) + (l.length : Nat)).toNat]? = some y
    rw [e2]; exact e
theorem ex_ixT {l : List Dt} {i : Int} {d : Dt} (ha : EX X H0 ss a (.d (.tup l))) (hb : EX X H0 ss b (.d (.v (.int i)))) (h : ixD l i d) (hs : PlainIx b := by exact fun _ _ => rfl) : EX X H0 ss (.Subscript a b pos) (.d d) := fun σ H Q S k =>
  ⟨_, pe_ix ix_tup pe_any pe_any hs, ha σ H _ S fun u H1 e1 r1 => hb σ H1 _ (S.mono e1) fun w H2 e2 r2 => by
    obtain ⟨p, vs, eu, hp, r⟩ := rep_tupI r1
    obtain ⟨y, ey, z⟩ := ats (r.mono e2) h
    rw [isv r2]
    exact ⟨p, vs, i, y, eu, rfl, SqT.of (e2 p _ hp), ey, k y H2 (e1.trans e2) z⟩⟩
theorem ex_ixL {l : List Dt} {i : Int} {d : Dt} (ha : EX X H0 ss a (.r l) ∨ EX X H0 ss a (.nl l)) (hb : EX X H0 ss b (.d (.v (.int i)))) (h : ixD l i d) (hs : PlainIx b := by exact fun _ _ => rfl) : EX X H0 ss (.Subscript a b pos) (.d d) := fun σ H Q S k => by
  refine ⟨_, pe_ix ix_list pe_any pe_any hs, ?_⟩
  have go : ∀ u H1, Ex H H1 → (∃ p, u = V.ref p ∧ lstAt H1 p l) → RE X b σ H1 fun w H2 => rIxL X.K u w H2 Q := fun u H1 e1 ⟨p, eu, vs, hp, r⟩ => hb σ H1 _ (S.mono e1) fun w H2 e2 r2 => by
    obtain ⟨y, ey, z⟩ := ats (r.mono e2) h
    rw [isv r2]
    exact ⟨p, vs, i, y, eu, rfl, SqL.of (e2 p _ hp), ey, k y H2 (e1.trans e2) z⟩
  rcases ha with ha | ha
  · exact ha σ H _ S fun u H1 e1 r1 => go u H1 e1 r1
  · exact ha σ H _ S fun u H1 e1 r1 => go u H1 e1 (let ⟨p, a, _, b⟩ := r1; ⟨p, a, b⟩)
end
end K44
end

section
-- text Fw3
set_option Elab.async false
set_option linter.all false
set_option maxRecDepth 100000
set_option maxHeartbeats 4000000
namespace K44
open PySem PySem.Spec L2
open Evl (Ex)

theorem ags_cons {H : Hp} {k : Kd} {ks : List Kd} {y : V} {ys : List V} (a : Ag H k y) (b : Ags H ks ys) : Ags H (k :: ks) (y :: ys) := ⟨y, ys, rfl, a, b⟩
theorem ags_nil {H : Hp} : Ags H [] [] := rfl
theorem ag_ref {H : Hp} {x : V} : Ag H (.d (.v x)) x := Rep.of (H := H)
/-! ### promises -/
def spC (R : Hp → List Kd → Kd → Prop) : Sp := fun vs H Q _ => ∃ ks k, Ags H ks vs ∧ R H ks k ∧ ∀ y H', Ex H H' → Is H H' k y → Q y H'
structure OkF (P : Program) (w : World) (K : PySem.W.Frag) (mg : Str → Option Value) (base : Heap) (lv : Nat) (f : Addr) (ps : List Str) (sp : Sp) : Prop where
  ex : ∃ fd, FnOk P w K mg base CX0 lv f fd ps sp ∧ Binds K fd ps []
  kp : PySem.W.keepIn K (.ref f) = true

section
variable {X : Cx} {H0 : Hp} {ss : List Sl} {pos p1 p2 : Pos}
theorem ex_call {x : Str} {f : Addr} {lv : Nat} {ps : List Str} {R : Hp → List Kd → Kd → Prop} {e : Expr} {es : List Expr} {ks : List Kd} {k : Kd}
    (G : OkF X.prog X.w X.K X.mg X.base lv f ps (spC R)) (hr : Room lv X.A) (hm : X.mg x = some (.ref f)) (ha : EA X H0 ss (e :: es) ks) (hR : ∀ H, Ex H0 H → R H ks k) (hg : Gl X x := by rfl)
    (hdb : (x == ("__debug__" : Str)) = false := by decide) (he : starEach (e :: es) X.env = (false, eval e X.env) :: starEach es X.env := by rfl) (hpl : (backTo pos (starEach es X.env)).any (·.1) = false := by rfl) :
    EX X H0 ss (.Call (.Name x p1) (e :: es) [] pos) k := fun σ H Q S q => by
  obtain ⟨fd, F, b⟩ := G.ex
  refine ⟨_, pe_call F hr hg hm G.kp b .nil pass0 pa_any hdb he hpl, ?_⟩
  refine ha σ H _ S fun vs H1 e1 r1 => ?_
  rw [List.append_nil]
  exact ⟨ks, k, r1, hR H1 (S.ex.trans e1), fun y H2 e2 r2 => q y H2 (e1.trans e2) (r2.back e1)⟩
theorem ex_call0 {x : Str} {f : Addr} {lv : Nat} {ps : List Str} {R : Hp → List Kd → Kd → Prop} {k : Kd}
    (G : OkF X.prog X.w X.K X.mg X.base lv f ps (spC R)) (hr : Room lv X.A) (hm : X.mg x = some (.ref f)) (hR : ∀ H, Ex H0 H → R H [] k) (hg : Gl X x := by rfl)
    (hdb : (x == ("__debug__" : Str)) = false := by decide) : EX X H0 ss (.Call (.Name x p1) [] [] pos) k := fun σ H Q S q => by
  obtain ⟨fd, F, b⟩ := G.ex
  refine ⟨_, pe_call0 F hr hg hm G.kp b .nil pass0 hdb, ?_⟩
  exact ⟨[], k, rfl, hR H S.ex, q⟩

/-! ### objects -/
def ObjAt (H : Hp) (a C : Addr) (l : List (Str × Kd)) : Prop := ∃ dx fs, H a = some (.ins C dx fs) ∧ fs.map (·.1) = l.map (·.1) ∧ Ags H (l.map (·.2)) (fs.map (·.2))
theorem ObjAt.mono {H H' : Hp} (e : Ex H H') {a C : Addr} {l : List (Str × Kd)} (h : ObjAt H a C l) : ObjAt H' a C l := let ⟨dx, fs, h1, h2, h3⟩ := h; ⟨dx, fs, e _ _ h1, h2, h3.mono e⟩
theorem flds_get {H : Hp} {f : Str} : ∀ {l : List (Str × Kd)} {fs : List (Str × V)} {k : Kd}, fs.map (·.1) = l.map (·.1) → Ags H (l.map (·.2)) (fs.map (·.2)) → l.lookup f = some k → ∃ y, fs.lookup f = some y ∧ Ag H k y
  | [], fs, k, _, _, h => by cases h
  | (g, k0) :: l, fs, k, hm, ha, h => by
    cases fs with
    | nil => cases hm
    | cons q fs =>
      obtain ⟨g', y⟩ := q
      have e1 : g' = g := (List.cons.inj hm).1
      subst e1
      obtain ⟨z, zs, ez, a, b⟩ := ha
      obtain ⟨rfl, rfl⟩ := List.cons.inj (show y :: fs.map (·.2) = z :: zs from ez)
      rw [List.lookup_cons] at h ⊢
      cases hb : f == g' with
      | true =>
        rw [hb] at h
        cases h
        exact ⟨y, rfl, a⟩
      | false =>
        rw [hb] at h
        exact flds_get (List.cons.inj hm).2 b h
theorem flds_no {f : Str} : ∀ {l : List (Str × Kd)} {fs : List (Str × V)}, fs.map (·.1) = l.map (·.1) → l.lookup f = none → fs.lookup f = none
  | [], fs, hm, _ => by
    cases fs with
    | nil => rfl
    | cons q fs => cases hm
  | (g, k0) :: l, fs, hm, h => by
    cases fs with
    | nil => cases hm
    | cons q fs =>
      obtain ⟨g', y⟩ := q
      have e1 : g' = g := (List.cons.inj hm).1
      subst e1
      rw [List.lookup_cons] at h ⊢
      cases hb : f == g' with
      | true => rw [hb] at h; cases h
      | false =>
        rw [hb] at h
        exact flds_no (List.cons.inj hm).2 h
theorem ex_fld {o : Expr} {f : Str} {a C : Addr} {l : List (Str × Kd)} {k : Kd} (he : EX X H0 ss o (.d (.v (.ref a)))) (O : ObjAt H0 a C l) (c : Cls X.K C) (n : NoAttr X.K C f) (hl : l.lookup f = some k)
    (hb : attributeBase o f X.env (eval o X.env) = eval o X.env := by rfl) : EX X H0 ss (.Attribute o f pos) k.rd := fun σ H Q S q =>
  ⟨_, pe_fld pe_any hb, he σ H _ S fun u H1 e1 r1 => by
    obtain ⟨dx, fs, h1, h2, h3⟩ := O.mono (S.ex.trans e1)
    obtain ⟨y, g1, g2⟩ := flds_get h2 h3 hl
    refine ⟨a, C, dx, fs, y, isv r1, h1, c, n, g1, q y H1 e1 ?_⟩
    exact (show Is H1 H1 k.rd y from g2).back e1⟩
theorem ex_meth {o : Expr} {m : Str} {a C : Addr} {l : List (Str × Kd)} {f : Addr} {lv : Nat} {ps : List Str} {R : Hp → List Kd → Kd → Prop} {e : Expr} {es : List Expr} {ks : List Kd} {k : Kd} {pl : Sem Bool}
    (he : EX X H0 ss o (.d (.v (.ref a)))) (O : ObjAt H0 a C l) (c : Cls X.K C) (hm : Meth X.K C m f) (hl : l.lookup m = none) (G : OkF X.prog X.w X.K X.mg X.base lv f ps (spC R)) (hr : Room lv X.A)
    (ha : EA X H0 ss (e :: es) ks) (hR : ∀ H, Ex H0 H → R H (.d (.v (.ref a)) :: ks) k)
    (hst : starEach (e :: es) X.env = (false, eval e X.env) :: starEach es X.env := by rfl) (hpl : (backTo pos (starEach es X.env)).any (·.1) = false := by rfl)
    (ht : eval (.Call (.Attribute o m p1) (e :: es) [] pos) X.env = (do
      let ov ← eval o X.env
      standAt p1.atName
      let (f, first) ← holding [ov] (getMethod ov m pl)
      callWith pos f first (backTo pos (starEach (e :: es) X.env)) (backToKw pos (keywordEach [] X.env))) := by rfl) :
    EX X H0 ss (.Call (.Attribute o m p1) (e :: es) [] pos) k := fun σ H Q S q => by
  obtain ⟨fd, F, b⟩ := G.ex
  refine ⟨_, pe_meth pe_any c hm F hr b .nil pass0 pa_any hst hpl ht, ?_⟩
  refine he σ H _ S fun u H1 e1 r1 => ?_
  obtain ⟨dx, fs, h1, h2, h3⟩ := O.mono (S.ex.trans e1)
  refine ⟨a, dx, fs, isv r1, h1, flds_no h2 hl, ha σ H1 _ (S.mono e1) fun vs H2 e2 r2 => ?_⟩
  rw [List.append_nil, isv r1]
  exact ⟨_, k, ags_cons ag_ref r2, hR H2 ((S.ex.trans e1).trans e2), fun y H3 e3 r3 => q y H3 ((e1.trans e2).trans e3) (r3.back (e1.trans e2))⟩
theorem ex_meth0 {o : Expr} {m : Str} {a C : Addr} {l : List (Str × Kd)} {f : Addr} {lv : Nat} {ps : List Str} {R : Hp → List Kd → Kd → Prop} {k : Kd} {pl : Sem Bool}
    (he : EX X H0 ss o (.d (.v (.ref a)))) (O : ObjAt H0 a C l) (c : Cls X.K C) (hm : Meth X.K C m f) (hl : l.lookup m = none) (G : OkF X.prog X.w X.K X.mg X.base lv f ps (spC R)) (hr : Room lv X.A)
    (hR : ∀ H, Ex H0 H → R H [.d (.v (.ref a))] k)
    (ht : eval (.Call (.Attribute o m p1) [] [] pos) X.env = (do
      let ov ← eval o X.env
      standAt p1.atName
      let (f, first) ← holding [ov] (getMethod ov m pl)
      callWith pos f first (backTo pos (starEach [] X.env)) (backToKw pos (keywordEach [] X.env))) := by rfl) :
    EX X H0 ss (.Call (.Attribute o m p1) [] [] pos) k := fun σ H Q S q => by
  obtain ⟨fd, F, b⟩ := G.ex
  refine ⟨_, pe_meth0 pe_any c hm F hr b .nil pass0 ht, ?_⟩
  refine he σ H _ S fun u H1 e1 r1 => ?_
  obtain ⟨dx, fs, h1, h2, h3⟩ := O.mono (S.ex.trans e1)
  refine ⟨a, dx, fs, isv r1, h1, flds_no h2 hl, ?_⟩
  show spC R (u :: ([] ++ [])) H1 Q E0
  rw [List.append_nil, isv r1]
  exact ⟨_, k, ags_cons ag_ref ags_nil, hR H1 (S.ex.trans e1), fun y H3 e3 r3 => q y H3 (e1.trans e3) (r3.back e1)⟩
theorem ex_prop {o : Expr} {f : Str} {a C p g : Addr} {l : List (Str × Kd)} {lv : Nat} {ps : List Str} {R : Hp → List Kd → Kd → Prop} {k : Kd}
    (he : EX X H0 ss o (.d (.v (.ref a)))) (O : ObjAt H0 a C l) (c : Cls X.K C) (hp : PropOf X.K C f p g) (G : OkF X.prog X.w X.K X.mg X.base lv g ps (spC R)) (hr : Room (lv + 1) X.A)
    (hR : ∀ H, Ex H0 H → R H [.d (.v (.ref a))] k) (hab : attributeBase o f X.env (eval o X.env) = eval o X.env := by rfl) : EX X H0 ss (.Attribute o f pos) k := fun σ H Q S q => by
  obtain ⟨fd, F, b⟩ := G.ex
  refine ⟨_, pe_prop pe_any c hp F hr b .nil pass0 hab, ?_⟩
  refine he σ H _ S fun u H1 e1 r1 => ?_
  obtain ⟨dx, fs, h1, h2, h3⟩ := O.mono (S.ex.trans e1)
  exact ⟨a, dx, fs, isv r1, h1, _, k, ags_cons ag_ref ags_nil, hR H1 (S.ex.trans e1), fun y H3 e3 r3 => q y H3 (e1.trans e3) (r3.back e1)⟩

/-! ### statements -/
variable {st : Stmt} {sts : List Stmt} {Nx : List Sl → Prop} {Rt : Kd → Prop} {e c : Expr}
theorem bx_nil (h : Nx ss) : BX X H0 [] ss Nx Rt := fun σ H D S n r => ⟨_, pss_nil, n ss σ H h S⟩
theorem bx_cons {Mid : List Sl → Prop} (h : SX X H0 st ss Mid Rt) (k : ∀ s, Mid s → BX X H0 sts s Nx Rt) : BX X H0 (st :: sts) ss Nx Rt := fun σ H D S n r =>
  ⟨_, pss_cons ps_any pb_any, h σ H { D with nx := RB X sts D } S (fun s' σ' H' q S' => k s' q σ' H' D S' n r) r⟩
theorem bx_one (h : SX X H0 st ss Nx Rt) : BX X H0 [st] ss Nx Rt := fun σ H D S n r => ⟨_, pss_one ps_any, h σ H D S n r⟩
theorem bx_step {s1 : List Sl} (h : SX X H0 st ss (fun s => s = s1) Rt) (k : BX X H0 sts s1 Nx Rt) : BX X H0 (st :: sts) ss Nx Rt := bx_cons h fun s q => q ▸ k
theorem sx_ret {k : Kd} (h : EX X H0 ss e k) (q : Rt k) : SX X H0 (.Return (some e) pos) ss Nx Rt := fun σ H D S n r =>
  ⟨_, ps_ret pe_any, h σ H _ S fun y H1 e1 r1 => r k y H1 q (S.ex.trans e1) (r1.back S.ex)⟩
/-- the slot that a value makes -/
def Kd.sl : Kd → Sl
  | .d x => .d x
  | .nl xs => .own xs
  | .nm ks => .om ks
  | .rm ks => .m ks
  | _ => .no
theorem SR.far {H : Hp} {σ : L2.St} (S : SR H0 H σ ss) {i : Nat} {t : Sl} {p : Addr} (q : ss[i]? = some t) (o : t.isOwn = true) {od : Obj} {u : HO} (h : H p = some (.frz od u)) : σ[i]? ≠ some (some (.ref p)) := fun e => by
  obtain ⟨y, ey, a⟩ := S.get q (by intro z; subst z; cases o)
  rw [e] at ey
  cases ey
  cases t with
  | own xs => obtain ⟨r, er, _, vs, hl, _⟩ := a; cases er; rw [h] at hl; cases hl
  | om xs => obtain ⟨r, er, _, vs, hl, _⟩ := a; cases er; rw [h] at hl; cases hl
  | _ => cases o
theorem SR.set {H H' : Hp} {σ : L2.St} (S : SR H0 H σ ss) (i : Nat) {k : Kd} {y : V} (e : Ex H H') (h : Is H H' k y) : SR H0 H' (σ.set i (some y)) (ss.set i k.sl) := by
  cases k with
  | d d => exact (S.mono e).putD h
  | nl xs =>
    obtain ⟨p, rfl, n, b⟩ := h
    exact S.putN e n ⟨p, rfl, Evl.fresh_back S.ex n, b⟩
  | nm xs =>
    obtain ⟨p, rfl, n, b⟩ := h
    exact S.putN e n ⟨p, rfl, Evl.fresh_back S.ex n, b⟩
  | r xs => exact (S.mono e).put trivial fun z => nomatch z
  | rm xs =>
    obtain ⟨p, rfl, b⟩ := h
    refine (S.mono e).put (s := .m xs) ⟨p, rfl, b⟩ fun _ j t p' hj q ho ey es => ?_
    cases ey
    rcases ho with ho | ⟨ho, _⟩
    · obtain ⟨vs, o, h1, _⟩ := b
      exact (S.mono e).far q ho h1 es
    · cases ho
  | o P => exact (S.mono e).put trivial fun z => nomatch z
theorem sx_set {k : Kd} {x : Str} (i : Nat) (h : EX X H0 ss e k) (hN : X.N.Nodup) (hi : X.N[i]? = some x := by rfl) (hx : Loc X.env.scope x := by first | exact Or.inl rfl | exact Or.inr rfl)
    (hs : swapsWith e (some (.Name x p1)) pos.line X.env = pure false := by rfl) (hf : X.fn x = true ∨ X.env.scope.names.lookup x = some .local := by first | exact .inl rfl | exact .inr rfl) :
    SX X H0 (.Assign [.Name x p1] e pos) ss (fun s => s = ss.set i k.sl) Rt := fun σ H D S n r =>
  ⟨_, ps_set (i := i) hN hi hx pe_any hs hf, h σ H _ S fun y H1 e1 r1 => n _ _ H1 rfl (S.set i e1 r1)⟩
/-- x = an object, the rest: what is true of it is true of the heap as it then stands, which is the base from there on (no slot is an own one) -/
theorem bx_obj {P : Hp → Addr → Prop} {x : Str} (i : Nat) (h : EX X H0 ss e (.o P)) (ho : ss.all (fun s => !s.isOwn) = true) (hN : X.N.Nodup) (k : ∀ a Hb, Ex H0 Hb → P Hb a → BX X Hb sts (ss.set i (.d (.v (.ref a)))) Nx Rt)
    (hi : X.N[i]? = some x := by rfl) (hx : Loc X.env.scope x := by first | exact Or.inl rfl | exact Or.inr rfl)
    (hs : swapsWith e (some (.Name x p1)) pos.line X.env = pure false := by rfl) (hf : X.fn x = true ∨ X.env.scope.names.lookup x = some .local := by first | exact .inl rfl | exact .inr rfl) :
    BX X H0 (.Assign [.Name x p1] e pos :: sts) ss Nx Rt := fun σ H D S n r => by
  refine ⟨_, pss_cons (ps_set (i := i) hN hi hx pe_any hs hf) pb_any, h σ H _ S fun y H1 e1 r1 => ?_⟩
  obtain ⟨a, rfl, hP⟩ := r1
  have S1 := S.mono e1
  have Sb : SR H1 H1 σ ss := ⟨Evl.Ex.refl H1, S1.len, fun j s q => (S1.at_ j s q).imp id fun ⟨y, a, b⟩ => ⟨y, a, by
      have no : s.isOwn = false := by
        have := List.all_eq_true.mp ho s (List.mem_of_getElem? q)
        simpa using this
      cases s with
      | own xs => cases no
      | om xs => cases no
      | no => exact b
      | d d => exact b
      | l xs => exact b
      | m xs => exact b⟩, S1.sep⟩
  refine k a H1 (S.ex.trans e1) hP _ _ D (Sb.putD (d := .v (.ref a)) .of) (fun s' σ' H' q S' => n s' σ' H' q (S'.down (S.ex.trans e1))) fun q y H' hq e' i' => r q y H' hq ((S.ex.trans e1).trans e') (i'.back (S.ex.trans e1))
theorem sx_if {b1 b2 : List Stmt} {x : Bool} (h : ET X H0 ss c x) (h1 : x = true → BX X H0 b1 ss Nx Rt) (h2 : x = false → BX X H0 b2 ss Nx Rt) : SX X H0 (.If c b1 b2 pos) ss Nx Rt := fun σ H D S n r =>
  ⟨_, ps_if pt_any pb_any pb_any, h σ H _ S fun H1 e1 => by
    cases x with
    | true => exact iteT (h1 rfl σ H1 D (S.mono e1) n r)
    | false => exact iteF (h2 rfl σ H1 D (S.mono e1) n r)⟩
/-- if c: .. that isn't entered -/
theorem sx_no {b1 : List Stmt} (h : ET X H0 ss c false) : SX X H0 (.If c b1 [] pos) ss (fun s => s = ss) Rt := fun σ H D S n r =>
  ⟨_, ps_if pt_any (pss_never (sts := b1)) pss_nil, h σ H _ S fun H1 e1 => iteF (n ss σ H1 rfl (S.mono e1))⟩
theorem sx_yes {b1 b2 : List Stmt} (h : ET X H0 ss c true) (h1 : BX X H0 b1 ss Nx Rt) : SX X H0 (.If c b1 b2 pos) ss Nx Rt := fun σ H D S n r =>
  ⟨_, ps_if pt_any pb_any (pss_never (sts := b2)), h σ H _ S fun H1 e1 => iteT (h1 σ H1 D (S.mono e1) n r)⟩
theorem sx_else {b1 b2 : List Stmt} (h : ET X H0 ss c false) (h2 : BX X H0 b2 ss Nx Rt) : SX X H0 (.If c b1 b2 pos) ss Nx Rt := fun σ H D S n r =>
  ⟨_, ps_if pt_any (pss_never (sts := b1)) pb_any, h σ H _ S fun H1 e1 => iteF (h2 σ H1 D (S.mono e1) n r)⟩
theorem sx_expr {k : Kd} (h : EX X H0 ss e k) (hs : swapsWith e none pos.line X.env = pure false := by rfl) : SX X H0 (.Expr e pos) ss (fun s => s = ss) Rt := fun σ H D S n r =>
  ⟨_, ps_expr pe_any hs, h σ H _ S fun y H1 e1 r1 => n ss σ H1 rfl (S.mono e1)⟩
theorem sx_mono {Nx' : List Sl → Prop} (h : SX X H0 st ss Nx' Rt) (k : ∀ s, Nx' s → Nx s) : SX X H0 st ss Nx Rt := fun σ H D S n r => h σ H D S (fun s' σ' H' q S' => n s' σ' H' (k s' q) S') r
theorem bx_mono {Nx' : List Sl → Prop} (h : BX X H0 sts ss Nx' Rt) (k : ∀ s, Nx' s → Nx s) : BX X H0 sts ss Nx Rt := fun σ H D S n r => h σ H D S (fun s' σ' H' q S' => n s' σ' H' (k s' q) S') r
/-- name += e, -= e (ints) -/
theorem sx_augA {x : Str} (i : Nat) {m n : Int} (h : EX X H0 ss e (.d (.v (.int n)))) (hs : ss[i]? = some (.d (.v (.int m)))) (hN : X.N.Nodup) (hi : X.N[i]? = some x := by rfl) (hx : Loc X.env.scope x := by first | exact Or.inl rfl | exact Or.inr rfl)
    (hf : X.fn x = true ∨ X.env.scope.names.lookup x = some .local := by first | exact .inl rfl | exact .inr rfl) : SX X H0 (.AugAssign (.Name x p1) .Add e pos) ss (fun s => s = ss.set i (.d (.v (.int (m + n))))) Rt := fun σ H D S k r => by
  obtain ⟨y, ey, a⟩ := S.get hs (by intro z; cases z)
  refine ⟨_, ps_aug (i := i) hN hi hx pe_any ip_add hf, y, ey, h σ H _ S fun u H1 e1 r1 => ?_⟩
  exact ⟨m, n, Rep.flat (H := H) a, isv r1, k _ _ H1 rfl ((S.mono e1).putD .of)⟩
theorem sx_augS {x : Str} (i : Nat) {m n : Int} (h : EX X H0 ss e (.d (.v (.int n)))) (hs : ss[i]? = some (.d (.v (.int m)))) (hN : X.N.Nodup) (hi : X.N[i]? = some x := by rfl) (hx : Loc X.env.scope x := by first | exact Or.inl rfl | exact Or.inr rfl)
    (hf : X.fn x = true ∨ X.env.scope.names.lookup x = some .local := by first | exact .inl rfl | exact .inr rfl) : SX X H0 (.AugAssign (.Name x p1) .Sub e pos) ss (fun s => s = ss.set i (.d (.v (.int (m - n))))) Rt := fun σ H D S k r => by
  obtain ⟨y, ey, a⟩ := S.get hs (by intro z; cases z)
  refine ⟨_, ps_aug (i := i) hN hi hx pe_any ip_sub hf, y, ey, h σ H _ S fun u H1 e1 r1 => ?_⟩
  exact ⟨m, n, Rep.flat (H := H) a, isv r1, k _ _ H1 rfl ((S.mono e1).putD .of)⟩
/-- a, b = x, y (local names) -/
theorem sx_par {x y : Str} {a b : Expr} (i j : Nat) {k l : Kd} {kt k2 : Nat} {px py pt pt2 : Pos} (ha : EX X H0 ss a k) (hb : EX X H0 ss b l) (hc : X.calm = true) (hN : X.N.Nodup)
    (hw : swappedStores [.Tuple [.Name x px, .Name y py] kt pt] (.Tuple [a, b] k2 pt2) X.env = pure (some [x, y])) (hi : X.N[i]? = some x := by rfl) (hj : X.N[j]? = some y := by rfl) (hij : i ≠ j := by decide)
    (hx : X.env.scope.names.lookup x = some .local := by rfl) (hy : X.env.scope.names.lookup y = some .local := by rfl) (he : starEach [a, b] X.env = (false, eval a X.env) :: starEach [b] X.env := by rfl) (he2 : starEach [b] X.env = (false, eval b X.env) :: starEach [] X.env := by rfl)
    (hs : swapsWithSole [.Tuple [.Name x px, .Name y py] kt pt] (.Tuple [a, b] k2 pt2) pos.line X.env = pure false := by rfl) (hkl : k.sl.isOwn = true → l.sl.isObj = true → False := by intro a b; first | cases a | cases b) :
    SX X H0 (.Assign [.Tuple [.Name x px, .Name y py] kt pt] (.Tuple [a, b] k2 pt2) pos) ss (fun s => s = (ss.set i k.sl).set j l.sl) Rt := fun σ H D S n r => by
  refine ⟨_, ps_par hc hN hi hj hij hx hy (pa_cons pe_any (pa_cons pe_any pa_nil he2) he) hw hs, ?_⟩
  refine ha σ H _ S fun u H1 e1 r1 => ?_
  have S1 := S.set i e1 r1
  refine hb σ H1 _ (S.mono e1) fun v H2 e2 r2 => ?_
  exact ⟨u, v, rfl, n _ _ H2 rfl (S1.set j e2 r2)⟩

/-! ### lists that the frame owns -/
theorem own_upd {H : Hp} {σ : L2.St} (S : SR H0 H σ ss) {i : Nat} {s : Sl} {p : Addr} (hs : ss[i]? = some s) (ho : s.isOwn = true) (hp : σ[i]? = some (some (.ref p))) {o : HO} {t' : Sl} (ha : Tups H (upd H p o) → SlAt H0 (upd H p o) t' (.ref p)) : SR H0 (upd H p o) σ (ss.set i t') := by
  have hz : H0 p = none ∧ ∀ xs, H p ≠ some (.tup xs) := by
    cases s with
    | own xs =>
      obtain ⟨y, ey, q, e, z, vs, hl, _⟩ := S.get hs (by intro z; cases z)
      rw [hp] at ey
      cases ey
      cases e
      exact ⟨z, fun xs e => by rw [hl] at e; cases e⟩
    | om xs =>
      obtain ⟨y, ey, q, e, z, vs, hl, _⟩ := S.get hs (by intro z; cases z)
      rw [hp] at ey
      cases ey
      cases e
      exact ⟨z, fun xs e => by rw [hl] at e; cases e⟩
    | _ => cases ho
  obtain ⟨z, hnt⟩ := hz
  have tu : Tups H (upd H p o) := .upd hnt
  have hlt : i < ss.length := (List.getElem?_eq_some_iff.mp hs).1
  refine ⟨Evl.Ex.mut S.ex z, by simp [S.len], fun j t q => ?_, fun j k t u a hjk qj qk ht hu ej ek => ?_⟩
  · by_cases hj : j = i
    · subst hj
      rw [List.getElem?_set_self hlt] at q
      cases q
      exact .inr ⟨_, hp, ha tu⟩
    · rw [List.getElem?_set_ne (Ne.symm hj)] at q
      rcases S.at_ j t q with h | ⟨y, ey, a⟩
      · exact .inl h
      · refine .inr ⟨y, ey, ?_⟩
        have far : t.isObj = true → ∀ b, y = .ref b → b ≠ p := fun o b eb hb => by
          subst hb
          exact S.sep i j _ t b (Ne.symm hj) hs q ho o hp (eb ▸ ey)
        cases t with
        | no => exact trivial
        | d d => exact Rep.tup tu a
        | l xs =>
          obtain ⟨b, eb, vs, h1, h2⟩ := a
          exact ⟨b, eb, vs, by rw [upd_ne (far rfl b eb)]; exact h1, h2.tup tu⟩
        | own xs =>
          obtain ⟨b, eb, n, vs, h1, h2⟩ := a
          exact ⟨b, eb, n, vs, by rw [upd_ne (far rfl b eb)]; exact h1, h2.tup tu⟩
        | m xs =>
          obtain ⟨b, eb, vs, o, h1, h2⟩ := a
          exact ⟨b, eb, vs, o, by rw [upd_ne (far rfl b eb)]; exact h1, h2.tup tu⟩
        | om xs =>
          obtain ⟨b, eb, n, vs, h1, h2⟩ := a
          exact ⟨b, eb, n, vs, by rw [upd_ne (far rfl b eb)]; exact h1, h2.tup tu⟩
  · have cls : ∀ {j : Nat} {t : Sl}, (ss.set i t')[j]? = some t → ∃ u, ss[j]? = some u ∧ (t.isOwn = true → u.isOwn = true) ∧ (t.isObj = true → u.isObj = true) := fun {j t} q => by
      by_cases hj : j = i
      · subst hj
        exact ⟨_, hs, fun _ => ho, fun _ => by cases s <;> first | rfl | cases ho⟩
      · rw [List.getElem?_set_ne (Ne.symm hj)] at q
        exact ⟨t, q, id, id⟩
    obtain ⟨t1, q1, o1, _⟩ := cls qj
    obtain ⟨u1, q2, _, o2⟩ := cls qk
    exact S.sep j k t1 u1 a hjk q1 q2 (o1 ht) (o2 hu) ej ek
theorem own_write {H : Hp} {σ : L2.St} (S : SR H0 H σ ss) {i : Nat} {xs : List Dt} {p : Addr} (hs : ss[i]? = some (.own xs)) (hp : σ[i]? = some (some (.ref p))) {ys : List Dt} {us : List V} (r : RepL H ys us) : SR H0 (upd H p (.lst us)) σ (ss.set i (.own ys)) := by
  obtain ⟨y, ey, q, e, z, vs, hl, _⟩ := S.get hs (by intro z; cases z)
  rw [hp] at ey
  cases ey
  cases e
  exact own_upd S hs rfl hp fun tu => ⟨p, rfl, z, us, upd_same, r.tup tu⟩
theorem own_writeM {H : Hp} {σ : L2.St} (S : SR H0 H σ ss) {i : Nat} {xs : List (List Key × Dt)} {p : Addr} (hs : ss[i]? = some (.om xs)) (hp : σ[i]? = some (some (.ref p))) {ys : List (List Key × Dt)} {us : List (List Key × V)} (r : RepM H ys us) : SR H0 (upd H p (.dT us)) σ (ss.set i (.om ys)) := by
  obtain ⟨y, ey, q, e, z, vs, hl, _⟩ := S.get hs (by intro z; cases z)
  rw [hp] at ey
  cases ey
  cases e
  exact own_upd S hs rfl hp fun tu => ⟨p, rfl, z, us, upd_same, r.tup tu⟩
/-- xs.append(e), xs a slot -/
theorem sx_app {x : Str} (i : Nat) {xs : List Dt} {d : Dt} (hs : ss[i]? = some (.own xs)) (he : EX X H0 ss e (.d d)) (hz : xs.length < 100000) (hN : X.N[i]? = some x := by rfl)
    (hv : Vis X.env.scope x := by first | exact Or.inl rfl | exact Or.inr (Or.inl rfl)) (hbase : attributeBase (.Name x p1) "append" X.env (eval (.Name x p1) X.env) = eval (.Name x p1) X.env := by rfl)
    (hd : (x == ("__debug__" : Str)) = false := by decide) (hcd : (x == ("__classdict__" : Str)) = false := by decide) {pa pc : Pos}
    (hfew : ((backTo pc (starEach [e] X.env)).all (fun x => !x.1) && (backToKw pc (keywordEach [] X.env)).all (fun x => x.1.isSome)
      && decide ([e].length + ([] : List Keyword).length + (if ([] : List Keyword).isEmpty then 0 else 1) < 30)) = true := by rfl)
    (hline : (pa.endLine == pc.line) = true := by rfl) (hst : starEach [e] X.env = (false, eval e X.env) :: starEach [] X.env := by rfl) (hplain : (backTo pc (starEach [] X.env)).any (·.1) = false := by rfl) :
    SX X H0 (.Expr (.Call (.Attribute (.Name x p1) "append" pa) [e] [] pc) pos) ss (fun s => s = ss.set i (.own (xs ++ [d]))) Rt := fun σ H D S n r => by
  obtain ⟨y, ey, p, rfl, z, vs, hl, hr⟩ := S.get hs (by intro z; cases z)
  refine ⟨_, ps_expr (pe_bm PySem.F.plainAttrs_list PySem.F.slot_list_append PySem.F.type_list_append mt_append (pe_var hN (by rcases hv with h | h | h <;> first | exact Or.inl h | exact Or.inr (Or.inl h) | exact Or.inr (Or.inr h)) hd hcd) (pa_cons pe_any pa_nil hst) hbase hfew hline hst hplain), ?_⟩
  refine ⟨_, ey, .inl ⟨rfl, _, SqL.of hl⟩, he σ H _ S fun u H1 e1 r1 => ?_⟩
  have hl1 := e1 p _ hl
  have rr : RepL H1 (xs ++ [d]) (vs ++ [u]) := (hr.mono e1).append (.cons r1 .nil)
  refine ⟨p, vs, u, rfl, rfl, hl1, by rw [hr.length]; exact Evl.sz_lt hz, ?_⟩
  exact n _ _ _ rfl (own_write (S.mono e1) hs ey rr)
end
end K44
end

section
-- text Fw4
set_option Elab.async false
set_option linter.all false
set_option maxRecDepth 100000
set_option maxHeartbeats 4000000
namespace K44
open PySem PySem.Spec L2
open Evl (Ex)
open C8 (InsC call_isC)

/-! ### a def's promise by its body -/
def Kd.asl : Kd → Sl
  | .d x => .d x
  | .r xs => .l xs
  | .nl xs => .l xs
  | .rm ks => .m ks
  | .nm _ => .no
  | .o _ => .no
def argS (n : Nat) (ks : List Kd) : List Sl := ks.map Kd.asl ++ List.replicate (n - ks.length) .no
theorem ags_get {H : Hp} : ∀ {ks : List Kd} {vs : List V} {i : Nat} {k : Kd}, Ags H ks vs → ks[i]? = some k → ∃ y, vs[i]? = some y ∧ Ag H k y
  | [], vs, i, k, _, e => by simp at e
  | k0 :: ks, vs, 0, k, ⟨y, ys, q, a, b⟩, e => by
    subst q
    simp at e
    subst e
    exact ⟨y, rfl, a⟩
  | k0 :: ks, vs, i + 1, k, ⟨y, ys, q, a, b⟩, e => by
    subst q
    obtain ⟨z, h1, h2⟩ := ags_get (i := i) (k := k) b (by simpa using e)
    exact ⟨z, by simpa using h1, h2⟩
theorem sr_start {H : Hp} {N : List Str} {ks : List Kd} {vs : List V} (h : Ags H ks vs) (hl : ks.length ≤ N.length) : SR H H (L2.start N vs) (argS N.length ks) := by
  have hv := h.length
  have noOwn : ∀ {i : Nat} {s : Sl}, (argS N.length ks)[i]? = some s → s.isOwn = false := fun {i s} q => by
    unfold argS at q
    rw [List.getElem?_append] at q
    split at q
    · rw [List.getElem?_map] at q
      cases hk : ks[i]? with
      | none => rw [hk] at q; cases q
      | some k =>
        rw [hk] at q
        cases k <;> cases q <;> rfl
    · have := List.mem_of_getElem? q
      rw [List.mem_replicate] at this
      rw [this.2]; rfl
  refine ⟨Evl.Ex.refl H, by simp [L2.start, argS, hv], fun i s q => ?_, fun i j s t p _ qi _ hs => by rw [noOwn qi] at hs; cases hs⟩
  unfold argS at q
  rw [List.getElem?_append] at q
  split at q
  · rename_i hi
    rw [List.getElem?_map] at q
    cases hk : ks[i]? with
    | none => rw [hk] at q; cases q
    | some k =>
      rw [hk] at q
      obtain ⟨y, e, a⟩ := ags_get h hk
      have e2 : (L2.start N vs)[i]? = some (some y) := by
        unfold L2.start
        rw [List.getElem?_append_left (by simp at hi ⊢; omega), List.getElem?_map, e]
        rfl
      cases k with
      | d x => cases q; exact .inr ⟨y, e2, a⟩
      | r xs => cases q; exact .inr ⟨y, e2, a⟩
      | nl xs => cases q; exact .inr ⟨y, e2, a⟩
      | rm xs => cases q; exact .inr ⟨y, e2, a⟩
      | nm xs => cases q; exact .inl rfl
      | o P => cases q; exact .inl rfl
  · have := List.mem_of_getElem? q
    rw [List.mem_replicate] at this
    exact .inl this.2
section
variable {P : Program} {w : World} {K : PySem.W.Frag} {mg : Str → Option Value} {base : Heap}
abbrev CxF (P : Program) (w : World) (K : PySem.W.Frag) (mg : Str → Option Value) (base : Heap) (N : List Str) (qual : Str) (st : Stmt) (f : Addr) (cdv : Value) (A : Around) (outer : List Env) (s : Shared) (H : Hp) (E : XK) : Cx :=
  (cxOf CX0 P w K mg base N qual (defScope st) f cdv A outer s H E).nox
theorem ok_fr {x qual : Str} {st : Stmt} {f : Addr} {N ps : List Str} {lv : Nat} {R : Hp → List Kd → Kd → Prop} (F : ∃ fd, Fun K x qual st f fd) (S : FnScope N ps (defScope st))
    (bb : ∀ (kV doc pm : Value) (an : Option Addr) (cdv ct : Value) (us : List Value), us.length = ps.length → bindArgs (PySem.W.fnOf x qual (defArgs st) (defBody st) (defScope st) .none kV doc pm an cdv ct) ⟨us, []⟩ = pure (ps.zip us))
    (hN : ps.length ≤ N.length) (hl : ∀ H ks k, R H ks k → ks.length = ps.length)
    (body : ∀ (cdv : Value) (A : Around) (outer : List Env) (s : Shared) (H : Hp) (E : XK) (ks : List Kd) (k : Kd), Room lv (CxF P w K mg base N qual st f cdv A outer s H E).A → R H ks k →
      BX (CxF P w K mg base N qual st f cdv A outer s H E) H (defBody st) (argS N.length ks) (fun _ => k = .d (.v .non)) (fun q => q = k)) : OkF P w K mg base (lv + 1) f ps (spC R) := by
  obtain ⟨fd, F⟩ := F
  refine ⟨⟨fd, F.ok S (fun vs H Q E h => ?_) (fun cdv A outer s H vs Q E hr h => ?_), F.binds bb⟩, F.kp⟩
  · obtain ⟨ks, k, a, r, _⟩ := h
    rw [a.length]; exact hl H ks k r
  · obtain ⟨ks, k, a, r, q⟩ := h
    refine ⟨_, pb_any, body cdv A outer s H E ks k hr r _ _ _ (sr_start a (by rw [hl H ks k r]; exact hN)) (fun s' σ' H' hk S' => ?_) (fun k' y H' hk e i => ?_)⟩
    · subst hk
      exact q _ H' S'.ex (is_v (H := H))
    · subst hk
      exact q y H' e i
end

section
variable {X : Cx} {H0 : Hp} {ss : List Sl} {pos p1 p2 : Pos} {a b c e : Expr} {st : Stmt} {sts : List Stmt} {Nx : List Sl → Prop} {Rt : Kd → Prop}
/-! ### built-ins -/
theorem ex_cb {x : Str} {id : String} {r : List V → Hp → VK → Prop} {es : List Expr} {ks : List Kd} {k : Kd} (hc : CallR X (.builtin id) r) (hm : X.mg x = none) (hv : bootBuiltins x = some (.builtin id)) (ha : EA X H0 ss (e :: es) ks)
    (hr : ∀ (H : Hp) (vs : List V) (Q : VK), Ags H ks vs → (∀ y H', Ex H H' → Is H H' k y → Q y H') → r vs H Q) (hg : Gl X x := by rfl) (hn : x ≠ "__name__" := by decide) (hdb : (x == ("__debug__" : Str)) = false := by decide)
    (he : starEach (e :: es) X.env = (false, eval e X.env) :: starEach es X.env := by rfl) (hpl : (backTo pos (starEach es X.env)).any (·.1) = false := by rfl) : EX X H0 ss (.Call (.Name x p1) (e :: es) [] pos) k := fun σ H Q S q =>
  ⟨_, pe_callB hc hg hm hv pa_any hn hdb he hpl, ha σ H _ S fun vs H1 e1 r1 => hr H1 vs Q r1 fun y H2 e2 i => q y H2 (e1.trans e2) (i.back e1)⟩
theorem ex_ct {x : Str} {T : String} {r : List V → Hp → VK → Prop} {es : List Expr} {ks : List Kd} {k : Kd} (hc : CallR X (.type T) r) (hm : X.mg x = none) (hv : bootBuiltins x = some (.type T)) (ha : EA X H0 ss (e :: es) ks)
    (hr : ∀ (H : Hp) (vs : List V) (Q : VK), Ags H ks vs → (∀ y H', Ex H H' → Is H H' k y → Q y H') → r vs H Q) (hg : Gl X x := by rfl) (hn : x ≠ "__name__" := by decide) (hdb : (x == ("__debug__" : Str)) = false := by decide)
    (he : starEach (e :: es) X.env = (false, eval e X.env) :: starEach es X.env := by rfl) (hpl : (backTo pos (starEach es X.env)).any (·.1) = false := by rfl) : EX X H0 ss (.Call (.Name x p1) (e :: es) [] pos) k := fun σ H Q S q =>
  ⟨_, pe_callTy hc hg hm hv pa_any hn hdb he hpl, ha σ H _ S fun vs H1 e1 r1 => hr H1 vs Q r1 fun y H2 e2 i => q y H2 (e1.trans e2) (i.back e1)⟩
theorem ags1 {H : Hp} {k : Kd} {vs : List V} (h : Ags H [k] vs) : ∃ y, vs = [y] ∧ Ag H k y := by
  obtain ⟨y, ys, q, a, b⟩ := h
  rw [show ys = [] from b] at q
  exact ⟨y, q, a⟩
theorem ags2 {H : Hp} {k l : Kd} {vs : List V} (h : Ags H [k, l] vs) : ∃ y z, vs = [y, z] ∧ Ag H k y ∧ Ag H l z := by
  obtain ⟨y, ys, q, a, b⟩ := h
  obtain ⟨z, rfl, c⟩ := ags1 b
  exact ⟨y, z, q, a, c⟩
theorem agv {H : Hp} {x y : V} (h : Ag H (.d (.v x)) y) : y = x := Rep.flat (H := H) h
theorem ex_one1 {k : Kd} {e : Expr} (h : EX X H0 ss e k) (hs : starEach [e] X.env = (false, eval e X.env) :: starEach [] X.env := by rfl) : EA X H0 ss [e] [k] := ea_cons h ea_nil hs
theorem ex_abs {i : Int} (h : EX X H0 ss e (.d (.v (.int i)))) (hm : X.mg "abs" = none) (hg : Gl X "abs" := by rfl) (he : starEach [e] X.env = (false, eval e X.env) :: starEach [] X.env := by rfl) : EX X H0 ss (.Call (.Name "abs" p1) [e] [] pos) (.d (.v (.int (if i < 0 then -i else i)))) :=
  ex_cb call_abs hm (by decide +kernel) (ex_one1 h he) (fun H vs Q r q => by
    obtain ⟨y, rfl, a⟩ := ags1 r
    rw [agv a]
    exact ⟨i, rfl, q _ H (Evl.Ex.refl H) (is_v (H := H))⟩) hg (by decide) (by decide) he rfl
theorem ex_intI {i : Int} (h : EX X H0 ss e (.d (.v (.int i)))) (hm : X.mg "int" = none) (hg : Gl X "int" := by rfl) (he : starEach [e] X.env = (false, eval e X.env) :: starEach [] X.env := by rfl) : EX X H0 ss (.Call (.Name "int" p1) [e] [] pos) (.d (.v (.int i))) :=
  ex_ct call_int1 hm (by decide +kernel) (ex_one1 h he) (fun H vs Q r q => by
    obtain ⟨y, rfl, a⟩ := ags1 r
    rw [agv a]
    exact .inl ⟨i, rfl, q _ H (Evl.Ex.refl H) (is_v (H := H))⟩) hg (by decide) (by decide) he rfl
theorem ex_intB {x : Bool} (h : EX X H0 ss e (.d (.v (.bl x)))) (hm : X.mg "int" = none) (hg : Gl X "int" := by rfl) (he : starEach [e] X.env = (false, eval e X.env) :: starEach [] X.env := by rfl) : EX X H0 ss (.Call (.Name "int" p1) [e] [] pos) (.d (.v (.int (if x then 1 else 0)))) :=
  ex_ct call_int1 hm (by decide +kernel) (ex_one1 h he) (fun H vs Q r q => by
    obtain ⟨y, rfl, a⟩ := ags1 r
    rw [agv a]
    exact .inr ⟨x, rfl, q _ H (Evl.Ex.refl H) (is_v (H := H))⟩) hg (by decide) (by decide) he rfl
theorem ag_tup {H : Hp} {l : List Dt} {y : V} (h : Ag H (.d (.tup l)) y) : ∃ p vs, y = .ref p ∧ H p = some (.tup vs) ∧ RepL H l vs := rep_tupI (H := H) h
theorem ag_r {H : Hp} {l : List Dt} {y : V} (h : Ag H (.r l) y) : ∃ p vs, y = .ref p ∧ H p = some (.lst vs) ∧ RepL H l vs := let ⟨p, a, vs, b, c⟩ := h; ⟨p, vs, a, b, c⟩
theorem ag_nl {H : Hp} {l : List Dt} {y : V} (h : Ag H (.nl l) y) : ∃ p vs, y = .ref p ∧ H p = some (.lst vs) ∧ RepL H l vs := let ⟨p, a, vs, b, c⟩ := h; ⟨p, vs, a, b, c⟩
/-- what may be read as a sequence -/
def Sq (k : Kd) (l : List Dt) : Prop := k = .d (.tup l) ∨ k = .r l ∨ k = .nl l
theorem sq_ag {K : PySem.W.Frag} {H : Hp} {k : Kd} {l : List Dt} {y : V} (s : Sq k l) (h : Ag H k y) : ∃ p vs, y = .ref p ∧ (SqL K H p vs ∨ SqT K H p vs) ∧ RepL H l vs := by
  rcases s with rfl | rfl | rfl
  · obtain ⟨p, vs, a, b, c⟩ := ag_tup h; exact ⟨p, vs, a, .inr (SqT.of b), c⟩
  · obtain ⟨p, vs, a, b, c⟩ := ag_r h; exact ⟨p, vs, a, .inl (SqL.of b), c⟩
  · obtain ⟨p, vs, a, b, c⟩ := ag_nl h; exact ⟨p, vs, a, .inl (SqL.of b), c⟩
theorem ex_len {k : Kd} {l : List Dt} (h : EX X H0 ss e k) (s : Sq k l) (hm : X.mg "len" = none) (hg : Gl X "len" := by rfl) (he : starEach [e] X.env = (false, eval e X.env) :: starEach [] X.env := by rfl) : EX X H0 ss (.Call (.Name "len" p1) [e] [] pos) (.d (.v (.int (l.length : Int)))) :=
  ex_cb call_len_seq hm (by decide +kernel) (ex_one1 h he) (fun H vs Q r q => by
    obtain ⟨y, rfl, a⟩ := ags1 r
    obtain ⟨p, us, rfl, b, c⟩ := sq_ag (K := X.K) s a
    refine ⟨p, us, rfl, b, ?_⟩
    rw [c.length]
    exact q _ H (Evl.Ex.refl H) (is_v (H := H))) hg (by decide) (by decide) he rfl
theorem ex_lenS {z : Str} (h : EX X H0 ss e (.d (.v (.str z)))) (hz : z.length ≤ sizeLine) (hm : X.mg "len" = none) (hg : Gl X "len" := by rfl) (he : starEach [e] X.env = (false, eval e X.env) :: starEach [] X.env := by rfl) : EX X H0 ss (.Call (.Name "len" p1) [e] [] pos) (.d (.v (.int (z.length : Int)))) :=
  ex_cb call_len hm (by decide +kernel) (ex_one1 h he) (fun H vs Q r q => by
    obtain ⟨y, rfl, a⟩ := ags1 r
    rw [agv a]
    exact ⟨_, z.length, rfl, ⟨hz, rfl⟩, q _ H (Evl.Ex.refl H) (is_v (H := H))⟩) hg (by decide) (by decide) he rfl
theorem ex_divmod {i j : Int} (h : EX X H0 ss a (.d (.v (.int i)))) (h2 : EX X H0 ss b (.d (.v (.int j)))) (hj : 0 < j ∧ j < 1073741824) (hm : X.mg "divmod" = none) (hg : Gl X "divmod" := by rfl) (he : starEach [a, b] X.env = (false, eval a X.env) :: starEach [b] X.env := by rfl) (he2 : starEach [b] X.env = (false, eval b X.env) :: starEach [] X.env := by rfl)
    (hpl : (backTo pos (starEach [b] X.env)).any (·.1) = false := by rfl) : EX X H0 ss (.Call (.Name "divmod" p1) [a, b] [] pos) (.d (.tup [.v (.int (i / j)), .v (.int (i % j))])) :=
  ex_cb call_divmod hm (by decide +kernel) (ea_cons h (ex_one1 h2 he2) he) (fun H vs Q r q => by
    obtain ⟨y, z, rfl, a, b⟩ := ags2 r
    rw [agv a, agv b]
    exact ⟨i, j, rfl, hj, fun p hp => q _ _ (Evl.Ex.new hp) (rep_tup upd_same (.cons .of (.cons .of .nil)))⟩) hg (by decide) (by decide) he hpl
theorem ex_tupL {k : Kd} {l : List Dt} (h : EX X H0 ss e k) (s : k = .r l ∨ k = .nl l) (hm : X.mg "tuple" = none) (hg : Gl X "tuple" := by rfl) (he : starEach [e] X.env = (false, eval e X.env) :: starEach [] X.env := by rfl) : EX X H0 ss (.Call (.Name "tuple" p1) [e] [] pos) (.d (.tup l)) :=
  ex_ct call_tuple_of hm (by decide +kernel) (ex_one1 h he) (fun H vs Q r q => by
    obtain ⟨y, rfl, a⟩ := ags1 r
    have go : ∃ p us, y = V.ref p ∧ H p = some (.lst us) ∧ RepL H l us := by
      rcases s with rfl | rfl
      · exact ag_r a
      · exact ag_nl a
    obtain ⟨p, us, rfl, b, c⟩ := go
    exact ⟨p, us, rfl, .inl ⟨SqL.of b, fun l hl => q _ _ (Evl.Ex.new hl) (rep_tup upd_same (c.mono (Evl.Ex.new hl)))⟩⟩) hg (by decide) (by decide) he rfl
theorem ex_lstT {k : Kd} {l : List Dt} (h : EX X H0 ss e k) (s : Sq k l) (hm : X.mg "list" = none) (hg : Gl X "list" := by rfl) (he : starEach [e] X.env = (false, eval e X.env) :: starEach [] X.env := by rfl) : EX X H0 ss (.Call (.Name "list" p1) [e] [] pos) (.nl l) :=
  ex_ct call_list_of hm (by decide +kernel) (ex_one1 h he) (fun H vs Q r q => by
    obtain ⟨y, rfl, a⟩ := ags1 r
    obtain ⟨p, us, rfl, b, c⟩ := sq_ag (K := X.K) s a
    exact ⟨p, us, rfl, b, fun l hl => q _ _ (Evl.Ex.new hl) ⟨l, rfl, hl, _, upd_same, c.mono (Evl.Ex.new hl)⟩⟩) hg (by decide) (by decide) he rfl
def isL (k : Kd) (l : List Dt) : Prop := k = .r l ∨ k = .nl l
theorem isL_ag {H : Hp} {k : Kd} {l : List Dt} {y : V} (s : isL k l) (a : Ag H k y) : ∃ p us, y = V.ref p ∧ H p = some (.lst us) ∧ RepL H l us := by
  rcases s with rfl | rfl
  · exact ag_r a
  · exact ag_nl a
theorem ex_sum {k : Kd} {ns : List Int} (h : EX X H0 ss e k) (s : isL k (intsD ns)) (hm : X.mg "sum" = none) (hc : X.calm = true := by rfl) (hg : Gl X "sum" := by rfl) (he : starEach [e] X.env = (false, eval e X.env) :: starEach [] X.env := by rfl) : EX X H0 ss (.Call (.Name "sum" p1) [e] [] pos) (.d (.v (.int ns.sum))) :=
  ex_cb (cr_sum hc) hm (by decide +kernel) (ex_one1 h he) (fun H vs Q r q => by
    obtain ⟨y, rfl, a⟩ := ags1 r
    obtain ⟨p, us, rfl, b, c⟩ := isL_ag s a
    rw [c.intsD] at b
    exact ⟨p, ns, rfl, SqL.of b, q _ H (Evl.Ex.refl H) (is_v (H := H))⟩) hg (by decide) (by decide) he rfl
theorem ex_all {k : Kd} {bs : List Bool} (h : EX X H0 ss e k) (s : isL k (bs.map fun x => Dt.v (.bl x))) (hm : X.mg "all" = none) (hc : X.calm = true := by rfl) (hg : Gl X "all" := by rfl) (he : starEach [e] X.env = (false, eval e X.env) :: starEach [] X.env := by rfl) : EX X H0 ss (.Call (.Name "all" p1) [e] [] pos) (.d (.v (.bl (bs.all id)))) :=
  ex_cb (cr_all hc) hm (by decide +kernel) (ex_one1 h he) (fun H vs Q r q => by
    obtain ⟨y, rfl, a⟩ := ags1 r
    obtain ⟨p, us, rfl, b, c⟩ := isL_ag s a
    rw [RepL.flat V.bl c] at b
    exact ⟨p, bs, rfl, SqL.of b, q _ H (Evl.Ex.refl H) (is_v (H := H))⟩) hg (by decide) (by decide) he rfl
/-- the greatest, the least of a list that is not empty -/
def Top (ns : List Int) (m : Int) : Prop := m ∈ ns ∧ ∀ y, y ∈ ns → y ≤ m
def Bot (ns : List Int) (m : Int) : Prop := m ∈ ns ∧ ∀ y, y ∈ ns → m ≤ y
theorem ex_max {k : Kd} {ns : List Int} {m : Int} (h : EX X H0 ss e k) (s : isL k (intsD ns)) (t : Top ns m) (hm : X.mg "max" = none) (hc : X.calm = true := by rfl) (hg : Gl X "max" := by rfl) (he : starEach [e] X.env = (false, eval e X.env) :: starEach [] X.env := by rfl) : EX X H0 ss (.Call (.Name "max" p1) [e] [] pos) (.d (.v (.int m))) :=
  ex_cb (cr_max hc) hm (by decide +kernel) (ex_one1 h he) (fun H vs Q r q => by
    obtain ⟨y, rfl, a⟩ := ags1 r
    obtain ⟨p, us, rfl, b, c⟩ := isL_ag s a
    rw [c.intsD] at b
    refine ⟨p, ns, rfl, SqL.of b, List.length_pos_of_mem t.1, fun m' h1 h2 => ?_⟩
    have e1 : m' = m := Int.le_antisymm (t.2 m' h1) (h2 m t.1)
    subst e1
    exact q _ H (Evl.Ex.refl H) (is_v (H := H))) hg (by decide) (by decide) he rfl
theorem ex_min {k : Kd} {ns : List Int} {m : Int} (h : EX X H0 ss e k) (s : isL k (intsD ns)) (t : Bot ns m) (hm : X.mg "min" = none) (hc : X.calm = true := by rfl) (hg : Gl X "min" := by rfl) (he : starEach [e] X.env = (false, eval e X.env) :: starEach [] X.env := by rfl) : EX X H0 ss (.Call (.Name "min" p1) [e] [] pos) (.d (.v (.int m))) :=
  ex_cb (cr_min hc) hm (by decide +kernel) (ex_one1 h he) (fun H vs Q r q => by
    obtain ⟨y, rfl, a⟩ := ags1 r
    obtain ⟨p, us, rfl, b, c⟩ := isL_ag s a
    rw [c.intsD] at b
    refine ⟨p, ns, rfl, SqL.of b, List.length_pos_of_mem t.1, fun m' h1 h2 => ?_⟩
    have e1 : m' = m := Int.le_antisymm (h2 m t.1) (t.2 m' h1)
    subst e1
    exact q _ H (Evl.Ex.refl H) (is_v (H := H))) hg (by decide) (by decide) he rfl
/-- isinstance(x, T), T a built-in class -/
def tyD : Dt → String
  | .v (.int _) => "int"
  | .v (.bl _) => "bool"
  | .v (.str _) => "str"
  | .v .non => "NoneType"
  | .tup _ => "tuple"
  | _ => "object"
def okD : Dt → Bool
  | .v (.int _) | .v (.bl _) | .v (.str _) | .v .non | .tup _ => true
  | _ => false
theorem tyD_ok {K : PySem.W.Frag} {H : Hp} {d : Dt} {y : V} (h : Rep H d y) (o : okD d = true) : TyX K H y (.type (tyD d)) := by
  cases d with
  | tup l => obtain ⟨p, vs, rfl, a, _⟩ := rep_tupI h; exact .base (.tup a)
  | v x =>
    have e := h.flat
    subst e
    cases y with
    | non => exact .base .non
    | bl b => exact .base (.bl _)
    | int i => exact .base (.int _)
    | str z => exact .base (.str _)
    | _ => cases o
theorem ex_isi {d : Dt} {T : String} {x : Bool} (h : EX X H0 ss a (.d d)) (h2 : EX X H0 ss b (.d (.v (.ty T)))) (o : okD d = true) (hk : kitB (tyD d) T = some x) (hm : X.mg "isinstance" = none) (hg : Gl X "isinstance" := by rfl) (he : starEach [a, b] X.env = (false, eval a X.env) :: starEach [b] X.env := by rfl) (he2 : starEach [b] X.env = (false, eval b X.env) :: starEach [] X.env := by rfl)
    (hpl : (backTo pos (starEach [b] X.env)).any (·.1) = false := by rfl) : EX X H0 ss (.Call (.Name "isinstance" p1) [a, b] [] pos) (.d (.v (.bl x))) :=
  ex_cb call_isi hm (by decide +kernel) (ea_cons h (ex_one1 h2 he2) he) (fun H vs Q r q => by
    obtain ⟨y, z, rfl, a, b⟩ := ags2 r
    rw [agv b]
    exact ⟨y, .ty T, _, _, x, rfl, .ty T, tyD_ok (H := H) a o, kit_ty hk, q _ H (Evl.Ex.refl H) (is_v (H := H))⟩) hg (by decide) (by decide) he hpl
theorem ex_isC {v C : Addr} {l : List (Str × Kd)} (h : EX X H0 ss a (.d (.v (.ref v)))) (h2 : EX X H0 ss b (.d (.v (.ref C)))) (O : ObjAt H0 v C l) (ic : InsC X.K C) (hm : X.mg "isinstance" = none) (hg : Gl X "isinstance" := by rfl) (he : starEach [a, b] X.env = (false, eval a X.env) :: starEach [b] X.env := by rfl) (he2 : starEach [b] X.env = (false, eval b X.env) :: starEach [] X.env := by rfl)
    (hpl : (backTo pos (starEach [b] X.env)).any (·.1) = false := by rfl) : EX X H0 ss (.Call (.Name "isinstance" p1) [a, b] [] pos) (.d (.v (.bl true))) := fun σ H Q S q =>
  ⟨_, pe_callB (call_isC ic) hg hm (by decide +kernel) pa_any (by decide) (by decide) he hpl, ea_cons h (ex_one1 h2 he2) he σ H _ S fun vs H1 e1 r1 => by
    obtain ⟨y, z, rfl, a, b⟩ := ags2 r1
    rw [agv a, agv b]
    obtain ⟨dx, fs, h1, _, _⟩ := O.mono (S.ex.trans e1)
    exact ⟨v, dx, fs, rfl, h1, q _ H1 e1 (is_v (H := H))⟩⟩

end
end K44
end

section
-- text Fw5
set_option Elab.async false
set_option linter.all false
set_option maxRecDepth 100000
set_option maxHeartbeats 4000000
namespace K44
open PySem PySem.Spec L2
open Evl (Ex)

/-! ### sequences that are walked -/
theorem sqAt.mono {H H' : Hp} (e : Ex H H') {tp : Bool} {p : Addr} {l : List Dt} (h : sqAt H tp p l) : sqAt H' tp p l := let ⟨vs, a, b⟩ := h; ⟨vs, e _ _ a, b.mono e⟩
theorem sqAt.sq {K : PySem.W.Frag} {H : Hp} {tp : Bool} {p : Addr} {l : List Dt} (h : sqAt H tp p l) : ∃ vs, (if tp then SqT K H p vs else SqL K H p vs) ∧ RepL H l vs := by
  obtain ⟨vs, a, b⟩ := h
  cases tp with
  | true => exact ⟨vs, SqT.of a, b⟩
  | false => exact ⟨vs, SqL.of a, b⟩
section
variable {X : Cx} {H0 : Hp} {ss : List Sl} {pos p1 p2 : Pos} {a b c e tg it : Expr} {st : Stmt} {sts body : List Stmt} {Nx : List Sl → Prop} {Rt : Kd → Prop}
theorem SR.noOwnT {H : Hp} {σ : L2.St} (S : SR H0 H σ ss) {p : Addr} {vs : List V} (h : H p = some (.tup vs)) : NoOwn σ ss p := fun i s q o ep => by
  obtain ⟨y, ey, a⟩ := S.get q (by intro z; subst z; cases o)
  rw [ep] at ey
  cases ey
  cases s with
  | own xs => obtain ⟨q, e, _, us, g, _⟩ := a; cases e; rw [h] at g; cases g
  | om xs => obtain ⟨q, e, _, us, g, _⟩ := a; cases e; rw [h] at g; cases g
  | _ => cases o
theorem SR.noOwnN {H : Hp} {σ : L2.St} (S : SR H0 H σ ss) {p : Addr} (h : H p = none) : NoOwn σ ss p := fun i s q o ep => by
  obtain ⟨y, ey, a⟩ := S.get q (by intro z; subst z; cases o)
  rw [ep] at ey
  cases ey
  exact a.there (by cases s <;> first | rfl | cases o) h
theorem SR.noOwnB {H : Hp} {σ : L2.St} (S : SR H0 H σ ss) {p : Addr} {u : HO} (h : H0 p = some u) : NoOwn σ ss p := fun i s q o ep => by
  obtain ⟨y, ey, a⟩ := S.get q (by intro z; subst z; cases o)
  rw [ep] at ey
  cases ey
  cases s with
  | own xs => obtain ⟨q, e, z, _⟩ := a; cases e; rw [h] at z; cases z
  | om xs => obtain ⟨q, e, z, _⟩ := a; cases e; rw [h] at z; cases z
  | _ => cases o
theorem es_tup {l : List Dt} (h : EX X H0 ss e (.d (.tup l))) : ES X H0 ss e true l := fun σ H Q S q => h σ H Q S fun y H1 e1 r1 => by
  obtain ⟨p, vs, rfl, hp, r⟩ := rep_tupI (H := H1) r1
  exact q p H1 e1 ((S.mono e1).noOwnT hp) ⟨vs, hp, r⟩
theorem es_nl {l : List Dt} (h : EX X H0 ss e (.nl l)) : ES X H0 ss e false l := fun σ H Q S q => h σ H Q S fun y H1 e1 r1 => by
  obtain ⟨p, rfl, n, vs, hp, r⟩ := r1
  exact q p H1 e1 (S.noOwnN n) ⟨vs, hp, r⟩
/-- a name whose slot holds a list that the frame does not write -/
theorem es_var (i : Nat) {x : Str} {xs : List Dt} (hs : ss[i]? = some (.l xs)) (hN : X.N[i]? = some x := by rfl)
    (hv : Vis X.env.scope x := by first | exact Or.inl rfl | exact Or.inr (Or.inl rfl) | exact Or.inr (Or.inr rfl)) (hd : (x == ("__debug__" : Str)) = false := by decide)
    (hcd : (x == ("__classdict__" : Str)) = false := by decide) : ES X H0 ss (.Name x pos) false xs := fun σ H Q S q => by
  obtain ⟨y, ey, p, rfl, hl⟩ := S.get hs (by intro z; cases z)
  refine ⟨_, pe_var hN hv hd hcd, _, ey, q p H (Evl.Ex.refl H) (fun j s qj o ep => ?_) hl⟩
  by_cases hij : j = i
  · subst hij
    rw [hs] at qj; cases qj; cases o
  · exact S.sep j i s _ p hij qj hs o rfl ep ey
/-- an attribute that holds a list -/
theorem es_fld {o : Expr} {f : Str} {a C : Addr} {l : List (Str × Kd)} {xs : List Dt} (he : EX X H0 ss o (.d (.v (.ref a)))) (O : ObjAt H0 a C l) (c : Cls X.K C) (n : NoAttr X.K C f) (hl : l.lookup f = some (.r xs))
    (hb : attributeBase o f X.env (eval o X.env) = eval o X.env := by rfl) : ES X H0 ss (.Attribute o f pos) false xs := fun σ H Q S q =>
  ⟨_, pe_fld pe_any hb, he σ H _ S fun u H1 e1 r1 => by
    obtain ⟨dx, fs, h1, h2, h3⟩ := O
    obtain ⟨y, g1, p, rfl, vs, g2, g3⟩ := flds_get h2 h3 hl
    have ex := S.ex.trans e1
    exact ⟨a, C, dx, fs, .ref p, isv r1, ex _ _ h1, c, n, g1, q p H1 e1 ((S.mono e1).noOwnB g2) ⟨vs, ex _ _ g2, g3.mono ex⟩⟩⟩

/-- all that stands, but what the frame owns -/
def isOwnAt (σ : L2.St) (ss : List Sl) (b : Addr) : Prop := ∃ (i : Nat) (s : Sl), ss[i]? = some s ∧ s.isOwn = true ∧ σ[i]? = some (some (.ref b))
open Classical in
noncomputable def baseOf (σ : L2.St) (ss : List Sl) (H : Hp) : Hp := fun b => if isOwnAt σ ss b then none else H b
theorem baseOf_at {σ : L2.St} {H : Hp} {b : Addr} (n : NoOwn σ ss b) : baseOf σ ss H b = H b := by
  unfold baseOf
  rw [if_neg]
  rintro ⟨i, s, q, o, e⟩
  exact n i s q o e
theorem baseOf_ex {σ : L2.St} {H : Hp} : Ex (baseOf σ ss H) H := fun b o q => by
  unfold baseOf at q
  split at q
  · cases q
  · exact q
theorem SR.tupB {H : Hp} {σ : L2.St} (S : SR H0 H σ ss) : Tups H (baseOf σ ss H) := fun b xs q => by
  rw [baseOf_at (S.noOwnT q)]; exact q
theorem SR.exB {H : Hp} {σ : L2.St} (S : SR H0 H σ ss) : Ex H0 (baseOf σ ss H) := fun b o q => by
  rw [baseOf_at (S.noOwnB q)]; exact S.ex _ _ q
theorem SR.base {H : Hp} {σ : L2.St} (S : SR H0 H σ ss) : SR (baseOf σ ss H) H σ ss := by
  refine ⟨baseOf_ex, S.len, fun i s q => (S.at_ i s q).imp id fun ⟨y, ey, a⟩ => ⟨y, ey, ?_⟩, S.sep⟩
  have far : s.isOwn = true → ∀ r, y = .ref r → baseOf σ ss H r = none := fun o r er => by
    unfold baseOf
    rw [if_pos ⟨i, s, q, o, er ▸ ey⟩]
  cases s with
  | own xs => obtain ⟨r, er, z, g⟩ := a; exact ⟨r, er, far rfl r er, g⟩
  | om xs => obtain ⟨r, er, z, g⟩ := a; exact ⟨r, er, far rfl r er, g⟩
  | no => exact a
  | d d => exact a
  | l xs => exact a
  | m xs => exact a
theorem sqAt.base {H : Hp} {σ : L2.St} (S : SR H0 H σ ss) {tp : Bool} {p : Addr} {l : List Dt} (n : NoOwn σ ss p) (h : sqAt H tp p l) : sqAt (baseOf σ ss H) tp p l := by
  obtain ⟨vs, a, b⟩ := h
  exact ⟨vs, by rw [baseOf_at n]; exact a, b.tup S.tupB⟩
theorem NoOwn.mono {σ : L2.St} {p : Addr} (h : NoOwn σ ss p) : NoOwn σ ss p := h
theorem RepL.has {H : Hp} {l : List Dt} {vs : List V} (r : RepL H l vs) {i : Nat} {x : V} (h : vs[i]? = some x) : ∃ d, l[i]? = some d ∧ Rep H d x := by
  have hl : i < l.length := by rw [← r.length]; exact (List.getElem?_eq_some_iff.mp h).1
  obtain ⟨z, ez, rz⟩ := r.get (List.getElem?_eq_getElem hl)
  rw [ez] at h
  cases h
  exact ⟨_, List.getElem?_eq_getElem hl, rz⟩
theorem ix_seq {l : List Dt} {tp : Bool} (h : ES X H0 ss e tp l) : IX X H0 tg e ss l := fun σ H R S q => by
  cases tp with
  | true =>
    refine ⟨_, pi_tup pe_any, h σ H _ S fun p H1 e1 no hs => ?_⟩
    have S1 := S.mono e1
    obtain ⟨vs, hp, r⟩ := hs.base S1 no
    have hp1 := baseOf_ex _ _ hp
    refine ⟨p, rfl, ⟨vs, SqT.of hp1⟩, q _ H1 _ e1 S1.exB S1.base ⟨?_⟩⟩
    rw [← r.length]
    exact (walk_tup (xs := vs)).mono (fun H g => SqT.of (g p _ hp)) fun i H2 x H3 hi g y => by
      obtain ⟨rfl, y⟩ := y
      obtain ⟨d, ed, rd⟩ := r.has y
      exact ⟨Evl.Ex.refl _, d, ed, rd.mono g⟩
  | false =>
    refine ⟨_, pi_list pe_any, h σ H _ S fun p H1 e1 no hs => ?_⟩
    have S1 := S.mono e1
    obtain ⟨vs, hp, r⟩ := hs.base S1 no
    have hp1 := baseOf_ex _ _ hp
    refine ⟨p, rfl, ⟨vs, SqL.of hp1⟩, q _ H1 _ e1 S1.exB S1.base ⟨?_⟩⟩
    rw [← r.length]
    exact (walk_list (xs := vs)).mono (fun H g => SqL.of (g p _ hp)) fun i H2 x H3 hi g y => by
      obtain ⟨rfl, y⟩ := y
      obtain ⟨d, ed, rd⟩ := r.has y
      exact ⟨Evl.Ex.refl _, d, ed, rd.mono g⟩
def rangeD (lo : Int) (n : Nat) : List Dt := (List.range n).map fun i => .v (.int (lo + (i : Nat)))
theorem rangeD_get {lo : Int} {n i : Nat} (h : i < n) : (rangeD lo n)[i]? = some (.v (.int (lo + (i : Nat)))) := by simp [rangeD, h]
theorem rangeD_len {lo : Int} {n : Nat} : (rangeD lo n).length = n := by simp [rangeD]
theorem ix_range1 {j : Int} (h : EX X H0 ss a (.d (.v (.int j)))) (hj : -(2 ^ 62) ≤ j ∧ j < 2 ^ 62) (hm : X.mg "range" = none) (hg : Gl X "range" := by rfl) (hs : starEach [a] X.env = [(false, eval a X.env)] := by rfl) : IX X H0 tg (.Call (.Name "range" p1) [a] [] pos) ss (rangeD 0 j.toNat) := fun σ H R S q =>
  ⟨_, pi_range1 hg hm pa_any hs, ex_one1 h hs σ H _ S fun vs H1 e1 r => by
    obtain ⟨y, rfl, ay⟩ := ags1 r
    rw [agv ay]
    have S1 := S.mono e1
    refine ⟨j, rfl, hj.1, hj.2, q _ H1 _ e1 S1.exB S1.base ⟨?_⟩⟩
    rw [rangeD_len]
    exact walk_range.mono (fun _ _ => trivial) fun i H2 x H3 hi g y => by
      obtain ⟨rfl, rfl⟩ := y
      exact ⟨Evl.Ex.refl _, _, rangeD_get hi, .of⟩⟩
theorem ix_range2 {i0 j : Int} (h : EX X H0 ss a (.d (.v (.int i0)))) (h2 : EX X H0 ss b (.d (.v (.int j)))) (hj : -(2 ^ 62) ≤ i0 ∧ i0 < 2 ^ 62 ∧ -(2 ^ 62) ≤ j ∧ j < 2 ^ 62) (hm : X.mg "range" = none) (hg : Gl X "range" := by rfl) (hs : starEach [a, b] X.env = [(false, eval a X.env), (false, eval b X.env)] := by rfl) (hs2 : starEach [b] X.env = [(false, eval b X.env)] := by rfl) :
    IX X H0 tg (.Call (.Name "range" p1) [a, b] [] pos) ss (rangeD i0 (j - i0).toNat) := fun σ H R S q =>
  ⟨_, pi_range2 hg hm pa_any hs hs2, (ea_cons h (ex_one1 h2 hs2) (by rw [hs, hs2])) σ H _ S fun vs H1 e1 r => by
    obtain ⟨y, z, rfl, ay, az⟩ := ags2 r
    rw [agv ay, agv az]
    have S1 := S.mono e1
    refine ⟨i0, j, rfl, hj, q _ H1 _ e1 S1.exB S1.base ⟨?_⟩⟩
    rw [rangeD_len]
    exact walk_range.mono (fun _ _ => trivial) fun i H2 x H3 hi g y => by
      obtain ⟨rfl, rfl⟩ := y
      exact ⟨Evl.Ex.refl _, _, rangeD_get hi, .of⟩⟩

/-! ### targets -/
theorem gx_name {x : Str} {d : Dt} (i : Nat) (hN : X.N.Nodup) (hi : X.N[i]? = some x := by rfl) (hx : Loc X.env.scope x := by first | exact Or.inl rfl | exact Or.inr rfl) (hf : X.fn x = true ∨ X.env.scope.names.lookup x = some .local := by first | exact .inl rfl | exact .inr rfl) :
    GX X H0 (.Name x pos) [i] ss d (ss.set i (.d d)) := fun v σ H Q S r q =>
  ⟨_, pg_name (i := i) hN hi hx hf, q _ (by simp) (fun n hn => by rw [List.getElem?_set_ne (fun z => hn (by rw [z]; simp))]) (S.putD r)⟩
def RGs (X : Cx) (es : List Expr) : TGs := fun vs σ H Q => ∃ t, PGs X es t ∧ t vs σ H Q
theorem pgs_any {es : List Expr} : PGs X es (RGs X es) := ⟨fun pins s σ H vs us Q I r ⟨_, p, q⟩ => p.run pins s σ H vs us Q I r q⟩
def GXs (X : Cx) (H0 : Hp) (es : List Expr) (js : List Nat) (ss : List Sl) (l : List Dt) (ss' : List Sl) : Prop :=
  ∀ (vs : List V) (σ : L2.St) (H : Hp) (Q : L2.St → Hp → Prop), SR H0 H σ ss → RepL H l vs → (∀ σ', σ'.length = σ.length → (∀ n, n ∉ js → σ'[n]? = σ[n]?) → SR H0 H σ' ss' → Q σ' H) → RGs X es vs σ H Q
theorem gxs_nil : GXs X H0 [] [] ss [] ss := fun vs σ H Q S r q => ⟨_, pgs_nil, r.inv0, q σ rfl (fun _ _ => rfl) S⟩
theorem gxs_cons {t : Expr} {es : List Expr} {js ks : List Nat} {d : Dt} {l : List Dt} {s1 s2 : List Sl} (h : GX X H0 t js ss d s1) (g : GXs X H0 es ks s1 l s2) (hs : (assignEach (t :: es) X.env).map (·.2) = assign t X.env :: (assignEach es X.env).map (·.2) := by rfl) : GXs X H0 (t :: es) (js ++ ks) ss (d :: l) s2 := fun vs σ H Q S r q => by
  obtain ⟨y, ys, ev, a, b⟩ := r.inv
  refine ⟨_, pgs_cons pg_any pgs_any hs, y, ys, ev, h y σ H _ S a fun σ1 l1 o1 S1 => g ys σ1 H _ S1 b fun σ2 l2 o2 S2 => q σ2 (l2.trans l1) (fun n hn => ?_) S2⟩
  rw [o2 n (fun z => hn (List.mem_append_right _ z)), o1 n fun z => hn (List.mem_append_left _ z)]
theorem gx_tup {es : List Expr} {js : List Nat} {l : List Dt} {s1 : List Sl} {k n : Nat} (h : GXs X H0 es js ss l s1) (hc : X.calm = true) (hl : l.length = n) (hn : (assignEach es X.env).length = n := by rfl) (hst : (assignEach es X.env).findIdx? (·.1) = none := by rfl) :
    GX X H0 (.Tuple es k pos) js ss (.tup l) s1 := fun v σ H Q S r q => by
  obtain ⟨p, vs, ev, hp, rl⟩ := rep_tupI r
  exact ⟨_, pg_tup (n := n) hc pgs_any hn hst, p, vs, ev, SqT.of hp, by rw [rl.length]; exact hl, h vs σ H Q S rl q⟩
/-- target = e, a target of any form -/
theorem sx_asg {tgt : Expr} {js : List Nat} {d : Dt} {s1 : List Sl} (h : EX X H0 ss e (.d d)) (g : GX X H0 tgt js ss d s1) (hs : swapsWithSole [tgt] e pos.line X.env = pure false := by rfl) (hw : swappedStores [tgt] e X.env = pure none := by rfl)
    (h1 : (assignEach [tgt] X.env).map (·.2) = [assign tgt X.env] := by rfl) : SX X H0 (.Assign [tgt] e pos) ss (fun s => s = s1) Rt := fun σ H D S n r =>
  ⟨_, ps_asg pe_any pg_any hs hw h1, h σ H _ S fun y H1 e1 r1 => g y σ H1 _ (S.mono e1) r1 fun σ' _ _ S' => n _ σ' H1 rfl S'⟩

/-! ### loops -/
theorem sx_for {items : List Dt} {I : Nat → List Sl → Prop} (hi : IX X H0 tg it ss items) (h0 : I 0 ss)
    (hb : ∀ (i : Nat) (d : Dt) (Hb : Hp) (s1 : List Sl), items[i]? = some d → Ex H0 Hb → I i s1 → ∃ js s2, GX X Hb tg js s1 d s2 ∧ BX X Hb body s2 (I (i + 1)) Rt)
    (hp : PassesOwn (model X.prog X.w) X.A X.env X.xe := by exact PassesOwn.never) (hc : X.calm = true := by rfl) (hs : ∀ x, foldedSetIterable it X.env x = pure x := by intro _; rfl) :
    SX X H0 (.For tg it body [] pos) ss (I items.length) Rt := fun σ H D S n r =>
  ⟨_, ps_for hp hc pi_any pg_any pb_any hs, hi σ H _ S fun J H1 Hb e1 eb Sb W =>
    for_it W.w (fun i σ' H' => ∃ s1, I i s1 ∧ SR Hb H' σ' s1) ⟨ss, h0, Sb⟩ (fun i σ' H' _ ⟨_, _, S'⟩ => S'.ex)
      (fun i x σ' H' H2 hi ⟨s1, hI, S'⟩ ⟨e2, d, ed, rd⟩ => by
        obtain ⟨js, s2, g, bx⟩ := hb i d Hb s1 ed eb hI
        exact g x σ' H2 _ (S'.mono e2) rd fun σ2 _ _ S2 => bx σ2 H2 _ S2 (fun s3 σ3 H3 q S3 => ⟨s3, q, S3⟩) fun k y H3 hk e3 i3 => r k y H3 hk (eb.trans e3) (i3.back eb))
      (fun σ' H' ⟨s1, hI, S'⟩ => n s1 σ' H' hI (S'.down eb))⟩
theorem sx_while {I : Nat → List Sl → Prop} {m0 : Nat} (h0 : I m0 ss)
    (hb : ∀ (m : Nat) (s1 : List Sl), I m s1 → ∃ x, ET X H0 s1 c x ∧ (x = true → BX X H0 body s1 (fun s => ∃ m', m' < m ∧ I m' s) Rt) ∧ (x = false → Nx s1))
    (hp : PassesOwn (model X.prog X.w) X.A X.env X.xe := by exact PassesOwn.never) : SX X H0 (.While c body [] pos) ss Nx Rt := fun σ H D S n r =>
  ⟨_, ps_while hp pt_any pb_any, fun m σ' H' => ∃ s1, I m s1 ∧ SR H0 H' σ' s1, ⟨m0, ss, h0, S⟩, fun m σ' H' ⟨s1, hI, S'⟩ => by
    obtain ⟨x, ht, h1, h2⟩ := hb m s1 hI
    refine ht σ' H' _ S' fun H1 e1 => ?_
    cases x with
    | true =>
      refine iteT ⟨fun σ2 H2 => ∃ m' s2, m' < m ∧ I m' s2 ∧ SR H0 H2 σ2 s2, fun σ2 H2 ⟨m', s2, l, q, S2⟩ => ⟨m', l, s2, q, S2⟩, h1 rfl σ' H1 _ (S'.mono e1) (fun s2 σ2 H2 ⟨m', l, q⟩ S2 => ⟨m', s2, l, q, S2⟩) r⟩
    | false => exact iteF (n s1 σ' H1 (h2 rfl) (S'.mono e1))⟩
end
end K44
end

section
-- text Fw6
set_option Elab.async false
set_option linter.all false
set_option maxRecDepth 100000
set_option maxHeartbeats 4000000
namespace K44
open PySem PySem.Spec L2
open Evl (Ex)

/-! ### comprehensions -/
theorem wipe_get (τ : L2.St) (n : Nat) : ∀ vs : List Nat, (wipe τ vs)[n]? = if n ∈ vs then (if n < τ.length then some none else none) else τ[n]?
  | [] => by rw [if_neg (by simp)]; rfl
  | v :: vs => by
    show ((wipe τ vs).set v none)[n]? = _
    by_cases hv : n = v
    · subst hv
      rw [if_pos (by simp)]
      by_cases hl : n < τ.length
      · rw [if_pos hl, List.getElem?_set_self (by rw [wipe_length]; exact hl)]
      · rw [if_neg hl]
        exact List.getElem?_eq_none (by rw [List.length_set, wipe_length]; omega)
    · rw [List.getElem?_set_ne (Ne.symm hv), wipe_get τ n vs]
      by_cases hm : n ∈ vs
      · rw [if_pos hm, if_pos (List.mem_cons_of_mem v hm)]
      · rw [if_neg hm, if_neg fun z => (List.mem_cons.mp z).elim hv hm]
theorem wipe_agree {σ σ2 : L2.St} {vs js : List Nat} (hl : σ2.length = (wipe σ vs).length) (h : ∀ n, n ∉ js → σ2[n]? = (wipe σ vs)[n]?) (hj : ∀ n ∈ js, n ∈ vs) : wipe σ2 vs = wipe σ vs := by
  refine List.ext_getElem? fun n => ?_
  rw [wipe_get, wipe_get]
  rw [wipe_length] at hl
  by_cases hm : n ∈ vs
  · rw [if_pos hm, if_pos hm, hl]
  · rw [if_neg hm, if_neg hm, h n fun z => hm (hj n z), wipe_get, if_neg hm]
section
variable {X : Cx} {H0 : Hp} {ss : List Sl} {pos p1 p2 : Pos} {a b c e tg it elt : Expr} {st : Stmt} {sts body : List Stmt} {Nx : List Sl → Prop} {Rt : Kd → Prop} {scope : Scope} {own : List (Str × Nat)}
abbrev Bk (X : Cx) (scope : Scope) (s : Shared) (H : Hp) (C : Addr) (cl : List (Str × Addr)) (fp : List Addr) : Cx := X.blk s H scope (compEnvC scope cl C X.env) fp
def gB (X : Cx) (scope : Scope) (tg : Expr) : TG := fun v σ H Q => ∀ s H' C cl fp, RG (Bk X scope s H' C cl fp) tg v σ H Q
def eB (X : Cx) (scope : Scope) (e : Expr) : TE := fun σ H Q => ∀ s H' C cl fp, RE (Bk X scope s H' C cl fp) e σ H Q
def tB' (X : Cx) (scope : Scope) (c : Expr) : TT := fun σ H Q => ∀ s H' C cl fp, RT (Bk X scope s H' C cl fp) c σ H Q
theorem pg_blk : ∀ (s : Shared) (H : Hp) (C : Addr) (cl : List (Str × Addr)) (fp : List Addr), PG (X.blk s H scope (compEnvC scope cl C X.env) fp) tg (gB X scope tg) := fun s H C cl fp =>
  ⟨fun pins s' σ H' v u Q I r h => pg_any.run pins s' σ H' v u Q I r (h s H C cl fp)⟩
theorem pe_blk : ∀ (s : Shared) (H : Hp) (C : Addr) (cl : List (Str × Addr)) (fp : List Addr), PE (X.blk s H scope (compEnvC scope cl C X.env) fp) elt (eB X scope elt) := fun s H C cl fp =>
  ⟨fun pins s' σ H' Q I h => pe_any.run pins s' σ H' Q I (h s H C cl fp)⟩
theorem pt_blk : ∀ (s : Shared) (H : Hp) (C : Addr) (cl : List (Str × Addr)) (fp : List Addr), PT (X.blk s H scope (compEnvC scope cl C X.env) fp) c (tB' X scope c) := fun s H C cl fp =>
  ⟨fun pins s' σ H' Q I h => pt_any.run pins s' σ H' Q I (h s H C cl fp)⟩
/-- the items kept, as they are made -/
def kept (n : Nat) (keep : Nat → Bool) (f : Nat → Dt) : List Dt := ((List.range n).filter keep).map f
theorem kept_yes {n : Nat} {keep : Nat → Bool} {f : Nat → Dt} (h : keep n = true) : kept (n + 1) keep f = kept n keep f ++ [f n] := by
  unfold kept
  rw [List.range_succ, List.filter_append, List.map_append]
  simp [h]
theorem kept_no {n : Nat} {keep : Nat → Bool} {f : Nat → Dt} (h : keep n = false) : kept (n + 1) keep f = kept n keep f := by
  unfold kept
  rw [List.range_succ, List.filter_append, List.map_append]
  simp [h]
theorem kept_len (n : Nat) (keep : Nat → Bool) (f : Nat → Dt) : (kept n keep f).length ≤ n := by
  unfold kept
  rw [List.length_map]
  have h := List.length_filter_le keep (List.range n)
  rw [List.length_range] at h
  exact h
theorem kept_all (n : Nat) (f : Nat → Dt) : kept n (fun _ => true) f = (List.range n).map f := by
  unfold kept
  rw [List.filter_eq_self.mpr (by simp)]
/-- the reading of a comprehension -/
theorem lc_any {items : List Dt} {keep : Nat → Bool} {f : Nat → Dt} {tt : TT} {σ : L2.St} {H : Hp} {Q : VK} (S : SR H0 H σ ss) (hi : IX X H0 tg it ss items) (hz : items.length ≤ 100000)
    (hb : ∀ (i : Nat) (d : Dt) (Hb : Hp), items[i]? = some d → Ex H0 Hb → ∃ js s2, (∀ n ∈ js, n ∈ own.map (·.2)) ∧ (∀ s H C cl fp, GX (Bk X scope s H C cl fp) Hb tg js (wipeS ss (own.map (·.2))) d s2) ∧
      (∀ σ' H' Q, SR Hb H' σ' s2 → (∀ H2, Ex H' H2 → Q (keep i) H2) → tt σ' H' Q) ∧ (keep i = true → ∀ s H C cl fp, EX (Bk X scope s H C cl fp) Hb s2 elt (.d (f i))))
    (k : ∀ y H', Ex H H' → Is H H' (.nl (kept items.length keep f)) y → Q y H') : tLc (RI X tg it) (gB X scope tg) tt (eB X scope elt) (own.map (·.2)) σ H Q := by
  refine hi σ H _ S fun J H1 Hb e1 eb Sb W D hD => ?_
  refine lc_it W.w (fun i H' => Ex H1 H' ∧ ∃ vs, H' D = some (.lst vs) ∧ RepL H' (kept i keep f) vs) ⟨Evl.Ex.new hD, [], upd_same, .nil⟩ (fun i H' _ h => Sb.ex.trans h.1) (fun i x H' H2 hi' h y => ?_) (fun H' h => k _ H' (e1.trans h.1) ⟨D, rfl, Evl.fresh_back e1 hD, h.2⟩)
  obtain ⟨ex1, vs, hd, hr⟩ := h
  obtain ⟨e2, d, ed, rd⟩ := y
  obtain ⟨js, s2, sub, hg, ht, he⟩ := hb i d Hb ed eb
  have Sw : SR Hb H2 (wipe σ (own.map (·.2))) (wipeS ss (own.map (·.2))) := (Sb.wipe _).mono (ex1.trans e2)
  intro s Hs C cl fp
  refine hg s Hs C cl fp x _ H2 _ Sw rd fun σ2 l2 o2 S2 => ⟨wipe_agree l2 o2 sub, ht σ2 H2 _ S2 fun H3 e3 => ?_⟩
  have back : ∀ {H4 : Hp}, Ex H2 H4 → H4 D = some (.lst vs) ∧ Ex H1 H4 ∧ RepL H4 (kept i keep f) vs := fun {H4} e4 => ⟨e4 _ _ (e2 _ _ hd), (ex1.trans e2).trans e4, hr.mono (e2.trans e4)⟩
  cases hk : keep i with
  | true =>
    refine iteT fun s Hs C cl fp => he hk s Hs C cl fp σ2 H3 _ (S2.mono e3) fun y H4 e4 r4 => ?_
    obtain ⟨g1, g2, g3⟩ := back (e3.trans e4)
    refine ⟨vs, g1, ?_, ?_, ?_⟩
    · rw [g3.length]
      have := kept_len i keep f
      exact Evl.sz_lt (by omega)
    · exact Evl.Ex.mut g2 hD
    · refine ⟨vs ++ [y], upd_same, ?_⟩
      rw [kept_yes hk]
      exact (g3.append (.cons r4 .nil)).tup (.upd fun xs e => by rw [g1] at e; cases e)
  | false =>
    refine iteF ?_
    obtain ⟨g1, g2, g3⟩ := back e3
    exact ⟨g2, vs, g1, by rw [kept_no hk]; exact g3⟩
theorem ex_lc {items : List Dt} {f : Nat → Dt} (hi : IX X H0 tg it ss items) (ok : BlkOk X.N X.env.scope scope own) (hN : X.N.Nodup)
    (hb : ∀ (i : Nat) (d : Dt) (Hb : Hp), items[i]? = some d → Ex H0 Hb → ∃ js s2, (∀ n ∈ js, n ∈ own.map (·.2)) ∧ (∀ s H C cl fp, GX (Bk X scope s H C cl fp) Hb tg js (wipeS ss (own.map (·.2))) d s2) ∧ ∀ s H C cl fp, EX (Bk X scope s H C cl fp) Hb s2 elt (.d (f i)))
    (hz : items.length ≤ 100000) (hc : X.calm = true := by rfl) (hs : ∀ x, foldedSetIterable it X.env x = pure x := by intro _; rfl) : EX X H0 ss (.ListComp elt [⟨tg, it, [], 0⟩] scope pos) (.nl ((List.range items.length).map f)) := fun σ H Q S k =>
  ⟨_, pe_lc hc hN pi_any ok pg_blk (fun _ _ _ _ _ => pts_nil) pe_blk hs, lc_any (keep := fun _ => true) (f := f) S hi hz (fun i d Hb q e => by
    obtain ⟨js, s2, h1, h2, h3⟩ := hb i d Hb q e
    exact ⟨js, s2, h1, h2, fun σ' H' Q S' k' => k' H' (Evl.Ex.refl H'), fun _ => h3⟩) (by rw [kept_all]; exact k)⟩
theorem ex_lcIf {items : List Dt} {keep : Nat → Bool} {f : Nat → Dt} (hi : IX X H0 tg it ss items) (ok : BlkOk X.N X.env.scope scope own) (hN : X.N.Nodup)
    (hb : ∀ (i : Nat) (d : Dt) (Hb : Hp), items[i]? = some d → Ex H0 Hb → ∃ js s2, (∀ n ∈ js, n ∈ own.map (·.2)) ∧ (∀ s H C cl fp, GX (Bk X scope s H C cl fp) Hb tg js (wipeS ss (own.map (·.2))) d s2) ∧ (∀ s H C cl fp, ET (Bk X scope s H C cl fp) Hb s2 c (keep i)) ∧ (keep i = true → ∀ s H C cl fp, EX (Bk X scope s H C cl fp) Hb s2 elt (.d (f i))))
    (hz : items.length ≤ 100000) (hc : X.calm = true := by rfl) (hs : ∀ x, foldedSetIterable it X.env x = pure x := by intro _; rfl) : EX X H0 ss (.ListComp elt [⟨tg, it, [c], 0⟩] scope pos) (.nl (kept items.length keep f)) := fun σ H Q S k =>
  ⟨_, pe_lc hc hN pi_any ok pg_blk (fun s H C cl fp => pts_one (pt_blk s H C cl fp)) pe_blk hs, lc_any (keep := keep) (f := f) S hi hz (fun i d Hb q e => by
    obtain ⟨js, s2, h1, h2, h3, h4⟩ := hb i d Hb q e
    exact ⟨js, s2, h1, h2, fun σ' H' Q S' k' s Hs C cl fp => h3 s Hs C cl fp σ' H' Q S' k', h4⟩) k⟩
/-- y = [..] on one line, y a local -/
theorem sx_setLc {items : List Dt} {f : Nat → Dt} {y : Str} {py spos : Pos} (i : Nat) (hi : IX X H0 tg it ss items) (ok : BlkOk X.N X.env.scope scope own) (hN : X.N.Nodup)
    (hsw : swapsWith (.ListComp elt [⟨tg, it, [], 0⟩] scope pos) (some (.Name y py)) spos.line X.env = pure true)
    (hb : ∀ (i : Nat) (d : Dt) (Hb : Hp), items[i]? = some d → Ex H0 Hb → ∃ js s2, (∀ n ∈ js, n ∈ own.map (·.2)) ∧ (∀ s H C cl fp, GX (Bk X scope s H C cl fp) Hb tg js (wipeS ss (own.map (·.2))) d s2) ∧ ∀ s H C cl fp, EX (Bk X scope s H C cl fp) Hb s2 elt (.d (f i)))
    (hz : items.length ≤ 100000) (hy : X.N[i]? = some y := by rfl) (hyl : X.env.scope.names.lookup y = some .local := by rfl) (hc : X.calm = true := by rfl) (hs : ∀ x, foldedSetIterable it X.env x = pure x := by intro _; rfl) :
    SX X H0 (.Assign [.Name y py] (.ListComp elt [⟨tg, it, [], 0⟩] scope pos) spos) ss (fun s => s = ss.set i (.own ((List.range items.length).map f))) Rt := fun σ H D S n r =>
  ⟨_, ps_setLc (i := i) hc hN hy hyl hsw pi_any ok pg_blk (fun _ _ _ _ _ => pts_nil) pe_blk hs, lc_any (keep := fun _ => true) (f := f) S hi hz (fun i d Hb q e => by
    obtain ⟨js, s2, h1, h2, h3⟩ := hb i d Hb q e
    exact ⟨js, s2, h1, h2, fun σ' H' Q S' k' => k' H' (Evl.Ex.refl H'), fun _ => h3⟩) (fun u H' e' q => by
      rw [kept_all] at q
      exact n _ _ H' rfl (S.set i (k := .nl _) e' q))⟩
end
end K44
end

section
-- text Txt
set_option Elab.async false
set_option linter.all false
set_option maxRecDepth 100000
set_option maxHeartbeats 4000000
namespace K44
open PySem PySem.Spec L2

def top (i : Nat) : Stmt := PySem.Challenge.pw_linecents_k44_whole_rounding_once_and_ea.main.body.getD i (.Pass ⟨0, 0, 0, 0⟩)
abbrev s_is_integer : Stmt := top 28
abbrev s_is_between : Stmt := top 29
abbrev s_check_number : Stmt := top 30
abbrev s_is_name : Stmt := top 31
abbrev s_common_divisor : Stmt := top 33
abbrev s_common_multiple : Stmt := top 34
abbrev s_fraction : Stmt := top 35
abbrev s_times : Stmt := top 36
abbrev s_less : Stmt := top 37
abbrev s_is_step : Stmt := top 42
abbrev s_wrong_step : Stmt := top 43
abbrev s_is_row_of_steps : Stmt := top 44
abbrev s_rounded : Stmt := top 45
abbrev s_led : Stmt := top 46
abbrev s_rate_of : Stmt := top 47
abbrev s_period_of : Stmt := top 48
abbrev s_text_of_step : Stmt := top 49
abbrev s_text_of_steps : Stmt := top 50
abbrev s_is_kind : Stmt := top 56
abbrev s_check_kinds : Stmt := top 57
abbrev s_check_groups : Stmt := top 58
abbrev s_check_places : Stmt := top 59
abbrev s_check_whole : Stmt := top 60
abbrev s_text_of : Stmt := top 61
abbrev s_is_line : Stmt := top 64
abbrev s_check_bill : Stmt := top 65
abbrev s_Book_init : Stmt := inClass (top 66) 0
abbrev s_Book_kinds : Stmt := inClass (top 66) 2
abbrev s_Book_groups : Stmt := inClass (top 66) 3
abbrev s_Book_names : Stmt := inClass (top 66) 5
abbrev s_Book_kind_at : Stmt := inClass (top 66) 6
abbrev s_Book_rate : Stmt := inClass (top 66) 7
abbrev s_Book_share : Stmt := inClass (top 66) 8
abbrev s_Book_period : Stmt := inClass (top 66) 9
abbrev s_Book_periods : Stmt := inClass (top 66) 10
abbrev s_Book_size : Stmt := inClass (top 66) 11
abbrev s_Book_value : Stmt := inClass (top 66) 12
abbrev s_Book_sums : Stmt := inClass (top 66) 13
abbrev s_Book_ask_of_sums : Stmt := inClass (top 66) 15
abbrev s_check_book : Stmt := top 67
abbrev s_check_two : Stmt := top 68
abbrev s_check_fit : Stmt := top 69
abbrev s_sides_of : Stmt := top 71
abbrev s_first_greater : Stmt := top 72
abbrev s_check_rates : Stmt := top 73
abbrev s_amounts_of : Stmt := top 74
abbrev s_check_size : Stmt := top 75
abbrev s_States_init : Stmt := inClass (top 76) 0
abbrev s_States_empty : Stmt := inClass (top 76) 1
abbrev s_States_move : Stmt := inClass (top 76) 2
abbrev s_States_weight : Stmt := inClass (top 76) 3
abbrev s_States_reduced : Stmt := inClass (top 76) 4
abbrev s_States_added : Stmt := inClass (top 76) 5
abbrev s_States_gap : Stmt := inClass (top 76) 6
abbrev s_States_base : Stmt := inClass (top 76) 7
abbrev s_States_share_of_group : Stmt := inClass (top 76) 8
abbrev s_States_lines : Stmt := inClass (top 76) 9
abbrev s_States_best_lines : Stmt := inClass (top 76) 10
abbrev s_States_order : Stmt := inClass (top 76) 11
abbrev s_one_more : Stmt := top 77
abbrev s_greatest_gap : Stmt := top 78
abbrev s_reached : Stmt := top 79
abbrev s_states_of : Stmt := top 81
abbrev s_gain_of : Stmt := top 82
abbrev s_split_range : Stmt := top 83
abbrev s_merges : Stmt := top 84
abbrev s_merge_range : Stmt := top 85
abbrev s_check_integers : Stmt := top 87
abbrev s_goes_on : Stmt := top 88
abbrev s_Row_init : Stmt := inClass (top 89) 0
abbrev s_Row_early : Stmt := inClass (top 89) 1
abbrev s_Row_again : Stmt := inClass (top 89) 2
abbrev s_Row_rise : Stmt := inClass (top 89) 3
abbrev s_Row_at : Stmt := inClass (top 89) 5
abbrev s_check_greatest : Stmt := top 91
abbrev s_row_of : Stmt := top 92
abbrev s_is_led_on : Stmt := top 93
abbrev s_greatest : Stmt := top 94
abbrev s_turned : Stmt := top 95
abbrev s_least : Stmt := top 96
abbrev s__law_cell : Stmt := top 98
abbrev s__law_jar : Stmt := top 99
abbrev s__law_dig : Stmt := top 100
abbrev s__law_take : Stmt := top 101
abbrev s__law_common : Stmt := top 102
abbrev s__law_span : Stmt := top 103
abbrev s__law_way : Stmt := top 104
abbrev s__law_right : Stmt := top 105
abbrev s_law : Stmt := top 106
def d_is_integer : He5.DefA := ⟨fun K => He.ga K "is_integer", "is_integer", "is_integer", defArgs s_is_integer, defBody s_is_integer, defScope s_is_integer, [], []⟩
def d_is_between : He5.DefA := ⟨fun K => He.ga K "is_between", "is_between", "is_between", defArgs s_is_between, defBody s_is_between, defScope s_is_between, [], []⟩
def d_check_number : He5.DefA := ⟨fun K => He.ga K "check_number", "check_number", "check_number", defArgs s_check_number, defBody s_check_number, defScope s_check_number, [], []⟩
def d_is_name : He5.DefA := ⟨fun K => He.ga K "is_name", "is_name", "is_name", defArgs s_is_name, defBody s_is_name, defScope s_is_name, [], []⟩
def d_common_divisor : He5.DefA := ⟨fun K => He.ga K "common_divisor", "common_divisor", "common_divisor", defArgs s_common_divisor, defBody s_common_divisor, defScope s_common_divisor, [], []⟩
def d_common_multiple : He5.DefA := ⟨fun K => He.ga K "common_multiple", "common_multiple", "common_multiple", defArgs s_common_multiple, defBody s_common_multiple, defScope s_common_multiple, [], []⟩
def d_fraction : He5.DefA := ⟨fun K => He.ga K "fraction", "fraction", "fraction", defArgs s_fraction, defBody s_fraction, defScope s_fraction, [], []⟩
def d_times : He5.DefA := ⟨fun K => He.ga K "times", "times", "times", defArgs s_times, defBody s_times, defScope s_times, [], []⟩
def d_less : He5.DefA := ⟨fun K => He.ga K "less", "less", "less", defArgs s_less, defBody s_less, defScope s_less, [], []⟩
def d_is_step : He5.DefA := ⟨fun K => He.ga K "is_step", "is_step", "is_step", defArgs s_is_step, defBody s_is_step, defScope s_is_step, [], []⟩
def d_wrong_step : He5.DefA := ⟨fun K => He.ga K "wrong_step", "wrong_step", "wrong_step", defArgs s_wrong_step, defBody s_wrong_step, defScope s_wrong_step, [], []⟩
def d_is_row_of_steps : He5.DefA := ⟨fun K => He.ga K "is_row_of_steps", "is_row_of_steps", "is_row_of_steps", defArgs s_is_row_of_steps, defBody s_is_row_of_steps, defScope s_is_row_of_steps, [], []⟩
def d_rounded : He5.DefA := ⟨fun K => He.ga K "rounded", "rounded", "rounded", defArgs s_rounded, defBody s_rounded, defScope s_rounded, [], []⟩
def d_led : He5.DefA := ⟨fun K => He.ga K "led", "led", "led", defArgs s_led, defBody s_led, defScope s_led, [], []⟩
def d_rate_of : He5.DefA := ⟨fun K => He.ga K "rate_of", "rate_of", "rate_of", defArgs s_rate_of, defBody s_rate_of, defScope s_rate_of, [], []⟩
def d_period_of : He5.DefA := ⟨fun K => He.ga K "period_of", "period_of", "period_of", defArgs s_period_of, defBody s_period_of, defScope s_period_of, [], []⟩
def d_text_of_step : He5.DefA := ⟨fun K => He.ga K "text_of_step", "text_of_step", "text_of_step", defArgs s_text_of_step, defBody s_text_of_step, defScope s_text_of_step, [], []⟩
def d_text_of_steps : He5.DefA := ⟨fun K => He.ga K "text_of_steps", "text_of_steps", "text_of_steps", defArgs s_text_of_steps, defBody s_text_of_steps, defScope s_text_of_steps, [], []⟩
def d_is_kind : He5.DefA := ⟨fun K => He.ga K "is_kind", "is_kind", "is_kind", defArgs s_is_kind, defBody s_is_kind, defScope s_is_kind, [], []⟩
def d_check_kinds : He5.DefA := ⟨fun K => He.ga K "check_kinds", "check_kinds", "check_kinds", defArgs s_check_kinds, defBody s_check_kinds, defScope s_check_kinds, [], []⟩
def d_check_groups : He5.DefA := ⟨fun K => He.ga K "check_groups", "check_groups", "check_groups", defArgs s_check_groups, defBody s_check_groups, defScope s_check_groups, [], []⟩
def d_check_places : He5.DefA := ⟨fun K => He.ga K "check_places", "check_places", "check_places", defArgs s_check_places, defBody s_check_places, defScope s_check_places, [], []⟩
def d_check_whole : He5.DefA := ⟨fun K => He.ga K "check_whole", "check_whole", "check_whole", defArgs s_check_whole, defBody s_check_whole, defScope s_check_whole, [], []⟩
def d_text_of : He5.DefA := ⟨fun K => He.ga K "text_of", "text_of", "text_of", defArgs s_text_of, defBody s_text_of, defScope s_text_of, [], []⟩
def d_is_line : He5.DefA := ⟨fun K => He.ga K "is_line", "is_line", "is_line", defArgs s_is_line, defBody s_is_line, defScope s_is_line, [], []⟩
def d_check_bill : He5.DefA := ⟨fun K => He.ga K "check_bill", "check_bill", "check_bill", defArgs s_check_bill, defBody s_check_bill, defScope s_check_bill, [], []⟩
def d_Book_init : He5.DefA := ⟨fun K => He.ma K (He.ga K "Book") "__init__", "__init__", "Book.__init__", defArgs s_Book_init, defBody s_Book_init, defScope s_Book_init, [], []⟩
def d_Book_kinds : He5.DefA := ⟨fun K => He5.wf K (He.ga K "Book") "property" "kinds", "kinds", "Book.kinds", defArgs s_Book_kinds, defBody s_Book_kinds, defScope s_Book_kinds, [], []⟩
def d_Book_groups : He5.DefA := ⟨fun K => He5.wf K (He.ga K "Book") "property" "groups", "groups", "Book.groups", defArgs s_Book_groups, defBody s_Book_groups, defScope s_Book_groups, [], []⟩
def d_Book_names : He5.DefA := ⟨fun K => He5.wf K (He.ga K "Book") "property" "names", "names", "Book.names", defArgs s_Book_names, defBody s_Book_names, defScope s_Book_names, [], []⟩
def d_Book_kind_at : He5.DefA := ⟨fun K => He.ma K (He.ga K "Book") "kind_at", "kind_at", "Book.kind_at", defArgs s_Book_kind_at, defBody s_Book_kind_at, defScope s_Book_kind_at, [], []⟩
def d_Book_rate : He5.DefA := ⟨fun K => He.ma K (He.ga K "Book") "rate", "rate", "Book.rate", defArgs s_Book_rate, defBody s_Book_rate, defScope s_Book_rate, [], []⟩
def d_Book_share : He5.DefA := ⟨fun K => He.ma K (He.ga K "Book") "share", "share", "Book.share", defArgs s_Book_share, defBody s_Book_share, defScope s_Book_share, [], []⟩
def d_Book_period : He5.DefA := ⟨fun K => He.ma K (He.ga K "Book") "period", "period", "Book.period", defArgs s_Book_period, defBody s_Book_period, defScope s_Book_period, [], []⟩
def d_Book_periods : He5.DefA := ⟨fun K => He.ma K (He.ga K "Book") "periods", "periods", "Book.periods", defArgs s_Book_periods, defBody s_Book_periods, defScope s_Book_periods, [], []⟩
def d_Book_size : He5.DefA := ⟨fun K => He.ma K (He.ga K "Book") "size", "size", "Book.size", defArgs s_Book_size, defBody s_Book_size, defScope s_Book_size, [], []⟩
def d_Book_value : He5.DefA := ⟨fun K => He.ma K (He.ga K "Book") "value", "value", "Book.value", defArgs s_Book_value, defBody s_Book_value, defScope s_Book_value, [], []⟩
def d_Book_sums : He5.DefA := ⟨fun K => He.ma K (He.ga K "Book") "sums", "sums", "Book.sums", defArgs s_Book_sums, defBody s_Book_sums, defScope s_Book_sums, [], []⟩
def d_Book_ask_of_sums : He5.DefA := ⟨fun K => He.ma K (He.ga K "Book") "ask_of_sums", "ask_of_sums", "Book.ask_of_sums", defArgs s_Book_ask_of_sums, defBody s_Book_ask_of_sums, defScope s_Book_ask_of_sums, [], []⟩
def d_check_book : He5.DefA := ⟨fun K => He.ga K "check_book", "check_book", "check_book", defArgs s_check_book, defBody s_check_book, defScope s_check_book, [], []⟩
def d_check_two : He5.DefA := ⟨fun K => He.ga K "check_two", "check_two", "check_two", defArgs s_check_two, defBody s_check_two, defScope s_check_two, [], []⟩
def d_check_fit : He5.DefA := ⟨fun K => He.ga K "check_fit", "check_fit", "check_fit", defArgs s_check_fit, defBody s_check_fit, defScope s_check_fit, [], []⟩
def d_sides_of : He5.DefA := ⟨fun K => He.ga K "sides_of", "sides_of", "sides_of", defArgs s_sides_of, defBody s_sides_of, defScope s_sides_of, [], []⟩
def d_first_greater : He5.DefA := ⟨fun K => He.ga K "first_greater", "first_greater", "first_greater", defArgs s_first_greater, defBody s_first_greater, defScope s_first_greater, [], []⟩
def d_check_rates : He5.DefA := ⟨fun K => He.ga K "check_rates", "check_rates", "check_rates", defArgs s_check_rates, defBody s_check_rates, defScope s_check_rates, [], []⟩
def d_amounts_of : He5.DefA := ⟨fun K => He.ga K "amounts_of", "amounts_of", "amounts_of", defArgs s_amounts_of, defBody s_amounts_of, defScope s_amounts_of, [], []⟩
def d_check_size : He5.DefA := ⟨fun K => He.ga K "check_size", "check_size", "check_size", defArgs s_check_size, defBody s_check_size, defScope s_check_size, [], []⟩
def d_States_init : He5.DefA := ⟨fun K => He.ma K (He.ga K "States") "__init__", "__init__", "States.__init__", defArgs s_States_init, defBody s_States_init, defScope s_States_init, [], []⟩
def d_States_empty : He5.DefA := ⟨fun K => He.ma K (He.ga K "States") "empty", "empty", "States.empty", defArgs s_States_empty, defBody s_States_empty, defScope s_States_empty, [], []⟩
def d_States_move : He5.DefA := ⟨fun K => He.ma K (He.ga K "States") "move", "move", "States.move", defArgs s_States_move, defBody s_States_move, defScope s_States_move, [], []⟩
def d_States_weight : He5.DefA := ⟨fun K => He.ma K (He.ga K "States") "weight", "weight", "States.weight", defArgs s_States_weight, defBody s_States_weight, defScope s_States_weight, [], []⟩
def d_States_reduced : He5.DefA := ⟨fun K => He.ma K (He.ga K "States") "reduced", "reduced", "States.reduced", defArgs s_States_reduced, defBody s_States_reduced, defScope s_States_reduced, [], []⟩
def d_States_added : He5.DefA := ⟨fun K => He.ma K (He.ga K "States") "added", "added", "States.added", defArgs s_States_added, defBody s_States_added, defScope s_States_added, [], []⟩
def d_States_gap : He5.DefA := ⟨fun K => He.ma K (He.ga K "States") "gap", "gap", "States.gap", defArgs s_States_gap, defBody s_States_gap, defScope s_States_gap, [], []⟩
def d_States_base : He5.DefA := ⟨fun K => He.ma K (He.ga K "States") "base", "base", "States.base", defArgs s_States_base, defBody s_States_base, defScope s_States_base, [], []⟩
def d_States_share_of_group : He5.DefA := ⟨fun K => He.ma K (He.ga K "States") "share_of_group", "share_of_group", "States.share_of_group", defArgs s_States_share_of_group, defBody s_States_share_of_group, defScope s_States_share_of_group, [], []⟩
def d_States_lines : He5.DefA := ⟨fun K => He.ma K (He.ga K "States") "lines", "lines", "States.lines", defArgs s_States_lines, defBody s_States_lines, defScope s_States_lines, [], []⟩
def d_States_best_lines : He5.DefA := ⟨fun K => He.ma K (He.ga K "States") "best_lines", "best_lines", "States.best_lines", defArgs s_States_best_lines, defBody s_States_best_lines, defScope s_States_best_lines, [], []⟩
def d_States_order : He5.DefA := ⟨fun K => He.ma K (He.ga K "States") "order", "order", "States.order", defArgs s_States_order, defBody s_States_order, defScope s_States_order, [], []⟩
def d_one_more : He5.DefA := ⟨fun K => He.ga K "one_more", "one_more", "one_more", defArgs s_one_more, defBody s_one_more, defScope s_one_more, [], []⟩
def d_greatest_gap : He5.DefA := ⟨fun K => He.ga K "greatest_gap", "greatest_gap", "greatest_gap", defArgs s_greatest_gap, defBody s_greatest_gap, defScope s_greatest_gap, [], []⟩
def d_reached : He5.DefA := ⟨fun K => He.ga K "reached", "reached", "reached", defArgs s_reached, defBody s_reached, defScope s_reached, [], []⟩
def d_states_of : He5.DefA := ⟨fun K => He.ga K "states_of", "states_of", "states_of", defArgs s_states_of, defBody s_states_of, defScope s_states_of, [], []⟩
def d_gain_of : He5.DefA := ⟨fun K => He.ga K "gain_of", "gain_of", "gain_of", defArgs s_gain_of, defBody s_gain_of, defScope s_gain_of, [], []⟩
def d_split_range : He5.DefA := ⟨fun K => He.ga K "split_range", "split_range", "split_range", defArgs s_split_range, defBody s_split_range, defScope s_split_range, [], []⟩
def d_merges : He5.DefA := ⟨fun K => He.ga K "merges", "merges", "merges", defArgs s_merges, defBody s_merges, defScope s_merges, [], []⟩
def d_merge_range : He5.DefA := ⟨fun K => He.ga K "merge_range", "merge_range", "merge_range", defArgs s_merge_range, defBody s_merge_range, defScope s_merge_range, [], []⟩
def d_check_integers : He5.DefA := ⟨fun K => He.ga K "check_integers", "check_integers", "check_integers", defArgs s_check_integers, defBody s_check_integers, defScope s_check_integers, [], []⟩
def d_goes_on : He5.DefA := ⟨fun K => He.ga K "goes_on", "goes_on", "goes_on", defArgs s_goes_on, defBody s_goes_on, defScope s_goes_on, [], []⟩
def d_Row_init : He5.DefA := ⟨fun K => He.ma K (He.ga K "Row") "__init__", "__init__", "Row.__init__", defArgs s_Row_init, defBody s_Row_init, defScope s_Row_init, [], []⟩
def d_Row_early : He5.DefA := ⟨fun K => He5.wf K (He.ga K "Row") "property" "early", "early", "Row.early", defArgs s_Row_early, defBody s_Row_early, defScope s_Row_early, [], []⟩
def d_Row_again : He5.DefA := ⟨fun K => He5.wf K (He.ga K "Row") "property" "again", "again", "Row.again", defArgs s_Row_again, defBody s_Row_again, defScope s_Row_again, [], []⟩
def d_Row_rise : He5.DefA := ⟨fun K => He5.wf K (He.ga K "Row") "property" "rise", "rise", "Row.rise", defArgs s_Row_rise, defBody s_Row_rise, defScope s_Row_rise, [], []⟩
def d_Row_at : He5.DefA := ⟨fun K => He.ma K (He.ga K "Row") "at", "at", "Row.at", defArgs s_Row_at, defBody s_Row_at, defScope s_Row_at, [], []⟩
def d_check_greatest : He5.DefA := ⟨fun K => He.ga K "check_greatest", "check_greatest", "check_greatest", defArgs s_check_greatest, defBody s_check_greatest, defScope s_check_greatest, [], []⟩
def d_row_of : He5.DefA := ⟨fun K => He.ga K "row_of", "row_of", "row_of", defArgs s_row_of, defBody s_row_of, defScope s_row_of, [], []⟩
def d_is_led_on : He5.DefA := ⟨fun K => He.ga K "is_led_on", "is_led_on", "is_led_on", defArgs s_is_led_on, defBody s_is_led_on, defScope s_is_led_on, [], []⟩
def d_greatest : He5.DefA := ⟨fun K => He.ga K "greatest", "greatest", "greatest", defArgs s_greatest, defBody s_greatest, defScope s_greatest, [], []⟩
def d_turned : He5.DefA := ⟨fun K => He.ga K "turned", "turned", "turned", defArgs s_turned, defBody s_turned, defScope s_turned, [], []⟩
def d_least : He5.DefA := ⟨fun K => He.ga K "least", "least", "least", defArgs s_least, defBody s_least, defScope s_least, [], []⟩
def d__law_cell : He5.DefA := ⟨fun K => He.ga K "_law_cell", "_law_cell", "_law_cell", defArgs s__law_cell, defBody s__law_cell, defScope s__law_cell, [], []⟩
def d__law_jar : He5.DefA := ⟨fun K => He.ga K "_law_jar", "_law_jar", "_law_jar", defArgs s__law_jar, defBody s__law_jar, defScope s__law_jar, [], []⟩
def d__law_dig : He5.DefA := ⟨fun K => He.ga K "_law_dig", "_law_dig", "_law_dig", defArgs s__law_dig, defBody s__law_dig, defScope s__law_dig, [], []⟩
def d__law_take : He5.DefA := ⟨fun K => He.ga K "_law_take", "_law_take", "_law_take", defArgs s__law_take, defBody s__law_take, defScope s__law_take, [], []⟩
def d__law_common : He5.DefA := ⟨fun K => He.ga K "_law_common", "_law_common", "_law_common", defArgs s__law_common, defBody s__law_common, defScope s__law_common, [], []⟩
def d__law_span : He5.DefA := ⟨fun K => He.ga K "_law_span", "_law_span", "_law_span", defArgs s__law_span, defBody s__law_span, defScope s__law_span, [], []⟩
def d__law_way : He5.DefA := ⟨fun K => He.ga K "_law_way", "_law_way", "_law_way", defArgs s__law_way, defBody s__law_way, defScope s__law_way, [], []⟩
def d__law_right : He5.DefA := ⟨fun K => He.ga K "_law_right", "_law_right", "_law_right", defArgs s__law_right, defBody s__law_right, defScope s__law_right, [], []⟩
def d_law : He5.DefA := ⟨fun K => He.ga K "law", "law", "law", defArgs s_law, defBody s_law, defScope s_law, [], []⟩
def fn0 : List He5.DefA := [d_is_integer, d_is_between, d_check_number, d_is_name, d_common_divisor, d_common_multiple, d_fraction, d_times, d_less, d_is_step, d_wrong_step, d_is_row_of_steps, d_rounded, d_led, d_rate_of, d_period_of, d_text_of_step, d_text_of_steps, d_is_kind, d_check_kinds, d_check_groups, d_check_places, d_check_whole, d_text_of, d_is_line, d_check_bill, d_Book_init, d_Book_kinds, d_Book_groups, d_Book_names]
def fn1 : List He5.DefA := [d_Book_kind_at, d_Book_rate, d_Book_share, d_Book_period, d_Book_periods, d_Book_size, d_Book_value, d_Book_sums, d_Book_ask_of_sums, d_check_book, d_check_two, d_check_fit, d_sides_of, d_first_greater, d_check_rates, d_amounts_of, d_check_size, d_States_init, d_States_empty, d_States_move, d_States_weight, d_States_reduced, d_States_added, d_States_gap, d_States_base, d_States_share_of_group, d_States_lines, d_States_best_lines, d_States_order, d_one_more]
def fn2 : List He5.DefA := [d_greatest_gap, d_reached, d_states_of, d_gain_of, d_split_range, d_merges, d_merge_range, d_check_integers, d_goes_on, d_Row_init, d_Row_early, d_Row_again, d_Row_rise, d_Row_at, d_check_greatest, d_row_of, d_is_led_on, d_greatest, d_turned, d_least, d__law_cell, d__law_jar, d__law_dig, d__law_take, d__law_common, d__law_span, d__law_way, d__law_right, d_law]
def fn : List He5.DefA := fn0 ++ (fn1 ++ (fn2))
def fa0 : List He.Fa := [.glo "is_integer", .glo "is_between", .glo "check_number", .glo "is_name", .glo "common_divisor", .glo "common_multiple", .glo "fraction", .glo "times", .glo "less", .glo "WAYS", .glo "is_step", .glo "wrong_step", .glo "is_row_of_steps", .glo "rounded", .glo "led", .glo "rate_of", .glo "period_of", .glo "text_of_step", .glo "text_of_steps", .glo "is_kind", .glo "check_kinds", .glo "check_groups", .glo "check_places", .glo "check_whole", .glo "text_of", .glo "is_line", .glo "check_bill", .glo "Book", .glo "check_book", .glo "check_two"]
def fa1 : List He.Fa := [.glo "check_fit", .glo "sides_of", .glo "first_greater", .glo "check_rates", .glo "amounts_of", .glo "check_size", .glo "States", .glo "one_more", .glo "greatest_gap", .glo "reached", .glo "states_of", .glo "gain_of", .glo "split_range", .glo "merges", .glo "merge_range", .glo "check_integers", .glo "goes_on", .glo "Row", .glo "check_greatest", .glo "row_of", .glo "is_led_on", .glo "greatest", .glo "turned", .glo "least", .glo "_law_cell", .glo "_law_jar", .glo "_law_dig", .glo "_law_take", .glo "_law_common", .glo "_law_span"]
def fa2 : List He.Fa := [.glo "_law_way", .glo "_law_right", .glo "law", .int "MOST_KINDS" 4, .int "MOST_GROUPS" 3, .int "MOST_STEPS" 2, .int "MOST_FACTOR" 200, .int "MOST_UNIT" 60, .int "MOST_PLUS" 9999, .int "MOST_STATES" 200, .int "MOST_AMOUNTS" 400, .int "LONGEST_NAME" 8, .int "TIMES_SIZE" 5, .int "PLUS_SIZE" 2, .int "KIND_SIZE" 3, .int "KIND_WORDS" 4, .str "DIGITS" "0123456789", .str "LETTERS" "abcdefghijklmnopqrstuvwxyz", .free "isinstance", .free "int", .free "bool", .free "str", .free "len", .free "all", .free "abs", .free "divmod", .free "tuple", .free "list", .free "range", .free "zip"]
def fa3 : List He.Fa := [.free "enumerate", .free "sum", .free "max", .free "min", .cls "Book", .mkr "Book", .noat "Book" "sorts", .noat "Book" "heaps", .noat "Book" "last", .noat "Book" "words", .cls "States", .mkr "States", .noat "States" "sides", .noat "States" "spans", .noat "States" "bottom", .cls "Row", .mkr "Row", .noat "Row" "head", .noat "Row" "cycle", .noat "Row" "step", .meth "Book" "kind_at", .meth "Book" "rate", .meth "Book" "share", .meth "Book" "period", .meth "Book" "periods", .meth "Book" "size", .meth "Book" "value", .meth "Book" "sums", .meth "Book" "ask_of_sums", .meth "States" "empty"]
def fa4 : List He.Fa := [.meth "States" "move", .meth "States" "weight", .meth "States" "reduced", .meth "States" "added", .meth "States" "gap", .meth "States" "base", .meth "States" "share_of_group", .meth "States" "lines", .meth "States" "best_lines", .meth "States" "order", .meth "Row" "at"]
def fa : List He.Fa := fa0 ++ (fa1 ++ (fa2 ++ (fa3 ++ (fa4))))
/-- properties, isinstance of a class, the tuple of ways -/
def propB (K : PySem.W.Frag) (C f : Str) : Bool :=
  He.eqO (PySem.W.findIn K (.ref (He.ga K C)) f) (some (some (.ref (He.ma K (He.ga K C) f)))) &&
  (He.eqO (PySem.W.specialIn K (.ref (He.ma K (He.ga K C) f)) "__get__") (some (some (.builtin "property.__get__"))) &&
  (decide (PySem.W.takesIn K (.ref (He.ma K (He.ga K C) f)) = some true) &&
  (match PySem.W.recIn K (He.ma K (He.ga K C) f) "property" with
    | some (.ref g :: _) => decide (g = He5.wf K (He.ga K C) "property" f)
    | _ => false)))
theorem propB_ok {K : PySem.W.Frag} {C f : Str} (h : propB K C f = true) : PropOf K (He.ga K C) f (He.ma K (He.ga K C) f) (He5.wf K (He.ga K C) "property" f) := by
  obtain ⟨h1, h⟩ := He.ba h
  obtain ⟨h2, h⟩ := He.ba h
  obtain ⟨h3, h4⟩ := He.ba h
  refine ⟨He.eqO_ok h1, He.eqO_ok h2, of_decide_eq_true h3, ?_⟩
  cases e : PySem.W.recIn K (He.ma K (He.ga K C) f) "property" with
  | none => rw [e] at h4; cases h4
  | some l =>
    rw [e] at h4
    cases l with
    | nil => cases h4
    | cons v r =>
      cases v with
      | ref g => exact ⟨r, by rw [of_decide_eq_true h4]⟩
      | _ => cases h4
def insB (K : PySem.W.Frag) (C : Str) : Bool :=
  He.eqO (PySem.W.findIn K (.ref (He.ga K C)) "__class__") (some (some (.builtin "object.__class__"))) &&
  (He.eqO (PySem.W.specialIn K (.builtin "object.__class__") "__get__") (some (some (.builtin "getset_descriptor.__get__"))) &&
  (decide (PySem.W.takesIn K (.builtin "object.__class__") = some true) &&
  (decide (PySem.W.mroIn K (He.ga K C) (.type "object") = some true) && decide (PySem.W.kitOne K (.ref (He.ga K C)) (.ref (He.ga K C)) = some true))))
theorem insB_ok {K : PySem.W.Frag} {C : Str} (c : Cls K (He.ga K C)) (h : insB K C = true) : C8.InsC K (He.ga K C) := by
  obtain ⟨h1, h⟩ := He.ba h
  obtain ⟨h2, h⟩ := He.ba h
  obtain ⟨h3, h⟩ := He.ba h
  obtain ⟨h4, h5⟩ := He.ba h
  exact ⟨c, He.eqO_ok h1, He.eqO_ok h2, of_decide_eq_true h3, of_decide_eq_true h4, of_decide_eq_true h5⟩
def props : List (Str × Str) := [("Book", "kinds"), ("Book", "groups"), ("Book", "names"), ("Row", "early"), ("Row", "again"), ("Row", "rise")]
def ways : List He.Dv := [.str "down", .str "up", .str "near down", .str "near up", .str "near even"]
def ex (K : PySem.W.Frag) : Bool := (props.all fun p => propB K p.1 p.2) && (insB K "Book" && He.tupB K "WAYS" ways)
abbrev AlE : Type := Bool × He.AlD
def obsE (K : PySem.W.Frag) : AlE := (ex K, He5.obsA fa fn K)
def valE : AlE := (true, He5.valA fn)
def SaysE (K : PySem.W.Frag) : Prop := obsE K = valE
/-- what the facts lean on: a written part of the heap, the module's names -/
def Tx (K : PySem.W.Frag) (mg : Str → Option Value) : Prop := ∃ h : Heap, K.In h ∧ h.Ns mainGlobals mg ∧ SaysE K
section
variable {K : PySem.W.Frag} {mg : Str → Option Value}
theorem SaysE.a (c : SaysE K) : He5.SaysA fa fn K := congrArg (fun z : AlE => z.2) c
theorem SaysE.x (c : SaysE K) : ex K = true := congrArg (fun z : AlE => z.1) c

theorem g_is_integer (T : Tx K mg) : mg "is_integer" = some (.ref (He.ga K "is_integer")) := let ⟨_, X, G, c⟩ := T; He.glo_ok X G (c.a.fact 0 rfl)
theorem g_is_between (T : Tx K mg) : mg "is_between" = some (.ref (He.ga K "is_between")) := let ⟨_, X, G, c⟩ := T; He.glo_ok X G (c.a.fact 1 rfl)
theorem g_check_number (T : Tx K mg) : mg "check_number" = some (.ref (He.ga K "check_number")) := let ⟨_, X, G, c⟩ := T; He.glo_ok X G (c.a.fact 2 rfl)
theorem g_is_name (T : Tx K mg) : mg "is_name" = some (.ref (He.ga K "is_name")) := let ⟨_, X, G, c⟩ := T; He.glo_ok X G (c.a.fact 3 rfl)
theorem g_common_divisor (T : Tx K mg) : mg "common_divisor" = some (.ref (He.ga K "common_divisor")) := let ⟨_, X, G, c⟩ := T; He.glo_ok X G (c.a.fact 4 rfl)
theorem g_common_multiple (T : Tx K mg) : mg "common_multiple" = some (.ref (He.ga K "common_multiple")) := let ⟨_, X, G, c⟩ := T; He.glo_ok X G (c.a.fact 5 rfl)
theorem g_fraction (T : Tx K mg) : mg "fraction" = some (.ref (He.ga K "fraction")) := let ⟨_, X, G, c⟩ := T; He.glo_ok X G (c.a.fact 6 rfl)
theorem g_times (T : Tx K mg) : mg "times" = some (.ref (He.ga K "times")) := let ⟨_, X, G, c⟩ := T; He.glo_ok X G (c.a.fact 7 rfl)
theorem g_less (T : Tx K mg) : mg "less" = some (.ref (He.ga K "less")) := let ⟨_, X, G, c⟩ := T; He.glo_ok X G (c.a.fact 8 rfl)
theorem g_WAYS (T : Tx K mg) : mg "WAYS" = some (.ref (He.ga K "WAYS")) := let ⟨_, X, G, c⟩ := T; He.glo_ok X G (c.a.fact 9 rfl)
theorem g_is_step (T : Tx K mg) : mg "is_step" = some (.ref (He.ga K "is_step")) := let ⟨_, X, G, c⟩ := T; He.glo_ok X G (c.a.fact 10 rfl)
theorem g_wrong_step (T : Tx K mg) : mg "wrong_step" = some (.ref (He.ga K "wrong_step")) := let ⟨_, X, G, c⟩ := T; He.glo_ok X G (c.a.fact 11 rfl)
theorem g_is_row_of_steps (T : Tx K mg) : mg "is_row_of_steps" = some (.ref (He.ga K "is_row_of_steps")) := let ⟨_, X, G, c⟩ := T; He.glo_ok X G (c.a.fact 12 rfl)
theorem g_rounded (T : Tx K mg) : mg "rounded" = some (.ref (He.ga K "rounded")) := let ⟨_, X, G, c⟩ := T; He.glo_ok X G (c.a.fact 13 rfl)
theorem g_led (T : Tx K mg) : mg "led" = some (.ref (He.ga K "led")) := let ⟨_, X, G, c⟩ := T; He.glo_ok X G (c.a.fact 14 rfl)
theorem g_rate_of (T : Tx K mg) : mg "rate_of" = some (.ref (He.ga K "rate_of")) := let ⟨_, X, G, c⟩ := T; He.glo_ok X G (c.a.fact 15 rfl)
theorem g_period_of (T : Tx K mg) : mg "period_of" = some (.ref (He.ga K "period_of")) := let ⟨_, X, G, c⟩ := T; He.glo_ok X G (c.a.fact 16 rfl)
theorem g_text_of_step (T : Tx K mg) : mg "text_of_step" = some (.ref (He.ga K "text_of_step")) := let ⟨_, X, G, c⟩ := T; He.glo_ok X G (c.a.fact 17 rfl)
theorem g_text_of_steps (T : Tx K mg) : mg "text_of_steps" = some (.ref (He.ga K "text_of_steps")) := let ⟨_, X, G, c⟩ := T; He.glo_ok X G (c.a.fact 18 rfl)
theorem g_is_kind (T : Tx K mg) : mg "is_kind" = some (.ref (He.ga K "is_kind")) := let ⟨_, X, G, c⟩ := T; He.glo_ok X G (c.a.fact 19 rfl)
theorem g_check_kinds (T : Tx K mg) : mg "check_kinds" = some (.ref (He.ga K "check_kinds")) := let ⟨_, X, G, c⟩ := T; He.glo_ok X G (c.a.fact 20 rfl)
theorem g_check_groups (T : Tx K mg) : mg "check_groups" = some (.ref (He.ga K "check_groups")) := let ⟨_, X, G, c⟩ := T; He.glo_ok X G (c.a.fact 21 rfl)
theorem g_check_places (T : Tx K mg) : mg "check_places" = some (.ref (He.ga K "check_places")) := let ⟨_, X, G, c⟩ := T; He.glo_ok X G (c.a.fact 22 rfl)
theorem g_check_whole (T : Tx K mg) : mg "check_whole" = some (.ref (He.ga K "check_whole")) := let ⟨_, X, G, c⟩ := T; He.glo_ok X G (c.a.fact 23 rfl)
theorem g_text_of (T : Tx K mg) : mg "text_of" = some (.ref (He.ga K "text_of")) := let ⟨_, X, G, c⟩ := T; He.glo_ok X G (c.a.fact 24 rfl)
theorem g_is_line (T : Tx K mg) : mg "is_line" = some (.ref (He.ga K "is_line")) := let ⟨_, X, G, c⟩ := T; He.glo_ok X G (c.a.fact 25 rfl)
theorem g_check_bill (T : Tx K mg) : mg "check_bill" = some (.ref (He.ga K "check_bill")) := let ⟨_, X, G, c⟩ := T; He.glo_ok X G (c.a.fact 26 rfl)
theorem g_Book (T : Tx K mg) : mg "Book" = some (.ref (He.ga K "Book")) := let ⟨_, X, G, c⟩ := T; He.glo_ok X G (c.a.fact 27 rfl)
theorem g_check_book (T : Tx K mg) : mg "check_book" = some (.ref (He.ga K "check_book")) := let ⟨_, X, G, c⟩ := T; He.glo_ok X G (c.a.fact 28 rfl)
theorem g_check_two (T : Tx K mg) : mg "check_two" = some (.ref (He.ga K "check_two")) := let ⟨_, X, G, c⟩ := T; He.glo_ok X G (c.a.fact 29 rfl)
theorem g_check_fit (T : Tx K mg) : mg "check_fit" = some (.ref (He.ga K "check_fit")) := let ⟨_, X, G, c⟩ := T; He.glo_ok X G (c.a.fact 30 rfl)
theorem g_sides_of (T : Tx K mg) : mg "sides_of" = some (.ref (He.ga K "sides_of")) := let ⟨_, X, G, c⟩ := T; He.glo_ok X G (c.a.fact 31 rfl)
theorem g_first_greater (T : Tx K mg) : mg "first_greater" = some (.ref (He.ga K "first_greater")) := let ⟨_, X, G, c⟩ := T; He.glo_ok X G (c.a.fact 32 rfl)
theorem g_check_rates (T : Tx K mg) : mg "check_rates" = some (.ref (He.ga K "check_rates")) := let ⟨_, X, G, c⟩ := T; He.glo_ok X G (c.a.fact 33 rfl)
theorem g_amounts_of (T : Tx K mg) : mg "amounts_of" = some (.ref (He.ga K "amounts_of")) := let ⟨_, X, G, c⟩ := T; He.glo_ok X G (c.a.fact 34 rfl)
theorem g_check_size (T : Tx K mg) : mg "check_size" = some (.ref (He.ga K "check_size")) := let ⟨_, X, G, c⟩ := T; He.glo_ok X G (c.a.fact 35 rfl)
theorem g_States (T : Tx K mg) : mg "States" = some (.ref (He.ga K "States")) := let ⟨_, X, G, c⟩ := T; He.glo_ok X G (c.a.fact 36 rfl)
theorem g_one_more (T : Tx K mg) : mg "one_more" = some (.ref (He.ga K "one_more")) := let ⟨_, X, G, c⟩ := T; He.glo_ok X G (c.a.fact 37 rfl)
theorem g_greatest_gap (T : Tx K mg) : mg "greatest_gap" = some (.ref (He.ga K "greatest_gap")) := let ⟨_, X, G, c⟩ := T; He.glo_ok X G (c.a.fact 38 rfl)
theorem g_reached (T : Tx K mg) : mg "reached" = some (.ref (He.ga K "reached")) := let ⟨_, X, G, c⟩ := T; He.glo_ok X G (c.a.fact 39 rfl)
theorem g_states_of (T : Tx K mg) : mg "states_of" = some (.ref (He.ga K "states_of")) := let ⟨_, X, G, c⟩ := T; He.glo_ok X G (c.a.fact 40 rfl)
theorem g_gain_of (T : Tx K mg) : mg "gain_of" = some (.ref (He.ga K "gain_of")) := let ⟨_, X, G, c⟩ := T; He.glo_ok X G (c.a.fact 41 rfl)
theorem g_split_range (T : Tx K mg) : mg "split_range" = some (.ref (He.ga K "split_range")) := let ⟨_, X, G, c⟩ := T; He.glo_ok X G (c.a.fact 42 rfl)
theorem g_merges (T : Tx K mg) : mg "merges" = some (.ref (He.ga K "merges")) := let ⟨_, X, G, c⟩ := T; He.glo_ok X G (c.a.fact 43 rfl)
theorem g_merge_range (T : Tx K mg) : mg "merge_range" = some (.ref (He.ga K "merge_range")) := let ⟨_, X, G, c⟩ := T; He.glo_ok X G (c.a.fact 44 rfl)
theorem g_check_integers (T : Tx K mg) : mg "check_integers" = some (.ref (He.ga K "check_integers")) := let ⟨_, X, G, c⟩ := T; He.glo_ok X G (c.a.fact 45 rfl)
theorem g_goes_on (T : Tx K mg) : mg "goes_on" = some (.ref (He.ga K "goes_on")) := let ⟨_, X, G, c⟩ := T; He.glo_ok X G (c.a.fact 46 rfl)
theorem g_Row (T : Tx K mg) : mg "Row" = some (.ref (He.ga K "Row")) := let ⟨_, X, G, c⟩ := T; He.glo_ok X G (c.a.fact 47 rfl)
theorem g_check_greatest (T : Tx K mg) : mg "check_greatest" = some (.ref (He.ga K "check_greatest")) := let ⟨_, X, G, c⟩ := T; He.glo_ok X G (c.a.fact 48 rfl)
theorem g_row_of (T : Tx K mg) : mg "row_of" = some (.ref (He.ga K "row_of")) := let ⟨_, X, G, c⟩ := T; He.glo_ok X G (c.a.fact 49 rfl)
theorem g_is_led_on (T : Tx K mg) : mg "is_led_on" = some (.ref (He.ga K "is_led_on")) := let ⟨_, X, G, c⟩ := T; He.glo_ok X G (c.a.fact 50 rfl)
theorem g_greatest (T : Tx K mg) : mg "greatest" = some (.ref (He.ga K "greatest")) := let ⟨_, X, G, c⟩ := T; He.glo_ok X G (c.a.fact 51 rfl)
theorem g_turned (T : Tx K mg) : mg "turned" = some (.ref (He.ga K "turned")) := let ⟨_, X, G, c⟩ := T; He.glo_ok X G (c.a.fact 52 rfl)
theorem g_least (T : Tx K mg) : mg "least" = some (.ref (He.ga K "least")) := let ⟨_, X, G, c⟩ := T; He.glo_ok X G (c.a.fact 53 rfl)
theorem g__law_cell (T : Tx K mg) : mg "_law_cell" = some (.ref (He.ga K "_law_cell")) := let ⟨_, X, G, c⟩ := T; He.glo_ok X G (c.a.fact 54 rfl)
theorem g__law_jar (T : Tx K mg) : mg "_law_jar" = some (.ref (He.ga K "_law_jar")) := let ⟨_, X, G, c⟩ := T; He.glo_ok X G (c.a.fact 55 rfl)
theorem g__law_dig (T : Tx K mg) : mg "_law_dig" = some (.ref (He.ga K "_law_dig")) := let ⟨_, X, G, c⟩ := T; He.glo_ok X G (c.a.fact 56 rfl)
theorem g__law_take (T : Tx K mg) : mg "_law_take" = some (.ref (He.ga K "_law_take")) := let ⟨_, X, G, c⟩ := T; He.glo_ok X G (c.a.fact 57 rfl)
theorem g__law_common (T : Tx K mg) : mg "_law_common" = some (.ref (He.ga K "_law_common")) := let ⟨_, X, G, c⟩ := T; He.glo_ok X G (c.a.fact 58 rfl)
theorem g__law_span (T : Tx K mg) : mg "_law_span" = some (.ref (He.ga K "_law_span")) := let ⟨_, X, G, c⟩ := T; He.glo_ok X G (c.a.fact 59 rfl)
theorem g__law_way (T : Tx K mg) : mg "_law_way" = some (.ref (He.ga K "_law_way")) := let ⟨_, X, G, c⟩ := T; He.glo_ok X G (c.a.fact 60 rfl)
theorem g__law_right (T : Tx K mg) : mg "_law_right" = some (.ref (He.ga K "_law_right")) := let ⟨_, X, G, c⟩ := T; He.glo_ok X G (c.a.fact 61 rfl)
theorem g_law (T : Tx K mg) : mg "law" = some (.ref (He.ga K "law")) := let ⟨_, X, G, c⟩ := T; He.glo_ok X G (c.a.fact 62 rfl)
theorem g_MOST_KINDS (T : Tx K mg) : ∃ t, mg "MOST_KINDS" = some (.int 4 t) := let ⟨_, X, G, c⟩ := T; He.int_ok X G (c.a.fact 63 rfl)
theorem g_MOST_GROUPS (T : Tx K mg) : ∃ t, mg "MOST_GROUPS" = some (.int 3 t) := let ⟨_, X, G, c⟩ := T; He.int_ok X G (c.a.fact 64 rfl)
theorem g_MOST_STEPS (T : Tx K mg) : ∃ t, mg "MOST_STEPS" = some (.int 2 t) := let ⟨_, X, G, c⟩ := T; He.int_ok X G (c.a.fact 65 rfl)
theorem g_MOST_FACTOR (T : Tx K mg) : ∃ t, mg "MOST_FACTOR" = some (.int 200 t) := let ⟨_, X, G, c⟩ := T; He.int_ok X G (c.a.fact 66 rfl)
theorem g_MOST_UNIT (T : Tx K mg) : ∃ t, mg "MOST_UNIT" = some (.int 60 t) := let ⟨_, X, G, c⟩ := T; He.int_ok X G (c.a.fact 67 rfl)
theorem g_MOST_PLUS (T : Tx K mg) : ∃ t, mg "MOST_PLUS" = some (.int 9999 t) := let ⟨_, X, G, c⟩ := T; He.int_ok X G (c.a.fact 68 rfl)
theorem g_MOST_STATES (T : Tx K mg) : ∃ t, mg "MOST_STATES" = some (.int 200 t) := let ⟨_, X, G, c⟩ := T; He.int_ok X G (c.a.fact 69 rfl)
theorem g_MOST_AMOUNTS (T : Tx K mg) : ∃ t, mg "MOST_AMOUNTS" = some (.int 400 t) := let ⟨_, X, G, c⟩ := T; He.int_ok X G (c.a.fact 70 rfl)
theorem g_LONGEST_NAME (T : Tx K mg) : ∃ t, mg "LONGEST_NAME" = some (.int 8 t) := let ⟨_, X, G, c⟩ := T; He.int_ok X G (c.a.fact 71 rfl)
theorem g_TIMES_SIZE (T : Tx K mg) : ∃ t, mg "TIMES_SIZE" = some (.int 5 t) := let ⟨_, X, G, c⟩ := T; He.int_ok X G (c.a.fact 72 rfl)
theorem g_PLUS_SIZE (T : Tx K mg) : ∃ t, mg "PLUS_SIZE" = some (.int 2 t) := let ⟨_, X, G, c⟩ := T; He.int_ok X G (c.a.fact 73 rfl)
theorem g_KIND_SIZE (T : Tx K mg) : ∃ t, mg "KIND_SIZE" = some (.int 3 t) := let ⟨_, X, G, c⟩ := T; He.int_ok X G (c.a.fact 74 rfl)
theorem g_KIND_WORDS (T : Tx K mg) : ∃ t, mg "KIND_WORDS" = some (.int 4 t) := let ⟨_, X, G, c⟩ := T; He.int_ok X G (c.a.fact 75 rfl)
theorem g_DIGITS (T : Tx K mg) : ∃ t, mg "DIGITS" = some (.str "0123456789" t) := let ⟨_, X, G, c⟩ := T; He.str_ok X G (c.a.fact 76 rfl)
theorem g_LETTERS (T : Tx K mg) : ∃ t, mg "LETTERS" = some (.str "abcdefghijklmnopqrstuvwxyz" t) := let ⟨_, X, G, c⟩ := T; He.str_ok X G (c.a.fact 77 rfl)
theorem n_isinstance (T : Tx K mg) : mg "isinstance" = none := let ⟨_, X, G, c⟩ := T; He.free_ok X G (c.a.fact 78 rfl)
theorem n_int (T : Tx K mg) : mg "int" = none := let ⟨_, X, G, c⟩ := T; He.free_ok X G (c.a.fact 79 rfl)
theorem n_bool (T : Tx K mg) : mg "bool" = none := let ⟨_, X, G, c⟩ := T; He.free_ok X G (c.a.fact 80 rfl)
theorem n_str (T : Tx K mg) : mg "str" = none := let ⟨_, X, G, c⟩ := T; He.free_ok X G (c.a.fact 81 rfl)
theorem n_len (T : Tx K mg) : mg "len" = none := let ⟨_, X, G, c⟩ := T; He.free_ok X G (c.a.fact 82 rfl)
theorem n_all (T : Tx K mg) : mg "all" = none := let ⟨_, X, G, c⟩ := T; He.free_ok X G (c.a.fact 83 rfl)
theorem n_abs (T : Tx K mg) : mg "abs" = none := let ⟨_, X, G, c⟩ := T; He.free_ok X G (c.a.fact 84 rfl)
theorem n_divmod (T : Tx K mg) : mg "divmod" = none := let ⟨_, X, G, c⟩ := T; He.free_ok X G (c.a.fact 85 rfl)
theorem n_tuple (T : Tx K mg) : mg "tuple" = none := let ⟨_, X, G, c⟩ := T; He.free_ok X G (c.a.fact 86 rfl)
theorem n_list (T : Tx K mg) : mg "list" = none := let ⟨_, X, G, c⟩ := T; He.free_ok X G (c.a.fact 87 rfl)
theorem n_range (T : Tx K mg) : mg "range" = none := let ⟨_, X, G, c⟩ := T; He.free_ok X G (c.a.fact 88 rfl)
theorem n_zip (T : Tx K mg) : mg "zip" = none := let ⟨_, X, G, c⟩ := T; He.free_ok X G (c.a.fact 89 rfl)
theorem n_enumerate (T : Tx K mg) : mg "enumerate" = none := let ⟨_, X, G, c⟩ := T; He.free_ok X G (c.a.fact 90 rfl)
theorem n_sum (T : Tx K mg) : mg "sum" = none := let ⟨_, X, G, c⟩ := T; He.free_ok X G (c.a.fact 91 rfl)
theorem n_max (T : Tx K mg) : mg "max" = none := let ⟨_, X, G, c⟩ := T; He.free_ok X G (c.a.fact 92 rfl)
theorem n_min (T : Tx K mg) : mg "min" = none := let ⟨_, X, G, c⟩ := T; He.free_ok X G (c.a.fact 93 rfl)
theorem c_Book (T : Tx K mg) : Cls K (He.ga K "Book") := let ⟨_, _, _, c⟩ := T; He.cls_ok (c.a.fact 94 rfl)
theorem mk_Book (T : Tx K mg) : Mk K (He.ga K "Book") (He.ma K (He.ga K "Book") "__init__") := let ⟨_, _, _, c⟩ := T; He.mkr_ok (c.a.fact 95 rfl)
theorem no_Book_sorts (T : Tx K mg) : NoAttr K (He.ga K "Book") "sorts" := let ⟨_, _, _, c⟩ := T; He.noat_ok (c.a.fact 96 rfl)
theorem no_Book_heaps (T : Tx K mg) : NoAttr K (He.ga K "Book") "heaps" := let ⟨_, _, _, c⟩ := T; He.noat_ok (c.a.fact 97 rfl)
theorem no_Book_last (T : Tx K mg) : NoAttr K (He.ga K "Book") "last" := let ⟨_, _, _, c⟩ := T; He.noat_ok (c.a.fact 98 rfl)
theorem no_Book_words (T : Tx K mg) : NoAttr K (He.ga K "Book") "words" := let ⟨_, _, _, c⟩ := T; He.noat_ok (c.a.fact 99 rfl)
theorem c_States (T : Tx K mg) : Cls K (He.ga K "States") := let ⟨_, _, _, c⟩ := T; He.cls_ok (c.a.fact 100 rfl)
theorem mk_States (T : Tx K mg) : Mk K (He.ga K "States") (He.ma K (He.ga K "States") "__init__") := let ⟨_, _, _, c⟩ := T; He.mkr_ok (c.a.fact 101 rfl)
theorem no_States_sides (T : Tx K mg) : NoAttr K (He.ga K "States") "sides" := let ⟨_, _, _, c⟩ := T; He.noat_ok (c.a.fact 102 rfl)
theorem no_States_spans (T : Tx K mg) : NoAttr K (He.ga K "States") "spans" := let ⟨_, _, _, c⟩ := T; He.noat_ok (c.a.fact 103 rfl)
theorem no_States_bottom (T : Tx K mg) : NoAttr K (He.ga K "States") "bottom" := let ⟨_, _, _, c⟩ := T; He.noat_ok (c.a.fact 104 rfl)
theorem c_Row (T : Tx K mg) : Cls K (He.ga K "Row") := let ⟨_, _, _, c⟩ := T; He.cls_ok (c.a.fact 105 rfl)
theorem mk_Row (T : Tx K mg) : Mk K (He.ga K "Row") (He.ma K (He.ga K "Row") "__init__") := let ⟨_, _, _, c⟩ := T; He.mkr_ok (c.a.fact 106 rfl)
theorem no_Row_head (T : Tx K mg) : NoAttr K (He.ga K "Row") "head" := let ⟨_, _, _, c⟩ := T; He.noat_ok (c.a.fact 107 rfl)
theorem no_Row_cycle (T : Tx K mg) : NoAttr K (He.ga K "Row") "cycle" := let ⟨_, _, _, c⟩ := T; He.noat_ok (c.a.fact 108 rfl)
theorem no_Row_step (T : Tx K mg) : NoAttr K (He.ga K "Row") "step" := let ⟨_, _, _, c⟩ := T; He.noat_ok (c.a.fact 109 rfl)
theorem m_Book_kind_at (T : Tx K mg) : Meth K (He.ga K "Book") "kind_at" (He.ma K (He.ga K "Book") "kind_at") := let ⟨_, _, _, c⟩ := T; He.meth_ok (c.a.fact 110 rfl)
theorem m_Book_rate (T : Tx K mg) : Meth K (He.ga K "Book") "rate" (He.ma K (He.ga K "Book") "rate") := let ⟨_, _, _, c⟩ := T; He.meth_ok (c.a.fact 111 rfl)
theorem m_Book_share (T : Tx K mg) : Meth K (He.ga K "Book") "share" (He.ma K (He.ga K "Book") "share") := let ⟨_, _, _, c⟩ := T; He.meth_ok (c.a.fact 112 rfl)
theorem m_Book_period (T : Tx K mg) : Meth K (He.ga K "Book") "period" (He.ma K (He.ga K "Book") "period") := let ⟨_, _, _, c⟩ := T; He.meth_ok (c.a.fact 113 rfl)
theorem m_Book_periods (T : Tx K mg) : Meth K (He.ga K "Book") "periods" (He.ma K (He.ga K "Book") "periods") := let ⟨_, _, _, c⟩ := T; He.meth_ok (c.a.fact 114 rfl)
theorem m_Book_size (T : Tx K mg) : Meth K (He.ga K "Book") "size" (He.ma K (He.ga K "Book") "size") := let ⟨_, _, _, c⟩ := T; He.meth_ok (c.a.fact 115 rfl)
theorem m_Book_value (T : Tx K mg) : Meth K (He.ga K "Book") "value" (He.ma K (He.ga K "Book") "value") := let ⟨_, _, _, c⟩ := T; He.meth_ok (c.a.fact 116 rfl)
theorem m_Book_sums (T : Tx K mg) : Meth K (He.ga K "Book") "sums" (He.ma K (He.ga K "Book") "sums") := let ⟨_, _, _, c⟩ := T; He.meth_ok (c.a.fact 117 rfl)
theorem m_Book_ask_of_sums (T : Tx K mg) : Meth K (He.ga K "Book") "ask_of_sums" (He.ma K (He.ga K "Book") "ask_of_sums") := let ⟨_, _, _, c⟩ := T; He.meth_ok (c.a.fact 118 rfl)
theorem m_States_empty (T : Tx K mg) : Meth K (He.ga K "States") "empty" (He.ma K (He.ga K "States") "empty") := let ⟨_, _, _, c⟩ := T; He.meth_ok (c.a.fact 119 rfl)
theorem m_States_move (T : Tx K mg) : Meth K (He.ga K "States") "move" (He.ma K (He.ga K "States") "move") := let ⟨_, _, _, c⟩ := T; He.meth_ok (c.a.fact 120 rfl)
theorem m_States_weight (T : Tx K mg) : Meth K (He.ga K "States") "weight" (He.ma K (He.ga K "States") "weight") := let ⟨_, _, _, c⟩ := T; He.meth_ok (c.a.fact 121 rfl)
theorem m_States_reduced (T : Tx K mg) : Meth K (He.ga K "States") "reduced" (He.ma K (He.ga K "States") "reduced") := let ⟨_, _, _, c⟩ := T; He.meth_ok (c.a.fact 122 rfl)
theorem m_States_added (T : Tx K mg) : Meth K (He.ga K "States") "added" (He.ma K (He.ga K "States") "added") := let ⟨_, _, _, c⟩ := T; He.meth_ok (c.a.fact 123 rfl)
theorem m_States_gap (T : Tx K mg) : Meth K (He.ga K "States") "gap" (He.ma K (He.ga K "States") "gap") := let ⟨_, _, _, c⟩ := T; He.meth_ok (c.a.fact 124 rfl)
theorem m_States_base (T : Tx K mg) : Meth K (He.ga K "States") "base" (He.ma K (He.ga K "States") "base") := let ⟨_, _, _, c⟩ := T; He.meth_ok (c.a.fact 125 rfl)
theorem m_States_share_of_group (T : Tx K mg) : Meth K (He.ga K "States") "share_of_group" (He.ma K (He.ga K "States") "share_of_group") := let ⟨_, _, _, c⟩ := T; He.meth_ok (c.a.fact 126 rfl)
theorem m_States_lines (T : Tx K mg) : Meth K (He.ga K "States") "lines" (He.ma K (He.ga K "States") "lines") := let ⟨_, _, _, c⟩ := T; He.meth_ok (c.a.fact 127 rfl)
theorem m_States_best_lines (T : Tx K mg) : Meth K (He.ga K "States") "best_lines" (He.ma K (He.ga K "States") "best_lines") := let ⟨_, _, _, c⟩ := T; He.meth_ok (c.a.fact 128 rfl)
theorem m_States_order (T : Tx K mg) : Meth K (He.ga K "States") "order" (He.ma K (He.ga K "States") "order") := let ⟨_, _, _, c⟩ := T; He.meth_ok (c.a.fact 129 rfl)
theorem m_Row_at (T : Tx K mg) : Meth K (He.ga K "Row") "at" (He.ma K (He.ga K "Row") "at") := let ⟨_, _, _, c⟩ := T; He.meth_ok (c.a.fact 130 rfl)
theorem propAll (T : Tx K mg) {C f : Str} (h : (C, f) ∈ props) : PropOf K (He.ga K C) f (He.ma K (He.ga K C) f) (He5.wf K (He.ga K C) "property" f) := let ⟨_, _, _, c⟩ := T; propB_ok (List.all_eq_true.mp (He.ba c.x).1 _ h)
theorem p_Book_kinds (T : Tx K mg) : PropOf K (He.ga K "Book") "kinds" (He.ma K (He.ga K "Book") "kinds") (He5.wf K (He.ga K "Book") "property" "kinds") := propAll T (List.mem_of_getElem? (i := 0) rfl)
theorem p_Book_groups (T : Tx K mg) : PropOf K (He.ga K "Book") "groups" (He.ma K (He.ga K "Book") "groups") (He5.wf K (He.ga K "Book") "property" "groups") := propAll T (List.mem_of_getElem? (i := 1) rfl)
theorem p_Book_names (T : Tx K mg) : PropOf K (He.ga K "Book") "names" (He.ma K (He.ga K "Book") "names") (He5.wf K (He.ga K "Book") "property" "names") := propAll T (List.mem_of_getElem? (i := 2) rfl)
theorem p_Row_early (T : Tx K mg) : PropOf K (He.ga K "Row") "early" (He.ma K (He.ga K "Row") "early") (He5.wf K (He.ga K "Row") "property" "early") := propAll T (List.mem_of_getElem? (i := 3) rfl)
theorem p_Row_again (T : Tx K mg) : PropOf K (He.ga K "Row") "again" (He.ma K (He.ga K "Row") "again") (He5.wf K (He.ga K "Row") "property" "again") := propAll T (List.mem_of_getElem? (i := 4) rfl)
theorem p_Row_rise (T : Tx K mg) : PropOf K (He.ga K "Row") "rise" (He.ma K (He.ga K "Row") "rise") (He5.wf K (He.ga K "Row") "property" "rise") := propAll T (List.mem_of_getElem? (i := 5) rfl)
theorem ins_Book (T : Tx K mg) : C8.InsC K (He.ga K "Book") := insB_ok (c_Book T) (let ⟨_, _, _, c⟩ := T; (He.ba (He.ba c.x).2).1)
theorem ways_at (T : Tx K mg) (H : Hp) : SqT K H (He.ga K "WAYS") (ways.map (He.Dv.v K)) := He.tupB_ok (let ⟨_, _, _, c⟩ := T; (He.ba (He.ba c.x).2).2) H
theorem f_is_integer (T : Tx K mg) : ∃ fd, Fun K "is_integer" "is_integer" s_is_integer (He.ga K "is_integer") fd := let ⟨_, _, _, c⟩ := T; let ⟨fd, F⟩ := c.a.def_ 0 (d := d_is_integer) rfl; ⟨fd, He5.fun_of F⟩
theorem f_is_between (T : Tx K mg) : ∃ fd, Fun K "is_between" "is_between" s_is_between (He.ga K "is_between") fd := let ⟨_, _, _, c⟩ := T; let ⟨fd, F⟩ := c.a.def_ 1 (d := d_is_between) rfl; ⟨fd, He5.fun_of F⟩
theorem f_check_number (T : Tx K mg) : ∃ fd, Fun K "check_number" "check_number" s_check_number (He.ga K "check_number") fd := let ⟨_, _, _, c⟩ := T; let ⟨fd, F⟩ := c.a.def_ 2 (d := d_check_number) rfl; ⟨fd, He5.fun_of F⟩
theorem f_is_name (T : Tx K mg) : ∃ fd, Fun K "is_name" "is_name" s_is_name (He.ga K "is_name") fd := let ⟨_, _, _, c⟩ := T; let ⟨fd, F⟩ := c.a.def_ 3 (d := d_is_name) rfl; ⟨fd, He5.fun_of F⟩
theorem f_common_divisor (T : Tx K mg) : ∃ fd, Fun K "common_divisor" "common_divisor" s_common_divisor (He.ga K "common_divisor") fd := let ⟨_, _, _, c⟩ := T; let ⟨fd, F⟩ := c.a.def_ 4 (d := d_common_divisor) rfl; ⟨fd, He5.fun_of F⟩
theorem f_common_multiple (T : Tx K mg) : ∃ fd, Fun K "common_multiple" "common_multiple" s_common_multiple (He.ga K "common_multiple") fd := let ⟨_, _, _, c⟩ := T; let ⟨fd, F⟩ := c.a.def_ 5 (d := d_common_multiple) rfl; ⟨fd, He5.fun_of F⟩
theorem f_fraction (T : Tx K mg) : ∃ fd, Fun K "fraction" "fraction" s_fraction (He.ga K "fraction") fd := let ⟨_, _, _, c⟩ := T; let ⟨fd, F⟩ := c.a.def_ 6 (d := d_fraction) rfl; ⟨fd, He5.fun_of F⟩
theorem f_times (T : Tx K mg) : ∃ fd, Fun K "times" "times" s_times (He.ga K "times") fd := let ⟨_, _, _, c⟩ := T; let ⟨fd, F⟩ := c.a.def_ 7 (d := d_times) rfl; ⟨fd, He5.fun_of F⟩
theorem f_less (T : Tx K mg) : ∃ fd, Fun K "less" "less" s_less (He.ga K "less") fd := let ⟨_, _, _, c⟩ := T; let ⟨fd, F⟩ := c.a.def_ 8 (d := d_less) rfl; ⟨fd, He5.fun_of F⟩
theorem f_is_step (T : Tx K mg) : ∃ fd, Fun K "is_step" "is_step" s_is_step (He.ga K "is_step") fd := let ⟨_, _, _, c⟩ := T; let ⟨fd, F⟩ := c.a.def_ 9 (d := d_is_step) rfl; ⟨fd, He5.fun_of F⟩
theorem f_wrong_step (T : Tx K mg) : ∃ fd, Fun K "wrong_step" "wrong_step" s_wrong_step (He.ga K "wrong_step") fd := let ⟨_, _, _, c⟩ := T; let ⟨fd, F⟩ := c.a.def_ 10 (d := d_wrong_step) rfl; ⟨fd, He5.fun_of F⟩
theorem f_is_row_of_steps (T : Tx K mg) : ∃ fd, Fun K "is_row_of_steps" "is_row_of_steps" s_is_row_of_steps (He.ga K "is_row_of_steps") fd := let ⟨_, _, _, c⟩ := T; let ⟨fd, F⟩ := c.a.def_ 11 (d := d_is_row_of_steps) rfl; ⟨fd, He5.fun_of F⟩
theorem f_rounded (T : Tx K mg) : ∃ fd, Fun K "rounded" "rounded" s_rounded (He.ga K "rounded") fd := let ⟨_, _, _, c⟩ := T; let ⟨fd, F⟩ := c.a.def_ 12 (d := d_rounded) rfl; ⟨fd, He5.fun_of F⟩
theorem f_led (T : Tx K mg) : ∃ fd, Fun K "led" "led" s_led (He.ga K "led") fd := let ⟨_, _, _, c⟩ := T; let ⟨fd, F⟩ := c.a.def_ 13 (d := d_led) rfl; ⟨fd, He5.fun_of F⟩
theorem f_rate_of (T : Tx K mg) : ∃ fd, Fun K "rate_of" "rate_of" s_rate_of (He.ga K "rate_of") fd := let ⟨_, _, _, c⟩ := T; let ⟨fd, F⟩ := c.a.def_ 14 (d := d_rate_of) rfl; ⟨fd, He5.fun_of F⟩
theorem f_period_of (T : Tx K mg) : ∃ fd, Fun K "period_of" "period_of" s_period_of (He.ga K "period_of") fd := let ⟨_, _, _, c⟩ := T; let ⟨fd, F⟩ := c.a.def_ 15 (d := d_period_of) rfl; ⟨fd, He5.fun_of F⟩
theorem f_text_of_step (T : Tx K mg) : ∃ fd, Fun K "text_of_step" "text_of_step" s_text_of_step (He.ga K "text_of_step") fd := let ⟨_, _, _, c⟩ := T; let ⟨fd, F⟩ := c.a.def_ 16 (d := d_text_of_step) rfl; ⟨fd, He5.fun_of F⟩
theorem f_text_of_steps (T : Tx K mg) : ∃ fd, Fun K "text_of_steps" "text_of_steps" s_text_of_steps (He.ga K "text_of_steps") fd := let ⟨_, _, _, c⟩ := T; let ⟨fd, F⟩ := c.a.def_ 17 (d := d_text_of_steps) rfl; ⟨fd, He5.fun_of F⟩
theorem f_is_kind (T : Tx K mg) : ∃ fd, Fun K "is_kind" "is_kind" s_is_kind (He.ga K "is_kind") fd := let ⟨_, _, _, c⟩ := T; let ⟨fd, F⟩ := c.a.def_ 18 (d := d_is_kind) rfl; ⟨fd, He5.fun_of F⟩
theorem f_check_kinds (T : Tx K mg) : ∃ fd, Fun K "check_kinds" "check_kinds" s_check_kinds (He.ga K "check_kinds") fd := let ⟨_, _, _, c⟩ := T; let ⟨fd, F⟩ := c.a.def_ 19 (d := d_check_kinds) rfl; ⟨fd, He5.fun_of F⟩
theorem f_check_groups (T : Tx K mg) : ∃ fd, Fun K "check_groups" "check_groups" s_check_groups (He.ga K "check_groups") fd := let ⟨_, _, _, c⟩ := T; let ⟨fd, F⟩ := c.a.def_ 20 (d := d_check_groups) rfl; ⟨fd, He5.fun_of F⟩
theorem f_check_places (T : Tx K mg) : ∃ fd, Fun K "check_places" "check_places" s_check_places (He.ga K "check_places") fd := let ⟨_, _, _, c⟩ := T; let ⟨fd, F⟩ := c.a.def_ 21 (d := d_check_places) rfl; ⟨fd, He5.fun_of F⟩
theorem f_check_whole (T : Tx K mg) : ∃ fd, Fun K "check_whole" "check_whole" s_check_whole (He.ga K "check_whole") fd := let ⟨_, _, _, c⟩ := T; let ⟨fd, F⟩ := c.a.def_ 22 (d := d_check_whole) rfl; ⟨fd, He5.fun_of F⟩
theorem f_text_of (T : Tx K mg) : ∃ fd, Fun K "text_of" "text_of" s_text_of (He.ga K "text_of") fd := let ⟨_, _, _, c⟩ := T; let ⟨fd, F⟩ := c.a.def_ 23 (d := d_text_of) rfl; ⟨fd, He5.fun_of F⟩
theorem f_is_line (T : Tx K mg) : ∃ fd, Fun K "is_line" "is_line" s_is_line (He.ga K "is_line") fd := let ⟨_, _, _, c⟩ := T; let ⟨fd, F⟩ := c.a.def_ 24 (d := d_is_line) rfl; ⟨fd, He5.fun_of F⟩
theorem f_check_bill (T : Tx K mg) : ∃ fd, Fun K "check_bill" "check_bill" s_check_bill (He.ga K "check_bill") fd := let ⟨_, _, _, c⟩ := T; let ⟨fd, F⟩ := c.a.def_ 25 (d := d_check_bill) rfl; ⟨fd, He5.fun_of F⟩
theorem f_Book_init (T : Tx K mg) : ∃ fd, Fun K "__init__" "Book.__init__" s_Book_init (He.ma K (He.ga K "Book") "__init__") fd := let ⟨_, _, _, c⟩ := T; let ⟨fd, F⟩ := c.a.def_ 26 (d := d_Book_init) rfl; ⟨fd, He5.fun_of F⟩
theorem f_Book_kinds (T : Tx K mg) : ∃ fd, Fun K "kinds" "Book.kinds" s_Book_kinds (He5.wf K (He.ga K "Book") "property" "kinds") fd := let ⟨_, _, _, c⟩ := T; let ⟨fd, F⟩ := c.a.def_ 27 (d := d_Book_kinds) rfl; ⟨fd, He5.fun_of F⟩
theorem f_Book_groups (T : Tx K mg) : ∃ fd, Fun K "groups" "Book.groups" s_Book_groups (He5.wf K (He.ga K "Book") "property" "groups") fd := let ⟨_, _, _, c⟩ := T; let ⟨fd, F⟩ := c.a.def_ 28 (d := d_Book_groups) rfl; ⟨fd, He5.fun_of F⟩
theorem f_Book_names (T : Tx K mg) : ∃ fd, Fun K "names" "Book.names" s_Book_names (He5.wf K (He.ga K "Book") "property" "names") fd := let ⟨_, _, _, c⟩ := T; let ⟨fd, F⟩ := c.a.def_ 29 (d := d_Book_names) rfl; ⟨fd, He5.fun_of F⟩
theorem f_Book_kind_at (T : Tx K mg) : ∃ fd, Fun K "kind_at" "Book.kind_at" s_Book_kind_at (He.ma K (He.ga K "Book") "kind_at") fd := let ⟨_, _, _, c⟩ := T; let ⟨fd, F⟩ := c.a.def_ 30 (d := d_Book_kind_at) rfl; ⟨fd, He5.fun_of F⟩
theorem f_Book_rate (T : Tx K mg) : ∃ fd, Fun K "rate" "Book.rate" s_Book_rate (He.ma K (He.ga K "Book") "rate") fd := let ⟨_, _, _, c⟩ := T; let ⟨fd, F⟩ := c.a.def_ 31 (d := d_Book_rate) rfl; ⟨fd, He5.fun_of F⟩
theorem f_Book_share (T : Tx K mg) : ∃ fd, Fun K "share" "Book.share" s_Book_share (He.ma K (He.ga K "Book") "share") fd := let ⟨_, _, _, c⟩ := T; let ⟨fd, F⟩ := c.a.def_ 32 (d := d_Book_share) rfl; ⟨fd, He5.fun_of F⟩
theorem f_Book_period (T : Tx K mg) : ∃ fd, Fun K "period" "Book.period" s_Book_period (He.ma K (He.ga K "Book") "period") fd := let ⟨_, _, _, c⟩ := T; let ⟨fd, F⟩ := c.a.def_ 33 (d := d_Book_period) rfl; ⟨fd, He5.fun_of F⟩
theorem f_Book_periods (T : Tx K mg) : ∃ fd, Fun K "periods" "Book.periods" s_Book_periods (He.ma K (He.ga K "Book") "periods") fd := let ⟨_, _, _, c⟩ := T; let ⟨fd, F⟩ := c.a.def_ 34 (d := d_Book_periods) rfl; ⟨fd, He5.fun_of F⟩
theorem f_Book_size (T : Tx K mg) : ∃ fd, Fun K "size" "Book.size" s_Book_size (He.ma K (He.ga K "Book") "size") fd := let ⟨_, _, _, c⟩ := T; let ⟨fd, F⟩ := c.a.def_ 35 (d := d_Book_size) rfl; ⟨fd, He5.fun_of F⟩
theorem f_Book_value (T : Tx K mg) : ∃ fd, Fun K "value" "Book.value" s_Book_value (He.ma K (He.ga K "Book") "value") fd := let ⟨_, _, _, c⟩ := T; let ⟨fd, F⟩ := c.a.def_ 36 (d := d_Book_value) rfl; ⟨fd, He5.fun_of F⟩
theorem f_Book_sums (T : Tx K mg) : ∃ fd, Fun K "sums" "Book.sums" s_Book_sums (He.ma K (He.ga K "Book") "sums") fd := let ⟨_, _, _, c⟩ := T; let ⟨fd, F⟩ := c.a.def_ 37 (d := d_Book_sums) rfl; ⟨fd, He5.fun_of F⟩
theorem f_Book_ask_of_sums (T : Tx K mg) : ∃ fd, Fun K "ask_of_sums" "Book.ask_of_sums" s_Book_ask_of_sums (He.ma K (He.ga K "Book") "ask_of_sums") fd := let ⟨_, _, _, c⟩ := T; let ⟨fd, F⟩ := c.a.def_ 38 (d := d_Book_ask_of_sums) rfl; ⟨fd, He5.fun_of F⟩
theorem f_check_book (T : Tx K mg) : ∃ fd, Fun K "check_book" "check_book" s_check_book (He.ga K "check_book") fd := let ⟨_, _, _, c⟩ := T; let ⟨fd, F⟩ := c.a.def_ 39 (d := d_check_book) rfl; ⟨fd, He5.fun_of F⟩
theorem f_check_two (T : Tx K mg) : ∃ fd, Fun K "check_two" "check_two" s_check_two (He.ga K "check_two") fd := let ⟨_, _, _, c⟩ := T; let ⟨fd, F⟩ := c.a.def_ 40 (d := d_check_two) rfl; ⟨fd, He5.fun_of F⟩
theorem f_check_fit (T : Tx K mg) : ∃ fd, Fun K "check_fit" "check_fit" s_check_fit (He.ga K "check_fit") fd := let ⟨_, _, _, c⟩ := T; let ⟨fd, F⟩ := c.a.def_ 41 (d := d_check_fit) rfl; ⟨fd, He5.fun_of F⟩
theorem f_sides_of (T : Tx K mg) : ∃ fd, Fun K "sides_of" "sides_of" s_sides_of (He.ga K "sides_of") fd := let ⟨_, _, _, c⟩ := T; let ⟨fd, F⟩ := c.a.def_ 42 (d := d_sides_of) rfl; ⟨fd, He5.fun_of F⟩
theorem f_first_greater (T : Tx K mg) : ∃ fd, Fun K "first_greater" "first_greater" s_first_greater (He.ga K "first_greater") fd := let ⟨_, _, _, c⟩ := T; let ⟨fd, F⟩ := c.a.def_ 43 (d := d_first_greater) rfl; ⟨fd, He5.fun_of F⟩
theorem f_check_rates (T : Tx K mg) : ∃ fd, Fun K "check_rates" "check_rates" s_check_rates (He.ga K "check_rates") fd := let ⟨_, _, _, c⟩ := T; let ⟨fd, F⟩ := c.a.def_ 44 (d := d_check_rates) rfl; ⟨fd, He5.fun_of F⟩
theorem f_amounts_of (T : Tx K mg) : ∃ fd, Fun K "amounts_of" "amounts_of" s_amounts_of (He.ga K "amounts_of") fd := let ⟨_, _, _, c⟩ := T; let ⟨fd, F⟩ := c.a.def_ 45 (d := d_amounts_of) rfl; ⟨fd, He5.fun_of F⟩
theorem f_check_size (T : Tx K mg) : ∃ fd, Fun K "check_size" "check_size" s_check_size (He.ga K "check_size") fd := let ⟨_, _, _, c⟩ := T; let ⟨fd, F⟩ := c.a.def_ 46 (d := d_check_size) rfl; ⟨fd, He5.fun_of F⟩
theorem f_States_init (T : Tx K mg) : ∃ fd, Fun K "__init__" "States.__init__" s_States_init (He.ma K (He.ga K "States") "__init__") fd := let ⟨_, _, _, c⟩ := T; let ⟨fd, F⟩ := c.a.def_ 47 (d := d_States_init) rfl; ⟨fd, He5.fun_of F⟩
theorem f_States_empty (T : Tx K mg) : ∃ fd, Fun K "empty" "States.empty" s_States_empty (He.ma K (He.ga K "States") "empty") fd := let ⟨_, _, _, c⟩ := T; let ⟨fd, F⟩ := c.a.def_ 48 (d := d_States_empty) rfl; ⟨fd, He5.fun_of F⟩
theorem f_States_move (T : Tx K mg) : ∃ fd, Fun K "move" "States.move" s_States_move (He.ma K (He.ga K "States") "move") fd := let ⟨_, _, _, c⟩ := T; let ⟨fd, F⟩ := c.a.def_ 49 (d := d_States_move) rfl; ⟨fd, He5.fun_of F⟩
theorem f_States_weight (T : Tx K mg) : ∃ fd, Fun K "weight" "States.weight" s_States_weight (He.ma K (He.ga K "States") "weight") fd := let ⟨_, _, _, c⟩ := T; let ⟨fd, F⟩ := c.a.def_ 50 (d := d_States_weight) rfl; ⟨fd, He5.fun_of F⟩
theorem f_States_reduced (T : Tx K mg) : ∃ fd, Fun K "reduced" "States.reduced" s_States_reduced (He.ma K (He.ga K "States") "reduced") fd := let ⟨_, _, _, c⟩ := T; let ⟨fd, F⟩ := c.a.def_ 51 (d := d_States_reduced) rfl; ⟨fd, He5.fun_of F⟩
theorem f_States_added (T : Tx K mg) : ∃ fd, Fun K "added" "States.added" s_States_added (He.ma K (He.ga K "States") "added") fd := let ⟨_, _, _, c⟩ := T; let ⟨fd, F⟩ := c.a.def_ 52 (d := d_States_added) rfl; ⟨fd, He5.fun_of F⟩
theorem f_States_gap (T : Tx K mg) : ∃ fd, Fun K "gap" "States.gap" s_States_gap (He.ma K (He.ga K "States") "gap") fd := let ⟨_, _, _, c⟩ := T; let ⟨fd, F⟩ := c.a.def_ 53 (d := d_States_gap) rfl; ⟨fd, He5.fun_of F⟩
theorem f_States_base (T : Tx K mg) : ∃ fd, Fun K "base" "States.base" s_States_base (He.ma K (He.ga K "States") "base") fd := let ⟨_, _, _, c⟩ := T; let ⟨fd, F⟩ := c.a.def_ 54 (d := d_States_base) rfl; ⟨fd, He5.fun_of F⟩
theorem f_States_share_of_group (T : Tx K mg) : ∃ fd, Fun K "share_of_group" "States.share_of_group" s_States_share_of_group (He.ma K (He.ga K "States") "share_of_group") fd := let ⟨_, _, _, c⟩ := T; let ⟨fd, F⟩ := c.a.def_ 55 (d := d_States_share_of_group) rfl; ⟨fd, He5.fun_of F⟩
theorem f_States_lines (T : Tx K mg) : ∃ fd, Fun K "lines" "States.lines" s_States_lines (He.ma K (He.ga K "States") "lines") fd := let ⟨_, _, _, c⟩ := T; let ⟨fd, F⟩ := c.a.def_ 56 (d := d_States_lines) rfl; ⟨fd, He5.fun_of F⟩
theorem f_States_best_lines (T : Tx K mg) : ∃ fd, Fun K "best_lines" "States.best_lines" s_States_best_lines (He.ma K (He.ga K "States") "best_lines") fd := let ⟨_, _, _, c⟩ := T; let ⟨fd, F⟩ := c.a.def_ 57 (d := d_States_best_lines) rfl; ⟨fd, He5.fun_of F⟩
theorem f_States_order (T : Tx K mg) : ∃ fd, Fun K "order" "States.order" s_States_order (He.ma K (He.ga K "States") "order") fd := let ⟨_, _, _, c⟩ := T; let ⟨fd, F⟩ := c.a.def_ 58 (d := d_States_order) rfl; ⟨fd, He5.fun_of F⟩
theorem f_one_more (T : Tx K mg) : ∃ fd, Fun K "one_more" "one_more" s_one_more (He.ga K "one_more") fd := let ⟨_, _, _, c⟩ := T; let ⟨fd, F⟩ := c.a.def_ 59 (d := d_one_more) rfl; ⟨fd, He5.fun_of F⟩
theorem f_greatest_gap (T : Tx K mg) : ∃ fd, Fun K "greatest_gap" "greatest_gap" s_greatest_gap (He.ga K "greatest_gap") fd := let ⟨_, _, _, c⟩ := T; let ⟨fd, F⟩ := c.a.def_ 60 (d := d_greatest_gap) rfl; ⟨fd, He5.fun_of F⟩
theorem f_reached (T : Tx K mg) : ∃ fd, Fun K "reached" "reached" s_reached (He.ga K "reached") fd := let ⟨_, _, _, c⟩ := T; let ⟨fd, F⟩ := c.a.def_ 61 (d := d_reached) rfl; ⟨fd, He5.fun_of F⟩
theorem f_states_of (T : Tx K mg) : ∃ fd, Fun K "states_of" "states_of" s_states_of (He.ga K "states_of") fd := let ⟨_, _, _, c⟩ := T; let ⟨fd, F⟩ := c.a.def_ 62 (d := d_states_of) rfl; ⟨fd, He5.fun_of F⟩
theorem f_gain_of (T : Tx K mg) : ∃ fd, Fun K "gain_of" "gain_of" s_gain_of (He.ga K "gain_of") fd := let ⟨_, _, _, c⟩ := T; let ⟨fd, F⟩ := c.a.def_ 63 (d := d_gain_of) rfl; ⟨fd, He5.fun_of F⟩
theorem f_split_range (T : Tx K mg) : ∃ fd, Fun K "split_range" "split_range" s_split_range (He.ga K "split_range") fd := let ⟨_, _, _, c⟩ := T; let ⟨fd, F⟩ := c.a.def_ 64 (d := d_split_range) rfl; ⟨fd, He5.fun_of F⟩
theorem f_merges (T : Tx K mg) : ∃ fd, Fun K "merges" "merges" s_merges (He.ga K "merges") fd := let ⟨_, _, _, c⟩ := T; let ⟨fd, F⟩ := c.a.def_ 65 (d := d_merges) rfl; ⟨fd, He5.fun_of F⟩
theorem f_merge_range (T : Tx K mg) : ∃ fd, Fun K "merge_range" "merge_range" s_merge_range (He.ga K "merge_range") fd := let ⟨_, _, _, c⟩ := T; let ⟨fd, F⟩ := c.a.def_ 66 (d := d_merge_range) rfl; ⟨fd, He5.fun_of F⟩
theorem f_check_integers (T : Tx K mg) : ∃ fd, Fun K "check_integers" "check_integers" s_check_integers (He.ga K "check_integers") fd := let ⟨_, _, _, c⟩ := T; let ⟨fd, F⟩ := c.a.def_ 67 (d := d_check_integers) rfl; ⟨fd, He5.fun_of F⟩
theorem f_goes_on (T : Tx K mg) : ∃ fd, Fun K "goes_on" "goes_on" s_goes_on (He.ga K "goes_on") fd := let ⟨_, _, _, c⟩ := T; let ⟨fd, F⟩ := c.a.def_ 68 (d := d_goes_on) rfl; ⟨fd, He5.fun_of F⟩
theorem f_Row_init (T : Tx K mg) : ∃ fd, Fun K "__init__" "Row.__init__" s_Row_init (He.ma K (He.ga K "Row") "__init__") fd := let ⟨_, _, _, c⟩ := T; let ⟨fd, F⟩ := c.a.def_ 69 (d := d_Row_init) rfl; ⟨fd, He5.fun_of F⟩
theorem f_Row_early (T : Tx K mg) : ∃ fd, Fun K "early" "Row.early" s_Row_early (He5.wf K (He.ga K "Row") "property" "early") fd := let ⟨_, _, _, c⟩ := T; let ⟨fd, F⟩ := c.a.def_ 70 (d := d_Row_early) rfl; ⟨fd, He5.fun_of F⟩
theorem f_Row_again (T : Tx K mg) : ∃ fd, Fun K "again" "Row.again" s_Row_again (He5.wf K (He.ga K "Row") "property" "again") fd := let ⟨_, _, _, c⟩ := T; let ⟨fd, F⟩ := c.a.def_ 71 (d := d_Row_again) rfl; ⟨fd, He5.fun_of F⟩
theorem f_Row_rise (T : Tx K mg) : ∃ fd, Fun K "rise" "Row.rise" s_Row_rise (He5.wf K (He.ga K "Row") "property" "rise") fd := let ⟨_, _, _, c⟩ := T; let ⟨fd, F⟩ := c.a.def_ 72 (d := d_Row_rise) rfl; ⟨fd, He5.fun_of F⟩
theorem f_Row_at (T : Tx K mg) : ∃ fd, Fun K "at" "Row.at" s_Row_at (He.ma K (He.ga K "Row") "at") fd := let ⟨_, _, _, c⟩ := T; let ⟨fd, F⟩ := c.a.def_ 73 (d := d_Row_at) rfl; ⟨fd, He5.fun_of F⟩
theorem f_check_greatest (T : Tx K mg) : ∃ fd, Fun K "check_greatest" "check_greatest" s_check_greatest (He.ga K "check_greatest") fd := let ⟨_, _, _, c⟩ := T; let ⟨fd, F⟩ := c.a.def_ 74 (d := d_check_greatest) rfl; ⟨fd, He5.fun_of F⟩
theorem f_row_of (T : Tx K mg) : ∃ fd, Fun K "row_of" "row_of" s_row_of (He.ga K "row_of") fd := let ⟨_, _, _, c⟩ := T; let ⟨fd, F⟩ := c.a.def_ 75 (d := d_row_of) rfl; ⟨fd, He5.fun_of F⟩
theorem f_is_led_on (T : Tx K mg) : ∃ fd, Fun K "is_led_on" "is_led_on" s_is_led_on (He.ga K "is_led_on") fd := let ⟨_, _, _, c⟩ := T; let ⟨fd, F⟩ := c.a.def_ 76 (d := d_is_led_on) rfl; ⟨fd, He5.fun_of F⟩
theorem f_greatest (T : Tx K mg) : ∃ fd, Fun K "greatest" "greatest" s_greatest (He.ga K "greatest") fd := let ⟨_, _, _, c⟩ := T; let ⟨fd, F⟩ := c.a.def_ 77 (d := d_greatest) rfl; ⟨fd, He5.fun_of F⟩
theorem f_turned (T : Tx K mg) : ∃ fd, Fun K "turned" "turned" s_turned (He.ga K "turned") fd := let ⟨_, _, _, c⟩ := T; let ⟨fd, F⟩ := c.a.def_ 78 (d := d_turned) rfl; ⟨fd, He5.fun_of F⟩
theorem f_least (T : Tx K mg) : ∃ fd, Fun K "least" "least" s_least (He.ga K "least") fd := let ⟨_, _, _, c⟩ := T; let ⟨fd, F⟩ := c.a.def_ 79 (d := d_least) rfl; ⟨fd, He5.fun_of F⟩
theorem f__law_cell (T : Tx K mg) : ∃ fd, Fun K "_law_cell" "_law_cell" s__law_cell (He.ga K "_law_cell") fd := let ⟨_, _, _, c⟩ := T; let ⟨fd, F⟩ := c.a.def_ 80 (d := d__law_cell) rfl; ⟨fd, He5.fun_of F⟩
theorem f__law_jar (T : Tx K mg) : ∃ fd, Fun K "_law_jar" "_law_jar" s__law_jar (He.ga K "_law_jar") fd := let ⟨_, _, _, c⟩ := T; let ⟨fd, F⟩ := c.a.def_ 81 (d := d__law_jar) rfl; ⟨fd, He5.fun_of F⟩
theorem f__law_dig (T : Tx K mg) : ∃ fd, Fun K "_law_dig" "_law_dig" s__law_dig (He.ga K "_law_dig") fd := let ⟨_, _, _, c⟩ := T; let ⟨fd, F⟩ := c.a.def_ 82 (d := d__law_dig) rfl; ⟨fd, He5.fun_of F⟩
theorem f__law_take (T : Tx K mg) : ∃ fd, Fun K "_law_take" "_law_take" s__law_take (He.ga K "_law_take") fd := let ⟨_, _, _, c⟩ := T; let ⟨fd, F⟩ := c.a.def_ 83 (d := d__law_take) rfl; ⟨fd, He5.fun_of F⟩
theorem f__law_common (T : Tx K mg) : ∃ fd, Fun K "_law_common" "_law_common" s__law_common (He.ga K "_law_common") fd := let ⟨_, _, _, c⟩ := T; let ⟨fd, F⟩ := c.a.def_ 84 (d := d__law_common) rfl; ⟨fd, He5.fun_of F⟩
theorem f__law_span (T : Tx K mg) : ∃ fd, Fun K "_law_span" "_law_span" s__law_span (He.ga K "_law_span") fd := let ⟨_, _, _, c⟩ := T; let ⟨fd, F⟩ := c.a.def_ 85 (d := d__law_span) rfl; ⟨fd, He5.fun_of F⟩
theorem f__law_way (T : Tx K mg) : ∃ fd, Fun K "_law_way" "_law_way" s__law_way (He.ga K "_law_way") fd := let ⟨_, _, _, c⟩ := T; let ⟨fd, F⟩ := c.a.def_ 86 (d := d__law_way) rfl; ⟨fd, He5.fun_of F⟩
theorem f__law_right (T : Tx K mg) : ∃ fd, Fun K "_law_right" "_law_right" s__law_right (He.ga K "_law_right") fd := let ⟨_, _, _, c⟩ := T; let ⟨fd, F⟩ := c.a.def_ 87 (d := d__law_right) rfl; ⟨fd, He5.fun_of F⟩
theorem f_law (T : Tx K mg) : ∃ fd, Fun K "law" "law" s_law (He.ga K "law") fd := let ⟨_, _, _, c⟩ := T; let ⟨fd, F⟩ := c.a.def_ 88 (d := d_law) rfl; ⟨fd, He5.fun_of F⟩
end
abbrev N_is_integer : List Str := ["value"]
theorem sc_is_integer : FnScope N_is_integer ["value"] (defScope s_is_integer) := ⟨rfl, rfl, rfl, by decide +kernel, rfl, by decide +kernel, by decide +kernel⟩
abbrev N_is_between : List Str := ["value", "low", "high"]
theorem sc_is_between : FnScope N_is_between ["value", "low", "high"] (defScope s_is_between) := ⟨rfl, rfl, rfl, by decide +kernel, rfl, by decide +kernel, by decide +kernel⟩
abbrev N_check_number : List Str := ["value", "low", "high"]
theorem sc_check_number : FnScope N_check_number ["value", "low", "high"] (defScope s_check_number) := ⟨rfl, rfl, rfl, by decide +kernel, rfl, by decide +kernel, by decide +kernel⟩
abbrev N_is_name : List Str := ["value", "sign"]
theorem sc_is_name : FnScope N_is_name ["value"] (defScope s_is_name) := ⟨rfl, rfl, rfl, by decide +kernel, rfl, by decide +kernel, by decide +kernel⟩
abbrev N_common_divisor : List Str := ["one", "other"]
theorem sc_common_divisor : FnScope N_common_divisor ["one", "other"] (defScope s_common_divisor) := ⟨rfl, rfl, rfl, by decide +kernel, rfl, by decide +kernel, by decide +kernel⟩
abbrev N_common_multiple : List Str := ["one", "other"]
theorem sc_common_multiple : FnScope N_common_multiple ["one", "other"] (defScope s_common_multiple) := ⟨rfl, rfl, rfl, by decide +kernel, rfl, by decide +kernel, by decide +kernel⟩
abbrev N_fraction : List Str := ["top", "bottom", "same"]
theorem sc_fraction : FnScope N_fraction ["top", "bottom"] (defScope s_fraction) := ⟨rfl, rfl, rfl, by decide +kernel, rfl, by decide +kernel, by decide +kernel⟩
abbrev N_times : List Str := ["one", "other"]
theorem sc_times : FnScope N_times ["one", "other"] (defScope s_times) := ⟨rfl, rfl, rfl, by decide +kernel, rfl, by decide +kernel, by decide +kernel⟩
abbrev N_less : List Str := ["one", "other"]
theorem sc_less : FnScope N_less ["one", "other"] (defScope s_less) := ⟨rfl, rfl, rfl, by decide +kernel, rfl, by decide +kernel, by decide +kernel⟩
abbrev N_is_step : List Str := ["value"]
theorem sc_is_step : FnScope N_is_step ["value"] (defScope s_is_step) := ⟨rfl, rfl, rfl, by decide +kernel, rfl, by decide +kernel, by decide +kernel⟩
abbrev N_wrong_step : List Str := ["value", "at", "step"]
theorem sc_wrong_step : FnScope N_wrong_step ["value"] (defScope s_wrong_step) := ⟨rfl, rfl, rfl, by decide +kernel, rfl, by decide +kernel, by decide +kernel⟩
abbrev N_is_row_of_steps : List Str := ["value"]
theorem sc_is_row_of_steps : FnScope N_is_row_of_steps ["value"] (defScope s_is_row_of_steps) := ⟨rfl, rfl, rfl, by decide +kernel, rfl, by decide +kernel, by decide +kernel⟩
abbrev N_rounded : List Str := ["top", "bottom", "way", "low", "rest"]
theorem sc_rounded : FnScope N_rounded ["top", "bottom", "way"] (defScope s_rounded) := ⟨rfl, rfl, rfl, by decide +kernel, rfl, by decide +kernel, by decide +kernel⟩
abbrev N_led : List Str := ["steps", "value", "step"]
theorem sc_led : FnScope N_led ["steps", "value"] (defScope s_led) := ⟨rfl, rfl, rfl, by decide +kernel, rfl, by decide +kernel, by decide +kernel⟩
abbrev N_rate_of : List Str := ["steps", "found", "step"]
theorem sc_rate_of : FnScope N_rate_of ["steps"] (defScope s_rate_of) := ⟨rfl, rfl, rfl, by decide +kernel, rfl, by decide +kernel, by decide +kernel⟩
abbrev N_period_of : List Str := ["steps", "period", "rise", "step", "whole", "own", "turns"]
theorem sc_period_of : FnScope N_period_of ["steps"] (defScope s_period_of) := ⟨rfl, rfl, rfl, by decide +kernel, rfl, by decide +kernel, by decide +kernel⟩
abbrev N_text_of_step : List Str := ["step"]
theorem sc_text_of_step : FnScope N_text_of_step ["step"] (defScope s_text_of_step) := ⟨rfl, rfl, rfl, by decide +kernel, rfl, by decide +kernel, by decide +kernel⟩
abbrev N_text_of_steps : List Str := ["steps", "step"]
theorem sc_text_of_steps : FnScope N_text_of_steps ["steps"] (defScope s_text_of_steps) := ⟨rfl, rfl, rfl, by decide +kernel, rfl, by decide +kernel, by decide +kernel⟩
abbrev N_is_kind : List Str := ["value"]
theorem sc_is_kind : FnScope N_is_kind ["value"] (defScope s_is_kind) := ⟨rfl, rfl, rfl, by decide +kernel, rfl, by decide +kernel, by decide +kernel⟩
abbrev N_check_kinds : List Str := ["kinds", "names", "at", "kind"]
theorem sc_check_kinds : FnScope N_check_kinds ["kinds"] (defScope s_check_kinds) := ⟨rfl, rfl, rfl, by decide +kernel, rfl, by decide +kernel, by decide +kernel⟩
abbrev N_check_groups : List Str := ["groups", "at", "steps"]
theorem sc_check_groups : FnScope N_check_groups ["groups"] (defScope s_check_groups) := ⟨rfl, rfl, rfl, by decide +kernel, rfl, by decide +kernel, by decide +kernel⟩
abbrev N_check_places : List Str := ["kinds", "many", "at", "kind"]
theorem sc_check_places : FnScope N_check_places ["kinds", "many"] (defScope s_check_places) := ⟨rfl, rfl, rfl, by decide +kernel, rfl, by decide +kernel, by decide +kernel⟩
abbrev N_check_whole : List Str := ["whole", "wrong"]
theorem sc_check_whole : FnScope N_check_whole ["whole"] (defScope s_check_whole) := ⟨rfl, rfl, rfl, by decide +kernel, rfl, by decide +kernel, by decide +kernel⟩
abbrev N_text_of : List Str := ["kinds", "groups", "whole", "name", "group", "steps", "rows", "at"]
theorem sc_text_of : FnScope N_text_of ["kinds", "groups", "whole"] (defScope s_text_of) := ⟨rfl, rfl, rfl, by decide +kernel, rfl, by decide +kernel, by decide +kernel⟩
abbrev N_is_line : List Str := ["value", "names"]
theorem sc_is_line : FnScope N_is_line ["value", "names"] (defScope s_is_line) := ⟨rfl, rfl, rfl, by decide +kernel, rfl, by decide +kernel, by decide +kernel⟩
abbrev N_check_bill : List Str := ["bill", "names", "at", "line"]
theorem sc_check_bill : FnScope N_check_bill ["bill", "names"] (defScope s_check_bill) := ⟨rfl, rfl, rfl, by decide +kernel, rfl, by decide +kernel, by decide +kernel⟩
abbrev N_Book_init : List Str := ["self", "kinds", "groups", "whole"]
theorem sc_Book_init : FnScope N_Book_init ["self", "kinds", "groups", "whole"] (defScope s_Book_init) := ⟨rfl, rfl, rfl, by decide +kernel, rfl, by decide +kernel, by decide +kernel⟩
abbrev N_Book_kinds : List Str := ["self"]
theorem sc_Book_kinds : FnScope N_Book_kinds ["self"] (defScope s_Book_kinds) := ⟨rfl, rfl, rfl, by decide +kernel, rfl, by decide +kernel, by decide +kernel⟩
abbrev N_Book_groups : List Str := ["self"]
theorem sc_Book_groups : FnScope N_Book_groups ["self"] (defScope s_Book_groups) := ⟨rfl, rfl, rfl, by decide +kernel, rfl, by decide +kernel, by decide +kernel⟩
abbrev N_Book_names : List Str := ["self", "kind"]
theorem sc_Book_names : FnScope N_Book_names ["self"] (defScope s_Book_names) := ⟨rfl, rfl, rfl, by decide +kernel, rfl, by decide +kernel, by decide +kernel⟩
abbrev N_Book_kind_at : List Str := ["self", "name", "kind"]
theorem sc_Book_kind_at : FnScope N_Book_kind_at ["self", "name"] (defScope s_Book_kind_at) := ⟨rfl, rfl, rfl, by decide +kernel, rfl, by decide +kernel, by decide +kernel⟩
abbrev N_Book_rate : List Str := ["self", "name", "found"]
theorem sc_Book_rate : FnScope N_Book_rate ["self", "name"] (defScope s_Book_rate) := ⟨rfl, rfl, rfl, by decide +kernel, rfl, by decide +kernel, by decide +kernel⟩
abbrev N_Book_share : List Str := ["self", "name"]
theorem sc_Book_share : FnScope N_Book_share ["self", "name"] (defScope s_Book_share) := ⟨rfl, rfl, rfl, by decide +kernel, rfl, by decide +kernel, by decide +kernel⟩
abbrev N_Book_period : List Str := ["self", "name", "found"]
theorem sc_Book_period : FnScope N_Book_period ["self", "name"] (defScope s_Book_period) := ⟨rfl, rfl, rfl, by decide +kernel, rfl, by decide +kernel, by decide +kernel⟩
abbrev N_Book_periods : List Str := ["self", "steps"]
theorem sc_Book_periods : FnScope N_Book_periods ["self"] (defScope s_Book_periods) := ⟨rfl, rfl, rfl, by decide +kernel, rfl, by decide +kernel, by decide +kernel⟩
abbrev N_Book_size : List Str := ["self", "found", "period"]
theorem sc_Book_size : FnScope N_Book_size ["self"] (defScope s_Book_size) := ⟨rfl, rfl, rfl, by decide +kernel, rfl, by decide +kernel, by decide +kernel⟩
abbrev N_Book_value : List Str := ["self", "name", "amount", "found"]
theorem sc_Book_value : FnScope N_Book_value ["self", "name", "amount"] (defScope s_Book_value) := ⟨rfl, rfl, rfl, by decide +kernel, rfl, by decide +kernel, by decide +kernel⟩
abbrev N_Book_sums : List Str := ["self", "bill", "found", "name", "amount", "kind"]
theorem sc_Book_sums : FnScope N_Book_sums ["self", "bill"] (defScope s_Book_sums) := ⟨rfl, rfl, rfl, by decide +kernel, rfl, by decide +kernel, by decide +kernel⟩
abbrev N_Book_ask_of_sums : List Str := ["self", "sums", "steps", "found"]
theorem sc_Book_ask_of_sums : FnScope N_Book_ask_of_sums ["self", "sums"] (defScope s_Book_ask_of_sums) := ⟨rfl, rfl, rfl, by decide +kernel, rfl, by decide +kernel, by decide +kernel⟩
abbrev N_check_book : List Str := ["value"]
theorem sc_check_book : FnScope N_check_book ["value"] (defScope s_check_book) := ⟨rfl, rfl, rfl, by decide +kernel, rfl, by decide +kernel, by decide +kernel⟩
abbrev N_check_two : List Str := ["one", "other"]
theorem sc_check_two : FnScope N_check_two ["one", "other"] (defScope s_check_two) := ⟨rfl, rfl, rfl, by decide +kernel, rfl, by decide +kernel, by decide +kernel⟩
abbrev N_check_fit : List Str := ["one", "other"]
theorem sc_check_fit : FnScope N_check_fit ["one", "other"] (defScope s_check_fit) := ⟨rfl, rfl, rfl, by decide +kernel, rfl, by decide +kernel, by decide +kernel⟩
abbrev N_sides_of : List Str := ["one", "other"]
theorem sc_sides_of : FnScope N_sides_of ["one", "other"] (defScope s_sides_of) := ⟨rfl, rfl, rfl, by decide +kernel, rfl, by decide +kernel, by decide +kernel⟩
abbrev N_first_greater : List Str := ["one", "other", "name"]
theorem sc_first_greater : FnScope N_first_greater ["one", "other"] (defScope s_first_greater) := ⟨rfl, rfl, rfl, by decide +kernel, rfl, by decide +kernel, by decide +kernel⟩
abbrev N_check_rates : List Str := ["one", "other", "name"]
theorem sc_check_rates : FnScope N_check_rates ["one", "other"] (defScope s_check_rates) := ⟨rfl, rfl, rfl, by decide +kernel, rfl, by decide +kernel, by decide +kernel⟩
abbrev N_amounts_of : List Str := ["books", "name", "found", "book"]
theorem sc_amounts_of : FnScope N_amounts_of ["books", "name"] (defScope s_amounts_of) := ⟨rfl, rfl, rfl, by decide +kernel, rfl, by decide +kernel, by decide +kernel⟩
abbrev N_check_size : List Str := ["books", "size", "book", "name"]
theorem sc_check_size : FnScope N_check_size ["books"] (defScope s_check_size) := ⟨rfl, rfl, rfl, by decide +kernel, rfl, by decide +kernel, by decide +kernel⟩
abbrev N_States_init : List Str := ["self", "sides", "book", "sign", "name"]
theorem sc_States_init : FnScope N_States_init ["self", "sides"] (defScope s_States_init) := ⟨rfl, rfl, rfl, by decide +kernel, rfl, by decide +kernel, by decide +kernel⟩
abbrev N_States_empty : List Str := ["self"]
theorem sc_States_empty : FnScope N_States_empty ["self"] (defScope s_States_empty) := ⟨rfl, rfl, rfl, by decide +kernel, rfl, by decide +kernel, by decide +kernel⟩
abbrev N_States_move : List Str := ["self", "name", "amount", "found", "book", "sign"]
theorem sc_States_move : FnScope N_States_move ["self", "name", "amount"] (defScope s_States_move) := ⟨rfl, rfl, rfl, by decide +kernel, rfl, by decide +kernel, by decide +kernel⟩
abbrev N_States_weight : List Str := ["self", "name", "amount", "total", "book", "sign", "share"]
theorem sc_States_weight : FnScope N_States_weight ["self", "name", "amount"] (defScope s_States_weight) := ⟨rfl, rfl, rfl, by decide +kernel, rfl, by decide +kernel, by decide +kernel⟩
abbrev N_States_reduced : List Str := ["self", "sums", "number", "span"]
theorem sc_States_reduced : FnScope N_States_reduced ["self", "sums"] (defScope s_States_reduced) := ⟨rfl, rfl, rfl, by decide +kernel, rfl, by decide +kernel, by decide +kernel⟩
abbrev N_States_added : List Str := ["self", "state", "move", "here", "more", "span"]
theorem sc_States_added : FnScope N_States_added ["self", "state", "move"] (defScope s_States_added) := ⟨rfl, rfl, rfl, by decide +kernel, rfl, by decide +kernel, by decide +kernel⟩
abbrev N_States_gap : List Str := ["self", "sums", "total", "at", "book", "sign", "many"]
theorem sc_States_gap : FnScope N_States_gap ["self", "sums"] (defScope s_States_gap) := ⟨rfl, rfl, rfl, by decide +kernel, rfl, by decide +kernel, by decide +kernel⟩
abbrev N_States_base : List Str := ["self", "state", "total", "at", "book", "sign", "group", "shares", "share", "number"]
theorem sc_States_base : FnScope N_States_base ["self", "state"] (defScope s_States_base) := ⟨rfl, rfl, rfl, by decide +kernel, rfl, by decide +kernel, by decide +kernel⟩
abbrev N_States_share_of_group : List Str := ["self", "book", "group", "name", "place", "steps", "share"]
theorem sc_States_share_of_group : FnScope N_States_share_of_group ["self", "book", "group"] (defScope s_States_share_of_group) := ⟨rfl, rfl, rfl, by decide +kernel, rfl, by decide +kernel, by decide +kernel⟩
abbrev N_States_lines : List Str := ["self", "book", "sign", "books", "found", "at", "name", "amount", "move"]
theorem sc_States_lines : FnScope N_States_lines ["self"] (defScope s_States_lines) := ⟨rfl, rfl, rfl, by decide +kernel, rfl, by decide +kernel, by decide +kernel⟩
abbrev N_States_best_lines : List Str := ["self", "found", "at", "amount", "move", "weight"]
theorem sc_States_best_lines : FnScope N_States_best_lines ["self"] (defScope s_States_best_lines) := ⟨rfl, rfl, rfl, by decide +kernel, rfl, by decide +kernel, by decide +kernel⟩
abbrev N_States_order : List Str := ["self", "move", "found", "more", "span"]
theorem sc_States_order : FnScope N_States_order ["self", "move"] (defScope s_States_order) := ⟨rfl, rfl, rfl, by decide +kernel, rfl, by decide +kernel, by decide +kernel⟩
abbrev N_one_more : List Str := ["states", "sums", "best", "found", "state", "weight", "move", "told", "there", "total"]
theorem sc_one_more : FnScope N_one_more ["states", "sums", "best"] (defScope s_one_more) := ⟨rfl, rfl, rfl, by decide +kernel, rfl, by decide +kernel, by decide +kernel⟩
abbrev N_greatest_gap : List Str := ["states", "sums", "state", "weight"]
theorem sc_greatest_gap : FnScope N_greatest_gap ["states", "sums"] (defScope s_greatest_gap) := ⟨rfl, rfl, rfl, by decide +kernel, rfl, by decide +kernel, by decide +kernel⟩
abbrev N_reached : List Str := ["states", "names", "found", "fresh", "at", "amount", "move", "weight", "steps", "later", "state", "line", "there"]
theorem sc_reached : FnScope N_reached ["states"] (defScope s_reached) := ⟨rfl, rfl, rfl, by decide +kernel, rfl, by decide +kernel, by decide +kernel⟩
abbrev N_states_of : List Str := ["book"]
theorem sc_states_of : FnScope N_states_of ["book"] (defScope s_states_of) := ⟨rfl, rfl, rfl, by decide +kernel, rfl, by decide +kernel, by decide +kernel⟩
abbrev N_gain_of : List Str := ["states", "one", "other", "mine", "theirs", "sums"]
theorem sc_gain_of : FnScope N_gain_of ["states", "one", "other"] (defScope s_gain_of) := ⟨rfl, rfl, rfl, by decide +kernel, rfl, by decide +kernel, by decide +kernel⟩
abbrev N_split_range : List Str := ["book", "states", "some", "at", "one", "other", "gains"]
theorem sc_split_range : FnScope N_split_range ["book"] (defScope s_split_range) := ⟨rfl, rfl, rfl, by decide +kernel, rfl, by decide +kernel, by decide +kernel⟩
abbrev N_merges : List Str := ["book", "name", "span", "most", "found", "amount", "values", "one", "other", "merged"]
theorem sc_merges : FnScope N_merges ["book", "name"] (defScope s_merges) := ⟨rfl, rfl, rfl, by decide +kernel, rfl, by decide +kernel, by decide +kernel⟩
abbrev N_merge_range : List Str := ["book", "name", "group", "states", "pairs", "gains", "state", "merged", "more", "sums", "higher"]
theorem sc_merge_range : FnScope N_merge_range ["book", "name"] (defScope s_merge_range) := ⟨rfl, rfl, rfl, by decide +kernel, rfl, by decide +kernel, by decide +kernel⟩
abbrev N_check_integers : List Str := ["value", "least", "number"]
theorem sc_check_integers : FnScope N_check_integers ["value", "least"] (defScope s_check_integers) := ⟨rfl, rfl, rfl, by decide +kernel, rfl, by decide +kernel, by decide +kernel⟩
abbrev N_goes_on : List Str := ["again", "rise", "size", "many", "step", "number", "longer", "at"]
theorem sc_goes_on : FnScope N_goes_on ["again", "rise", "size"] (defScope s_goes_on) := ⟨rfl, rfl, rfl, by decide +kernel, rfl, by decide +kernel, by decide +kernel⟩
abbrev N_Row_init : List Str := ["self", "early", "again", "rise", "many", "part", "size", "cycle", "step", "last"]
theorem sc_Row_init : FnScope N_Row_init ["self", "early", "again", "rise"] (defScope s_Row_init) := ⟨rfl, rfl, rfl, by decide +kernel, rfl, by decide +kernel, by decide +kernel⟩
abbrev N_Row_early : List Str := ["self"]
theorem sc_Row_early : FnScope N_Row_early ["self"] (defScope s_Row_early) := ⟨rfl, rfl, rfl, by decide +kernel, rfl, by decide +kernel, by decide +kernel⟩
abbrev N_Row_again : List Str := ["self"]
theorem sc_Row_again : FnScope N_Row_again ["self"] (defScope s_Row_again) := ⟨rfl, rfl, rfl, by decide +kernel, rfl, by decide +kernel, by decide +kernel⟩
abbrev N_Row_rise : List Str := ["self"]
theorem sc_Row_rise : FnScope N_Row_rise ["self"] (defScope s_Row_rise) := ⟨rfl, rfl, rfl, by decide +kernel, rfl, by decide +kernel, by decide +kernel⟩
abbrev N_Row_at : List Str := ["self", "lines", "turns", "place"]
theorem sc_Row_at : FnScope N_Row_at ["self", "lines"] (defScope s_Row_at) := ⟨rfl, rfl, rfl, by decide +kernel, rfl, by decide +kernel, by decide +kernel⟩
abbrev N_check_greatest : List Str := ["one", "other"]
theorem sc_check_greatest : FnScope N_check_greatest ["one", "other"] (defScope s_check_greatest) := ⟨rfl, rfl, rfl, by decide +kernel, rfl, by decide +kernel, by decide +kernel⟩
abbrev N_row_of : List Str := ["one", "other", "states", "best", "told", "most", "move", "sums", "numbers", "later", "turn", "again", "place", "state", "total"]
theorem sc_row_of : FnScope N_row_of ["one", "other"] (defScope s_row_of) := ⟨rfl, rfl, rfl, by decide +kernel, rfl, by decide +kernel, by decide +kernel⟩
abbrev N_is_led_on : List Str := ["states", "sums", "later", "move", "most", "state", "total"]
theorem sc_is_led_on : FnScope N_is_led_on ["states", "sums", "later", "move", "most"] (defScope s_is_led_on) := ⟨rfl, rfl, rfl, by decide +kernel, rfl, by decide +kernel, by decide +kernel⟩
abbrev N_greatest : List Str := ["one", "other"]
theorem sc_greatest : FnScope N_greatest ["one", "other"] (defScope s_greatest) := ⟨rfl, rfl, rfl, by decide +kernel, rfl, by decide +kernel, by decide +kernel⟩
abbrev N_turned : List Str := ["row", "number"]
theorem sc_turned : FnScope N_turned ["row"] (defScope s_turned) := ⟨rfl, rfl, rfl, by decide +kernel, rfl, by decide +kernel, by decide +kernel⟩
abbrev N_least : List Str := ["one", "other"]
theorem sc_least : FnScope N_least ["one", "other"] (defScope s_least) := ⟨rfl, rfl, rfl, by decide +kernel, rfl, by decide +kernel, by decide +kernel⟩
abbrev N__law_cell : List Str := ["_law_cells", "_law_spot", "_law_mixed", "_law_number"]
theorem sc__law_cell : FnScope N__law_cell ["_law_cells", "_law_spot"] (defScope s__law_cell) := ⟨rfl, rfl, rfl, by decide +kernel, rfl, by decide +kernel, by decide +kernel⟩
abbrev N__law_jar : List Str := ["_law_cells", "_law_spot", "_law_cell_here"]
theorem sc__law_jar : FnScope N__law_jar ["_law_cells", "_law_spot"] (defScope s__law_jar) := ⟨rfl, rfl, rfl, by decide +kernel, rfl, by decide +kernel, by decide +kernel⟩
abbrev N__law_dig : List Str := ["_law_jar_here", "_law_many", "_law_mixed", "_law_digit"]
theorem sc__law_dig : FnScope N__law_dig ["_law_jar_here", "_law_many"] (defScope s__law_dig) := ⟨rfl, rfl, rfl, by decide +kernel, rfl, by decide +kernel, by decide +kernel⟩
abbrev N__law_take : List Str := ["_law_jar_here", "_law_some"]
theorem sc__law_take : FnScope N__law_take ["_law_jar_here", "_law_some"] (defScope s__law_take) := ⟨rfl, rfl, rfl, by decide +kernel, rfl, by decide +kernel, by decide +kernel⟩
abbrev N__law_common : List Str := ["_law_large", "_law_small"]
theorem sc__law_common : FnScope N__law_common ["_law_large", "_law_small"] (defScope s__law_common) := ⟨rfl, rfl, rfl, by decide +kernel, rfl, by decide +kernel, by decide +kernel⟩
abbrev N__law_span : List Str := ["_law_steps", "_law_span_here", "_law_climb", "_law_step", "_law_full", "_law_own", "_law_turns"]
theorem sc__law_span : FnScope N__law_span ["_law_steps"] (defScope s__law_span) := ⟨rfl, rfl, rfl, by decide +kernel, rfl, by decide +kernel, by decide +kernel⟩
abbrev N__law_way : List Str := ["_law_jar_here"]
theorem sc__law_way : FnScope N__law_way ["_law_jar_here"] (defScope s__law_way) := ⟨rfl, rfl, rfl, by decide +kernel, rfl, by decide +kernel, by decide +kernel⟩
abbrev N__law_right : List Str := ["_law_jar_here", "_law_step", "_law_by_line", "_law_at_end", "_law_high", "_law_low", "_law_due"]
theorem sc__law_right : FnScope N__law_right ["_law_jar_here"] (defScope s__law_right) := ⟨rfl, rfl, rfl, by decide +kernel, rfl, by decide +kernel, by decide +kernel⟩
abbrev N_law : List Str := ["_law_cells", "_law_k"]
theorem sc_law : FnScope N_law ["_law_cells"] (defScope s_law) := ⟨rfl, rfl, rfl, by decide +kernel, rfl, by decide +kernel, by decide +kernel⟩
end K44
end

section
-- text Run
set_option Elab.async false
set_option linter.all false
set_option maxRecDepth 100000
set_option maxHeartbeats 0
namespace K44
open PySem PySem.Spec L2

/-- what an object names, as far as the facts need it -/
def refsF (o : Obj) : List Addr := match o.data with
  | .dict es _ => es.toList.flatMap fun e => He.refV e.val
  | .func fd => He.refV fd.code
  | .cls cd => [cd.ns]
  | _ => []
def refsP (o : Obj) : List Addr := match o.data with
  | .func fd => He.refV fd.code
  | .fields vs => vs.toList.flatMap He.refV
  | _ => []
def refsD (o : Obj) : List Addr := match o.data with
  | .dict es _ => es.toList.flatMap fun e => He.refV e.val
  | _ => []
def refsC (o : Obj) : List Addr := match o.data with
  | .func fd => He.refV fd.code
  | _ => []
def stp (g : Addr → Option Obj) (f : Obj → List Addr) (as : List Addr) : List Addr := as.flatMap fun a => match g a with
  | some o => f o
  | none => []
def asE (g : Addr → Option Obj) : List Addr :=
  let a0 : List Addr := [mainGlobals]
  let a1 := stp g refsF a0
  let a2 := stp g refsF a1
  let a3 := stp g refsD a2
  let a4 := stp g refsP a3
  let a5 := stp g refsC a4
  a0 ++ (a1 ++ (a2 ++ (a3 ++ (a4 ++ a5))))
def obsEG (g : Addr → Option Obj) : AlE := obsE (He.frG g (asE g))
def hk : PySem.W.Hook where
  α := AlE
  obs := fun s => obsEG s.heap.get?
  val := fun _ => valE
  says := fun _ h => ∃ K : PySem.W.Frag, K.In h ∧ SaysE K
  of := fun _ _ e => ⟨_, He.frG_in, e⟩
  keeps := fun _ _ _ ⟨K, hK, c⟩ k => ⟨K, PySem.W.Frag.In.keeps hK k, c⟩
abbrev R : PySem.W.OpenRow := PySem.W.OpenLaw.row PySem.Challenge.rw_linecents_k44_whole_rounding_once_and_ea
def ob (s : PySem.W.SharedT) : AlE := obsEG (HandSHeadRun.getT s)
theorem ob_eq (s : PySem.W.SharedT) : ob s = hk.obs s.abs := by
  have e : HandSHeadRun.getT s = s.abs.heap.get? := funext (HandSHeadRun.getT_eq s)
  show obsEG (HandSHeadRun.getT s) = obsEG s.abs.heap.get?
  rw [e]

def nm0 : List PySem.Str := ["_wall", "__name__", "WrongValue", "InvalidNumber", "InvalidText", "NotABook", "InvalidKinds", "InvalidGroups", "InvalidWhole", "InvalidBill", "WrongName", "UnknownName", "NoAnswer", "Unlike", "Endless", "TooMany", "MOST_KINDS", "MOST_GROUPS", "MOST_STEPS", "MOST_FACTOR", "MOST_UNIT", "MOST_PLUS", "MOST_STATES", "MOST_AMOUNTS", "DIGITS", "LETTERS", "LONGEST_NAME", "is_integer", "is_between", "check_number"]
def nm1 : List PySem.Str := ["is_name", "number_of", "common_divisor", "common_multiple", "fraction", "times", "less", "WAYS", "TIMES_SIZE", "PLUS_SIZE", "is_step", "wrong_step", "is_row_of_steps", "rounded", "led", "rate_of", "period_of", "text_of_step", "text_of_steps", "step_of_text", "steps_of_text", "KIND_SIZE", "KIND_WORDS", "is_kind", "check_kinds", "check_groups", "check_places", "check_whole", "text_of", "parts_of_row"]
def nm2 : List PySem.Str := ["kind_of_parts", "is_line", "check_bill", "Book", "check_book", "check_two", "check_fit", "sides_of", "first_greater", "check_rates", "amounts_of", "check_size", "States", "one_more", "greatest_gap", "reached", "states_of", "gain_of", "split_range", "merges", "merge_range", "check_integers", "goes_on", "Row", "check_greatest", "row_of", "is_led_on", "greatest", "turned", "least"]
def nm3 : List PySem.Str := ["_law_cell", "_law_jar", "_law_dig", "_law_take", "_law_common", "_law_span", "_law_way", "_law_right"]
def nms : List PySem.Str := nm0 ++ (nm1 ++ (nm2 ++ (nm3)))
abbrev qv : Program := PySem.W.view R.prog [106]
theorem run (w : World) : HandSHeadRun.RunEq R qv hk ob 9000 nms w := by
  intro os
  kernel_rfl
end K44
end

section
-- text Gx
set_option Elab.async false
set_option linter.all false
set_option maxRecDepth 100000
set_option maxHeartbeats 4000000
namespace K44
open PySem PySem.Spec L2
open Evl (Ex)
theorem kb_ii : kitB "int" "int" = some true := by decide +kernel
theorem kb_ib : kitB "int" "bool" = some false := by decide +kernel
theorem kb_bi : kitB "bool" "int" = some true := by decide +kernel
theorem kb_bb : kitB "bool" "bool" = some true := by decide +kernel
theorem kb_si : kitB "str" "int" = some false := by decide +kernel
theorem kb_sb : kitB "str" "bool" = some false := by decide +kernel
theorem kb_ni : kitB "NoneType" "int" = some false := by decide +kernel
theorem kb_nb : kitB "NoneType" "bool" = some false := by decide +kernel
theorem kb_ti : kitB "tuple" "int" = some false := by decide +kernel
theorem kb_tb : kitB "tuple" "bool" = some false := by decide +kernel
theorem kb_tt : kitB "tuple" "tuple" = some true := by decide +kernel
theorem kb_ss : kitB "str" "str" = some true := by decide +kernel
section
variable {X : Cx} {H0 : Hp} {ss : List Sl} {pos p1 p2 : Pos} {a b c e tg it elt : Expr}
theorem ixD0 {d : Dt} {l : List Dt} : ixD (d :: l) 0 d := ⟨0, rfl, .inl rfl⟩
theorem ixD1 {d d0 : Dt} {l : List Dt} : ixD (d0 :: d :: l) 1 d := ⟨1, rfl, .inl rfl⟩
theorem ixD2 {d d0 d1 : Dt} {l : List Dt} : ixD (d0 :: d1 :: d :: l) 2 d := ⟨2, rfl, .inl rfl⟩
theorem ixD3 {d d0 d1 d2 : Dt} {l : List Dt} : ixD (d0 :: d1 :: d2 :: d :: l) 3 d := ⟨3, rfl, .inl rfl⟩
theorem ixD4 {d d0 d1 d2 d3 : Dt} {l : List Dt} : ixD (d0 :: d1 :: d2 :: d3 :: d :: l) 4 d := ⟨4, rfl, .inl rfl⟩
theorem ixDn {l : List Dt} {d : Dt} {n : Nat} (h : l[n]? = some d) : ixD l (n : Int) d := ⟨n, h, .inl rfl⟩
theorem ixDlast {l : List Dt} {d : Dt} : ixD (l ++ [d]) (-1) d := ⟨l.length, by simp, .inr (by rw [List.length_append]; simp; omega)⟩
/-- t[i], i written: by its place -/
theorem ex_t0 {d : Dt} {l : List Dt} {j : Nat} (ha : EX X H0 ss a (.d (.tup (d :: l)))) : EX X H0 ss (.Subscript a (.Constant (.int 0) j p1) pos) (.d d) := ex_ixT ha ex_int ixD0
theorem ex_t1 {d d0 : Dt} {l : List Dt} {j : Nat} (ha : EX X H0 ss a (.d (.tup (d0 :: d :: l)))) : EX X H0 ss (.Subscript a (.Constant (.int 1) j p1) pos) (.d d) := ex_ixT ha ex_int ixD1
theorem ex_t2 {d d0 d1 : Dt} {l : List Dt} {j : Nat} (ha : EX X H0 ss a (.d (.tup (d0 :: d1 :: d :: l)))) : EX X H0 ss (.Subscript a (.Constant (.int 2) j p1) pos) (.d d) := ex_ixT ha ex_int ixD2
theorem ex_t3 {d d0 d1 d2 : Dt} {l : List Dt} {j : Nat} (ha : EX X H0 ss a (.d (.tup (d0 :: d1 :: d2 :: d :: l)))) : EX X H0 ss (.Subscript a (.Constant (.int 3) j p1) pos) (.d d) := ex_ixT ha ex_int ixD3
theorem ex_t4 {d d0 d1 d2 d3 : Dt} {l : List Dt} {j : Nat} (ha : EX X H0 ss a (.d (.tup (d0 :: d1 :: d2 :: d3 :: d :: l)))) : EX X H0 ss (.Subscript a (.Constant (.int 4) j p1) pos) (.d d) := ex_ixT ha ex_int ixD4
end
end K44
end

section
-- text Zp
set_option Elab.async false
set_option linter.all false
set_option maxRecDepth 100000
set_option maxHeartbeats 4000000
/-! zip of two, of three lists or tuples; enumerate of a list or a tuple. -/
namespace K44
open PySem PySem.Spec L2
open Evl (Ex)
def ItAt (tp : Bool) (h : Heap) (i l : Addr) (k : Nat) : Prop := if tp then h.IsTupleIter i l k else h.IsListIter i l k
def SeqIs (tp : Bool) (h : Heap) (l : Addr) (its : Array Value) : Prop := if tp then h.IsTuple l its else h.IsList l its
def begO (tp : Bool) (l : Addr) : Obj := { cls := .type (if tp then "tuple_iterator" else "list_iterator"), data := .fields #[.ref l, .int 0 0] }
def sqr (K : PySem.W.Frag) (H : Hp) (tp : Bool) (a : Addr) (xs : List V) : Prop := if tp then SqT K H a xs else SqL K H a xs
theorem ItAt.keep {tp : Bool} {h h' : Heap} {i l : Addr} {k : Nat} (x : ItAt tp h i l k) (e : ∀ o, h.get? i = some o → h'.get? i = some o) : ItAt tp h' i l k := by
  cases tp with
  | true => exact Heap.IsTupleIter.at (show h.IsTupleIter i l k from x) e
  | false => exact Heap.IsListIter.at (show h.IsListIter i l k from x) e
theorem ItAt.obj {tp : Bool} {h : Heap} {i l : Addr} {k : Nat} (x : ItAt tp h i l k) : ∃ o, h.get? i = some o ∧ ∀ v, o.data ≠ .cell v := by
  cases tp with
  | true =>
    obtain ⟨o, e, _, d⟩ := (show h.IsTupleIter i l k from x)
    exact ⟨o, e, fun v q => by rw [d] at q; cases q⟩
  | false =>
    obtain ⟨o, e, _, d⟩ := (show h.IsListIter i l k from x)
    exact ⟨o, e, fun v q => by rw [d] at q; cases q⟩
theorem ItAt.new {tp : Bool} {h : Heap} {i l : Addr} (x : h.get? i = some (begO tp l)) : ItAt tp h i l 0 := by
  cases tp with
  | true => exact ⟨_, x, rfl, rfl⟩
  | false => exact ⟨_, x, rfl, rfl⟩
theorem drawsS {prog : Program} {w : World} {A : Around} (hh : A.handled = none) (tp : Bool) (it l : Addr) (hne : l ≠ it) (items : Array Value) :
    Draws prog w A it [it, l] items.size (fun i v => items[i]? = some v) (fun i h => ItAt tp h it l i ∧ SeqIs tp h l items) := by
  cases tp with
  | true => exact Draws.tuple hh it l hne items
  | false => exact Draws.list hh it l hne items
theorem beginsS (tp : Bool) (l : Addr) (its : Array Value) : Begins (.ref l) (begO tp l) fun h => SeqIs tp h l its := by
  cases tp with
  | true => exact begins_tuple l its
  | false => exact begins_list l its
section
variable {X : Cx} {pins : List (Addr × Obj)} {σ : L2.St} {H : Hp} {s : Shared} {a : Addr} {xs ys : List V} {tp : Bool}
theorem inv_seq (I : Inv X pins σ H s) (h : sqr X.K H tp a xs) : ∃ its : List Value, Vals xs its ∧ SeqIs tp s.heap a its.toArray ∧ a < s.heap.objs.size := by
  cases tp with
  | true =>
    obtain ⟨its, r, p, _⟩ := I.tuple (show SqT X.K H a xs from h)
    exact ⟨its, r, p, p.lt⟩
  | false =>
    obtain ⟨its, r, p, _⟩ := I.list (show SqL X.K H a xs from h)
    exact ⟨its, r, p.isList, p.lt⟩
theorem inv_inj (I : Inv X pins σ H s) (h : sqr X.K H tp a xs) (h' : sqr X.K H tp a ys) : xs = ys := by
  cases tp with
  | true => exact I.tuple_inj (show SqT X.K H a xs from h) (show SqT X.K H a ys from h')
  | false => exact I.list_inj (show SqL X.K H a xs from h) (show SqL X.K H a ys from h')
end
def J3 (K : PySem.W.Frag) (t1 t2 t3 : Bool) (a1 a2 a3 : Addr) : It :=
  ⟨fun i H => ∃ (xs ys zs : List V) (x y z : V), sqr K H t1 a1 xs ∧ sqr K H t2 a2 ys ∧ sqr K H t3 a3 zs ∧ xs[i]? = some x ∧ ys[i]? = some y ∧ zs[i]? = some z,
    fun i H v H' => ∃ T x y z, v = .ref T ∧ H T = none ∧ H' = upd H T (.tup [x, y, z]) ∧ (∀ xs, sqr K H t1 a1 xs → xs[i]? = some x) ∧ (∀ ys, sqr K H t2 a2 ys → ys[i]? = some y) ∧ ∀ zs, sqr K H t3 a3 zs → zs[i]? = some z,
    fun i H => ∃ xs ys zs : List V, sqr K H t1 a1 xs ∧ sqr K H t2 a2 ys ∧ sqr K H t3 a3 zs ∧ i = xs.length ∧ i ≤ ys.length ∧ i ≤ zs.length⟩
theorem turn3 {P : Program} {w : World} {K : PySem.W.Frag} {elts : List Expr} {kk : Nat} {tpos : Pos} {t1 t2 t3 : Bool} {a1 a2 a3 z TI TO i1 i2 i3 : Addr} (D : ZipSep3 z TI TO i1 i2 i3 [i1, a1] [i2, a2] [i3, a3])
    (n1 : a1 ≠ i1) (n2 : a2 ≠ i2) (n3 : a3 ≠ i3) :
    Turn P w K (.Tuple elts kk tpos) (J3 K t1 t2 t3 a1 a2 a3) [z, TI, TO, i1, i2, i3] z
      (fun i h => IsZip h z TI TO .none ∧ IsTupOf3 h TI (.ref i1) (.ref i2) (.ref i3) ∧ (∃ x y u, IsTupOf3 h TO x y u) ∧ ItAt t1 h i1 a1 i ∧ ItAt t2 h i2 a2 i ∧ ItAt t3 h i3 a3 i) where
  mem := by simp
  obj := fun i h st c hc => by
    obtain ⟨hz, hTI, ⟨x, y, u, hTO⟩, h1, h2, h3⟩ := st
    have e' : c = z ∨ c = TI ∨ c = TO ∨ c = i1 ∨ c = i2 ∨ c = i3 := by simpa using hc
    rcases e' with rfl | rfl | rfl | rfl | rfl | rfl
    · exact ⟨_, hz, fun v q => nomatch q⟩
    · exact ⟨_, hTI, fun v q => nomatch q⟩
    · exact ⟨_, hTO, fun v q => nomatch q⟩
    · exact h1.obj
    · exact h2.obj
    · exact h3.obj
  keep := fun i h h' st k => by
    obtain ⟨hz, hTI, ⟨x, y, u, hTO⟩, h1, h2, h3⟩ := st
    exact ⟨k z (by simp) _ hz, k TI (by simp) _ hTI, ⟨x, y, u, k TO (by simp) _ hTO⟩, h1.keep (k i1 (by simp)), h2.keep (k i2 (by simp)), h3.keep (k i3 (by simp))⟩
  item := by
    intro X hP hw hK hc i pins s σ H E I hf st hg
    subst hP hw hK
    obtain ⟨hz, hTI, ⟨x0, y0, u0, hTO⟩, h1, h2, h3⟩ := st
    obtain ⟨xs, ys, zs, x, y, u, q1, q2, q3, e1, e2, e3⟩ := hg
    obtain ⟨v1, r1, p1, l1⟩ := inv_seq I q1
    obtain ⟨v2, r2, p2, l2⟩ := inv_seq I q2
    obtain ⟨v3, r3, p3, l3⟩ := inv_seq I q3
    obtain ⟨w1, g1, s1⟩ := r1.get e1
    obtain ⟨w2, g2, s2⟩ := r2.get e2
    obtain ⟨w3, g3, s3⟩ := r3.get e3
    have hh : X.A.in1.handled = none := I.ok.hd hc
    have k1 : i < v1.toArray.size := by have := (List.getElem?_eq_some_iff.mp g1).1; simpa using this
    have k2 : i < v2.toArray.size := by have := (List.getElem?_eq_some_iff.mp g2).1; simpa using this
    have k3 : i < v3.toArray.size := by have := (List.getElem?_eq_some_iff.mp g3).1; simpa using this
    have hzl : z < s.heap.objs.size := Heap.lt_size hz
    refine wpAny_pyNext_zipD3_item D (drawsS hh t1 i1 a1 n1 v1.toArray) (drawsS hh t2 i2 a2 n2 v2.toArray) (drawsS hh t3 i3 a3 n3 v3.toArray) hz hTI hTO ⟨h1, p1⟩ ⟨h2, p2⟩ ⟨h3, p3⟩ k1 k2 k3
      fun y1 y2 y3 h' tk m1 m2 m3 z' TO' d1 d2 d3 hT hsz hk => ?_
    have b1 : y1 = w1 := by
      have : v1.toArray[i]? = some w1 := by simpa using g1
      rw [m1] at this; exact Option.some.inj this
    have b2 : y2 = w2 := by
      have : v2.toArray[i]? = some w2 := by simpa using g2
      rw [m2] at this; exact Option.some.inj this
    have b3 : y3 = w3 := by
      have : v3.toArray[i]? = some w3 := by simpa using g3
      rw [m3] at this; exact Option.some.inj this
    subst b1 b2 b3
    refine ⟨_, rfl, wpAny_letOwnedTupleGo_zip (s := { s with heap := h', toks := tk }) z' fun h'' z'' sb => ?_⟩
    have hT2 : h''.get? s.heap.objs.size = some { cls := .type "tuple", data := .seq #[y1, y2, y3] } := (sb.2 _ (Nat.ne_of_gt hzl)).trans hT
    have new : ObjOk X.prog X.w (upd H s.heap.objs.size (.tup [x, y, u])) h'' s.heap.objs.size (.tup [x, y, u]) :=
      ⟨by show 3 ≤ sizeLine; decide, [y1, y2, y3], .cons s1 (.cons s2 (.cons s3 .nil)), ⟨_, hT2, rfl, _, rfl⟩⟩
    have I1 : Inv X pins σ (upd H s.heap.objs.size (.tup [x, y, u])) { s with heap := h'', toks := tk } :=
      I.turnedNew (ch := [z, TI, TO, i1, i2, i3]) (fun c o hb q => (sb.2 c (fun e => hb (by simp [e]))).trans (hk c o (fun e => hb (by simp [e])) (fun e => hb (by simp [e])) (fun e => hb (by simp [e])) (fun e => hb (by simp [e])) (fun e => hb (by simp [e])) q)) hf (Nat.le_refl _) new
    have far : ∀ {c : Addr}, c ≠ z → ∀ o, h'.get? c = some o → h''.get? c = some o := fun hc o e => (sb.2 _ hc).trans e
    refine ⟨.ref s.heap.objs.size, _, I1, rfl, ⟨_, x, y, u, rfl, I.hok.fresh (Nat.le_refl _), rfl, fun l hl => by rw [inv_inj I hl q1]; exact e1, fun l hl => by rw [inv_inj I hl q2]; exact e2, fun l hl => by rw [inv_inj I hl q3]; exact e3⟩, ⟨z'', ?_, ⟨y1, y2, y3, ?_⟩, ?_, ?_, ?_⟩, fun c hcm => ?_⟩
    · exact far D.TIz _ (hk _ _ D.TIz D.TITO D.TIi1 D.TIi2 D.TIi3 hTI)
    · exact far D.TOz _ TO'
    · exact d1.1.keep (far (Ne.symm D.zi1))
    · exact d2.1.keep (far (Ne.symm D.zi2))
    · exact d3.1.keep (far (Ne.symm D.zi3))
    · have hlt : c < s.heap.objs.size := by
        have e' : c = z ∨ c = TI ∨ c = TO ∨ c = i1 ∨ c = i2 ∨ c = i3 := by simpa using hcm
        rcases e' with rfl | rfl | rfl | rfl | rfl | rfl
        · exact hzl
        · exact Heap.lt_size hTI
        · exact Heap.lt_size hTO
        · obtain ⟨_, e, _⟩ := h1.obj; exact Heap.lt_size e
        · obtain ⟨_, e, _⟩ := h2.obj; exact Heap.lt_size e
        · obtain ⟨_, e, _⟩ := h3.obj; exact Heap.lt_size e
      rw [upd_ne (Nat.ne_of_lt hlt)]
      exact (hf c hcm).1
  done := by
    intro X hP hw hK hc i pins s σ H E I hf st hg
    subst hP hw hK
    obtain ⟨hz, hTI, ⟨x0, y0, u0, hTO⟩, h1, h2, h3⟩ := st
    obtain ⟨xs, ys, zs, q1, q2, q3, f1, f2, f3⟩ := hg
    obtain ⟨v1, r1, p1, l1⟩ := inv_seq I q1
    obtain ⟨v2, r2, p2, l2⟩ := inv_seq I q2
    obtain ⟨v3, r3, p3, l3⟩ := inv_seq I q3
    have hh : X.A.in1.handled = none := I.ok.hd hc
    have m1 := r1.length
    have m2 := r2.length
    have m3 := r3.length
    exact wpAny_pyNext_zipD3_end D (drawsS hh t1 i1 a1 n1 v1.toArray) (drawsS hh t2 i2 a2 n2 v2.toArray) (drawsS hh t3 i3 a3 n3 v3.toArray) hz hTI hTO ⟨h1, p1⟩ ⟨h2, p2⟩ ⟨h3, p3⟩ (by simp; omega) (by simp; omega) (by simp; omega) (.inl (by simp; omega))
      fun h' tk hk => ⟨rfl, I.turnedL (ch := [z, TI, TO, i1, i2, i3]) (fun c o hb q => hk c o (fun e => hb (by simp [e])) (fun e => hb (by simp [e])) (fun e => hb (by simp [e])) (fun e => hb (by simp [e])) (fun e => hb (by simp [e])) q) hf⟩
  self := fun A i s Q E st h => wpAny_pyIter_zip st.1 h
def J2 (K : PySem.W.Frag) (t1 t2 : Bool) (a1 a2 : Addr) : It :=
  ⟨fun i H => ∃ (xs ys : List V) (x y : V), sqr K H t1 a1 xs ∧ sqr K H t2 a2 ys ∧ xs[i]? = some x ∧ ys[i]? = some y,
    fun i H v H' => ∃ T x y, v = .ref T ∧ H T = none ∧ H' = upd H T (.tup [x, y]) ∧ (∀ xs, sqr K H t1 a1 xs → xs[i]? = some x) ∧ (∀ ys, sqr K H t2 a2 ys → ys[i]? = some y),
    fun i H => ∃ xs ys : List V, sqr K H t1 a1 xs ∧ sqr K H t2 a2 ys ∧ i = xs.length ∧ i ≤ ys.length⟩
theorem turn2 {P : Program} {w : World} {K : PySem.W.Frag} {elts : List Expr} {kk : Nat} {tpos : Pos} {t1 t2 : Bool} {a1 a2 z TI TO i1 i2 : Addr} (D : ZipSep2 z TI TO i1 i2 [i1, a1] [i2, a2])
    (n1 : a1 ≠ i1) (n2 : a2 ≠ i2) :
    Turn P w K (.Tuple elts kk tpos) (J2 K t1 t2 a1 a2) [z, TI, TO, i1, i2] z
      (fun i h => IsZip h z TI TO .none ∧ IsTupOf2 h TI (.ref i1) (.ref i2) ∧ (∃ x y, IsTupOf2 h TO x y) ∧ ItAt t1 h i1 a1 i ∧ ItAt t2 h i2 a2 i) where
  mem := by simp
  obj := fun i h st c hc => by
    obtain ⟨hz, hTI, ⟨x, y, hTO⟩, h1, h2⟩ := st
    have e' : c = z ∨ c = TI ∨ c = TO ∨ c = i1 ∨ c = i2 := by simpa using hc
    rcases e' with rfl | rfl | rfl | rfl | rfl
    · exact ⟨_, hz, fun v q => nomatch q⟩
    · exact ⟨_, hTI, fun v q => nomatch q⟩
    · exact ⟨_, hTO, fun v q => nomatch q⟩
    · exact h1.obj
    · exact h2.obj
  keep := fun i h h' st k => by
    obtain ⟨hz, hTI, ⟨x, y, hTO⟩, h1, h2⟩ := st
    exact ⟨k z (by simp) _ hz, k TI (by simp) _ hTI, ⟨x, y, k TO (by simp) _ hTO⟩, h1.keep (k i1 (by simp)), h2.keep (k i2 (by simp))⟩
  item := by
    intro X hP hw hK hc i pins s σ H E I hf st hg
    subst hP hw hK
    obtain ⟨hz, hTI, ⟨x0, y0, hTO⟩, h1, h2⟩ := st
    obtain ⟨xs, ys, x, y, q1, q2, e1, e2⟩ := hg
    obtain ⟨v1, r1, p1, l1⟩ := inv_seq I q1
    obtain ⟨v2, r2, p2, l2⟩ := inv_seq I q2
    obtain ⟨w1, g1, s1⟩ := r1.get e1
    obtain ⟨w2, g2, s2⟩ := r2.get e2
    have hh : X.A.in1.handled = none := I.ok.hd hc
    have k1 : i < v1.toArray.size := by have := (List.getElem?_eq_some_iff.mp g1).1; simpa using this
    have k2 : i < v2.toArray.size := by have := (List.getElem?_eq_some_iff.mp g2).1; simpa using this
    have hzl : z < s.heap.objs.size := Heap.lt_size hz
    refine wpAny_pyNext_zipD2_item D (drawsS hh t1 i1 a1 n1 v1.toArray) (drawsS hh t2 i2 a2 n2 v2.toArray) hz hTI hTO ⟨h1, p1⟩ ⟨h2, p2⟩ k1 k2
      fun y1 y2 h' tk m1 m2 z' TO' d1 d2 hT hsz hk => ?_
    have b1 : y1 = w1 := by
      have : v1.toArray[i]? = some w1 := by simpa using g1
      rw [m1] at this; exact Option.some.inj this
    have b2 : y2 = w2 := by
      have : v2.toArray[i]? = some w2 := by simpa using g2
      rw [m2] at this; exact Option.some.inj this
    subst b1 b2
    refine ⟨_, rfl, wpAny_letOwnedTupleGo_zip (s := { s with heap := h', toks := tk }) z' fun h'' z'' sb => ?_⟩
    have hT2 : h''.get? s.heap.objs.size = some { cls := .type "tuple", data := .seq #[y1, y2] } := (sb.2 _ (Nat.ne_of_gt hzl)).trans hT
    have new : ObjOk X.prog X.w (upd H s.heap.objs.size (.tup [x, y])) h'' s.heap.objs.size (.tup [x, y]) :=
      ⟨by show 2 ≤ sizeLine; decide, [y1, y2], .cons s1 (.cons s2 .nil), ⟨_, hT2, rfl, _, rfl⟩⟩
    have I1 : Inv X pins σ (upd H s.heap.objs.size (.tup [x, y])) { s with heap := h'', toks := tk } :=
      I.turnedNew (ch := [z, TI, TO, i1, i2]) (fun c o hb q => (sb.2 c (fun e => hb (by simp [e]))).trans (hk c o (fun e => hb (by simp [e])) (fun e => hb (by simp [e])) (fun e => hb (by simp [e])) (fun e => hb (by simp [e])) q)) hf (Nat.le_refl _) new
    have far : ∀ {c : Addr}, c ≠ z → ∀ o, h'.get? c = some o → h''.get? c = some o := fun hc o e => (sb.2 _ hc).trans e
    refine ⟨.ref s.heap.objs.size, _, I1, rfl, ⟨_, x, y, rfl, I.hok.fresh (Nat.le_refl _), rfl, fun l hl => by rw [inv_inj I hl q1]; exact e1, fun l hl => by rw [inv_inj I hl q2]; exact e2⟩, ⟨z'', ?_, ⟨y1, y2, ?_⟩, ?_, ?_⟩, fun c hcm => ?_⟩
    · exact far D.TIz _ (hk _ _ D.TIz D.TITO D.TIi1 D.TIi2 hTI)
    · exact far D.TOz _ TO'
    · exact d1.1.keep (far (Ne.symm D.zi1))
    · exact d2.1.keep (far (Ne.symm D.zi2))
    · have hlt : c < s.heap.objs.size := by
        have e' : c = z ∨ c = TI ∨ c = TO ∨ c = i1 ∨ c = i2 := by simpa using hcm
        rcases e' with rfl | rfl | rfl | rfl | rfl
        · exact hzl
        · exact Heap.lt_size hTI
        · exact Heap.lt_size hTO
        · obtain ⟨_, e, _⟩ := h1.obj; exact Heap.lt_size e
        · obtain ⟨_, e, _⟩ := h2.obj; exact Heap.lt_size e
      rw [upd_ne (Nat.ne_of_lt hlt)]
      exact (hf c hcm).1
  done := by
    intro X hP hw hK hc i pins s σ H E I hf st hg
    subst hP hw hK
    obtain ⟨hz, hTI, ⟨x0, y0, hTO⟩, h1, h2⟩ := st
    obtain ⟨xs, ys, q1, q2, f1, f2⟩ := hg
    obtain ⟨v1, r1, p1, l1⟩ := inv_seq I q1
    obtain ⟨v2, r2, p2, l2⟩ := inv_seq I q2
    have hh : X.A.in1.handled = none := I.ok.hd hc
    have m1 := r1.length
    have m2 := r2.length
    exact wpAny_pyNext_zipD2_end D (drawsS hh t1 i1 a1 n1 v1.toArray) (drawsS hh t2 i2 a2 n2 v2.toArray) hz hTI hTO ⟨h1, p1⟩ ⟨h2, p2⟩ (by simp; omega) (by simp; omega) (.inl (by simp; omega))
      fun h' tk hk => ⟨rfl, I.turnedL (ch := [z, TI, TO, i1, i2]) (fun c o hb q => hk c o (fun e => hb (by simp [e])) (fun e => hb (by simp [e])) (fun e => hb (by simp [e])) (fun e => hb (by simp [e])) q) hf⟩
  self := fun A i s Q E st h => wpAny_pyIter_zip st.1 h
/-! ### enumerate -/
def JE (K : PySem.W.Frag) (t1 : Bool) (a1 : Addr) : It :=
  ⟨fun i H => ∃ (xs : List V) (x : V), sqr K H t1 a1 xs ∧ xs[i]? = some x,
    fun i H v H' => ∃ T x, v = .ref T ∧ H T = none ∧ H' = upd H T (.tup [.int (i : Nat), x]) ∧ (∀ xs, sqr K H t1 a1 xs → xs[i]? = some x),
    fun i H => ∃ xs : List V, sqr K H t1 a1 xs ∧ i = xs.length⟩
theorem turnE {P : Program} {w : World} {K : PySem.W.Frag} {elts : List Expr} {kk : Nat} {tpos : Pos} {t1 : Bool} {a1 e it : Addr} (n1 : a1 ≠ it) (n2 : a1 ≠ e) (n3 : e ≠ it) :
    Turn P w K (.Tuple elts kk tpos) (JE K t1 a1) [e, it] e (fun i h => (∃ old, IsEnum h e it ((i : Nat) : Int) old) ∧ ItAt t1 h it a1 i) where
  mem := by simp
  obj := fun i h st c hc => by
    obtain ⟨⟨old, he⟩, h1⟩ := st
    have e' : c = e ∨ c = it := by simpa using hc
    rcases e' with rfl | rfl
    · exact ⟨_, he, fun v q => nomatch q⟩
    · exact h1.obj
  keep := fun i h h' st k => by
    obtain ⟨⟨old, he⟩, h1⟩ := st
    exact ⟨⟨old, k e (by simp) _ he⟩, h1.keep (k it (by simp))⟩
  item := by
    intro X hP hw hK hc i pins s σ H E I hf st hg
    subst hP hw hK
    obtain ⟨⟨old, he⟩, h1⟩ := st
    obtain ⟨xs, x, q1, e1⟩ := hg
    obtain ⟨v1, r1, p1, l1⟩ := inv_seq I q1
    obtain ⟨w1, g1, s1⟩ := r1.get e1
    have hh : X.A.in1.handled = none := I.ok.hd hc
    have k1 : i < v1.toArray.size := by have := (List.getElem?_eq_some_iff.mp g1).1; simpa using this
    have hel : e < s.heap.objs.size := Heap.lt_size he
    have nf : e ∉ [it, a1] := fun z => by
      rcases List.mem_cons.mp z with z | z
      · exact n3 z
      · exact n2 (List.mem_singleton.mp z).symm
    refine wpAny_pyNext_enum_itemD (drawsS hh t1 it a1 n1 v1.toArray) he ⟨h1, p1⟩ k1 n3 nf fun y1 h' tk m1 ho d1 hT hsz hk => ?_
    have b1 : y1 = w1 := by
      have : v1.toArray[i]? = some w1 := by simpa using g1
      rw [m1] at this; exact Option.some.inj this
    subst b1
    refine ⟨_, rfl, wpAny_letOwnedTupleGo_enum (s := { s with heap := h', toks := tk + 1 }) ho fun h'' he' sb => ?_⟩
    have hT2 : h''.get? s.heap.objs.size = some { cls := .type "tuple", data := .seq #[.int i tk, y1] } := (sb.2 _ (Nat.ne_of_gt hel)).trans hT
    have new : ObjOk X.prog X.w (upd H s.heap.objs.size (.tup [.int (i : Nat), x])) h'' s.heap.objs.size (.tup [.int (i : Nat), x]) :=
      ⟨by show 2 ≤ sizeLine; decide, [.int i tk, y1], .cons ⟨_, rfl⟩ (.cons s1 .nil), ⟨_, hT2, rfl, _, rfl⟩⟩
    have I1 : Inv X pins σ (upd H s.heap.objs.size (.tup [.int (i : Nat), x])) { s with heap := h'', toks := tk + 1 } :=
      I.turnedNew (ch := [e, it]) (fun c o hb q => (sb.2 c (fun z => hb (by simp [z]))).trans (hk c o (fun z => hb (by simp [z])) (fun z => hb (by simp [z])) q)) hf (Nat.le_refl _) new
    refine ⟨.ref s.heap.objs.size, _, I1, rfl, ⟨_, x, rfl, I.hok.fresh (Nat.le_refl _), rfl, fun l hl => by rw [inv_inj I hl q1]; exact e1⟩, ⟨⟨y1, ?_⟩, d1.1.keep fun o q => (sb.2 _ (Ne.symm n3)).trans q⟩, fun c hcm => ?_⟩
    · have e2 : ((i + 1 : Nat) : Int) = (i : Int) + 1 := by omega
      rw [e2]; exact he'
    · have hlt : c < s.heap.objs.size := by
        have e' : c = e ∨ c = it := by simpa using hcm
        rcases e' with rfl | rfl
        · exact hel
        · obtain ⟨_, z, _⟩ := h1.obj; exact Heap.lt_size z
      rw [upd_ne (Nat.ne_of_lt hlt)]
      exact (hf c hcm).1
  done := by
    intro X hP hw hK hc i pins s σ H E I hf st hg
    subst hP hw hK
    obtain ⟨⟨old, he⟩, h1⟩ := st
    obtain ⟨xs, q1, f1⟩ := hg
    obtain ⟨v1, r1, p1, l1⟩ := inv_seq I q1
    have hh : X.A.in1.handled = none := I.ok.hd hc
    have m1 := r1.length
    obtain ⟨f0, f2, f3, f4, f5, f6⟩ := hf it (by simp)
    have ei : i = v1.toArray.size := by simp; omega
    subst ei
    exact wpAny_pyNext_enum_endD (drawsS hh t1 it a1 n1 v1.toArray) he ⟨h1, p1⟩ fun h' eb => ⟨rfl, I.turned (t' := s.toks) (fun b o hb q => eb b o hb q) f0 f2 f4 f5 f6⟩
  self := fun A i s Q E st h => let ⟨⟨_, he⟩, _⟩ := st; wpAny_pyIter_enum he h
set_option maxHeartbeats 2000000 in
theorem meets_enum1 {v : Value} {o : Obj} {H : Heap → Prop} (B : Begins v o H) :
    Meets (Builtin.«enumerate.__new__» ⟨[.type "enumerate", v], []⟩) (fun _ R s => H s.heap ∧
      R (.ok (.ret (.ref (s.heap.push o).objs.size))) { s with heap := (s.heap.push o).push { cls := .type "enumerate", data := .fields #[.none, .bool false, .ref s.heap.objs.size, rawInt 0, .none, .none] } }) :=
  .of_wp fun prog w A R s h => by
    obtain ⟨hp, g, dr, tk, os⟩ := s
    obtain ⟨h1, h⟩ := h
    have hsub := sub_enumerate
    have q1 : ∀ {A' : Around} {E : Value → Shared → Prop} {Q : Value → Shared → Prop}, Q (.ref hp.objs.size) ⟨hp.push o, g, dr, tk, os⟩ → wpAny (model prog w) A' (pyIter v) Q E ⟨hp, g, dr, tk, os⟩ :=
      fun q => B.iter prog w _ _ ⟨hp, g, dr, tk, os⟩ _ h1 q
    wp_walk using q1
    refine wpAny_stack_any fun st => wpAny_pure ?_
    split
    · rename_i c _ _ _ _ _
      cases (c == Value.type "enumerate")
      · wp_walk using q1
        exact ⟨_, rfl, h⟩
      · wp_walk using q1
        exact ⟨_, rfl, h⟩
    · wp_walk using q1
      exact ⟨_, rfl, h⟩
theorem enum_call {prog : Program} {w : World} {A : Around} {E : Value → Shared → Prop} {s : Shared} {v : Value} {o : Obj} {H : Heap → Prop} {Q : Value → Shared → Prop} (B : Begins v o H) (h1 : H s.heap) (hc : F.typeCall_enumerate_1 v = F.typeCall_enumerate_1 v)
    (h : ∀ h', IsEnum h' (s.heap.objs.size + 1) s.heap.objs.size 0 .none → h'.get? s.heap.objs.size = some o → (∀ b o, s.heap.get? b = some o → h'.get? b = some o) → Q (.ref (s.heap.objs.size + 1)) { s with heap := h' }) :
    wpAny (model prog w) A (call (.type "enumerate") [v]) Q E s := by
  refine callType_new F.called_enumerate (by decide) (F.typeCall_enumerate_1 _) (F.newCall_enumerate_1 _) (fun obj => F.args_object_init_2 obj _) F.entry_enumerate_new (meets_enum1 B) ⟨h1, ?_⟩
  have hz : (s.heap.push o).objs.size = s.heap.objs.size + 1 := Heap.size_push ..
  show _ ∧ _
  rw [hz]
  have he : IsEnum ((s.heap.push o).push { cls := .type "enumerate", data := .fields #[.none, .bool false, .ref s.heap.objs.size, rawInt 0, .none, .none] }) (s.heap.objs.size + 1) s.heap.objs.size 0 .none := by
    have q := Heap.get?_push_size (s.heap.push o) (o := { cls := .type "enumerate", data := .fields #[.none, .bool false, .ref s.heap.objs.size, rawInt 0, .none, .none] }) rfl
    rw [hz] at q; exact q
  exact ⟨⟨_, he, rfl⟩, h _ he (Heap.get?_push_of_some _ (Heap.get?_push_size _ B.free)) fun b o x => Heap.get?_push_of_some _ (Heap.get?_push_of_some _ x)⟩

/-! ### the walks, by judgement -/
theorem ge6 (N : Nat) : ∀ b ∈ [N + 5, N + 3, N + 4, N, N + 1, N + 2], N ≤ b := by
  intro b hb
  simp only [List.mem_cons, List.mem_nil_iff, or_false] at hb
  omega
theorem ge5 (N : Nat) : ∀ b ∈ [N + 4, N + 2, N + 3, N, N + 1], N ≤ b := by
  intro b hb
  simp only [List.mem_cons, List.mem_nil_iff, or_false] at hb
  omega
theorem ge2 (N : Nat) : ∀ b ∈ [N + 1, N], N ≤ b := by
  intro b hb
  simp only [List.mem_cons, List.mem_nil_iff, or_false] at hb
  omega
theorem sqAt.r {K : PySem.W.Frag} {H : Hp} {tp : Bool} {p : Addr} {l : List Dt} {vs : List V} (a : H p = some (if tp then .tup vs else .lst vs)) : sqr K H tp p vs := by
  cases tp with
  | true => exact SqT.of a
  | false => exact SqL.of a
section
variable {X : Cx} {H0 : Hp} {ss : List Sl} {pos p1 p2 tpos : Pos} {a b c e tg it elt : Expr} {elts : List Expr} {kk : Nat}
theorem fresh_fp {pins : List (Addr × Obj)} {σ : L2.St} {H : Hp} {s : Shared} (I : Inv X pins σ H s) {l : List Addr} (h : ∀ b ∈ l, s.heap.objs.size ≤ b) : ∀ b ∈ l, FpOk X pins H b := fun b hb => I.fpOk (h b hb) (I.hok.fresh (h b hb))
def i3 (K : PySem.W.Frag) (ta : TA) : TI := fun σ H R => ta σ H fun vs H1 => ∃ (t1 t2 t3 : Bool) (a1 a2 a3 : Addr), vs = [.ref a1, .ref a2, .ref a3] ∧ (∃ xs, sqr K H1 t1 a1 xs) ∧ (∃ xs, sqr K H1 t2 a2 xs) ∧ (∃ xs, sqr K H1 t3 a3 xs) ∧ R (J3 K t1 t2 t3 a1 a2 a3) H1
def i2 (K : PySem.W.Frag) (ta : TA) : TI := fun σ H R => ta σ H fun vs H1 => ∃ (t1 t2 : Bool) (a1 a2 : Addr), vs = [.ref a1, .ref a2] ∧ (∃ xs, sqr K H1 t1 a1 xs) ∧ (∃ xs, sqr K H1 t2 a2 xs) ∧ R (J2 K t1 t2 a1 a2) H1
def i1 (K : PySem.W.Frag) (ta : TA) : TI := fun σ H R => ta σ H fun vs H1 => ∃ (t1 : Bool) (a1 : Addr), vs = [.ref a1] ∧ (∃ xs, sqr K H1 t1 a1 xs) ∧ R (JE K t1 a1) H1
theorem pi_3 {ta : TA} (hg : Gl X "zip") (hm : X.mg "zip" = none) (ha : PA X [a, b, c] ta) (hs : starEach [a, b, c] X.env = (false, eval a X.env) :: starEach [b, c] X.env) (hpl : (backTo pos (starEach [b, c] X.env)).any (·.1) = false) :
    PI X (.Tuple elts kk tpos) (.Call (.Name "zip" p1) [a, b, c] [] pos) (i3 X.K ta) := by
  refine ⟨fun pins s σ H R I h => ?_⟩
  refine PyProof.Rows.Call_ (ld_blt I hg hm PyProof.Rows.boot_zip (PyProof.Rows.callWith_type1 (thn (ha.run pos pins s σ H _ I h) fun us s1 ⟨vs, H1, I1, r1, q1⟩ => ?_) hs hpl))
  obtain ⟨t1, t2, t3, a1, a2, a3, ev, ⟨xs, q1⟩, ⟨ys, q2⟩, ⟨zs, q3⟩, q⟩ := q1
  subst ev
  obtain ⟨u1, u2, u3, rfl, e1, e2, e3⟩ : ∃ u1 u2 u3, us = [u1, u2, u3] ∧ RelV (.ref a1) u1 ∧ RelV (.ref a2) u2 ∧ RelV (.ref a3) u3 := by
    cases r1 with
    | cons p r1 =>
      cases r1 with
      | cons p' r1 =>
        cases r1 with
        | cons p'' r1 => cases r1; exact ⟨_, _, _, rfl, p, p', p''⟩
  cases e1
  cases e2
  cases e3
  obtain ⟨v1, w1, m1, l1⟩ := inv_seq I1 q1
  obtain ⟨v2, w2, m2, l2⟩ := inv_seq I1 q2
  obtain ⟨v3, w3, m3, l3⟩ := inv_seq I1 q3
  refine zip_begins3 (beginsS t1 a1 v1.toArray) (beginsS t2 a2 v2.toArray) (beginsS t3 a3 v3.toArray) m1 m2 m3 fun h' hz hTI hTO g1 g2 g3 hsz hk => wpAny_pyIter_zip hz ?_
  have S := zip_sep3 (N := s1.heap.objs.size) (fp1 := [a1]) (fp2 := [a2]) (fp3 := [a3]) (by simpa using l1) (by simpa using l2) (by simpa using l3)
  have I2 : Inv X pins σ H1 { s1 with heap := h' } := I1.kept (t' := s1.toks) hk
  exact ⟨s1.heap.objs.size + 5, [s1.heap.objs.size + 5, s1.heap.objs.size + 3, s1.heap.objs.size + 4, s1.heap.objs.size, s1.heap.objs.size + 1, s1.heap.objs.size + 2], _, _, H1, rfl, I2, turn3 S (Nat.ne_of_lt l1) (Nat.ne_of_lt (Nat.lt_succ_of_lt l2)) (Nat.ne_of_lt (Nat.lt_succ_of_lt (Nat.lt_succ_of_lt l3))), ⟨hz, hTI, ⟨_, _, _, hTO⟩, .new g1, .new g2, .new g3⟩,
    fresh_fp I1 (ge6 _), q⟩
theorem pi_2 {ta : TA} (hg : Gl X "zip") (hm : X.mg "zip" = none) (ha : PA X [a, b] ta) (hs : starEach [a, b] X.env = (false, eval a X.env) :: starEach [b] X.env) (hpl : (backTo pos (starEach [b] X.env)).any (·.1) = false) :
    PI X (.Tuple elts kk tpos) (.Call (.Name "zip" p1) [a, b] [] pos) (i2 X.K ta) := by
  refine ⟨fun pins s σ H R I h => ?_⟩
  refine PyProof.Rows.Call_ (ld_blt I hg hm PyProof.Rows.boot_zip (PyProof.Rows.callWith_type1 (thn (ha.run pos pins s σ H _ I h) fun us s1 ⟨vs, H1, I1, r1, q1⟩ => ?_) hs hpl))
  obtain ⟨t1, t2, a1, a2, ev, ⟨xs, q1⟩, ⟨ys, q2⟩, q⟩ := q1
  subst ev
  obtain ⟨u1, u2, rfl, e1, e2⟩ : ∃ u1 u2, us = [u1, u2] ∧ RelV (.ref a1) u1 ∧ RelV (.ref a2) u2 := by
    cases r1 with
    | cons p r1 =>
      cases r1 with
      | cons p' r1 => cases r1; exact ⟨_, _, rfl, p, p'⟩
  cases e1
  cases e2
  obtain ⟨v1, w1, m1, l1⟩ := inv_seq I1 q1
  obtain ⟨v2, w2, m2, l2⟩ := inv_seq I1 q2
  refine zip_begins2 (beginsS t1 a1 v1.toArray) (beginsS t2 a2 v2.toArray) m1 m2 fun h' hz hTI hTO g1 g2 hsz hk => wpAny_pyIter_zip hz ?_
  have S := zip_sep2 (N := s1.heap.objs.size) (fp1 := [a1]) (fp2 := [a2]) (by simpa using l1) (by simpa using l2)
  have I2 : Inv X pins σ H1 { s1 with heap := h' } := I1.kept (t' := s1.toks) hk
  exact ⟨s1.heap.objs.size + 4, [s1.heap.objs.size + 4, s1.heap.objs.size + 2, s1.heap.objs.size + 3, s1.heap.objs.size, s1.heap.objs.size + 1], _, _, H1, rfl, I2, turn2 S (Nat.ne_of_lt l1) (Nat.ne_of_lt (Nat.lt_succ_of_lt l2)), ⟨hz, hTI, ⟨_, _, hTO⟩, .new g1, .new g2⟩,
    fresh_fp I1 (ge5 _), q⟩
theorem pi_1 {ta : TA} (hg : Gl X "enumerate") (hm : X.mg "enumerate" = none) (ha : PA X [a] ta) (hs : starEach [a] X.env = [(false, eval a X.env)]) :
    PI X (.Tuple elts kk tpos) (.Call (.Name "enumerate" p1) [a] [] pos) (i1 X.K ta) := by
  refine ⟨fun pins s σ H R I h => ?_⟩
  refine PyProof.Rows.Call_ (ld_blt I hg hm PyProof.Rows.boot_enumerate (PyProof.Rows.callWith_type1 (thn (ha.run pos pins s σ H _ I h) fun us s1 ⟨vs, H1, I1, r1, q1⟩ => ?_) hs rfl))
  obtain ⟨t1, a1, ev, ⟨xs, q1⟩, q⟩ := q1
  subst ev
  obtain ⟨u1, rfl, e1⟩ : ∃ u1, us = [u1] ∧ RelV (.ref a1) u1 := by
    cases r1 with
    | cons p r1 => cases r1; exact ⟨_, rfl, p⟩
  cases e1
  obtain ⟨v1, w1, m1, l1⟩ := inv_seq I1 q1
  refine enum_call (beginsS t1 a1 v1.toArray) m1 rfl fun h' he g1 hk => wpAny_pyIter_enum he ?_
  have I2 : Inv X pins σ H1 { s1 with heap := h' } := I1.kept (t' := s1.toks) hk
  exact ⟨s1.heap.objs.size + 1, [s1.heap.objs.size + 1, s1.heap.objs.size], _, _, H1, rfl, I2, turnE (Nat.ne_of_lt l1) (Nat.ne_of_lt (Nat.lt_succ_of_lt l1)) (Nat.succ_ne_self _), ⟨⟨.none, he⟩, .new g1⟩,
    fresh_fp I1 (ge2 _), q⟩
/-- arguments that are sequences, none of them owned -/
def EAs (X : Cx) (H0 : Hp) (ss : List Sl) (es : List Expr) (ts : List (Bool × List Dt)) : Prop :=
  ∀ (σ : L2.St) (H : Hp) (Q : List V → Hp → Prop), SR H0 H σ ss → (∀ (ps : List Addr) H', Ex H H' → ps.length = ts.length → (∀ (i : Nat) (p : Addr) (t : Bool × List Dt), ps[i]? = some p → ts[i]? = some t → NoOwn σ ss p ∧ sqAt H' t.1 p t.2) → Q (ps.map V.ref) H') → RA X es σ H Q
theorem eas_nil : EAs X H0 ss [] [] := fun σ H Q S k => ⟨_, pa_nil, k [] H (Evl.Ex.refl H) rfl fun i p t h _ => by simp at h⟩
theorem eas_cons {e : Expr} {es : List Expr} {tp : Bool} {l : List Dt} {ts : List (Bool × List Dt)} (h : ES X H0 ss e tp l) (hr : EAs X H0 ss es ts) (hs : starEach (e :: es) X.env = (false, eval e X.env) :: starEach es X.env := by rfl) : EAs X H0 ss (e :: es) ((tp, l) :: ts) := fun σ H Q S q =>
  ⟨_, pa_cons pe_any pa_any hs, h σ H _ S fun p H1 e1 no r1 => hr σ H1 _ (S.mono e1) fun ps H2 e2 lp r2 => q (p :: ps) H2 (e1.trans e2) (congrArg Nat.succ lp) fun i p' t hp ht => by
    cases i with
    | zero =>
      cases hp
      cases ht
      exact ⟨no, r1.mono e2⟩
    | succ i => exact r2 i p' t hp ht⟩
def zip3D (l1 l2 l3 : List Dt) : List Dt := (l1.zip (l2.zip l3)).map fun q => .tup [q.1, q.2.1, q.2.2]
def zip2D (l1 l2 : List Dt) : List Dt := (l1.zip l2).map fun q => .tup [q.1, q.2]
def enumD (l : List Dt) : List Dt := (List.range l.length).map fun i => .tup [.v (.int (i : Nat)), l.getD i (.v .non)]
theorem zip3D_len {l1 l2 l3 : List Dt} (h2 : l2.length = l1.length) (h3 : l3.length = l1.length) : (zip3D l1 l2 l3).length = l1.length := by simp [zip3D, h2, h3]
theorem zip2D_len {l1 l2 : List Dt} (h2 : l2.length = l1.length) : (zip2D l1 l2).length = l1.length := by simp [zip2D, h2]
theorem enumD_len {l : List Dt} : (enumD l).length = l.length := by simp [enumD]
theorem zip3D_get {l1 l2 l3 : List Dt} {i : Nat} {x y z : Dt} (h1 : l1[i]? = some x) (h2 : l2[i]? = some y) (h3 : l3[i]? = some z) : (zip3D l1 l2 l3)[i]? = some (.tup [x, y, z]) := by
  unfold zip3D
  have e2 : (l2.zip l3)[i]? = some (y, z) := List.getElem?_zip_eq_some.mpr ⟨h2, h3⟩
  have e1 : (l1.zip (l2.zip l3))[i]? = some (x, (y, z)) := List.getElem?_zip_eq_some.mpr ⟨h1, e2⟩
  rw [List.getElem?_map, e1] <;> rfl
theorem zip2D_get {l1 l2 : List Dt} {i : Nat} {x y : Dt} (h1 : l1[i]? = some x) (h2 : l2[i]? = some y) : (zip2D l1 l2)[i]? = some (.tup [x, y]) := by
  unfold zip2D
  have e1 : (l1.zip l2)[i]? = some (x, y) := List.getElem?_zip_eq_some.mpr ⟨h1, h2⟩
  rw [List.getElem?_map, e1] <;> rfl
theorem enumD_get {l : List Dt} {i : Nat} {x : Dt} (h1 : l[i]? = some x) : (enumD l)[i]? = some (.tup [.v (.int (i : Nat)), x]) := by
  have hl := (List.getElem?_eq_some_iff.mp h1).1
  unfold enumD
  rw [List.getElem?_map, List.getElem?_range hl]
  simp [h1]
theorem sq_b {K : PySem.W.Frag} {σ : L2.St} {H : Hp} (S : SR H0 H σ ss) {tp : Bool} {p : Addr} {l : List Dt} (n : NoOwn σ ss p) (h : sqAt H tp p l) :
    ∃ vs, RepL (baseOf σ ss H) l vs ∧ ∀ H', Ex (baseOf σ ss H) H' → sqr K H' tp p vs := by
  obtain ⟨vs, a, b⟩ := h.base S n
  exact ⟨vs, b, fun H' e => sqAt.r (l := l) (e _ _ a)⟩
theorem ix_zip3 {t1 t2 t3 : Bool} {l1 l2 l3 : List Dt} (h : EAs X H0 ss [a, b, c] [(t1, l1), (t2, l2), (t3, l3)]) (h2 : l2.length = l1.length) (h3 : l3.length = l1.length) (hm : X.mg "zip" = none) (hg : Gl X "zip" := by rfl)
    (hs : starEach [a, b, c] X.env = (false, eval a X.env) :: starEach [b, c] X.env := by rfl) (hpl : (backTo pos (starEach [b, c] X.env)).any (·.1) = false := by rfl) :
    IX X H0 (.Tuple elts kk tpos) (.Call (.Name "zip" p1) [a, b, c] [] pos) ss (zip3D l1 l2 l3) := fun σ H R S q =>
  ⟨_, pi_3 hg hm pa_any hs hpl, h σ H _ S fun ps H1 e1 lp r => by
    obtain ⟨q1, q2, q3, rfl⟩ : ∃ x y z, ps = [x, y, z] := by
      match ps, lp with
      | [x, y, z], _ => exact ⟨x, y, z, rfl⟩
    obtain ⟨o1, s1⟩ := r 0 q1 _ rfl rfl
    obtain ⟨o2, s2⟩ := r 1 q2 _ rfl rfl
    obtain ⟨o3, s3⟩ := r 2 q3 _ rfl rfl
    have S1 := S.mono e1
    obtain ⟨v1, r1, g1⟩ := sq_b (K := X.K) S1 o1 s1
    obtain ⟨v2, r2, g2⟩ := sq_b (K := X.K) S1 o2 s2
    obtain ⟨v3, r3, g3⟩ := sq_b (K := X.K) S1 o3 s3
    have m1 : v1.length = l1.length := r1.length
    have m2 : v2.length = l2.length := r2.length
    have m3 : v3.length = l3.length := r3.length
    refine ⟨t1, t2, t3, q1, q2, q3, rfl, ⟨_, g1 _ baseOf_ex⟩, ⟨_, g2 _ baseOf_ex⟩, ⟨_, g3 _ baseOf_ex⟩, q _ H1 _ e1 S1.exB S1.base ⟨?_⟩⟩
    rw [zip3D_len h2 h3]
    refine ⟨fun i H2 hi g => ?_, fun H2 g => ⟨v1, v2, v3, g1 _ g, g2 _ g, g3 _ g, m1.symm, by omega, by omega⟩, fun i H2 x H3 hi g y => ?_⟩
    · exact ⟨v1, v2, v3, _, _, _, g1 _ g, g2 _ g, g3 _ g, List.getElem?_eq_getElem (by omega), List.getElem?_eq_getElem (by omega), List.getElem?_eq_getElem (by omega)⟩
    · obtain ⟨T, x1, x2, x3, rfl, hT, rfl, y1, y2, y3⟩ := y
      obtain ⟨d1, a1, b1⟩ := r1.has (y1 _ (g1 _ g))
      obtain ⟨d2, a2, b2⟩ := r2.has (y2 _ (g2 _ g))
      obtain ⟨d3, a3, b3⟩ := r3.has (y3 _ (g3 _ g))
      have n := g.trans (Evl.Ex.new (o := .tup [x1, x2, x3]) hT)
      exact ⟨Evl.Ex.new hT, _, zip3D_get a1 a2 a3, rep_tup upd_same (.cons (b1.mono n) (.cons (b2.mono n) (.cons (b3.mono n) .nil)))⟩⟩
theorem ix_zip2 {t1 t2 : Bool} {l1 l2 : List Dt} (h : EAs X H0 ss [a, b] [(t1, l1), (t2, l2)]) (h2 : l2.length = l1.length) (hm : X.mg "zip" = none) (hg : Gl X "zip" := by rfl)
    (hs : starEach [a, b] X.env = (false, eval a X.env) :: starEach [b] X.env := by rfl) (hpl : (backTo pos (starEach [b] X.env)).any (·.1) = false := by rfl) :
    IX X H0 (.Tuple elts kk tpos) (.Call (.Name "zip" p1) [a, b] [] pos) ss (zip2D l1 l2) := fun σ H R S q =>
  ⟨_, pi_2 hg hm pa_any hs hpl, h σ H _ S fun ps H1 e1 lp r => by
    obtain ⟨q1, q2, rfl⟩ : ∃ x y, ps = [x, y] := by
      match ps, lp with
      | [x, y], _ => exact ⟨x, y, rfl⟩
    obtain ⟨o1, s1⟩ := r 0 q1 _ rfl rfl
    obtain ⟨o2, s2⟩ := r 1 q2 _ rfl rfl
    have S1 := S.mono e1
    obtain ⟨v1, r1, g1⟩ := sq_b (K := X.K) S1 o1 s1
    obtain ⟨v2, r2, g2⟩ := sq_b (K := X.K) S1 o2 s2
    have m1 : v1.length = l1.length := r1.length
    have m2 : v2.length = l2.length := r2.length
    refine ⟨t1, t2, q1, q2, rfl, ⟨_, g1 _ baseOf_ex⟩, ⟨_, g2 _ baseOf_ex⟩, q _ H1 _ e1 S1.exB S1.base ⟨?_⟩⟩
    rw [zip2D_len h2]
    refine ⟨fun i H2 hi g => ?_, fun H2 g => ⟨v1, v2, g1 _ g, g2 _ g, m1.symm, by omega⟩, fun i H2 x H3 hi g y => ?_⟩
    · exact ⟨v1, v2, _, _, g1 _ g, g2 _ g, List.getElem?_eq_getElem (by omega), List.getElem?_eq_getElem (by omega)⟩
    · obtain ⟨T, x1, x2, rfl, hT, rfl, y1, y2⟩ := y
      obtain ⟨d1, a1, b1⟩ := r1.has (y1 _ (g1 _ g))
      obtain ⟨d2, a2, b2⟩ := r2.has (y2 _ (g2 _ g))
      have n := g.trans (Evl.Ex.new (o := .tup [x1, x2]) hT)
      exact ⟨Evl.Ex.new hT, _, zip2D_get a1 a2, rep_tup upd_same (.cons (b1.mono n) (.cons (b2.mono n) .nil))⟩⟩
theorem ix_enum {t1 : Bool} {l1 : List Dt} (h : EAs X H0 ss [a] [(t1, l1)]) (hm : X.mg "enumerate" = none) (hg : Gl X "enumerate" := by rfl)
    (hs : starEach [a] X.env = [(false, eval a X.env)] := by rfl) :
    IX X H0 (.Tuple elts kk tpos) (.Call (.Name "enumerate" p1) [a] [] pos) ss (enumD l1) := fun σ H R S q =>
  ⟨_, pi_1 hg hm pa_any hs, h σ H _ S fun ps H1 e1 lp r => by
    obtain ⟨q1, rfl⟩ : ∃ x, ps = [x] := by
      match ps, lp with
      | [x], _ => exact ⟨x, rfl⟩
    obtain ⟨o1, s1⟩ := r 0 q1 _ rfl rfl
    have S1 := S.mono e1
    obtain ⟨v1, r1, g1⟩ := sq_b (K := X.K) S1 o1 s1
    have m1 : v1.length = l1.length := r1.length
    refine ⟨t1, q1, rfl, ⟨_, g1 _ baseOf_ex⟩, q _ H1 _ e1 S1.exB S1.base ⟨?_⟩⟩
    rw [enumD_len]
    refine ⟨fun i H2 hi g => ?_, fun H2 g => ⟨v1, g1 _ g, m1.symm⟩, fun i H2 x H3 hi g y => ?_⟩
    · exact ⟨v1, _, g1 _ g, List.getElem?_eq_getElem (by omega)⟩
    · obtain ⟨T, x1, rfl, hT, rfl, y1⟩ := y
      obtain ⟨d1, a1, b1⟩ := r1.has (y1 _ (g1 _ g))
      have n := g.trans (Evl.Ex.new (o := .tup [.int (i : Nat), x1]) hT)
      exact ⟨Evl.Ex.new hT, _, enumD_get a1, rep_tup upd_same (.cons .of (.cons (b1.mono n) .nil))⟩⟩
end
end K44
end

section
-- text Gy
set_option Elab.async false
set_option linter.all false
set_option maxRecDepth 100000
set_option maxHeartbeats 4000000
namespace K44
open PySem PySem.Spec L2
open Evl (Ex)
section
variable {X : Cx} {H0 : Hp} {ss : List Sl} {pos p1 p2 tpos : Pos} {a b c e tg it elt : Expr} {elts : List Expr} {kk : Nat} {b1 b2 sts body : List Stmt} {Nx : List Sl → Prop} {Rt : Kd → Prop}
theorem bx_guard {x : Bool} (h : ET X H0 ss c x) (h1 : x = true → BX X H0 b1 ss (fun _ => False) Rt) (h2 : x = false → BX X H0 sts ss Nx Rt) : BX X H0 (.If c b1 [] pos :: sts) ss Nx Rt := by
  refine bx_cons (Mid := fun s => x = false ∧ s = ss) (sx_if h (fun q => bx_mono (h1 q) fun _ z => z.elim) fun q => bx_nil ⟨q, rfl⟩) ?_
  rintro _ ⟨q, rfl⟩
  exact h2 q
theorem sx_for0 (hi : IX X H0 tg it ss []) (hp : PassesOwn (model X.prog X.w) X.A X.env X.xe := by exact PassesOwn.never) (hc : X.calm = true := by rfl) (hs : ∀ x, foldedSetIterable it X.env x = pure x := by intro _; rfl) : SX X H0 (.For tg it body [] pos) ss (fun s => s = ss) Rt :=
  sx_for (I := fun _ s => s = ss) hi rfl (fun i d Hb s1 h => by simp at h) hp hc hs
theorem sx_for1 {d : Dt} (hi : IX X H0 tg it ss [d]) (hb : ∀ Hb, Ex H0 Hb → ∃ js s2, GX X Hb tg js ss d s2 ∧ BX X Hb body s2 Nx Rt) (hp : PassesOwn (model X.prog X.w) X.A X.env X.xe := by exact PassesOwn.never) (hc : X.calm = true := by rfl) (hs : ∀ x, foldedSetIterable it X.env x = pure x := by intro _; rfl) : SX X H0 (.For tg it body [] pos) ss Nx Rt :=
  sx_for (I := fun i s => match i with | 0 => s = ss | _ + 1 => Nx s) hi rfl (fun i d' Hb s1 h e q => by
    match i with
    | 0 =>
      cases h
      cases q
      exact hb Hb e
    | i + 1 => simp at h) hp hc hs
theorem sx_for2 {d1 d2 : Dt} {Mid : List Sl → Prop} (hi : IX X H0 tg it ss [d1, d2]) (hb : ∀ Hb, Ex H0 Hb → ∃ js s2, GX X Hb tg js ss d1 s2 ∧ BX X Hb body s2 Mid Rt) (hb2 : ∀ Hb s1, Ex H0 Hb → Mid s1 → ∃ js s2, GX X Hb tg js s1 d2 s2 ∧ BX X Hb body s2 Nx Rt) (hp : PassesOwn (model X.prog X.w) X.A X.env X.xe := by exact PassesOwn.never) (hc : X.calm = true := by rfl) (hs : ∀ x, foldedSetIterable it X.env x = pure x := by intro _; rfl) : SX X H0 (.For tg it body [] pos) ss Nx Rt :=
  sx_for (I := fun i s => match i with | 0 => s = ss | 1 => Mid s | _ + 2 => Nx s) hi rfl (fun i d' Hb s1 h e q => by
    match i with
    | 0 =>
      cases h
      cases q
      exact hb Hb e
    | 1 =>
      cases h
      exact hb2 Hb s1 e q
    | i + 2 => simp at h) hp hc hs
theorem gx_tup2 {x y : Str} {d1 d2 : Dt} (i j : Nat) {px py : Pos} (hN : X.N.Nodup) (hc : X.calm = true := by rfl) (hi : X.N[i]? = some x := by rfl) (hj : X.N[j]? = some y := by rfl) (hx : Loc X.env.scope x := by first | exact Or.inl rfl | exact Or.inr rfl) (hy : Loc X.env.scope y := by first | exact Or.inl rfl | exact Or.inr rfl)
    (hf : X.fn x = true ∨ X.env.scope.names.lookup x = some .local := by first | exact .inl rfl | exact .inr rfl) (hf2 : X.fn y = true ∨ X.env.scope.names.lookup y = some .local := by first | exact .inl rfl | exact .inr rfl)
    (hn : (assignEach [.Name x px, .Name y py] X.env).length = 2 := by rfl) (hst : (assignEach [.Name x px, .Name y py] X.env).findIdx? (·.1) = none := by rfl)
    (h1 : (assignEach [.Name x px, .Name y py] X.env).map (·.2) = assign (.Name x px) X.env :: (assignEach [.Name y py] X.env).map (·.2) := by rfl) (h2 : (assignEach [.Name y py] X.env).map (·.2) = assign (.Name y py) X.env :: (assignEach [] X.env).map (·.2) := by rfl) :
    GX X H0 (.Tuple [.Name x px, .Name y py] kk pos) [i, j] ss (.tup [d1, d2]) ((ss.set i (.d d1)).set j (.d d2)) :=
  gx_tup (n := 2) (gxs_cons (gx_name i hN hi hx hf) (gxs_cons (gx_name j hN hj hy hf2) gxs_nil h2) h1) hc rfl hn hst
theorem gx_tup3 {x y z : Str} {d1 d2 d3 : Dt} (i j l : Nat) {px py pz : Pos} (hN : X.N.Nodup) (hc : X.calm = true := by rfl) (hi : X.N[i]? = some x := by rfl) (hj : X.N[j]? = some y := by rfl) (hl : X.N[l]? = some z := by rfl) (hx : Loc X.env.scope x := by first | exact Or.inl rfl | exact Or.inr rfl) (hy : Loc X.env.scope y := by first | exact Or.inl rfl | exact Or.inr rfl) (hz : Loc X.env.scope z := by first | exact Or.inl rfl | exact Or.inr rfl)
    (hf : X.fn x = true ∨ X.env.scope.names.lookup x = some .local := by first | exact .inl rfl | exact .inr rfl) (hf2 : X.fn y = true ∨ X.env.scope.names.lookup y = some .local := by first | exact .inl rfl | exact .inr rfl) (hf3 : X.fn z = true ∨ X.env.scope.names.lookup z = some .local := by first | exact .inl rfl | exact .inr rfl)
    (hn : (assignEach [.Name x px, .Name y py, .Name z pz] X.env).length = 3 := by rfl) (hst : (assignEach [.Name x px, .Name y py, .Name z pz] X.env).findIdx? (·.1) = none := by rfl)
    (h1 : (assignEach [.Name x px, .Name y py, .Name z pz] X.env).map (·.2) = assign (.Name x px) X.env :: (assignEach [.Name y py, .Name z pz] X.env).map (·.2) := by rfl) (h2 : (assignEach [.Name y py, .Name z pz] X.env).map (·.2) = assign (.Name y py) X.env :: (assignEach [.Name z pz] X.env).map (·.2) := by rfl) (h3 : (assignEach [.Name z pz] X.env).map (·.2) = assign (.Name z pz) X.env :: (assignEach [] X.env).map (·.2) := by rfl) :
    GX X H0 (.Tuple [.Name x px, .Name y py, .Name z pz] kk pos) [i, j, l] ss (.tup [d1, d2, d3]) (((ss.set i (.d d1)).set j (.d d2)).set l (.d d3)) :=
  gx_tup (n := 3) (gxs_cons (gx_name i hN hi hx hf) (gxs_cons (gx_name j hN hj hy hf2) (gxs_cons (gx_name l hN hl hz hf3) gxs_nil h3) h2) h1) hc rfl hn hst
theorem ex_isT {l : List Dt} {p3 : Pos} (h : EX X H0 ss a (.d (.tup l))) (hm : X.mg "isinstance" = none) (ht : X.mg "tuple" = none) (hg : Gl X "isinstance" := by rfl) (hg2 : Gl X "tuple" := by rfl) (he : starEach [a, .Name "tuple" p3] X.env = (false, eval a X.env) :: starEach [.Name "tuple" p3] X.env := by rfl) (he2 : starEach [.Name "tuple" p3] X.env = (false, eval (.Name "tuple" p3) X.env) :: starEach [] X.env := by rfl)
    (hpl : (backTo pos (starEach [.Name "tuple" p3] X.env)).any (·.1) = false := by rfl) : EX X H0 ss (.Call (.Name "isinstance" p1) [a, .Name "tuple" p3] [] pos) (.d (.v (.bl true))) :=
  ex_isi (d := .tup l) (T := "tuple") h (ex_gty ht (by decide +kernel) hg2) rfl kb_tt hm hg he he2 hpl
theorem ex_isS {z : Str} {p3 : Pos} (h : EX X H0 ss a (.d (.v (.str z)))) (hm : X.mg "isinstance" = none) (ht : X.mg "str" = none) (hg : Gl X "isinstance" := by rfl) (hg2 : Gl X "str" := by rfl) (he : starEach [a, .Name "str" p3] X.env = (false, eval a X.env) :: starEach [.Name "str" p3] X.env := by rfl) (he2 : starEach [.Name "str" p3] X.env = (false, eval (.Name "str" p3) X.env) :: starEach [] X.env := by rfl)
    (hpl : (backTo pos (starEach [.Name "str" p3] X.env)).any (·.1) = false := by rfl) : EX X H0 ss (.Call (.Name "isinstance" p1) [a, .Name "str" p3] [] pos) (.d (.v (.bl true))) :=
  ex_isi (d := .v (.str z)) (T := "str") h (ex_gty ht (by decide +kernel) hg2) rfl kb_ss hm hg he he2 hpl
/-- x not in T, T a tuple of the module -/
theorem ex_notInK {x : V} {xs : List V} {C : Addr} (ha : EX X H0 ss a (.d (.v x))) (hb : EX X H0 ss b (.d (.v (.ref C)))) (hC : ∀ H, SqT X.K H C xs) (hx : flatV x = true) (hs : xs.all flatV = true) (hm : behindInMarks .NotIn b = false := by rfl) : EX X H0 ss (.Compare a [.NotIn] [b] pos) (.d (.v (.bl (!inV x xs)))) :=
  ex_cmp op_notIn_seq hm ha hb fun H Q q => ⟨C, xs, rfl, .inr (hC H), hx, hs, q⟩
theorem et_notInK {x : V} {xs : List V} {C : Addr} (ha : EX X H0 ss a (.d (.v x))) (hb : EX X H0 ss b (.d (.v (.ref C)))) (hC : ∀ H, SqT X.K H C xs) (hx : flatV x = true) (hs : xs.all flatV = true) (hm : behindInMarks .NotIn b = false := by rfl) : ET X H0 ss (.Compare a [.NotIn] [b] pos) (!inV x xs) :=
  et_cmp op_notIn_seq hm ha hb fun H Q q => ⟨C, xs, rfl, .inr (hC H), hx, hs, q⟩
end
end K44
end

section
-- text Gz
set_option Elab.async false
set_option linter.all false
set_option maxRecDepth 100000
set_option maxHeartbeats 4000000
/-! equality of data, texts. -/
namespace K44
open PySem PySem.Spec L2
open Evl (Ex)
mutual
def toP : Dt → PyData
  | .v .non => .none
  | .v (.bl b) => .bool b
  | .v (.int i) => .int i
  | .v (.str x) => .str x
  | .v _ => .none
  | .tup ds => .tuple (toPs ds)
def toPs : List Dt → List PyData
  | [] => []
  | d :: ds => toP d :: toPs ds
end
mutual
def okP : Dt → Bool
  | .v .non | .v (.bl _) | .v (.int _) | .v (.str _) => true
  | .v _ => false
  | .tup ds => okPs ds
def okPs : List Dt → Bool
  | [] => true
  | d :: ds => okP d && okPs ds
end
mutual
theorem dp_of {K : PySem.W.Frag} {H : Hp} : ∀ {d : Dt} {y : V}, Rep H d y → okP d = true → Dp K H y (toP d)
  | .v x, y, h, o => by
    have e := h.flat
    subst e
    cases y with
    | non => exact .non
    | bl b => exact .bl b
    | int i => exact .int i
    | str z => exact .str z
    | _ => simp [okP] at o
  | .tup ds, y, h, o => by
    obtain ⟨p, vs, rfl, hp, r⟩ := rep_tupI h
    unfold toP
    exact .tup (SqT.of hp) (dps_of r (by unfold okP at o; exact o))
theorem dps_of {K : PySem.W.Frag} {H : Hp} : ∀ {ds : List Dt} {vs : List V}, RepL H ds vs → okPs ds = true → DpAll K H vs (toPs ds)
  | [], vs, h, o => by
    rw [h.inv0]
    unfold toPs
    exact .nil
  | d :: ds, vs, h, o => by
    obtain ⟨y, ys, rfl, a, b⟩ := h.inv
    unfold okPs at o
    obtain ⟨o1, o2⟩ := Bool.and_eq_true_iff.mp o
    unfold toPs
    exact .cons (dp_of a o1) (dps_of b o2)
end
/-- data of a value, of a list -/
def kP : Kd → PyData
  | .d d => toP d
  | .r l | .nl l => .list (toPs l)
  | _ => .none
def kO : Kd → Bool
  | .d d => okP d
  | .r l | .nl l => okPs l
  | _ => false
theorem dp_k {K : PySem.W.Frag} {H0 H : Hp} {k : Kd} {y : V} (h : Is H0 H k y) (o : kO k = true) : Dp K H y (kP k) := by
  cases k with
  | d d => exact dp_of (H := H) h o
  | r l => obtain ⟨p, rfl, vs, hp, r⟩ := h; exact .lst (SqL.of hp) (dps_of r o)
  | nl l => obtain ⟨p, rfl, _, vs, hp, r⟩ := h; exact .lst (SqL.of hp) (dps_of r o)
  | rm ks => cases o
  | nm ks => cases o
  | o P => cases o
section
variable {X : Cx} {H0 : Hp} {ss : List Sl} {pos p1 p2 tpos : Pos} {a b c e tg it elt : Expr} {elts : List Expr} {kk : Nat} {b1 b2 sts body : List Stmt} {Nx : List Sl → Prop} {Rt : Kd → Prop}
theorem ag_is {H : Hp} {k : Kd} {y : V} (h : Ag H k y) : Is H H k.rd y := h
theorem kO_rd {k : Kd} (h : kO k = true) : kO k.rd = true ∧ kP k.rd = kP k := by cases k <;> first | exact ⟨h, rfl⟩ | cases h
theorem et_eqD {k l : Kd} {x : Bool} (hu : X.A.units + 64 < cLine) (ha : EX X H0 ss a k) (hb : EX X H0 ss b l) (hq : PyData.eqv (kP k) (kP l) = x) (o1 : kO k = true := by rfl) (o2 : kO l = true := by rfl) (s1 : SeqAt.shaped (kP k) = true := by rfl) (s2 : SeqAt.shaped (kP l) = true := by rfl) : ET X H0 ss (.Compare a [.Eq] [b] pos) x := fun σ H Q S q =>
  ⟨_, pt_cmpR (op_eqD hu) pe_any pe_any (nomark _), ha σ H _ S fun u H1 e1 r1 => hb σ H1 _ (S.mono e1) fun v H2 e2 r2 => by
    have d1 := dp_k (K := X.K) (ag_is ((r1.ag).mono e2)) (kO_rd o1).1
    rw [(kO_rd o1).2] at d1
    exact ⟨_, _, d1, dp_k r2 o2, s1, s2, x, by rw [hq], q H2 (e1.trans e2)⟩⟩
theorem et_neD {k l : Kd} {x : Bool} (hu : X.A.units + 64 < cLine) (ha : EX X H0 ss a k) (hb : EX X H0 ss b l) (hq : PyData.eqv (kP k) (kP l) = x) (o1 : kO k = true := by rfl) (o2 : kO l = true := by rfl) (s1 : SeqAt.shaped (kP k) = true := by rfl) (s2 : SeqAt.shaped (kP l) = true := by rfl) : ET X H0 ss (.Compare a [.NotEq] [b] pos) (!x) := fun σ H Q S q =>
  ⟨_, pt_cmpR (op_neD hu) pe_any pe_any (nomark _), ha σ H _ S fun u H1 e1 r1 => hb σ H1 _ (S.mono e1) fun v H2 e2 r2 => by
    have d1 := dp_k (K := X.K) (ag_is ((r1.ag).mono e2)) (kO_rd o1).1
    rw [(kO_rd o1).2] at d1
    exact ⟨_, _, d1, dp_k r2 o2, s1, s2, !x, by rw [hq], q H2 (e1.trans e2)⟩⟩

/-! ### texts -/
theorem ex_addS {x y : Str} (ha : EX X H0 ss a (.d (.v (.str x)))) (hb : EX X H0 ss b (.d (.v (.str y)))) (h : x.length + y.length ≤ sizeLine) : EX X H0 ss (.BinOp a .Add b pos) (.d (.v (.str (x ++ y)))) :=
  ex_bin op_add_str ha hb fun H Q q => ⟨x, y, rfl, rfl, h, q⟩
theorem ex_fmtS {x : Str} (h : EX X H0 ss e (.d (.v (.str x)))) (hz : x.length ≤ sizeLine) : EX X H0 ss (.FormattedValue e (-1) none pos) (.d (.v (.str x))) := fun σ H Q S q =>
  ⟨_, pe_fmt pe_any, h σ H _ S fun u H1 e1 r1 => .inl ⟨x, isv r1, hz, q _ H1 e1 (is_v (H := H))⟩⟩
theorem ex_fmtI {i : Int} (h : EX X H0 ss e (.d (.v (.int i)))) (hz : i.natAbs.log2 < 1920) : EX X H0 ss (.FormattedValue e (-1) none pos) (.d (.v (.str (toString i)))) := fun σ H Q S q =>
  ⟨_, pe_fmt pe_any, h σ H _ S fun u H1 e1 r1 => .inr ⟨i, isv r1, hz, q _ H1 e1 (is_v (H := H))⟩⟩
/-- the parts of an f-string -/
inductive EJ (X : Cx) (H0 : Hp) (ss : List Sl) : List Expr → List Str → Prop where
  | nil : EJ X H0 ss [] []
  | cons {e : Expr} {es : List Expr} {x : Str} {xs : List Str} (h : EX X H0 ss e (.d (.v (.str x)))) (r : EJ X H0 ss es xs) : EJ X H0 ss (e :: es) (x :: xs)
def glue : Str → List Str → Str
  | acc, [] => acc
  | acc, x :: xs => glue (acc ++ x) xs
theorem ej_run {es : List Expr} {xs : List Str} (h : EJ X H0 ss es xs) : ∃ ts, PJ X es ts ∧ ∀ (acc : Str) (σ : L2.St) (H : Hp) (Q : Str → Hp → Prop), SR H0 H σ ss → acc.length + (xs.map (·.length)).sum ≤ sizeLine → (∀ H', Ex H H' → Q (glue acc xs) H') → tJs ts acc σ H Q := by
  induction h with
  | nil => exact ⟨[], .nil, fun acc σ H Q S _ q => q H (Evl.Ex.refl H)⟩
  | @cons e es x xs h r ih =>
    obtain ⟨ts, p, f⟩ := ih
    refine ⟨_ :: ts, .cons pe_any p, fun acc σ H Q S hz q => ?_⟩
    have ez : (acc ++ x).length = acc.length + x.length := Str.length_append acc x
    have hz' : acc.length + (x.length + (xs.map (·.length)).sum) ≤ sizeLine := by simpa using hz
    exact h σ H _ S fun u H1 e1 r1 => ⟨x, isv r1, by omega, f (acc ++ x) σ H1 Q (S.mono e1) (by omega) fun H2 e2 => q H2 (e1.trans e2)⟩
theorem ex_fstr {v1 v2 : Expr} {rest : List Expr} {xs : List Str} (h : EJ X H0 ss (v1 :: v2 :: rest) xs) (hz : (xs.map (·.length)).sum ≤ sizeLine) : EX X H0 ss (.JoinedStr (v1 :: v2 :: rest) pos) (.d (.v (.str (glue Str.empty xs)))) := fun σ H Q S q => by
  obtain ⟨ts, p, f⟩ := ej_run h
  exact ⟨_, pe_joined p, f Str.empty σ H _ S (by rw [show Str.empty.length = 0 from rfl]; omega) fun H1 e1 => q _ H1 e1 (is_v (H := H))⟩
theorem glue_len : ∀ (xs : List Str) (acc : Str), (glue acc xs).length = acc.length + (xs.map (·.length)).sum
  | [], acc => by simp [glue]
  | x :: xs, acc => by
    unfold glue
    rw [glue_len xs, Str.length_append]
    simp [Nat.add_assoc]
def strsD (zs : List Str) : List Dt := zs.map fun z => .v (.str z)
theorem ex_join {x : Str} {k : Kd} {zs : List Str} {pa : Pos} (ha : EX X H0 ss a (.d (.v (.str x)))) (hb : EX X H0 ss b k) (s : isL k (strsD zs)) (hz : (zs.map (·.length)).sum + zs.length * x.length ≤ 16777216) (hs : starEach [b] X.env = [(false, eval b X.env)] := by rfl)
    (hbase : attributeBase a "join" X.env (eval a X.env) = eval a X.env := by rfl) (hline : (pa.endLine == pos.line) = true := by rfl) : EX X H0 ss (.Call (.Attribute a "join" pa) [b] [] pos) (.d (.v (.str (Txt.join x zs)))) := fun σ H Q S q =>
  ⟨_, pe_join pe_any pe_any hs hbase hline, ha σ H _ S fun u H1 e1 r1 => ⟨⟨x, isv r1⟩, hb σ H1 _ (S.mono e1) fun v H2 e2 r2 => by
    obtain ⟨p, us, rfl, hp, r⟩ := isL_ag s r2.ag
    rw [RepL.flat V.str r] at hp
    exact ⟨x, p, zs, isv r1, rfl, .inl (SqL.of hp), hz, q _ H2 (e1.trans e2) (is_v (H := H))⟩⟩⟩
end
end K44
end

section
-- text Gz2
set_option Elab.async false
set_option linter.all false
set_option maxRecDepth 100000
set_option maxHeartbeats 4000000
/-! texts' signs, slices, extend, tuple * int. -/
namespace K44
open PySem PySem.Spec L2 PyProof.Rows
open Evl (Ex)
theorem list_extend_tupW (l : Addr) (items : Array Value) (n : Nat) (b : Addr) (items2 : Array Value) (n2 : Nat) (dd : Option Addr) (sl : Array (Option Value)) (hs0 : ¬(!items.isEmpty && Builtin.List.listTooLong (items.size + items2.size)) = true) (hs1 : items.size ≤ sizeLine) (hs2 : items.size + items2.size ≤ sizeLine + 1) :
    Meets (Builtin.«list.extend» ⟨[.ref l, .ref b], []⟩) (fun _ R s => s.heap.get? l = some { cls := .type "list", dict := none, data := .seq items n, slots := #[] } ∧ s.heap.get? b = some { cls := .type "tuple", dict := dd, data := .seq items2 n2, slots := sl } ∧ R (.ok (.ret Value.none)) { s with heap := s.heap.update l (Obj.mapSeq fun x => x ++ items2), toks := s.toks }) :=
  .of_wp fun prog w A R s h => by
    obtain ⟨hp, g, d, tk, os⟩ := s; obtain ⟨hl, hb, h⟩ := h; have f1 := AutoSeq1.idx_int; have f2 := AutoSeq1.sub_tuple_tuple; have f3 := AutoSeq1.sub_list_list; have f4 := AutoSeq1.sub_tuple_list; have f5 := AutoSeq1.sub_list_tuple
    have hz' : (items ++ items2).size ≤ sizeLine + 1 := by rw [Array.size_append]; exact hs2
    wp_walk using (wpAny_updateSeq hl rfl (hz := hs1) (_hz' := hz')), AutoSeq1.wpAny_loadPart' hl, AutoSeq1.wpAny_loadPart' hb; exact ⟨_, rfl, h⟩
def rExtT (K : PySem.W.Frag) : V → List V → Hp → VK → Prop := fun x vs H Q => ∃ l b xs zs, x = .ref l ∧ vs = [.ref b] ∧ H l = some (.lst xs) ∧ SqT K H b zs ∧ xs.length + zs.length ≤ sizeLine ∧ Q .non (upd H l (.lst (xs ++ zs)))
theorem mt_extT {X : Cx} : MtM X "list.extend" (rExtT X.K) := by
  intro pins s σ H x vs v us Q I rx rv h
  obtain ⟨l, b, xs, zs, rfl, rfl, hH, hB, hz, q⟩ := h
  cases rx
  obtain ⟨u, rfl, ru⟩ := rv.one
  cases ru
  obtain ⟨z, its, n, r, hl, e⟩ := I.lstM hH
  obtain ⟨its2, r2, ⟨⟨cls, dd, data, sl⟩, e2, hc, n2, hd⟩, z2⟩ := I.tuple hB
  simp only at hc hd
  subst hc hd
  have hl2 := r2.length
  have hsz : its.toArray.size + its2.toArray.size ≤ sizeLine := by rw [List.size_toArray, List.size_toArray]; omega
  have hlong : ¬ (!its.toArray.isEmpty && Builtin.List.listTooLong (its.toArray.size + its2.toArray.size)) = true := by
    rw [notLongL hsz, Bool.and_false]
    exact Bool.false_ne_true
  refine call_meets F.slot_list_extend ⟨_, e, rfl⟩ F.entry_list_extend (F.args_list_extend_2 _ _)
    (list_extend_tupW l its.toArray n b its2.toArray n2 dd sl hlong (by rw [List.size_toArray]; omega) (by omega)) ⟨e, e2, ?_⟩
  refine ⟨.non, _, I.lset (its' := its ++ its2) hH e (by simp) (r.append r2) ?_, rfl, q⟩
  rw [List.length_append]
  omega
theorem tuple_mul1W (l : Addr) (items : Array Value) (n : Nat) (dd : Option Addr) (sl : Array (Option Value)) (u : Tok) :
    Meets (Builtin.«tuple.__mul__» ⟨[.ref l, .int 1 u], []⟩) (fun _ R s => s.heap.get? l = some { cls := .type "tuple", dict := dd, data := .seq items n, slots := sl } ∧ R (.ok (.ret (Value.ref l))) s) :=
  .of_wp fun prog w A R s h => by
    obtain ⟨hp, g, d, tk, os⟩ := s
    obtain ⟨hl, h⟩ := h
    have f1 := AutoSeq1.idx_int
    have f2 := AutoSeq1.sub_tuple_tuple
    have c1 : (items.isEmpty || (1 : Int) == 1) = true := by simp
    wp_walk using wpAny_loadPart' hl
    repeat (first
      | (refine wpAny_ite_true (decide_eq_true c1) ?_; wp_walk using wpAny_loadPart' hl))
    exact ⟨_, rfl, h⟩

theorem op_rep1T {X : Cx} : OpR X (binaryOp .Mult) (fun x y H Q => ∃ l xs, x = .ref l ∧ y = .int 1 ∧ SqT X.K H l xs ∧ Q (.ref l) H) := by
  intro pins s σ H x y v u Q I rx ry h
  obtain ⟨l, xs, rfl, rfl, hT, q⟩ := h
  cases rx
  obtain ⟨t, rfl⟩ := ry
  obtain ⟨its, r, ⟨⟨cls, dd, data, sl⟩, ho, hc, n, hd⟩, hs⟩ := I.tuple hT
  simp only at hc hd
  subst hc hd
  exact wpAny_binaryOp_repeat_ref (T := "tuple") (U := "int") (by decide) ⟨_, ho, rfl⟩ (fun s' => typeIs_int s' 1 t) noFill_tuple_mul F.fills_int_mul F.slot_int_rmul repeat_tuple F.slot_int_index.lookup
    (call_meets F.slot_int_rmul (typeIs_int s 1 t) F.entry_int_rmul (F.args_int_rmul_2 _ _) (int_rmul_tuple 1 t l its.toArray n dd sl)
      ⟨ho, rfl, ⟨_, ho, rfl⟩, call_meets F.slot_tuple_mul ⟨_, ho, rfl⟩ F.entry_tuple_mul (F.args_tuple_mul_2 _ _) (tuple_mul1W l its.toArray n dd sl t) ⟨ho, ⟨.ref l, H, I, rfl, q⟩⟩⟩)
theorem RepL.drop {H : Hp} : ∀ {l : List Dt} {vs : List V} (n : Nat), RepL H l vs → RepL H (l.drop n) (vs.drop n)
  | l, vs, 0, h => h
  | [], vs, n + 1, h => by rw [h.inv0]; exact .nil
  | d :: l, vs, n + 1, h => by
    obtain ⟨y, ys, rfl, a, b⟩ := h.inv
    exact RepL.drop n b
theorem RepL.take {H : Hp} : ∀ {l : List Dt} {vs : List V} (n : Nat), RepL H l vs → RepL H (l.take n) (vs.take n)
  | l, vs, 0, h => .nil
  | [], vs, n + 1, h => by rw [h.inv0]; exact .nil
  | d :: l, vs, n + 1, h => by
    obtain ⟨y, ys, rfl, a, b⟩ := h.inv
    exact .cons a (RepL.take n b)
def cutD {α : Type} (xs : List α) (lo hi : Option Int) : List α := (xs.drop (HT.sIx xs.length 0 lo)).take (HT.sIx xs.length xs.length hi - HT.sIx xs.length 0 lo)
theorem RepL.cut {H : Hp} {l : List Dt} {vs : List V} (h : RepL H l vs) (lo hi : Option Int) : RepL H (cutD l lo hi) (cutV vs lo hi) := by
  unfold cutD cutV
  rw [h.length]
  exact (h.drop _).take _
theorem RepL.rep {H : Hp} {l : List Dt} {vs : List V} (h : RepL H l vs) : ∀ k : Nat, RepL H (List.replicate k l).flatten (List.replicate k vs).flatten
  | 0 => .nil
  | k + 1 => by
    rw [List.replicate_succ, List.replicate_succ, List.flatten_cons, List.flatten_cons]
    exact h.append (h.rep k)
section
variable {X : Cx} {H0 : Hp} {ss : List Sl} {pos p1 p2 tpos : Pos} {a b c e tg it elt : Expr} {elts : List Expr} {kk : Nat} {b1 b2 sts body : List Stmt} {Nx : List Sl → Prop} {Rt : Kd → Prop}
theorem ex_ixS {x : Str} {i : Nat} {z : Nat} (ha : EX X H0 ss a (.d (.v (.str x)))) (hb : EX X H0 ss b (.d (.v (.int i)))) (h : x.cps[i]? = some z) (hl : i < 1000000) (hs : PlainIxT b := by exact fun _ _ => rfl) : EX X H0 ss (.Subscript a b pos) (.d (.v (.str ⟨#[z]⟩))) := fun σ H Q S k =>
  ⟨_, pe_item_str pe_any pe_any hs, ha σ H _ S fun u H1 e1 r1 => hb σ H1 _ (S.mono e1) fun w H2 e2 r2 => by
    refine ⟨x, i, z, isv r1, isv r2, by omega, by omega, ?_, by simpa using h, k _ H2 (e1.trans e2) (is_v (H := H))⟩
    have := (Array.getElem?_eq_some_iff.mp h).1
    show (i : Int) < ((x.cps.size : Nat) : Int)
    omega⟩
theorem et_notInS {z : Nat} {y : Str} (ha : EX X H0 ss a (.d (.v (.str ⟨#[z]⟩)))) (hb : EX X H0 ss b (.d (.v (.str y)))) (hm : behindInMarks .NotIn b = false := by rfl) : ET X H0 ss (.Compare a [.NotIn] [b] pos) (!decide (z ∈ y.cps.toList)) :=
  et_cmp op_notIn_sign hm ha hb fun H Q q => ⟨z, y, rfl, rfl, q⟩
theorem ex_inS {z : Nat} {y : Str} (ha : EX X H0 ss a (.d (.v (.str ⟨#[z]⟩)))) (hb : EX X H0 ss b (.d (.v (.str y)))) (hm : behindInMarks .In b = false := by rfl) : EX X H0 ss (.Compare a [.In] [b] pos) (.d (.v (.bl (decide (z ∈ y.cps.toList))))) :=
  ex_cmp op_in_sign hm ha hb fun H Q q => ⟨z, y, rfl, rfl, q⟩
/-- a <= b <= c -/
theorem et_chainLe {i j k : Int} (ha : EX X H0 ss a (.d (.v (.int i)))) (hb : EX X H0 ss b (.d (.v (.int j)))) (hc : EX X H0 ss c (.d (.v (.int k)))) (hm : lastMarks [.LtE, .LtE] [b, c] = false := by with_unfolding_all rfl) : ET X H0 ss (.Compare a [.LtE, .LtE] [b, c] pos) (decide (i ≤ j) && decide (j ≤ k)) := fun σ H Q S q =>
  ⟨_, pt_chain op_le op_le pe_any pe_any pe_any hm, ha σ H _ S fun u H1 e1 r1 => hb σ H1 _ (S.mono e1) fun w H2 e2 r2 => by
    rw [isv r1, isv r2]
    refine ⟨i, j, rfl, rfl, _, rfl, ?_⟩
    by_cases z : i ≤ j
    · rw [decide_eq_true z]
      refine iteT (hc σ H2 _ ((S.mono e1).mono e2) fun y H3 e3 r3 => ?_)
      rw [isv r3]
      exact ⟨j, k, rfl, rfl, _, rfl, by have := q _ ((e1.trans e2).trans e3); rw [decide_eq_true z, Bool.true_and] at this; exact this⟩
    · rw [decide_eq_false z]
      exact iteF ⟨false, rfl, by have := q _ (e1.trans e2); rw [decide_eq_false z, Bool.false_and] at this; exact this⟩⟩
/-- the signs of a text, one by one -/
def signsD (x : Str) : List Dt := x.cps.toList.map fun c => .v (.str ⟨#[c]⟩)
theorem ix_str {x : Str} (h : EX X H0 ss e (.d (.v (.str x)))) : IX X H0 tg e ss (signsD x) := fun σ H R S q =>
  ⟨_, pi_str pe_any, h σ H _ S fun u H1 e1 r1 => by
    have S1 := S.mono e1
    refine ⟨x, isv r1, q _ H1 _ e1 S1.exB S1.base ⟨?_⟩⟩
    have l : (signsD x).length = x.cps.size := by simp [signsD]
    rw [l]
    exact walk_str.mono (fun _ _ => trivial) fun i H2 v H3 hi g y => by
      obtain ⟨rfl, c, hc, rfl⟩ := y
      refine ⟨Evl.Ex.refl _, _, ?_, .of⟩
      simp [signsD, hc]⟩
/-- in, not in: a sequence of flat values -/
theorem ex_notInL {x : V} {k : Kd} {xs : List V} (ha : EX X H0 ss a (.d (.v x))) (hb : EX X H0 ss b k) (s : Sq k (xs.map Dt.v)) (hx : flatV x = true) (hs : xs.all flatV = true) (hm : behindInMarks .NotIn b = false := by rfl) : ET X H0 ss (.Compare a [.NotIn] [b] pos) (!inV x xs) := fun σ H Q S q =>
  ⟨_, pt_cmpR op_notIn_seq pe_any pe_any hm, ha σ H _ S fun u H1 e1 r1 => hb σ H1 _ (S.mono e1) fun w H2 e2 r2 => by
    obtain ⟨p, vs, rfl, g, r⟩ := sq_ag (K := X.K) s r2.ag
    have := RepL.flat (H := H2) id (ns := xs) (vs := vs) r
    rw [List.map_id] at this
    rw [isv r1]
    exact ⟨p, vs, rfl, g, hx, this ▸ hs, _, rfl, by rw [this]; exact q _ (e1.trans e2)⟩⟩
theorem et_inL {x : V} {k : Kd} {xs : List V} (ha : EX X H0 ss a (.d (.v x))) (hb : EX X H0 ss b k) (s : Sq k (xs.map Dt.v)) (hx : flatV x = true) (hs : xs.all flatV = true) (hm : behindInMarks .In b = false := by rfl) : ET X H0 ss (.Compare a [.In] [b] pos) (inV x xs) := fun σ H Q S q =>
  ⟨_, pt_cmpR op_in_seq pe_any pe_any hm, ha σ H _ S fun u H1 e1 r1 => hb σ H1 _ (S.mono e1) fun w H2 e2 r2 => by
    obtain ⟨p, vs, rfl, g, r⟩ := sq_ag (K := X.K) s r2.ag
    have := RepL.flat (H := H2) id (ns := xs) (vs := vs) r
    rw [List.map_id] at this
    rw [isv r1]
    exact ⟨p, vs, rfl, g, hx, this ▸ hs, _, rfl, by rw [this]; exact q _ (e1.trans e2)⟩⟩
theorem ex_inL {x : V} {k : Kd} {xs : List V} (ha : EX X H0 ss a (.d (.v x))) (hb : EX X H0 ss b k) (s : Sq k (xs.map Dt.v)) (hx : flatV x = true) (hs : xs.all flatV = true) (hm : behindInMarks .In b = false := by rfl) : EX X H0 ss (.Compare a [.In] [b] pos) (.d (.v (.bl (inV x xs)))) := fun σ H Q S q =>
  ⟨_, pe_cmpR op_in_seq pe_any pe_any hm, ha σ H _ S fun u H1 e1 r1 => hb σ H1 _ (S.mono e1) fun w H2 e2 r2 => by
    obtain ⟨p, vs, rfl, g, r⟩ := sq_ag (K := X.K) s r2.ag
    have := RepL.flat (H := H2) id (ns := xs) (vs := vs) r
    rw [List.map_id] at this
    rw [isv r1]
    exact ⟨p, vs, rfl, g, hx, this ▸ hs, by rw [this]; exact q _ _ (e1.trans e2) (is_v (H := H))⟩⟩
/-! ### slices -/
def RO (X : Cx) (e : Option Expr) : L2.TO := fun σ H Q => ∃ t, PO X e t ∧ t σ H Q
theorem po_any {e : Option Expr} : PO X e (RO X e) := ⟨fun pins s σ H Q I ⟨_, p, q⟩ => p.run pins s σ H Q I q⟩
def EO (X : Cx) (H0 : Hp) (ss : List Sl) (e : Option Expr) (o : Option Int) : Prop :=
  ∀ (σ : L2.St) (H : Hp) (Q : Option Int → Hp → Prop), SR H0 H σ ss → (∀ H', Ex H H' → Q o H') → RO X e σ H Q
theorem eo_none : EO X H0 ss none none := fun σ H Q S q => ⟨_, po_none, q H (Evl.Ex.refl H)⟩
theorem eo_some {i : Int} (h : EX X H0 ss e (.d (.v (.int i)))) : EO X H0 ss (some e) (some i) := fun σ H Q S q =>
  ⟨_, po_some pe_any, h σ H _ S fun u H1 e1 r1 => ⟨i, isv r1, q H1 e1⟩⟩
theorem ex_slT {l : List Dt} {lo hi : Option Expr} {u v : Option Int} (ha : EX X H0 ss a (.d (.tup l))) (h1 : EO X H0 ss lo u) (h2 : EO X H0 ss hi v) : EX X H0 ss (.Subscript a (.Slice lo hi none p2) pos) (.d (.tup (cutD l u v))) := fun σ H Q S q =>
  ⟨_, pe_slice sl_tupA pe_any po_any po_any, ha σ H _ S fun x H1 e1 r1 => h1 σ H1 _ (S.mono e1) fun H2 e2 => h2 σ H2 _ ((S.mono e1).mono e2) fun H3 e3 => by
    obtain ⟨p, vs, rfl, hp, r⟩ := rep_tupI (H := H1) r1
    have hp3 := e3 _ _ (e2 _ _ hp)
    have r3 := (r.mono e2).mono e3
    have ee := (e1.trans e2).trans e3
    refine ⟨p, vs, rfl, SqT.of hp3, fun w => q _ H3 ee (rep_tup (H := H3) hp3 ?_), fun w p' hp' => q _ _ (ee.trans (Evl.Ex.new hp')) (rep_tup upd_same ((r3.cut u v).mono (Evl.Ex.new hp')))⟩
    have := r3.cut u v
    unfold cutV at this
    rw [w.1, w.2] at this
    simpa using this⟩
theorem ex_slL {l : List Dt} {k : Kd} {lo hi : Option Expr} {u v : Option Int} (ha : EX X H0 ss a k) (s : isL k l) (h1 : EO X H0 ss lo u) (h2 : EO X H0 ss hi v) : EX X H0 ss (.Subscript a (.Slice lo hi none p2) pos) (.nl (cutD l u v)) := fun σ H Q S q =>
  ⟨_, pe_slice sl_list pe_any po_any po_any, ha σ H _ S fun x H1 e1 r1 => h1 σ H1 _ (S.mono e1) fun H2 e2 => h2 σ H2 _ ((S.mono e1).mono e2) fun H3 e3 => by
    obtain ⟨p, vs, rfl, hp, r⟩ := isL_ag s r1.ag
    have hp3 := e3 _ _ (e2 _ _ hp)
    have r3 := (r.mono e2).mono e3
    have ee := (e1.trans e2).trans e3
    exact ⟨p, vs, rfl, SqL.of hp3, fun p' hp' => q _ _ (ee.trans (Evl.Ex.new hp')) ⟨p', rfl, Evl.fresh_back ee hp', _, upd_same, (r3.cut u v).mono (Evl.Ex.new hp')⟩⟩⟩
/-! ### repetition -/
theorem ex_repT {l : List Dt} {k : Nat} (ha : EX X H0 ss a (.d (.tup l))) (hb : EX X H0 ss b (.d (.v (.int k)))) (h : l ≠ []) (hk : 1 ≤ k ∧ k ≤ 1000) (hl : l.length ≤ 1000) : EX X H0 ss (.BinOp a .Mult b pos) (.d (.tup (List.replicate k l).flatten)) := by
  intro σ H Q S q
  by_cases h1 : k = 1
  · subst h1
    exact ⟨_, pe_op op_rep1T pe_any pe_any, ha σ H _ S fun x H1 e1 r1 => hb σ H1 _ (S.mono e1) fun y H2 e2 r2 => by
      obtain ⟨p, vs, rfl, hp, r⟩ := rep_tupI (H := H1) r1
      refine ⟨p, vs, rfl, isv r2, SqT.of (e2 _ _ hp), q _ _ (e1.trans e2) ?_⟩
      show Rep H2 (.tup [l].flatten) _
      rw [List.flatten_cons, List.flatten_nil, List.append_nil]
      exact rep_tup (e2 _ _ hp) (r.mono e2)⟩
  · exact ⟨_, pe_op op_repT pe_any pe_any, ha σ H _ S fun x H1 e1 r1 => hb σ H1 _ (S.mono e1) fun y H2 e2 r2 => by
      obtain ⟨p, vs, rfl, hp, r⟩ := rep_tupI (H := H1) r1
      refine ⟨p, k, vs, rfl, isv r2, SqT.of (e2 _ _ hp), fun z => h (List.length_eq_zero_iff.mp (by rw [← r.length, z]; rfl)), by omega, by omega, by rw [r.length]; exact hl, fun p' hp' => q _ _ ((e1.trans e2).trans (Evl.Ex.new hp')) ?_⟩
      rw [Int.toNat_natCast]
      exact rep_tup upd_same (((r.mono e2).rep k).mono (Evl.Ex.new hp'))⟩
theorem ex_repL {l : List Dt} {k : Nat} {kd : Kd} (ha : EX X H0 ss a kd) (s : isL kd l) (hb : EX X H0 ss b (.d (.v (.int k)))) (hk : k ≤ 1000) (hl : l.length ≤ 1000) : EX X H0 ss (.BinOp a .Mult b pos) (.nl (List.replicate k l).flatten) := fun σ H Q S q =>
  ⟨_, pe_op op_rep pe_any pe_any, ha σ H _ S fun x H1 e1 r1 => hb σ H1 _ (S.mono e1) fun y H2 e2 r2 => by
    obtain ⟨p, vs, rfl, hp, r⟩ := isL_ag s r1.ag
    have hz : vs.length * ((k : Int)).toNat ≤ sizeLine := by
      rw [r.length, Int.toNat_natCast, sizeLine_eq]
      have : l.length * k ≤ 1000 * 1000 := Nat.mul_le_mul hl hk
      omega
    refine ⟨p, k, vs, rfl, isv r2, e2 _ _ hp, by omega, by omega, hz, fun p' hp' => q _ _ ((e1.trans e2).trans (Evl.Ex.new hp')) ⟨p', rfl, Evl.fresh_back (e1.trans e2) hp', _, upd_same, ?_⟩⟩
    rw [Int.toNat_natCast]
    exact ((r.mono e2).rep k).mono (Evl.Ex.new hp')⟩
end
end K44
end

section
-- text Zd
set_option Elab.async false
set_option linter.all false
set_option maxRecDepth 100000
set_option maxHeartbeats 4000000
/-! walks of dicts with tuple keys: values, items; a fresh dict's keys. -/
namespace K44
open PySem PySem.Spec L2 PyProof.Rows
open Evl (Ex)
theorem frzT2 {X : Cx} {pins : List (Addr × Obj)} {σ : L2.St} {H : Hp} {s : Shared} {d : Addr} {o : Obj} {kvs : List (List Key × V)} (I : Inv X pins σ H s) (h : H d = some (.frz o (.dT kvs))) :
    (d == sysModules) = false ∧ ∃ (es : Array DictEntry) (ep : Nat), o.data = .dict es ep ∧ s.heap.DictRaw d es ep ∧ es.size = kvs.length ∧
      ∀ (i : Nat) (k : List Key) (v : V), kvs[i]? = some (k, v) → ∃ (en : DictEntry) (q : Addr), es[i]? = some en ∧ en.key = .ref q ∧ H q = some (.tup (k.map kV)) ∧ RelV v en.val := by
  obtain ⟨hd, z, hs, xs, pr, o', es, ep, ho, hx, hdt, he, _⟩ := I.hok d _ h
  have ho2 := ho
  rw [hd] at ho
  cases ho
  refine ⟨hs, es, ep, hdt, ⟨o, hd, hx, hdt⟩, ?_, fun i k v e => ?_⟩
  · have l1 : es.size = xs.length := size_of_entries he
    have l2 : kvs.length = xs.length := Paired.length pr
    omega
  · obtain ⟨b, hb, e1, e2, e3⟩ := paired_get pr e
    have q := entry_at he i
    rw [hb] at q
    exact ⟨_, b.2.1, q, rfl, e2, e3⟩
def ItdT (d : Addr) (o : Obj) (kvs : List (List Key × V)) : It :=
  ⟨fun i H => H d = some (.frz o (.dT kvs)) ∧ i < kvs.length, fun i H x H' => H' = H ∧ ∃ k, kvs[i]? = some (k, x), fun i H => H d = some (.frz o (.dT kvs)) ∧ kvs.length ≤ i⟩
def ItiT (d : Addr) (o : Obj) (kvs : List (List Key × V)) : It :=
  ⟨fun i H => H d = some (.frz o (.dT kvs)) ∧ i < kvs.length, fun i H x H' => ∃ T k v q, kvs[i]? = some (k, v) ∧ x = .ref T ∧ H T = none ∧ H q = some (.tup (k.map kV)) ∧ H' = upd H T (.tup [.ref q, v]), fun i H => H d = some (.frz o (.dT kvs)) ∧ kvs.length ≤ i⟩
theorem turn_valsT {P : Program} {w : World} {K : PySem.W.Frag} {tg : Expr} {d : Addr} {o : Obj} {es : Array DictEntry} {ep : Nat} {kvs : List (List Key × V)} (it : Addr) (hod : o.data = .dict es ep) : Turn P w K tg (ItdT d o kvs) [it] it (fun i h => h.IsValIter it d i kvs.length ep) where
  mem := by simp
  obj := fun i h st b hb => by
    have e : b = it := by simpa using hb
    subst e
    obtain ⟨oi, e, c, dd⟩ := st
    exact ⟨oi, e, fun v z => by rw [dd] at z; cases z⟩
  keep := fun i h h' st k => st.at fun oi e => k it (by simp) oi e
  item := by
    intro X hP hw hK hc i pins s σ H E I hf st hg
    subst hP hw hK
    obtain ⟨hd, hi⟩ := hg
    obtain ⟨f0, f1, f2, f3, f4, f5⟩ := hf it (by simp)
    obtain ⟨hs, es', ep', hdt, hm, hsz, ent⟩ := frzT2 I hd
    obtain ⟨rfl, rfl⟩ := dict_ep hod hdt
    obtain ⟨⟨k, v⟩, hkv⟩ : ∃ p, kvs[i]? = some p := ⟨kvs[i], List.getElem?_eq_getElem hi⟩
    obtain ⟨en, q, hen, hkey, hq, ru⟩ := ent i k v hkv
    have hl : i < es'.size := by omega
    rw [← hsz] at st
    have e1 : es'[i] = en := Option.some.inj ((Array.getElem?_eq_getElem hl).symm.trans hen)
    refine wpAny_pyNext_values_item_raw st hm hl fun h' st' sb => ?_
    have I1 : Inv X pins σ H { s with heap := h' } := I.turned (t' := s.toks) (fun b ob hb e => (sb.2 b hb).trans e) f0 f1 f3 f4 f5
    obtain ⟨oi, e, c, dd⟩ := id st'
    refine ⟨es'[i].val, rfl, go_of (s := { s with heap := h' }) e c dd (by decide) ⟨v, H, I1, by rw [e1]; exact ru, ⟨rfl, k, hkv⟩, ?_, fun b hb => (hf b hb).1⟩⟩
    show h'.IsValIter it d (i + 1) kvs.length _
    rw [← hsz]
    exact st'
  done := by
    intro X hP hw hK hc i pins s σ H E I hf st hg
    subst hP hw hK
    obtain ⟨hd, hi⟩ := hg
    obtain ⟨f0, f1, f2, f3, f4, f5⟩ := hf it (by simp)
    obtain ⟨hs, es', ep', hdt, hm, hsz, ent⟩ := frzT2 I hd
    obtain ⟨rfl, rfl⟩ := dict_ep hod hdt
    rw [← hsz] at st
    exact wpAny_pyNext_values_end_raw (I.ok.hd hc) st hm (by omega) fun h' eb => ⟨rfl, I.turned (t' := s.toks) (fun b ob hb e => eb b ob hb e) f0 f1 f3 f4 f5⟩
  self := fun A i s Q E st h => wpAny_pyIter_valiter st h
theorem turn_itemsT {P : Program} {w : World} {K : PySem.W.Frag} {d : Addr} {o : Obj} {es : Array DictEntry} {ep : Nat} {kvs : List (List Key × V)} {elts : List Expr} {kk : Nat} {tpos : Pos} (it : Addr) (hod : o.data = .dict es ep) :
    Turn P w K (.Tuple elts kk tpos) (ItiT d o kvs) [it] it (fun i h => ∃ ok ov, IsItemIter h it d i kvs.length ep ok ov) where
  mem := by simp
  obj := fun i h st b hb => by
    have e : b = it := by simpa using hb
    subst e
    obtain ⟨ok, ov, e⟩ := st
    exact ⟨_, e, fun v z => nomatch z⟩
  keep := fun i h h' st k => let ⟨ok, ov, e⟩ := st; ⟨ok, ov, k it (by simp) _ e⟩
  item := by
    intro X hP hw hK hc i pins s σ H E I hf st hg
    subst hP hw hK
    obtain ⟨hd, hi⟩ := hg
    obtain ⟨hs, es', ep', hdt, hm, hsz, ent⟩ := frzT2 I hd
    obtain ⟨rfl, rfl⟩ := dict_ep hod hdt
    obtain ⟨⟨k, v⟩, hkv⟩ : ∃ p, kvs[i]? = some p := ⟨kvs[i], List.getElem?_eq_getElem hi⟩
    obtain ⟨en, q, hen, hkey, hq, ru⟩ := ent i k v hkv
    have hl : i < es'.size := by omega
    have e1 : es'[i] = en := Option.some.inj ((Array.getElem?_eq_getElem hl).symm.trans hen)
    obtain ⟨ok, ov, he⟩ := st
    rw [← hsz] at he
    have hlt : it < s.heap.objs.size := Heap.lt_size he
    refine wpAny_pyNext_items_item_raw he hm hl fun h' ho hT hz hk => ?_
    refine ⟨_, rfl, wpAny_letOwnedTupleGo_items (s := { s with heap := h' }) ho fun h'' he' sb => ?_⟩
    rw [e1, hkey] at hT
    have hT2 : h''.get? s.heap.objs.size = some { cls := .type "tuple", data := .seq #[.ref q, en.val] } := (sb.2 _ (Nat.ne_of_gt hlt)).trans hT
    have new : ObjOk X.prog X.w (upd H s.heap.objs.size (.tup [.ref q, v])) h'' s.heap.objs.size (.tup [.ref q, v]) :=
      ⟨by show 2 ≤ sizeLine; decide, [.ref q, en.val], .cons rfl (.cons ru .nil), ⟨_, hT2, rfl, _, rfl⟩⟩
    have I1 : Inv X pins σ (upd H s.heap.objs.size (.tup [.ref q, v])) { s with heap := h'' } :=
      I.turnedNew (t' := s.toks) (ch := [it]) (fun b ob hb e => (sb.2 b (by simpa using hb)).trans (hk b ob (by simpa using hb) e)) hf (Nat.le_refl _) new
    refine ⟨.ref s.heap.objs.size, _, I1, rfl, ⟨_, k, v, q, hkv, rfl, I.hok.fresh (Nat.le_refl _), hq, rfl⟩, ⟨es'[i].key, es'[i].val, ?_⟩, fun b hb => ?_⟩
    · rw [← hsz]; exact he'
    · have e : b = it := by simpa using hb
      rw [e, upd_ne (Nat.ne_of_lt hlt)]
      exact (hf it (by simp)).1
  done := by
    intro X hP hw hK hc i pins s σ H E I hf st hg
    subst hP hw hK
    obtain ⟨hd, hi⟩ := hg
    obtain ⟨f0, f1, f2, f3, f4, f5⟩ := hf it (by simp)
    obtain ⟨hs, es', ep', hdt, hm, hsz, ent⟩ := frzT2 I hd
    obtain ⟨rfl, rfl⟩ := dict_ep hod hdt
    obtain ⟨ok, ov, he⟩ := st
    rw [← hsz] at he
    exact wpAny_pyNext_items_end_raw (I.ok.hd hc) he hm (by omega) fun h' eb => ⟨rfl, I.turned (t' := s.toks) (fun b ob hb e => eb b ob hb e) f0 f1 f3 f4 f5⟩
  self := fun A i s Q E st h => let ⟨_, _, e⟩ := st; PySem.W.kcp_self e h
def iValsT (td : TE) : TI := fun σ H R => td σ H fun x H1 => ∃ d o kvs, x = .ref d ∧ H1 d = some (.frz o (.dT kvs)) ∧ R (ItdT d o kvs) H1
def iItemsT (td : TE) : TI := fun σ H R => td σ H fun x H1 => ∃ d o kvs, x = .ref d ∧ H1 d = some (.frz o (.dT kvs)) ∧ R (ItiT d o kvs) H1
/-- a fresh dict: locked from there on -/
def iKeysF (td : TE) : TI := fun σ H R => td σ H fun x H1 => ∃ d kvs, x = .ref d ∧ H1 d = some (.dT kvs) ∧ ∀ od, R (Itkt d od kvs) (upd H1 d (.frz od (.dT kvs)))
section
variable {X : Cx} {tg e : Expr} {td : TE} {apos cpos : Pos}
theorem pi_valuesT (he : PE X e td) (hbase : attributeBase e "values" X.env (eval e X.env) = eval e X.env := by rfl) (hline : (apos.endLine == cpos.line) = true := by rfl) : PI X tg (.Call (.Attribute e "values" apos) [] [] cpos) (iValsT td) := by
  refine ⟨fun pins s σ H R I h => ?_⟩
  refine wpAny_Call_method (T := "dict") (id := "dict.values") hbase rfl hline F.plainAttrs_dict F.slot_dict_values F.type_dict_values (thn (he.run pins s σ H _ I h) fun u s1 ⟨x, H1, I1, rx, d, o, kvs, ex, hd, q⟩ => ?_)
  subst ex
  obtain rfl : u = Value.ref d := rx
  obtain ⟨hs, es, ep, hdt, hm, hsz, ent⟩ := frzT2 I1 hd
  obtain ⟨o2, ho2, hx2, _⟩ := id hm
  refine ⟨hm.typeIs, fun b q => by cases q; exact ⟨o2, ho2, hx2.2.1⟩, ?_⟩
  have I2 : Inv X pins σ H1 { s1 with heap := s1.heap.push { cls := .type "dict_values", data := .fields #[.ref d] } } := I1.kept (t' := s1.toks) fun b ob q => Heap.get?_push_of_some _ q
  have fin : wpAny (model X.prog X.w) X.A (pyIter (.ref s1.heap.objs.size)) (PIE X pins σ tg R) X.xe { s1 with heap := s1.heap.push { cls := .type "dict_values", data := .fields #[.ref d] } } := by
    refine wpAny_pyIter_values_raw (d := d) ⟨_, Heap.get?_push_size _ rfl, rfl, rfl⟩ (hm.at fun ob e => Heap.get?_push_of_some _ e) (pi_one (tk := s1.toks) I2 _ (turn_valsT _ hdt) ⟨_, Heap.get?_push_size _ rfl, rfl, ?_⟩ q)
    rw [hsz] <;> rfl
  show wpAny _ _ (callWith cpos (.builtin "dict.values") [.ref d] [] []) _ X.xe s1
  exact method_meetsIn F.slot_dict_values F.entry_dict_values rfl (PySem.evalArgs_none ⟨rfl, hm.typeIs, F.args_dict_values_1 _, _, meets_dict_values_raw d hs, ⟨es, ep, hm⟩, fin⟩)
theorem pi_itemsT {elts : List Expr} {kk : Nat} {tpos : Pos} (he : PE X e td) (hbase : attributeBase e "items" X.env (eval e X.env) = eval e X.env := by rfl) (hline : (apos.endLine == cpos.line) = true := by rfl) :
    PI X (.Tuple elts kk tpos) (.Call (.Attribute e "items" apos) [] [] cpos) (iItemsT td) := by
  refine ⟨fun pins s σ H R I h => ?_⟩
  refine wpAny_Call_method (T := "dict") (id := "dict.items") hbase rfl hline F.plainAttrs_dict F.slot_dict_items F.type_dict_items (thn (he.run pins s σ H _ I h) fun u s1 ⟨x, H1, I1, rx, d, o, kvs, ex, hd, q⟩ => ?_)
  subst ex
  obtain rfl : u = Value.ref d := rx
  obtain ⟨hs, es, ep, hdt, hm, hsz, ent⟩ := frzT2 I1 hd
  obtain ⟨o2, ho2, hx2, _⟩ := id hm
  refine ⟨hm.typeIs, fun b q => by cases q; exact ⟨o2, ho2, hx2.2.1⟩, ?_⟩
  have I2 : Inv X pins σ H1 { s1 with heap := s1.heap.push { cls := .type "dict_items", data := .fields #[.ref d] } } := I1.kept (t' := s1.toks) fun b ob q => Heap.get?_push_of_some _ q
  have fin : wpAny (model X.prog X.w) X.A (pyIter (.ref s1.heap.objs.size)) (PIE X pins σ (.Tuple elts kk tpos) R) X.xe { s1 with heap := s1.heap.push { cls := .type "dict_items", data := .fields #[.ref d] } } := by
    refine wpAny_pyIter_items_raw (d := d) ⟨_, Heap.get?_push_size _ rfl, rfl, rfl⟩ (hm.at fun ob e => Heap.get?_push_of_some _ e) (pi_one (tk := s1.toks) I2 _ (turn_itemsT _ hdt) ⟨.none, .none, ?_⟩ q)
    rw [← hsz]
    exact Heap.get?_push_size _ rfl
  show wpAny _ _ (callWith cpos (.builtin "dict.items") [.ref d] [] []) _ X.xe s1
  exact method_meetsIn F.slot_dict_items F.entry_dict_items rfl (PySem.evalArgs_none ⟨rfl, hm.typeIs, F.args_dict_items_1 _, _, meets_dict_items_raw d hs, ⟨es, ep, hm⟩, fin⟩)
theorem pi_keysF (he : PE X e td) : PI X tg e (iKeysF td) := by
  refine ⟨fun pins s σ H R I h => ?_⟩
  refine thn (he.run pins s σ H _ I h) fun u s1 ⟨x, H1, I1, rx, d, kvs, ex, hd, q⟩ => ?_
  subst ex
  obtain rfl : u = Value.ref d := rx
  obtain ⟨od, I2⟩ := I1.lock hd trivial
  have hd2 : upd H1 d (.frz od (.dT kvs)) d = some (.frz od (.dT kvs)) := upd_same
  obtain ⟨hs, hgd, hx, es, ep, hdt, hsz, ent⟩ := I2.frzT hd2
  refine iter_keys hs hgd hx hdt (pi_one (tk := s1.toks) I2 _ (turn_keysT _ hdt) ⟨_, Heap.get?_push_size _ rfl, rfl, ?_⟩ (q od))
  rw [hsz] <;> rfl
end
/-- the rest, the dict at d locked for good -/
def tFrz (t : TS) : TS := fun D σ H => ∃ d u, H d = some u ∧ Mut (some u) ∧ ∀ od, t D σ (upd H d (.frz od u))
theorem pss_frz {X : Cx} {sts : List Stmt} {t : TS} (h : PSs X sts t) : PSs X sts (tFrz t) := ⟨fun pins s σ H D I ⟨d, u, hd, mu, hw⟩ => by
  obtain ⟨od, I1⟩ := I.lock hd mu
  exact h.run pins s σ _ D I1 (hw od)⟩
end K44
end

section
-- text Gd
set_option Elab.async false
set_option linter.all false
set_option maxRecDepth 100000
set_option maxHeartbeats 4000000
/-! dicts with tuples of ints as keys; lists that the frame owns: extend, items. -/
namespace K44
open PySem PySem.Spec L2 PyProof.Rows
open Evl (Ex)
abbrev DT' := List (List Int × Dt)
def ik (ns : List Int) : List Key := ns.map Sum.inl
theorem ik_kv (ns : List Int) : (ik ns).map kV = ns.map V.int := by simp [ik, kV]
theorem ik_inj {a b : List Int} (h : ik a = ik b) : a = b := by
  have : Function.Injective (Sum.inl : Int → Key) := fun _ _ h => Sum.inl.inj h
  exact List.map_inj_right (fun _ _ h => Sum.inl.inj h) |>.mp h
def km (l : DT') : List (List Key × Dt) := l.map fun p => (ik p.1, p.2)
def getG {β : Type} (l : List (List Int × β)) (k : List Int) : Option β := (l.find? fun p => decide (p.1 = k)).map (·.2)
def putG {β : Type} (l : List (List Int × β)) (k : List Int) (v : β) : List (List Int × β) := if (l.any fun p => decide (p.1 = k)) = true then l.map (fun p => if p.1 = k then (p.1, v) else p) else l ++ [(k, v)]
theorem getG_nil {β : Type} {k : List Int} : getG ([] : List (List Int × β)) k = none := rfl
theorem getG_cons {β : Type} {p : List Int × β} {l : List (List Int × β)} {k : List Int} : getG (p :: l) k = if p.1 = k then some p.2 else getG l k := by
  unfold getG
  rw [List.find?_cons]
  by_cases h : p.1 = k
  · simp [h]
  · simp [h]
theorem repM_val {H : Hp} {k : List Int} : ∀ {l : DT'} {vs : List (List Key × V)}, RepM H (km l) vs → match getG l k with
    | none => valV vs (ik k) = none
    | some d => ∃ y, valV vs (ik k) = some y ∧ Rep H d y
  | [], vs, h => by
    rw [show vs = [] from h]
    exact valV_nil
  | (n, d) :: l, vs, h => by
    obtain ⟨y, t, rfl, a, b⟩ := (show ∃ y t, vs = (ik n, y) :: t ∧ Rep H d y ∧ RepM H (km l) t from h)
    rw [getG_cons]
    by_cases e : n = k
    · rw [if_pos e]
      exact ⟨y, valV_pos (p := (ik n, y)) (by rw [e]), a⟩
    · rw [if_neg e]
      have : valV ((ik n, y) :: t) (ik k) = valV t (ik k) := valV_neg (p := (ik n, y)) fun z => e (ik_inj z)
      rw [this]
      exact repM_val b
theorem repM_any {H : Hp} {k : List Int} : ∀ {l : DT'} {vs : List (List Key × V)}, RepM H (km l) vs → (vs.any fun p => decide (p.1 = ik k)) = (l.any fun p => decide (p.1 = k))
  | [], vs, h => by rw [show vs = [] from h]; rfl
  | (n, d) :: l, vs, h => by
    obtain ⟨y, t, rfl, a, b⟩ := (show ∃ y t, vs = (ik n, y) :: t ∧ Rep H d y ∧ RepM H (km l) t from h)
    rw [List.any_cons, List.any_cons, repM_any b]
    have : decide (ik n = ik k) = decide (n = k) := by
      by_cases e : n = k
      · simp [e]
      · have : ¬ ik n = ik k := fun z => e (ik_inj z)
        simp [e, this]
    rw [this]
theorem repM_map {H : Hp} {k : List Int} {d : Dt} {y : V} (r : Rep H d y) : ∀ {l : DT'} {vs : List (List Key × V)}, RepM H (km l) vs → RepM H (km (l.map fun p => if p.1 = k then (p.1, d) else p)) (vs.map fun p => if p.1 = ik k then (p.1, y) else p)
  | [], vs, h => by rw [show vs = [] from h]; rfl
  | (n, c) :: l, vs, h => by
    obtain ⟨z, t, rfl, a, b⟩ := (show ∃ y t, vs = (ik n, y) :: t ∧ Rep H c y ∧ RepM H (km l) t from h)
    have ih := repM_map (k := k) r b
    by_cases e : n = k
    · subst e
      rw [List.map_cons, List.map_cons, if_pos rfl, if_pos rfl]
      exact ⟨y, _, rfl, r, ih⟩
    · rw [List.map_cons, List.map_cons, if_neg e, if_neg (fun z => e (ik_inj z))]
      exact ⟨z, _, rfl, a, ih⟩
theorem repM_app {H : Hp} {k : List Int} {d : Dt} {y : V} (r : Rep H d y) : ∀ {l : DT'} {vs : List (List Key × V)}, RepM H (km l) vs → RepM H (km (l ++ [(k, d)])) (vs ++ [(ik k, y)])
  | [], vs, h => by rw [show vs = [] from h]; exact ⟨y, [], rfl, r, rfl⟩
  | (n, c) :: l, vs, h => by
    obtain ⟨z, t, rfl, a, b⟩ := (show ∃ y t, vs = (ik n, y) :: t ∧ Rep H c y ∧ RepM H (km l) t from h)
    exact ⟨z, _, rfl, a, repM_app r b⟩
theorem repM_put {H : Hp} {k : List Int} {d : Dt} {y : V} (r : Rep H d y) {l : DT'} {vs : List (List Key × V)} (h : RepM H (km l) vs) : RepM H (km (putG l k d)) (putK vs (ik k) y) := by
  unfold putG putK
  rw [repM_any h]
  split
  · exact repM_map r h
  · exact repM_app r h
theorem repM_get {H : Hp} : ∀ {l : DT'} {vs : List (List Key × V)} {i : Nat} {k : List Key} {y : V}, RepM H (km l) vs → vs[i]? = some (k, y) → ∃ n d, l[i]? = some (n, d) ∧ k = ik n ∧ Rep H d y
  | [], vs, i, k, y, h, e => by rw [show vs = [] from h] at e; simp at e
  | (n, c) :: l, vs, i, k, y, h, e => by
    obtain ⟨z, t, rfl, a, b⟩ := (show ∃ y t, vs = (ik n, y) :: t ∧ Rep H c y ∧ RepM H (km l) t from h)
    cases i with
    | zero =>
      simp at e
      obtain ⟨rfl, rfl⟩ := e
      exact ⟨n, c, rfl, rfl, a⟩
    | succ i =>
      obtain ⟨n', d', h1, h2, h3⟩ := repM_get (i := i) b (by simpa using e)
      exact ⟨n', d', by simpa using h1, h2, h3⟩
theorem km_len (l : DT') : (km l).length = l.length := by simp [km]
/-- the data of a key -/
abbrev keyD (k : List Int) : Dt := .tup (intsD k)
theorem rep_key {H : Hp} {k : List Int} {y : V} (h : Rep H (keyD k) y) : ∃ p, y = .ref p ∧ H p = some (.tup ((ik k).map kV)) := by
  obtain ⟨p, vs, rfl, hp, r⟩ := rep_tupI h
  rw [r.intsD, ← ik_kv] at hp
  exact ⟨p, rfl, hp⟩
theorem key_rep {H : Hp} {k : List Int} {p : Addr} (h : H p = some (.tup ((ik k).map kV))) : Rep H (keyD k) (.ref p) := by
  rw [ik_kv] at h
  exact rep_tup h (RepL.ofFlat V.int k)
section
variable {X : Cx} {H0 : Hp} {ss : List Sl} {pos p1 p2 tpos : Pos} {a b c e tg it elt o i : Expr} {elts : List Expr} {kk : Nat} {b1 b2 sts body : List Stmt} {Nx : List Sl → Prop} {Rt : Kd → Prop}
/-- a dict that may be read -/
def DX (X : Cx) (H0 : Hp) (ss : List Sl) (e : Expr) (l : DT') : Prop :=
  ∀ (σ : L2.St) (H : Hp) (Q : VK), SR H0 H σ ss → (∀ p H', Ex H H' → (∃ vs, Rd H' p (.dT vs) ∧ RepM H' (km l) vs) → Q (.ref p) H') → RE X e σ H Q
theorem dx_m (j : Nat) {x : Str} {l : DT'} (hs : ss[j]? = some (.m (km l)) := by rfl) (hN : X.N[j]? = some x := by rfl)
    (hv : Vis X.env.scope x := by first | exact Or.inl rfl | exact Or.inr (Or.inl rfl) | exact Or.inr (Or.inr rfl)) (hd : (x == ("__debug__" : Str)) = false := by decide)
    (hcd : (x == ("__classdict__" : Str)) = false := by decide) : DX X H0 ss (.Name x pos) l := fun σ H Q S k => by
  obtain ⟨y, e, p, rfl, vs, o, h1, h2⟩ := S.get hs (by intro z; cases z)
  exact ⟨_, pe_var hN hv hd hcd, _, e, k p H (Evl.Ex.refl H) ⟨vs, .inr ⟨o, h1⟩, h2⟩⟩
theorem dx_om (j : Nat) {x : Str} {l : DT'} (hs : ss[j]? = some (.om (km l)) := by rfl) (hN : X.N[j]? = some x := by rfl)
    (hv : Vis X.env.scope x := by first | exact Or.inl rfl | exact Or.inr (Or.inl rfl) | exact Or.inr (Or.inr rfl)) (hd : (x == ("__debug__" : Str)) = false := by decide)
    (hcd : (x == ("__classdict__" : Str)) = false := by decide) : DX X H0 ss (.Name x pos) l := fun σ H Q S k => by
  obtain ⟨y, e, p, rfl, _, vs, h1, h2⟩ := S.get hs (by intro z; cases z)
  exact ⟨_, pe_var hN hv hd hcd, _, e, k p H (Evl.Ex.refl H) ⟨vs, .inl h1, h2⟩⟩
theorem dget_of {H : Hp} {p : Addr} {l : DT'} {k : List Int} {y : V} (h : ∃ vs, Rd H p (.dT vs) ∧ RepM H (km l) vs) (r : Rep H (keyD k) y) : ∃ o, DGet H p y o ∧ match getG l k with
    | none => o = none
    | some d => ∃ y, o = some y ∧ Rep H d y := by
  obtain ⟨vs, h1, h2⟩ := h
  obtain ⟨q, rfl, hq⟩ := rep_key r
  exact ⟨valV vs (ik k), .inr ⟨vs, ik k, q, h1, rfl, hq, rfl⟩, repM_val h2⟩
theorem rd_mono {H H' : Hp} (e : Ex H H') {p : Addr} {l : DT'} (h : ∃ vs, Rd H p (.dT vs) ∧ RepM H (km l) vs) : ∃ vs, Rd H' p (.dT vs) ∧ RepM H' (km l) vs := let ⟨vs, a, b⟩ := h; ⟨vs, Evl.ex_rd e a, b.tup (.ex e)⟩
theorem opt_some {l : DT'} {k : List Int} {H : Hp} {r : Option V} (g : match getG l k with
    | none => r = none
    | some d => ∃ y, r = some y ∧ Rep H d y) : r.isSome = (getG l k).isSome := by
  cases h : getG l k with
  | none => rw [h] at g; rw [show r = none from g]; rfl
  | some d =>
    rw [h] at g
    obtain ⟨y, rfl, _⟩ := g
    rfl
theorem et_notInM {l : DT'} {k : List Int} (hu : X.A.units + 64 < cLine) (ha : EX X H0 ss a (.d (keyD k))) (hb : DX X H0 ss b l) (hm : behindInMarks .NotIn b = false := by rfl) : ET X H0 ss (.Compare a [.NotIn] [b] pos) (!(getG l k).isSome) := fun σ H Q S q =>
  ⟨_, pt_cmp (pc_dnotin (by omega) pe_any pe_any) hm, ha σ H _ S fun u H1 e1 r1 => hb σ H1 _ (S.mono e1) fun p H2 e2 r2 => by
    obtain ⟨r, g1, g2⟩ := dget_of (k := k) r2 (Rep.mono e2 r1)
    exact ⟨p, r, rfl, g1, _, rfl, by rw [opt_some g2]; exact q _ (e1.trans e2)⟩⟩
theorem ex_dget {l : DT'} {k : List Int} {d : Dt} (hu : X.A.units + 64 < cLine) (ho : DX X H0 ss o l) (hi : EX X H0 ss i (.d (keyD k))) (h : getG l k = some d) (hs : NoSl i := by exact fun _ _ => rfl) : EX X H0 ss (.Subscript o i pos) (.d d) := fun σ H Q S q =>
  ⟨_, pe_dget (by omega) pe_any pe_any hs, ho σ H _ S fun p H1 e1 r1 => hi σ H1 _ (S.mono e1) fun u H2 e2 r2 => by
    obtain ⟨r, g1, g2⟩ := dget_of (k := k) (rd_mono e2 r1) r2
    rw [h] at g2
    obtain ⟨y, rfl, g3⟩ := g2
    exact ⟨p, y, rfl, g1, q y H2 (e1.trans e2) g3⟩⟩
/-- the value, or None -/
def optD : Option Dt → Dt
  | none => .v .non
  | some d => d
theorem ex_dget1 {l : DT'} {k : List Int} {pa : Pos} (hu : X.A.units + 64 < cLine) (ho : DX X H0 ss o l) (hi : EX X H0 ss e (.d (keyD k))) (m : M1 X o "get" pa e pos) : EX X H0 ss (.Call (.Attribute o "get" pa) [e] [] pos) (.d (optD (getG l k))) := fun σ H Q S q =>
  ⟨_, pe_dget1 (by omega) pe_any pe_any m, ho σ H _ S fun p H1 e1 r1 => ⟨p, rfl, by obtain ⟨vs, z, _⟩ := r1; exact .inr ⟨vs, z⟩, hi σ H1 _ (S.mono e1) fun u H2 e2 r2 => by
    obtain ⟨r, g1, g2⟩ := dget_of (k := k) (rd_mono e2 r1) r2
    refine ⟨r, g1, q _ H2 (e1.trans e2) ?_⟩
    cases h : getG l k with
    | none => rw [h] at g2; rw [show r = none from g2]; exact Rep.of (H := H2)
    | some d =>
      rw [h] at g2
      obtain ⟨y, rfl, g3⟩ := g2
      exact g3⟩⟩
theorem ex_dnew : EX X H0 ss (.Dict [] [] pos) (.nm (km [])) := fun σ H Q S q =>
  ⟨_, pe_dnewT, fun p hp => q _ _ (Evl.Ex.new hp) ⟨p, rfl, hp, [], upd_same, rfl⟩⟩
/-- d[k] = v, d a slot -/
theorem sx_dput {x : Str} {l : DT'} {k : List Int} {d : Dt} {pv : Pos} (j : Nat) (hu : X.A.units + 64 < cLine) (hv : EX X H0 ss e (.d d)) (hi : EX X H0 ss i (.d (keyD k))) (hz : l.length < 100000) (hs : ss[j]? = some (.om (km l)) := by rfl) (hN : X.N[j]? = some x := by rfl)
    (hvi : Vis X.env.scope x := by first | exact Or.inl rfl | exact Or.inr (Or.inl rfl) | exact Or.inr (Or.inr rfl)) (hd : (x == ("__debug__" : Str)) = false := by decide) (hcd : (x == ("__classdict__" : Str)) = false := by decide)
    (hn : NoSl i := by exact fun _ _ => rfl) (hsw : swapsWith e (some (.Subscript (.Name x p1) i pv)) pos.line X.env = pure false := by rfl) :
    SX X H0 (.Assign [.Subscript (.Name x p1) i pv] e pos) ss (fun s => s = ss.set j (.om (km (putG l k d)))) Rt := fun σ H D S n r => by
  obtain ⟨y, ey, p, rfl, z, vs, hl, hr⟩ := S.get hs (by intro z; cases z)
  refine ⟨_, ps_dput (by omega) (pe_var hN hvi hd hcd) pe_any pe_any hsw, hv σ H _ S fun u H1 e1 r1 => ⟨_, ey, hi σ H1 _ (S.mono e1) fun w H2 e2 r2 => ?_⟩⟩
  have hl2 := e2 _ _ (e1 _ _ hl)
  have hr2 := (hr.tup (.ex e1)).tup (.ex e2)
  have hlen : vs.length < sizeLine := by
    rw [hr.length, km_len, sizeLine_eq]
    omega
  obtain ⟨q, rfl, hq⟩ := rep_key r2
  exact ⟨p, _, rfl, .t hl2 hq hlen, n _ _ _ rfl (own_writeM ((S.mono e1).mono e2) hs ey (repM_put (Rep.mono e2 r1) hr2))⟩
/-- a dict of the frame's own, from here on only read -/
theorem bx_freeze {l : DT'} (j : Nat) (k : BX X H0 sts (ss.set j (.m (km l))) Nx Rt) (hs : ss[j]? = some (.om (km l)) := by rfl) : BX X H0 sts ss Nx Rt := fun σ H D S n r => by
  obtain ⟨y, ey, p, rfl, z, vs, hl, hr⟩ := S.get hs (by intro z; cases z)
  refine ⟨_, pss_frz pb_any, p, _, hl, trivial, fun od => k σ _ D (own_upd S hs rfl ey fun tu => ⟨p, rfl, vs, od, upd_same, hr.tup tu⟩) n r⟩
/-! ### walks -/
theorem SR.noOwnF {H : Hp} {σ : L2.St} (S : SR H0 H σ ss) {p : Addr} {od : Obj} {u : HO} (h : H p = some (.frz od u)) : NoOwn σ ss p := fun i s q o => S.far q o h
theorem rdB {H : Hp} {σ : L2.St} (S : SR H0 H σ ss) {p : Addr} {od : Obj} {vs : List (List Key × V)} (h : H p = some (.frz od (.dT vs))) : baseOf σ ss H p = some (.frz od (.dT vs)) := by
  rw [baseOf_at (S.noOwnF h)]; exact h
/-- the name of a dict that is only read -/
def FX (X : Cx) (H0 : Hp) (ss : List Sl) (e : Expr) (l : DT') : Prop :=
  ∀ (σ : L2.St) (H : Hp) (Q : VK), SR H0 H σ ss → (∀ p H', Ex H H' → (∃ vs o, H' p = some (.frz o (.dT vs)) ∧ RepM H' (km l) vs) → Q (.ref p) H') → RE X e σ H Q
theorem fx_m (j : Nat) {x : Str} {l : DT'} (hs : ss[j]? = some (.m (km l)) := by rfl) (hN : X.N[j]? = some x := by rfl)
    (hv : Vis X.env.scope x := by first | exact Or.inl rfl | exact Or.inr (Or.inl rfl) | exact Or.inr (Or.inr rfl)) (hd : (x == ("__debug__" : Str)) = false := by decide)
    (hcd : (x == ("__classdict__" : Str)) = false := by decide) : FX X H0 ss (.Name x pos) l := fun σ H Q S k => by
  obtain ⟨y, e, p, rfl, vs, o, h1, h2⟩ := S.get hs (by intro z; cases z)
  exact ⟨_, pe_var hN hv hd hcd, _, e, k p H (Evl.Ex.refl H) ⟨vs, o, h1, h2⟩⟩
def valsD (l : DT') : List Dt := l.map (·.2)
def keysD (l : DT') : List Dt := l.map fun p => keyD p.1
def itemsD (l : DT') : List Dt := l.map fun p => .tup [keyD p.1, p.2]
theorem ix_values {l : DT'} {pa : Pos} (h : FX X H0 ss e l) (hbase : attributeBase e "values" X.env (eval e X.env) = eval e X.env := by rfl) (hline : (pa.endLine == pos.line) = true := by rfl) : IX X H0 tg (.Call (.Attribute e "values" pa) [] [] pos) ss (valsD l) := fun σ H R S q =>
  ⟨_, pi_valuesT pe_any hbase hline, h σ H _ S fun p H1 e1 ⟨vs, od, h1, h2⟩ => by
    have S1 := S.mono e1
    have hb := rdB S1 h1
    refine ⟨p, od, vs, rfl, h1, q _ H1 _ e1 S1.exB S1.base ⟨?_⟩⟩
    have l1 : (valsD l).length = vs.length := by rw [h2.length, km_len]; simp [valsD]
    rw [l1]
    refine ⟨fun i H2 hi g => ⟨g _ _ hb, hi⟩, fun H2 g => ⟨g _ _ hb, Nat.le_refl _⟩, fun i H2 x H3 hi g y => ?_⟩
    obtain ⟨rfl, k, hk⟩ := y
    obtain ⟨n, d, z1, _, z3⟩ := repM_get (h2.tup S1.tupB) hk
    exact ⟨Evl.Ex.refl _, d, by simp [valsD, z1], z3.mono g⟩⟩
theorem ix_items {l : DT'} {pa : Pos} (h : FX X H0 ss e l) (hbase : attributeBase e "items" X.env (eval e X.env) = eval e X.env := by rfl) (hline : (pa.endLine == pos.line) = true := by rfl) : IX X H0 (.Tuple elts kk tpos) (.Call (.Attribute e "items" pa) [] [] pos) ss (itemsD l) := fun σ H R S q =>
  ⟨_, pi_itemsT pe_any hbase hline, h σ H _ S fun p H1 e1 ⟨vs, od, h1, h2⟩ => by
    have S1 := S.mono e1
    have hb := rdB S1 h1
    refine ⟨p, od, vs, rfl, h1, q _ H1 _ e1 S1.exB S1.base ⟨?_⟩⟩
    have l1 : (itemsD l).length = vs.length := by rw [h2.length, km_len]; simp [itemsD]
    rw [l1]
    refine ⟨fun i H2 hi g => ⟨g _ _ hb, hi⟩, fun H2 g => ⟨g _ _ hb, Nat.le_refl _⟩, fun i H2 x H3 hi g y => ?_⟩
    obtain ⟨T, k, v, a, hk, rfl, hT, ha, rfl⟩ := y
    obtain ⟨n, d, z1, z2, z3⟩ := repM_get (h2.tup S1.tupB) hk
    subst z2
    refine ⟨Evl.Ex.new hT, .tup [keyD n, d], by simp only [itemsD, List.getElem?_map, z1, Option.map_some], rep_tup upd_same (.cons ?_ (.cons ((z3.mono g).mono (Evl.Ex.new hT)) .nil))⟩
    exact (key_rep ha).mono (Evl.Ex.new hT)⟩
theorem ix_keysF {l : DT'} (h : EX X H0 ss e (.nm (km l))) : IX X H0 tg e ss (keysD l) := fun σ H R S q =>
  ⟨_, pi_keysF pe_any, h σ H _ S fun y H1 e1 r1 => by
    obtain ⟨p, rfl, hn, vs, h1, h2⟩ := r1
    refine ⟨p, vs, rfl, h1, fun od => ?_⟩
    have e2 : Ex H (upd H1 p (.frz od (.dT vs))) := Evl.Ex.mut e1 hn
    have S1 := S.mono e2
    have hp : upd H1 p (.frz od (.dT vs)) p = some (.frz od (.dT vs)) := upd_same
    have hb := rdB S1 hp
    have h2' := h2.tup (Tups.upd (o := .frz od (.dT vs)) fun xs e => by rw [h1] at e; cases e)
    refine q _ _ _ e2 S1.exB S1.base ⟨?_⟩
    have l1 : (keysD l).length = vs.length := by rw [h2.length, km_len]; simp [keysD]
    rw [l1]
    exact walk_keysT.mono (fun H3 g => g _ _ hb) fun i H2 x H3 hi g y => by
      obtain ⟨rfl, k, v, a, hk, rfl, ha⟩ := y
      obtain ⟨n, d, z1, z2, z3⟩ := repM_get (h2'.tup S1.tupB) hk
      subst z2
      exact ⟨Evl.Ex.refl _, keyD n, by simp only [keysD, List.getElem?_map, z1, Option.map_some], key_rep ha⟩⟩
theorem isKeys_rep {H : Hp} {vs : List (List Key × V)} {bs : List Addr} (h : IsKeys H vs bs) : ∀ {l : DT'}, RepM H (km l) vs → RepL H (keysD l) (bs.map V.ref) := by
  unfold IsKeys at h
  induction h with
  | nil =>
    intro l r
    cases l with
    | nil => exact .nil
    | cons p l => obtain ⟨y, t, e, _⟩ := r; cases e
  | @cons p q ps qs h t ih =>
    intro l r
    cases l with
    | nil => cases r
    | cons p' l =>
      obtain ⟨n, d⟩ := p'
      obtain ⟨y, t', e, a, b⟩ := (show ∃ y t, _ = (ik n, y) :: t ∧ Rep H d y ∧ RepM H (km l) t from r)
      cases e
      exact .cons (key_rep h) (ih b)
/-- list(d) -/
theorem ex_listM {l : DT'} {x : Str} (hx : x = "list") (h : DX X H0 ss e l ∨ EX X H0 ss e (.nm (km l))) (hm : X.mg x = none) (hc : X.calm = true := by rfl) (hg : Gl X x := by rfl) (he : starEach [e] X.env = (false, eval e X.env) :: starEach [] X.env := by rfl) : EX X H0 ss (.Call (.Name x p1) [e] [] pos) (.nl (keysD l)) := fun σ H Q S q => by
  subst hx
  refine ⟨_, pe_callTy (call_list_dT hc) hg hm (by decide +kernel) (pa_cons pe_any pa_nil he) (by decide) (by decide) he rfl, ?_⟩
  have go : ∀ p H1, Ex H H1 → (∃ vs, Rd H1 p (.dT vs) ∧ RepM H1 (km l) vs) → ∃ d kvs, [V.ref p] = [V.ref d] ∧ Rd H1 d (.dT kvs) ∧ ∀ p bs, H1 p = none → IsKeys H1 kvs bs → Q (.ref p) (upd H1 p (.lst (bs.map V.ref))) := fun p H1 e1 ⟨vs, z1, z2⟩ =>
    ⟨p, vs, rfl, z1, fun p' bs hp hk => q _ _ (e1.trans (Evl.Ex.new hp)) ⟨p', rfl, Evl.fresh_back e1 hp, _, upd_same, (isKeys_rep hk z2).mono (Evl.Ex.new hp)⟩⟩
  rcases h with h | h
  · exact h σ H _ S fun p H1 e1 r1 => go p H1 e1 r1
  · exact h σ H _ S fun y H1 e1 r1 => by
      obtain ⟨p, rfl, hn, vs, h1, h2⟩ := r1
      exact go p H1 e1 ⟨vs, .inl h1, h2⟩
theorem cr_lenF : CallR X (.builtin "len") (fun xs H Q => ∃ p od vs, xs = [V.ref p] ∧ H p = some (.frz od (.dT vs)) ∧ Q (.int (vs.length : Nat)) H) := by
  intro pins s σ H xs us Q I r h
  obtain ⟨p, od, kvs, rfl, hp, q⟩ := h
  obtain ⟨u, rfl, rx⟩ := vals1 r
  obtain rfl : u = .ref p := rx
  obtain ⟨z, hd, ys, rel, dd⟩ := dt_rd I.hok (.inr ⟨od, hp⟩)
  have hl : kvs.length = ys.length := Paired.length rel
  refine call_len_dictH hd dd (by rw [← hl]; rw [sizeLine_eq] at z; omega) ?_
  rw [← hl]
  exact ⟨.int ((kvs.length : Nat) : Int), H, I.tok _, ⟨_, rfl⟩, q⟩
/-- len(d), a dict that is only read -/
theorem ex_lenM {l : DT'} {x : Str} (hx : x = "len") (h : FX X H0 ss e l) (hm : X.mg x = none) (hg : Gl X x := by rfl) (he : starEach [e] X.env = (false, eval e X.env) :: starEach [] X.env := by rfl) : EX X H0 ss (.Call (.Name x p1) [e] [] pos) (.d (.v (.int (l.length : Int)))) := fun σ H Q S q => by
  subst hx
  refine ⟨_, pe_callB cr_lenF hg hm (by decide +kernel) (pa_cons pe_any pa_nil he) (by decide) (by decide) he rfl, ?_⟩
  exact h σ H _ S fun p H1 e1 ⟨vs, od, h1, h2⟩ => ⟨p, od, vs, rfl, h1, by rw [h2.length, km_len]; exact q _ H1 e1 (is_v (H := H))⟩
/-! ### own lists -/
theorem sx_extT {x : Str} (j : Nat) {xs ys : List Dt} (hs : ss[j]? = some (.own xs)) (he : EX X H0 ss e (.d (.tup ys))) (hz : xs.length + ys.length < 100000) (hN : X.N[j]? = some x := by rfl)
    (hv : Vis X.env.scope x := by first | exact Or.inl rfl | exact Or.inr (Or.inl rfl)) (hbase : attributeBase (.Name x p1) "extend" X.env (eval (.Name x p1) X.env) = eval (.Name x p1) X.env := by rfl)
    (hd : (x == ("__debug__" : Str)) = false := by decide) (hcd : (x == ("__classdict__" : Str)) = false := by decide) {pa pc : Pos}
    (hfew : ((backTo pc (starEach [e] X.env)).all (fun x => !x.1) && (backToKw pc (keywordEach [] X.env)).all (fun x => x.1.isSome)
      && decide ([e].length + ([] : List Keyword).length + (if ([] : List Keyword).isEmpty then 0 else 1) < 30)) = true := by rfl)
    (hline : (pa.endLine == pc.line) = true := by rfl) (hst : starEach [e] X.env = (false, eval e X.env) :: starEach [] X.env := by rfl) (hplain : (backTo pc (starEach [] X.env)).any (·.1) = false := by rfl) :
    SX X H0 (.Expr (.Call (.Attribute (.Name x p1) "extend" pa) [e] [] pc) pos) ss (fun s => s = ss.set j (.own (xs ++ ys))) Rt := fun σ H D S n r => by
  obtain ⟨y, ey, p, rfl, z, vs, hl, hr⟩ := S.get hs (by intro z; cases z)
  refine ⟨_, ps_expr (pe_bm PySem.F.plainAttrs_list PySem.F.slot_list_extend PySem.F.type_list_extend mt_extT (pe_var hN (by rcases hv with h | h | h <;> first | exact Or.inl h | exact Or.inr (Or.inl h) | exact Or.inr (Or.inr h)) hd hcd) (pa_cons pe_any pa_nil hst) hbase hfew hline hst hplain), ?_⟩
  refine ⟨_, ey, .inl ⟨rfl, _, SqL.of hl⟩, he σ H _ S fun u H1 e1 r1 => ?_⟩
  obtain ⟨q, us, rfl, hq, rr⟩ := rep_tupI (H := H1) r1
  have hl1 := e1 p _ hl
  refine ⟨p, q, vs, us, rfl, rfl, hl1, SqT.of hq, ?_, ?_⟩
  · rw [hr.length, rr.length, sizeLine_eq]
    omega
  · exact n _ _ _ rfl (own_write (S.mono e1) hs ey ((hr.mono e1).append rr))
theorem sx_extL {x : Str} (j : Nat) {xs ys : List Dt} {k : Kd} (hs : ss[j]? = some (.own xs)) (he : EX X H0 ss e k) (s : isL k ys) (hz : xs.length + ys.length < 100000) (hN : X.N[j]? = some x := by rfl)
    (hv : Vis X.env.scope x := by first | exact Or.inl rfl | exact Or.inr (Or.inl rfl)) (hbase : attributeBase (.Name x p1) "extend" X.env (eval (.Name x p1) X.env) = eval (.Name x p1) X.env := by rfl)
    (hd : (x == ("__debug__" : Str)) = false := by decide) (hcd : (x == ("__classdict__" : Str)) = false := by decide) {pa pc : Pos}
    (hfew : ((backTo pc (starEach [e] X.env)).all (fun x => !x.1) && (backToKw pc (keywordEach [] X.env)).all (fun x => x.1.isSome)
      && decide ([e].length + ([] : List Keyword).length + (if ([] : List Keyword).isEmpty then 0 else 1) < 30)) = true := by rfl)
    (hline : (pa.endLine == pc.line) = true := by rfl) (hst : starEach [e] X.env = (false, eval e X.env) :: starEach [] X.env := by rfl) (hplain : (backTo pc (starEach [] X.env)).any (·.1) = false := by rfl) :
    SX X H0 (.Expr (.Call (.Attribute (.Name x p1) "extend" pa) [e] [] pc) pos) ss (fun s => s = ss.set j (.own (xs ++ ys))) Rt := fun σ H D S n r => by
  obtain ⟨y, ey, p, rfl, z, vs, hl, hr⟩ := S.get hs (by intro z; cases z)
  refine ⟨_, ps_expr (pe_bm PySem.F.plainAttrs_list PySem.F.slot_list_extend PySem.F.type_list_extend mt_extend (pe_var hN (by rcases hv with h | h | h <;> first | exact Or.inl h | exact Or.inr (Or.inl h) | exact Or.inr (Or.inr h)) hd hcd) (pa_cons pe_any pa_nil hst) hbase hfew hline hst hplain), ?_⟩
  refine ⟨_, ey, .inl ⟨rfl, _, SqL.of hl⟩, he σ H _ S fun u H1 e1 r1 => ?_⟩
  obtain ⟨q, us, rfl, hq, rr⟩ := isL_ag s r1.ag
  have hl1 := e1 p _ hl
  refine ⟨p, q, vs, us, rfl, rfl, hl1, hq, ?_, ?_⟩
  · rw [hr.length, rr.length, sizeLine_eq]
    omega
  · exact n _ _ _ rfl (own_write (S.mono e1) hs ey ((hr.mono e1).append rr))
theorem RepL.set {H : Hp} {d : Dt} {y : V} (r : Rep H d y) : ∀ {l : List Dt} {vs : List V} (n : Nat), RepL H l vs → RepL H (l.set n d) (vs.set n y)
  | [], vs, n, h => by rw [h.inv0]; exact .nil
  | c :: l, vs, 0, h => by
    obtain ⟨z, zs, rfl, a, b⟩ := h.inv
    exact .cons r b
  | c :: l, vs, n + 1, h => by
    obtain ⟨z, zs, rfl, a, b⟩ := h.inv
    exact .cons a (RepL.set r n b)
def rGetL (K : PySem.W.Frag) : V → V → Hp → VK → Prop := fun o i H Q => ∃ p xs k y, o = .ref p ∧ i = .int (k : Nat) ∧ SqL K H p xs ∧ xs[k]? = some y ∧ k < 1000000 ∧ Q y H
theorem get_list : PGet X (rGetL X.K) := by
  intro pins s σ H o i ov iv Q I ro ri h
  obtain ⟨p, xs, k, y, rfl, rfl, hq, hy, hk, q⟩ := h
  cases ro
  obtain ⟨t, rfl⟩ := ri
  obtain ⟨its, r, pl, hz⟩ := I.list hq
  obtain ⟨w, ew, rw'⟩ := r.get hy
  exact wpAny_getItem_list pl.isList (by omega) (by omega) (by simpa using ew) ⟨y, H, I, rw', q⟩
/-- xs[i] += n, xs a slot -/
theorem sx_augI {x : Str} {xs : List Dt} {k : Nat} {m n : Int} (j : Nat) (hi : EX X H0 ss i (.d (.v (.int (k : Nat))))) (he : EX X H0 ss e (.d (.v (.int n)))) (hx : xs[k]? = some (.v (.int m))) (hk : k < 1000000) (hs : ss[j]? = some (.own xs) := by rfl) (hN : X.N[j]? = some x := by rfl)
    (hvi : Vis X.env.scope x := by first | exact Or.inl rfl | exact Or.inr (Or.inl rfl) | exact Or.inr (Or.inr rfl)) (hd : (x == ("__debug__" : Str)) = false := by decide) (hcd : (x == ("__classdict__" : Str)) = false := by decide)
    (ha : ∀ ov iv new, augStore i ov iv new = (do holding [new, ov, iv] (setItem ov iv new); release [new, ov, iv] []; pure .next) := by intros; rfl) :
    SX X H0 (.AugAssign (.Subscript (.Name x p1) i p2) .Add e pos) ss (fun s => s = ss.set j (.own (xs.set k (.v (.int (m + n)))))) Rt := fun σ H D S nx r => by
  obtain ⟨y, ey, p, rfl, z, vs, hl, hr⟩ := S.get hs (by intro z; cases z)
  refine ⟨_, ps_augS (pe_var hN hvi hd hcd) pe_any get_list pe_any ip_add set_list ha, _, ey, hi σ H _ S fun u H1 e1 r1 => ?_⟩
  have hl1 := e1 _ _ hl
  have hr1 := hr.mono e1
  obtain ⟨y, gy, ry⟩ := hr1.get hx
  refine ⟨p, vs, k, y, rfl, isv r1, SqL.of hl1, gy, hk, he σ H1 _ (S.mono e1) fun w H2 e2 r2 => ⟨m, n, ry.flat, isv r2, ?_⟩⟩
  have hl2 := e2 _ _ hl1
  have hkl : k < vs.length := (List.getElem?_eq_some_iff.mp gy).1
  refine ⟨p, vs, k, k, rfl, isv r1, hl2, ?_, nx _ _ _ rfl (own_write ((S.mono e1).mono e2) hs ey (RepL.set .of k (hr1.mono e2)))⟩
  unfold ixN
  rw [if_pos (by omega), if_pos (by omega), Int.toNat_natCast]
end
end K44
end

section
-- text Gi
set_option Elab.async false
set_option linter.all false
set_option maxRecDepth 100000
set_option maxHeartbeats 4000000
/-! objects made: __init__ -/
namespace K44
open PySem PySem.Spec L2 PyProof.Rows
open Evl (Ex)
/-- all but what is at x stays -/
def ExB (x : Addr) (H H' : Hp) : Prop := ∀ a o, a ≠ x → H a = some o → H' a = some o
theorem ExB.refl {x : Addr} {H : Hp} : ExB x H H := fun _ _ _ h => h
theorem ExB.trans {x : Addr} {H H1 H2 : Hp} (a : ExB x H H1) (b : ExB x H1 H2) : ExB x H H2 := fun p o n h => b p o n (a p o n h)
theorem ExB.ex {x : Addr} {H H1 : Hp} (a : Ex H H1) : ExB x H H1 := fun p o _ h => a p o h
theorem ExB.upd {x : Addr} {H : Hp} {o : HO} : ExB x H (upd H x o) := fun p o n h => by rw [upd_ne n]; exact h
def spI (C : Addr) (R : Hp → List Kd → (Hp → Addr → Prop) → Prop) : Sp := fun vs H Q _ => ∃ x dx us ks P, vs = V.ref x :: us ∧ H x = some (.ins C dx []) ∧ Ags H ks us ∧ R H ks P ∧ ∀ H', ExB x H H' → P H' x → Q .non H'
def noOwnS (ss : List Sl) : Bool := ss.all fun s => !s.isOwn
theorem SR.rebase {H0 H : Hp} {σ : L2.St} {ss : List Sl} (S : SR H0 H σ ss) (no : noOwnS ss = true) : SR H H σ ss := ⟨Evl.Ex.refl H, S.len, fun j s q => (S.at_ j s q).imp id fun ⟨y, a, b⟩ => ⟨y, a, by
      have no : s.isOwn = false := by
        have := List.all_eq_true.mp no s (List.mem_of_getElem? q)
        simpa using this
      cases s with
      | own xs => cases no
      | om xs => cases no
      | no => exact b
      | d d => exact b
      | l xs => exact b
      | m xs => exact b⟩, S.sep⟩
theorem sr_ins {H : Hp} {σ : L2.St} {ss : List Sl} {x C dx : Addr} {fs fs' : List (Str × V)} (S : SR H H σ ss) (h : H x = some (.ins C dx fs)) : SR (upd H x (.ins C dx fs')) (upd H x (.ins C dx fs')) σ ss := by
  have tu : Tups H (upd H x (.ins C dx fs')) := .upd fun xs e => by rw [h] at e; cases e
  refine ⟨Evl.Ex.refl _, S.len, fun j s q => (S.at_ j s q).imp id fun ⟨y, a, b⟩ => ⟨y, a, ?_⟩, S.sep⟩
  have ne : ∀ {r u}, H r = some u → (∀ fs, u ≠ .ins C dx fs) → (upd H x (.ins C dx fs')) r = some u := fun {r u} e n => by
    rw [upd_ne (fun z => by rw [z, h] at e; cases e; exact n _ rfl)]; exact e
  cases s with
  | no => exact trivial
  | d d => exact Rep.tup tu b
  | l xs => obtain ⟨r, er, vs, h1, h2⟩ := b; exact ⟨r, er, vs, ne h1 (fun _ z => nomatch z), h2.tup tu⟩
  | own xs => obtain ⟨r, er, z, vs, h1, h2⟩ := b; rw [h1] at z; cases z
  | m xs => obtain ⟨r, er, vs, o, h1, h2⟩ := b; exact ⟨r, er, vs, o, ne h1 (fun _ z => nomatch z), h2.tup tu⟩
  | om xs => obtain ⟨r, er, z, vs, h1, h2⟩ := b; rw [h1] at z; cases z
theorem ag_ins {H : Hp} {x C dx : Addr} {fs fs' : List (Str × V)} {k : Kd} {y : V} (h : H x = some (.ins C dx fs)) (a : Ag H k y) : Ag (upd H x (.ins C dx fs')) k y := by
  have tu : Tups H (upd H x (.ins C dx fs')) := .upd fun xs e => by rw [h] at e; cases e
  have ne : ∀ {r u}, H r = some u → (∀ fs, u ≠ .ins C dx fs) → (upd H x (.ins C dx fs')) r = some u := fun {r u} e n => by
    rw [upd_ne (fun z => by rw [z, h] at e; cases e; exact n _ rfl)]; exact e
  cases k with
  | d d => exact Rep.tup tu a
  | r xs => obtain ⟨r, er, vs, h1, h2⟩ := a; exact ⟨r, er, vs, ne h1 (fun _ z => nomatch z), h2.tup tu⟩
  | nl xs => obtain ⟨r, er, vs, h1, h2⟩ := a; exact ⟨r, er, vs, ne h1 (fun _ z => nomatch z), h2.tup tu⟩
  | rm xs => obtain ⟨r, er, vs, o, h1, h2⟩ := a; exact ⟨r, er, vs, o, ne h1 (fun _ z => nomatch z), h2.tup tu⟩
  | nm xs => exact a
  | o P => exact a
theorem ags_ins {H : Hp} {x C dx : Addr} {fs fs' : List (Str × V)} (h : H x = some (.ins C dx fs)) : ∀ {ks : List Kd} {ys : List V}, Ags H ks ys → Ags (upd H x (.ins C dx fs')) ks ys
  | [], ys, a => a
  | k :: ks, ys, ⟨y, r, q, a, b⟩ => ⟨y, r, q, ag_ins h a, ags_ins h b⟩
theorem putF_new {f : Str} {v : V} : ∀ {fs : List (Str × V)}, fs.lookup f = none → putF f v fs = fs ++ [(f, v)]
  | [], _ => rfl
  | (g, x) :: r, h => by
    rw [List.lookup_cons] at h
    by_cases e : g = f
    · subst e
      simp at h
    · have : (f == g) = false := by simpa using fun z => e z.symm
      rw [this] at h
      show (if g = f then (g, v) :: r else (g, x) :: putF f v r) = _
      rw [if_neg e, putF_new h]
      rfl
/-- what stands of the object that is being made -/
structure SelfAt (Hs : Hp) (x C : Addr) (l : List (Str × Kd)) (H : Hp) : Prop where
  keep : ExB x Hs H
  at_ : ObjAt H x C l
theorem SelfAt.mono {Hs H H' : Hp} {x C : Addr} {l : List (Str × Kd)} (e : Ex H H') (h : SelfAt Hs x C l H) : SelfAt Hs x C l H' := ⟨h.keep.trans (.ex e), h.at_.mono e⟩
theorem SelfAt.put {Hs H : Hp} {x C dx : Addr} {l : List (Str × Kd)} {fs : List (Str × V)} {f : Str} {k : Kd} {y : V} (h : SelfAt Hs x C l H) (hx : H x = some (.ins C dx fs)) (hl : l.lookup f = none) (r : Ag H k y) :
    SelfAt Hs x C (l ++ [(f, k)]) (upd H x (.ins C dx (putF f y fs))) := by
  obtain ⟨dx', fs', h1, h2, h3⟩ := h.at_
  rw [hx] at h1
  cases h1
  rw [putF_new (flds_no h2 hl)]
  refine ⟨h.keep.trans .upd, dx, fs ++ [(f, y)], upd_same, by simp [h2], ?_⟩
  rw [List.map_append, List.map_append]
  exact ags_app (ags_ins hx h3) ⟨y, [], rfl, ag_ins hx r, rfl⟩
section
variable {P : Program} {w : World} {K : PySem.W.Frag} {mg : Str → Option Value} {base : Heap}
def BI (X : Cx) (sts : List Stmt) (ss : List Sl) (I Post : Hp → Prop) : Prop := ∀ (σ : L2.St) (H : Hp) (D : Ends), SR H H σ ss → I H → (∀ σ' H', Post H' → D.nx σ' H') → RB X sts D σ H
theorem ok_in {C : Addr} {x qual : Str} {st : Stmt} {f : Addr} {N ps : List Str} {lv : Nat} {R : Hp → List Kd → (Hp → Addr → Prop) → Prop} (F : ∃ fd, Fun K x qual st f fd) (S : FnScope N ps (defScope st))
    (bb : ∀ (kV doc pm : Value) (an : Option Addr) (cdv ct : Value) (us : List Value), us.length = ps.length → bindArgs (PySem.W.fnOf x qual (defArgs st) (defBody st) (defScope st) .none kV doc pm an cdv ct) ⟨us, []⟩ = pure (ps.zip us))
    (hN : ps.length ≤ N.length) (hl : ∀ H ks k, R H ks k → ks.length + 1 = ps.length)
    (body : ∀ (cdv : Value) (A : Around) (outer : List Env) (s : Shared) (H : Hp) (E : XK) (x dx : Addr) (ks : List Kd) (Pr : Hp → Addr → Prop), Room lv (CxF P w K mg base N qual st f cdv A outer s H E).A → H x = some (.ins C dx []) → R H ks Pr →
      BI (CxF P w K mg base N qual st f cdv A outer s H E) (defBody st) (argS N.length (.d (.v (.ref x)) :: ks)) (fun H' => H' = H) (fun H' => ExB x H H' ∧ Pr H' x)) : OkF P w K mg base (lv + 1) f ps (spI C R) := by
  obtain ⟨fd, F⟩ := F
  refine ⟨⟨fd, F.ok S (fun vs H Q E h => ?_) (fun cdv A outer s H vs Q E hr h => ?_), F.binds bb⟩, F.kp⟩
  · obtain ⟨x, dx, us, ks, Pr, rfl, _, a, r, _⟩ := h
    rw [List.length_cons, a.length]; exact hl H ks Pr r
  · obtain ⟨x, dx, us, ks, Pr, rfl, hx, a, r, q⟩ := h
    refine ⟨_, pb_any, body cdv A outer s H E x dx ks Pr hr hx r _ _ _ (sr_start (ags_cons ag_ref a) (by rw [List.length_cons, hl H ks Pr r]; exact hN)) rfl fun σ' H' ⟨h1, h2⟩ => q H' h1 h2⟩
end
section
variable {X : Cx} {H0 : Hp} {ss s1 : List Sl} {pos p1 p2 p3 : Pos} {a b c e tg o : Expr} {st : Stmt} {sts : List Stmt} {I I' Post : Hp → Prop} {Nx : List Sl → Prop} {Rt : Kd → Prop}
theorem bi_nil (h : ∀ H, I H → Post H) : BI X [] ss I Post := fun σ H D S i n => ⟨_, pss_nil, n σ H (h H i)⟩
/-- a statement that writes nothing that stands -/
theorem bi_pure (h : ∀ H, I H → SX X H st ss (fun s => s = s1) (fun _ => False)) (no : noOwnS s1 = true) (hI : ∀ H H', Ex H H' → I H → I' H') (k : BI X sts s1 I' Post) : BI X (st :: sts) ss I Post := fun σ H D S i n =>
  ⟨_, pss_cons ps_any pb_any, h H i σ H { D with nx := RB X sts D } S (fun s' σ' H' q S' => by
    subst q
    exact k σ' H' D (S'.rebase no) (hI H H' S'.ex i) n) fun k y H' q _ _ => q.elim⟩
/-- self.f = e -/
theorem bi_fld {Hs : Hp} {x C : Addr} {l : List (Str × Kd)} {f : Str} {k : Kd} (h : ∀ H, SelfAt Hs x C l H → EX X H ss e k) (ho : ∀ H, EX X H ss o (.d (.v (.ref x)))) (c : Cls X.K C) (nf : NoAttr X.K C f) (hl : l.lookup f = none) (hz : l.length < 1000) (r : BI X sts ss (SelfAt Hs x C (l ++ [(f, k)])) Post)
    (hs : swapsWith e (some (.Attribute o f p1)) pos.line X.env = pure false := by rfl) : BI X (.Assign [.Attribute o f p1] e pos :: sts) ss (SelfAt Hs x C l) Post := fun σ H D S i n => by
  refine ⟨_, pss_cons (ps_fld pe_any pe_any hs) pb_any, h H i σ H _ S fun y H1 e1 r1 => ho H σ H1 _ (S.mono e1) fun z H2 e2 r2 => ?_⟩
  have i2 := (i.mono e1).mono e2
  obtain ⟨dx, fs, g1, g2, g3⟩ := id i2.at_
  have hf : fs.length = l.length := by
    have := congrArg List.length g2
    simpa using this
  refine ⟨x, C, dx, fs, isv r2, g1, c, nf, by omega, ?_⟩
  have S2 : SR H2 H2 σ ss := by
    refine ⟨Evl.Ex.refl _, S.len, fun j s q => ((S.mono e1).mono e2).at_ j s q |>.imp id fun ⟨y, ey, a⟩ => ⟨y, ey, ?_⟩, S.sep⟩
    cases s with
    | own xs => obtain ⟨r, er, zz, vs, hh, _⟩ := (S.at_ j _ q).resolve_left (fun z => nomatch z) |>.choose_spec.2; rw [hh] at zz; cases zz
    | om xs => obtain ⟨r, er, zz, vs, hh, _⟩ := (S.at_ j _ q).resolve_left (fun z => nomatch z) |>.choose_spec.2; rw [hh] at zz; cases zz
    | no => exact a
    | d d => exact a
    | l xs => exact a
    | m xs => exact a
  exact r σ _ D (sr_ins S2 g1) (i2.put g1 hl ((r1.ag).mono e2)) n
/-! targets that are attributes of self -/
def gFld (K : PySem.W.Frag) (ta : TE) (f : Str) : TG := fun v σ H Q => ta σ H fun x H2 => ∃ a C dx fs, x = .ref a ∧ H2 a = some (.ins C dx fs) ∧ Cls K C ∧ NoAttr K C f ∧ fs.length < 1000 ∧ Q σ (upd H2 a (.ins C dx (putF f v fs)))
theorem pg_fld {f : Str} {ta : TE} (ha : PE X o ta) : PG X (.Attribute o f pos) (gFld X.K ta f) := by
  refine ⟨fun pins s σ H v u Q I r h => ?_⟩
  refine PySem.W.kas_attr (thn (ha.run pins s σ H _ I h) fun ov s2 ⟨x, H2, I2, rx, a, C, dx, fs, ex, ea, c, n, l, q2⟩ => ?_)
  subst ex
  obtain rfl : ov = Value.ref a := rx
  exact setattr_ok I2 ea c n l r fun s3 I3 => ⟨σ, _, I3, q2⟩
def GI (X : Cx) (tg : Expr) (ss : List Sl) (I I' : Hp → Prop) (d : Dt) : Prop := ∀ (v : V) (σ : L2.St) (H : Hp) (Q : L2.St → Hp → Prop), SR H H σ ss → I H → Rep H d v → (∀ H', Tups H H' → SR H' H' σ ss → I' H' → Q σ H') → RG X tg v σ H Q
def GIs (X : Cx) (es : List Expr) (ss : List Sl) (I I' : Hp → Prop) (l : List Dt) : Prop := ∀ (vs : List V) (σ : L2.St) (H : Hp) (Q : L2.St → Hp → Prop), SR H H σ ss → I H → RepL H l vs → (∀ H', Tups H H' → SR H' H' σ ss → I' H' → Q σ H') → RGs X es vs σ H Q
theorem gis_nil : GIs X [] ss I I [] := fun vs σ H Q S i r q => ⟨_, pgs_nil, r.inv0, q H (fun _ _ h => h) S i⟩
theorem gis_cons {t : Expr} {es : List Expr} {I2 : Hp → Prop} {d : Dt} {l : List Dt} (h : GI X t ss I I' d) (g : GIs X es ss I' I2 l) (hs : (assignEach (t :: es) X.env).map (·.2) = assign t X.env :: (assignEach es X.env).map (·.2) := by rfl) : GIs X (t :: es) ss I I2 (d :: l) := fun vs σ H Q S i r q => by
  obtain ⟨y, ys, ev, a, b⟩ := r.inv
  exact ⟨_, pgs_cons pg_any pgs_any hs, y, ys, ev, h y σ H _ S i a fun H1 t1 S1 i1 => g ys σ H1 _ S1 i1 (b.tup t1) fun H2 t2 S2 i2 => q H2 (fun p xs h => t2 p xs (t1 p xs h)) S2 i2⟩
theorem gi_fld {Hs : Hp} {x C : Addr} {l : List (Str × Kd)} {f : Str} {d : Dt} (ho : ∀ H, EX X H ss o (.d (.v (.ref x)))) (c : Cls X.K C) (nf : NoAttr X.K C f) (hl : l.lookup f = none) (hz : l.length < 1000) (no : noOwnS ss = true) : GI X (.Attribute o f pos) ss (SelfAt Hs x C l) (SelfAt Hs x C (l ++ [(f, .d d)])) d := fun v σ H Q S i r q => by
  refine ⟨_, pg_fld pe_any, ho H σ H _ S fun z H2 e2 r2 => ?_⟩
  have i2 := i.mono e2
  obtain ⟨dx, fs, g1, g2, g3⟩ := id i2.at_
  have hf : fs.length = l.length := by
    have := congrArg List.length g2
    simpa using this
  refine ⟨x, C, dx, fs, isv r2, g1, c, nf, by omega, ?_⟩
  have tu : Tups H2 (upd H2 x (.ins C dx (putF f v fs))) := .upd fun xs e => by rw [g1] at e; cases e
  exact q _ (fun p xs h => tu p xs (e2 p _ h)) (sr_ins ((S.mono e2).rebase no) g1) (i2.put g1 hl (Rep.mono e2 r))
/-- (targets) = e -/
theorem bi_tup {es : List Expr} {l : List Dt} {k n : Nat} (h : ∀ H, I H → EX X H ss e (.d (.tup l))) (hI : ∀ H H', Ex H H' → I H → I H') (g : GIs X es ss I I' l) (no : noOwnS ss = true) (r : BI X sts ss I' Post) (hl : l.length = n) (hc : X.calm = true := by rfl)
    (hn : (assignEach es X.env).length = n := by rfl) (hst : (assignEach es X.env).findIdx? (·.1) = none := by rfl)
    (hs : swapsWithSole [.Tuple es k p1] e pos.line X.env = pure false := by rfl) (hw : swappedStores [.Tuple es k p1] e X.env = pure none := by rfl)
    (h1 : (assignEach [.Tuple es k p1] X.env).map (·.2) = [assign (.Tuple es k p1) X.env] := by rfl) : BI X (.Assign [.Tuple es k p1] e pos :: sts) ss I Post := fun σ H D S i nx => by
  refine ⟨_, pss_cons (ps_asg pe_any (pg_tup (n := n) hc pgs_any hn hst) hs hw h1) pb_any, h H i σ H _ S fun y H1 e1 r1 => ?_⟩
  obtain ⟨p, vs, ev, hp, rl⟩ := rep_tupI (H := H1) r1
  exact ⟨p, vs, ev, SqT.of hp, by rw [rl.length]; exact hl, g vs σ H1 _ ((S.mono e1).rebase no) (hI H H1 e1 i) rl fun H2 _ S2 i2 => r σ H2 D S2 i2 nx⟩
/-- C(..) -/
theorem ex_make {x : Str} {C f : Addr} {lv : Nat} {ps : List Str} {R : Hp → List Kd → (Hp → Addr → Prop) → Prop} {es : List Expr} {ks : List Kd} {Pr : Hp → Addr → Prop}
    (M : Mk X.K C f) (G : OkF X.prog X.w X.K X.mg X.base lv f ps (spI C R)) (hr : Room (lv + 1) X.A) (hm : X.mg x = some (.ref C)) (ha : EA X H0 ss (e :: es) ks) (hR : ∀ H, Ex H0 H → R H ks Pr) (hg : Gl X x := by rfl)
    (hdb : (x == ("__debug__" : Str)) = false := by decide) (he : starEach (e :: es) X.env = (false, eval e X.env) :: starEach es X.env := by rfl) (hpl : (backTo pos (starEach es X.env)).any (·.1) = false := by rfl) :
    EX X H0 ss (.Call (.Name x p1) (e :: es) [] pos) (.o Pr) := fun σ H Q S q => by
  obtain ⟨fd, F, b⟩ := G.ex
  refine ⟨_, pe_make M F hr hg hm b .nil pass0 pa_any hdb he hpl, ha σ H _ S fun vs H1 e1 r1 => ?_⟩
  intro x dx hx hdx hne
  have e2 : Ex H1 (upd (upd H1 dx (.own x)) x (.ins C dx [])) := Evl.Ex.mut (Evl.Ex.new hdx) hx
  rw [List.append_nil]
  refine ⟨x, dx, vs, ks, Pr, rfl, upd_same, r1.mono e2, hR _ ((S.ex.trans e1).trans e2), fun H' h1 h2 => ⟨rfl, q _ H' (e1.trans fun a o h => ?_) ⟨x, rfl, h2⟩⟩⟩
  exact h1 a o (fun z => by rw [z, hx] at h; cases h) (e2 a o h)
end
end K44
end

section
-- text Zc
set_option Elab.async false
set_option linter.all false
set_option maxRecDepth 100000
set_option maxHeartbeats 4000000
/-! displays and comprehensions of dicts whose keys are tuples. -/
namespace K44
open PySem PySem.Spec L2 PyProof.Rows
open Evl (Ex)
theorem d_dictSetT {X : Cx} {pins : List (Addr × Obj)} {σ : L2.St} {H : Hp} {s : Shared} {E : Value → Shared → Prop} {D b : Addr} {kvs : List (List Key × V)} {k : List Key} {v : V} {u r : Value} {Q : Unit → Shared → Prop} (hu : X.A.units < cLine) (I : Inv X pins σ H s) (hD : H D = some (.dT kvs)) (hz : kvs.length < sizeLine)
    (eb : H b = some (.tup (k.map kV))) (ry : RelV (.ref b) u) (rv : RelV v r) (h : ∀ s', Inv X pins σ (upd H D (.dT (putK kvs k v))) s' → Q () s') : wpAny (model X.prog X.w) X.A (dictSet D u r) Q E s := by
  cases (show u = Value.ref b from ry)
  obtain ⟨z, hd, xs, rel, dd⟩ := dt_of I.hok hD
  have hzv : xs.length ≤ sizeLine := by rw [← Paired.length rel]; exact z
  have hl : (putK kvs k v).length ≤ sizeLine := by have := length_putK kvs k v; omega
  refine wpAny_dictSet_heap (hsz := hzv) (knd := tupleKind (mixKind X.prog X.w)) hu (key_of I.hok eb) dd fun h' dd' hs => h _ ?_
  obtain ⟨q, es, ep, hq, h2, h3, h4, _, h5⟩ := dd'
  refine d_write I (by rw [hD]; exact True.intro) hs ⟨q, hq⟩ ⟨hl, hd, _, (rel.put k eb rv).keeps fun c ys ec => ?_, q, es, ep, hq, h2, h3, h4, h5⟩
  rw [upd_ne (ne_of ec hD (fun z => nomatch z))]
  exact ec
/-- {k: v} -/
def tDisp1 (tk tv : TE) : TE := fun σ H Q => ∀ p, H p = none → tk σ (upd H p (.dT [])) fun x H1 => tv σ H1 fun y H2 => ∃ (key : List Key) (b : Addr), x = .ref b ∧ H2 b = some (.tup (key.map kV)) ∧ H2 p = some (.dT []) ∧ Q (.ref p) (upd H2 p (.dT [(key, y)]))
theorem pe_disp1 {X : Cx} {pos : Pos} {k v : Expr} {tk tv : TE} (hu : X.A.units < cLine) (hk : PE X k tk) (hv : PE X v tv) : PE X (.Dict [some k] [v] pos) (tDisp1 tk tv) := by
  refine ⟨fun pins s σ H Q I q => ?_⟩
  have hn := I.hok.fresh (Nat.le_refl s.heap.objs.size)
  have I1 := I.laid (a := s.heap.objs.size) (o := .dT []) (h' := s.heap.push { cls := .type "dict", data := .dict #[] }) (t' := s.toks) (fun _ _ q => Heap.get?_push_of_some _ q) (Nat.le_refl _) (dt_empty s.heap I.big)
  rw [arm_eval_Dict, zip_pairTrees [some k] [v] X.env pos rfl rfl, dictDisplay_pairs (pairTrees [some k] [v] X.env pos) (by simp [pairTrees]) (by simp [pairTrees])]
  refine wpAny_bind (wpAny_standAt (wpAny_bind ?_))
  unfold subDict
  refine wpAny_bind (wpAny_alloc ?_)
  refine wpAny_bind (wpAny_holding ?_)
  rw [if_pos (by simp [pairTrees])]
  refine wpAny_bind (pairTrees_cons_walk (thn (hk.run pins _ σ _ _ I1 (q _ hn)) fun kv s2 ⟨x, H2, I2, rx, q2⟩ => thn (hv.run pins s2 σ H2 _ I2 q2) fun vv s3 ⟨y, H3, I3, ry, key, b, ex, eb, ep, q3⟩ => pairTrees_nil_walk ?_))
  subst ex
  refine wpAny_holding ?_
  simp only [List.forIn_cons, List.forIn_nil]
  refine wpAny_bind (wpAny_bind ?_)
  first
    | refine wpAny_bind (d_dictSetT (E := X.xe) hu I3 ep (by rw [List.length_nil, sizeLine_eq]; omega) eb rx ry fun s4 I4 => ?_)
    | skip
  exact wpAny_pure (wpAny_pure (wpAny_pure (wpAny_pure (wpAny_pure ⟨.ref s.heap.objs.size, _, I4, rfl, q3⟩))))
/-- {k: v for target in iter if ..}: D the new dict -/
def tDcT (wi : TI) (g : TG) (tt : TT) (tk tv : TE) (vs : List Nat) : TE := fun σ H Q => wi σ H fun J H1 => ∀ D, H1 D = none → ∃ W : Nat → Nat → Hp → Prop, (∃ m, W 0 m (upd H1 D (.dT []))) ∧ ∀ i m H, W i m H →
  (J.stop i H ∧ Q (.ref D) H) ∨ (J.go i H ∧ ∃ Nx : Hp → Prop, (∀ H', Nx H' → ∃ m', m' < m ∧ W (i + 1) m' H') ∧ ∀ x H', J.yld i H x H' → g x (wipe σ vs) H' fun σ2 H2 => wipe σ2 vs = wipe σ vs ∧ tt σ2 H2 fun b H3 =>
    if b = true then tk σ2 H3 fun y H4 => tv σ2 H4 fun z H5 => ∃ (kvs : List (List Key × V)) (k : List Key) (b : Addr), y = .ref b ∧ H5 b = some (.tup (k.map kV)) ∧ H5 D = some (.dT kvs) ∧ kvs.length < sizeLine ∧ Nx (upd H5 D (.dT (putK kvs k z))) else Nx H3)
section
variable {X : Cx}
theorem dcT_core {pins : List (Addr × Obj)} {s : Shared} {σ : L2.St} {H : Hp} {Q : VK} {kx vx tg iter : Expr} {ifs : List Expr} {scope : Scope} {own : List (Str × Nat)} {pos pos' : Pos} {wi : TI} {g : TG} {tt : TT} {tk tv : TE} {use : Option (Value → Sem Unit)} {Qf : Value → Shared → Prop}
    (hu : ∀ (s : Shared) (H : Hp) (C : Addr) (cl : List (Str × Addr)) (fp : List Addr), (X.blk s H scope (compEnvC scope cl C X.env) fp).A.units < cLine) (hc : X.calm = true) (hN : X.N.Nodup) (I : Inv X pins σ H s) (hi : PI X tg iter wi) (ok : BlkOk X.N X.env.scope scope own)
    (hg : ∀ (s : Shared) (H : Hp) (C : Addr) (cl : List (Str × Addr)) (fp : List Addr), PG (X.blk s H scope (compEnvC scope cl C X.env) fp) tg g) (ht : ∀ (s : Shared) (H : Hp) (C : Addr) (cl : List (Str × Addr)) (fp : List Addr), PTs (X.blk s H scope (compEnvC scope cl C X.env) fp) ifs tt)
    (hk : ∀ (s : Shared) (H : Hp) (C : Addr) (cl : List (Str × Addr)) (fp : List Addr), PE (X.blk s H scope (compEnvC scope cl C X.env) fp) kx tk)
    (he : ∀ (s : Shared) (H : Hp) (C : Addr) (cl : List (Str × Addr)) (fp : List Addr), PE (X.blk s H scope (compEnvC scope cl C X.env) fp) vx tv) (hs : ∀ x, foldedSetIterable iter X.env x = pure x)
    (h : tDcT wi g tt tk tv (own.map (·.2)) σ H Q)
    (hRR : ∀ D C s' m H', Inv X pins σ H' s' → Q (.ref D) H' → s'.heap.Ns C m → FpOk X pins H' C → compPost (model X.prog X.w) X.A X.xe use Qf (.ref D) C (.ok .next) s') :
    wpAny (model X.prog X.w) X.A (comprehension (.DictComp kx vx [⟨tg, iter, ifs, 0⟩] scope pos) scope X.env pos' newDict false (eval iter X.env) use) Qf X.xe s := by
  have hfree : ∀ y ∈ scope.names, y.2 = .free → ∃ c, X.env.cells.lookup y.1 = some c := fun y hy e => by
    rcases ok.free y hy e with k | k
    · exact I.ok.has _ (.inl k)
    · exact I.ok.has _ (.inr k)
  refine wpAny_comprehension_free (use := use) rfl hs (closure_ok hfree) ok.kind (fun y hy e => by rw [ok.uniq y hy, e])
    (thn (hi.run pins s σ H _ I h) fun xv s1 hx => thn hx fun itv s2 h2 => ?_)
  obtain ⟨it, fp, tn, J, H2, e, I2, T, st2, f2, q⟩ := h2
  subst e
  refine wpAny_newObj_type (newEnv_comp ?_)
  generalize hD : s2.heap.objs.size = D
  have hDn : H2 D = none := I2.hok.fresh (Nat.le_of_eq hD)
  obtain ⟨W, ⟨m0, w0⟩, turn⟩ := q D hDn
  -- the new list
  generalize hs3 : ({ s2 with heap := s2.heap.push { cls := .type "dict", data := .dict #[] } } : Shared) = s3
  have I3 : Inv X pins σ (upd H2 D (.dT [])) s3 := by
    rw [← hs3]
    refine I2.laid (t' := s2.toks) (fun b o e => Heap.get?_push_of_some _ e) (Nat.le_of_eq hD) ?_
    rw [← hD]
    exact dt_empty s2.heap I2.big
  have h3 : s3.heap = s2.heap.push { cls := .type "dict", data := .dict #[] } := by rw [← hs3]
  have sz : ∀ b ∈ fp, b < s2.heap.objs.size := fun b hb => by
    obtain ⟨o, e, _⟩ := T.obj _ _ st2 b hb
    exact Heap.lt_size e
  have f3 : ∀ b ∈ fp, FpOk X pins (upd H2 D (.dT [])) b ∧ b < s3.heap.objs.size := fun b hb => by
    have hlt := sz b hb
    refine ⟨⟨?_, (f2 b hb).2⟩, by rw [h3, Heap.size_push]; exact Nat.lt_succ_of_lt hlt⟩
    rw [upd_ne (by rw [← hD]; exact Nat.ne_of_lt hlt)]
    exact (f2 b hb).1
  have st3 : tn 0 s3.heap := T.keep _ _ _ st2 fun b _ o e => by rw [h3]; exact Heap.get?_push_of_some _ e
  have I4 := block_start I3 ok hN f3
  have pg := hg s3 (upd H2 D (.dT [])) s3.heap.objs.size (cellsFrom (s3.heap.objs.size + 1) scope.names (cloFrom X.env.cells scope.names [])) fp
  have pt := ht s3 (upd H2 D (.dT [])) s3.heap.objs.size (cellsFrom (s3.heap.objs.size + 1) scope.names (cloFrom X.env.cells scope.names [])) fp
  have pk := hk s3 (upd H2 D (.dT [])) s3.heap.objs.size (cellsFrom (s3.heap.objs.size + 1) scope.names (cloFrom X.env.cells scope.names [])) fp
  have pe := he s3 (upd H2 D (.dT [])) s3.heap.objs.size (cellsFrom (s3.heap.objs.size + 1) scope.names (cloFrom X.env.cells scope.names [])) fp
  have hu4 := hu s3 (upd H2 D (.dT [])) s3.heap.objs.size (cellsFrom (s3.heap.objs.size + 1) scope.names (cloFrom X.env.cells scope.names [])) fp
  show codeAny _ _ (.compStart (.DictComp kx vx [⟨tg, iter, ifs, 0⟩] scope pos) 0 (.ref it) (.ref D) (compEnvC scope (cellsFrom (s3.heap.objs.size + 1) scope.names (cloFrom X.env.cells scope.names [])) s3.heap.objs.size X.env)) (compPost (model X.prog X.w) X.A X.xe use Qf (.ref D) s3.heap.objs.size) { s3 with heap := pushCells (s3.heap.push { cls := .type "dict", data := .dict #[] }) scope.names }
  have nfp : ∀ b ∈ fp, (upd H2 D (.dT [])) b = none := fun b hb => (f3 b hb).1.1
  generalize hce : compEnvC scope (cellsFrom (s3.heap.objs.size + 1) scope.names (cloFrom X.env.cells scope.names [])) s3.heap.objs.size X.env = ce at I4 pg pt pk pe hu4 ⊢
  have cL : ce.locals = s3.heap.objs.size := by subst hce; rfl
  generalize hH3 : upd H2 D (.dT []) = H3 at I3 I4 pg pt pk pe hu4 w0 nfp f3
  generalize hs4 : ({ s3 with heap := pushCells (s3.heap.push { cls := .type "dict", data := .dict #[] }) scope.names } : Shared) = s4 at I4 ⊢
  have st4 : tn 0 s4.heap := T.keep _ _ _ st3 fun b _ o e => by rw [← hs4]; exact pushCells_keeps _ _ _ _ (Heap.get?_push_of_some _ e)
  have stat : ∀ {σ' : L2.St} {H' : Hp} {s' : Shared}, Inv (X.blk s3 H3 scope ce fp) [] σ' H' s' → (∀ b ∈ fp, H' b = none) → ∀ b ∈ fp, FpOk (X.blk s3 H3 scope ce fp) [] H' b := fun {σ' H' s'} I' hn b hb =>
    ⟨hn b hb, (I'.ok.exf b hb).1, I'.ok.exfs b hb, .inl hb, fun x c e => (I'.ok.exf b hb).2 x c e, fun p hp => absurd (show p ∈ ([] : List (Addr × Obj)) ++ [] from hp) (by simp)⟩
  have loop : codeAny (model X.prog X.w) X.A (.compLoop (.DictComp kx vx [⟨tg, iter, ifs, 0⟩] scope pos) 0 (.ref it) (.ref D) ce) (compPost (model X.prog X.w) X.A X.xe use Qf (.ref D) s3.heap.objs.size) s4 := by
    refine compLoop_anyD (fun n s' => ∃ i H', Inv (X.blk s3 H3 scope ce fp) [] (wipe σ (own.map (·.2))) H' s' ∧ tn i s'.heap ∧ (∀ b ∈ fp, H' b = none) ∧ W i n H') ?_ m0 ⟨0, H3, I4, st4, nfp, w0⟩
    rintro n s5 ⟨i, H5, I5, st5, n5, w5⟩
    rcases turn i n H5 w5 with ⟨stop, qq⟩ | ⟨go, Nx, hNx, step⟩
    · have td := T.done (X.blk s3 H3 scope ce fp) rfl rfl rfl hc i [] s5 _ H5 (fun _ _ => False) I5 (stat I5 n5) st5 stop
      refine thnF td fun r s6 ⟨hr, I6⟩ => ?_
      subst hr
      -- back in the def's context
      have I7 : Inv X pins σ H5 s6 := I3.call' (ch := fp) I6.os I6.base I6.hok I6.bare fun b hb => ⟨(f3 b hb).1.2.2.2.1, (f3 b hb).1.2.1, (f3 b hb).1.2.2.2.2.1, (f3 b hb).1.2.2.2.2.2⟩
      have nC : H5 s3.heap.objs.size = none := by
        have z : H5 ce.locals = none := I6.free
        rw [cL] at z
        exact z
      obtain ⟨m, hn, _⟩ := I6.loc
      have hn : s6.heap.Ns ce.locals m := hn
      rw [cL] at hn
      exact hRR D s3.heap.objs.size s6 m H5 I7 qq hn (I3.fpOk (Nat.le_refl _) nC)
    · have ti := T.item (X.blk s3 H3 scope ce fp) rfl rfl rfl hc i [] s5 _ H5 (fun _ _ => False) I5 (stat I5 n5) st5 go
      refine thnF ti fun r s6 ⟨u, hr, h6⟩ => ?_
      subst hr
      refine thnF h6 fun _ s7 ⟨x, H7, I7, r7, y7, st7, n7⟩ => ?_
      have I7' := I7.pinned (stat I7 n7) (T.obj _ _ st7)
      refine thnF (pg.run _ s7 _ H7 x u _ I7' r7 (step x H7 y7)) fun _ s8 ⟨σ8, H8, I8, hw8, q8⟩ => ?_
      refine thnF (pt.run _ s8 σ8 H8 _ I8 q8) fun b s9 ⟨H9, I9, q9⟩ => ?_
      -- the turn's end
      have fin : ∀ {s' : Shared} {H' : Hp}, Inv (X.blk s3 H3 scope ce fp) ([] ++ pinsAt fp s7.heap) σ8 H' s' → Nx H' → ∃ m, m < n ∧ ∃ i H', Inv (X.blk s3 H3 scope ce fp) [] (wipe σ (own.map (·.2))) H' s' ∧ tn i s'.heap ∧ (∀ b ∈ fp, H' b = none) ∧ W i m H' := fun {s' H'} I' nx => by
        obtain ⟨m', hm, w'⟩ := hNx H' nx
        have pin' : ∀ b ∈ fp, ∀ o, s7.heap.get? b = some o → s'.heap.get? b = some o ∧ H' b = none := fun b hb o e =>
          let z := I'.pin (b, o) (List.mem_append_right _ (List.mem_append_right _ (mem_pinsAt hb e)))
          ⟨z.1, z.2.1⟩
        have hl : (wipe σ (own.map (·.2))).length = σ8.length := by rw [← hw8, wipe_length]
        refine ⟨m', hm, i + 1, H', (I'.unpinned (pins := [])).weak hl (fun j v e => ?_), T.keep _ _ _ st7 fun b hb o e => (pin' b hb o e).1, fun b hb => ?_, w'⟩
        · rw [← hw8] at e
          exact (wipe_some e).1
        · obtain ⟨o, e, _⟩ := T.obj _ _ st7 b hb
          exact (pin' b hb o e).2
      cases b with
      | false =>
        simp only [Bool.false_eq_true, if_false] at q9 ⊢
        exact fin I9 q9
      | true =>
        simp only [if_true] at q9 ⊢
        refine thnF (pk.run _ s9 σ8 H9 _ I9 q9) fun z s10 ⟨yk, H10, I10, r10, q10⟩ => ?_
        refine thnF (pe.run _ s10 σ8 H10 _ I10 q10) fun z2 s11 ⟨yv, H11, I11, r11, kvs, k, b, ek, eb, hD11, hz11, nx⟩ => ?_
        subst ek
        exact d_dictSetT (X := X.blk s3 H3 scope ce fp) hu4 I11 hD11 hz11 eb r10 r11 fun s12 I12 => fin I12 nx
  exact codeAny_compStart_dict loop (T.self X.A 0 _ _ _ st4 loop)

theorem ps_setDcT {i : Nat} {y : Str} {py : Pos} {kx vx tg iter : Expr} {ifs : List Expr} {scope : Scope} {own : List (Str × Nat)} {pos spos : Pos} {wi : TI} {g : TG} {tt : TT} {tk tv : TE} (hu : ∀ (s : Shared) (H : Hp) (C : Addr) (cl : List (Str × Addr)) (fp : List Addr), (X.blk s H scope (compEnvC scope cl C X.env) fp).A.units < cLine) (hc : X.calm = true) (hN : X.N.Nodup) (hy : X.N[i]? = some y) (hyl : X.env.scope.names.lookup y = some .local)
    (hsw : swapsWith (.DictComp kx vx [⟨tg, iter, ifs, 0⟩] scope pos) (some (.Name y py)) spos.line X.env = pure true) (hi : PI X tg iter wi) (ok : BlkOk X.N X.env.scope scope own)
    (hg : ∀ (s : Shared) (H : Hp) (C : Addr) (cl : List (Str × Addr)) (fp : List Addr), PG (X.blk s H scope (compEnvC scope cl C X.env) fp) tg g) (ht : ∀ (s : Shared) (H : Hp) (C : Addr) (cl : List (Str × Addr)) (fp : List Addr), PTs (X.blk s H scope (compEnvC scope cl C X.env) fp) ifs tt)
    (hk : ∀ (s : Shared) (H : Hp) (C : Addr) (cl : List (Str × Addr)) (fp : List Addr), PE (X.blk s H scope (compEnvC scope cl C X.env) fp) kx tk)
    (he : ∀ (s : Shared) (H : Hp) (C : Addr) (cl : List (Str × Addr)) (fp : List Addr), PE (X.blk s H scope (compEnvC scope cl C X.env) fp) vx tv) (hs : ∀ x, foldedSetIterable iter X.env x = pure x := by intro _; rfl) :
    PS X (.Assign [.Name y py] (.DictComp kx vx [⟨tg, iter, ifs, 0⟩] scope pos) spos) (tAsg (tDcT wi g tt tk tv (own.map (·.2))) (gName i)) := by
  refine ⟨fun pins s σ H D I h => ?_⟩
  rw [exec_Assign_Name_used _ _ _ _ hsw]
  refine wpAny_bind (wpAny_standAt (wpAny_bind ?_))
  show wpAny _ X.A (do let _ ← comprehension (.DictComp kx vx [⟨tg, iter, ifs, 0⟩] scope pos) scope X.env (firstIterPos [⟨tg, iter, ifs, 0⟩] pos) newDict false (eval iter X.env) (some (assign (.Name y py) X.env))) _ _ s
  have h : tDcT wi g tt tk tv (own.map (·.2)) σ H (fun x H1 => gName i x σ H1 D.nx) := h
  refine wpAny_bind (thn (dcT_core (Qf := fun _ s' => SP X pins D .next s') hu hc hN I hi ok hg ht hk he hs h fun L C s' m H' I' q hn f => ?_) fun _ s' hq => wpAny_pure (wpAny_pure hq))
  show wpAny _ _ (assign (.Name y py) X.env (.ref L)) _ _ _
  refine wpAny_assign_Name (store_ok2 (v := V.ref L) I' hN hy (.inl hyl) rfl (fun s2 I2 ⟨a, sb, ha⟩ => ?_) (.inr hyl))
  obtain ⟨f0, f1, f2, f3, f4, f5⟩ := f
  have haC : C ≠ a := by
    rcases ha with z | z
    · rw [z]; exact f1
    · exact fun e => f4 y a z e.symm
  refine ⟨m, hn.sameBut sb haC, fun h3 sb3 => ?_⟩
  exact ⟨_, H', I2.turned (t' := s2.toks) (fun b o hb e => (sb3.2 b hb).trans e) f0 f1 f3 f4 f5, q⟩
end
end K44
end

section
-- text Gc
set_option Elab.async false
set_option linter.all false
set_option maxRecDepth 100000
set_option maxHeartbeats 4000000
namespace K44
open PySem PySem.Spec L2 PyProof.Rows
open Evl (Ex)
theorem dcT_it {J : It} {n : Nat} {G : Hp → Prop} {Y : Nat → Hp → V → Hp → Prop} (w : Walk J n G Y) {g : TG} {tt : TT} {tk tv : TE} {vs : List Nat} {σ : L2.St} {H1 : Hp} {D : Addr} {Qd : Hp → Prop} (Pv : Nat → Hp → Prop) (h0 : Pv 0 (upd H1 D (.dT []))) (hG : ∀ i H, i ≤ n → Pv i H → G H)
    (hs : ∀ i x H H', i < n → Pv i H → Y i H x H' → g x (wipe σ vs) H' fun σ2 H2 => wipe σ2 vs = wipe σ vs ∧ tt σ2 H2 fun b H3 =>
      if b = true then tk σ2 H3 fun y H4 => tv σ2 H4 fun z H5 => ∃ (kvs : List (List Key × V)) (k : List Key) (b : Addr), y = .ref b ∧ H5 b = some (.tup (k.map kV)) ∧ H5 D = some (.dT kvs) ∧ kvs.length < sizeLine ∧ Pv (i + 1) (upd H5 D (.dT (putK kvs k z))) else Pv (i + 1) H3) (hd : ∀ H, Pv n H → Qd H) :
    ∃ W : Nat → Nat → Hp → Prop, (∃ m, W 0 m (upd H1 D (.dT []))) ∧ ∀ i m H, W i m H →
      (J.stop i H ∧ Qd H) ∨ (J.go i H ∧ ∃ Nx : Hp → Prop, (∀ H', Nx H' → ∃ m', m' < m ∧ W (i + 1) m' H') ∧ ∀ x H', J.yld i H x H' → g x (wipe σ vs) H' fun σ2 H2 => wipe σ2 vs = wipe σ vs ∧ tt σ2 H2 fun b H3 =>
        if b = true then tk σ2 H3 fun y H4 => tv σ2 H4 fun z H5 => ∃ (kvs : List (List Key × V)) (k : List Key) (b : Addr), y = .ref b ∧ H5 b = some (.tup (k.map kV)) ∧ H5 D = some (.dT kvs) ∧ kvs.length < sizeLine ∧ Nx (upd H5 D (.dT (putK kvs k z))) else Nx H3) := by
  refine ⟨fun i m H => m = n - i ∧ i ≤ n ∧ Pv i H, ⟨n, by simp, Nat.zero_le _, h0⟩, ?_⟩
  rintro i m H ⟨rfl, hi, p⟩
  have q := hG i H hi p
  by_cases hlt : i < n
  · refine .inr ⟨w.goes i H hlt q, Pv (i + 1), fun H' p' => ⟨n - (i + 1), by omega, rfl, hlt, p'⟩, fun x H' y => hs i x H H' hlt p (w.yields i H x H' hlt q y)⟩
  · have e : i = n := by omega
    subst e
    exact .inl ⟨w.stops H q, hd H p⟩
/-- a dict comprehension's dict -/
def dcG (n : Nat) (kf : Nat → List Int) (vf : Nat → Dt) : DT' := (List.range n).foldl (fun acc i => putG acc (kf i) (vf i)) []
theorem dcG_succ (n : Nat) (kf : Nat → List Int) (vf : Nat → Dt) : dcG (n + 1) kf vf = putG (dcG n kf vf) (kf n) (vf n) := by
  unfold dcG
  rw [List.range_succ, List.foldl_append]
  rfl
theorem putG_len' {α : Type} {k : List Int} {v : α} {l : List (List Int × α)} : (putG l k v).length ≤ l.length + 1 := by
  unfold putG
  split
  · simp
  · simp
theorem dcG_len (kf : Nat → List Int) (vf : Nat → Dt) : ∀ n, (dcG n kf vf).length ≤ n
  | 0 => Nat.le_refl _
  | n + 1 => by
    have ih := dcG_len kf vf n
    rw [dcG_succ]
    have pl := putG_len' (k := kf n) (v := vf n) (l := dcG n kf vf)
    omega
section
variable {X : Cx} {H0 : Hp} {ss : List Sl} {pos p1 p2 : Pos} {a b c e tg it kx vx ke ve : Expr} {st : Stmt} {sts body : List Stmt} {Nx : List Sl → Prop} {Rt : Kd → Prop} {scope : Scope} {own : List (Str × Nat)}
theorem ex_disp1 {k : List Int} {d : Dt} (hu : X.A.units + 64 < cLine) (hk : EX X H0 ss ke (.d (keyD k))) (hv : EX X H0 ss ve (.d d)) : EX X H0 ss (.Dict [some ke] [ve] pos) (.nm (km [(k, d)])) := fun σ H Q S q =>
  ⟨_, pe_disp1 (by omega) pe_any pe_any, fun p hp => hk σ _ _ (S.mono (Evl.Ex.new hp)) fun x H1 e1 r1 => hv σ H1 _ ((S.mono (Evl.Ex.new hp)).mono e1) fun y H2 e2 r2 => by
    obtain ⟨b, rfl, hb⟩ := rep_key r1
    have hd : H2 p = some (.dT []) := e2 _ _ (e1 _ _ upd_same)
    have tu : Tups H2 (upd H2 p (.dT [(ik k, y)])) := .upd fun xs e => by rw [hd] at e; cases e
    refine ⟨ik k, b, rfl, e2 _ _ hb, hd, q _ _ (Evl.Ex.mut (((Evl.Ex.new hp).trans e1).trans e2) hp) ⟨p, rfl, hp, _, upd_same, ?_⟩⟩
    exact ⟨y, [], rfl, Rep.tup tu r2, rfl⟩⟩
theorem dcT_any {items : List Dt} (own : List (Str × Nat)) {kf : Nat → List Int} {vf : Nat → Dt} {σ : L2.St} {H : Hp} {Q : VK} (S : SR H0 H σ ss) (hi : IX X H0 tg it ss items) (hz : items.length ≤ 100000)
    (hb : ∀ (i : Nat) (d : Dt) (Hb : Hp), items[i]? = some d → Ex H0 Hb → ∃ js s2, (∀ n ∈ js, n ∈ own.map (·.2)) ∧ (∀ s H C cl fp, GX (Bk X scope s H C cl fp) Hb tg js (wipeS ss (own.map (·.2))) d s2) ∧ (∀ s H C cl fp, EX (Bk X scope s H C cl fp) Hb s2 kx (.d (keyD (kf i)))) ∧ ∀ s H C cl fp, EX (Bk X scope s H C cl fp) Hb s2 vx (.d (vf i)))
    (k : ∀ y H', Ex H H' → Is H H' (.nm (km (dcG items.length kf vf))) y → Q y H') : tDcT (RI X tg it) (gB X scope tg) (fun _ H Q => Q true H) (eB X scope kx) (eB X scope vx) (own.map (·.2)) σ H Q := by
  refine hi σ H _ S fun J H1 Hb e1 eb Sb W D hD => ?_
  refine dcT_it W.w (g := gB X scope tg) (tt := fun _ H Q => Q true H) (tk := eB X scope kx) (tv := eB X scope vx) (vs := own.map (·.2)) (σ := σ) (fun i H' => Ex H1 H' ∧ mapO H' D (km (dcG i kf vf))) ⟨Evl.Ex.new hD, [], upd_same, rfl⟩ (fun i H' _ h => Sb.ex.trans h.1) (fun i x H' H2 hi' h y => ?_) (fun H' h => k _ H' (e1.trans h.1) ⟨D, rfl, Evl.fresh_back e1 hD, h.2⟩)
  obtain ⟨ex1, vs, hd, hr⟩ := h
  obtain ⟨e2, d, ed, rd⟩ := y
  obtain ⟨js, s2, sub, hg, hk, hv⟩ := hb i d Hb ed eb
  have Sw : SR Hb H2 (wipe σ (own.map (·.2))) (wipeS ss (own.map (·.2))) := (Sb.wipe _).mono (ex1.trans e2)
  intro s Hs C cl fp
  refine hg s Hs C cl fp x _ H2 _ Sw rd fun σ2 l2 o2 S2 => ⟨wipe_agree l2 o2 sub, ?_⟩
  refine iteT fun s Hs C cl fp => hk s Hs C cl fp σ2 H2 _ S2 fun u H4 e4 r4 => fun s Hs C cl fp => hv s Hs C cl fp σ2 H4 _ (S2.mono e4) fun z H5 e5 r5 => ?_
  obtain ⟨b, rfl, hb4⟩ := rep_key r4
  have ee := (e2.trans e4).trans e5
  have hd5 := ee _ _ hd
  have tu : Tups H5 (upd H5 D (.dT (putK vs (ik (kf i)) z))) := .upd fun xs e => by rw [hd5] at e; cases e
  refine ⟨vs, ik (kf i), b, rfl, e5 _ _ hb4, hd5, ?_, Evl.Ex.mut (ex1.trans ee) hD, ?_⟩
  · rw [hr.length, km_len, sizeLine_eq]
    have := dcG_len kf vf i
    omega
  · rw [dcG_succ]
    exact ⟨_, upd_same, (repM_put r5 (hr.tup (.ex ee))).tup tu⟩
theorem sx_setDc {items : List Dt} {y : Str} {py spos : Pos} (i : Nat) (own : List (Str × Nat)) (kf : Nat → List Int) (vf : Nat → Dt) (hu : X.A.units + 64 < cLine) (hN : X.N.Nodup) (hi : IX X H0 tg it ss items) (hz : items.length ≤ 100000)
    (hb : ∀ (i : Nat) (d : Dt) (Hb : Hp), items[i]? = some d → Ex H0 Hb → ∃ js s2, (∀ n ∈ js, n ∈ own.map (·.2)) ∧ (∀ s H C cl fp, GX (Bk X scope s H C cl fp) Hb tg js (wipeS ss (own.map (·.2))) d s2) ∧ (∀ s H C cl fp, EX (Bk X scope s H C cl fp) Hb s2 kx (.d (keyD (kf i)))) ∧ ∀ s H C cl fp, EX (Bk X scope s H C cl fp) Hb s2 vx (.d (vf i)))
    (hsw : swapsWith (.DictComp kx vx [⟨tg, it, [], 0⟩] scope pos) (some (.Name y py)) spos.line X.env = pure true) (ok : BlkOk X.N X.env.scope scope own) (hy : X.N[i]? = some y := by rfl) (hyl : X.env.scope.names.lookup y = some .local := by rfl) (hc : X.calm = true := by rfl) (hs : ∀ x, foldedSetIterable it X.env x = pure x := by intro _; rfl) :
    SX X H0 (.Assign [.Name y py] (.DictComp kx vx [⟨tg, it, [], 0⟩] scope pos) spos) ss (fun s => s = ss.set i (.om (km (dcG items.length kf vf)))) Rt := fun σ H D0 S n r => by
  exact ⟨_, ps_setDcT (i := i) (fun s H C cl fp => by show X.A.units < cLine; omega) hc hN hy hyl hsw pi_any ok pg_blk (fun _ _ _ _ _ => pts_nil) pe_blk pe_blk hs, dcT_any own S hi hz hb fun u H' e' q => n _ _ H' rfl (S.set i (k := .nm _) e' q)⟩
end
end K44
end

section
-- text Gl
set_option Elab.async false
set_option linter.all false
set_option maxRecDepth 100000
set_option maxHeartbeats 4000000
/-! a list comprehension of two loops: the inner one over a new list. -/
namespace K44
open PySem PySem.Spec L2 PyProof.Rows
open Evl (Ex)
def flatF (n : Nat) (inn : Nat → List Dt) (f : Nat → Nat → Dt) : List Dt := (List.range n).flatMap fun i => (List.range (inn i).length).map (f i)
theorem flatF_succ (n : Nat) (inn : Nat → List Dt) (f : Nat → Nat → Dt) : flatF (n + 1) inn f = flatF n inn f ++ (List.range (inn n).length).map (f n) := by
  unfold flatF
  rw [List.range_succ, List.flatMap_append]
  simp
theorem flatF_mono {inn : Nat → List Dt} {f : Nat → Nat → Dt} : ∀ {m n : Nat}, m ≤ n → (flatF m inn f).length ≤ (flatF n inn f).length
  | m, 0, h => by rw [show m = 0 by omega]; exact Nat.le_refl _
  | m, n + 1, h => by
    by_cases e : m = n + 1
    · rw [e]; exact Nat.le_refl _
    · rw [flatF_succ, List.length_append]
      have := flatF_mono (inn := inn) (f := f) (show m ≤ n by omega)
      omega
section
variable {X : Cx} {H0 : Hp} {ss : List Sl} {pos p1 p2 : Pos} {a b c e tg it tg1 it1 elt : Expr} {Nx : List Sl → Prop} {Rt : Kd → Prop} {scope : Scope}
theorem pi_blk : ∀ (s : Shared) (H : Hp) (C : Addr) (cl : List (Str × Addr)) (fp : List Addr), PI (X.blk s H scope (compEnvC scope cl C X.env) fp) tg1 it1 (iList X.K (eB X scope it1)) := fun s H C cl fp => pi_list (pe_blk (elt := it1) s H C cl fp)
theorem sx_setLc2 {items : List Dt} {inn : Nat → List Dt} {f : Nat → Nat → Dt} {y : Str} {py spos : Pos} (i : Nat) (own : List (Str × Nat)) (vs1 : List Nat) (hv : ∀ i ∈ vs1, i ∈ own.map (·.2)) (hi : IX X H0 tg it ss items) (hN : X.N.Nodup) (hz : (flatF items.length inn f).length < 100000)
    (hb : ∀ (i : Nat) (d : Dt) (Hb : Hp), items[i]? = some d → Ex H0 Hb → ∃ js s2, (∀ n ∈ js, n ∈ own.map (·.2)) ∧ (∀ s H C cl fp, GX (Bk X scope s H C cl fp) Hb tg js (wipeS ss (own.map (·.2))) d s2) ∧ (∀ s H C cl fp, EX (Bk X scope s H C cl fp) Hb s2 it1 (.nl (inn i))) ∧ (∀ (j : Nat) (t : Sl), s2[j]? = some t → t.isObj = true → ss[j]? = some t ∧ j ∉ own.map (·.2)) ∧
      ∀ (j : Nat) (d1 : Dt), (inn i)[j]? = some d1 → ∃ js1 s3, (∀ n ∈ js1, n ∈ vs1) ∧ (∀ s H C cl fp, GX (Bk X scope s H C cl fp) Hb tg1 js1 (wipeS s2 vs1) d1 s3) ∧ ∀ s H C cl fp, EX (Bk X scope s H C cl fp) Hb s3 elt (.d (f i j)))
    (hsw : swapsWith (.ListComp elt [⟨tg, it, [], 0⟩, ⟨tg1, it1, [], 0⟩] scope pos) (some (.Name y py)) spos.line X.env = pure true) (ok : BlkOk X.N X.env.scope scope own) (hy : X.N[i]? = some y := by rfl) (hyl : X.env.scope.names.lookup y = some .local := by rfl) (hc : X.calm = true := by rfl)
    (hs : ∀ x, foldedSetIterable it X.env x = pure x := by intro _; rfl) (hs1 : ∀ env x, foldedSetIterable it1 env x = pure x := by intro _ _; rfl) :
    SX X H0 (.Assign [.Name y py] (.ListComp elt [⟨tg, it, [], 0⟩, ⟨tg1, it1, [], 0⟩] scope pos) spos) ss (fun s => s = ss.set i (.own (flatF items.length inn f))) Rt := fun σ H D0 S n r => by
  refine ⟨_, ps_setLc2 (i := i) (vs1 := vs1) hc hN hy hyl hsw pi_any ok hv pg_blk (fun _ _ _ _ _ => pts_nil) pi_blk pg_blk (fun _ _ _ _ _ => pts_nil) pe_blk hs hs1, ?_⟩
  refine hi σ H _ S fun J H1 Hb e1 eb Sb W D hD => ?_
  refine ⟨fun i m H' => m = items.length - i ∧ i ≤ items.length ∧ Ex H1 H' ∧ ∃ vs, H' D = some (.lst vs) ∧ RepL H' (flatF i inn f) vs, ⟨items.length, by simp, Nat.zero_le _, Evl.Ex.new hD, [], upd_same, .nil⟩, ?_⟩
  rintro i0 m H2 ⟨rfl, hi0, ex1, vs, hd, hr⟩
  have gq : Ex Hb H2 := Sb.ex.trans ex1
  by_cases hlt : i0 < items.length
  · refine .inr ⟨W.w.goes i0 H2 hlt gq, fun H' => Ex H1 H' ∧ ∃ vs, H' D = some (.lst vs) ∧ RepL H' (flatF (i0 + 1) inn f) vs, fun H' h => ⟨items.length - (i0 + 1), by omega, rfl, hlt, h⟩, fun x H3 yl => ?_⟩
    obtain ⟨e2, d, ed, rd⟩ := W.w.yields i0 H2 x H3 hlt gq yl
    obtain ⟨js, s2, sub, hg, hin, hobj, hel⟩ := hb i0 d Hb ed eb
    have Sw : SR Hb H3 (wipe σ (own.map (·.2))) (wipeS ss (own.map (·.2))) := (Sb.wipe _).mono (ex1.trans e2)
    intro s Hs C cl fp
    refine hg s Hs C cl fp x _ H3 _ Sw rd fun σ2 l2 o2 S2 => ⟨wipe_agree l2 o2 sub, ?_⟩
    have hd3 := e2 _ _ hd
    -- no slot stands at D
    have nD : ∀ (j : Nat) (t : Sl), s2[j]? = some t → t.isObj = true → σ2[j]? ≠ some (some (.ref D)) := fun j t q o z => by
      obtain ⟨q1, q2⟩ := hobj j t q o
      rw [o2 j (fun w => q2 (sub j w)), wipe_get, if_neg q2] at z
      obtain ⟨y, ey, a⟩ := Sb.get q1 (by intro w; subst w; cases o)
      rw [z] at ey
      cases ey
      exact a.there o hD
    have later : ∀ {H' : Hp}, (∀ a o, a ≠ D → H3 a = some o → H' a = some o) → Ex Hb H' → SR Hb H' σ2 s2 := fun {H'} kp ex => by
      have tu : Tups H3 H' := fun a xs h => kp a _ (fun z => by rw [z, hd3] at h; cases h) h
      refine ⟨ex, S2.len, fun j t q => (S2.at_ j t q).imp id fun ⟨y, ey, a⟩ => ⟨y, ey, ?_⟩, S2.sep⟩
      have ne : t.isObj = true → ∀ r, y = .ref r → r ≠ D := fun o r er z => nD j t q o (by rw [ey, er, z])
      cases t with
      | no => exact trivial
      | d d => exact Rep.tup tu a
      | l xs => obtain ⟨r, er, vs, h1, h2⟩ := a; exact ⟨r, er, vs, kp _ _ (ne rfl r er) h1, h2.tup tu⟩
      | own xs => obtain ⟨r, er, z, vs, h1, h2⟩ := a; exact ⟨r, er, z, vs, kp _ _ (ne rfl r er) h1, h2.tup tu⟩
      | m xs => obtain ⟨r, er, vs, o, h1, h2⟩ := a; exact ⟨r, er, vs, o, kp _ _ (ne rfl r er) h1, h2.tup tu⟩
      | om xs => obtain ⟨r, er, z, vs, h1, h2⟩ := a; exact ⟨r, er, z, vs, kp _ _ (ne rfl r er) h1, h2.tup tu⟩
    unfold tYes; show (if true = true then _ else _); rw [if_pos rfl]
    intro s Hs C cl fp
    refine hin s Hs C cl fp σ2 H3 _ S2 fun u H4 e4 r4 => ?_
    obtain ⟨p, rfl, hp, us, hl, ri⟩ := r4
    refine ⟨p, rfl, ⟨us, SqL.of hl⟩, ?_⟩
    have hpD : p ≠ D := fun z => by
      rw [← z, hp] at hd3
      cases hd3
    have lin := ri.length
    refine ⟨fun j k H' => k = us.length - j ∧ j ≤ us.length ∧ Ex H1 H' ∧ (∀ a o, a ≠ D → H4 a = some o → H' a = some o) ∧ ∃ vs, H' D = some (.lst vs) ∧ RepL H' (flatF i0 inn f ++ (List.range j).map (f i0)) vs, ⟨us.length, by simp, Nat.zero_le _, (ex1.trans e2).trans e4, fun _ _ _ h => h, vs, e4 _ _ hd3, by simpa using hr.mono (e2.trans e4)⟩, ?_⟩
    rintro j k H5 ⟨rfl, hj, ex5, kp5, ws, hd5, hr5⟩
    have hl5 := kp5 p _ hpD hl
    by_cases hjl : j < us.length
    · refine .inr ⟨⟨us, us[j], SqL.of hl5, by simp [hjl]⟩, fun H' => Ex H1 H' ∧ (∀ a o, a ≠ D → H4 a = some o → H' a = some o) ∧ ∃ vs, H' D = some (.lst vs) ∧ RepL H' (flatF i0 inn f ++ (List.range (j + 1)).map (f i0)) vs, fun H' h => ⟨us.length - (j + 1), by omega, rfl, hjl, h⟩, fun x1 H6 y1 => ?_⟩
      obtain ⟨rfl, y1⟩ := y1
      have tu45 : Tups H4 H6 := fun a xs h => kp5 a _ (fun z => by rw [z, e4 _ _ hd3] at h; cases h) h
      obtain ⟨d1, ed1, rd1⟩ := (ri.tup tu45).has (y1 us (SqL.of hl5))
      obtain ⟨js1, s3, sub1, hg1, he1⟩ := hel j d1 ed1
      have S5 : SR Hb H6 (wipe σ2 vs1) (wipeS s2 vs1) := (later (fun a o n h => kp5 a o n (e4 a o h)) (Sb.ex.trans ex5)).wipe vs1
      intro s Hs C cl fp
      refine hg1 s Hs C cl fp x1 _ H6 _ S5 rd1 fun σ3 l3 o3 S3 => ⟨wipe_agree l3 o3 sub1, ?_⟩
      show (if true = true then _ else _); rw [if_pos rfl]
      intro s Hs C cl fp
      refine he1 s Hs C cl fp σ3 H6 _ S3 fun z H7 e7 r7 => ?_
      have hd7 := e7 _ _ hd5
      have tu : Tups H7 (upd H7 D (.lst (ws ++ [z]))) := .upd fun xs e => by rw [hd7] at e; cases e
      have inl : us.length = (inn i0).length := lin
      have lenb : (flatF i0 inn f ++ (List.range j).map (f i0)).length < 100000 := by
        have h1 := flatF_mono (inn := inn) (f := f) (show i0 + 1 ≤ items.length by omega)
        rw [flatF_succ, List.length_append, List.length_map, List.length_range] at h1
        rw [List.length_append, List.length_map, List.length_range]
        omega
      refine ⟨ws, hd7, by rw [hr5.length]; exact Evl.sz_lt lenb, Evl.Ex.mut (ex5.trans e7) hD, fun a o n h => by rw [upd_ne n]; exact e7 _ _ (kp5 a o n h), ws ++ [z], upd_same, ?_⟩
      rw [List.range_succ, List.map_append, ← List.append_assoc]
      exact ((hr5.mono e7).append (.cons r7 .nil)).tup tu
    · have e : j = us.length := by omega
      subst e
      refine .inl ⟨⟨us, SqL.of hl5, Nat.le_refl _⟩, ex5, ws, hd5, ?_⟩
      rw [flatF_succ, ← lin]
      exact hr5
  · have e : i0 = items.length := by omega
    subst e
    refine .inl ⟨W.w.stops H2 gq, ?_⟩
    exact n _ _ H2 rfl (S.set i (k := .nl _) (e1.trans ex1) ⟨D, rfl, Evl.fresh_back e1 hD, vs, hd, hr⟩)
end
end K44
end

section
-- text V1
set_option Elab.async false
set_option linter.all false
set_option maxRecDepth 100000
set_option maxHeartbeats 4000000
namespace K44
open PySem PySem.Spec L2
open Evl (Ex)
section
variable {P : Program} {w : World} {K : PySem.W.Frag} {mg : Str → Option Value} {base : Heap}
def isInt : Dt → Bool
  | .v (.int _) => true
  | _ => false
theorem ok_is_integer (T : Tx K mg) : OkF P w K mg base 1 (He.ga K "is_integer") ["value"] (spC fun _ ks k => ∃ d, okD d = true ∧ ks = [.d d] ∧ k = .d (.b (isInt d))) := by
  refine ok_fr (f_is_integer T) sc_is_integer (fun _ _ _ _ _ _ us hl => match us, hl with | [_], _ => rfl) (by decide) (fun H ks k ⟨d, _, h, _⟩ => by rw [h]; rfl) (fun cdv A outer s H E ks k hr h => ?_)
  obtain ⟨d, o, rfl, rfl⟩ := h
  refine bx_one (sx_ret (k := .d (.b (isInt d))) ?_ rfl)
  have h1 : ∃ x, kitB (tyD d) "int" = some x ∧ ∃ y, kitB (tyD d) "bool" = some y ∧ (x && !y) = isInt d := by
    cases d with
    | tup l => exact ⟨false, kb_ti, false, kb_tb, rfl⟩
    | v x =>
      cases x with
      | non => exact ⟨false, kb_ni, false, kb_nb, rfl⟩
      | bl b => exact ⟨true, kb_bi, true, kb_bb, rfl⟩
      | int i => exact ⟨true, kb_ii, false, kb_ib, rfl⟩
      | str z => exact ⟨false, kb_si, false, kb_sb, rfl⟩
      | _ => cases o
  obtain ⟨x, hx, y, hy, e⟩ := h1
  rw [← e]
  exact ex_and (ex_isi (ex_var 0) (ex_gty (n_int T)) o hx (n_isinstance T)) fun _ => ex_one (ex_not (ex_isi (ex_var 0) (ex_gty (n_bool T)) o hy (n_isinstance T)))
def hiD : Option Int → Dt
  | none => .v .non
  | some h => .i h
def hiB (i : Int) : Option Int → Bool
  | none => true
  | some h => decide (i ≤ h)
theorem ok_is_between (T : Tx K mg) : OkF P w K mg base 2 (He.ga K "is_between") ["value", "low", "high"] (spC fun _ ks k => ∃ (i lo : Int) (hi : Option Int), ks = [.d (.i i), .d (.i lo), .d (hiD hi)] ∧ k = .d (.b (decide (lo ≤ i) && hiB i hi))) := by
  refine ok_fr (f_is_between T) sc_is_between (fun _ _ _ _ _ _ us hl => match us, hl with | [_, _, _], _ => rfl) (by decide) (fun H ks k ⟨_, _, _, h, _⟩ => by rw [h]; rfl) (fun cdv A outer s H E ks k hr h => ?_)
  obtain ⟨i, lo, hi, rfl, rfl⟩ := h
  refine bx_one (sx_ret (k := .d (.b (decide (lo ≤ i) && hiB i hi))) ?_ rfl)
  refine ex_and (x := true) (y := decide (lo ≤ i) && hiB i hi) (ex_call (ok_is_integer T) hr (g_is_integer T) (ex_one1 (ex_var 0)) (fun H _ => ⟨.i i, rfl, rfl, rfl⟩)) fun _ => ?_
  refine ex_and (ex_ge (ex_var 0) (ex_var 1)) fun _ => ?_
  refine ex_one ?_
  cases hi with
  | none => exact ex_or (x := true) (y := true) (ex_isN (x := .non) (ex_var 2)) fun h => nomatch h
  | some h => exact ex_or (x := false) (y := decide (i ≤ h)) (ex_isN (x := .int h) (ex_var 2)) fun _ => ex_one (ex_le (ex_var 0) (ex_var 2))
theorem ok_check_number (T : Tx K mg) : OkF P w K mg base 3 (He.ga K "check_number") ["value", "low", "high"] (spC fun _ ks k => ∃ (i lo : Int) (hi : Option Int), lo ≤ i ∧ hiB i hi = true ∧ ks = [.d (.i i), .d (.i lo), .d (hiD hi)] ∧ k = .d (.v .non)) := by
  refine ok_fr (f_check_number T) sc_check_number (fun _ _ _ _ _ _ us hl => match us, hl with | [_, _, _], _ => rfl) (by decide) (fun H ks k ⟨_, _, _, _, _, h, _⟩ => by rw [h]; rfl) (fun cdv A outer s H E ks k hr h => ?_)
  obtain ⟨i, lo, hi, h1, h2, rfl, rfl⟩ := h
  refine bx_one (sx_mono (sx_no (et_to (et_not (x := true) (et_val (ex_call (ok_is_between T) hr (g_is_between T) (ea_cons (ex_var 0) (ea_cons (ex_var 1) (ex_one1 (ex_var 2)))) fun H _ => ⟨i, lo, hi, rfl, ?_⟩))) rfl)) fun _ _ => rfl)
  rw [h2, decide_eq_true h1]
  rfl
theorem ok_common_divisor (T : Tx K mg) : OkF P w K mg base 1 (He.ga K "common_divisor") ["one", "other"] (spC fun _ ks k => ∃ a b : Nat, ks = [.d (.i a), .d (.i b)] ∧ k = .d (.i (Nat.gcd a b : Nat))) := by
  refine ok_fr (f_common_divisor T) sc_common_divisor (fun _ _ _ _ _ _ us hl => match us, hl with | [_, _], _ => rfl) (by decide) (fun H ks k ⟨_, _, h, _⟩ => by rw [h]; rfl) (fun cdv A outer s H E ks k hr h => ?_)
  obtain ⟨a, b, rfl, rfl⟩ := h
  refine bx_cons (Mid := fun s => s = [.d (.i (Nat.gcd a b : Nat)), .d (.i 0)]) (sx_while (I := fun m s => ∃ x y : Nat, m = y ∧ s = [.d (.i x), .d (.i y)] ∧ Nat.gcd x y = Nat.gcd a b) (m0 := b) ⟨a, b, rfl, rfl, rfl⟩ ?_) ?_
  · rintro m s1 ⟨x, y, rfl, rfl, hg⟩
    refine ⟨decide ((0 : Int) < (m : Int)), et_gt (ex_var 1) ex_int, fun ht => ?_, fun hf => ?_⟩
    · have hm : 0 < m := by have := of_decide_eq_true ht; omega
      refine bx_one (sx_mono (sx_par 0 1 (ex_var 1) (ex_mod (ex_var 0) (ex_var 1) (by omega)) rfl sc_common_divisor.nd rfl) ?_)
      rintro _ rfl
      refine ⟨x % m, Nat.mod_lt _ hm, m, x % m, rfl, rfl, ?_⟩
      rw [← hg, Nat.gcd_comm x m, Nat.gcd_rec m x, Nat.gcd_comm]
    · have hm : m = 0 := by have := of_decide_eq_false hf; omega
      subst hm
      rw [← hg, Nat.gcd_zero_right]; rfl
  · rintro _ rfl
    exact bx_one (sx_ret (ex_var 0) rfl)
theorem ok_common_multiple (T : Tx K mg) : OkF P w K mg base 2 (He.ga K "common_multiple") ["one", "other"] (spC fun _ ks k => ∃ a b : Nat, 0 < a ∧ a < 1000000 ∧ ks = [.d (.i a), .d (.i b)] ∧ k = .d (.i ((a / Nat.gcd a b * b : Nat) : Int))) := by
  refine ok_fr (f_common_multiple T) sc_common_multiple (fun _ _ _ _ _ _ us hl => match us, hl with | [_, _], _ => rfl) (by decide) (fun H ks k ⟨_, _, _, _, h, _⟩ => by rw [h]; rfl) (fun cdv A outer s H E ks k hr h => ?_)
  obtain ⟨a, b, h1, h2, rfl, rfl⟩ := h
  have hg : 0 < Nat.gcd a b := Nat.gcd_pos_of_pos_left b h1
  have hg2 : Nat.gcd a b ≤ a := Nat.gcd_le_left b h1
  have hq : a / Nat.gcd a b ≤ a := Nat.div_le_self _ _
  refine bx_one (sx_ret (ex_to (ex_mul (ex_fdiv (ex_var 0) (ex_call (ok_common_divisor T) hr (g_common_divisor T) (ea_cons (ex_var 0) (ex_one1 (ex_var 1))) fun H _ => ⟨a, b, rfl, rfl⟩) ⟨by omega, by omega⟩) (ex_var 1) (.inl ?_)) ?_) rfl)
  · have q1 : (0 : Int) ≤ (a : Int) / (Nat.gcd a b : Nat) := Int.ediv_nonneg (by omega) (by omega)
    have q2 : (a : Int) / (Nat.gcd a b : Nat) ≤ a := Int.ediv_le_self _ (by omega)
    exact ⟨Int.lt_of_lt_of_le (by decide) q1, Int.lt_of_le_of_lt q2 (by omega)⟩
  · rw [← Int.natCast_ediv, ← Int.natCast_mul]
/-- a fraction in lowest terms -/
def frT (t : Int) (b : Nat) : Int := t / (Nat.gcd t.natAbs b : Nat)
def frB (t : Int) (b : Nat) : Nat := b / Nat.gcd t.natAbs b
abbrev frD (t : Int) (b : Nat) : Dt := .tup [.i (frT t b), .i (frB t b : Nat)]
theorem ok_fraction (T : Tx K mg) : OkF P w K mg base 2 (He.ga K "fraction") ["top", "bottom"] (spC fun _ ks k => ∃ (t : Int) (b : Nat), 0 < b ∧ b < 1000000 ∧ ks = [.d (.i t), .d (.i b)] ∧ k = .d (frD t b)) := by
  refine ok_fr (f_fraction T) sc_fraction (fun _ _ _ _ _ _ us hl => match us, hl with | [_, _], _ => rfl) (by decide) (fun H ks k ⟨_, _, _, _, h, _⟩ => by rw [h]; rfl) (fun cdv A outer s H E ks k hr h => ?_)
  obtain ⟨t, b, h1, h2, rfl, rfl⟩ := h
  have hg : 0 < Nat.gcd t.natAbs b := Nat.gcd_pos_of_pos_right _ h1
  have hg2 : Nat.gcd t.natAbs b ≤ b := Nat.gcd_le_right _ h1
  have ea : (if t < 0 then -t else t) = ((t.natAbs : Nat) : Int) := by split <;> omega
  refine bx_step (sx_set 2 (ex_call (ok_common_divisor T) hr (g_common_divisor T) (ea_cons (ex_abs (ex_var 0) (n_abs T)) (ex_one1 (ex_var 1))) fun H _ => ⟨t.natAbs, b, by rw [ea], rfl⟩) sc_fraction.nd) ?_
  refine bx_one (sx_ret (ex_to (ex_tup (l := [.i (frT t b), .i ((b : Int) / (Nat.gcd t.natAbs b : Nat))]) (ea_cons (ex_fdiv (ex_var 0) (ex_var 2) ⟨by omega, by omega⟩) (ex_one1 (ex_fdiv (ex_var 1) (ex_var 2) ⟨by omega, by omega⟩)))) ?_) rfl)
  unfold frD frB
  rw [← Int.natCast_ediv]
theorem ok_times (T : Tx K mg) : OkF P w K mg base 3 (He.ga K "times") ["one", "other"] (spC fun _ ks k => ∃ (t u : Int) (b c : Nat), t.natAbs < 1000000 ∧ 0 < b ∧ 0 < c ∧ b * c < 1000000 ∧ b < 1000000 ∧ ks = [.d (.tup [.i t, .i b]), .d (.tup [.i u, .i c])] ∧ k = .d (frD (t * u) (b * c))) := by
  refine ok_fr (f_times T) sc_times (fun _ _ _ _ _ _ us hl => match us, hl with | [_, _], _ => rfl) (by decide) (fun H ks k ⟨_, _, _, _, _, _, _, _, _, h, _⟩ => by rw [h]; rfl) (fun cdv A outer s H E ks k hr h => ?_)
  obtain ⟨t, u, b, c, ht, h1, h2, h3, h4, rfl, rfl⟩ := h
  refine bx_one (sx_ret (ex_call (ok_fraction T) hr (g_fraction T) (ea_cons (ex_mul (ex_t0 (ex_var 0)) (ex_t0 (ex_var 1)) (.inl ⟨by omega, by omega⟩)) (ex_one1 (ex_mul (ex_t1 (ex_var 0)) (ex_t1 (ex_var 1)) (.inl ⟨by omega, by omega⟩)))) fun H _ => ⟨t * u, b * c, Nat.mul_pos h1 h2, h3, ?_, rfl⟩) rfl)
  rw [Int.natCast_mul]
theorem ok_less (T : Tx K mg) : OkF P w K mg base 3 (He.ga K "less") ["one", "other"] (spC fun _ ks k => ∃ (t u : Int) (b c : Nat), t.natAbs < 1000000 ∧ u.natAbs < 1000000 ∧ 0 < b ∧ 0 < c ∧ b * c < 1000000 ∧ b < 1000000 ∧ ks = [.d (.tup [.i t, .i b]), .d (.tup [.i u, .i c])] ∧ k = .d (frD (t * c - u * b) (b * c))) := by
  refine ok_fr (f_less T) sc_less (fun _ _ _ _ _ _ us hl => match us, hl with | [_, _], _ => rfl) (by decide) (fun H ks k ⟨_, _, _, _, _, _, _, _, _, _, h, _⟩ => by rw [h]; rfl) (fun cdv A outer s H E ks k hr h => ?_)
  obtain ⟨t, u, b, c, ht, hu, h1, h2, h3, h4, rfl, rfl⟩ := h
  refine bx_one (sx_ret (ex_call (ok_fraction T) hr (g_fraction T) (ea_cons (ex_sub (ex_mul (ex_t0 (ex_var 0)) (ex_t1 (ex_var 1)) (.inl ⟨by omega, by omega⟩)) (ex_mul (ex_t0 (ex_var 1)) (ex_t1 (ex_var 0)) (.inl ⟨by omega, by omega⟩))) (ex_one1 (ex_mul (ex_t1 (ex_var 0)) (ex_t1 (ex_var 1)) (.inl ⟨by omega, by omega⟩)))) fun H _ => ⟨t * c - u * b, b * c, Nat.mul_pos h1 h2, h3, ?_, rfl⟩) rfl)
  rw [Int.natCast_mul]
end
end K44
end

section
-- text V2
set_option Elab.async false
set_option linter.all false
set_option maxRecDepth 100000
set_option maxHeartbeats 4000000
namespace K44
open PySem PySem.Spec L2
open Evl (Ex)
inductive Way where
  | down | up | nd | nu | ne
  deriving DecidableEq
def Way.s : Way → Str
  | .down => "down"
  | .up => "up"
  | .nd => "near down"
  | .nu => "near up"
  | .ne => "near even"
theorem w_down (w : Way) : decide (V.str w.s = V.str "down") = decide (w = .down) := by cases w <;> decide +kernel
theorem w_up (w : Way) : decide (V.str w.s = V.str "up") = decide (w = .up) := by cases w <;> decide +kernel
theorem w_nd (w : Way) : decide (V.str w.s = V.str "near down") = decide (w = .nd) := by cases w <;> decide +kernel
theorem w_ne (w : Way) : decide (V.str w.s = V.str "near even") = decide (w = .ne) := by cases w <;> decide +kernel
/-- a drawn step -/
structure Stp where
  a : Nat
  b : Nat
  u : Nat
  w : Way
  ha : 1 ≤ a ∧ a ≤ 20
  hb : 1 ≤ b ∧ b ≤ 20
  hu : 1 ≤ u ∧ u ≤ 3
abbrev stD (s : Stp) : Dt := .tup [.v (.str "times"), .v (.int s.a), .v (.int s.b), .v (.str s.w.s), .v (.int s.u)]
def stL : Option Stp → List Dt
  | none => []
  | some s => [stD s]
abbrev rowD (o : Option Stp) : Dt := .tup (stL o)
/-- the integer to which a quotient is rounded -/
def rnd (t b : Int) (w : Way) : Int :=
  if w = .down ∨ t % b = 0 then t / b else if w = .up then t / b + 1 else if 2 * (t % b) ≠ b then (if 2 * (t % b) < b then t / b else t / b + 1)
  else if w = .ne then t / b + t / b % 2 else if w = .nd then t / b else t / b + 1
def ledI : Option Stp → Int → Int
  | none, v => v
  | some s, v => rnd (v * s.a) ((s.b : Int) * s.u) s.w * s.u
section
variable {P : Program} {w : World} {K : PySem.W.Frag} {mg : Str → Option Value} {base : Heap}
theorem tm_plus : decide (V.str "times" = V.str "plus") = false := by decide +kernel
theorem tm_times : decide (V.str "times" = V.str "times") = true := by decide +kernel
theorem way_in (w : Way) : (!inV (V.str w.s) (ways.map (He.Dv.v K))) = false := by
  have h : ∀ w : Way, (!inV (V.str w.s) [.str "down", .str "up", .str "near down", .str "near up", .str "near even"]) = false := by
    intro w
    cases w <;> decide +kernel
  exact h w
theorem ok_is_step (T : Tx K mg) : OkF P w K mg base 3 (He.ga K "is_step") ["value"] (spC fun _ ks k => ∃ s : Stp, ks = [.d (stD s)] ∧ k = .d (.b true)) := by
  refine ok_fr (f_is_step T) sc_is_step (fun _ _ _ _ _ _ us hl => match us, hl with | [_], _ => rfl) (by decide) (fun H ks k ⟨_, h, _⟩ => by rw [h]; rfl) (fun cdv A outer s H E ks k hr h => ?_)
  obtain ⟨t, rfl, rfl⟩ := h
  refine bx_step (sx_no (et_to (ew_or (x := false) (y := false) (et_to (et_not (et_val (ex_isT (ex_var 0) (n_isinstance T) (n_tuple T)))) rfl) fun _ => ew_or (x := false) (y := false) (et_to (et_eq (ex_len (ex_var 0) (.inl rfl) (n_len T)) ex_int) rfl) fun _ => ew_or1 (et_to (et_not (et_val (ex_isS (ex_t0 (ex_var 0)) (n_isinstance T) (n_str T)))) rfl)).t rfl)) ?_
  refine bx_step (sx_no (et_to (et_eq (ex_t0 (ex_var 0)) ex_str) tm_plus)) ?_
  refine bx_step (sx_no (et_to (ew_or (x := false) (y := false) (et_to (et_ne (ex_t0 (ex_var 0)) ex_str) (congrArg not tm_times)) fun _ => ew_or (x := false) (y := false) (et_to (et_ne (ex_len (ex_var 0) (.inl rfl) (n_len T)) (ex_gint (g_TIMES_SIZE T))) rfl) fun _ => ew_or (x := false) (y := false) (et_to (et_not (et_val (ex_isS (ex_t3 (ex_var 0)) (n_isinstance T) (n_str T)))) rfl) fun _ => ew_or1 (et_to (et_notInK (ex_t3 (ex_var 0)) (ex_gref (g_WAYS T)) (ways_at T) rfl rfl) (way_in t.w))).t rfl)) ?_
  have hbt : ∀ (n lo hi : Nat), lo ≤ n → n ≤ hi → (decide ((lo : Int) ≤ (n : Int)) && hiB n (some (hi : Int))) = true := fun n lo hi h1 h2 => by
    show (decide ((lo : Int) ≤ (n : Int)) && decide ((n : Int) ≤ (hi : Int))) = true
    rw [decide_eq_true (by omega), decide_eq_true (by omega)]; rfl
  refine bx_step (sx_no (et_to (ew_or (x := false) (y := false) (et_to (et_not (x := true) (et_val (ex_call (ok_is_between T) hr (g_is_between T) (ea_cons (ex_t1 (ex_var 0)) (ea_cons ex_int (ex_one1 (ex_gint (g_MOST_FACTOR T))))) fun H _ => ⟨t.a, 1, some 200, rfl, by rw [show (decide ((1 : Int) ≤ (t.a : Int)) && hiB t.a (some 200)) = true from hbt t.a 1 200 t.ha.1 (by have := t.ha.2; omega)]⟩))) rfl) fun _ =>
    ew_or1 (et_to (et_not (x := true) (et_val (ex_call (ok_is_between T) hr (g_is_between T) (ea_cons (ex_t2 (ex_var 0)) (ea_cons ex_int (ex_one1 (ex_gint (g_MOST_FACTOR T))))) fun H _ => ⟨t.b, 1, some 200, rfl, by rw [show (decide ((1 : Int) ≤ (t.b : Int)) && hiB t.b (some 200)) = true from hbt t.b 1 200 t.hb.1 (by have := t.hb.2; omega)]⟩))) rfl)).t rfl)) ?_
  exact bx_one (sx_ret (ex_call (ok_is_between T) hr (g_is_between T) (ea_cons (ex_t4 (ex_var 0)) (ea_cons ex_int (ex_one1 (ex_gint (g_MOST_UNIT T))))) fun H _ => ⟨t.u, 1, some 60, rfl, by rw [show (decide ((1 : Int) ≤ (t.u : Int)) && hiB t.u (some 60)) = true from hbt t.u 1 60 t.hu.1 (by have := t.hu.2; omega)]⟩) rfl)
theorem ok_wrong_step (T : Tx K mg) : OkF P w K mg base 4 (He.ga K "wrong_step") ["value"] (spC fun _ ks k => ∃ o, ks = [.d (rowD o)] ∧ k = .d (.v .non)) := by
  refine ok_fr (f_wrong_step T) sc_wrong_step (fun _ _ _ _ _ _ us hl => match us, hl with | [_], _ => rfl) (by decide) (fun H ks k ⟨_, h, _⟩ => by rw [h]; rfl) (fun cdv A outer s H E ks k hr h => ?_)
  obtain ⟨o, rfl, rfl⟩ := h
  refine bx_cons (Mid := fun _ => True) ?_ fun _ _ => bx_one (sx_ret ex_non rfl)
  cases o with
  | none => exact sx_mono (sx_for0 (ix_enum (l1 := []) (eas_cons (es_tup (ex_var 0)) eas_nil) (n_enumerate T))) fun _ _ => trivial
  | some t =>
    refine sx_for1 (d := .tup [.v (.int ((0 : Nat) : Int)), stD t]) (ix_enum (l1 := [stD t]) (eas_cons (es_tup (ex_var 0)) eas_nil) (n_enumerate T)) fun Hb e => ⟨_, _, gx_tup2 1 2 sc_wrong_step.nd, ?_⟩
    refine bx_guard (x := false) (et_to (ew_or (x := false) (y := false) (et_to (et_eq (ex_var 1) (ex_gint (g_MOST_STEPS T))) rfl) fun _ => ew_or1 (et_to (et_not (et_val (ex_call (ok_is_step T) hr (g_is_step T) (ex_one1 (ex_var 2)) fun H _ => ⟨t, rfl, rfl⟩))) rfl)).t rfl) (fun q => nomatch q) fun _ => bx_nil trivial
theorem ok_is_row_of_steps (T : Tx K mg) : OkF P w K mg base 5 (He.ga K "is_row_of_steps") ["value"] (spC fun _ ks k => ∃ o, ks = [.d (rowD o)] ∧ k = .d (.b true)) := by
  refine ok_fr (f_is_row_of_steps T) sc_is_row_of_steps (fun _ _ _ _ _ _ us hl => match us, hl with | [_], _ => rfl) (by decide) (fun H ks k ⟨_, h, _⟩ => by rw [h]; rfl) (fun cdv A outer s H E ks k hr h => ?_)
  obtain ⟨o, rfl, rfl⟩ := h
  exact bx_one (sx_ret (ex_and (x := true) (y := true) (ex_isT (ex_var 0) (n_isinstance T) (n_tuple T)) fun _ => ex_one (ex_isN (x := .non) (ex_call (ok_wrong_step T) hr (g_wrong_step T) (ex_one1 (ex_var 0)) fun H _ => ⟨o, rfl, rfl⟩))) rfl)
theorem ok_rounded (T : Tx K mg) : OkF P w K mg base 1 (He.ga K "rounded") ["top", "bottom", "way"] (spC fun _ ks k => ∃ (t b : Int) (v : Way), 0 < b ∧ b < 1000000 ∧ ks = [.d (.i t), .d (.i b), .d (.s v.s)] ∧ k = .d (.i (rnd t b v))) := by
  refine ok_fr (f_rounded T) sc_rounded (fun _ _ _ _ _ _ us hl => match us, hl with | [_, _, _], _ => rfl) (by decide) (fun H ks k ⟨_, _, _, _, _, h, _⟩ => by rw [h]; rfl) (fun cdv A outer s H E ks k hr h => ?_)
  obtain ⟨t, b, v, h1, h2, rfl, rfl⟩ := h
  have hq : t % b < b ∧ 0 ≤ t % b := ⟨Int.emod_lt_of_pos _ h1, Int.emod_nonneg _ (by omega)⟩
  refine bx_step (sx_asg (ex_divmod (ex_var 0) (ex_var 1) ⟨h1, by omega⟩ (n_divmod T)) (gx_tup2 3 4 sc_rounded.nd)) ?_
  refine bx_guard (x := decide (v = .down) || decide (t % b = 0)) (et_to (ew_or (et_to (et_eq (ex_var 2) ex_str) (w_down v)) fun _ => ew_or1 (et_eq (ex_var 4) ex_int)).t (by congr 1; simp)) (fun q => bx_one (sx_ret (ex_var 3) ?_)) fun q1 => ?_
  · have c : v = .down ∨ t % b = 0 := by simpa using q
    unfold rnd
    rw [if_pos c]
  have c1 : ¬ (v = .down ∨ t % b = 0) := by simpa using q1
  refine bx_guard (x := decide (v = .up)) (et_to (et_eq (ex_var 2) ex_str) (w_up v)) (fun q => bx_one (sx_ret (ex_add (ex_var 3) ex_int) ?_)) fun q2 => ?_
  · unfold rnd
    rw [if_neg c1, if_pos (of_decide_eq_true q)]
  have c2 := of_decide_eq_false q2
  refine bx_guard (x := !decide (V.int (2 * (t % b)) = V.int b)) (et_ne (ex_mul ex_int (ex_var 4) (.inl ⟨by decide, by decide⟩)) (ex_var 1)) (fun q => bx_one (sx_ret (k := .d (.i (if 2 * (t % b) < b then t / b else t / b + 1))) (ex_if (x := decide (2 * (t % b) < b)) (et_lt (ex_mul ex_int (ex_var 4) (.inl ⟨by decide, by decide⟩)) (ex_var 1)) (fun z => ex_to (ex_var 3) ?_) fun z => ex_to (ex_add (ex_var 3) ex_int) ?_) ?_)) fun q3 => ?_
  · rw [if_pos (of_decide_eq_true z)]
  · rw [if_neg (of_decide_eq_false z)]
  · have c3 : 2 * (t % b) ≠ b := by simpa using q
    unfold rnd
    rw [if_neg c1, if_neg c2, if_pos c3]
  have c3 : ¬ (2 * (t % b) ≠ b) := by simpa using q3
  refine bx_guard (x := decide (v = .ne)) (et_to (et_eq (ex_var 2) ex_str) (w_ne v)) (fun q => bx_one (sx_ret (ex_add (ex_var 3) (ex_mod (ex_var 3) ex_int (by decide))) ?_)) fun q4 => ?_
  · unfold rnd
    rw [if_neg c1, if_neg c2, if_neg c3, if_pos (of_decide_eq_true q)]
  have c4 := of_decide_eq_false q4
  refine bx_one (sx_ret (k := .d (.i (if v = .nd then t / b else t / b + 1))) (ex_if (x := decide (v = .nd)) (et_to (et_eq (ex_var 2) ex_str) (w_nd v)) (fun z => ex_to (ex_var 3) ?_) fun z => ex_to (ex_add (ex_var 3) ex_int) ?_) ?_)
  · rw [if_pos (of_decide_eq_true z)]
  · rw [if_neg (of_decide_eq_false z)]
  · unfold rnd
    rw [if_neg c1, if_neg c2, if_neg c3, if_neg c4]
end
end K44
end

section
-- text V3
set_option Elab.async false
set_option linter.all false
set_option maxRecDepth 100000
set_option maxHeartbeats 4000000
namespace K44
open PySem PySem.Spec L2
open Evl (Ex)
theorem rnd_lo {t b : Int} {w : Way} (hb : 0 < b) : t / b ≤ rnd t b w ∧ rnd t b w ≤ t / b + 1 := by
  unfold rnd
  have h : 0 ≤ t / b % 2 ∧ t / b % 2 < 2 := ⟨Int.emod_nonneg _ (by decide), Int.emod_lt_of_pos _ (by decide)⟩
  split
  · omega
  split
  · omega
  split
  · split <;> omega
  split
  · omega
  split <;> omega
theorem rnd_abs {t b : Int} {w : Way} (hb : 0 < b) : (rnd t b w).natAbs ≤ t.natAbs + 1 := by
  obtain ⟨h1, h2⟩ := rnd_lo (t := t) (w := w) hb
  have h3 : (t / b).natAbs ≤ t.natAbs := by
    have := Int.natAbs_ediv_le_natAbs t b
    exact this
  omega
/-- the period of a step -/
def whole (s : Stp) : Nat := s.b * s.u * (if s.w = .ne then 2 else 1)
def perN : Option Stp → Nat
  | none => 1
  | some s => whole s / Nat.gcd s.a (whole s)
/-- the rate of a row -/
def rate : Option Stp → Int × Nat
  | none => (1, 1)
  | some s => (frT (1 * frT s.a s.b) (1 * frB s.a s.b), frB (1 * frT s.a s.b) (1 * frB s.a s.b))
abbrev rateD (o : Option Stp) : Dt := .tup [.i (rate o).1, .i ((rate o).2 : Nat)]
theorem whole_pos (s : Stp) : 0 < whole s ∧ whole s ≤ 120 := by
  have h1 := s.hb
  have h2 := s.hu
  have h3 : s.b * s.u ≤ 20 * 3 := Nat.mul_le_mul h1.2 h2.2
  have h4 : 0 < s.b * s.u := Nat.mul_pos h1.1 h2.1
  unfold whole
  split <;> omega
theorem perN_pos (o : Option Stp) : 0 < perN o ∧ perN o ≤ 120 := by
  cases o with
  | none => exact ⟨by decide, by decide⟩
  | some s =>
    have h := whole_pos s
    have g : 0 < Nat.gcd s.a (whole s) := Nat.gcd_pos_of_pos_right _ h.1
    have g2 : Nat.gcd s.a (whole s) ≤ whole s := Nat.gcd_le_right _ h.1
    exact ⟨Nat.div_pos g2 g, Nat.le_trans (Nat.div_le_self _ _) h.2⟩
theorem frB_pos {t : Int} {b : Nat} (h : 0 < b) : 0 < frB t b ∧ frB t b ≤ b := by
  have g : 0 < Nat.gcd t.natAbs b := Nat.gcd_pos_of_pos_right _ h
  have g2 : Nat.gcd t.natAbs b ≤ b := Nat.gcd_le_right _ h
  exact ⟨Nat.div_pos g2 g, Nat.div_le_self _ _⟩
theorem frT_abs {t : Int} {b : Nat} : (frT t b).natAbs ≤ t.natAbs := by
  unfold frT
  exact Int.natAbs_ediv_le_natAbs _ _
theorem frT_nonneg {t : Int} {b : Nat} (h : 0 ≤ t) : 0 ≤ frT t b := Int.ediv_nonneg h (by omega)
theorem rate_bd (o : Option Stp) : (rate o).1.natAbs ≤ 20 ∧ 0 < (rate o).2 ∧ (rate o).2 ≤ 20 := by
  cases o with
  | none => exact ⟨by decide, by decide, by decide⟩
  | some s =>
    have h1 := s.ha
    have h2 := s.hb
    have a1 : (frT s.a s.b).natAbs ≤ ((s.a : Nat) : Int).natAbs := frT_abs
    have b1 := frB_pos (t := s.a) (show 0 < s.b by omega)
    have a2 : (frT (1 * frT s.a s.b) (1 * frB s.a s.b)).natAbs ≤ (1 * frT s.a s.b).natAbs := frT_abs
    have b2 := frB_pos (t := 1 * frT s.a s.b) (show 0 < 1 * frB s.a s.b by omega)
    show (frT (1 * frT s.a s.b) (1 * frB s.a s.b)).natAbs ≤ 20 ∧ 0 < frB (1 * frT s.a s.b) (1 * frB s.a s.b) ∧ frB (1 * frT s.a s.b) (1 * frB s.a s.b) ≤ 20
    omega
section
variable {P : Program} {w : World} {K : PySem.W.Frag} {mg : Str → Option Value} {base : Heap}
theorem ok_led (T : Tx K mg) : OkF P w K mg base 2 (He.ga K "led") ["steps", "value"] (spC fun _ ks k => ∃ (o : Option Stp) (v : Int), v.natAbs < 1000000000000 ∧ ks = [.d (rowD o), .d (.i v)] ∧ k = .d (.i (ledI o v))) := by
  refine ok_fr (f_led T) sc_led (fun _ _ _ _ _ _ us hl => match us, hl with | [_, _], _ => rfl) (by decide) (fun H ks k ⟨_, _, _, h, _⟩ => by rw [h]; rfl) (fun cdv A outer s H E ks k hr h => ?_)
  obtain ⟨o, v, hv, rfl, rfl⟩ := h
  cases o with
  | none => exact bx_step (sx_for0 (ix_seq (l := []) (es_tup (ex_var 0)))) (bx_one (sx_ret (ex_var 1) rfl))
  | some t =>
    refine bx_step (s1 := [.d (rowD (some t)), .d (.i (ledI (some t) v)), .d (stD t)]) (sx_for1 (d := stD t) (ix_seq (l := [stD t]) (es_tup (ex_var 0))) fun Hb e => ⟨_, _, gx_name 2 sc_led.nd, ?_⟩) (bx_one (sx_ret (ex_var 1) rfl))
    have hb := t.hb
    have hu := t.hu
    have ha := t.ha
    have hbu : t.b * t.u ≤ 20 * 3 := Nat.mul_le_mul hb.2 hu.2
    have hbu0 : 0 < t.b * t.u := Nat.mul_pos hb.1 hu.1
    refine bx_one (sx_else (et_to (et_eq (ex_t0 (ex_var 2)) ex_str) tm_plus) (bx_one (sx_mono (sx_set 1 (ex_mul (i := rnd (v * t.a) ((t.b : Int) * t.u) t.w) (j := t.u) (ex_call (ok_rounded T) hr (g_rounded T) (ea_cons (ex_mul (ex_var 1) (ex_t1 (ex_var 2)) (.inr ⟨by omega, by omega⟩)) (ea_cons (ex_mul (ex_t2 (ex_var 2)) (ex_t4 (ex_var 2)) (.inr ⟨by omega, by omega⟩)) (ex_one1 (ex_t3 (ex_var 2))))) fun H _ => ⟨v * t.a, (t.b : Int) * t.u, t.w, by rw [← Int.natCast_mul]; omega, by rw [← Int.natCast_mul]; omega, rfl, rfl⟩) (ex_t4 (ex_var 2)) (.inr ⟨by omega, by omega⟩)) sc_led.nd) ?_)))
    rintro _ rfl
    rfl
theorem ok_rate_of (T : Tx K mg) : OkF P w K mg base 4 (He.ga K "rate_of") ["steps"] (spC fun _ ks k => ∃ (o : Option Stp), ks = [.d (rowD o)] ∧ k = .d (rateD o)) := by
  refine ok_fr (f_rate_of T) sc_rate_of (fun _ _ _ _ _ _ us hl => match us, hl with | [_], _ => rfl) (by decide) (fun H ks k ⟨_, h, _⟩ => by rw [h]; rfl) (fun cdv A outer s H E ks k hr h => ?_)
  obtain ⟨o, rfl, rfl⟩ := h
  refine bx_step (sx_set 1 (ex_tup (l := [.i 1, .i 1]) (ea_cons ex_int (ex_one1 ex_int))) sc_rate_of.nd) ?_
  cases o with
  | none => exact bx_step (sx_for0 (ix_seq (l := []) (es_tup (ex_var 0)))) (bx_one (sx_ret (ex_var 1) rfl))
  | some t =>
    refine bx_step (s1 := [.d (rowD (some t)), .d (rateD (some t)), .d (stD t)]) (sx_for1 (d := stD t) (ix_seq (l := [stD t]) (es_tup (ex_var 0))) fun Hb e => ⟨_, _, gx_name 2 sc_rate_of.nd, ?_⟩) (bx_one (sx_ret (ex_var 1) rfl))
    have hb := t.hb
    have ha := t.ha
    have b1 := frB_pos (t := t.a) (show 0 < t.b by omega)
    refine bx_one (sx_yes (et_to (et_eq (ex_t0 (ex_var 2)) ex_str) tm_times) (bx_one (sx_mono (sx_set 1 (k := .d (rateD (some t))) (ex_call (ok_times T) hr (g_times T) (ea_cons (ex_var 1) (ex_one1 (ex_call (ok_fraction T) (hr.mono (by decide)) (g_fraction T) (ea_cons (ex_t1 (ex_var 2)) (ex_one1 (ex_t2 (ex_var 2)))) fun H _ => ⟨t.a, t.b, by omega, by omega, rfl, rfl⟩))) fun H _ => ⟨1, frT t.a t.b, 1, frB t.a t.b, by decide, by decide, b1.1, by omega, by decide, rfl, rfl⟩) sc_rate_of.nd) ?_)))
    rintro _ rfl
    rfl
theorem ok_period_of (T : Tx K mg) : OkF P w K mg base 2 (He.ga K "period_of") ["steps"] (spC fun _ ks k => ∃ (o : Option Stp), ks = [.d (rowD o)] ∧ k = .d (.i (perN o : Nat))) := by
  refine ok_fr (f_period_of T) sc_period_of (fun _ _ _ _ _ _ us hl => match us, hl with | [_], _ => rfl) (by decide) (fun H ks k ⟨_, h, _⟩ => by rw [h]; rfl) (fun cdv A outer s H E ks k hr h => ?_)
  obtain ⟨o, rfl, rfl⟩ := h
  refine bx_step (sx_asg (ex_tup (l := [.i 1, .i 1]) (ea_cons ex_int (ex_one1 ex_int))) (gx_tup2 1 2 sc_period_of.nd)) ?_
  cases o with
  | none => exact bx_step (sx_for0 (ix_seq (l := []) (es_tup (ex_var 0)))) (bx_one (sx_ret (ex_var 1) rfl))
  | some t =>
    refine bx_cons (Mid := fun s => s[1]? = some (.d (.i (perN (some t) : Nat)))) (sx_for1 (d := stD t) (ix_seq (l := [stD t]) (es_tup (ex_var 0))) fun Hb e => ⟨_, _, gx_name 3 sc_period_of.nd, ?_⟩) fun s1 h1 => bx_one (sx_ret (ex_var 1 h1) rfl)
    have hb := t.hb
    have ha := t.ha
    have hu := t.hu
    have hw := whole_pos t
    have hbu : t.b * t.u ≤ 20 * 3 := Nat.mul_le_mul hb.2 hu.2
    have g : 0 < Nat.gcd t.a (whole t) := Nat.gcd_pos_of_pos_right _ hw.1
    have g2 : Nat.gcd t.a (whole t) ≤ whole t := Nat.gcd_le_right _ hw.1
    have pp := perN_pos (some t)
    have ep : perN (some t) = whole t / Nat.gcd t.a (whole t) := rfl
    have e1 : ((t.b : Int) * t.u * (if t.w = .ne then 2 else 1)) = ((whole t : Nat) : Int) := by
      unfold whole
      split <;> simp
    refine bx_one (sx_yes (et_to (et_eq (ex_t0 (ex_var 3)) ex_str) tm_times) ?_)
    refine bx_step (sx_set 4 (k := .d (.i (whole t : Nat))) (ex_to (ex_mul (i := (t.b : Int) * t.u) (j := if t.w = .ne then 2 else 1) (ex_mul (ex_t2 (ex_var 3)) (ex_t4 (ex_var 3)) (.inr ⟨by omega, by omega⟩)) (ex_if (x := decide (t.w = .ne)) (et_to (et_eq (ex_t3 (ex_var 3)) ex_str) (w_ne t.w)) (fun z => ex_to ex_int (by rw [if_pos (of_decide_eq_true z)])) fun z => ex_to ex_int (by rw [if_neg (of_decide_eq_false z)])) (.inl ⟨by rw [← Int.natCast_mul]; omega, by rw [← Int.natCast_mul]; omega⟩)) (by rw [e1])) sc_period_of.nd) ?_
    refine bx_step (sx_set 5 (k := .d (.i (perN (some t) : Nat))) (ex_to (ex_fdiv (ex_var 4) (ex_call (ok_common_divisor T) hr (g_common_divisor T) (ea_cons (ex_t1 (ex_var 3)) (ex_one1 (ex_var 4))) fun H _ => ⟨t.a, whole t, rfl, rfl⟩) ⟨by omega, by omega⟩) (by rw [ep, ← Int.natCast_ediv])) sc_period_of.nd) ?_
    refine bx_step (sx_set 6 (k := .d (.i (perN (some t) : Nat))) (ex_to (ex_fdiv (ex_var 5) (ex_call (ok_common_divisor T) hr (g_common_divisor T) (ea_cons (ex_var 2) (ex_one1 (ex_var 5))) fun H _ => ⟨1, perN (some t), rfl, rfl⟩) ⟨by rw [Nat.gcd_one_left]; decide, by rw [Nat.gcd_one_left]; decide⟩) (by rw [Nat.gcd_one_left]; simp)) sc_period_of.nd) ?_
    refine bx_one (sx_mono (sx_par 1 2 (ex_mul (ex_var 1) (ex_var 6) (.inl ⟨by decide, by decide⟩)) (ex_fdiv (ex_mul (ex_mul (ex_var 2) (ex_var 6) (.inl ⟨by decide, by decide⟩)) (ex_t1 (ex_var 3)) (.inr ⟨by omega, by omega⟩)) (ex_t2 (ex_var 3)) ⟨by omega, by omega⟩) rfl sc_period_of.nd rfl) ?_)
    rintro _ rfl
    show some (Sl.d (.i (1 * (perN (some t) : Nat)))) = _
    rw [Int.one_mul]
end
end K44
end

section
-- text V4
set_option Elab.async false
set_option linter.all false
set_option maxRecDepth 100000
set_option maxHeartbeats 4000000
namespace K44
open PySem PySem.Spec L2
open Evl (Ex)
def blkB (N : List Str) (names : List (Str × NameKind)) (scope : Scope) (own : List (Str × Nat)) : Bool :=
  decide (scope.kind = .function) && (scope.names.all fun y => decide (scope.names.lookup y.1 = some y.2)) && (own.all fun p => decide (N[p.2]? = some p.1)) &&
  (scope.names.all fun y => !decide (y.2 = .free) || (decide (names.lookup y.1 = some .cell) || decide (names.lookup y.1 = some .free))) &&
  (scope.names.all fun y => !(decide (y.2 = .local) || decide (y.2 = .cell)) || (decide (y.1 ∈ own.map (·.1)) || !decide (y.1 ∈ N)))
theorem blk_ok {N : List Str} {sc scope : Scope} {own : List (Str × Nat)} (h : blkB N sc.names scope own = true) : BlkOk N sc scope own := by
  unfold blkB at h
  simp only [Bool.and_eq_true, List.all_eq_true, Bool.or_eq_true, Bool.not_eq_true', decide_eq_true_eq, decide_eq_false_iff_not] at h
  obtain ⟨⟨⟨⟨h1, h2⟩, h3⟩, h4⟩, h5⟩ := h
  refine ⟨h1, h2, h3, fun y hy e => (h4 y hy).resolve_left fun z => z e, fun y hy e => (h5 y hy).resolve_left fun z => ?_⟩
  rcases Bool.or_eq_false_iff.mp z with ⟨z1, z2⟩
  rcases e with e | e
  · exact absurd e (of_decide_eq_false z1)
  · exact absurd e (of_decide_eq_false z2)
section
variable {X : Cx} {H0 : Hp} {ss : List Sl} {pos p1 p2 : Pos} {a b c e tg it elt : Expr} {scope : Scope}
theorem ex_lcB (own : List (Str × Nat)) {items : List Dt} (f : Nat → Dt) (hN : X.N.Nodup) (hi : IX X H0 tg it ss items) (hz : items.length ≤ 100000)
    (hb : ∀ (i : Nat) (d : Dt) (Hb : Hp), items[i]? = some d → Ex H0 Hb → ∃ js s2, (∀ n ∈ js, n ∈ own.map (·.2)) ∧ (∀ s H C cl fp, GX (Bk X scope s H C cl fp) Hb tg js (wipeS ss (own.map (·.2))) d s2) ∧ ∀ s H C cl fp, EX (Bk X scope s H C cl fp) Hb s2 elt (.d (f i)))
    (ok : blkB X.N X.env.scope.names scope own = true := by kernel_rfl) (hc : X.calm = true := by rfl) (hs : ∀ x, foldedSetIterable it X.env x = pure x := by intro _; rfl) : EX X H0 ss (.ListComp elt [⟨tg, it, [], 0⟩] scope pos) (.nl ((List.range items.length).map f)) :=
  ex_lc hi (blk_ok ok) hN hb hz hc hs
end
theorem getL_map {α β : Type} {f : α → β} {l : List α} {i : Nat} {d : β} (h : (l.map f)[i]? = some d) : ∃ c, l[i]? = some c ∧ d = f c := by
  rw [List.getElem?_map] at h
  cases e : l[i]? with
  | none => rw [e] at h; cases h
  | some c => rw [e] at h; cases h; exact ⟨c, rfl, rfl⟩
section
variable {P : Program} {w : World} {K : PySem.W.Frag} {mg : Str → Option Value} {base : Heap}
theorem part_cps : (Str.ofString "part").cps[0]? = some 112 := by decide +kernel
theorem part_all : ∀ c ∈ (Str.ofString "part").cps.toList, decide (c ∈ (Str.ofString "abcdefghijklmnopqrstuvwxyz").cps.toList) = true := by decide +kernel
theorem part_in : (!decide (112 ∈ (Str.ofString "abcdefghijklmnopqrstuvwxyz").cps.toList)) = false := by decide +kernel
theorem part_len : (Str.ofString "part").length = 4 := by decide +kernel
theorem ok_is_name (T : Tx K mg) : OkF P w K mg base 1 (He.ga K "is_name") ["value"] (spC fun _ ks k => ks = [.d (.s "part")] ∧ k = .d (.b true)) := by
  refine ok_fr (f_is_name T) sc_is_name (fun _ _ _ _ _ _ us hl => match us, hl with | [_], _ => rfl) (by decide) (fun H ks k ⟨h, _⟩ => by rw [h]; rfl) (fun cdv A outer s H E ks k hr h => ?_)
  obtain ⟨rfl, rfl⟩ := h
  refine bx_guard (x := false) (et_to (ew_or (x := false) (y := false) (et_to (et_not (et_val (ex_isS (ex_var 0) (n_isinstance T) (n_str T)))) rfl) fun _ => ew_or (x := false) (y := false) (et_to (et_not (et_chainLe ex_int (ex_lenS (ex_var 0) (by rw [part_len]; decide) (n_len T)) (ex_gint (g_LONGEST_NAME T)))) (by rw [part_len]; rfl)) fun _ => ew_or1 (et_to (et_notInS (ex_ixS (i := 0) (ex_var 0) ex_int part_cps (by decide)) (ex_gstr (g_LETTERS T))) part_in)).t rfl) (fun q => nomatch q) fun _ => ?_
  refine bx_one (sx_ret (k := .d (.b true)) (ex_to (ex_all (bs := (List.range 4).map fun _ => true) (ex_lcB [("sign", 1)] (fun _ => .v (.bl true)) sc_is_name.nd (ix_str (ex_var 0)) (by decide +kernel) fun i d Hb q e => ?_) (.inr ?_) (n_all T)) rfl) rfl)
  · obtain ⟨c, hc, rfl⟩ := getL_map q
    exact ⟨[1], _, by simp, fun s H C cl fp => gx_name 1 sc_is_name.nd, fun s H C cl fp => ex_or (x := true) (y := true) (ex_to (ex_inS (ex_var 1) (ex_gstr (g_LETTERS T))) (by rw [part_all c (List.mem_of_getElem? hc)])) fun z => nomatch z⟩
  · rfl

abbrev kindD (o : Option Stp) : Dt := .tup [.s "part", .i 0, rowD o]
abbrev kindsD (o : Option Stp) : Dt := .tup [kindD o]
abbrev groupsD : Dt := .tup [.tup []]
theorem ok_is_kind (T : Tx K mg) : OkF P w K mg base 6 (He.ga K "is_kind") ["value"] (spC fun _ ks k => ∃ o, ks = [.d (kindD o)] ∧ k = .d (.b true)) := by
  refine ok_fr (f_is_kind T) sc_is_kind (fun _ _ _ _ _ _ us hl => match us, hl with | [_], _ => rfl) (by decide) (fun H ks k ⟨_, h, _⟩ => by rw [h]; rfl) (fun cdv A outer s H E ks k hr h => ?_)
  obtain ⟨o, rfl, rfl⟩ := h
  refine bx_guard (x := false) (et_to (ew_or (x := false) (y := false) (et_to (et_not (et_val (ex_isT (ex_var 0) (n_isinstance T) (n_tuple T)))) rfl) fun _ => ew_or (x := false) (y := false) (et_to (et_ne (ex_len (ex_var 0) (.inl rfl) (n_len T)) (ex_gint (g_KIND_SIZE T))) rfl) fun _ => ew_or1 (et_to (et_not (et_val (ex_call (ok_is_name T) (hr.mono (by decide)) (g_is_name T) (ex_one1 (ex_t0 (ex_var 0))) fun H _ => ⟨rfl, rfl⟩))) rfl)).t rfl) (fun q => nomatch q) fun _ => ?_
  exact bx_one (sx_ret (ex_and (x := true) (y := true) (ex_call (ok_is_between T) (hr.mono (by decide)) (g_is_between T) (ea_cons (ex_t1 (ex_var 0)) (ea_cons ex_int (ex_one1 ex_non))) fun H _ => ⟨0, 0, none, rfl, rfl⟩) fun _ => ex_one (ex_call (ok_is_row_of_steps T) hr (g_is_row_of_steps T) (ex_one1 (ex_t2 (ex_var 0))) fun H _ => ⟨o, rfl, rfl⟩)) rfl)
theorem part_ok : PyData.strOk (Str.ofString "part") = true := by decide +kernel
theorem times_ok : PyData.strOk (Str.ofString "times") = true := by decide +kernel
theorem way_ok (w : Way) : PyData.strOk w.s = true := by cases w <;> decide +kernel
theorem kinds_shaped (o : Option Stp) : SeqAt.shaped (kP (.d (kindsD o))) = true := by
  cases o <;> simp [kP, toP, toPs, SeqAt.shaped, PyData.canLay0, PyData.canLayAll0, PyData.depth, PyData.depthAll, stL, part_ok, times_ok, way_ok]
theorem kinds_ok (o : Option Stp) : kO (.d (kindsD o)) = true := by
  cases o <;> simp [kO, okP, okPs, stL]
theorem ok_check_kinds (T : Tx K mg) : OkF P w K mg base 7 (He.ga K "check_kinds") ["kinds"] (spC fun _ ks k => ∃ o, ks = [.d (kindsD o)] ∧ k = .d (.v .non)) := by
  refine ok_fr (f_check_kinds T) sc_check_kinds (fun _ _ _ _ _ _ us hl => match us, hl with | [_], _ => rfl) (by decide) (fun H ks k ⟨_, h, _⟩ => by rw [h]; rfl) (fun cdv A outer s H E ks k hr h => ?_)
  obtain ⟨o, rfl, rfl⟩ := h
  refine bx_guard (x := false) (et_to (ew_or (x := false) (y := false) (et_to (et_not (et_val (ex_isT (ex_var 0) (n_isinstance T) (n_tuple T)))) rfl) fun _ => ew_or1 (et_to (et_eqD (k := .d (kindsD o)) (l := .d (.tup [])) hr.units (ex_var 0) (ex_tup (l := []) ea_nil) rfl (kinds_ok o) rfl (kinds_shaped o)) rfl)).t rfl) (fun q => nomatch q) fun _ => ?_
  refine bx_step (sx_set 1 (k := .nl []) (ex_lst (l := []) ea_nil) sc_check_kinds.nd) ?_
  refine bx_one (sx_for1 (d := .tup [.v (.int ((0 : Nat) : Int)), kindD o]) (ix_enum (l1 := [kindD o]) (eas_cons (es_tup (ex_var 0)) eas_nil) (n_enumerate T)) fun Hb e => ⟨_, _, gx_tup2 2 3 sc_check_kinds.nd, ?_⟩)
  refine bx_guard (x := false) (et_to (ew_or (x := false) (y := false) (et_to (et_eq (ex_var 2) (ex_gint (g_MOST_KINDS T))) rfl) fun _ => ew_or (x := false) (y := false) (et_to (et_not (et_val (ex_call (ok_is_kind T) hr (g_is_kind T) (ex_one1 (ex_var 3)) fun H _ => ⟨o, rfl, rfl⟩))) rfl) fun _ => ew_or1 (et_inL (xs := []) (ex_t0 (ex_var 3)) (ex_varL 1 (.inr rfl)) (.inr (.inl rfl)) rfl rfl)).t rfl) (fun q => nomatch q) fun _ => ?_
  exact bx_one (sx_mono (sx_app 1 (xs := []) rfl (ex_t0 (ex_var 3)) (by decide)) fun _ _ => rfl)

theorem ok_check_groups (T : Tx K mg) : OkF P w K mg base 6 (He.ga K "check_groups") ["groups"] (spC fun _ ks k => ks = [.d groupsD] ∧ k = .d (.v .non)) := by
  refine ok_fr (f_check_groups T) sc_check_groups (fun _ _ _ _ _ _ us hl => match us, hl with | [_], _ => rfl) (by decide) (fun H ks k ⟨h, _⟩ => by rw [h]; rfl) (fun cdv A outer s H E ks k hr h => ?_)
  obtain ⟨rfl, rfl⟩ := h
  refine bx_guard (x := false) (et_to (ew_or (x := false) (y := false) (et_to (et_not (et_val (ex_isT (ex_var 0) (n_isinstance T) (n_tuple T)))) rfl) fun _ => ew_or1 (et_to (et_eqD (k := .d groupsD) (l := .d (.tup [])) hr.units (ex_var 0) (ex_tup (l := []) ea_nil) rfl) rfl)).t rfl) (fun q => nomatch q) fun _ => ?_
  refine bx_one (sx_for1 (d := .tup [.v (.int ((0 : Nat) : Int)), .tup []]) (ix_enum (l1 := [.tup []]) (eas_cons (es_tup (ex_var 0)) eas_nil) (n_enumerate T)) fun Hb e => ⟨_, _, gx_tup2 1 2 sc_check_groups.nd, ?_⟩)
  exact bx_guard (x := false) (et_to (ew_or (x := false) (y := false) (et_to (et_eq (ex_var 1) (ex_gint (g_MOST_GROUPS T))) rfl) fun _ => ew_or1 (et_to (et_not (et_val (ex_call (ok_is_row_of_steps T) hr (g_is_row_of_steps T) (ex_one1 (ex_var 2)) fun H _ => ⟨none, rfl, rfl⟩))) rfl)).t rfl) (fun q => nomatch q) fun _ => bx_nil rfl
theorem ok_check_places (T : Tx K mg) : OkF P w K mg base 1 (He.ga K "check_places") ["kinds", "many"] (spC fun _ ks k => ∃ o, ks = [.d (kindsD o), .d (.i 1)] ∧ k = .d (.v .non)) := by
  refine ok_fr (f_check_places T) sc_check_places (fun _ _ _ _ _ _ us hl => match us, hl with | [_, _], _ => rfl) (by decide) (fun H ks k ⟨_, h, _⟩ => by rw [h]; rfl) (fun cdv A outer s H E ks k hr h => ?_)
  obtain ⟨o, rfl, rfl⟩ := h
  refine bx_one (sx_for1 (d := .tup [.v (.int ((0 : Nat) : Int)), kindD o]) (ix_enum (l1 := [kindD o]) (eas_cons (es_tup (ex_var 0)) eas_nil) (n_enumerate T)) fun Hb e => ⟨_, _, gx_tup2 2 3 sc_check_places.nd, ?_⟩)
  exact bx_guard (x := false) (et_to (et_ge (ex_t1 (ex_var 3)) (ex_var 1)) rfl) (fun q => nomatch q) fun _ => bx_nil rfl
theorem ok_check_whole (T : Tx K mg) : OkF P w K mg base 5 (He.ga K "check_whole") ["whole"] (spC fun _ ks k => ∃ o, ks = [.d (rowD o)] ∧ k = .d (.v .non)) := by
  refine ok_fr (f_check_whole T) sc_check_whole (fun _ _ _ _ _ _ us hl => match us, hl with | [_], _ => rfl) (by decide) (fun H ks k ⟨_, h, _⟩ => by rw [h]; rfl) (fun cdv A outer s H E ks k hr h => ?_)
  obtain ⟨o, rfl, rfl⟩ := h
  refine bx_guard (x := false) (et_to (et_not (et_val (ex_isT (ex_var 0) (n_isinstance T) (n_tuple T)))) rfl) (fun q => nomatch q) fun _ => ?_
  refine bx_step (sx_set 1 (ex_call (ok_wrong_step T) hr (g_wrong_step T) (ex_one1 (ex_var 0)) fun H _ => ⟨o, rfl, rfl⟩) sc_check_whole.nd) ?_
  exact bx_guard (x := false) (et_to (et_notN (x := .non) (ex_var 1)) rfl) (fun q => nomatch q) fun _ => bx_nil rfl
/-! texts -/
def txN (n : Nat) : Str := toString (n : Int)
theorem txN_len : ∀ n, n < 21 → (txN n).length ≤ 5 := by decide +kernel
theorem way_len : ∀ w : Way, w.s.length ≤ 9 := by intro w; cases w <;> decide +kernel
def txStep (s : Stp) : Str := glue Str.empty ["times ", txN s.a, "/", txN s.b, " ", s.w.s, " to ", txN s.u]
theorem txStep_sum (s : Stp) : (([("times " : Str), txN s.a, "/", txN s.b, " ", s.w.s, " to ", txN s.u] : List Str).map (·.length)).sum ≤ 60 := by
  have h1 := txN_len s.a (by have := s.ha; omega)
  have h2 := txN_len s.b (by have := s.hb; omega)
  have h3 := txN_len s.u (by have := s.hu; omega)
  have h4 := way_len s.w
  have e1 : ("times " : Str).length = 6 := by decide +kernel
  have e2 : ("/" : Str).length = 1 := by decide +kernel
  have e3 : (" " : Str).length = 1 := by decide +kernel
  have e4 : (" to " : Str).length = 4 := by decide +kernel
  simp only [List.map_cons, List.map_nil, List.sum_cons, List.sum_nil, e1, e2, e3, e4]
  omega
theorem txStep_len (s : Stp) : (txStep s).length ≤ 60 := by
  unfold txStep
  rw [glue_len]
  have := txStep_sum s
  have e : Str.empty.length = 0 := rfl
  omega
theorem ok_text_of_step (T : Tx K mg) : OkF P w K mg base 1 (He.ga K "text_of_step") ["step"] (spC fun _ ks k => ∃ t, ks = [.d (stD t)] ∧ k = .d (.s (txStep t))) := by
  refine ok_fr (f_text_of_step T) sc_text_of_step (fun _ _ _ _ _ _ us hl => match us, hl with | [_], _ => rfl) (by decide) (fun H ks k ⟨_, h, _⟩ => by rw [h]; rfl) (fun cdv A outer s H E ks k hr h => ?_)
  obtain ⟨t, rfl, rfl⟩ := h
  have big : ∀ n : Nat, n < 21 → ((n : Int)).natAbs.log2 < 1920 := fun n hn => by
    rw [Int.natAbs_natCast]
    have : n.log2 ≤ n := Nat.log2_le_self n
    omega
  refine bx_guard (x := false) (et_to (et_eq (ex_t0 (ex_var 0)) ex_str) tm_plus) (fun q => nomatch q) fun _ => ?_
  refine bx_one (sx_ret (ex_fstr (xs := ["times ", txN t.a, "/", txN t.b, " ", t.w.s, " to ", txN t.u])
    (.cons ex_str (.cons (ex_fmtI (ex_t1 (ex_var 0)) (big _ (by have := t.ha; omega))) (.cons ex_str (.cons (ex_fmtI (ex_t2 (ex_var 0)) (big _ (by have := t.hb; omega))) (.cons ex_str (.cons (ex_fmtS (ex_t3 (ex_var 0)) (by have := way_len t.w; rw [sizeLine_eq]; omega)) (.cons ex_str (.cons (ex_fmtI (ex_t4 (ex_var 0)) (big _ (by have := t.hu; omega))) .nil)))))))) (by have := txStep_sum t; rw [sizeLine_eq]; omega)) rfl)
end
end K44
end

section
-- text V5
set_option Elab.async false
set_option linter.all false
set_option maxRecDepth 100000
set_option maxHeartbeats 4000000
namespace K44
open PySem PySem.Spec L2
open Evl (Ex)
def txSteps : Option Stp → Str
  | none => ""
  | some s => (": " : Str) ++ Txt.join ", " [txStep s]
def txKind (o : Option Stp) : Str := glue Str.empty ["kind ", "part", " group ", toString (0 : Int)] ++ txSteps o
def txGroup : Str := glue Str.empty ["group ", toString (((0 : Nat) : Int))] ++ txSteps none
def txWhole (o : Option Stp) : Str := ("whole" : Str) ++ txSteps o
def txBook (ks ws : Option Stp) : Str := Txt.join "\n" [txKind ks, txGroup, txWhole ws]
theorem join_len (sep : Str) (l : List Str) : (Txt.join sep l).length ≤ (l.map (·.length)).sum + l.length * sep.length := by
  show (Builtin.Str.glued sep l).length ≤ _
  rw [StrLaws.glued_eq_join]
  exact StrLaws.join_length_le sep l
theorem txSteps_len (o : Option Stp) : (txSteps o).length ≤ 70 := by
  cases o with
  | none => decide +kernel
  | some s =>
    show ((": " : Str) ++ Txt.join ", " [txStep s]).length ≤ 70
    rw [Str.length_append]
    have h := join_len ", " [txStep s]
    have h2 := txStep_len s
    have e1 : (": " : Str).length = 2 := by decide +kernel
    have e2 : (", " : Str).length = 2 := by decide +kernel
    rw [e2] at h
    simp only [List.map_cons, List.map_nil, List.sum_cons, List.sum_nil, List.length_cons, List.length_nil] at h
    rw [e1]
    omega
theorem kind_pre : (glue Str.empty ["kind ", "part", " group ", toString (0 : Int)]).length = 17 := by decide +kernel
theorem group_pre : (glue Str.empty ["group ", toString (((0 : Nat) : Int))]).length = 7 := by decide +kernel
theorem txKind_len (o : Option Stp) : (txKind o).length ≤ 90 := by
  unfold txKind
  rw [Str.length_append, kind_pre]
  have := txSteps_len o
  omega
theorem txGroup_len : txGroup.length ≤ 90 := by
  unfold txGroup
  rw [Str.length_append, group_pre]
  have := txSteps_len none
  omega
theorem txWhole_len (o : Option Stp) : (txWhole o).length ≤ 90 := by
  unfold txWhole
  rw [Str.length_append]
  have := txSteps_len o
  have e1 : ("whole" : Str).length = 5 := by decide +kernel
  rw [e1]
  omega
section
variable {P : Program} {w : World} {K : PySem.W.Frag} {mg : Str → Option Value} {base : Heap}
theorem row_shaped (o : Option Stp) : SeqAt.shaped (kP (.d (rowD o))) = true := by
  cases o <;> simp [kP, toP, toPs, SeqAt.shaped, PyData.canLay0, PyData.canLayAll0, PyData.depth, PyData.depthAll, stL, part_ok, times_ok, way_ok]
theorem row_ok (o : Option Stp) : kO (.d (rowD o)) = true := by
  cases o <;> simp [kO, okP, okPs, stL]
theorem ok_text_of_steps (T : Tx K mg) : OkF P w K mg base 2 (He.ga K "text_of_steps") ["steps"] (spC fun _ ks k => ∃ o, ks = [.d (rowD o)] ∧ k = .d (.s (txSteps o))) := by
  refine ok_fr (f_text_of_steps T) sc_text_of_steps (fun _ _ _ _ _ _ us hl => match us, hl with | [_], _ => rfl) (by decide) (fun H ks k ⟨_, h, _⟩ => by rw [h]; rfl) (fun cdv A outer s H E ks k hr h => ?_)
  obtain ⟨o, rfl, rfl⟩ := h
  refine bx_one (sx_ret (ex_if (x := o.isSome) (et_to (et_neD (k := .d (rowD o)) (l := .d (.tup [])) (x := !o.isSome) hr.units (ex_var 0) (ex_tup (l := []) ea_nil) (by cases o <;> rfl) (row_ok o) rfl (row_shaped o)) (by simp)) (fun z => ?_) fun z => ?_) rfl)
  · cases o with
    | none => cases z
    | some t =>
      have hj := join_len ", " [txStep t]
      have h2 := txStep_len t
      have e1 : (": " : Str).length = 2 := by decide +kernel
      have e2 : (", " : Str).length = 2 := by decide +kernel
      rw [e2] at hj
      simp only [List.map_cons, List.map_nil, List.sum_cons, List.sum_nil, List.length_cons, List.length_nil] at hj
      refine ex_addS ex_str (ex_join (zs := [txStep t]) ex_str (ex_lcB [("step", 1)] (fun _ => .s (txStep t)) sc_text_of_steps.nd (ix_seq (l := [stD t]) (es_tup (ex_var 0))) (by simp) fun i d Hb q e => ?_) (.inr rfl) ?_) ?_
      · have hd : d = stD t := by
          cases i with
          | zero => cases q; rfl
          | succ i => simp at q
        subst hd
        exact ⟨[1], _, by simp, fun s H C cl fp => gx_name 1 sc_text_of_steps.nd, fun s H C cl fp => ex_call (ok_text_of_step T) (by exact hr) (g_text_of_step T) (ex_one1 (ex_var 1)) fun H _ => ⟨t, rfl, rfl⟩⟩
      · rw [e2]
        simp only [List.map_cons, List.map_nil, List.sum_cons, List.sum_nil, List.length_cons, List.length_nil]
        omega
      · rw [e1, sizeLine_eq]
        omega
  · cases o with
    | none => exact ex_str
    | some t => cases z

theorem one_get {d d' : Dt} {i : Nat} (q : [d][i]? = some d') : d' = d := by
  cases i with
  | zero => cases q; rfl
  | succ i => simp at q
theorem ok_text_of (T : Tx K mg) : OkF P w K mg base 3 (He.ga K "text_of") ["kinds", "groups", "whole"] (spC fun _ ks k => ∃ o v, ks = [.d (kindsD o), .d groupsD, .d (rowD v)] ∧ k = .d (.s (txBook o v))) := by
  refine ok_fr (f_text_of T) sc_text_of (fun _ _ _ _ _ _ us hl => match us, hl with | [_, _, _], _ => rfl) (by decide) (fun H ks k ⟨_, _, h, _⟩ => by rw [h]; rfl) (fun cdv A outer s H E ks k hr h => ?_)
  obtain ⟨o, v, rfl, rfl⟩ := h
  have l1 := txKind_len o
  have l2 := txGroup_len
  have l3 := txWhole_len v
  have l4 := txSteps_len o
  have l5 := txSteps_len none
  have l6 := txSteps_len v
  refine bx_step (sx_setLc (own := [("name", 3), ("group", 4), ("steps", 5)]) (f := fun _ => .s (txKind o)) 6 (ix_seq (l := [kindD o]) (es_tup (ex_var 0))) (blk_ok (by kernel_rfl)) sc_text_of.nd (by rfl) (fun i d Hb q e => ?_) (by simp)) ?_
  · obtain rfl := one_get q
    refine ⟨[3, 4, 5], _, by simp, fun s H C cl fp => gx_tup3 3 4 5 sc_text_of.nd, fun s H C cl fp => ex_addS (ex_fstr (xs := ["kind ", "part", " group ", toString (0 : Int)]) (.cons ex_str (.cons (ex_fmtS (ex_var 3) (by rw [part_len, sizeLine_eq]; decide)) (.cons ex_str (.cons (ex_fmtI (ex_var 4) (by decide +kernel)) .nil)))) (by decide +kernel)) (ex_call (ok_text_of_steps T) (by exact hr) (g_text_of_steps T) (ex_one1 (ex_var 5)) fun H _ => ⟨o, rfl, rfl⟩) ?_⟩
    rw [kind_pre, sizeLine_eq]
    omega
  refine bx_step (sx_extL 6 (xs := [.s (txKind o)]) (ys := [.s txGroup]) rfl (ex_lcB [("at", 7), ("steps", 5)] (fun _ => .s txGroup) sc_text_of.nd (ix_enum (l1 := [.tup []]) (eas_cons (es_tup (ex_var 1)) eas_nil) (n_enumerate T)) (by simp [enumD]) fun i d Hb q e => ?_) (.inr rfl) (by simp)) ?_
  · have hd : d = .tup [.v (.int ((0 : Nat) : Int)), .tup []] := one_get q
    subst hd
    refine ⟨[7, 5], _, by simp, fun s H C cl fp => gx_tup2 7 5 sc_text_of.nd, fun s H C cl fp => ex_addS (ex_fstr (xs := ["group ", toString (((0 : Nat) : Int))]) (.cons ex_str (.cons (ex_fmtI (ex_var 7) (by decide +kernel)) .nil)) (by decide +kernel)) (ex_call (ok_text_of_steps T) (by exact hr) (g_text_of_steps T) (ex_one1 (ex_var 5)) fun H _ => ⟨none, rfl, rfl⟩) ?_⟩
    rw [group_pre, sizeLine_eq]
    omega
  refine bx_one (sx_ret (ex_join (zs := [txKind o, txGroup, txWhole v]) ex_str (ex_lst (l := [.s (txKind o), .s txGroup, .s (txWhole v)]) (ea_star (l := [.s (txKind o), .s txGroup]) (.inr (.inl (ex_varL 6 (.inr rfl)))) (ex_one1 (ex_addS ex_str (ex_call (ok_text_of_steps T) hr (g_text_of_steps T) (ex_one1 (ex_var 2)) fun H _ => ⟨v, rfl, rfl⟩) ?_)))) (.inr rfl) ?_) rfl)
  · have e1 : ("whole" : Str).length = 5 := by decide +kernel
    rw [e1, sizeLine_eq]
    omega
  · have e1 : ("\n" : Str).length = 1 := by decide +kernel
    rw [e1]
    simp only [List.map_cons, List.map_nil, List.sum_cons, List.sum_nil, List.length_cons, List.length_nil]
    omega
end
end K44
end

section
-- text V6
set_option Elab.async false
set_option linter.all false
set_option maxRecDepth 100000
set_option maxHeartbeats 4000000
namespace K44
open PySem PySem.Spec L2
open Evl (Ex)
abbrev bookL (o v : Option Stp) : List (Str × Kd) := [("sorts", .d (kindsD o)), ("heaps", .d groupsD), ("last", .d (rowD v)), ("words", .d (.s (txBook o v)))]
/-- a book stands at a: o the steps of its kind, v of its whole -/
def BookAt (K : PySem.W.Frag) (o v : Option Stp) (H : Hp) (a : Addr) : Prop := (o = none ∨ v = none) ∧ ObjAt H a (He.ga K "Book") (bookL o v)
theorem BookAt.mono {K : PySem.W.Frag} {o v : Option Stp} {H H' : Hp} {a : Addr} (e : Ex H H') (h : BookAt K o v H a) : BookAt K o v H' a := ⟨h.1, h.2.mono e⟩
def orO (o v : Option Stp) : Option Stp := match o with
  | none => v
  | some s => some s
section
variable {P : Program} {w : World} {K : PySem.W.Frag} {mg : Str → Option Value} {base : Heap}
theorem ex_fldD {X : Cx} {H0 : Hp} {ss : List Sl} {pos : Pos} {o : Expr} {f : Str} {a C : Addr} {l : List (Str × Kd)} {d : Dt} (he : EX X H0 ss o (.d (.v (.ref a)))) (O : ObjAt H0 a C l) (c : Cls X.K C) (n : NoAttr X.K C f) (hl : l.lookup f = some (.d d))
    (hb : attributeBase o f X.env (eval o X.env) = eval o X.env := by rfl) : EX X H0 ss (.Attribute o f pos) (.d d) := ex_fld he O c n hl hb
theorem ok_Book_init (T : Tx K mg) : OkF P w K mg base 8 (He.ma K (He.ga K "Book") "__init__") ["self", "kinds", "groups", "whole"] (spI (He.ga K "Book") fun _ ks Pr => ∃ o v, (o = none ∨ v = none) ∧ ks = [.d (kindsD o), .d groupsD, .d (rowD v)] ∧ Pr = BookAt K o v) := by
  refine ok_in (f_Book_init T) sc_Book_init (fun _ _ _ _ _ _ us hl => match us, hl with | [_, _, _, _], _ => rfl) (by decide) (fun H ks k ⟨_, _, _, h, _⟩ => by rw [h]; rfl) (fun cdv A outer s H E x dx ks Pr hr hx h => ?_)
  obtain ⟨o, v, ov, rfl, rfl⟩ := h
  have conv : ∀ {I J Post : Hp → Prop} {X : Cx} {sts : List Stmt} {ss : List Sl}, (∀ H, I H → J H) → BI X sts ss J Post → BI X sts ss I Post := fun c k σ H D S i n => k σ H D S (c H i) n
  refine conv (J := SelfAt H x (He.ga K "Book") []) (fun H' e => by subst e; exact ⟨.refl, dx, [], hx, rfl, rfl⟩) ?_
  refine bi_pure (I' := SelfAt H x (He.ga K "Book") []) (fun H' i => sx_expr (ex_call (ok_check_kinds T) hr (g_check_kinds T) (ex_one1 (ex_var 1)) fun H _ => ⟨o, rfl, rfl⟩)) rfl (fun _ _ e i => i.mono e) ?_
  refine bi_pure (I' := SelfAt H x (He.ga K "Book") []) (fun H' i => sx_expr (ex_call (ok_check_groups T) (hr.mono (by decide)) (g_check_groups T) (ex_one1 (ex_var 2)) fun H _ => ⟨rfl, rfl⟩)) rfl (fun _ _ e i => i.mono e) ?_
  refine bi_pure (I' := SelfAt H x (He.ga K "Book") []) (fun H' i => sx_expr (ex_call (ok_check_places T) (hr.mono (by decide)) (g_check_places T) (ea_cons (ex_var 1) (ex_one1 (ex_len (l := [.tup []]) (ex_var 2) (.inl rfl) (n_len T)))) fun H _ => ⟨o, rfl, rfl⟩)) rfl (fun _ _ e i => i.mono e) ?_
  refine bi_pure (I' := SelfAt H x (He.ga K "Book") []) (fun H' i => sx_expr (ex_call (ok_check_whole T) (hr.mono (by decide)) (g_check_whole T) (ex_one1 (ex_var 3)) fun H _ => ⟨v, rfl, rfl⟩)) rfl (fun _ _ e i => i.mono e) ?_
  refine bi_tup (n := 3) (l := [kindsD o, groupsD, rowD v]) (fun H' i => ex_tup (l := [kindsD o, groupsD, rowD v]) (ea_cons (ex_var 1) (ea_cons (ex_var 2) (ex_one1 (ex_var 3))))) (fun _ _ e i => i.mono e)
    (gis_cons (gi_fld (fun H => ex_var 0) (c_Book T) (no_Book_sorts T) rfl (by simp) rfl) (gis_cons (gi_fld (fun H => ex_var 0) (c_Book T) (no_Book_heaps T) rfl (by simp) rfl) (gis_cons (gi_fld (fun H => ex_var 0) (c_Book T) (no_Book_last T) rfl (by simp) rfl) gis_nil))) rfl ?_ rfl
  refine bi_fld (fun H' i => ex_call (ok_text_of T) (hr.mono (by decide)) (g_text_of T) (ea_cons (ex_var 1) (ea_cons (ex_var 2) (ex_one1 (ex_var 3)))) fun H _ => ⟨o, v, rfl, rfl⟩) (fun H => ex_var 0) (c_Book T) (no_Book_words T) rfl (by simp) ?_
  exact bi_nil fun H' i => ⟨i.keep, ov, i.at_⟩
theorem ok_Book_kinds (T : Tx K mg) : OkF P w K mg base 1 (He5.wf K (He.ga K "Book") "property" "kinds") ["self"] (spC fun H ks k => ∃ a o v, BookAt K o v H a ∧ ks = [.d (.r a)] ∧ k = .d (kindsD o)) := by
  refine ok_fr (f_Book_kinds T) sc_Book_kinds (fun _ _ _ _ _ _ us hl => match us, hl with | [_], _ => rfl) (by decide) (fun H ks k ⟨_, _, _, _, h, _⟩ => by rw [h]; rfl) (fun cdv A outer s H E ks k hr h => ?_)
  obtain ⟨a, o, v, B, rfl, rfl⟩ := h
  exact bx_one (sx_ret (ex_fldD (ex_var 0) B.2 (c_Book T) (no_Book_sorts T) rfl) rfl)
theorem ok_Book_groups (T : Tx K mg) : OkF P w K mg base 1 (He5.wf K (He.ga K "Book") "property" "groups") ["self"] (spC fun H ks k => ∃ a o v, BookAt K o v H a ∧ ks = [.d (.r a)] ∧ k = .d groupsD) := by
  refine ok_fr (f_Book_groups T) sc_Book_groups (fun _ _ _ _ _ _ us hl => match us, hl with | [_], _ => rfl) (by decide) (fun H ks k ⟨_, _, _, _, h, _⟩ => by rw [h]; rfl) (fun cdv A outer s H E ks k hr h => ?_)
  obtain ⟨a, o, v, B, rfl, rfl⟩ := h
  exact bx_one (sx_ret (ex_fldD (ex_var 0) B.2 (c_Book T) (no_Book_heaps T) rfl) rfl)
theorem ok_Book_names (T : Tx K mg) : OkF P w K mg base 1 (He5.wf K (He.ga K "Book") "property" "names") ["self"] (spC fun H ks k => ∃ a o v, BookAt K o v H a ∧ ks = [.d (.r a)] ∧ k = .d (.tup [.s "part"])) := by
  refine ok_fr (f_Book_names T) sc_Book_names (fun _ _ _ _ _ _ us hl => match us, hl with | [_], _ => rfl) (by decide) (fun H ks k ⟨_, _, _, _, h, _⟩ => by rw [h]; rfl) (fun cdv A outer s H E ks k hr h => ?_)
  obtain ⟨a, o, v, B, rfl, rfl⟩ := h
  refine bx_one (sx_ret (ex_tupL (l := [.s "part"]) (ex_lcB [("kind", 1)] (fun _ => .s "part") sc_Book_names.nd (ix_seq (l := [kindD o]) (es_tup (ex_fldD (ex_var 0) B.2 (c_Book T) (no_Book_sorts T) rfl))) (by simp) fun i d Hb q e => ?_) (.inr rfl) (n_tuple T)) rfl)
  obtain rfl := one_get q
  exact ⟨[1], _, by simp, fun s H C cl fp => gx_name 1 sc_Book_names.nd, fun s H C cl fp => ex_t0 (ex_var 1)⟩
theorem ok_Book_kind_at (T : Tx K mg) : OkF P w K mg base 1 (He.ma K (He.ga K "Book") "kind_at") ["self", "name"] (spC fun H ks k => ∃ a o v, BookAt K o v H a ∧ ks = [.d (.r a), .d (.s "part")] ∧ k = .d (kindD o)) := by
  refine ok_fr (f_Book_kind_at T) sc_Book_kind_at (fun _ _ _ _ _ _ us hl => match us, hl with | [_, _], _ => rfl) (by decide) (fun H ks k ⟨_, _, _, _, h, _⟩ => by rw [h]; rfl) (fun cdv A outer s H E ks k hr h => ?_)
  obtain ⟨a, o, v, B, rfl, rfl⟩ := h
  refine bx_cons (Mid := fun _ => False) (sx_for1 (d := kindD o) (ix_seq (l := [kindD o]) (es_tup (ex_fldD (ex_var 0) B.2 (c_Book T) (no_Book_sorts T) rfl))) fun Hb e => ⟨_, _, gx_name 2 sc_Book_kind_at.nd, ?_⟩) fun _ z => z.elim
  exact bx_one (sx_yes (et_to (ew_and (x := true) (y := true) (et_val (ex_isS (ex_var 1) (n_isinstance T) (n_str T))) fun _ => ew_and1 (et_to (et_eq (ex_t0 (ex_var 2)) (ex_var 1)) (by decide +kernel))).t rfl) (bx_one (sx_ret (ex_var 2) rfl)))
theorem ea_row {X : Cx} {H0 : Hp} {ss : List Sl} {o v : Option Stp} {e1 e2 e3 : Expr} {p1 p2 p3 : Pos} (ov : o = none ∨ v = none) (h1 : EX X H0 ss e1 (.d (rowD o))) (h2 : EX X H0 ss e2 (.d (.tup []))) (h3 : EX X H0 ss e3 (.d (rowD v)))
    (s1 : starEach [.Starred e1 p1, .Starred e2 p2, .Starred e3 p3] X.env = (true, eval e1 X.env) :: starEach [.Starred e2 p2, .Starred e3 p3] X.env := by rfl) (s2 : starEach [.Starred e2 p2, .Starred e3 p3] X.env = (true, eval e2 X.env) :: starEach [.Starred e3 p3] X.env := by rfl) (s3 : starEach [.Starred e3 p3] X.env = (true, eval e3 X.env) :: starEach [] X.env := by rfl) :
    EA X H0 ss [.Starred e1 p1, .Starred e2 p2, .Starred e3 p3] (ds (stL (orO o v))) := by
  have h := ea_star (.inl h1) (ea_star (.inl h2) (ea_star (.inl h3) ea_nil s3) s2) s1
  have e : ds (stL o) ++ (ds [] ++ (ds (stL v) ++ [])) = ds (stL (orO o v)) := by
    rcases ov with rfl | rfl
    · cases v <;> rfl
    · cases o <;> rfl
  rw [e] at h
  exact h
theorem ea_row2 {X : Cx} {H0 : Hp} {ss : List Sl} {v : Option Stp} {e2 e3 : Expr} {p2 p3 : Pos} (h2 : EX X H0 ss e2 (.d (.tup []))) (h3 : EX X H0 ss e3 (.d (rowD v)))
    (s2 : starEach [.Starred e2 p2, .Starred e3 p3] X.env = (true, eval e2 X.env) :: starEach [.Starred e3 p3] X.env := by rfl) (s3 : starEach [.Starred e3 p3] X.env = (true, eval e3 X.env) :: starEach [] X.env := by rfl) :
    EA X H0 ss [.Starred e2 p2, .Starred e3 p3] (ds (stL v)) := by
  have h := ea_star (.inl h2) (ea_star (.inl h3) ea_nil s3) s2
  have e : ds [] ++ (ds (stL v) ++ []) = ds (stL v) := by cases v <;> rfl
  rw [e] at h
  exact h
theorem st_len (o : Option Stp) : (stL o).length ≤ 100000 := by cases o <;> simp [stL]
theorem ok_Book_rate (T : Tx K mg) : OkF P w K mg base 5 (He.ma K (He.ga K "Book") "rate") ["self", "name"] (spC fun H ks k => ∃ a o v, BookAt K o v H a ∧ ks = [.d (.r a), .d (.s "part")] ∧ k = .d (rateD (orO o v))) := by
  refine ok_fr (f_Book_rate T) sc_Book_rate (fun _ _ _ _ _ _ us hl => match us, hl with | [_, _], _ => rfl) (by decide) (fun H ks k ⟨_, _, _, _, h, _⟩ => by rw [h]; rfl) (fun cdv A outer s H E ks k hr h => ?_)
  obtain ⟨a, o, v, B, rfl, rfl⟩ := h
  refine bx_step (sx_set 2 (ex_meth (ex_var 0) B.2 (c_Book T) (m_Book_kind_at T) rfl (ok_Book_kind_at T) (hr.mono (by decide)) (ex_one1 (ex_var 1)) fun H e => ⟨a, o, v, B.mono e, rfl, rfl⟩) sc_Book_rate.nd) ?_
  exact bx_one (sx_ret (ex_call (ok_rate_of T) hr (g_rate_of T) (ex_one1 (ex_tup (ea_row B.1 (ex_t2 (ex_var 2)) (ex_ixT (ex_fldD (ex_var 0) B.2 (c_Book T) (no_Book_heaps T) rfl) (ex_t1 (ex_var 2)) ixD0) (ex_fldD (ex_var 0) B.2 (c_Book T) (no_Book_last T) rfl)) (st_len _))) fun H _ => ⟨orO o v, rfl, rfl⟩) rfl)
theorem ok_Book_share (T : Tx K mg) : OkF P w K mg base 5 (He.ma K (He.ga K "Book") "share") ["self", "name"] (spC fun H ks k => ∃ a o v, BookAt K o v H a ∧ ks = [.d (.r a), .d (.s "part")] ∧ k = .d (rateD v)) := by
  refine ok_fr (f_Book_share T) sc_Book_share (fun _ _ _ _ _ _ us hl => match us, hl with | [_, _], _ => rfl) (by decide) (fun H ks k ⟨_, _, _, _, h, _⟩ => by rw [h]; rfl) (fun cdv A outer s H E ks k hr h => ?_)
  obtain ⟨a, o, v, B, rfl, rfl⟩ := h
  exact bx_one (sx_ret (ex_call (ok_rate_of T) hr (g_rate_of T) (ex_one1 (ex_tup (ea_row2 (ex_ixT (ex_fldD (ex_var 0) B.2 (c_Book T) (no_Book_heaps T) rfl) (ex_t1 (ex_meth (ex_var 0) B.2 (c_Book T) (m_Book_kind_at T) rfl (ok_Book_kind_at T) (hr.mono (by decide)) (ex_one1 (ex_var 1)) fun H e => ⟨a, o, v, B.mono e, rfl, rfl⟩)) ixD0) (ex_fldD (ex_var 0) B.2 (c_Book T) (no_Book_last T) rfl)) (st_len _))) fun H _ => ⟨v, rfl, rfl⟩) rfl)
theorem ok_Book_period (T : Tx K mg) : OkF P w K mg base 3 (He.ma K (He.ga K "Book") "period") ["self", "name"] (spC fun H ks k => ∃ a o v, BookAt K o v H a ∧ ks = [.d (.r a), .d (.s "part")] ∧ k = .d (.i (perN (orO o v) : Nat))) := by
  refine ok_fr (f_Book_period T) sc_Book_period (fun _ _ _ _ _ _ us hl => match us, hl with | [_, _], _ => rfl) (by decide) (fun H ks k ⟨_, _, _, _, h, _⟩ => by rw [h]; rfl) (fun cdv A outer s H E ks k hr h => ?_)
  obtain ⟨a, o, v, B, rfl, rfl⟩ := h
  refine bx_step (sx_set 2 (ex_meth (ex_var 0) B.2 (c_Book T) (m_Book_kind_at T) rfl (ok_Book_kind_at T) (hr.mono (by decide)) (ex_one1 (ex_var 1)) fun H e => ⟨a, o, v, B.mono e, rfl, rfl⟩) sc_Book_period.nd) ?_
  exact bx_one (sx_ret (ex_call (ok_period_of T) hr (g_period_of T) (ex_one1 (ex_tup (ea_row B.1 (ex_t2 (ex_var 2)) (ex_ixT (ex_fldD (ex_var 0) B.2 (c_Book T) (no_Book_heaps T) rfl) (ex_t1 (ex_var 2)) ixD0) (ex_fldD (ex_var 0) B.2 (c_Book T) (no_Book_last T) rfl)) (st_len _))) fun H _ => ⟨orO o v, rfl, rfl⟩) rfl)
theorem ok_Book_periods (T : Tx K mg) : OkF P w K mg base 3 (He.ma K (He.ga K "Book") "periods") ["self"] (spC fun H ks k => ∃ a o v, BookAt K o v H a ∧ ks = [.d (.r a)] ∧ k = .d (.tup [.i (perN v : Nat)])) := by
  refine ok_fr (f_Book_periods T) sc_Book_periods (fun _ _ _ _ _ _ us hl => match us, hl with | [_], _ => rfl) (by decide) (fun H ks k ⟨_, _, _, _, h, _⟩ => by rw [h]; rfl) (fun cdv A outer s H E ks k hr h => ?_)
  obtain ⟨a, o, v, B, rfl, rfl⟩ := h
  refine bx_one (sx_ret (ex_tupL (l := [.i (perN v : Nat)]) (ex_lcB [("steps", 1)] (fun _ => .i (perN v : Nat)) sc_Book_periods.nd (ix_seq (l := [.tup []]) (es_tup (ex_fldD (ex_var 0) B.2 (c_Book T) (no_Book_heaps T) rfl))) (by simp) fun i d Hb q e => ?_) (.inr rfl) (n_tuple T)) rfl)
  obtain rfl := one_get q
  exact ⟨[1], _, by simp, fun s H C cl fp => gx_name 1 sc_Book_periods.nd, fun s H' C cl fp => ex_call (ok_period_of T) (by exact hr) (g_period_of T) (ex_one1 (ex_tup (ea_row2 (ex_var 1) (ex_fldD (ex_var 0) (B.mono e).2 (c_Book T) (no_Book_last T) rfl)) (st_len _))) fun H _ => ⟨v, rfl, rfl⟩⟩
end
end K44
end

section
-- text V7
set_option Elab.async false
set_option linter.all false
set_option maxRecDepth 100000
set_option maxHeartbeats 4000000
namespace K44
open PySem PySem.Spec L2
open Evl (Ex)
theorem rd_rd (k : Kd) : k.rd.rd = k.rd := by cases k <;> rfl
theorem ag_rd {H : Hp} {k : Kd} {y : V} (h : Ag H k y) : Ag H k.rd y := by
  show Is H H k.rd.rd y
  rw [rd_rd]; exact h
def rdS : List Kd → List Kd := List.map Kd.rd
theorem ags_rd {H : Hp} : ∀ {ks : List Kd} {vs : List V}, Ags H ks vs → Ags H (rdS ks) vs
  | [], vs, h => h
  | k :: ks, vs, ⟨y, r, q, a, b⟩ => ⟨y, r, q, ag_rd a, ags_rd b⟩
theorem ea_rd {X : Cx} {H0 : Hp} {ss : List Sl} {es : List Expr} {ks : List Kd} (h : EA X H0 ss es ks) : EA X H0 ss es (rdS ks) := fun σ H Q S q => h σ H Q S fun vs H1 e1 r1 => q vs H1 e1 (ags_rd r1)
/-- books: where each stands, its kind's steps, its whole's -/
abbrev Bks := List (Addr × Option Stp × Option Stp)
def BkAll (K : PySem.W.Frag) (s : Option Stp) (H : Hp) (l : Bks) : Prop := ∀ x ∈ l, BookAt K x.2.1 x.2.2 H x.1 ∧ orO x.2.1 x.2.2 = s
theorem BkAll.mono {K : PySem.W.Frag} {s : Option Stp} {H H' : Hp} {l : Bks} (e : Ex H H') (h : BkAll K s H l) : BkAll K s H' l := fun x m => ⟨(h x m).1.mono e, (h x m).2⟩
def bkD (l : Bks) : List Dt := l.map fun x => .v (.ref x.1)
theorem bkD_get {l : Bks} {i : Nat} {d : Dt} (h : (bkD l)[i]? = some d) : ∃ x, l[i]? = some x ∧ d = .v (.ref x.1) := getL_map h
section
variable {P : Program} {w : World} {K : PySem.W.Frag} {mg : Str → Option Value} {base : Heap}
theorem ok_Book_size (T : Tx K mg) : OkF P w K mg base 4 (He.ma K (He.ga K "Book") "size") ["self"] (spC fun H ks k => ∃ a o v, BookAt K o v H a ∧ ks = [.d (.r a)] ∧ k = .d (.i (perN v : Nat))) := by
  refine ok_fr (f_Book_size T) sc_Book_size (fun _ _ _ _ _ _ us hl => match us, hl with | [_], _ => rfl) (by decide) (fun H ks k ⟨_, _, _, _, h, _⟩ => by rw [h]; rfl) (fun cdv A outer s H E ks k hr h => ?_)
  obtain ⟨a, o, v, B, rfl, rfl⟩ := h
  refine bx_step (sx_set 1 ex_int sc_Book_size.nd) ?_
  refine bx_step (s1 := [.d (.r a), .d (.i (perN v : Nat)), .d (.i (perN v : Nat))]) (sx_for1 (d := .i (perN v : Nat)) (ix_seq (l := [.i (perN v : Nat)]) (es_tup (ex_meth0 (ex_var 0) B.2 (c_Book T) (m_Book_periods T) rfl (ok_Book_periods T) hr fun H e => ⟨a, o, v, B.mono e, rfl, rfl⟩))) fun Hb e => ⟨_, _, gx_name 2 sc_Book_size.nd, ?_⟩) (bx_one (sx_ret (ex_var 1) rfl))
  refine bx_one (sx_mono (sx_set 1 (k := .d (.i (perN v : Nat))) (ex_to (ex_mul (ex_var 1) (ex_var 2) (.inl ⟨by decide, by decide⟩)) (by rw [Int.one_mul])) sc_Book_size.nd) ?_)
  rintro _ rfl
  rfl
theorem ok_Book_value (T : Tx K mg) : OkF P w K mg base 4 (He.ma K (He.ga K "Book") "value") ["self", "name", "amount"] (spC fun H ks k => ∃ a o v, ∃ n : Nat, BookAt K o v H a ∧ n < 1000000 ∧ ks = [.d (.r a), .d (.s "part"), .d (.i n)] ∧ k = .d (.i (ledI o n))) := by
  refine ok_fr (f_Book_value T) sc_Book_value (fun _ _ _ _ _ _ us hl => match us, hl with | [_, _, _], _ => rfl) (by decide) (fun H ks k ⟨_, _, _, _, _, _, h, _⟩ => by rw [h]; rfl) (fun cdv A outer s H E ks k hr h => ?_)
  obtain ⟨a, o, v, n, B, hn, rfl, rfl⟩ := h
  refine bx_step (sx_set 3 (ex_meth (ex_var 0) B.2 (c_Book T) (m_Book_kind_at T) rfl (ok_Book_kind_at T) (hr.mono (by decide)) (ex_one1 (ex_var 1)) fun H e => ⟨a, o, v, B.mono e, rfl, rfl⟩) sc_Book_value.nd) ?_
  refine bx_step (sx_expr (ex_call (ok_check_number T) hr (g_check_number T) (ea_cons (ex_var 2) (ea_cons ex_int (ex_one1 ex_non))) fun H _ => ⟨n, 0, none, by omega, rfl, rfl, rfl⟩)) ?_
  exact bx_one (sx_ret (ex_call (ok_led T) (hr.mono (by decide)) (g_led T) (ea_cons (ex_t2 (ex_var 3)) (ex_one1 (ex_var 2))) fun H _ => ⟨o, n, by omega, rfl, rfl⟩) rfl)
abbrev lineD (n : Nat) : Dt := .tup [.s "part", .i n]
theorem ok_is_line (T : Tx K mg) : OkF P w K mg base 3 (He.ga K "is_line") ["value", "names"] (spC fun _ ks k => ∃ n : Nat, ks = [.d (lineD n), .d (.tup [.s "part"])] ∧ k = .d (.b true)) := by
  refine ok_fr (f_is_line T) sc_is_line (fun _ _ _ _ _ _ us hl => match us, hl with | [_, _], _ => rfl) (by decide) (fun H ks k ⟨_, h, _⟩ => by rw [h]; rfl) (fun cdv A outer s H E ks k hr h => ?_)
  obtain ⟨n, rfl, rfl⟩ := h
  refine bx_guard (x := false) (et_to (ew_or (x := false) (y := false) (et_to (et_not (et_val (ex_isT (ex_var 0) (n_isinstance T) (n_tuple T)))) rfl) fun _ => ew_or (x := false) (y := false) (et_to (et_ne (ex_len (ex_var 0) (.inl rfl) (n_len T)) ex_int) rfl) fun _ => ew_or1 (et_to (et_not (x := true) (et_val (ex_to (ex_call (ok_is_between T) hr (g_is_between T) (ea_cons (ex_t1 (ex_var 0)) (ea_cons ex_int (ex_one1 ex_non))) fun H _ => ⟨n, 0, none, rfl, rfl⟩) (by simp [hiB])))) rfl)).t rfl) (fun q => nomatch q) fun _ => ?_
  exact bx_one (sx_ret (ex_and (x := true) (y := true) (ex_isS (ex_t0 (ex_var 0)) (n_isinstance T) (n_str T)) fun _ => ex_one (ex_to (ex_inL (xs := [.str "part"]) (ex_t0 (ex_var 0)) (ex_var 1) (.inl rfl) rfl rfl) (by first | rfl | (congr 1)))) rfl)
theorem ok_check_bill (T : Tx K mg) : OkF P w K mg base 4 (He.ga K "check_bill") ["bill", "names"] (spC fun _ ks k => ∃ n : Nat, ks = [.d (.tup [lineD n]), .d (.tup [.s "part"])] ∧ k = .d (.v .non)) := by
  refine ok_fr (f_check_bill T) sc_check_bill (fun _ _ _ _ _ _ us hl => match us, hl with | [_, _], _ => rfl) (by decide) (fun H ks k ⟨_, h, _⟩ => by rw [h]; rfl) (fun cdv A outer s H E ks k hr h => ?_)
  obtain ⟨n, rfl, rfl⟩ := h
  refine bx_guard (x := false) (et_to (et_not (et_val (ex_isT (ex_var 0) (n_isinstance T) (n_tuple T)))) rfl) (fun q => nomatch q) fun _ => ?_
  refine bx_one (sx_for1 (d := .tup [.v (.int ((0 : Nat) : Int)), lineD n]) (ix_enum (l1 := [lineD n]) (eas_cons (es_tup (ex_var 0)) eas_nil) (n_enumerate T)) fun Hb e => ⟨_, _, gx_tup2 2 3 sc_check_bill.nd, ?_⟩)
  exact bx_guard (x := false) (et_to (et_not (et_val (ex_call (ok_is_line T) hr (g_is_line T) (ea_cons (ex_var 3) (ex_one1 (ex_var 1))) fun H _ => ⟨n, rfl, rfl⟩))) rfl) (fun q => nomatch q) fun _ => bx_nil rfl
theorem ok_Book_sums (T : Tx K mg) : OkF P w K mg base 5 (He.ma K (He.ga K "Book") "sums") ["self", "bill"] (spC fun H ks k => ∃ a o v, ∃ n : Nat, BookAt K o v H a ∧ n < 1000000 ∧ ks = [.d (.r a), .d (.tup [lineD n])] ∧ k = .d (.tup [.i (ledI o n)])) := by
  refine ok_fr (f_Book_sums T) sc_Book_sums (fun _ _ _ _ _ _ us hl => match us, hl with | [_, _], _ => rfl) (by decide) (fun H ks k ⟨_, _, _, _, _, _, h, _⟩ => by rw [h]; rfl) (fun cdv A outer s H E ks k hr h => ?_)
  obtain ⟨a, o, v, n, B, hn, rfl, rfl⟩ := h
  refine bx_step (sx_expr (ex_call (ok_check_bill T) hr (g_check_bill T) (ea_cons (ex_var 1) (ex_one1 (ex_prop (ex_var 0) B.2 (c_Book T) (p_Book_names T) (ok_Book_names T) (hr.mono (by decide)) fun H e => ⟨a, o, v, B.mono e, rfl, rfl⟩))) fun H _ => ⟨n, rfl, rfl⟩)) ?_
  refine bx_step (sx_set 2 (k := .nl [.i 0]) (ex_repL (k := 1) (ex_lst (l := [.i 0]) (ex_one1 ex_int)) (.inr rfl) (ex_len (l := [.tup []]) (ex_fldD (ex_var 0) B.2 (c_Book T) (no_Book_heaps T) rfl) (.inl rfl) (n_len T)) (by decide) (by simp)) sc_Book_sums.nd) ?_
  refine bx_cons (Mid := fun s => s[2]? = some (.own [.i (ledI o n)])) (sx_for1 (d := lineD n) (ix_seq (l := [lineD n]) (es_tup (ex_var 1))) fun Hb e => ⟨_, _, gx_tup2 3 4 sc_Book_sums.nd, ?_⟩) fun s1 h1 => bx_one (sx_ret (ex_tupL (l := [.i (ledI o n)]) (ex_varL 2 (.inr h1)) (.inl rfl) (n_tuple T)) rfl)
  refine bx_step (sx_set 5 (ex_meth (ex_var 0) (B.mono e).2 (c_Book T) (m_Book_kind_at T) rfl (ok_Book_kind_at T) (hr.mono (by decide)) (ex_one1 (ex_var 3)) fun H e' => ⟨a, o, v, (B.mono e).mono e', rfl, rfl⟩) sc_Book_sums.nd) ?_
  refine bx_one (sx_mono (sx_augI (k := 0) (m := 0) (xs := [.i 0]) 2 (ex_t1 (ex_var 5)) (ex_call (ok_led T) (hr.mono (by decide)) (g_led T) (ea_cons (ex_t2 (ex_var 5)) (ex_one1 (ex_var 4))) fun H _ => ⟨o, n, by omega, rfl, rfl⟩) rfl (by decide)) ?_)
  rintro _ rfl
  show some (Sl.own [.i (0 + ledI o n)]) = _
  rw [Int.zero_add]
theorem ok_Book_ask_of_sums (T : Tx K mg) : OkF P w K mg base 3 (He.ma K (He.ga K "Book") "ask_of_sums") ["self", "sums"] (spC fun H ks k => ∃ a o v, ∃ n : Int, BookAt K o v H a ∧ n.natAbs < 1000000000 ∧ ks = [.d (.r a), .d (.tup [.i n])] ∧ k = .d (.i (ledI v n))) := by
  refine ok_fr (f_Book_ask_of_sums T) sc_Book_ask_of_sums (fun _ _ _ _ _ _ us hl => match us, hl with | [_, _], _ => rfl) (by decide) (fun H ks k ⟨_, _, _, _, _, _, h, _⟩ => by rw [h]; rfl) (fun cdv A outer s H E ks k hr h => ?_)
  obtain ⟨a, o, v, n, B, hn, rfl, rfl⟩ := h
  refine bx_one (sx_ret (ex_call (ok_led T) hr (g_led T) (ea_cons (ex_fldD (ex_var 0) B.2 (c_Book T) (no_Book_last T) rfl) (ex_one1 (ex_sum (ns := [n]) (ex_lcB [("steps", 2), ("found", 3)] (fun _ => .i n) sc_Book_ask_of_sums.nd (ix_zip2 (l1 := [.tup []]) (l2 := [.i n]) (eas_cons (es_tup (ex_fldD (ex_var 0) B.2 (c_Book T) (no_Book_heaps T) rfl)) (eas_cons (es_tup (ex_var 1)) eas_nil)) rfl (n_zip T)) (by simp [zip2D]) fun i d Hb q e => ?_) (.inr rfl) (n_sum T)))) fun H _ => ⟨v, n, by omega, ?_, rfl⟩) rfl)
  · obtain rfl : d = .tup [.tup [], .i n] := one_get q
    exact ⟨[2, 3], _, by simp, fun s H C cl fp => gx_tup2 2 3 sc_Book_ask_of_sums.nd, fun s H C cl fp => ex_call (ok_led T) (by exact hr) (g_led T) (ea_cons (ex_var 2) (ex_one1 (ex_var 3))) fun H _ => ⟨none, n, by omega, rfl, rfl⟩⟩
  · simp
theorem ok_check_book (T : Tx K mg) : OkF P w K mg base 1 (He.ga K "check_book") ["value"] (spC fun H ks k => ∃ a o v, BookAt K o v H a ∧ ks = [.d (.r a)] ∧ k = .d (.v .non)) := by
  refine ok_fr (f_check_book T) sc_check_book (fun _ _ _ _ _ _ us hl => match us, hl with | [_], _ => rfl) (by decide) (fun H ks k ⟨_, _, _, _, h, _⟩ => by rw [h]; rfl) (fun cdv A outer s H E ks k hr h => ?_)
  obtain ⟨a, o, v, B, rfl, rfl⟩ := h
  exact bx_guard (x := false) (et_to (et_not (et_val (ex_isC (ex_var 0) (ex_gref (g_Book T)) B.2 (ins_Book T) (n_isinstance T)))) rfl) (fun q => nomatch q) fun _ => bx_nil rfl
theorem ok_check_two (T : Tx K mg) : OkF P w K mg base 2 (He.ga K "check_two") ["one", "other"] (spC fun H ks k => ∃ a o v b o' v', BookAt K o v H a ∧ BookAt K o' v' H b ∧ ks = [.d (.r a), .d (.r b)] ∧ k = .d (.v .non)) := by
  refine ok_fr (f_check_two T) sc_check_two (fun _ _ _ _ _ _ us hl => match us, hl with | [_, _], _ => rfl) (by decide) (fun H ks k ⟨_, _, _, _, _, _, _, _, h, _⟩ => by rw [h]; rfl) (fun cdv A outer s H E ks k hr h => ?_)
  obtain ⟨a, o, v, b, o', v', B, B', rfl, rfl⟩ := h
  refine bx_step (sx_expr (ex_call (ok_check_book T) hr (g_check_book T) (ex_one1 (ex_var 0)) fun H e => ⟨a, o, v, B.mono e, rfl, rfl⟩)) ?_
  exact bx_one (sx_mono (sx_expr (ex_call (ok_check_book T) hr (g_check_book T) (ex_one1 (ex_var 1)) fun H e => ⟨b, o', v', B'.mono e, rfl, rfl⟩)) fun _ _ => rfl)
theorem ok_check_fit (T : Tx K mg) : OkF P w K mg base 3 (He.ga K "check_fit") ["one", "other"] (spC fun H ks k => ∃ a o v b o' v', BookAt K o v H a ∧ BookAt K o' v' H b ∧ ks = [.d (.r a), .d (.r b)] ∧ k = .d (.v .non)) := by
  refine ok_fr (f_check_fit T) sc_check_fit (fun _ _ _ _ _ _ us hl => match us, hl with | [_, _], _ => rfl) (by decide) (fun H ks k ⟨_, _, _, _, _, _, _, _, h, _⟩ => by rw [h]; rfl) (fun cdv A outer s H E ks k hr h => ?_)
  obtain ⟨a, o, v, b, o', v', B, B', rfl, rfl⟩ := h
  refine bx_guard (x := false) (et_to (et_neD (k := .d (.tup [.s "part"])) (l := .d (.tup [.s "part"])) (x := true) hr.units (ex_prop (ex_var 0) B.2 (c_Book T) (p_Book_names T) (ok_Book_names T) hr fun H e => ⟨a, o, v, B.mono e, rfl, rfl⟩) (ex_prop (ex_var 1) B'.2 (c_Book T) (p_Book_names T) (ok_Book_names T) hr fun H e => ⟨b, o', v', B'.mono e, rfl, rfl⟩) (by decide +kernel) rfl rfl (by decide +kernel) (by decide +kernel)) rfl) (fun q => nomatch q) fun _ => bx_nil rfl
theorem ok_first_greater (T : Tx K mg) : OkF P w K mg base 6 (He.ga K "first_greater") ["one", "other"] (spC fun H ks k => ∃ a o v b o' v', BookAt K o v H a ∧ BookAt K o' v' H b ∧ orO o v = orO o' v' ∧ ks = [.d (.r a), .d (.r b)] ∧ k = .d (.v .non)) := by
  refine ok_fr (f_first_greater T) sc_first_greater (fun _ _ _ _ _ _ us hl => match us, hl with | [_, _], _ => rfl) (by decide) (fun H ks k ⟨_, _, _, _, _, _, _, _, _, h, _⟩ => by rw [h]; rfl) (fun cdv A outer s H E ks k hr h => ?_)
  obtain ⟨a, o, v, b, o', v', B, B', hq, rfl, rfl⟩ := h
  refine bx_cons (Mid := fun _ => True) (sx_for1 (d := .s "part") (ix_seq (l := [.s "part"]) (es_tup (ex_prop (ex_var 0) B.2 (c_Book T) (p_Book_names T) (ok_Book_names T) (hr.mono (by decide)) fun H e => ⟨a, o, v, B.mono e, rfl, rfl⟩))) fun Hb e => ⟨_, _, gx_name 2 sc_first_greater.nd, ?_⟩) fun _ _ => bx_one (sx_ret ex_non rfl)
  have rb := rate_bd (orO o v)
  have hm : (rate (orO o v)).2 * (rate (orO o v)).2 ≤ 20 * 20 := Nat.mul_le_mul rb.2.2 rb.2.2
  refine bx_guard (x := false) (et_to (et_gt (ex_t0 (ex_call (ok_less T) (hr.mono (by decide)) (g_less T) (ea_cons (ex_meth (ex_var 0) (B.mono e).2 (c_Book T) (m_Book_rate T) rfl (ok_Book_rate T) hr (ex_one1 (ex_var 2)) fun H e' => ⟨a, o, v, (B.mono e).mono e', rfl, rfl⟩) (ex_one1 (ex_meth (ex_var 1) (B'.mono e).2 (c_Book T) (m_Book_rate T) rfl (ok_Book_rate T) hr (ex_one1 (ex_var 2)) fun H e' => ⟨b, o', v', (B'.mono e).mono e', rfl, rfl⟩)))
    fun H _ => ⟨(rate (orO o v)).1, (rate (orO o v)).1, (rate (orO o v)).2, (rate (orO o v)).2, by omega, by omega, rb.2.1, rb.2.1, by omega, by omega, by rw [hq], rfl⟩)) ex_int) ?_) (fun q => nomatch q) fun _ => bx_nil trivial
  rw [Int.sub_self]
  show decide (0 < frT 0 _) = false
  unfold frT
  rw [Int.zero_ediv]
  rfl
theorem ok_check_rates (T : Tx K mg) : OkF P w K mg base 7 (He.ga K "check_rates") ["one", "other"] (spC fun H ks k => ∃ a o v b o' v', BookAt K o v H a ∧ BookAt K o' v' H b ∧ orO o v = orO o' v' ∧ ks = [.d (.r a), .d (.r b)] ∧ k = .d (.v .non)) := by
  refine ok_fr (f_check_rates T) sc_check_rates (fun _ _ _ _ _ _ us hl => match us, hl with | [_, _], _ => rfl) (by decide) (fun H ks k ⟨_, _, _, _, _, _, _, _, _, h, _⟩ => by rw [h]; rfl) (fun cdv A outer s H E ks k hr h => ?_)
  obtain ⟨a, o, v, b, o', v', B, B', hq, rfl, rfl⟩ := h
  refine bx_step (sx_set 2 (ex_call (ok_first_greater T) hr (g_first_greater T) (ea_cons (ex_var 0) (ex_one1 (ex_var 1))) fun H e => ⟨a, o, v, b, o', v', B.mono e, B'.mono e, hq, rfl, rfl⟩) sc_check_rates.nd) ?_
  exact bx_guard (x := false) (et_to (et_notN (x := .non) (ex_var 2)) rfl) (fun q => nomatch q) fun _ => bx_nil rfl
end
end K44
end

section
-- text V8
set_option Elab.async false
set_option linter.all false
set_option maxRecDepth 100000
set_option maxHeartbeats 4000000
namespace K44
open PySem PySem.Spec L2
open Evl (Ex)
def szs (l : Bks) : Nat := (l.map fun x => perN x.2.2).prod
theorem szs_take {l : Bks} {i : Nat} {x : Addr × Option Stp × Option Stp} (h : l[i]? = some x) : szs (l.take (i + 1)) = szs (l.take i) * perN x.2.2 := by
  unfold szs
  rw [List.take_add_one, h]
  simp
section
variable {P : Program} {w : World} {K : PySem.W.Frag} {mg : Str → Option Value} {base : Heap}
theorem ok_sides_of (T : Tx K mg) : OkF P w K mg base 1 (He.ga K "sides_of") ["one", "other"] (spC fun H ks k => ∃ a b, ks = [.d (.r a), .d (.r b)] ∧ k = .nl [.tup [.r a, .i 1], .tup [.r b, .i (-1)]]) := by
  refine ok_fr (f_sides_of T) sc_sides_of (fun _ _ _ _ _ _ us hl => match us, hl with | [_, _], _ => rfl) (by decide) (fun H ks k ⟨_, _, h, _⟩ => by rw [h]; rfl) (fun cdv A outer s H E ks k hr h => ?_)
  obtain ⟨a, b, rfl, rfl⟩ := h
  exact bx_one (sx_ret (ex_lst (l := [.tup [.r a, .i 1], .tup [.r b, .i (-1)]]) (ea_cons (ex_tup (l := [.r a, .i 1]) (ea_cons (ex_var 0) (ex_one1 ex_int))) (ex_one1 (ex_tup (l := [.r b, .i (-1)]) (ea_cons (ex_var 1) (ex_one1 (ex_neg ex_int))))))) rfl)
theorem cm_self {p : Nat} (h : 0 < p) : p / Nat.gcd p p * p = p := by
  rw [Nat.gcd_self, Nat.div_self h, Nat.one_mul]
theorem ok_amounts_of (T : Tx K mg) : OkF P w K mg base 4 (He.ga K "amounts_of") ["books", "name"] (spC fun H ks k => ∃ (s : Option Stp) (l : Bks), l ≠ [] ∧ BkAll K s H l ∧ ks = [.r (bkD l), .d (.s "part")] ∧ k = .d (.i (perN s : Nat))) := by
  refine ok_fr (f_amounts_of T) sc_amounts_of (fun _ _ _ _ _ _ us hl => match us, hl with | [_, _], _ => rfl) (by decide) (fun H ks k ⟨_, _, _, _, h, _⟩ => by rw [h]; rfl) (fun cdv A outer s H E ks k hr h => ?_)
  obtain ⟨s, l, hl, B, rfl, rfl⟩ := h
  have pp := perN_pos s
  refine bx_step (sx_set 2 ex_int sc_amounts_of.nd) ?_
  refine bx_cons (Mid := fun st => st[2]? = some (.d (.i (perN s : Nat)))) (sx_mono (sx_for (items := bkD l) (I := fun i st => ∃ x, st = [.l (bkD l), .d (.s "part"), .d (.i ((if i = 0 then 1 else perN s : Nat) : Nat)), x]) (ix_seq (es_var 0 rfl)) ⟨.no, rfl⟩ (fun i d Hb s1 hd e hI => ?_)) ?_) fun s1 h1 => bx_one (sx_ret (ex_var 2 h1) rfl)
  · obtain ⟨x0, rfl⟩ := hI
    obtain ⟨x, hx, rfl⟩ := bkD_get hd
    have Bx := B x (List.mem_of_getElem? hx)
    refine ⟨_, _, gx_name 3 sc_amounts_of.nd, bx_one (sx_mono (sx_set 2 (k := .d (.i (perN s : Nat))) (ex_to (ex_call (ok_common_multiple T) (hr.mono (by decide)) (g_common_multiple T) (ea_cons (ex_var 2) (ex_one1 (ex_meth (ex_var 3) (Bx.1.mono e).2 (c_Book T) (m_Book_period T) rfl (ok_Book_period T) hr (ex_one1 (ex_var 1)) fun H e' => ⟨x.1, x.2.1, x.2.2, (Bx.1.mono e).mono e', rfl, rfl⟩))) fun H _ => ⟨(if i = 0 then 1 else perN s : Nat), perN (orO x.2.1 x.2.2), by split <;> omega, by split <;> omega, rfl, rfl⟩) ?_) sc_amounts_of.nd) ?_)⟩
    · rw [Bx.2]
      congr 3
      by_cases z : i = 0
      · rw [if_pos z]
        simp
      · rw [if_neg z, cm_self pp.1]
    · rintro _ rfl
      exact ⟨_, rfl⟩
  · rintro st ⟨x, rfl⟩
    have : ¬ (bkD l).length = 0 := by
      unfold bkD
      rw [List.length_map]
      exact fun z => hl (List.length_eq_zero_iff.mp z)
    show some (Sl.d (.i _)) = _
    rw [if_neg this]
theorem ok_check_size (T : Tx K mg) : OkF P w K mg base 5 (He.ga K "check_size") ["books"] (spC fun H ks k => ∃ (s : Option Stp) (l : Bks), l ≠ [] ∧ BkAll K s H l ∧ szs l ≤ 200 ∧ ks = [.r (bkD l)] ∧ k = .d (.v .non)) := by
  refine ok_fr (f_check_size T) sc_check_size (fun _ _ _ _ _ _ us hl => match us, hl with | [_], _ => rfl) (by decide) (fun H ks k ⟨_, _, _, _, _, h, _⟩ => by rw [h]; rfl) (fun cdv A outer s H E ks k hr h => ?_)
  obtain ⟨s, l, hl, B, hz, rfl, rfl⟩ := h
  have pp := perN_pos s
  refine bx_step (sx_set 1 ex_int sc_check_size.nd) ?_
  refine bx_cons (Mid := fun st => ∃ x, st = [.l (bkD l), .d (.i (szs l : Nat)), x, .no]) (sx_mono (sx_for (items := bkD l) (I := fun i st => ∃ x, st = [.l (bkD l), .d (.i (szs (l.take i) : Nat)), x, .no]) (ix_seq (es_var 0 rfl)) ⟨.no, rfl⟩ (fun i d Hb s1 hd e hI => ?_)) ?_) fun s1 h1 => ?_
  · obtain ⟨x0, rfl⟩ := hI
    obtain ⟨x, hx, rfl⟩ := bkD_get hd
    have Bx := B x (List.mem_of_getElem? hx)
    have px := perN_pos x.2.2
    refine ⟨_, _, gx_name 2 sc_check_size.nd, bx_one (sx_mono (sx_set 1 (k := .d (.i (szs (l.take (i + 1)) : Nat))) (ex_to (ex_mul (ex_var 1) (ex_meth0 (ex_var 2) (Bx.1.mono e).2 (c_Book T) (m_Book_size T) rfl (ok_Book_size T) hr fun H e' => ⟨x.1, x.2.1, x.2.2, (Bx.1.mono e).mono e', rfl, rfl⟩) (.inr ⟨by omega, by omega⟩)) ?_) sc_check_size.nd) ?_)⟩
    · rw [szs_take hx, Int.natCast_mul]
    · rintro _ rfl
      exact ⟨_, rfl⟩
  · rintro st ⟨x, rfl⟩
    have : (bkD l).length = l.length := by simp [bkD]
    rw [this, List.take_length]
    exact ⟨_, rfl⟩
  · obtain ⟨x, rfl⟩ := h1
    refine bx_guard (x := false) (et_to (et_gt (ex_var 1) (ex_gint (g_MOST_STATES T))) (decide_eq_false (by omega))) (fun q => nomatch q) fun _ => ?_
    obtain ⟨y, l', rfl⟩ := List.exists_cons_of_ne_nil hl
    have By := B y (by simp)
    refine bx_one (sx_for1 (d := .s "part") (ix_seq (l := [.s "part"]) (es_tup (ex_prop (ex_ixL (l := bkD (y :: l')) (.inl (ex_varL 0 (.inl rfl))) ex_int ixD0) By.1.2 (c_Book T) (p_Book_names T) (ok_Book_names T) (hr.mono (by decide)) fun H e => ⟨y.1, y.2.1, y.2.2, By.1.mono e, rfl, rfl⟩))) fun Hb e => ⟨_, _, gx_name 3 sc_check_size.nd, ?_⟩)
    exact bx_guard (x := false) (et_to (et_gt (ex_call (ok_amounts_of T) hr (g_amounts_of T) (ea_cons (ex_varL 0 (.inl rfl)) (ex_one1 (ex_var 3))) fun H e' => ⟨s, y :: l', by simp, (B.mono e).mono e', rfl, rfl⟩) (ex_gint (g_MOST_AMOUNTS T))) (decide_eq_false (by omega))) (fun q => nomatch q) fun _ => bx_nil rfl
theorem ok_check_greatest (T : Tx K mg) : OkF P w K mg base 8 (He.ga K "check_greatest") ["one", "other"] (spC fun H ks k => ∃ a o v b o' v', BookAt K o v H a ∧ BookAt K o' v' H b ∧ orO o v = orO o' v' ∧ perN v * perN v' ≤ 200 ∧ ks = [.d (.r a), .d (.r b)] ∧ k = .d (.v .non)) := by
  refine ok_fr (f_check_greatest T) sc_check_greatest (fun _ _ _ _ _ _ us hl => match us, hl with | [_, _], _ => rfl) (by decide) (fun H ks k ⟨_, _, _, _, _, _, _, _, _, _, h, _⟩ => by rw [h]; rfl) (fun cdv A outer s H E ks k hr h => ?_)
  obtain ⟨a, o, v, b, o', v', B, B', hq, hz, rfl, rfl⟩ := h
  refine bx_step (sx_expr (ex_call (ok_check_fit T) (hr.mono (by decide)) (g_check_fit T) (ea_cons (ex_var 0) (ex_one1 (ex_var 1))) fun H e => ⟨a, o, v, b, o', v', B.mono e, B'.mono e, rfl, rfl⟩)) ?_
  refine bx_step (sx_expr (ex_call (ok_check_rates T) hr (g_check_rates T) (ea_cons (ex_var 0) (ex_one1 (ex_var 1))) fun H e => ⟨a, o, v, b, o', v', B.mono e, B'.mono e, hq, rfl, rfl⟩)) ?_
  refine bx_one (sx_mono (sx_expr (ex_call (ok_check_size T) (hr.mono (by decide)) (g_check_size T) (ea_rd (ks := [.nl (bkD [(a, o, v), (b, o', v')])]) (ex_one1 (ex_lst (l := bkD [(a, o, v), (b, o', v')]) (ea_cons (ex_var 0) (ex_one1 (ex_var 1))) (by simp [bkD])))) fun H e => ⟨orO o v, [(a, o, v), (b, o', v')], by simp, fun x hx => ?_, ?_, rfl, rfl⟩)) fun _ _ => rfl)
  · rcases List.mem_cons.mp hx with rfl | hx
    · exact ⟨B.mono e, rfl⟩
    · rcases List.mem_cons.mp hx with rfl | hx
      · exact ⟨B'.mono e, hq.symm⟩
      · cases hx
  · simpa [szs] using hz
end
end K44
end

section
-- text V9
set_option Elab.async false
set_option linter.all false
set_option maxRecDepth 100000
set_option maxHeartbeats 4000000
namespace K44
open PySem PySem.Spec L2
open Evl (Ex)
/-- the sides of states: a book and a sign each -/
abbrev Sd := List ((Addr × Option Stp × Option Stp) × Int)
def sideD (l : Sd) : List Dt := l.map fun x => .tup [.r x.1.1, .i x.2]
def spanD (l : Sd) : List Dt := l.map fun x => .v (.int (perN x.1.2.2 : Nat))
def botN (l : Sd) : Nat := l.foldl (fun b x => b / Nat.gcd b (rate x.1.2.2).2 * (rate x.1.2.2).2) 1
def SdAll (K : PySem.W.Frag) (s : Option Stp) (H : Hp) (l : Sd) : Prop := ∀ x ∈ l, BookAt K x.1.2.1 x.1.2.2 H x.1.1 ∧ orO x.1.2.1 x.1.2.2 = s
theorem SdAll.mono {K : PySem.W.Frag} {s : Option Stp} {H H' : Hp} {l : Sd} (e : Ex H H') (h : SdAll K s H l) : SdAll K s H' l := fun x m => ⟨(h x m).1.mono e, (h x m).2⟩
abbrev statesL (l : Sd) : List (Str × Kd) := [("sides", .r (sideD l)), ("spans", .r (spanD l)), ("bottom", .d (.i (botN l : Nat)))]
def StAt (K : PySem.W.Frag) (s : Option Stp) (l : Sd) (H : Hp) (a : Addr) : Prop := (l ≠ [] ∧ l.length ≤ 2 ∧ SdAll K s H l) ∧ ObjAt H a (He.ga K "States") (statesL l)
theorem StAt.mono {K : PySem.W.Frag} {s : Option Stp} {l : Sd} {H H' : Hp} {a : Addr} (e : Ex H H') (h : StAt K s l H a) : StAt K s l H' a := ⟨⟨h.1.1, h.1.2.1, h.1.2.2.mono e⟩, h.2.mono e⟩
theorem botN_take {l : Sd} {i : Nat} {x : (Addr × Option Stp × Option Stp) × Int} (h : l[i]? = some x) : botN (l.take (i + 1)) = botN (l.take i) / Nat.gcd (botN (l.take i)) (rate x.1.2.2).2 * (rate x.1.2.2).2 := by
  unfold botN
  rw [List.take_add_one, h]
  simp [List.foldl_append]
theorem cmN_bd {b c : Nat} (hb : 0 < b) (hc : 0 < c) : 0 < b / Nat.gcd b c * c ∧ b / Nat.gcd b c * c ≤ b * c := by
  have g : 0 < Nat.gcd b c := Nat.gcd_pos_of_pos_left _ hb
  have g2 : Nat.gcd b c ≤ b := Nat.gcd_le_left _ hb
  exact ⟨Nat.mul_pos (Nat.div_pos g2 g) hc, Nat.mul_le_mul (Nat.div_le_self _ _) (Nat.le_refl _)⟩
theorem botN_fold : ∀ (l : Sd) (b : Nat), 0 < b → 0 < l.foldl (fun b x => b / Nat.gcd b (rate x.1.2.2).2 * (rate x.1.2.2).2) b ∧ l.foldl (fun b x => b / Nat.gcd b (rate x.1.2.2).2 * (rate x.1.2.2).2) b ≤ b * 20 ^ l.length
  | [], b, h => ⟨h, by simp⟩
  | x :: l, b, h => by
    have r := rate_bd x.1.2.2
    have c := cmN_bd h r.2.1
    have ih := botN_fold l _ c.1
    refine ⟨ih.1, Nat.le_trans ih.2 ?_⟩
    rw [List.length_cons, Nat.pow_succ]
    have h1 : b / Nat.gcd b (rate x.1.2.2).2 * (rate x.1.2.2).2 ≤ b * 20 := Nat.le_trans c.2 (Nat.mul_le_mul (Nat.le_refl _) r.2.2)
    calc b / Nat.gcd b (rate x.1.2.2).2 * (rate x.1.2.2).2 * 20 ^ l.length ≤ b * 20 * 20 ^ l.length := Nat.mul_le_mul h1 (Nat.le_refl _)
      _ = b * (20 ^ l.length * 20) := by rw [Nat.mul_assoc, Nat.mul_comm 20]
theorem botN_bd {l : Sd} (h : l.length ≤ 2) : 0 < botN l ∧ botN l ≤ 400 := by
  have a := botN_fold l 1 (by decide)
  refine ⟨a.1, Nat.le_trans a.2 ?_⟩
  rw [Nat.one_mul]
  exact Nat.le_trans (Nat.pow_le_pow_right (by decide) h) (by decide)
/-- a loop whose sequence stays -/
theorem rs_for {X : Cx} {tg it : Expr} {body : List Stmt} {pos : Pos} {items : List Dt} {D : Ends} {σ : L2.St} {H : Hp} (tp : Bool)
    (h : ∀ Q : VK, (∀ y H1, (∃ (Pv : Nat → L2.St → Hp → Prop) (H0 : Hp) (p : Addr), y = .ref p ∧ sqAt H0 tp p items ∧ (∀ i σ' H', Pv i σ' H' → Ex H0 H') ∧ Pv 0 σ H1 ∧
      (∀ i d σ' H' v, items[i]? = some d → Pv i σ' H' → Rep H' d v → RG X tg v σ' H' (fun σ2 H2 => RB X body { D with nx := Pv (i + 1), ct := Pv (i + 1), bk := D.nx } σ2 H2)) ∧ ∀ σ' H', Pv items.length σ' H' → D.nx σ' H') → Q y H1) → RE X it σ H Q)
    (hp : PassesOwn (model X.prog X.w) X.A X.env X.xe := by exact PassesOwn.never) (hc : X.calm = true := by rfl) (hs : ∀ x, foldedSetIterable it X.env x = pure x := by intro _; rfl) : RS X (.For tg it body [] pos) D σ H := by
  cases tp with
  | true =>
    refine ⟨_, ps_for hp hc (pi_tup pe_any) pg_any pb_any hs, h _ ?_⟩
    rintro y H1 ⟨Pv, H0, p, rfl, ⟨vs, hp0, r⟩, ex, p0, st, en⟩
    refine ⟨p, rfl, ⟨vs, SqT.of (ex _ _ _ p0 _ _ hp0)⟩, ?_⟩
    refine for_it (walk_tup (xs := vs)) Pv p0 (fun i σ' H' _ q => SqT.of (ex _ _ _ q _ _ hp0)) (fun i x σ' H' H2 hi q y => ?_) (fun σ' H' q => en σ' H' (by rw [← r.length]; exact q))
    obtain ⟨rfl, y⟩ := y
    obtain ⟨d, ed, rd⟩ := r.has y
    exact st i d σ' _ x ed q (rd.mono (ex _ _ _ q))
  | false =>
    refine ⟨_, ps_for hp hc (pi_list pe_any) pg_any pb_any hs, h _ ?_⟩
    rintro y H1 ⟨Pv, H0, p, rfl, ⟨vs, hp0, r⟩, ex, p0, st, en⟩
    refine ⟨p, rfl, ⟨vs, SqL.of (ex _ _ _ p0 _ _ hp0)⟩, ?_⟩
    refine for_it (walk_list (xs := vs)) Pv p0 (fun i σ' H' _ q => SqL.of (ex _ _ _ q _ _ hp0)) (fun i x σ' H' H2 hi q y => ?_) (fun σ' H' q => en σ' H' (by rw [← r.length]; exact q))
    obtain ⟨rfl, y⟩ := y
    obtain ⟨d, ed, rd⟩ := r.has y
    exact st i d σ' _ x ed q (rd.mono (ex _ _ _ q))
end K44
end

section
-- text V10
set_option Elab.async false
set_option linter.all false
set_option maxRecDepth 100000
set_option maxHeartbeats 4000000
namespace K44
open PySem PySem.Spec L2
open Evl (Ex)
theorem sr_upd0 {H : Hp} {σ : L2.St} {ss : List Sl} {q : Addr} {o : HO} (S : SR H H σ ss) (hn : ∀ xs, H q ≠ some (.tup xs)) (far : ∀ (j : Nat) (t : Sl), ss[j]? = some t → t.isObj = true → σ[j]? ≠ some (some (.ref q))) : SR (upd H q o) (upd H q o) σ ss := by
  have tu : Tups H (upd H q o) := .upd hn
  refine ⟨Evl.Ex.refl _, S.len, fun j s hj => (S.at_ j s hj).imp id fun ⟨y, a, b⟩ => ⟨y, a, ?_⟩, S.sep⟩
  have ne : s.isObj = true → ∀ r, y = .ref r → r ≠ q := fun os r er z => far j s hj os (by rw [a, er, z])
  cases s with
  | no => exact trivial
  | d d => exact Rep.tup tu b
  | l xs => obtain ⟨r, er, vs, h1, h2⟩ := b; exact ⟨r, er, vs, by rw [upd_ne (ne rfl r er)]; exact h1, h2.tup tu⟩
  | own xs => obtain ⟨r, er, z, vs, h1, h2⟩ := b; rw [h1] at z; cases z
  | m xs => obtain ⟨r, er, vs, o, h1, h2⟩ := b; exact ⟨r, er, vs, o, by rw [upd_ne (ne rfl r er)]; exact h1, h2.tup tu⟩
  | om xs => obtain ⟨r, er, z, vs, h1, h2⟩ := b; rw [h1] at z; cases z
theorem ags_tup {H H' : Hp} (e : Tups H H') : ∀ {l : List (Str × Dt)} {ys : List V}, Ags H (l.map fun p => Kd.d p.2) ys → Ags H' (l.map fun p => Kd.d p.2) ys
  | [], ys, h => h
  | p :: l, ys, ⟨y, r, q, a, b⟩ => ⟨y, r, q, Rep.tup e a, ags_tup e b⟩
theorem book_keep {K : PySem.W.Frag} {o v : Option Stp} {H H' : Hp} {a : Addr} (e : Tups H H') (ha : ∀ u, H a = some u → H' a = some u) (h : BookAt K o v H a) : BookAt K o v H' a := by
  obtain ⟨ov, dx, fs, h1, h2, h3⟩ := h
  exact ⟨ov, dx, fs, ha _ h1, h2, ags_tup (l := [("sorts", kindsD o), ("heaps", groupsD), ("last", rowD v), ("words", .s (txBook o v))]) e h3⟩
section
variable {X : Cx} {ss : List Sl} {pos : Pos} {o : Expr} {I I' Post : Hp → Prop}
theorem gi_fldJ {J : Hp → Prop} {Hs : Hp} {x C : Addr} {l : List (Str × Kd)} {f : Str} {d : Dt} (ho : ∀ H, EX X H ss o (.d (.v (.ref x)))) (c : Cls X.K C) (nf : NoAttr X.K C f) (hl : l.lookup f = none) (hz : l.length < 1000) (no : noOwnS ss = true)
    (hJ : ∀ H H', Ex H H' → J H → J H') (hJu : ∀ H dx fs fs', J H → H x = some (.ins C dx fs) → J (upd H x (.ins C dx fs'))) : GI X (.Attribute o f pos) ss (fun H => SelfAt Hs x C l H ∧ J H) (fun H => SelfAt Hs x C (l ++ [(f, .d d)]) H ∧ J H) d := fun v σ H Q S i r q => by
  refine ⟨_, pg_fld pe_any, ho H σ H _ S fun z H2 e2 r2 => ?_⟩
  have i2 := i.1.mono e2
  have j2 := hJ _ _ e2 i.2
  obtain ⟨dx, fs, g1, g2, g3⟩ := id i2.at_
  have hf : fs.length = l.length := by
    have := congrArg List.length g2
    simpa using this
  refine ⟨x, C, dx, fs, isv r2, g1, c, nf, by omega, ?_⟩
  have tu : Tups H2 (upd H2 x (.ins C dx (putF f v fs))) := .upd fun xs e => by rw [g1] at e; cases e
  exact q _ (fun p xs h => tu p xs (e2 p _ h)) (sr_ins ((S.mono e2).rebase no) g1) ⟨i2.put g1 hl (Rep.mono e2 r), hJu _ _ _ _ j2 g1⟩
end
/-- the states that are being made: n spans, the bottom of m sides -/
structure Mst (C : Addr) (H0 : Hp) (x dx q : Addr) (y1 : V) (l : Sd) (n m : Nat) (H : Hp) : Prop where
  keep : ∀ a o, a ≠ x → a ≠ q → H0 a = some o → H a = some o
  ob : H x = some (.ins C dx [("sides", y1), ("spans", .ref q), ("bottom", .int (botN (l.take m) : Nat))])
  sp : H q = some (.lst ((l.take n).map fun y => .int (perN y.1.2.2 : Nat)))
theorem Mst.ex {C : Addr} {H0 H H' : Hp} {x dx q : Addr} {y1 : V} {l : Sd} {n m : Nat} (e : Ex H H') (h : Mst C H0 x dx q y1 l n m H) : Mst C H0 x dx q y1 l n m H' := ⟨fun a o n1 n2 z => e _ _ (h.keep a o n1 n2 z), e _ _ h.ob, e _ _ h.sp⟩
theorem Mst.tups {C : Addr} {H0 H : Hp} {x dx q : Addr} {y1 : V} {l : Sd} {n m : Nat} (h : Mst C H0 x dx q y1 l n m H) (n1 : ∀ xs, H0 x ≠ some (.tup xs)) (n2 : ∀ xs, H0 q ≠ some (.tup xs)) : Tups H0 H := fun a xs z => h.keep a _ (fun w => n1 xs (w ▸ z)) (fun w => n2 xs (w ▸ z)) z
section
variable {P : Program} {w : World} {K : PySem.W.Frag} {mg : Str → Option Value} {base : Heap}
theorem sideD_get {l : Sd} {i : Nat} {d : Dt} (h : (sideD l)[i]? = some d) : ∃ x, l[i]? = some x ∧ d = .tup [.r x.1.1, .i x.2] := getL_map h
theorem ok_States_init (T : Tx K mg) : OkF P w K mg base 6 (He.ma K (He.ga K "States") "__init__") ["self", "sides"] (spI (He.ga K "States") fun H ks Pr => ∃ s l, (l ≠ [] ∧ l.length ≤ 2 ∧ SdAll K s H l) ∧ ks = [.r (sideD l)] ∧ Pr = StAt K s l) := by
  refine ok_in (f_States_init T) sc_States_init (fun _ _ _ _ _ _ us hl => match us, hl with | [_, _], _ => rfl) (by decide) (fun H ks k ⟨_, _, _, h, _⟩ => by rw [h]; rfl) (fun cdv A outer s H E x dx ks Pr hr hx h => ?_)
  obtain ⟨st, l, ⟨hl, hl2, B⟩, rfl, rfl⟩ := h
  have conv : ∀ {I J Post : Hp → Prop} {X : Cx} {sts : List Stmt} {ss : List Sl}, (∀ H, I H → J H) → BI X sts ss J Post → BI X sts ss I Post := fun c k σ H D S i n => k σ H D S (c H i) n
  refine conv (J := SelfAt H x (He.ga K "States") []) (fun H' e => by subst e; exact ⟨.refl, dx, [], hx, rfl, rfl⟩) ?_
  refine bi_fld (k := .r (sideD l)) (fun H' i => ex_varL 1 (.inl rfl)) (fun H => ex_var 0) (c_States T) (no_States_sides T) rfl (by simp) ?_
  intro σ H1 D S i nx
  refine ⟨_, pss_cons (ps_asg (pe_tup (pa_cons pe_any (pa_cons pe_any pa_nil rfl) rfl)) (pg_tup (n := 2) rfl pgs_any rfl rfl) rfl rfl rfl) pb_any, ?_⟩
  refine (ex_lst (l := []) (H0 := H1) ea_nil) σ H1 _ S fun y H2 e2 r2 => ex_int σ H2 _ (S.mono e2) fun z H3 e3 r3 => ⟨by show 2 ≤ sizeLine; decide, fun tp htp => ?_⟩
  obtain ⟨q, rfl, hq1, vs, hq2, rv⟩ := r2
  rw [rv.inv0] at hq2
  rw [isv r3]
  have e4 : Ex H1 (upd H3 tp (.tup [.ref q, .int 1])) := (e2.trans e3).trans (Evl.Ex.new htp)
  have hq3 : (upd H3 tp (.tup [.ref q, .int 1])) q = some (.lst []) := (Evl.Ex.new htp) _ _ (e3 _ _ hq2)
  generalize hH4 : upd H3 tp (.tup [.ref q, .int 1]) = H4 at e4 hq3
  have ht4 : H4 tp = some (.tup [.ref q, .int 1]) := by rw [← hH4]; exact upd_same
  have i4 := i.mono e4
  refine ⟨tp, [.ref q, .int 1], rfl, SqT.of ht4, rfl, ?_⟩
  have S4 := (S.mono e4).rebase rfl
  have hxq : x ≠ q := fun z => by
    obtain ⟨d', fs', g1, _⟩ := i4.at_
    rw [z, hq3] at g1; cases g1
  have hqs : H q = none := by
    cases hh : H q with
    | none => rfl
    | some u =>
      have := i.keep q u (Ne.symm hxq) hh
      rw [hq1] at this; cases this
  let J : Hp → Prop := fun H => H q = some (.lst [])
  refine (gis_cons (gi_fldJ (J := J) (Hs := H) (l := [("sides", .r (sideD l))]) (d := .r q) (fun H => ex_var 0) (c_States T) (no_States_spans T) rfl (by simp) rfl (fun _ _ e j => e _ _ j) (fun _ _ _ _ j g => by show upd _ x _ q = _; rw [upd_ne (Ne.symm hxq)]; exact j))
    (gis_cons (gi_fldJ (J := J) (Hs := H) (d := .i 1) (fun H => ex_var 0) (c_States T) (no_States_bottom T) rfl (by simp) rfl (fun _ _ e j => e _ _ j) (fun _ _ _ _ j g => by show upd _ x _ q = _; rw [upd_ne (Ne.symm hxq)]; exact j)) gis_nil)) _ σ H4 _ S4 ⟨i4, hq3⟩ (.cons .of (.cons .of .nil)) fun H5 _ S5 ⟨i5, j5⟩ => ?_
  -- the loop
  obtain ⟨dx5, fs5, g1, g2, g3⟩ := id i5.at_
  obtain ⟨y1, y2, y3, rfl, a1, a2, a3⟩ : ∃ y1 y2 y3 : V, fs5 = [((("sides" : Str)), y1), (("spans" : Str), y2), (("bottom" : Str), y3)] ∧ Ag H5 (.r (sideD l)) y1 ∧ y2 = .ref q ∧ y3 = .int 1 := by
    match fs5, g2, g3 with
    | [(f1, y1), (f2, y2), (f3, y3)], g2, g3 =>
      obtain ⟨z1, r1, q1, b1, c1⟩ := g3
      obtain ⟨z2, r2, q2, b2, c2⟩ := c1
      obtain ⟨z3, r3, q3, b3, c3⟩ := c2
      cases q3
      cases q2
      cases q1
      have w1 : f1 = "sides" ∧ f2 = "spans" ∧ f3 = "bottom" := by
        injection g2 with u1 u2
        injection u2 with u2 u3
        injection u3 with u3 u4
        exact ⟨u1, u2, u3⟩
      obtain ⟨rfl, rfl, rfl⟩ := w1
      exact ⟨y1, y2, y3, rfl, b1, agv b2, agv b3⟩
  subst a2 a3
  obtain ⟨p1, rfl, hp1⟩ := a1
  obtain ⟨y0, ey0, p0, rfl, hp0⟩ := S5.get (i := 1) (s := .l (sideD l)) rfl (by intro z; cases z)
  have lne : ∀ {p}, lstAt H5 p (sideD l) → p ≠ x ∧ p ≠ q := fun {p} ⟨us, h1, h2⟩ => ⟨fun z => (by rw [z, g1] at h1; cases h1), fun z => (by
    rw [z, j5] at h1
    cases h1
    have := h2.length
    have : l.length = 0 := by simpa [sideD] using this.symm
    exact hl (List.length_eq_zero_iff.mp this))⟩
  have nx5 : ∀ xs, H5 x ≠ some (.tup xs) := fun xs e => by rw [g1] at e; cases e
  have nq5 : ∀ xs, H5 q ≠ some (.tup xs) := fun xs e => by rw [j5] at e; cases e
  -- books at H5
  have nxb : ∀ {a o v}, BookAt K o v H a → a ≠ x := fun {a o v} b z => by
    obtain ⟨_, d', fs', h1, h2, _⟩ := b
    rw [z, hx] at h1
    injection h1 with h1
    injection h1 with _ _ h3
    rw [← h3] at h2
    cases h2
  have bk5 : SdAll K st H5 l := fun y hy => ⟨book_keep (fun a xs h => i5.keep a _ (fun z => by rw [z, hx] at h; cases h) h) (fun u h => i5.keep _ u (nxb (B y hy).1) h) (B y hy).1, (B y hy).2⟩
  have nqb : ∀ {a o v}, BookAt K o v H5 a → a ≠ x ∧ a ≠ q := fun {a o v} b => by
    obtain ⟨_, d', fs', h1, h2, _⟩ := b
    refine ⟨fun z => ?_, fun z => by rw [z, j5] at h1; cases h1⟩
    rw [z, g1] at h1
    injection h1 with h1
    injection h1 with _ _ h3
    rw [← h3] at h2
    cases h2
  have M0 : Mst (He.ga K "States") H5 x dx5 q (.ref p1) l 0 0 H5 := ⟨fun _ _ _ _ h => h, g1, j5⟩
  have M0 : Mst (He.ga K "States") H5 x dx5 q (.ref p1) l 0 0 H5 := ⟨fun _ _ _ _ h => h, g1, j5⟩
  let Cx' := CxF P w K mg base N_States_init "States.__init__" s_States_init (He.ma K (He.ga K "States") "__init__") cdv A outer s H E
  let Sl5 : Sl → Sl → Sl → List Sl := fun u v w => [.d (.r x), .l (sideD l), u, v, w]
  let Pv : Nat → Nat → L2.St → Hp → Prop := fun n m σ' H' => ∃ u v w, Mst (He.ga K "States") H5 x dx5 q (.ref p1) l n m H' ∧ SR H' H' σ' (Sl5 u v w) ∧ u.isObj = false ∧ v.isObj = false ∧ w.isObj = false ∧ σ'[1]? = some (some (.ref p0))
  have hp0n := lne hp0
  have far : ∀ {u v w : Sl} {σ' : L2.St} {r : Addr}, r ≠ p0 → u.isObj = false → v.isObj = false → w.isObj = false → σ'[1]? = some (some (.ref p0)) → ∀ (j : Nat) (t : Sl), (Sl5 u v w)[j]? = some t → t.isObj = true → σ'[j]? ≠ some (some (.ref r)) := fun {u v w σ' r} hr hu hv hw h1 j t ej ot => by
    match j, ej with
    | 0, ej => cases ej; cases ot
    | 1, ej => rw [h1]; intro z; cases z; exact hr rfl
    | 2, ej => cases ej; rw [hu] at ot; cases ot
    | 3, ej => cases ej; rw [hv] at ot; cases ot
    | 4, ej => cases ej; rw [hw] at ot; cases ot
    | j + 5, ej => cases ej
  refine ⟨_, pss_one ps_any, rs_for (items := sideD l) false fun Q k => ⟨_, pe_var (i := 1) rfl (Or.inl rfl) (by decide) (by decide), _, ey0, k _ H5 ?_⟩⟩
  obtain ⟨us, hp0a, hp0b⟩ := hp0
  have t0 : Tups H5 (fun a => if a = x ∨ a = q then none else H5 a) := fun a xs h => by
    show (if a = x ∨ a = q then none else H5 a) = _
    rw [if_neg (fun z => by
      rcases z with rfl | rfl
      · exact nx5 _ h
      · exact nq5 _ h)]
    exact h
  refine ⟨fun i => Pv i i, fun a => if a = x ∨ a = q then none else H5 a, p0, rfl, ⟨us, ?_, hp0b.tup t0⟩, ?_, ⟨.no, .no, .no, M0, S5, rfl, rfl, rfl, ey0⟩, ?_, ?_⟩
  · show (if p0 = x ∨ p0 = q then none else H5 p0) = _
    rw [if_neg (fun z => z.elim hp0n.1 hp0n.2)]
    exact hp0a
  · rintro i σ' H' ⟨u, v, w, M, _⟩ a o h
    have h' : (if a = x ∨ a = q then none else H5 a) = some o := h
    split at h'
    · cases h'
    · rename_i hn
      exact M.keep a o (fun z => hn (.inl z)) (fun z => hn (.inr z)) h'
  · rintro i d σ' H' v hd ⟨u0, v0, w0, M, S', hu, hv, hw, e1⟩ rd
    obtain ⟨y, hy, rfl⟩ := sideD_get hd
    have hym := List.mem_of_getElem? hy
    have By := (bk5 y hym).1
    have na := nqb By
    refine (gx_tup2 2 3 (X := Cx') (H0 := H') sc_States_init.nd) v σ' H' _ S' rd fun σ2 l2 o2 S2 => ?_
    have e12 : σ2[1]? = some (some (.ref p0)) := by rw [o2 1 (by decide)]; exact e1
    have tM := M.tups nx5 nq5
    have By' : BookAt K y.1.2.1 y.1.2.2 H' y.1.1 := book_keep tM (fun u h => M.keep _ u na.1 na.2 h) By
    refine ⟨_, pss_cons ps_any pb_any, ?_⟩
    have O' : ObjAt H' x (He.ga K "States") [("sides", .d (.v (.ref p1))), ("spans", .d (.r q)), ("bottom", .d (.i (botN (l.take i) : Nat)))] := ⟨dx5, _, M.ob, rfl, ags_cons ag_ref (ags_cons ag_ref (ags_cons ag_ref ags_nil))⟩
    refine ⟨_, ps_expr (pe_bm PySem.F.plainAttrs_list PySem.F.slot_list_extend PySem.F.type_list_extend mt_extT pe_any (pa_cons pe_any pa_nil rfl) rfl rfl rfl rfl rfl), ?_⟩
    refine (ex_fldD (X := Cx') (H0 := H') (ss := Sl5 (.d (.r y.1.1)) (.d (.i y.2)) w0) (d := .r q) (ex_var 0) O' (c_States T) (no_States_spans T) rfl) σ2 H' _ S2 fun z H6 e6 r6 => ?_
    have M6 := M.ex e6
    rw [isv r6]
    refine ⟨.inl ⟨rfl, _, SqL.of M6.sp⟩, ?_⟩
    refine (ex_meth0 (X := Cx') (H0 := H') (ss := Sl5 (.d (.r y.1.1)) (.d (.i y.2)) w0) (ex_var 2) By'.2 (c_Book T) (m_Book_periods T) rfl (ok_Book_periods T) (hr.mono (by decide)) fun H e => ⟨y.1.1, y.1.2.1, y.1.2.2, By'.mono e, rfl, rfl⟩) σ2 H6 _ (S2.mono e6) fun z2 H7 e7 r7 => ?_
    have M7 := M6.ex e7
    obtain ⟨b, zs, rfl, hb, rb⟩ := rep_tupI (H := H7) r7
    have ez : zs = [V.int (perN y.1.2.2 : Nat)] := by
      obtain ⟨z1, z2, q1, q2, q3⟩ := rb.inv
      rw [q1, q2.flat, q3.inv0]
    subst ez
    refine ⟨q, b, _, _, rfl, rfl, M7.sp, SqT.of hb, ?_, ?_⟩
    · have : (l.take i).length ≤ l.length := by rw [List.length_take]; omega
      simp only [List.length_map, List.length_cons, List.length_nil, sizeLine_eq]
      omega
    have S7 : SR H7 H7 σ2 (Sl5 (.d (.r y.1.1)) (.d (.i y.2)) w0) := ((S2.mono e6).mono e7).rebase (by
      cases w0 <;> first | rfl | cases hw)
    have S8 := sr_upd0 (o := .lst ((l.take i).map (fun y => V.int (perN y.1.2.2 : Nat)) ++ [V.int (perN y.1.2.2 : Nat)])) S7 (fun xs e => by rw [M7.sp] at e; cases e) (far (Ne.symm hp0n.2) rfl rfl hw e12)
    have M8 : Mst (He.ga K "States") H5 x dx5 q (.ref p1) l (i + 1) i (upd H7 q (.lst ((l.take i).map (fun y => V.int (perN y.1.2.2 : Nat)) ++ [V.int (perN y.1.2.2 : Nat)]))) := by
      refine ⟨fun a o n1 n2 h => by rw [upd_ne n2]; exact M7.keep a o n1 n2 h, by rw [upd_ne hxq]; exact M7.ob, ?_⟩
      rw [upd_same, List.take_add_one, hy]
      simp
    generalize upd H7 q (.lst ((l.take i).map (fun y => V.int (perN y.1.2.2 : Nat)) ++ [V.int (perN y.1.2.2 : Nat)])) = H8 at S8 M8
    have By8 : BookAt K y.1.2.1 y.1.2.2 H8 y.1.1 := book_keep (M8.tups nx5 nq5) (fun u h => M8.keep _ u na.1 na.2 h) By
    refine ⟨_, pss_one ps_any, rs_for (items := [.s "part"]) true fun Q k => (ex_prop (X := Cx') (H0 := H8) (ss := Sl5 (.d (.r y.1.1)) (.d (.i y.2)) w0) (ex_var 2) By8.2 (c_Book T) (p_Book_names T) (ok_Book_names T) (hr.mono (by decide)) fun H e => ⟨y.1.1, y.1.2.1, y.1.2.2, By8.mono e, rfl, rfl⟩) σ2 H8 _ S8 fun z H9 e9 r9 => k z H9 ?_⟩
    obtain ⟨t, ts, rfl, ht, rt⟩ := rep_tupI (H := H9) r9
    have ets : ts = [V.str "part"] := by
      obtain ⟨z1, z2, q1, q2, q3⟩ := rt.inv
      rw [q1, q2.flat, q3.inv0]
    subst ets
    let P2 : Nat → L2.St → Hp → Prop := fun j σ' H' => (∃ w, Mst (He.ga K "States") H5 x dx5 q (.ref p1) l (i + 1) (i + j) H' ∧ SR H' H' σ' (Sl5 (.d (.r y.1.1)) (.d (.i y.2)) w) ∧ w.isObj = false ∧ σ'[1]? = some (some (.ref p0))) ∧ H' t = some (.tup [V.str "part"])
    refine ⟨P2, fun a => if a = t then some (.tup [V.str "part"]) else none, t, rfl, ⟨[V.str "part"], by show (if t = t then _ else _) = _; rw [if_pos rfl]; rfl, .cons .of .nil⟩, ?_, ⟨⟨w0, M8.ex e9, (S8.mono e9).rebase (by cases w0 <;> first | rfl | cases hw), hw, e12⟩, ht⟩, ?_, ?_⟩
    · rintro j σ' H' ⟨_, h⟩ a o ho
      have h' : (if a = t then some (HO.tup [V.str "part"]) else none) = some o := ho
      split at h'
      · rename_i z; rw [z, h]; exact h'
      · cases h'
    · rintro j d σ3 H' v hd ⟨⟨w1, M, S3, hw1, e13⟩, hT⟩ rd
      have hj : j = 0 := by
        cases j with
        | zero => rfl
        | succ j => simp at hd
      subst hj
      obtain rfl := one_get hd
      refine (gx_name 4 (X := Cx') (H0 := H') sc_States_init.nd) v σ3 H' _ S3 rd fun σ4 l4 o4 S4' => ?_
      have e14 : σ4[1]? = some (some (.ref p0)) := by rw [o4 1 (by decide)]; exact e13
      have By9 : BookAt K y.1.2.1 y.1.2.2 H' y.1.1 := book_keep (M.tups nx5 nq5) (fun u h => M.keep _ u na.1 na.2 h) By
      have O9 : ObjAt H' x (He.ga K "States") [("sides", .d (.v (.ref p1))), ("spans", .d (.r q)), ("bottom", .d (.i (botN (l.take (i + 0)) : Nat)))] := ⟨dx5, _, M.ob, rfl, ags_cons ag_ref (ags_cons ag_ref (ags_cons ag_ref ags_nil))⟩
      have lt : (l.take (i + 0)).length ≤ 2 := by rw [List.length_take]; omega
      have bb := botN_bd lt
      refine ⟨_, pss_one ps_any, ?_⟩
      refine ⟨_, ps_fld pe_any pe_any rfl, ?_⟩
      refine (ex_call (X := Cx') (H0 := H') (ss := Sl5 (.d (.r y.1.1)) (.d (.i y.2)) (.d (.s "part"))) (ok_common_multiple T) (hr.mono (by decide)) (g_common_multiple T) (ea_cons (ex_fldD (ex_var 0) O9 (c_States T) (no_States_bottom T) rfl) (ex_one1 (ex_t1 (ex_meth (ex_var 2) By9.2 (c_Book T) (m_Book_share T) rfl (ok_Book_share T) hr (ex_one1 (ex_var 4)) fun H e => ⟨y.1.1, y.1.2.1, y.1.2.2, By9.mono e, rfl, rfl⟩)))) fun H _ => ⟨botN (l.take (i + 0)), (rate y.1.2.2).2, bb.1, by omega, rfl, rfl⟩) σ4 H' _ S4' fun z H10 e10 r10 => ?_
      refine (ex_var 0 (X := Cx') (H0 := H') (ss := Sl5 (.d (.r y.1.1)) (.d (.i y.2)) (.d (.s "part"))) (d := .r x)) σ4 H10 _ (S4'.mono e10) fun z2 H11 e11 r11 => ?_
      have M11 := (M.ex e10).ex e11
      refine ⟨x, _, dx5, _, isv r11, M11.ob, c_States T, no_States_bottom T, by simp, ?_⟩
      have S11 := ((S4'.mono e10).mono e11).rebase rfl
      rw [isv r10]
      have hput : putF "bottom" (V.int ((botN (l.take (i + 0)) / Nat.gcd (botN (l.take (i + 0))) (rate y.1.2.2).2 * (rate y.1.2.2).2 : Nat))) [((("sides" : Str)), V.ref p1), (("spans" : Str), V.ref q), (("bottom" : Str), V.int (botN (l.take (i + 0)) : Nat))] = [((("sides" : Str)), V.ref p1), (("spans" : Str), V.ref q), (("bottom" : Str), V.int (botN (l.take (i + 1)) : Nat))] := by
        rw [botN_take hy]
        rfl
      refine ⟨⟨_, ⟨fun a o n1 n2 h => by rw [upd_ne n1]; exact M11.keep a o n1 n2 h, by rw [upd_same]; exact congrArg (fun z => some (HO.ins (He.ga K "States") dx5 z)) hput, by rw [upd_ne (Ne.symm hxq)]; exact M11.sp⟩, sr_ins S11 M11.ob, rfl, e14⟩, ?_⟩
      rw [upd_ne (fun z => by
        have := (Evl.Ex.trans e10 e11) _ _ hT
        rw [z, M11.ob] at this
        cases this)]
      exact (Evl.Ex.trans e10 e11) _ _ hT
    · rintro σ' H' ⟨⟨w1, M, S3, hw1, e13⟩, _⟩
      exact ⟨_, _, w1, M, S3, rfl, rfl, hw1, e13⟩
  · rintro σ' H' ⟨u, v, w, M, S', _⟩
    have ll : (sideD l).length = l.length := by simp [sideD]
    rw [ll] at M
    have tM := M.tups nx5 nq5
    refine nx _ _ ⟨fun a o n h => M.keep a o n (fun z => by rw [z, hqs] at h; cases h) (i5.keep a o n h), ⟨hl, hl2, fun y hy => ⟨book_keep tM (fun u h => M.keep _ u (nqb (bk5 y hy).1).1 (nqb (bk5 y hy).1).2 h) (bk5 y hy).1, (B y hy).2⟩⟩, ?_⟩
    have ob := M.ob
    have sp := M.sp
    rw [List.take_length] at ob sp
    obtain ⟨us1, w1, w2⟩ := hp1
    have n1 := lne ⟨us1, w1, w2⟩
    exact ⟨dx5, _, ob, rfl, ags_cons ⟨p1, rfl, us1, M.keep _ _ n1.1 n1.2 w1, w2.tup tM⟩ (ags_cons ⟨q, rfl, _, sp, RepL.ofFlat (fun y : (Addr × Option Stp × Option Stp) × Int => V.int (perN y.1.2.2 : Nat)) l⟩ (ags_cons ag_ref ags_nil))⟩
end
end K44
end

section
-- text V11
set_option Elab.async false
set_option linter.all false
set_option maxRecDepth 100000
set_option maxHeartbeats 4000000
namespace K44
open PySem PySem.Spec L2
open Evl (Ex)
section
variable {X : Cx} {H0 : Hp} {ss : List Sl} {pos p1 p2 tpos : Pos} {a b c e tg it elt : Expr} {elts : List Expr} {kk : Nat}
theorem ix_zip2le {t1 t2 : Bool} {l1 l2 : List Dt} (h : EAs X H0 ss [a, b] [(t1, l1), (t2, l2)]) (h2 : l1.length ≤ l2.length) (hm : X.mg "zip" = none) (hg : Gl X "zip" := by rfl)
    (hs : starEach [a, b] X.env = (false, eval a X.env) :: starEach [b] X.env := by rfl) (hpl : (backTo pos (starEach [b] X.env)).any (·.1) = false := by rfl) :
    IX X H0 (.Tuple elts kk tpos) (.Call (.Name "zip" p1) [a, b] [] pos) ss (zip2D l1 l2) := fun σ H R S q =>
  ⟨_, pi_2 hg hm pa_any hs hpl, h σ H _ S fun ps H1 e1 lp r => by
    obtain ⟨q1, q2, rfl⟩ : ∃ x y, ps = [x, y] := by
      match ps, lp with
      | [x, y], _ => exact ⟨x, y, rfl⟩
    obtain ⟨o1, s1⟩ := r 0 q1 _ rfl rfl
    obtain ⟨o2, s2⟩ := r 1 q2 _ rfl rfl
    have S1 := S.mono e1
    obtain ⟨v1, r1, g1⟩ := sq_b (K := X.K) S1 o1 s1
    obtain ⟨v2, r2, g2⟩ := sq_b (K := X.K) S1 o2 s2
    have m1 : v1.length = l1.length := r1.length
    have m2 : v2.length = l2.length := r2.length
    refine ⟨t1, t2, q1, q2, rfl, ⟨_, g1 _ baseOf_ex⟩, ⟨_, g2 _ baseOf_ex⟩, q _ H1 _ e1 S1.exB S1.base ⟨?_⟩⟩
    have ll : (zip2D l1 l2).length = l1.length := by simp [zip2D]; omega
    rw [ll]
    refine ⟨fun i H2 hi g => ?_, fun H2 g => ⟨v1, v2, g1 _ g, g2 _ g, m1.symm, by omega⟩, fun i H2 x H3 hi g y => ?_⟩
    · exact ⟨v1, v2, _, _, g1 _ g, g2 _ g, List.getElem?_eq_getElem (by omega), List.getElem?_eq_getElem (by omega)⟩
    · obtain ⟨T, x1, x2, rfl, hT, rfl, y1, y2⟩ := y
      obtain ⟨d1, a1, b1⟩ := r1.has (y1 _ (g1 _ g))
      obtain ⟨d2, a2, b2⟩ := r2.has (y2 _ (g2 _ g))
      have n := g.trans (Evl.Ex.new (o := .tup [x1, x2]) hT)
      exact ⟨Evl.Ex.new hT, _, zip2D_get a1 a2, rep_tup upd_same (.cons (b1.mono n) (.cons (b2.mono n) .nil))⟩⟩
end
theorem sum_take {α : Type} (f : α → Int) {l : List α} {i : Nat} {x : α} (h : l[i]? = some x) : ((l.take (i + 1)).map f).sum = ((l.take i).map f).sum + f x := by
  rw [List.take_add_one, h]
  simp
theorem map_take {α β : Type} (f : α → β) {l : List α} {i : Nat} {x : α} (h : l[i]? = some x) : (l.take (i + 1)).map f = (l.take i).map f ++ [f x] := by
  rw [List.take_add_one, h]
  simp
theorem ledI_abs (o : Option Stp) (v : Int) : (ledI o v).natAbs ≤ 60 * v.natAbs + 3 := by
  cases o with
  | none => show v.natAbs ≤ _; omega
  | some s =>
    have hb := s.hb
    have hu := s.hu
    have ha := s.ha
    have hbu : 0 < s.b * s.u := Nat.mul_pos hb.1 hu.1
    have h := rnd_abs (t := v * s.a) (b := (s.b : Int) * s.u) (w := s.w) (by rw [← Int.natCast_mul]; omega)
    show (rnd (v * s.a) ((s.b : Int) * s.u) s.w * s.u).natAbs ≤ _
    rw [Int.natAbs_mul, Int.natAbs_natCast]
    have h2 : (v * (s.a : Int)).natAbs = v.natAbs * s.a := by rw [Int.natAbs_mul, Int.natAbs_natCast]
    rw [h2] at h
    have h3 : v.natAbs * s.a ≤ v.natAbs * 20 := Nat.mul_le_mul (Nat.le_refl _) ha.2
    have h4 : (rnd (v * s.a) ((s.b : Int) * s.u) s.w).natAbs * s.u ≤ (v.natAbs * 20 + 1) * 3 := Nat.mul_le_mul (by omega) hu.2
    omega
/-! what the sides come to -/
abbrev Se := (Addr × Option Stp × Option Stp) × Int
def spans (l : Sd) : List Nat := l.map fun x => perN x.1.2.2
def moveI (l : Sd) (n : Int) : List Int := l.map fun x => ledI x.1.2.1 n
def shr (l : Sd) (x : Se) : Int := (rate x.1.2.2).1 * ((botN l / (rate x.1.2.2).2 : Nat) : Int)
def wOne (l : Sd) (n : Int) (x : Se) : Int := x.2 * ledI x.1.2.1 n * (rate x.1.2.2).1 * ((botN l / (rate x.1.2.2).2 : Nat) : Int)
def weightI (l : Sd) (n : Int) : Int := (l.map (wOne l n)).sum
def redI (ss : List Int) (sp : List Nat) : List Int := (ss.zip sp).map fun p => p.1 % (p.2 : Int)
def addI (st mv : List Int) (sp : List Nat) : List Int := (st.zip (mv.zip sp)).map fun p => (p.1 + p.2.1) % (p.2.2 : Int)
def gapI (l : Sd) (ss : List Int) : Int := ((l.zip ss).map fun p => p.1.2 * ledI p.1.1.2.2 p.2).sum
def baseI (l : Sd) (ss : List Int) : Int := gapI l ss * (botN l : Nat) - ((l.zip ss).map fun p => p.1.2 * shr l p.1 * p.2).sum
abbrev tupI (ns : List Int) : Dt := .tup (intsD ns)
theorem intsD_get {ns : List Int} {i : Nat} {d : Dt} (h : (intsD ns)[i]? = some d) : ∃ n, ns[i]? = some n ∧ d = .v (.int n) := getL_map h
theorem intsD_snoc (ns : List Int) (n : Int) : intsD (ns ++ [n]) = intsD ns ++ [.v (.int n)] := by simp [intsD]
theorem intsD_len (ns : List Int) : (intsD ns).length = ns.length := by simp [intsD]
theorem intsD_cut (ns : List Int) (u v : Option Int) : cutD (intsD ns) u v = intsD (cutD ns u v) := by
  unfold cutD intsD
  rw [List.length_map, List.map_take, List.map_drop]
theorem cut_one {α : Type} {l : List α} {i : Nat} {x : α} (h : l[i]? = some x) : cutD l (some (i : Int)) (some ((i : Int) + 1)) = [x] := by
  have hl := (List.getElem?_eq_some_iff.mp h).1
  unfold cutD
  rw [HT.sIx_nat, show ((i : Int) + 1) = ((i + 1 : Nat) : Int) by omega, HT.sIx_nat, Nat.min_eq_left (by omega), Nat.min_eq_left (by omega)]
  rw [show i + 1 - i = 1 by omega, List.drop_eq_getElem_cons hl]
  have : l[i] = x := by
    have := List.getElem?_eq_getElem hl
    rw [h] at this
    exact (Option.some.inj this).symm
  rw [this]
  rfl
theorem cut_from {α : Type} {l : List α} {i : Nat} (h : i ≤ l.length) : cutD l (some (i : Int)) none = l.drop i := by
  unfold cutD
  rw [HT.sIx_nat, HT.sIx_none, Nat.min_eq_left h, ← List.length_drop, List.take_length]
section
variable {P : Program} {w : World} {K : PySem.W.Frag} {mg : Str → Option Value} {base : Heap}
theorem ok_States_empty (T : Tx K mg) : OkF P w K mg base 1 (He.ma K (He.ga K "States") "empty") ["self"] (spC fun H ks k => ∃ s l a, StAt K s l H a ∧ ks = [.d (.r a)] ∧ k = .d (tupI (List.replicate l.length 0))) := by
  refine ok_fr (f_States_empty T) sc_States_empty (fun _ _ _ _ _ _ us hl => match us, hl with | [_], _ => rfl) (by decide) (fun H ks k ⟨_, _, _, _, h, _⟩ => by rw [h]; rfl) (fun cdv A outer s H E ks k hr h => ?_)
  obtain ⟨st, l, a, ⟨⟨h1, h2, B⟩, O⟩, rfl, rfl⟩ := h
  have hp : 1 ≤ l.length := List.length_pos_iff.mpr h1
  refine bx_one (sx_ret (ex_to (ex_repT (l := [.i 0]) (k := l.length) (ex_tup (l := [.i 0]) (ex_one1 ex_int)) (ex_to (ex_len (l := spanD l) (ex_fld (ex_var 0) O (c_States T) (no_States_spans T) rfl) (.inr (.inl rfl)) (n_len T)) (by simp [spanD])) (by simp) ⟨hp, by omega⟩ (by simp)) ?_) rfl)
  congr 2
  have : ∀ n : Nat, (List.replicate n [(.i 0 : Dt)]).flatten = intsD (List.replicate n 0) := by
    intro n
    induction n with
    | zero => rfl
    | succ n ih => rw [List.replicate_succ, List.flatten_cons, ih]; rfl
  exact this _
theorem ok_States_move (T : Tx K mg) : OkF P w K mg base 6 (He.ma K (He.ga K "States") "move") ["self", "name", "amount"] (spC fun H ks k => ∃ s l a, ∃ n : Nat, StAt K s l H a ∧ n < 1000000 ∧ ks = [.d (.r a), .d (.s "part"), .d (.i n)] ∧ k = .d (tupI (moveI l n))) := by
  refine ok_fr (f_States_move T) sc_States_move (fun _ _ _ _ _ _ us hl => match us, hl with | [_, _, _], _ => rfl) (by decide) (fun H ks k ⟨_, _, _, _, _, _, h, _⟩ => by rw [h]; rfl) (fun cdv A outer s H E ks k hr h => ?_)
  obtain ⟨st, l, a, n, ⟨⟨h1, h2, B⟩, O⟩, hn, rfl, rfl⟩ := h
  refine bx_step (sx_set 3 (k := .nl (intsD [])) (ex_lst (l := []) ea_nil) sc_States_move.nd) ?_
  refine bx_cons (Mid := fun z => z[3]? = some (.own (intsD (moveI l n)))) (sx_mono (sx_for (items := sideD l) (I := fun i z => ∃ u v, z = [.d (.r a), .d (.s "part"), .d (.i n), .own (intsD (moveI (l.take i) n)), u, v]) (ix_seq (es_fld (ex_var 0) O (c_States T) (no_States_sides T) rfl)) ⟨.no, .no, rfl⟩ (fun i d Hb s1 hd e hI => ?_)) ?_) fun s1 q1 => bx_one (sx_ret (ex_tupL (l := intsD (moveI l n)) (ex_varL 3 (.inr q1)) (.inl rfl) (n_tuple T)) rfl)
  · obtain ⟨u, v, rfl⟩ := hI
    obtain ⟨x, hx, rfl⟩ := sideD_get hd
    have Bx := (B x (List.mem_of_getElem? hx)).1
    have hi := (List.getElem?_eq_some_iff.mp hx).1
    refine ⟨_, _, gx_tup2 4 5 sc_States_move.nd, bx_one (sx_mono (sx_extT 3 (xs := intsD (moveI (l.take i) n)) (ys := [.i (ledI x.1.2.1 n)]) rfl (ex_meth (ex_var 4) (Bx.mono e).2 (c_Book T) (m_Book_sums T) rfl (ok_Book_sums T) hr (ex_one1 (ex_tup (l := [lineD n]) (ex_one1 (ex_tup (l := [.s "part", .i n]) (ea_cons (ex_var 1) (ex_one1 (ex_var 2))))))) fun H e' => ⟨x.1.1, x.1.2.1, x.1.2.2, n, (Bx.mono e).mono e', hn, rfl, rfl⟩) ?_) ?_)⟩
    · rw [intsD_len]
      simp only [moveI, List.length_map, List.length_take, List.length_cons, List.length_nil]
      omega
    · rintro _ rfl
      rw [show moveI (l.take (i + 1)) n = moveI (l.take i) n ++ [ledI x.1.2.1 n] from map_take _ hx, intsD_snoc]
      exact ⟨_, _, rfl⟩
  · rintro z ⟨u, v, rfl⟩
    rw [show (sideD l).length = l.length by simp [sideD], List.take_length]
    rfl
theorem shr_bd {l : Sd} {x : Se} (h : l.length ≤ 2) : ((botN l / (rate x.1.2.2).2 : Nat)) ≤ 400 := Nat.le_trans (Nat.div_le_self _ _) (botN_bd h).2
theorem ok_States_weight (T : Tx K mg) : OkF P w K mg base 6 (He.ma K (He.ga K "States") "weight") ["self", "name", "amount"] (spC fun H ks k => ∃ s l a, ∃ n : Nat, StAt K s l H a ∧ n < 1000000 ∧ ks = [.d (.r a), .d (.s "part"), .d (.i n)] ∧ k = .d (.i (weightI l n))) := by
  refine ok_fr (f_States_weight T) sc_States_weight (fun _ _ _ _ _ _ us hl => match us, hl with | [_, _, _], _ => rfl) (by decide) (fun H ks k ⟨_, _, _, _, _, _, h, _⟩ => by rw [h]; rfl) (fun cdv A outer s H E ks k hr h => ?_)
  obtain ⟨st, l, a, n, ⟨⟨h1, h2, B⟩, O⟩, hn, rfl, rfl⟩ := h
  refine bx_step (sx_set 3 ex_int sc_States_weight.nd) ?_
  refine bx_cons (Mid := fun z => z[3]? = some (.d (.i (weightI l n)))) (sx_mono (sx_for (items := sideD l) (I := fun i z => ∃ u v y, z = [.d (.r a), .d (.s "part"), .d (.i n), .d (.i ((l.take i).map (wOne l n)).sum), u, v, y]) (ix_seq (es_fld (ex_var 0) O (c_States T) (no_States_sides T) rfl)) ⟨.no, .no, .no, rfl⟩ (fun i d Hb s1 hd e hI => ?_)) ?_) fun s1 q1 => bx_one (sx_ret (ex_var 3 q1) rfl)
  · obtain ⟨u, v, y, rfl⟩ := hI
    obtain ⟨x, hx, rfl⟩ := sideD_get hd
    have Bx := (B x (List.mem_of_getElem? hx)).1
    have la := ledI_abs x.1.2.1 n
    have rb := rate_bd x.1.2.2
    have sb := shr_bd (x := x) h2
    have sb0 : (0 : Int) ≤ ((botN l / (rate x.1.2.2).2 : Nat) : Int) := Int.natCast_nonneg _
    refine ⟨_, _, gx_tup2 4 5 sc_States_weight.nd, ?_⟩
    refine bx_step (sx_set 6 (ex_meth (ex_var 4) (Bx.mono e).2 (c_Book T) (m_Book_share T) rfl (ok_Book_share T) hr (ex_one1 (ex_var 1)) fun H e' => ⟨x.1.1, x.1.2.1, x.1.2.2, (Bx.mono e).mono e', rfl, rfl⟩) sc_States_weight.nd) ?_
    refine bx_one (sx_mono (sx_augA 3 (n := wOne l n x) (ex_mul (j := ((botN l / (rate x.1.2.2).2 : Nat) : Int)) (ex_mul (ex_mul (ex_var 5) (ex_meth (ex_var 4) (Bx.mono e).2 (c_Book T) (m_Book_value T) rfl (ok_Book_value T) (hr.mono (by decide)) (ea_cons (ex_var 1) (ex_one1 (ex_var 2))) fun H e' => ⟨x.1.1, x.1.2.1, x.1.2.2, n, (Bx.mono e).mono e', hn, rfl, rfl⟩) (.inr ⟨by omega, by omega⟩)) (ex_t0 (ex_var 6)) (.inr ⟨by omega, by omega⟩)) (ex_to (ex_fdiv (ex_fldD (ex_var 0) (O.mono e) (c_States T) (no_States_bottom T) rfl) (ex_t1 (ex_var 6)) ⟨by omega, by omega⟩) (by rw [← Int.natCast_ediv])) (.inr ⟨by omega, by omega⟩)) rfl sc_States_weight.nd) ?_)
    rintro _ rfl
    rw [sum_take _ hx]
    exact ⟨_, _, _, rfl⟩
  · rintro z ⟨u, v, y, rfl⟩
    rw [show (sideD l).length = l.length by simp [sideD], List.take_length]
    rfl
theorem redI_get {ss : List Int} {sp : List Nat} {i : Nat} {a : Int} {b : Nat} (h1 : ss[i]? = some a) (h2 : sp[i]? = some b) : (redI ss sp)[i]? = some (a % (b : Int)) := by
  unfold redI
  have e : (ss.zip sp)[i]? = some (a, b) := List.getElem?_zip_eq_some.mpr ⟨h1, h2⟩
  rw [List.getElem?_map, e]
  rfl
theorem spanD_get {l : Sd} {i : Nat} {d : Dt} (h : (spanD l)[i]? = some d) : ∃ x, l[i]? = some x ∧ d = .v (.int (perN x.1.2.2 : Nat)) := getL_map h
theorem ok_States_reduced (T : Tx K mg) : OkF P w K mg base 1 (He.ma K (He.ga K "States") "reduced") ["self", "sums"] (spC fun H ks k => ∃ s l a, ∃ ns : List Int, StAt K s l H a ∧ ns.length = l.length ∧ ks = [.d (.r a), .d (tupI ns)] ∧ k = .d (tupI (redI ns (spans l)))) := by
  refine ok_fr (f_States_reduced T) sc_States_reduced (fun _ _ _ _ _ _ us hl => match us, hl with | [_, _], _ => rfl) (by decide) (fun H ks k ⟨_, _, _, _, _, _, h, _⟩ => by rw [h]; rfl) (fun cdv A outer s H E ks k hr h => ?_)
  obtain ⟨st, l, a, ns, ⟨⟨h1, h2, B⟩, O⟩, hn, rfl, rfl⟩ := h
  have hs : (spanD l).length = l.length := by simp [spanD]
  refine bx_one (sx_ret (ex_to (ex_tupL (ex_lcB [("number", 2), ("span", 3)] (fun i => .i ((redI ns (spans l)).getD i 0)) sc_States_reduced.nd (ix_zip2 (l1 := intsD ns) (l2 := spanD l) (eas_cons (es_tup (ex_var 1)) (eas_cons (es_fld (ex_var 0) O (c_States T) (no_States_spans T) rfl) eas_nil)) (by rw [hs, intsD_len, hn]) (n_zip T)) ?_ fun i d Hb q e => ?_) (.inr rfl) (n_tuple T)) ?_) rfl)
  · rw [zip2D_len (by rw [hs, intsD_len, hn]), intsD_len]
    omega
  · have hi : i < ns.length := by
      have := (List.getElem?_eq_some_iff.mp q).1
      rw [zip2D_len (by rw [hs, intsD_len, hn]), intsD_len] at this
      exact this
    have g1 : (intsD ns)[i]? = some (.v (.int ns[i])) := by simp [intsD, hi]
    have g2 : (spanD l)[i]? = some (.v (.int (perN (l[i]'(by omega)).1.2.2 : Nat))) := by simp [spanD, show i < l.length by omega]
    rw [zip2D_get g1 g2] at q
    obtain rfl := Option.some.inj q
    have pp := perN_pos (l[i]'(by omega)).1.2.2
    refine ⟨[2, 3], _, by simp, fun s H C cl fp => gx_tup2 2 3 sc_States_reduced.nd, fun s H C cl fp => ex_to (ex_mod (ex_var 2) (ex_var 3) (by omega)) ?_⟩
    have g3 := redI_get (ss := ns) (sp := spans l) (i := i) (List.getElem?_eq_getElem hi) (show (spans l)[i]? = some (perN (l[i]'(by omega)).1.2.2) by simp [spans, show i < l.length by omega])
    rw [List.getD_eq_getElem?_getD, g3]
    rfl
  · congr 2
    rw [zip2D_len (by rw [hs, intsD_len, hn]), intsD_len]
    have hz : (redI ns (spans l)).length = ns.length := by simp [redI, spans, hn]
    unfold intsD
    rw [← hz]
    refine List.ext_getElem? fun j => ?_
    by_cases hj : j < (redI ns (spans l)).length
    · simp [hj]
    · rw [List.getElem?_eq_none (by simp; omega), List.getElem?_eq_none (by simp; omega)]
end
end K44
end

section
-- text V12
set_option Elab.async false
set_option linter.all false
set_option maxRecDepth 100000
set_option maxHeartbeats 4000000
namespace K44
open PySem PySem.Spec L2
open Evl (Ex)
theorem SR.unown {H0 H : Hp} {σ : L2.St} {ss : List Sl} {j : Nat} {xs : List Dt} (S : SR H0 H σ ss) (h : ss[j]? = some (.own xs)) : SR H0 H σ (ss.set j (.l xs)) := by
  have hl : j < ss.length := (List.getElem?_eq_some_iff.mp h).1
  refine ⟨S.ex, by simp [S.len], fun i s q => ?_, fun i k s t p hik qi qk hs ht ei ek => ?_⟩
  · by_cases e : i = j
    · subst e
      rw [List.getElem?_set_self hl] at q
      cases q
      obtain ⟨y, ey, p, er, _, b⟩ := S.get h (by intro z; cases z)
      exact .inr ⟨y, ey, p, er, b⟩
    · rw [List.getElem?_set_ne (Ne.symm e)] at q
      exact S.at_ i s q
  · have cls : ∀ {i : Nat} {t : Sl}, (ss.set j (.l xs))[i]? = some t → ∃ u, ss[i]? = some u ∧ (t.isOwn = true → u.isOwn = true) ∧ (t.isObj = true → u.isObj = true) := fun {i t} q => by
      by_cases e : i = j
      · subst e
        rw [List.getElem?_set_self hl] at q
        cases q
        exact ⟨_, h, (fun z => nomatch z), fun _ => rfl⟩
      · rw [List.getElem?_set_ne (Ne.symm e)] at q
        exact ⟨t, q, id, id⟩
    obtain ⟨s1, q1, o1, _⟩ := cls qi
    obtain ⟨t1, q2, _, o2⟩ := cls qk
    exact S.sep i k s1 t1 p hik q1 q2 (o1 hs) (o2 ht) ei ek
theorem bx_unown {X : Cx} {H0 : Hp} {ss : List Sl} {sts : List Stmt} {Nx : List Sl → Prop} {Rt : Kd → Prop} (j : Nat) {xs : List Dt} (h : ss[j]? = some (.own xs)) (k : BX X H0 sts (ss.set j (.l xs)) Nx Rt) : BX X H0 sts ss Nx Rt := fun σ H D S n r =>
  k σ H D (S.unown h) n r
theorem ix_to {X : Cx} {H0 : Hp} {ss : List Sl} {tg it : Expr} {a b : List Dt} (h : IX X H0 tg it ss a) (e : a = b) : IX X H0 tg it ss b := e ▸ h
theorem getD_ints {ns : List Int} {N : Nat} (h : N = ns.length) : ((List.range N).map fun i => (Dt.i (ns.getD i 0))) = intsD ns := by
  subst h
  unfold intsD
  refine List.ext_getElem? fun j => ?_
  by_cases hj : j < ns.length
  · simp [hj]
  · rw [List.getElem?_eq_none (by simp; omega), List.getElem?_eq_none (by simp; omega)]
theorem addI_get {st mv : List Int} {sp : List Nat} {i : Nat} {a b : Int} {c : Nat} (h1 : st[i]? = some a) (h2 : mv[i]? = some b) (h3 : sp[i]? = some c) : (addI st mv sp)[i]? = some ((a + b) % (c : Int)) := by
  unfold addI
  have e2 : (mv.zip sp)[i]? = some (b, c) := List.getElem?_zip_eq_some.mpr ⟨h2, h3⟩
  have e1 : (st.zip (mv.zip sp))[i]? = some (a, (b, c)) := List.getElem?_zip_eq_some.mpr ⟨h1, e2⟩
  rw [List.getElem?_map, e1]
  rfl
section
variable {P : Program} {w : World} {K : PySem.W.Frag} {mg : Str → Option Value} {base : Heap}
theorem ok_States_added (T : Tx K mg) : OkF P w K mg base 1 (He.ma K (He.ga K "States") "added") ["self", "state", "move"] (spC fun H ks k => ∃ s l a, ∃ ns ms : List Int, StAt K s l H a ∧ ns.length = l.length ∧ ms.length = l.length ∧ ks = [.d (.r a), .d (tupI ns), .d (tupI ms)] ∧ k = .d (tupI (addI ns ms (spans l)))) := by
  refine ok_fr (f_States_added T) sc_States_added (fun _ _ _ _ _ _ us hl => match us, hl with | [_, _, _], _ => rfl) (by decide) (fun H ks k ⟨_, _, _, _, _, _, _, _, h, _⟩ => by rw [h]; rfl) (fun cdv A outer s H E ks k hr h => ?_)
  obtain ⟨st, l, a, ns, ms, ⟨⟨h1, h2, B⟩, O⟩, hn, hm, rfl, rfl⟩ := h
  have hs : (spanD l).length = (intsD ns).length := by rw [intsD_len, hn]; simp [spanD]
  have hs2 : (intsD ms).length = (intsD ns).length := by rw [intsD_len, intsD_len, hn, hm]
  refine bx_one (sx_ret (ex_to (ex_tupL (ex_lcB [("here", 3), ("more", 4), ("span", 5)] (fun i => .i ((addI ns ms (spans l)).getD i 0)) sc_States_added.nd (ix_zip3 (l1 := intsD ns) (l2 := intsD ms) (l3 := spanD l) (eas_cons (es_tup (ex_var 1)) (eas_cons (es_tup (ex_var 2)) (eas_cons (es_fld (ex_var 0) O (c_States T) (no_States_spans T) rfl) eas_nil))) hs2 hs (n_zip T)) ?_ fun i d Hb q e => ?_) (.inr rfl) (n_tuple T)) ?_) rfl)
  · rw [zip3D_len hs2 hs, intsD_len]
    omega
  · have hi : i < ns.length := by
      have := (List.getElem?_eq_some_iff.mp q).1
      rw [zip3D_len hs2 hs, intsD_len] at this
      exact this
    have g1 : (intsD ns)[i]? = some (.v (.int ns[i])) := by simp [intsD, hi]
    have g2 : (intsD ms)[i]? = some (.v (.int (ms[i]'(by omega)))) := by simp [intsD, show i < ms.length by omega]
    have g3 : (spanD l)[i]? = some (.v (.int (perN (l[i]'(by omega)).1.2.2 : Nat))) := by simp [spanD, show i < l.length by omega]
    rw [zip3D_get g1 g2 g3] at q
    obtain rfl := Option.some.inj q
    have pp := perN_pos (l[i]'(by omega)).1.2.2
    refine ⟨[3, 4, 5], _, by simp, fun s H C cl fp => gx_tup3 3 4 5 sc_States_added.nd, fun s H C cl fp => ex_to (ex_mod (ex_add (ex_var 3) (ex_var 4)) (ex_var 5) (by omega)) ?_⟩
    have g4 := addI_get (st := ns) (mv := ms) (sp := spans l) (i := i) (List.getElem?_eq_getElem hi) (List.getElem?_eq_getElem (by omega)) (show (spans l)[i]? = some (perN (l[i]'(by omega)).1.2.2) by simp [spans, show i < l.length by omega])
    rw [List.getD_eq_getElem?_getD, g4]
    rfl
  · rw [zip3D_len hs2 hs, intsD_len, getD_ints (ns := addI ns ms (spans l)) (by simp [addI, spans, hn, hm])]
def gOne (p : Se × Int) : Int := p.1.2 * ledI p.1.1.2.2 p.2
theorem ok_States_gap (T : Tx K mg) : OkF P w K mg base 4 (He.ma K (He.ga K "States") "gap") ["self", "sums"] (spC fun H ks k => ∃ s l a, ∃ ns : List Int, StAt K s l H a ∧ ns.length = l.length ∧ (∀ n ∈ ns, n.natAbs < 1000000000) ∧ ks = [.d (.r a), .d (tupI ns)] ∧ k = .d (.i (gapI l ns))) := by
  refine ok_fr (f_States_gap T) sc_States_gap (fun _ _ _ _ _ _ us hl => match us, hl with | [_, _], _ => rfl) (by decide) (fun H ks k ⟨_, _, _, _, _, _, _, h, _⟩ => by rw [h]; rfl) (fun cdv A outer s H E ks k hr h => ?_)
  obtain ⟨st, l, a, ns, ⟨⟨h1, h2, B⟩, O⟩, hn, hb, rfl, rfl⟩ := h
  refine bx_step (sx_asg (ex_tup (l := [.i 0, .i 0]) (ea_cons ex_int (ex_one1 ex_int))) (gx_tup2 2 3 sc_States_gap.nd)) ?_
  refine bx_cons (Mid := fun z => z[2]? = some (.d (.i (gapI l ns)))) (sx_mono (sx_for (items := sideD l) (I := fun i z => ∃ u v y, z = [.d (.r a), .d (tupI ns), .d (.i (((l.zip ns).take i).map gOne).sum), .d (.i (i : Nat)), u, v, y]) (ix_seq (es_fld (ex_var 0) O (c_States T) (no_States_sides T) rfl)) ⟨.no, .no, .no, rfl⟩ (fun i d Hb s1 hd e hI => ?_)) ?_) fun s1 q1 => bx_one (sx_ret (ex_var 2 q1) rfl)
  · obtain ⟨u, v, y, rfl⟩ := hI
    obtain ⟨x, hx, rfl⟩ := sideD_get hd
    have Bx := (B x (List.mem_of_getElem? hx)).1
    have hi := (List.getElem?_eq_some_iff.mp hx).1
    have hni : ns[i]? = some (ns[i]'(by omega)) := List.getElem?_eq_getElem (by omega)
    have hz : (l.zip ns)[i]? = some (x, ns[i]'(by omega)) := List.getElem?_zip_eq_some.mpr ⟨hx, hni⟩
    have bn := hb _ (List.mem_of_getElem? hni)
    have la := ledI_abs x.1.2.2 (ns[i]'(by omega))
    refine ⟨_, _, gx_tup2 4 5 sc_States_gap.nd, ?_⟩
    refine bx_step (sx_set 6 (k := .d (.i 1)) (ex_len (l := [.tup []]) (ex_prop (ex_var 4) (Bx.mono e).2 (c_Book T) (p_Book_groups T) (ok_Book_groups T) (hr.mono (by decide)) fun H e' => ⟨x.1.1, x.1.2.1, x.1.2.2, (Bx.mono e).mono e', rfl, rfl⟩) (.inl rfl) (n_len T)) sc_States_gap.nd) ?_
    refine bx_step (sx_augA 2 (n := gOne (x, ns[i]'(by omega))) (ex_mul (j := ledI x.1.2.2 (ns[i]'(by omega))) (ex_var 5) (ex_meth (ex_var 4) (Bx.mono e).2 (c_Book T) (m_Book_ask_of_sums T) rfl (ok_Book_ask_of_sums T) hr (ex_one1 (ex_to (ex_slT (ex_var 1) (eo_some (ex_var 3)) (eo_some (ex_add (ex_var 3) (ex_var 6)))) (by rw [intsD_cut, cut_one hni]))) fun H e' => ⟨x.1.1, x.1.2.1, x.1.2.2, ns[i]'(by omega), (Bx.mono e).mono e', bn, rfl, rfl⟩) (.inr ⟨by omega, by omega⟩)) rfl sc_States_gap.nd) ?_
    refine bx_one (sx_mono (sx_set 3 (k := .d (.i ((i + 1 : Nat) : Int))) (ex_to (ex_add (ex_var 3) (ex_var 6)) (by congr 3)) sc_States_gap.nd) ?_)
    rintro _ rfl
    rw [sum_take _ hz]
    exact ⟨_, _, _, rfl⟩
  · rintro z ⟨u, v, y, rfl⟩
    have ll : (sideD l).length = (l.zip ns).length := by simp [sideD, hn]
    rw [ll, List.take_length]
    rfl
theorem ok_States_share_of_group (T : Tx K mg) : OkF P w K mg base 6 (He.ma K (He.ga K "States") "share_of_group") ["self", "book", "group"] (spC fun H ks k => ∃ s l a x, StAt K s l H a ∧ x ∈ l ∧ ks = [.d (.r a), .d (.r x.1.1), .d (.i 0)] ∧ k = .d (.i (shr l x))) := by
  refine ok_fr (f_States_share_of_group T) sc_States_share_of_group (fun _ _ _ _ _ _ us hl => match us, hl with | [_, _, _], _ => rfl) (by decide) (fun H ks k ⟨_, _, _, _, _, _, h, _⟩ => by rw [h]; rfl) (fun cdv A outer s H E ks k hr h => ?_)
  obtain ⟨st, l, a, x, ⟨⟨h1, h2, B⟩, O⟩, hx, rfl, rfl⟩ := h
  have Bx := (B x hx).1
  have rb := rate_bd x.1.2.2
  have sb := shr_bd (x := x) h2
  have sb0 : (0 : Int) ≤ ((botN l / (rate x.1.2.2).2 : Nat) : Int) := Int.natCast_nonneg _
  refine bx_cons (Mid := fun _ => False) (sx_for1 (d := kindD x.1.2.1) (ix_seq (l := [kindD x.1.2.1]) (es_tup (ex_prop (ex_var 1) Bx.2 (c_Book T) (p_Book_kinds T) (ok_Book_kinds T) (hr.mono (by decide)) fun H e => ⟨x.1.1, x.1.2.1, x.1.2.2, Bx.mono e, rfl, rfl⟩))) fun Hb e => ⟨_, _, gx_tup3 3 4 5 sc_States_share_of_group.nd, ?_⟩) fun _ z => z.elim
  refine bx_one (sx_yes (et_to (et_eq (ex_var 4) (ex_var 2)) (by decide)) ?_)
  refine bx_step (sx_set 6 (ex_meth (ex_var 1) (Bx.mono e).2 (c_Book T) (m_Book_share T) rfl (ok_Book_share T) hr (ex_one1 (ex_var 3)) fun H e' => ⟨x.1.1, x.1.2.1, x.1.2.2, (Bx.mono e).mono e', rfl, rfl⟩) sc_States_share_of_group.nd) ?_
  exact bx_one (sx_ret (ex_mul (j := ((botN l / (rate x.1.2.2).2 : Nat) : Int)) (ex_t0 (ex_var 6)) (ex_to (ex_fdiv (ex_fldD (ex_var 0) (O.mono e) (c_States T) (no_States_bottom T) rfl) (ex_t1 (ex_var 6)) ⟨by omega, by omega⟩) (by rw [← Int.natCast_ediv])) (.inr ⟨by omega, by omega⟩)) rfl)
def bOne (l : Sd) (p : Se × Int) : Int := p.1.2 * shr l p.1 * p.2
theorem shr_abs {l : Sd} {x : Se} (h : l.length ≤ 2) : (shr l x).natAbs ≤ 8000 := by
  unfold shr
  rw [Int.natAbs_mul, Int.natAbs_natCast]
  exact Nat.mul_le_mul (rate_bd x.1.2.2).1 (shr_bd h)
theorem ok_States_base (T : Tx K mg) : OkF P w K mg base 7 (He.ma K (He.ga K "States") "base") ["self", "state"] (spC fun H ks k => ∃ s l a, ∃ ns : List Int, StAt K s l H a ∧ ns.length = l.length ∧ (∀ n ∈ ns, n.natAbs < 1000000000) ∧ ks = [.d (.r a), .d (tupI ns)] ∧ k = .d (.i (baseI l ns))) := by
  refine ok_fr (f_States_base T) sc_States_base (fun _ _ _ _ _ _ us hl => match us, hl with | [_, _], _ => rfl) (by decide) (fun H ks k ⟨_, _, _, _, _, _, _, h, _⟩ => by rw [h]; rfl) (fun cdv A outer s H E ks k hr h => ?_)
  obtain ⟨st, l, a, ns, SA, hn, hb, rfl, rfl⟩ := h
  obtain ⟨⟨h1, h2, B⟩, O⟩ := id SA
  have bb := botN_bd h2
  refine bx_step (sx_par 2 3 (ex_mul (ex_meth (ex_var 0) O (c_States T) (m_States_gap T) rfl (ok_States_gap T) (hr.mono (by decide)) (ex_one1 (ex_var 1)) fun H e => ⟨st, l, a, ns, SA.mono e, hn, hb, rfl, rfl⟩) (ex_fldD (ex_var 0) O (c_States T) (no_States_bottom T) rfl) (.inr ⟨by omega, by omega⟩)) ex_int rfl sc_States_base.nd rfl) ?_
  refine bx_cons (Mid := fun z => z[2]? = some (.d (.i (baseI l ns)))) (sx_mono (sx_for (items := sideD l) (I := fun i z => ∃ u v y t q r, z = [.d (.r a), .d (tupI ns), .d (.i (gapI l ns * (botN l : Nat) - (((l.zip ns).take i).map (bOne l)).sum)), .d (.i (i : Nat)), u, v, y, t, q, r]) (ix_seq (es_fld (ex_var 0) O (c_States T) (no_States_sides T) rfl)) ⟨.no, .no, .no, .no, .no, .no, by simp; rfl⟩ (fun i d Hb s1 hd e hI => ?_)) ?_) fun s1 q1 => bx_one (sx_ret (ex_var 2 q1) rfl)
  · obtain ⟨u, v, y, t, q, r, rfl⟩ := hI
    obtain ⟨x, hx, rfl⟩ := sideD_get hd
    have hxm := List.mem_of_getElem? hx
    have Bx := (B x hxm).1
    have hi := (List.getElem?_eq_some_iff.mp hx).1
    obtain ⟨nv, hni⟩ : ∃ nv, ns[i]? = some nv := ⟨ns[i]'(by omega), List.getElem?_eq_getElem (by omega)⟩
    have hz : (l.zip ns)[i]? = some (x, nv) := List.getElem?_zip_eq_some.mpr ⟨hx, hni⟩
    have bn := hb _ (List.mem_of_getElem? hni)
    have sa := shr_abs (x := x) h2
    refine ⟨_, _, gx_tup2 4 5 sc_States_base.nd, ?_⟩
    refine bx_step (sx_setLc (items := rangeD 0 1) (own := [("group", 6)]) (f := fun _ => .i (shr l x)) 7 (ix_range1 (j := 1) (ex_len (l := [.tup []]) (ex_prop (ex_var 4) (Bx.mono e).2 (c_Book T) (p_Book_groups T) (ok_Book_groups T) (hr.mono (by decide)) fun H e' => ⟨x.1.1, x.1.2.1, x.1.2.2, (Bx.mono e).mono e', rfl, rfl⟩) (.inl rfl) (n_len T)) (by decide) (n_range T)) (blk_ok (by kernel_rfl)) sc_States_base.nd (by rfl) (fun j d Hb' qd e2 => ?_) (by simp [rangeD])) ?_
    · obtain rfl : d = .i 0 := one_get qd
      exact ⟨[6], _, by simp, fun s H C cl fp => gx_name 6 sc_States_base.nd, fun s H C cl fp => ex_meth (ex_var 0) ((O.mono e).mono e2) (c_States T) (m_States_share_of_group T) rfl (ok_States_share_of_group T) (by exact hr) (ea_cons (ex_var 4) (ex_one1 (ex_var 6))) fun H e' => ⟨st, l, a, x, ((SA.mono e).mono e2).mono e', hxm, rfl, rfl⟩⟩
    refine bx_unown 7 (xs := [.i (shr l x)]) rfl ?_
    refine bx_step (s1 := [.d (.r a), .d (tupI ns), .d (.i (gapI l ns * (botN l : Nat) - (((l.zip ns).take (i + 1)).map (bOne l)).sum)), .d (.i (i : Nat)), .d (.r x.1.1), .d (.i x.2), y, .l [.i (shr l x)], .d (.i (shr l x)), .d (.i nv)]) (sx_for1 (d := .tup [.i (shr l x), .i nv]) (ix_to (ix_zip2le (l1 := [.i (shr l x)]) (l2 := intsD (ns.drop i)) (eas_cons (es_var 7 rfl) (eas_cons (es_tup (ex_to (ex_slT (ex_var 1) (eo_some (ex_var 3)) eo_none) (by rw [intsD_cut, cut_from (by omega)]))) eas_nil)) ?_ (n_zip T)) ?_) fun Hb' e2 => ⟨_, _, gx_tup2 8 9 sc_States_base.nd, ?_⟩) ?_
    · rw [intsD_len, List.length_drop, List.length_singleton]
      omega
    · unfold zip2D intsD
      rw [List.drop_eq_getElem_cons (by omega)]
      have : ns[i]'(by omega) = nv := by
        have := List.getElem?_eq_getElem (l := ns) (i := i) (by omega)
        rw [hni] at this
        exact (Option.some.inj this).symm
      rw [this]
      rfl
    · refine bx_one (sx_mono (sx_augS 2 (n := bOne l (x, nv)) (ex_mul (j := nv) (ex_mul (j := shr l x) (ex_var 5) (ex_var 8) (.inr ⟨by omega, by omega⟩)) (ex_var 9) (.inr ⟨by omega, by omega⟩)) rfl sc_States_base.nd) ?_)
      rintro _ rfl
      rw [sum_take _ hz, ← Int.sub_sub]
      rfl
    · refine bx_one (sx_mono (sx_set 3 (k := .d (.i ((i + 1 : Nat) : Int))) (ex_to (ex_add (ex_var 3) (ex_len (l := [.i (shr l x)]) (ex_varL 7 (.inl rfl)) (.inr (.inl rfl)) (n_len T))) (by congr 3)) sc_States_base.nd) ?_)
      rintro _ rfl
      exact ⟨_, _, _, _, _, _, rfl⟩
  · rintro z ⟨u, v, y, t, q, r, rfl⟩
    have ll : (sideD l).length = (l.zip ns).length := by simp [sideD, hn]
    rw [ll, List.take_length]
    rfl
end
end K44
end

section
-- text V13
set_option Elab.async false
set_option linter.all false
set_option maxRecDepth 100000
set_option maxHeartbeats 4000000
namespace K44
open PySem PySem.Spec L2
open Evl (Ex)
def cm (f g : Nat) : Nat := f / Nat.gcd f g * g
def ordN (ms sp : List Nat) : Nat := (ms.zip sp).foldl (fun f p => cm f (p.2 / Nat.gcd p.1 p.2)) 1
def ordT (z : List (Nat × Nat)) : Nat := z.foldl (fun f p => cm f (p.2 / Nat.gcd p.1 p.2)) 1
theorem ordT_take {z : List (Nat × Nat)} {i : Nat} {p : Nat × Nat} (h : z[i]? = some p) : ordT (z.take (i + 1)) = cm (ordT (z.take i)) (p.2 / Nat.gcd p.1 p.2) := by
  unfold ordT
  rw [List.take_add_one, h]
  simp [List.foldl_append]
theorem ordT_bd : ∀ (z : List (Nat × Nat)), (∀ p ∈ z, 0 < p.2 ∧ p.2 ≤ 120) → ∀ b, 0 < b → 0 < z.foldl (fun f p => cm f (p.2 / Nat.gcd p.1 p.2)) b ∧ z.foldl (fun f p => cm f (p.2 / Nat.gcd p.1 p.2)) b ≤ b * 120 ^ z.length
  | [], h, b, hb => ⟨hb, by simp⟩
  | p :: z, h, b, hb => by
    have hp := h p (by simp)
    have g0 : 0 < Nat.gcd p.1 p.2 := Nat.gcd_pos_of_pos_right _ hp.1
    have g1 : 0 < p.2 / Nat.gcd p.1 p.2 := Nat.div_pos (Nat.gcd_le_right _ hp.1) g0
    have g2 : p.2 / Nat.gcd p.1 p.2 ≤ 120 := Nat.le_trans (Nat.div_le_self _ _) hp.2
    have c := cmN_bd hb g1
    have ih := ordT_bd z (fun q hq => h q (List.mem_cons_of_mem _ hq)) _ c.1
    refine ⟨ih.1, Nat.le_trans ih.2 ?_⟩
    rw [List.length_cons, Nat.pow_succ]
    calc cm b (p.2 / Nat.gcd p.1 p.2) * 120 ^ z.length ≤ b * 120 * 120 ^ z.length := Nat.mul_le_mul (Nat.le_trans c.2 (Nat.mul_le_mul (Nat.le_refl _) g2)) (Nat.le_refl _)
      _ = b * (120 ^ z.length * 120) := by rw [Nat.mul_assoc, Nat.mul_comm 120]
/-! dicts by a map of their values -/
def mapG {α β : Type} (f : α → β) (l : List (List Int × α)) : List (List Int × β) := l.map fun p => (p.1, f p.2)
theorem getG_mapG {α β : Type} (f : α → β) {k : List Int} : ∀ {l : List (List Int × α)}, getG (mapG f l) k = (getG l k).map f
  | [] => rfl
  | p :: l => by
    show getG ((p.1, f p.2) :: mapG f l) k = _
    rw [getG_cons, getG_cons, getG_mapG f]
    by_cases h : p.1 = k
    · rw [if_pos h, if_pos h]; rfl
    · rw [if_neg h, if_neg h]
theorem putG_mapG {α β : Type} (f : α → β) {k : List Int} {v : α} {l : List (List Int × α)} : putG (mapG f l) k (f v) = mapG f (putG l k v) := by
  unfold putG mapG
  rw [List.any_map]
  show (if (l.any fun p => decide (p.1 = k)) = true then _ else _) = _
  split
  · rw [List.map_map, List.map_map]
    refine List.map_congr_left fun p _ => ?_
    show (if p.1 = k then (p.1, f v) else (p.1, f p.2)) = _
    by_cases h : p.1 = k
    · simp [h]
    · simp [h]
  · simp
theorem putG_len {α : Type} {k : List Int} {v : α} {l : List (List Int × α)} : (putG l k v).length ≤ l.length + 1 := by
  unfold putG
  split
  · simp
  · simp
theorem mapG_len {α β : Type} (f : α → β) (l : List (List Int × α)) : (mapG f l).length = l.length := by simp [mapG]
/-! lines, the best of them -/
def lineK (l : Sd) (n : Nat) : List Int := redI (moveI l n) (spans l)
def lineDt (l : Sd) (n : Nat) : Dt := .tup [.i 0, .i n, tupI (lineK l n), .i (weightI l n)]
def bstep (l : Sd) (acc : List (List Int × (Int × Int))) (n : Nat) : List (List Int × (Int × Int)) := match getG acc (lineK l n) with
  | none => putG acc (lineK l n) (weightI l n, (n : Int))
  | some v => if v.1 < weightI l n then putG acc (lineK l n) (weightI l n, (n : Int)) else acc
def bestN (l : Sd) (i : Nat) : List (List Int × (Int × Int)) := (List.range i).foldl (bstep l) []
theorem bestN_succ (l : Sd) (i : Nat) : bestN l (i + 1) = bstep l (bestN l i) i := by
  unfold bestN
  rw [List.range_succ, List.foldl_append]
  rfl
theorem bestN_len (l : Sd) : ∀ i, (bestN l i).length ≤ i
  | 0 => Nat.le_refl _
  | i + 1 => by
    have ih := bestN_len l i
    rw [bestN_succ]
    unfold bstep
    have pl : (putG (bestN l i) (lineK l i) (weightI l i, (i : Int))).length ≤ (bestN l i).length + 1 := putG_len
    split
    · omega
    · split <;> omega
def bD (v : Int × Int) : Dt := .tup [.i v.1, .i 0, .i v.2]
section
variable {X : Cx} {H0 : Hp} {ss : List Sl} {pos : Pos} {kk : Nat}
theorem gx_tup4 {x y z t : Str} {d1 d2 d3 d4 : Dt} (i j l m : Nat) {px py pz pt : Pos} (hN : X.N.Nodup) (hc : X.calm = true := by rfl) (hi : X.N[i]? = some x := by rfl) (hj : X.N[j]? = some y := by rfl) (hl : X.N[l]? = some z := by rfl) (hm : X.N[m]? = some t := by rfl) (hx : Loc X.env.scope x := by first | exact Or.inl rfl | exact Or.inr rfl) (hy : Loc X.env.scope y := by first | exact Or.inl rfl | exact Or.inr rfl) (hz : Loc X.env.scope z := by first | exact Or.inl rfl | exact Or.inr rfl) (ht : Loc X.env.scope t := by first | exact Or.inl rfl | exact Or.inr rfl)
    (hf : X.fn x = true ∨ X.env.scope.names.lookup x = some .local := by first | exact .inl rfl | exact .inr rfl) (hf2 : X.fn y = true ∨ X.env.scope.names.lookup y = some .local := by first | exact .inl rfl | exact .inr rfl) (hf3 : X.fn z = true ∨ X.env.scope.names.lookup z = some .local := by first | exact .inl rfl | exact .inr rfl) (hf4 : X.fn t = true ∨ X.env.scope.names.lookup t = some .local := by first | exact .inl rfl | exact .inr rfl)
    (hn : (assignEach [.Name x px, .Name y py, .Name z pz, .Name t pt] X.env).length = 4 := by rfl) (hst : (assignEach [.Name x px, .Name y py, .Name z pz, .Name t pt] X.env).findIdx? (·.1) = none := by rfl)
    (h1 : (assignEach [.Name x px, .Name y py, .Name z pz, .Name t pt] X.env).map (·.2) = assign (.Name x px) X.env :: (assignEach [.Name y py, .Name z pz, .Name t pt] X.env).map (·.2) := by rfl) (h2 : (assignEach [.Name y py, .Name z pz, .Name t pt] X.env).map (·.2) = assign (.Name y py) X.env :: (assignEach [.Name z pz, .Name t pt] X.env).map (·.2) := by rfl) (h3 : (assignEach [.Name z pz, .Name t pt] X.env).map (·.2) = assign (.Name z pz) X.env :: (assignEach [.Name t pt] X.env).map (·.2) := by rfl) (h4 : (assignEach [.Name t pt] X.env).map (·.2) = assign (.Name t pt) X.env :: (assignEach [] X.env).map (·.2) := by rfl) :
    GX X H0 (.Tuple [.Name x px, .Name y py, .Name z pz, .Name t pt] kk pos) [i, j, l, m] ss (.tup [d1, d2, d3, d4]) ((((ss.set i (.d d1)).set j (.d d2)).set l (.d d3)).set m (.d d4)) :=
  gx_tup (n := 4) (gxs_cons (gx_name i hN hi hx hf) (gxs_cons (gx_name j hN hj hy hf2) (gxs_cons (gx_name l hN hl hz hf3) (gxs_cons (gx_name m hN hm ht hf4) gxs_nil h4) h3) h2) h1) hc rfl hn hst
theorem sx_retO {x : Str} {p1 : Pos} {xs : List Dt} {Nx : List Sl → Prop} {Rt : Kd → Prop} (i : Nat) (hs : ss[i]? = some (.own xs)) (q : Rt (.nl xs)) (hN : X.N[i]? = some x := by rfl)
    (hv : Vis X.env.scope x := by first | exact Or.inl rfl | exact Or.inr (Or.inl rfl) | exact Or.inr (Or.inr rfl)) (hd : (x == ("__debug__" : Str)) = false := by decide) (hcd : (x == ("__classdict__" : Str)) = false := by decide) : SX X H0 (.Return (some (.Name x p1)) pos) ss Nx Rt := fun σ H D S n r => by
  obtain ⟨y, ey, b⟩ := S.get hs (by intro z; cases z)
  exact ⟨_, ps_ret (pe_var hN hv hd hcd), y, ey, r (.nl xs) y H q S.ex b⟩
theorem sx_retM {x : Str} {p1 : Pos} {ks : List (List Key × Dt)} {Nx : List Sl → Prop} {Rt : Kd → Prop} (i : Nat) (hs : ss[i]? = some (.om ks)) (q : Rt (.nm ks)) (hN : X.N[i]? = some x := by rfl)
    (hv : Vis X.env.scope x := by first | exact Or.inl rfl | exact Or.inr (Or.inl rfl) | exact Or.inr (Or.inr rfl)) (hd : (x == ("__debug__" : Str)) = false := by decide) (hcd : (x == ("__classdict__" : Str)) = false := by decide) : SX X H0 (.Return (some (.Name x p1)) pos) ss Nx Rt := fun σ H D S n r => by
  obtain ⟨y, ey, b⟩ := S.get hs (by intro z; cases z)
  exact ⟨_, ps_ret (pe_var hN hv hd hcd), y, ey, r (.nm ks) y H q S.ex b⟩
/-- a, b = x, y: two new lists -/
theorem sx_parN {x y : Str} {a b : Expr} (i j : Nat) {k l : Kd} {kt k2 : Nat} {px py pt pt2 : Pos} {Rt : Kd → Prop} (ha : EX X H0 ss a k) (hb : EX X H0 ss b l) (hc : X.calm = true) (hN : X.N.Nodup)
    (hw : swappedStores [.Tuple [.Name x px, .Name y py] kt pt] (.Tuple [a, b] k2 pt2) X.env = pure (some [x, y])) (hi : X.N[i]? = some x := by rfl) (hj : X.N[j]? = some y := by rfl) (hij : i ≠ j := by decide)
    (hx : X.env.scope.names.lookup x = some .local := by rfl) (hy : X.env.scope.names.lookup y = some .local := by rfl) (he : starEach [a, b] X.env = (false, eval a X.env) :: starEach [b] X.env := by rfl) (he2 : starEach [b] X.env = (false, eval b X.env) :: starEach [] X.env := by rfl)
    (hs : swapsWithSole [.Tuple [.Name x px, .Name y py] kt pt] (.Tuple [a, b] k2 pt2) pos.line X.env = pure false := by rfl) :
    SX X H0 (.Assign [.Tuple [.Name x px, .Name y py] kt pt] (.Tuple [a, b] k2 pt2) pos) ss (fun s => s = (ss.set i k.sl).set j l.sl) Rt := fun σ H D S n r => by
  refine ⟨_, ps_par hc hN hi hj hij hx hy (pa_cons pe_any (pa_cons pe_any pa_nil he2) he) hw hs, ?_⟩
  refine ha σ H _ S fun u H1 e1 r1 => ?_
  have S1 := S.set i e1 r1
  refine hb σ H1 _ (S.mono e1) fun v H2 e2 r2 => ?_
  exact ⟨u, v, rfl, n _ _ H2 rfl (S1.set j e2 r2)⟩
end
section
variable {P : Program} {w : World} {K : PySem.W.Frag} {mg : Str → Option Value} {base : Heap}
theorem ok_States_order (T : Tx K mg) : OkF P w K mg base 3 (He.ma K (He.ga K "States") "order") ["self", "move"] (spC fun H ks k => ∃ s l a, ∃ ms : List Nat, StAt K s l H a ∧ ms.length = l.length ∧ ks = [.d (.r a), .d (tupI (ms.map fun m : Nat => (m : Int)))] ∧ k = .d (.i (ordN ms (spans l) : Nat))) := by
  refine ok_fr (f_States_order T) sc_States_order (fun _ _ _ _ _ _ us hl => match us, hl with | [_, _], _ => rfl) (by decide) (fun H ks k ⟨_, _, _, _, _, _, h, _⟩ => by rw [h]; rfl) (fun cdv A outer s H E ks k hr h => ?_)
  obtain ⟨st, l, a, ms, ⟨⟨h1, h2, B⟩, O⟩, hn, rfl, rfl⟩ := h
  have hs : (spanD l).length = (intsD (ms.map fun m : Nat => (m : Int))).length := by rw [intsD_len, List.length_map, hn]; simp [spanD]
  have hsp : ∀ p ∈ ms.zip (spans l), 0 < p.2 ∧ p.2 ≤ 120 := fun p hp => by
    have := (List.of_mem_zip hp).2
    unfold spans at this
    obtain ⟨x, _, hx⟩ := List.mem_map.mp this
    rw [← hx]
    exact perN_pos _
  refine bx_step (sx_set 2 ex_int sc_States_order.nd) ?_
  refine bx_cons (Mid := fun z => z[2]? = some (.d (.i (ordN ms (spans l) : Nat)))) (sx_mono (sx_for (items := zip2D (intsD (ms.map fun m : Nat => (m : Int))) (spanD l)) (I := fun i z => ∃ u v, z = [.d (.r a), .d (tupI (ms.map fun m : Nat => (m : Int))), .d (.i (ordT ((ms.zip (spans l)).take i) : Nat)), u, v]) (ix_zip2 (eas_cons (es_tup (ex_var 1)) (eas_cons (es_fld (ex_var 0) O (c_States T) (no_States_spans T) rfl) eas_nil)) hs (n_zip T)) ⟨.no, .no, rfl⟩ (fun i d Hb s1 hd e hI => ?_)) ?_) fun s1 q1 => bx_one (sx_ret (ex_var 2 q1) rfl)
  · obtain ⟨u, v, rfl⟩ := hI
    have hi : i < ms.length := by
      have := (List.getElem?_eq_some_iff.mp hd).1
      rw [zip2D_len hs, intsD_len, List.length_map] at this
      exact this
    have g1 : (intsD (ms.map fun m : Nat => (m : Int)))[i]? = some (.v (.int (ms[i] : Nat))) := by simp [intsD, hi]
    have g2 : (spanD l)[i]? = some (.v (.int (perN (l[i]'(by omega)).1.2.2 : Nat))) := by simp [spanD, show i < l.length by omega]
    rw [zip2D_get g1 g2] at hd
    obtain rfl := Option.some.inj hd
    have hz : (ms.zip (spans l))[i]? = some (ms[i], perN (l[i]'(by omega)).1.2.2) := List.getElem?_zip_eq_some.mpr ⟨List.getElem?_eq_getElem hi, by simp [spans, show i < l.length by omega]⟩
    have pp := perN_pos (l[i]'(by omega)).1.2.2
    have g0 : 0 < Nat.gcd ms[i] (perN (l[i]'(by omega)).1.2.2) := Nat.gcd_pos_of_pos_right _ pp.1
    have g1' : 0 < perN (l[i]'(by omega)).1.2.2 / Nat.gcd ms[i] (perN (l[i]'(by omega)).1.2.2) := Nat.div_pos (Nat.gcd_le_right _ pp.1) g0
    have g2' : Nat.gcd ms[i] (perN (l[i]'(by omega)).1.2.2) ≤ perN (l[i]'(by omega)).1.2.2 := Nat.gcd_le_right _ pp.1
    have ob := ordT_bd ((ms.zip (spans l)).take i) (fun p hp => hsp p (List.mem_of_mem_take hp)) 1 (by decide)
    have lt : ((ms.zip (spans l)).take i).length ≤ 2 := by simp; omega
    have pw : 120 ^ ((ms.zip (spans l)).take i).length ≤ 120 ^ 2 := Nat.pow_le_pow_right (by decide) lt
    refine ⟨_, _, gx_tup2 3 4 sc_States_order.nd, bx_one (sx_mono (sx_set 2 (k := .d (.i (ordT ((ms.zip (spans l)).take (i + 1)) : Nat))) (ex_to (ex_call (ok_common_multiple T) hr (g_common_multiple T) (ea_cons (ex_var 2) (ex_one1 (ex_to (ex_fdiv (ex_var 4) (ex_call (ok_common_divisor T) (hr.mono (by decide)) (g_common_divisor T) (ea_cons (ex_var 3) (ex_one1 (ex_var 4))) fun H _ => ⟨ms[i], perN (l[i]'(by omega)).1.2.2, rfl, rfl⟩) ⟨by omega, by omega⟩) (by rw [← Int.natCast_ediv])))) fun H _ => ⟨ordT ((ms.zip (spans l)).take i), perN (l[i]'(by omega)).1.2.2 / Nat.gcd ms[i] (perN (l[i]'(by omega)).1.2.2), ob.1, Nat.lt_of_le_of_lt (Nat.le_trans ob.2 (by rw [Nat.one_mul]; exact pw)) (by decide), rfl, rfl⟩) ?_) sc_States_order.nd) ?_)⟩
    · rw [ordT_take hz]
      rfl
    · rintro _ rfl
      exact ⟨_, _, rfl⟩
  · rintro z ⟨u, v, rfl⟩
    have ll : (zip2D (intsD (ms.map fun m : Nat => (m : Int))) (spanD l)).length = (ms.zip (spans l)).length := by
      rw [zip2D_len hs]
      simp [intsD, spans, hn]
    rw [ll, List.take_length]
    rfl
theorem ok_States_lines (T : Tx K mg) : OkF P w K mg base 7 (He.ma K (He.ga K "States") "lines") ["self"] (spC fun H ks k => ∃ s l a, StAt K s l H a ∧ ks = [.d (.r a)] ∧ k = .nl ((List.range (perN s)).map (lineDt l))) := by
  refine ok_fr (f_States_lines T) sc_States_lines (fun _ _ _ _ _ _ us hl => match us, hl with | [_], _ => rfl) (by decide) (fun H ks k ⟨_, _, _, _, h, _⟩ => by rw [h]; rfl) (fun cdv A outer s H E ks k hr h => ?_)
  obtain ⟨st, l, a, SA, rfl, rfl⟩ := h
  obtain ⟨⟨h1, h2, B⟩, O⟩ := id SA
  have pp := perN_pos st
  let bl : Bks := l.map (·.1)
  have hbl : bl ≠ [] := fun z => h1 (List.map_eq_nil_iff.mp z)
  have BB : BkAll K st H bl := fun x hx => by
    obtain ⟨y, hy, rfl⟩ := List.mem_map.mp hx
    exact B y hy
  refine bx_step (sx_parN (k := .nl (bkD bl)) (l := .nl []) 3 4 (ex_to (ex_lcB [("book", 1), ("sign", 2)] (fun i => (bkD bl).getD i (.i 0)) sc_States_lines.nd (ix_seq (es_fld (ex_var 0) O (c_States T) (no_States_sides T) rfl)) (by simp [sideD]; omega) fun i d Hb q e => ?_) ?_) (ex_lst (l := []) ea_nil) rfl sc_States_lines.nd rfl) ?_
  · obtain ⟨x, hx, rfl⟩ := sideD_get q
    refine ⟨[1, 2], _, by simp, fun s H C cl fp => gx_tup2 1 2 sc_States_lines.nd, fun s H C cl fp => ex_to (ex_var 1) ?_⟩
    rw [List.getD_eq_getElem?_getD]
    simp [bkD, bl, hx]
  · congr 1
    refine List.ext_getElem? fun j => ?_
    by_cases hj : j < l.length
    · simp [bkD, bl, sideD, hj]
    · rw [List.getElem?_eq_none (by simp [sideD]; omega), List.getElem?_eq_none (by simp [bkD, bl]; omega)]
  obtain ⟨y, l', hyl⟩ := List.exists_cons_of_ne_nil hbl
  have By := BB y (by rw [hyl]; simp)
  refine bx_cons (Mid := fun z => z[4]? = some (.own ((List.range (perN st)).map (lineDt l)))) (sx_for1 (d := .tup [.v (.int ((0 : Nat) : Int)), .s "part"]) (ix_enum (l1 := [.s "part"]) (eas_cons (es_tup (ex_prop (ex_ixL (l := bkD bl) (d := .r y.1) (.inl (ex_varL 3 (.inr rfl))) ex_int (by rw [hyl]; exact ixD0)) By.1.2 (c_Book T) (p_Book_names T) (ok_Book_names T) (hr.mono (by decide)) fun H e => ⟨y.1, y.2.1, y.2.2, By.1.mono e, rfl, rfl⟩)) eas_nil) (n_enumerate T)) fun Hb e => ⟨_, _, gx_tup2 5 6 sc_States_lines.nd, ?_⟩) fun s1 q1 => bx_one (sx_retO 4 q1 rfl)
  have SAb := SA.mono e
  have BBb := BB.mono e
  have sp0 : ∀ n : Nat, (moveI l n).length = l.length := fun n => by simp [moveI]
  refine bx_one (sx_mono (sx_for (items := rangeD 0 (perN st)) (I := fun i z => ∃ u v, z = [.d (.r a), .no, .no, .own (bkD bl), .own ((List.range i).map (lineDt l)), .d (.i ((0 : Nat) : Int)), .d (.s "part"), u, v]) (ix_to (ix_range1 (j := (perN st : Nat)) (ex_call (ok_amounts_of T) (hr.mono (by decide)) (g_amounts_of T) (ea_cons (ex_varL 3 (.inr rfl)) (ex_one1 (ex_var 6))) fun H e' => ⟨st, bl, hbl, BBb.mono e', rfl, rfl⟩) (by omega) (n_range T)) (by rw [Int.toNat_natCast])) ⟨.no, .no, rfl⟩ (fun i d Hb' s1 hd e2 hI => ?_)) ?_)
  · obtain ⟨u, v, rfl⟩ := hI
    have hi : i < perN st := by
      have := (List.getElem?_eq_some_iff.mp hd).1
      rwa [rangeD_len] at this
    rw [rangeD_get hi] at hd
    obtain rfl := Option.some.inj hd
    have SA2 := SAb.mono e2
    refine ⟨_, _, gx_name 7 sc_States_lines.nd, ?_⟩
    refine bx_step (sx_set 8 (k := .d (tupI (lineK l i))) (ex_meth (ex_var 0) SA2.2 (c_States T) (m_States_reduced T) rfl (ok_States_reduced T) (hr.mono (by decide)) (ex_one1 (ex_meth (ex_var 0) SA2.2 (c_States T) (m_States_move T) rfl (ok_States_move T) hr (ea_cons (ex_var 6) (ex_one1 (ex_var 7))) fun H e' => ⟨st, l, a, i, SA2.mono e', by omega, by rw [Int.zero_add], rfl⟩)) fun H e' => ⟨st, l, a, moveI l i, SA2.mono e', sp0 i, rfl, rfl⟩) sc_States_lines.nd) ?_
    refine bx_one (sx_mono (sx_app 4 (d := lineDt l i) rfl (ex_tup (l := [.i 0, .i i, tupI (lineK l i), .i (weightI l i)]) (ea_cons (ex_var 5) (ea_cons (ex_to (ex_var 7) (by rw [Int.zero_add])) (ea_cons (ex_var 8) (ex_one1 (ex_meth (ex_var 0) SA2.2 (c_States T) (m_States_weight T) rfl (ok_States_weight T) hr (ea_cons (ex_var 6) (ex_one1 (ex_var 7))) fun H e' => ⟨st, l, a, i, SA2.mono e', by omega, by rw [Int.zero_add], rfl⟩)))))) (by simp; omega)) ?_)
    rintro _ rfl
    rw [List.range_succ, List.map_append]
    exact ⟨_, _, rfl⟩
  · rintro z ⟨u, v, rfl⟩
    rw [rangeD_len]
    rfl
theorem ok_States_best_lines (T : Tx K mg) : OkF P w K mg base 8 (He.ma K (He.ga K "States") "best_lines") ["self"] (spC fun H ks k => ∃ s l a, StAt K s l H a ∧ ks = [.d (.r a)] ∧ k = .nm (km (mapG bD (bestN l (perN s))))) := by
  refine ok_fr (f_States_best_lines T) sc_States_best_lines (fun _ _ _ _ _ _ us hl => match us, hl with | [_], _ => rfl) (by decide) (fun H ks k ⟨_, _, _, _, h, _⟩ => by rw [h]; rfl) (fun cdv A outer s H E ks k hr h => ?_)
  obtain ⟨st, l, a, SA, rfl, rfl⟩ := h
  obtain ⟨⟨h1, h2, B⟩, O⟩ := id SA
  have pp := perN_pos st
  refine bx_step (sx_set 1 (k := .nm (km (mapG bD (bestN l 0)))) ex_dnew sc_States_best_lines.nd) ?_
  refine bx_cons (Mid := fun z => z[1]? = some (.om (km (mapG bD (bestN l (perN st)))))) (sx_mono (sx_for (items := (List.range (perN st)).map (lineDt l)) (I := fun i z => ∃ u v y t, z = [.d (.r a), .om (km (mapG bD (bestN l i))), u, v, y, t]) (ix_seq (es_nl (ex_meth0 (ex_var 0) O (c_States T) (m_States_lines T) rfl (ok_States_lines T) hr fun H e => ⟨st, l, a, SA.mono e, rfl, rfl⟩))) ⟨.no, .no, .no, .no, rfl⟩ (fun i d Hb s1 hd e hI => ?_)) ?_) fun s1 q1 => bx_one (sx_retM 1 q1 rfl)
  · obtain ⟨u, v, y, t, rfl⟩ := hI
    have hi : i < perN st := by
      have := (List.getElem?_eq_some_iff.mp hd).1
      simpa using this
    have : d = lineDt l i := by
      rw [List.getElem?_map, List.getElem?_range hi] at hd
      exact (Option.some.inj hd).symm
    subst this
    have bl := bestN_len l i
    refine ⟨_, _, gx_tup4 2 3 4 5 sc_States_best_lines.nd, ?_⟩
    cases hg : getG (bestN l i) (lineK l i) with
    | none =>
      have g2 : getG (mapG bD (bestN l i)) (lineK l i) = none := by rw [getG_mapG, hg]; rfl
      refine bx_one (sx_mono (sx_yes (et_to (ew_or (x := true) (y := true) (et_to (et_notInM hr.units (ex_var 4) (dx_om 1)) (by rw [g2]; rfl)) (fun z => nomatch z)).t rfl) (bx_one (sx_dput (l := mapG bD (bestN l i)) (d := bD (weightI l i, (i : Int))) 1 hr.units (ex_tup (l := [.i (weightI l i), .i 0, .i i]) (ea_cons (ex_var 5) (ea_cons (ex_var 2) (ex_one1 (ex_var 3))))) (ex_var 4) (by rw [mapG_len]; omega)))) ?_)
      rintro _ rfl
      rw [bestN_succ, putG_mapG]
      have : bstep l (bestN l i) i = putG (bestN l i) (lineK l i) (weightI l i, (i : Int)) := by
        unfold bstep
        rw [hg]
      rw [this]
      exact ⟨_, _, _, _, rfl⟩
    | some v0 =>
      have g2 : getG (mapG bD (bestN l i)) (lineK l i) = some (bD v0) := by rw [getG_mapG, hg]; rfl
      refine bx_one (sx_mono (sx_if (Nx := fun z => z = [.d (.r a), .om (km (mapG bD (bestN l (i + 1)))), .d (.i 0), .d (.i i), .d (tupI (lineK l i)), .d (.i (weightI l i))]) (x := decide (v0.1 < weightI l i)) (et_to (ew_or (x := false) (y := decide (v0.1 < weightI l i)) (et_to (et_notInM hr.units (ex_var 4) (dx_om 1)) (by rw [g2]; rfl)) fun _ => ew_or1 (et_lt (ex_t0 (l := [.i 0, .i v0.2]) (ex_dget hr.units (dx_om 1) (ex_var 4) g2)) (ex_var 5))).t rfl) (fun z => bx_one (sx_mono (sx_dput (l := mapG bD (bestN l i)) (d := bD (weightI l i, (i : Int))) 1 hr.units (ex_tup (l := [.i (weightI l i), .i 0, .i i]) (ea_cons (ex_var 5) (ea_cons (ex_var 2) (ex_one1 (ex_var 3))))) (ex_var 4) (by rw [mapG_len]; omega)) ?_)) fun z => bx_nil ?_) ?_)
      · rintro _ rfl
        rw [bestN_succ, putG_mapG]
        have : bstep l (bestN l i) i = putG (bestN l i) (lineK l i) (weightI l i, (i : Int)) := by
          unfold bstep
          rw [hg]
          exact if_pos (of_decide_eq_true z)
        rw [this]
        rfl
      · rw [bestN_succ]
        have : bstep l (bestN l i) i = bestN l i := by
          unfold bstep
          rw [hg]
          exact if_neg (of_decide_eq_false z)
        rw [this]
        rfl
      · rintro _ rfl
        exact ⟨_, _, _, _, rfl⟩
  · rintro z ⟨u, v, y, t, rfl⟩
    rw [List.length_map, List.length_range]
    rfl
end
end K44
end

section
-- text V14
set_option Elab.async false
set_option linter.all false
set_option maxRecDepth 100000
set_option maxHeartbeats 4000000
namespace K44
open PySem PySem.Spec L2
open Evl (Ex)
theorem foldl_take {α β : Type} (f : β → α → β) (b : β) {l : List α} {i : Nat} {x : α} (h : l[i]? = some x) : (l.take (i + 1)).foldl f b = f ((l.take i).foldl f b) x := by
  rw [List.take_add_one, h]
  simp [List.foldl_append]
abbrev Sums := List (List Int × Int)
abbrev Bests := List (List Int × (Int × Int))
abbrev iD (n : Int) : Dt := .i n
/-- d[k] = v if k isn't there, or with less -/
def upG (acc : Sums) (k : List Int) (v : Int) : Sums := match getG acc k with
  | none => putG acc k v
  | some u => if u < v then putG acc k v else acc
def omIn (l : Sd) (p : List Int × Int) (acc : Sums) (q : List Int × (Int × Int)) : Sums := upG acc (addI p.1 q.1 (spans l)) (p.2 + q.2.1)
def omOut (l : Sd) (B : Bests) (acc : Sums) (p : List Int × Int) : Sums := B.foldl (omIn l p) acc
def oneMore (l : Sd) (S : Sums) (B : Bests) : Sums := S.foldl (omOut l B) []
theorem upG_len (acc : Sums) (k : List Int) (v : Int) : (upG acc k v).length ≤ acc.length + 1 := by
  have pl := putG_len (k := k) (v := v) (l := acc)
  unfold upG
  split
  · exact pl
  · split
    · exact pl
    · omega
theorem omIn_len (l : Sd) (p : List Int × Int) : ∀ (B : Bests) (acc : Sums), (B.foldl (omIn l p) acc).length ≤ acc.length + B.length
  | [], acc => by simp
  | q :: B, acc => by
    have h1 := omIn_len l p B (omIn l p acc q)
    have h2 : (omIn l p acc q).length ≤ acc.length + 1 := upG_len _ _ _
    rw [List.foldl_cons, List.length_cons]
    omega
theorem omOut_len (l : Sd) (B : Bests) : ∀ (S : Sums) (acc : Sums), (S.foldl (omOut l B) acc).length ≤ acc.length + S.length * B.length
  | [], acc => by simp
  | p :: S, acc => by
    have h1 := omOut_len l B S (omOut l B acc p)
    have h2 : (omOut l B acc p).length ≤ acc.length + B.length := omIn_len l p B acc
    rw [List.foldl_cons, List.length_cons, Nat.succ_mul]
    omega
theorem items_get {α : Type} (f : α → Dt) {S : List (List Int × α)} {i : Nat} {d : Dt} (h : (itemsD (mapG f S))[i]? = some d) : ∃ p, S[i]? = some p ∧ d = .tup [keyD p.1, f p.2] := by
  obtain ⟨q, h1, h2⟩ := getL_map h
  obtain ⟨p, h3, h4⟩ := getL_map h1
  subst h4
  exact ⟨p, h3, h2⟩
theorem items_len {α : Type} (f : α → Dt) (S : List (List Int × α)) : (itemsD (mapG f S)).length = S.length := by simp [itemsD, mapG]
def gapsOf (l : Sd) (S : Sums) : List Int := S.map fun p => p.2 + baseI l p.1
def plusI (a b : List Int) : List Int := (a.zip b).map fun p => p.1 + p.2
section
variable {P : Program} {w : World} {K : PySem.W.Frag} {mg : Str → Option Value} {base : Heap}
theorem ok_one_more (T : Tx K mg) : OkF P w K mg base 2 (He.ga K "one_more") ["states", "sums", "best"] (spC fun H ks k => ∃ s l a, ∃ (S : Sums) (B : Bests), StAt K s l H a ∧ S.length ≤ 300 ∧ B.length ≤ 300 ∧ (∀ p ∈ S, p.1.length = l.length) ∧ (∀ q ∈ B, q.1.length = l.length) ∧ ks = [.d (.r a), .rm (km (mapG iD S)), .rm (km (mapG bD B))] ∧ k = .nm (km (mapG iD (oneMore l S B)))) := by
  refine ok_fr (f_one_more T) sc_one_more (fun _ _ _ _ _ _ us hl => match us, hl with | [_, _, _], _ => rfl) (by decide) (fun H ks k ⟨_, _, _, _, _, _, _, _, _, _, h, _⟩ => by rw [h]; rfl) (fun cdv A outer s H E ks k hr h => ?_)
  obtain ⟨st, l, a, S, B, SA, hS, hB, kS, kB, rfl, rfl⟩ := h
  refine bx_step (sx_set 3 (k := .nm (km (mapG iD []))) ex_dnew sc_one_more.nd) ?_
  refine bx_cons (Mid := fun z => z[3]? = some (.om (km (mapG iD (oneMore l S B))))) (sx_mono (sx_for (items := itemsD (mapG iD S)) (I := fun i z => ∃ u v y t q r, z = [.d (.r a), .m (km (mapG iD S)), .m (km (mapG bD B)), .om (km (mapG iD ((S.take i).foldl (omOut l B) []))), u, v, y, t, q, r]) (ix_items (fx_m 1)) ⟨.no, .no, .no, .no, .no, .no, rfl⟩ (fun i d Hb s1 hd e hI => ?_)) ?_) fun s1 q1 => bx_one (sx_retM 3 q1 rfl)
  · obtain ⟨u, v, y, t, q, r, rfl⟩ := hI
    obtain ⟨p, hp, rfl⟩ := items_get iD hd
    have hi := (List.getElem?_eq_some_iff.mp hp).1
    refine ⟨_, _, gx_tup2 4 5 sc_one_more.nd, ?_⟩
    refine bx_one (sx_mono (sx_for (items := itemsD (mapG bD B)) (I := fun j z => ∃ y t q r, z = [.d (.r a), .m (km (mapG iD S)), .m (km (mapG bD B)), .om (km (mapG iD ((B.take j).foldl (omIn l p) ((S.take i).foldl (omOut l B) [])))), .d (keyD p.1), .d (.i p.2), y, t, q, r]) (ix_items (fx_m 2)) ⟨y, t, q, r, rfl⟩ (fun j d Hb' s2 hd2 e2 hI2 => ?_)) ?_)
    · obtain ⟨y, t, q, r, rfl⟩ := hI2
      obtain ⟨b, hb, rfl⟩ := items_get bD hd2
      have hj := (List.getElem?_eq_some_iff.mp hb).1
      have SA2 := (SA.mono e).mono e2
      generalize hacc : (B.take j).foldl (omIn l p) ((S.take i).foldl (omOut l B) []) = acc
      have hlen : acc.length < 100000 := by
        have h1 := omIn_len l p (B.take j) ((S.take i).foldl (omOut l B) [])
        have h2 := omOut_len l B (S.take i) []
        rw [hacc] at h1
        rw [List.length_take, Nat.min_eq_left (by omega)] at h1 h2
        have h3 : i * B.length ≤ 300 * 300 := Nat.mul_le_mul (by omega) hB
        rw [List.length_nil] at h2
        omega
      refine ⟨_, _, gx_tup2 6 7 sc_one_more.nd, ?_⟩
      refine bx_step (sx_par 8 9 (k := .d (tupI (addI p.1 b.1 (spans l)))) (l := .d (.i (p.2 + b.2.1))) (ex_meth (ex_var 0) SA2.2 (c_States T) (m_States_added T) rfl (ok_States_added T) hr (ea_cons (ex_var 4) (ex_one1 (ex_var 6))) fun H e' => ⟨st, l, a, p.1, b.1, SA2.mono e', kS p (List.mem_of_getElem? hp), kB b (List.mem_of_getElem? hb), rfl, rfl⟩) (ex_add (ex_var 5) (ex_t0 (l := [.i 0, .i b.2.2]) (ex_var 7))) rfl sc_one_more.nd rfl) ?_
      have hnext : (B.take (j + 1)).foldl (omIn l p) ((S.take i).foldl (omOut l B) []) = upG acc (addI p.1 b.1 (spans l)) (p.2 + b.2.1) := by
        rw [foldl_take _ _ hb, hacc]
        rfl
      cases hg : getG acc (addI p.1 b.1 (spans l)) with
      | none =>
        have g2 : getG (mapG iD acc) (addI p.1 b.1 (spans l)) = none := by rw [getG_mapG, hg]; rfl
        refine bx_one (sx_mono (sx_yes (et_to (ew_or (x := true) (y := true) (et_to (et_notInM (l := mapG iD acc) hr.units (ex_var 8) (dx_om 3)) (by rw [g2]; rfl)) (fun z => nomatch z)).t rfl) (bx_one (sx_dput (l := mapG iD acc) (k := addI p.1 b.1 (spans l)) (d := iD (p.2 + b.2.1)) 3 hr.units (ex_var 9) (ex_var 8) (by rw [mapG_len]; omega)))) ?_)
        rintro _ rfl
        rw [hnext, putG_mapG]
        have : upG acc (addI p.1 b.1 (spans l)) (p.2 + b.2.1) = putG acc (addI p.1 b.1 (spans l)) (p.2 + b.2.1) := by
          unfold upG
          rw [hg]
        rw [this]
        exact ⟨_, _, _, _, rfl⟩
      | some v0 =>
        have g2 : getG (mapG iD acc) (addI p.1 b.1 (spans l)) = some (iD v0) := by rw [getG_mapG, hg]; rfl
        refine bx_one (sx_mono (sx_if (Nx := fun z => z = [.d (.r a), .m (km (mapG iD S)), .m (km (mapG bD B)), .om (km (mapG iD (upG acc (addI p.1 b.1 (spans l)) (p.2 + b.2.1)))), .d (keyD p.1), .d (.i p.2), .d (keyD b.1), .d (bD b.2), .d (tupI (addI p.1 b.1 (spans l))), .d (.i (p.2 + b.2.1))]) (x := decide (v0 < p.2 + b.2.1)) (et_to (ew_or (x := false) (y := decide (v0 < p.2 + b.2.1)) (et_to (et_notInM (l := mapG iD acc) hr.units (ex_var 8) (dx_om 3)) (by rw [g2]; rfl)) fun _ => ew_or1 (et_lt (ex_dget (l := mapG iD acc) hr.units (dx_om 3) (ex_var 8) g2) (ex_var 9))).t rfl) (fun z => bx_one (sx_mono (sx_dput (l := mapG iD acc) (k := addI p.1 b.1 (spans l)) (d := iD (p.2 + b.2.1)) 3 hr.units (ex_var 9) (ex_var 8) (by rw [mapG_len]; omega)) ?_)) fun z => bx_nil ?_) ?_)
        · rintro _ rfl
          rw [putG_mapG]
          have : upG acc (addI p.1 b.1 (spans l)) (p.2 + b.2.1) = putG acc (addI p.1 b.1 (spans l)) (p.2 + b.2.1) := by
            unfold upG
            rw [hg]
            exact if_pos (of_decide_eq_true z)
          rw [this]
          rfl
        · have : upG acc (addI p.1 b.1 (spans l)) (p.2 + b.2.1) = acc := by
            unfold upG
            rw [hg]
            exact if_neg (of_decide_eq_false z)
          rw [this]
          rfl
        · rintro _ rfl
          rw [hnext]
          exact ⟨_, _, _, _, rfl⟩
    · rintro z ⟨y, t, q, r, rfl⟩
      rw [items_len, List.take_length, foldl_take (omOut l B) _ hp]
      exact ⟨_, _, _, _, _, _, rfl⟩
  · rintro z ⟨u, v, y, t, q, r, rfl⟩
    rw [items_len, List.take_length]
    rfl
theorem ok_greatest_gap (T : Tx K mg) : OkF P w K mg base 8 (He.ga K "greatest_gap") ["states", "sums"] (spC fun H ks k => ∃ s l a, ∃ (S : Sums) (m : Int), StAt K s l H a ∧ S.length ≤ 300 ∧ (∀ p ∈ S, p.1.length = l.length) ∧ (∀ p ∈ S, ∀ n ∈ p.1, n.natAbs < 1000000000) ∧ Top (gapsOf l S) m ∧ ks = [.d (.r a), .rm (km (mapG iD S))] ∧ k = .d (.i (m / (botN l : Nat)))) := by
  refine ok_fr (f_greatest_gap T) sc_greatest_gap (fun _ _ _ _ _ _ us hl => match us, hl with | [_, _], _ => rfl) (by decide) (fun H ks k ⟨_, _, _, _, _, _, _, _, _, _, h, _⟩ => by rw [h]; rfl) (fun cdv A outer s H E ks k hr h => ?_)
  obtain ⟨st, l, a, S, m, SA, hS, kS, bS, tp, rfl, rfl⟩ := h
  have bb := botN_bd SA.1.2.1
  refine bx_one (sx_ret (ex_fdiv (ex_max (ns := gapsOf l S) (ex_to (ex_lcB [("state", 2), ("weight", 3)] (fun i => .i ((gapsOf l S).getD i 0)) sc_greatest_gap.nd (ix_items (fx_m 1)) (by rw [items_len]; omega) fun i d Hb q e => ?_) ?_) (.inr rfl) tp (n_max T)) (ex_fldD (ex_var 0) SA.2 (c_States T) (no_States_bottom T) rfl) ⟨by omega, by omega⟩) rfl)
  · obtain ⟨p, hp, rfl⟩ := items_get iD q
    have hm := List.mem_of_getElem? hp
    refine ⟨[2, 3], _, by simp, fun s H C cl fp => gx_tup2 2 3 sc_greatest_gap.nd, fun s H C cl fp => ex_to (ex_add (ex_var 3) (ex_meth (ex_var 0) (SA.mono e).2 (c_States T) (m_States_base T) rfl (ok_States_base T) (by exact hr) (ex_one1 (ex_var 2)) fun H e' => ⟨st, l, a, p.1, (SA.mono e).mono e', kS p hm, bS p hm, rfl, rfl⟩)) ?_⟩
    rw [List.getD_eq_getElem?_getD]
    simp [gapsOf, hp]
  · rw [items_len, getD_ints (ns := gapsOf l S) (by simp [gapsOf])]
theorem ok_states_of (T : Tx K mg) : OkF P w K mg base 8 (He.ga K "states_of") ["book"] (spC fun H ks k => ∃ a o v, BookAt K o v H a ∧ ks = [.d (.r a)] ∧ k = .o (StAt K (orO o v) [((a, o, v), 1)])) := by
  refine ok_fr (f_states_of T) sc_states_of (fun _ _ _ _ _ _ us hl => match us, hl with | [_], _ => rfl) (by decide) (fun H ks k ⟨_, _, _, _, h, _⟩ => by rw [h]; rfl) (fun cdv A outer s H E ks k hr h => ?_)
  obtain ⟨a, o, v, B, rfl, rfl⟩ := h
  have pp := perN_pos v
  refine bx_step (sx_expr (ex_call (ok_check_size T) (hr.mono (by decide)) (g_check_size T) (ea_rd (ks := [.nl (bkD [(a, o, v)])]) (ex_one1 (ex_lst (l := bkD [(a, o, v)]) (ex_one1 (ex_var 0)) (by simp [bkD])))) fun H e => ⟨orO o v, [(a, o, v)], by simp, fun x hx => ?_, by simp [szs]; omega, rfl, rfl⟩)) ?_
  · obtain rfl := List.mem_singleton.mp hx
    exact ⟨B.mono e, rfl⟩
  · refine bx_one (sx_ret (ex_make (mk_States T) (ok_States_init T) hr (g_States T) (ea_rd (ks := [.nl (sideD [((a, o, v), 1)])]) (ex_one1 (ex_lst (l := sideD [((a, o, v), 1)]) (ex_one1 (ex_tup (l := [.r a, .i 1]) (ea_cons (ex_var 0) (ex_one1 ex_int)))) (by simp [sideD])))) fun H e => ⟨orO o v, [((a, o, v), 1)], ⟨by simp, by simp, fun x hx => ?_⟩, rfl, rfl⟩) rfl)
    obtain rfl := List.mem_singleton.mp hx
    exact ⟨B.mono e, rfl⟩
theorem plusI_get {a b : List Int} {i : Nat} {x y : Int} (h1 : a[i]? = some x) (h2 : b[i]? = some y) : (plusI a b)[i]? = some (x + y) := by
  unfold plusI
  have e : (a.zip b)[i]? = some (x, y) := List.getElem?_zip_eq_some.mpr ⟨h1, h2⟩
  rw [List.getElem?_map, e]
  rfl
theorem plusI_mem {a b : List Int} {n : Int} (h : n ∈ plusI a b) : ∃ x ∈ a, ∃ y ∈ b, n = x + y := by
  unfold plusI at h
  obtain ⟨p, hp, rfl⟩ := List.mem_map.mp h
  exact ⟨p.1, (List.of_mem_zip hp).1, p.2, (List.of_mem_zip hp).2, rfl⟩
theorem ok_gain_of (T : Tx K mg) : OkF P w K mg base 5 (He.ga K "gain_of") ["states", "one", "other"] (spC fun H ks k => ∃ s l a, ∃ (x y : List Int), StAt K s l H a ∧ x.length = l.length ∧ y.length = l.length ∧ (∀ n ∈ x, n.natAbs < 100000000) ∧ (∀ n ∈ y, n.natAbs < 100000000) ∧ ks = [.d (.r a), .d (tupI x), .d (tupI y)] ∧ k = .d (.i (gapI l x + gapI l y - gapI l (plusI x y)))) := by
  refine ok_fr (f_gain_of T) sc_gain_of (fun _ _ _ _ _ _ us hl => match us, hl with | [_, _, _], _ => rfl) (by decide) (fun H ks k ⟨_, _, _, _, _, _, _, _, _, _, h, _⟩ => by rw [h]; rfl) (fun cdv A outer s H E ks k hr h => ?_)
  obtain ⟨st, l, a, x, y, SA, hx, hy, bx, byy, rfl, rfl⟩ := h
  have hl2 : (intsD y).length = (intsD x).length := by rw [intsD_len, intsD_len, hx, hy]
  have h2 := SA.1.2.1
  refine bx_step (sx_set 5 (k := .d (tupI (plusI x y))) (ex_to (ex_tupL (ex_lcB [("mine", 3), ("theirs", 4)] (fun i => .i ((plusI x y).getD i 0)) sc_gain_of.nd (ix_zip2 (l1 := intsD x) (l2 := intsD y) (eas_cons (es_tup (ex_var 1)) (eas_cons (es_tup (ex_var 2)) eas_nil)) hl2 (n_zip T)) ?_ fun i d Hb q e => ?_) (.inr rfl) (n_tuple T)) ?_) sc_gain_of.nd) ?_
  · rw [zip2D_len hl2, intsD_len]
    omega
  · have hi : i < x.length := by
      have := (List.getElem?_eq_some_iff.mp q).1
      rw [zip2D_len hl2, intsD_len] at this
      exact this
    have g1 : (intsD x)[i]? = some (.v (.int x[i])) := by simp [intsD, hi]
    have g2 : (intsD y)[i]? = some (.v (.int (y[i]'(by omega)))) := by simp [intsD, show i < y.length by omega]
    rw [zip2D_get g1 g2] at q
    obtain rfl := Option.some.inj q
    refine ⟨[3, 4], _, by simp, fun s H C cl fp => gx_tup2 3 4 sc_gain_of.nd, fun s H C cl fp => ex_to (ex_add (ex_var 3) (ex_var 4)) ?_⟩
    have g4 := plusI_get (a := x) (b := y) (i := i) (List.getElem?_eq_getElem hi) (List.getElem?_eq_getElem (by omega))
    rw [List.getD_eq_getElem?_getD, g4]
    rfl
  · rw [zip2D_len hl2, intsD_len, getD_ints (ns := plusI x y) (by simp [plusI, hx, hy])]
  · refine bx_one (sx_ret (ex_sub (ex_add (ex_meth (ex_var 0) SA.2 (c_States T) (m_States_gap T) rfl (ok_States_gap T) hr (ex_one1 (ex_var 1)) fun H e => ⟨st, l, a, x, SA.mono e, hx, fun n hn => by have := bx n hn; omega, rfl, rfl⟩) (ex_meth (ex_var 0) SA.2 (c_States T) (m_States_gap T) rfl (ok_States_gap T) hr (ex_one1 (ex_var 2)) fun H e => ⟨st, l, a, y, SA.mono e, hy, fun n hn => by have := byy n hn; omega, rfl, rfl⟩)) (ex_meth (ex_var 0) SA.2 (c_States T) (m_States_gap T) rfl (ok_States_gap T) hr (ex_one1 (ex_var 5)) fun H e => ⟨st, l, a, plusI x y, SA.mono e, by simp [plusI, hx, hy], fun n hn => ?_, rfl, rfl⟩)) rfl)
    obtain ⟨u, hu, v, hv, rfl⟩ := plusI_mem hn
    have := bx u hu
    have := byy v hv
    omega
theorem ok_is_led_on (T : Tx K mg) : OkF P w K mg base 2 (He.ga K "is_led_on") ["states", "sums", "later", "move", "most"] (spC fun H ks k => ∃ s l a, ∃ (S L : Sums) (mv : List Int) (mo : Int), StAt K s l H a ∧ S.length ≤ 300 ∧ (∀ p ∈ S, p.1.length = l.length) ∧ mv.length = l.length ∧ ks = [.d (.r a), .rm (km (mapG iD S)), .rm (km (mapG iD L)), .d (tupI mv), .d (.i mo)] ∧ k = .d (.b (decide (S.length = L.length) && S.all fun p => decide (getG L (addI p.1 mv (spans l)) = some (p.2 + mo))))) := by
  refine ok_fr (f_is_led_on T) sc_is_led_on (fun _ _ _ _ _ _ us hl => match us, hl with | [_, _, _, _, _], _ => rfl) (by decide) (fun H ks k ⟨_, _, _, _, _, _, _, _, _, _, _, h, _⟩ => by rw [h]; rfl) (fun cdv A outer s H E ks k hr h => ?_)
  obtain ⟨st, l, a, S, L, mv, mo, SA, hS, kS, hm, rfl, rfl⟩ := h
  refine bx_guard (x := !decide (S.length = L.length)) (et_to (et_ne (ex_lenM rfl (fx_m 1) (n_len T)) (ex_lenM rfl (fx_m 2) (n_len T))) ?_) (fun q => bx_one (sx_ret ex_bl ?_)) fun q => ?_
  · rw [mapG_len, mapG_len]
    congr 1
    simp
    constructor <;> intro h <;> omega
  · have : decide (S.length = L.length) = false := by simpa using q
    rw [this]
    rfl
  · have hq : decide (S.length = L.length) = true := by simpa using q
    rw [hq, Bool.true_and]
    refine bx_one (sx_ret (ex_to (ex_all (bs := S.map fun p => decide (getG L (addI p.1 mv (spans l)) = some (p.2 + mo))) (ex_to (ex_lcB [("state", 5), ("total", 6)] (fun i => .b ((S.map fun p => decide (getG L (addI p.1 mv (spans l)) = some (p.2 + mo))).getD i false)) sc_is_led_on.nd (ix_items (fx_m 1)) (by rw [items_len]; omega) fun i d Hb q e => ?_) ?_) (.inr rfl) (n_all T)) ?_) rfl)
    · obtain ⟨p, hp, rfl⟩ := items_get iD q
      have hmm := List.mem_of_getElem? hp
      have sc : scal (match optD (getG (mapG iD L) (addI p.1 mv (spans l))) with | .v x => x | _ => .non) (.int (p.2 + mo)) = true := by
        rw [getG_mapG]
        cases getG L (addI p.1 mv (spans l)) <;> rfl
      have ev : optD (getG (mapG iD L) (addI p.1 mv (spans l))) = .v (match getG L (addI p.1 mv (spans l)) with | none => .non | some x => .int x) := by
        rw [getG_mapG]
        cases getG L (addI p.1 mv (spans l)) <;> rfl
      refine ⟨[5, 6], _, by simp, fun s H C cl fp => gx_tup2 5 6 sc_is_led_on.nd, fun s H C cl fp => ex_to (ex_eq (x := match getG L (addI p.1 mv (spans l)) with | none => .non | some x => .int x) (ex_to (ex_dget1 (l := mapG iD L) (k := addI p.1 mv (spans l)) hr.units (dx_m 2) (ex_meth (ex_var 0) (SA.mono e).2 (c_States T) (m_States_added T) rfl (ok_States_added T) (by exact hr) (ea_cons (ex_var 5) (ex_one1 (ex_var 3))) fun H e' => ⟨st, l, a, p.1, mv, (SA.mono e).mono e', kS p hmm, hm, rfl, rfl⟩) ⟨rfl, rfl, rfl, rfl⟩) (by rw [ev])) (ex_add (ex_var 6) (ex_var 4)) ?_) ?_⟩
      · cases getG L (addI p.1 mv (spans l)) <;> rfl
      · rw [List.getD_eq_getElem?_getD]
        simp only [List.getElem?_map, hp, Option.map_some, Option.getD_some]
        congr 4
        cases getG L (addI p.1 mv (spans l)) with
        | none => simp
        | some x => simp
    · rw [items_len]
      congr 1
      refine List.ext_getElem? fun j => ?_
      by_cases hj : j < S.length
      · simp [hj]
      · rw [List.getElem?_eq_none (by simp; omega), List.getElem?_eq_none (by simp; omega)]
    · rw [List.all_map]
      rfl
end
end K44
end

section
-- text V15
set_option Elab.async false
set_option linter.all false
set_option maxRecDepth 100000
set_option maxHeartbeats 4000000
namespace K44
open PySem PySem.Spec L2
open Evl (Ex)
/-! lists of tuples of ints as data -/
theorem ints_ok (k : List Int) : okPs (intsD k) = true := by
  induction k with
  | nil => rfl
  | cons n k ih =>
    show (okP (.v (.int n)) && okPs (intsD k)) = true
    rw [ih]
    rfl
theorem keys_ok (ks : List (List Int)) : okPs (ks.map fun k => keyD k) = true := by
  induction ks with
  | nil => rfl
  | cons k ks ih =>
    show (okP (.tup (intsD k)) && okPs (ks.map fun k => keyD k)) = true
    rw [ih]
    simp [okP, ints_ok]
theorem ints_lay (k : List Int) : PyData.canLayAll0 (toPs (intsD k)) = true ∧ PyData.depthAll (toPs (intsD k)) = 0 := by
  induction k with
  | nil => simp [intsD, toPs, PyData.canLayAll0, PyData.depthAll]
  | cons n k ih =>
    have e : toPs (intsD (n :: k)) = .int n :: toPs (intsD k) := by simp [intsD, toPs, toP]
    rw [e]
    simp [PyData.canLayAll0, PyData.canLay0, PyData.depthAll, PyData.depth, ih]
theorem keys_lay (ks : List (List Int)) : PyData.canLayAll0 (toPs (ks.map fun k => keyD k)) = true ∧ PyData.depthAll (toPs (ks.map fun k => keyD k)) ≤ 1 := by
  induction ks with
  | nil => simp [toPs, PyData.canLayAll0, PyData.depthAll]
  | cons k ks ih =>
    have e : toPs ((k :: ks).map fun k => keyD k) = .tuple (toPs (intsD k)) :: toPs (ks.map fun k => keyD k) := by simp [toPs, toP]
    have h := ints_lay k
    rw [e]
    simp only [PyData.canLayAll0, PyData.canLay0, PyData.depthAll, PyData.depth, h.1, h.2, ih.1, Bool.and_self, true_and]
    have := ih.2
    omega
theorem keys_shaped (ks : List (List Int)) : SeqAt.shaped (kP (.r (ks.map fun k => keyD k))) = true := by
  have h := keys_lay ks
  show (PyData.canLay0 (.list (toPs (ks.map fun k => keyD k))) && decide (PyData.depth (.list (toPs (ks.map fun k => keyD k))) ≤ 64)) = true
  rw [show PyData.canLay0 (.list (toPs (ks.map fun k => keyD k))) = true by simp [PyData.canLay0, h.1], Bool.true_and]
  exact decide_eq_true (by simp [PyData.depth]; omega)
theorem keys_eqv (ks : List (List Int)) : PyData.eqv (kP (.r (ks.map fun k => keyD k))) (kP (.nl [])) = decide (ks = []) := by
  cases ks with
  | nil => simp [kP, toPs, PyData.eqv, PyData.eqvAll]
  | cons k ks => simp [kP, toPs, toP, PyData.eqv, PyData.eqvAll]
/-! what is reached, one group -/
def vD (n : Nat) : Dt := if n = 0 then .tup [] else .tup [lineD n]
def fD (c : Nat) : DT' := (List.range c).map fun n : Nat => ([(n : Int)], vD n)
theorem fD_get (t : Nat) : ∀ c : Nat, getG (fD c) [(t : Int)] = if t < c then some (vD t) else none
  | 0 => rfl
  | c + 1 => by
    have app : ∀ (l m : DT') (k : List Int), getG (l ++ m) k = match getG l k with | some d => some d | none => getG m k := by
      intro l m k
      induction l with
      | nil => rfl
      | cons p l ih =>
        rw [List.cons_append, getG_cons, getG_cons]
        by_cases h : p.1 = k
        · rw [if_pos h, if_pos h]
        · rw [if_neg h, if_neg h, ih]
    have e : fD (c + 1) = fD c ++ [([(c : Int)], vD c)] := by unfold fD; rw [List.range_succ, List.map_append]; rfl
    rw [e, app, fD_get t c, getG_cons, getG_nil]
    by_cases h : t < c
    · rw [if_pos h, if_pos (show t < c + 1 by omega)]
    · rw [if_neg h]
      by_cases h2 : t = c
      · subst h2
        rw [if_pos (show t < t + 1 by omega)]
        simp
      · have hne : ¬ [(c : Int)] = [(t : Int)] := by simp; omega
        rw [if_neg (show ¬ t < c + 1 by omega)]
        show (if [(c : Int)] = [(t : Int)] then some (vD c) else none) = none
        rw [if_neg hne]
theorem fD_put (c : Nat) : putG (fD c) [(c : Int)] (vD c) = fD (c + 1) := by
  unfold putG
  have : ((fD c).any fun p => decide (p.1 = [(c : Int)])) = false := by
    rw [List.any_eq_false]
    intro p hp
    unfold fD at hp
    obtain ⟨n, hn, rfl⟩ := List.mem_map.mp hp
    have := List.mem_range.mp hn
    simp
    omega
  rw [this, if_neg (by simp)]
  unfold fD
  rw [List.range_succ, List.map_append]
  rfl
theorem fD_len (c : Nat) : (fD c).length = c := by simp [fD]
def freshK (c : Nat) : List (List Int) := (List.range (c - 1)).map fun n : Nat => [((n + 1 : Nat) : Int)]
theorem freshK_succ {c : Nat} (h : 1 ≤ c) : freshK (c + 1) = freshK c ++ [[(c : Int)]] := by
  unfold freshK
  rw [show c + 1 - 1 = (c - 1) + 1 by omega, List.range_succ, List.map_append]
  simp
  omega
section
variable {X : Cx} {H0 : Hp} {ss : List Sl} {pos p1 p2 : Pos} {Nx : List Sl → Prop} {Rt : Kd → Prop}
theorem ex_fldR {o : Expr} {f : Str} {a C : Addr} {l : List (Str × Kd)} {xs : List Dt} (he : EX X H0 ss o (.d (.v (.ref a)))) (O : ObjAt H0 a C l) (c : Cls X.K C) (n : NoAttr X.K C f) (hl : l.lookup f = some (.r xs))
    (hb : attributeBase o f X.env (eval o X.env) = eval o X.env := by rfl) : EX X H0 ss (.Attribute o f pos) (.r xs) := ex_fld he O c n hl hb
/-- x = y, y a list that no slot owns -/
theorem sx_alias {x y : Str} {xs : List Dt} (i j : Nat) (hs : ss[j]? = some (.l xs)) (hN : X.N.Nodup) (hi : X.N[i]? = some x := by rfl) (hj : X.N[j]? = some y := by rfl) (hx : Loc X.env.scope x := by first | exact Or.inl rfl | exact Or.inr rfl)
    (hv : Vis X.env.scope y := by first | exact Or.inl rfl | exact Or.inr (Or.inl rfl) | exact Or.inr (Or.inr rfl)) (hd : (y == ("__debug__" : Str)) = false := by decide) (hcd : (y == ("__classdict__" : Str)) = false := by decide)
    (hsw : swapsWith (.Name y p2) (some (.Name x p1)) pos.line X.env = pure false := by rfl) (hf : X.fn x = true ∨ X.env.scope.names.lookup x = some .local := by first | exact .inl rfl | exact .inr rfl) :
    SX X H0 (.Assign [.Name x p1] (.Name y p2) pos) ss (fun s => s = ss.set i (.l xs)) Rt := fun σ H D S n r => by
  obtain ⟨v, ev, p, rfl, hl⟩ := S.get hs (by intro z; cases z)
  refine ⟨_, ps_set (i := i) hN hi hx (pe_var hj hv hd hcd) hsw hf, _, ev, n _ _ H rfl (S.put (s := .l xs) ⟨p, rfl, hl⟩ fun _ k t q hk ek ho eq es => ?_)⟩
  cases eq
  rcases ho with ho | ⟨ho, _⟩
  · by_cases z : k = j
    · subst z
      rw [hs] at ek
      cases ek
      cases ho
    · exact S.sep k j t _ p z ek hs ho rfl es ev
  · cases ho
end
section
variable {P : Program} {w : World} {K : PySem.W.Frag} {mg : Str → Option Value} {base : Heap}
abbrev oneSd (a : Addr) (o v : Option Stp) (sg : Int) : Sd := [((a, o, v), sg)]
def mvN (o v : Option Stp) (n : Nat) : Nat := (ledI o n % (perN v : Int)).toNat
theorem mvN_eq (o v : Option Stp) (n : Nat) : ((mvN o v n : Nat) : Int) = ledI o n % (perN v : Int) := by
  unfold mvN
  exact Int.toNat_of_nonneg (Int.emod_nonneg _ (by have := perN_pos v; omega))
theorem mvN_lt (o v : Option Stp) (n : Nat) : mvN o v n < perN v := by
  have h := mvN_eq o v n
  have := Int.emod_lt_of_pos (ledI o n) (show (0 : Int) < (perN v : Int) by have := perN_pos v; omega)
  omega
theorem lineK_one (a : Addr) (o v : Option Stp) (sg : Int) (n : Nat) : lineK (oneSd a o v sg) n = [((mvN o v n : Nat) : Int)] := by
  rw [mvN_eq]
  rfl
/-- how many are reached by i lines -/
def cAt (v : Option Stp) (i : Nat) : Nat := max 1 (min i (perN v))
theorem cAt_step {o v : Option Stp} (ov : o = none ∨ v = none) {j : Nat} (hj : j < perN (orO o v)) : (mvN o v j < cAt v j ∧ cAt v (j + 1) = cAt v j) ∨ (mvN o v j = cAt v j ∧ cAt v (j + 1) = cAt v j + 1 ∧ j = mvN o v j ∧ j ≠ 0) := by
  rcases ov with rfl | rfl
  · have e : orO none v = v := rfl
    rw [e] at hj
    have m : mvN none v j = j := by
      have h := mvN_eq none v j
      have : ledI none (j : Int) = j := rfl
      rw [this, Int.emod_eq_of_lt (by omega) (by omega)] at h
      omega
    rw [m]
    unfold cAt
    by_cases h : j = 0
    · subst h
      left
      omega
    · right
      omega
  · have m := mvN_lt o none j
    have : perN none = 1 := rfl
    rw [this] at m
    unfold cAt
    rw [this]
    left
    omega
theorem ok_reached (T : Tx K mg) : OkF P w K mg base 8 (He.ga K "reached") ["states"] (spC fun H ks k => ∃ a b o v sg, (o = none ∨ v = none) ∧ StAt K (orO o v) (oneSd b o v sg) H a ∧ ks = [.d (.r a)] ∧ k = .nm (km (fD (perN v)))) := by
  refine ok_fr (f_reached T) sc_reached (fun _ _ _ _ _ _ us hl => match us, hl with | [_], _ => rfl) (by decide) (fun H ks k ⟨_, _, _, _, _, _, _, h, _⟩ => by rw [h]; rfl) (fun cdv A outer s H E ks k hr h => ?_)
  obtain ⟨a, b, o, v, sg, ov, SA, rfl, rfl⟩ := h
  have pv := perN_pos v
  have pp := perN_pos (orO o v)
  have Bb := (SA.1.2.2 _ (List.mem_singleton.mpr rfl)).1
  refine bx_step (sx_set 1 (k := .d (.tup [.s "part"])) (ex_prop (ex_t0 (l := [.i sg]) (ex_ixL (l := sideD (oneSd b o v sg)) (.inl (ex_fldR (ex_var 0) SA.2 (c_States T) (no_States_sides T) rfl)) ex_int ixD0)) Bb.2 (c_Book T) (p_Book_names T) (ok_Book_names T) (hr.mono (by decide)) fun H e => ⟨b, o, v, Bb.mono e, rfl, rfl⟩) sc_reached.nd) ?_
  refine bx_step (sx_parN (k := .nm (km (fD 1))) (l := .nl [tupI [0]]) 2 3 (ex_disp1 (k := [0]) (d := .tup []) hr.units (ex_meth0 (ex_var 0) SA.2 (c_States T) (m_States_empty T) rfl (ok_States_empty T) (hr.mono (by decide)) fun H e => ⟨orO o v, oneSd b o v sg, a, SA.mono e, rfl, rfl⟩) (ex_tup (l := []) ea_nil)) (ex_lst (l := [tupI [0]]) (ex_one1 (ex_meth0 (ex_var 0) SA.2 (c_States T) (m_States_empty T) rfl (ok_States_empty T) (hr.mono (by decide)) fun H e => ⟨orO o v, oneSd b o v sg, a, SA.mono e, rfl, rfl⟩))) rfl sc_reached.nd rfl) ?_
  refine bx_step (sx_setLc (items := (List.range (perN (orO o v))).map (lineDt (oneSd b o v sg))) (own := [("at", 4), ("amount", 5), ("move", 6), ("weight", 7)]) (f := fun n => .tup [lineD n, keyD [((mvN o v n : Nat) : Int)]]) 8 (ix_seq (es_nl (ex_meth0 (ex_var 0) SA.2 (c_States T) (m_States_lines T) rfl (ok_States_lines T) hr fun H e => ⟨orO o v, oneSd b o v sg, a, SA.mono e, rfl, rfl⟩))) (blk_ok (by kernel_rfl)) sc_reached.nd (by rfl) (fun i d Hb q e => ?_) (by simp; omega)) ?_
  · obtain ⟨n, hn, rfl⟩ := getL_map q
    have hi : i < perN (orO o v) := by
      have := (List.getElem?_eq_some_iff.mp hn).1
      simpa using this
    rw [List.getElem?_range hi] at hn
    obtain rfl := Option.some.inj hn
    refine ⟨[4, 5, 6, 7], _, by simp, fun s H C cl fp => gx_tup4 4 5 6 7 sc_reached.nd, fun s H C cl fp => ex_tup (l := [lineD i, keyD [((mvN o v i : Nat) : Int)]]) (ea_cons (ex_tup (l := [.s "part", .i i]) (ea_cons (ex_ixT (l := [.s "part"]) (ex_var 1) (ex_var 4) ixD0) (ex_one1 (ex_var 5)))) (ex_one1 (ex_to (ex_var 6) (by rw [lineK_one]))))⟩
  generalize hst : (List.range ((List.range (perN (orO o v))).map (lineDt (oneSd b o v sg))).length).map (fun n => Dt.tup [lineD n, keyD [((mvN o v n : Nat) : Int)]]) = stp
  have hst2 : stp = (List.range (perN (orO o v))).map (fun n => Dt.tup [lineD n, keyD [((mvN o v n : Nat) : Int)]]) := by rw [← hst]; simp
  refine bx_unown 3 (xs := [tupI [0]]) rfl ?_
  refine bx_unown 8 (xs := stp) rfl ?_
  let Z : Nat → List (List Int) → Sl → Sl → Sl → Sl → Sl → List Sl := fun c fr u m x y z => [.d (.r a), .d (.tup [.s "part"]), .om (km (fD c)), .l (fr.map fun k => keyD k), .no, .no, m, .no, .l stp, u, x, y, z]
  refine bx_cons (Mid := fun s => s[2]? = some (.om (km (fD (perN v))))) (sx_while (m0 := 2) (I := fun m s => ∃ c fr u mm x y z, s = Z c fr u mm x y z ∧ ((m = 2 ∧ c = 1 ∧ fr = [[0]]) ∨ (m = 1 ∧ c = perN v ∧ fr = freshK (perN v)) ∨ (m = 0 ∧ c = perN v ∧ fr = []))) ⟨1, [[0]], .no, .no, .no, .no, .no, rfl, .inl ⟨rfl, rfl, rfl⟩⟩ fun m s1 hI => ?_) fun s1 q1 => bx_one (sx_retM 2 q1 rfl)
  · obtain ⟨c, fr, u, mm, x, y, z, rfl, hc⟩ := hI
    refine ⟨!decide (fr = []), et_neD (k := .r (fr.map fun k => keyD k)) (l := .nl []) hr.units (ex_varL 3 (.inl rfl)) (ex_lst (l := []) ea_nil) (keys_eqv fr) (keys_ok fr) rfl (keys_shaped fr), fun ht => ?_, fun hf => ?_⟩
    · have hne : fr ≠ [] := by simpa using ht
      have plan : ∃ (m' : Nat) (cO : Nat → Nat) (lO : Nat → List (List Int)), m' < m ∧ cO 0 = c ∧ lO 0 = [] ∧ (∀ i, i < fr.length → ∃ (t0 : Nat) (cI : Nat → Nat) (lI : Nat → List (List Int)), fr[i]? = some [(t0 : Int)] ∧ cI 0 = cO i ∧ lI 0 = lO i ∧ cI (perN (orO o v)) = cO (i + 1) ∧ lI (perN (orO o v)) = lO (i + 1) ∧
          ∀ j, j < perN (orO o v) → cI j < 1000 ∧ (lI j).length < 1000 ∧ ((t0 + mvN o v j) % perN v < cI j ∧ cI (j + 1) = cI j ∧ lI (j + 1) = lI j ∨ ((t0 + mvN o v j) % perN v = cI j ∧ cI (j + 1) = cI j + 1 ∧ lI (j + 1) = lI j ++ [[(cI j : Int)]] ∧ t0 = 0 ∧ j = cI j ∧ j ≠ 0))) ∧
          ((m' = 2 ∧ cO fr.length = 1 ∧ lO fr.length = [[0]]) ∨ (m' = 1 ∧ cO fr.length = perN v ∧ lO fr.length = freshK (perN v)) ∨ (m' = 0 ∧ cO fr.length = perN v ∧ lO fr.length = [])) := by
        have cb : ∀ j, cAt v j ≤ 120 ∧ 1 ≤ cAt v j := fun j => by unfold cAt; omega
        have cP : cAt v (perN (orO o v)) = perN v := by
          unfold cAt
          rcases ov with rfl | rfl
          · have : orO none v = v := rfl
            rw [this]
            omega
          · have : perN none = 1 := rfl
            rw [this]
            omega
        have fl : ∀ n, (freshK n).length = n - 1 := fun n => by simp [freshK]
        rcases hc with ⟨rfl, rfl, rfl⟩ | ⟨rfl, rfl, rfl⟩ | ⟨rfl, rfl, rfl⟩
        · refine ⟨1, fun i => if i = 0 then 1 else perN v, fun i => if i = 0 then [] else freshK (perN v), by decide, rfl, rfl, fun i hi => ?_, .inr (.inl ⟨rfl, rfl, rfl⟩)⟩
          have h0 : i = 0 := by simpa using hi
          subst h0
          refine ⟨0, cAt v, fun j => freshK (cAt v j), rfl, by unfold cAt; simp, by unfold cAt; simp; rfl, by rw [cP]; rfl, by show freshK (cAt v _) = _; rw [cP]; rfl, fun j hj => ⟨by have := (cb j).1; omega, by show (freshK (cAt v j)).length < 1000; rw [fl]; have := (cb j).1; omega, ?_⟩⟩
          rw [Nat.zero_add, Nat.mod_eq_of_lt (mvN_lt o v j)]
          rcases cAt_step ov hj with ⟨h1, h2⟩ | ⟨h1, h2, h3, h4⟩
          · exact .inl ⟨h1, h2, by show freshK (cAt v (j + 1)) = _; rw [h2]⟩
          · exact .inr ⟨h1, h2, by show freshK (cAt v (j + 1)) = _; rw [h2, freshK_succ (cb j).2], rfl, by omega, h4⟩
        · refine ⟨0, fun _ => perN v, fun _ => [], by decide, rfl, rfl, fun i hi => ?_, .inr (.inr ⟨rfl, rfl, rfl⟩)⟩
          have hi' : i < perN v - 1 := by rwa [fl] at hi
          refine ⟨i + 1, fun _ => perN v, fun _ => [], by simp [freshK, hi'], rfl, rfl, rfl, rfl, fun j hj => ⟨by show perN v < 1000; omega, by simp, .inl ⟨Nat.mod_lt _ pv.1, rfl, rfl⟩⟩⟩
        · exact absurd rfl hne
      obtain ⟨m', cO, lO, hm, c0, l0, hit, fin⟩ := plan
      have frl : (fr.map fun k => keyD k).length = fr.length := by simp
      refine bx_step (sx_set 9 (k := .nl ((lO 0).map fun k => keyD k)) (ex_to (ex_lst (l := []) ea_nil) (by rw [l0]; rfl)) sc_reached.nd) ?_
      let Y : Nat → List (List Int) → Sl → Sl → Sl → Sl → List Sl := fun c' lt mm x y z => [.d (.r a), .d (.tup [.s "part"]), .om (km (fD c')), .l (fr.map fun k => keyD k), .no, .no, mm, .no, .l stp, .own (lt.map fun k => keyD k), x, y, z]
      have stp_get : ∀ {j : Nat} {d : Dt}, stp[j]? = some d → j < perN (orO o v) ∧ d = .tup [lineD j, keyD [((mvN o v j : Nat) : Int)]] := fun {j d} q => by
        rw [hst2] at q
        obtain ⟨n, hn, rfl⟩ := getL_map q
        have hi : j < perN (orO o v) := by
          have := (List.getElem?_eq_some_iff.mp hn).1
          simpa using this
        rw [List.getElem?_range hi] at hn
        obtain rfl := Option.some.inj hn
        exact ⟨hi, rfl⟩
      have stpl : stp.length = perN (orO o v) := by rw [hst2]; simp
      refine bx_cons (Mid := fun s => ∃ mm x y z, s = Y (cO fr.length) (lO fr.length) mm x y z) (sx_mono (sx_for (items := fr.map fun k => keyD k) (I := fun i s => ∃ mm x y z, s = Y (cO i) (lO i) mm x y z) (ix_seq (es_var 3 rfl)) ⟨mm, x, y, z, by rw [c0]; rfl⟩ (fun i d Hb s1 hd e hI => ?_)) (fun s hs => by rw [frl] at hs; exact hs)) fun s1 q1 => ?_
      · obtain ⟨mm, x, y, z, rfl⟩ := hI
        obtain ⟨k0, hk0, rfl⟩ := getL_map hd
        have hi := (List.getElem?_eq_some_iff.mp hk0).1
        obtain ⟨t0, cI, lI, g1, g2, g3, g4, g5, g6⟩ := hit i hi
        rw [hk0] at g1
        obtain rfl := Option.some.inj g1
        refine ⟨_, _, gx_name 10 sc_reached.nd, ?_⟩
        refine bx_one (sx_mono (sx_for (items := stp) (I := fun j s => ∃ mm y z, s = Y (cI j) (lI j) mm (.d (keyD [(t0 : Int)])) y z) (ix_seq (es_var 8 rfl)) ⟨mm, y, z, by rw [g2, g3]; rfl⟩ (fun j d Hb' s2 hd2 e2 hI2 => ?_)) ?_)
        · obtain ⟨mm, y, z, rfl⟩ := hI2
          obtain ⟨hj, rfl⟩ := stp_get hd2
          obtain ⟨b1, b2, hstep⟩ := g6 j hj
          have SA2 := (SA.mono e).mono e2
          refine ⟨_, _, gx_tup2 11 6 sc_reached.nd, ?_⟩
          have hadd : addI [(t0 : Int)] [((mvN o v j : Nat) : Int)] (spans (oneSd b o v sg)) = [(((t0 + mvN o v j) % perN v : Nat) : Int)] := by
            show [((t0 : Int) + ((mvN o v j : Nat) : Int)) % (perN v : Int)] = _
            rw [Int.natCast_emod, Int.natCast_add]
          refine bx_step (sx_set 12 (k := .d (keyD [(((t0 + mvN o v j) % perN v : Nat) : Int)])) (ex_to (ex_meth (ex_var 0) SA2.2 (c_States T) (m_States_added T) rfl (ok_States_added T) (hr.mono (by decide)) (ea_cons (ex_var 10) (ex_one1 (ex_var 6))) fun H e' => ⟨orO o v, oneSd b o v sg, a, [(t0 : Int)], [((mvN o v j : Nat) : Int)], SA2.mono e', rfl, rfl, rfl, rfl⟩) (by rw [hadd])) sc_reached.nd) ?_
          rcases hstep with ⟨h1, h2, h3⟩ | ⟨h1, h2, h3, rfl, h4, h5⟩
          · refine bx_one (sx_mono (sx_no (et_to (et_notInM (l := fD (cI j)) hr.units (ex_var 12) (dx_om 2)) (by rw [fD_get, if_pos h1]; rfl))) ?_)
            rintro _ rfl
            rw [h2, h3]
            exact ⟨_, _, _, rfl⟩
          · refine bx_one (sx_yes (et_to (et_notInM (l := fD (cI j)) hr.units (ex_var 12) (dx_om 2)) (by rw [fD_get, h1, if_neg (by omega)]; rfl)) ?_)
            have hv : Dt.tup [lineD j] = vD (cI j) := by
              unfold vD
              rw [if_neg (by omega), ← h4]
            refine bx_step (sx_dput (l := fD (cI j)) (k := [(((0 + mvN o v j) % perN v : Nat) : Int)]) (d := .tup [lineD j]) 2 hr.units (ex_tup (l := [lineD j]) (ea_star (l := []) (.inl (ex_dget (l := fD (cI j)) (k := [((0 : Nat) : Int)]) (d := .tup []) hr.units (dx_om 2) (ex_var 10) (by rw [fD_get, if_pos (by omega)]; rfl))) (ex_one1 (ex_var 11)))) (ex_var 12) (by rw [fD_len]; omega)) ?_
            refine bx_one (sx_mono (sx_app 9 (xs := (lI j).map fun k => keyD k) (d := keyD [(((0 + mvN o v j) % perN v : Nat) : Int)]) rfl (ex_var 12) (by rw [List.length_map]; omega)) ?_)
            rintro _ rfl
            have hmap : ((lI (j + 1)).map fun k => keyD k) = ((lI j).map fun k => keyD k) ++ [keyD [(cI j : Int)]] := by rw [h3, List.map_append]; rfl
            show ∃ mm' y' z', (_ : List Sl) = [Sl.d (.r a), Sl.d (.tup [.s "part"]), .om (km (fD (cI (j + 1)))), .l (fr.map fun k => keyD k), .no, .no, mm', .no, .l stp, .own ((lI (j + 1)).map fun k => keyD k), .d (keyD [((0 : Nat) : Int)]), y', z']
            rw [hmap, h2, h1, hv, fD_put]
            exact ⟨_, _, _, rfl⟩
        · rintro s ⟨mm, y, z, rfl⟩
          rw [stpl, g4, g5]
          exact ⟨_, _, _, _, rfl⟩
      · obtain ⟨mm, x, y, z, rfl⟩ := q1
        refine bx_unown 9 (xs := (lO fr.length).map fun k => keyD k) rfl ?_
        refine bx_one (sx_mono (sx_alias 3 9 rfl sc_reached.nd) ?_)
        rintro _ rfl
        exact ⟨m', hm, cO fr.length, lO fr.length, _, _, _, _, _, rfl, fin⟩
    · have hfr : fr = [] := by simpa using hf
      rcases hc with ⟨_, rfl, rfl⟩ | ⟨_, rfl, rfl⟩ | ⟨_, rfl, rfl⟩
      · cases hfr
      · rfl
      · rfl
end
end K44
end

section
-- text V16
set_option Elab.async false
set_option linter.all false
set_option maxRecDepth 100000
set_option maxHeartbeats 4000000
namespace K44
open PySem PySem.Spec L2
open Evl (Ex)
theorem gap_one (a : Addr) (o v : Option Stp) (x : Int) : gapI (oneSd a o v 1) [x] = ledI v x := by
  unfold gapI oneSd
  simp
def dI (v : Option Stp) (i j : Int) : Int := ledI v i + ledI v j - ledI v (i + j)
def gns (p : Nat) (g : Nat → Nat → Int) : List Int := (List.range p).flatMap fun i => (List.range (p - i)).map fun j => g i (i + j)
theorem fkeys (p : Nat) : keysD (fD p) = (List.range p).map fun n : Nat => keyD [(n : Int)] := by
  unfold keysD fD
  rw [List.map_map]
  rfl
theorem fkeys_drop (p i : Nat) : (keysD (fD p)).drop i = (List.range (p - i)).map fun j : Nat => keyD [((i + j : Nat) : Int)] := by
  rw [fkeys]
  refine List.ext_getElem? fun k => ?_
  rw [List.getElem?_drop]
  by_cases h : i + k < p
  · rw [List.getElem?_map, List.getElem?_map, List.getElem?_range h, List.getElem?_range (by omega)]
    rfl
  · rw [List.getElem?_eq_none (by simp; omega), List.getElem?_eq_none (by simp; omega)]
theorem flat_gns (p : Nat) (g : Nat → Nat → Int) (f : Nat → Nat → Dt) (hf : ∀ i j, f i j = .i (g i (i + j))) : flatF p (fun i => (keysD (fD p)).drop i) f = intsD (gns p g) := by
  unfold flatF gns intsD
  rw [List.map_flatMap]
  congr 1
  funext i
  have : ((keysD (fD p)).drop i).length = p - i := by rw [fkeys_drop]; simp
  rw [this, List.map_map]
  refine List.map_congr_left fun j _ => ?_
  rw [hf]
  rfl
theorem gns_len (p : Nat) (g : Nat → Nat → Int) : (gns p g).length ≤ p * p := by
  unfold gns
  have h : ∀ n, n ≤ p → ((List.range n).flatMap fun i => (List.range (p - i)).map fun j => g i (i + j)).length ≤ n * p := by
    intro n
    induction n with
    | zero => intro _; simp
    | succ n ih =>
      intro hn
      rw [List.range_succ, List.flatMap_append, List.length_append, Nat.succ_mul]
      have := ih (by omega)
      simp only [List.flatMap_cons, List.flatMap_nil, List.append_nil, List.length_map, List.length_range]
      omega
  exact h p (Nat.le_refl _)
section
variable {P : Program} {w : World} {K : PySem.W.Frag} {mg : Str → Option Value} {base : Heap}
theorem ok_split_range (T : Tx K mg) : OkF P w K mg base 9 (He.ga K "split_range") ["book"] (spC fun H ks k => ∃ a o v mn mx, BookAt K o v H a ∧ Bot (gns (perN v) fun i j => dI v i j) mn ∧ Top (gns (perN v) fun i j => dI v i j) mx ∧ ks = [.d (.r a)] ∧ k = .d (.tup [.i mn, .i mx])) := by
  refine ok_fr (f_split_range T) sc_split_range (fun _ _ _ _ _ _ us hl => match us, hl with | [_], _ => rfl) (by decide) (fun H ks k ⟨_, _, _, _, _, _, _, _, h, _⟩ => by rw [h]; rfl) (fun cdv A outer s H E ks k hr h => ?_)
  obtain ⟨a, o, v, mn, mx, B, hb, ht, rfl, rfl⟩ := h
  have pv := perN_pos v
  refine bx_step (sx_expr (ex_call (ok_check_book T) (hr.mono (by decide)) (g_check_book T) (ex_one1 (ex_var 0)) fun H e => ⟨a, o, v, B.mono e, rfl, rfl⟩)) ?_
  refine bx_obj (P := StAt K (orO o v) (oneSd a o v 1)) 1 (ex_call (ok_states_of T) hr (g_states_of T) (ex_one1 (ex_var 0)) fun H e => ⟨a, o, v, B.mono e, rfl, rfl⟩) rfl sc_split_range.nd fun sa Hb eb SA => ?_
  refine bx_step (sx_set 2 (k := .nl (keysD (fD (perN v)))) (ex_listM rfl (.inr (ex_call (ok_reached T) hr (g_reached T) (ex_one1 (ex_var 1)) fun H e => ⟨sa, a, o, v, 1, B.1, SA.mono e, rfl, rfl⟩)) (n_list T)) sc_split_range.nd) ?_
  refine bx_unown 2 (xs := keysD (fD (perN v))) rfl ?_
  have kl : (keysD (fD (perN v))).length = perN v := by rw [fkeys]; simp
  have el : (enumD (keysD (fD (perN v)))).length = perN v := by rw [enumD_len, kl]
  have flat := flat_gns (perN v) (fun i j => dI v i j) (fun i j => .i (dI v i (i + j : Nat))) (fun i j => rfl)
  have gl := gns_len (perN v) fun i j => dI v i j
  have ppl : perN v * perN v ≤ 120 * 120 := Nat.mul_le_mul pv.2 pv.2
  refine bx_step (s1 := [.d (.r a), .d (.r sa), .l (keysD (fD (perN v))), .no, .no, .no, .own (intsD (gns (perN v) fun i j => dI v i j))]) (sx_mono (sx_setLc2 (items := enumD (keysD (fD (perN v)))) (inn := fun i => (keysD (fD (perN v))).drop i) (f := fun i j => .i (dI v i (i + j : Nat))) 6 [("at", 3), ("one", 4), ("other", 5)] [5] (by simp) (ix_enum (eas_cons (es_var 2 rfl) eas_nil) (n_enumerate T)) sc_split_range.nd ?_ (fun i d Hb' q e => ?_) (by rfl) (blk_ok (by kernel_rfl))) ?_) ?_
  · rw [el, flat, intsD_len]
    omega
  · have hi : i < perN v := by
      have := (List.getElem?_eq_some_iff.mp q).1
      rw [el] at this
      exact this
    have gk : (keysD (fD (perN v)))[i]? = some (keyD [(i : Int)]) := by rw [fkeys, List.getElem?_map, List.getElem?_range hi]; rfl
    rw [enumD_get gk] at q
    obtain rfl := Option.some.inj q
    refine ⟨[3, 4], _, by simp, fun s H C cl fp => gx_tup2 3 4 sc_split_range.nd, fun s H C cl fp => ex_to (ex_slL (ex_varL 2 (.inl rfl)) (.inl rfl) (eo_some (ex_var 3)) eo_none) (by rw [cut_from (by omega)]), fun j t qt ot => ?_, fun j d1 q1 => ?_⟩
    · match j, qt with
      | 0, qt => cases qt; cases ot
      | 1, qt => cases qt; cases ot
      | 2, qt => cases qt; exact ⟨rfl, by decide⟩
      | 3, qt => cases qt; cases ot
      | 4, qt => cases qt; cases ot
      | 5, qt => cases qt; cases ot
      | 6, qt => cases qt; cases ot
      | j + 7, qt => cases qt
    · have hj : j < perN v - i := by
        have := (List.getElem?_eq_some_iff.mp q1).1
        rw [fkeys_drop] at this
        simpa using this
      rw [fkeys_drop, List.getElem?_map, List.getElem?_range hj] at q1
      obtain rfl := Option.some.inj q1
      refine ⟨[5], _, by simp, fun s H C cl fp => gx_name 5 sc_split_range.nd, fun s H' C cl fp => ex_to (ex_call (ok_gain_of T) (by exact hr.mono (by decide)) (g_gain_of T) (ea_cons (ex_var 1) (ea_cons (ex_var 4) (ex_one1 (ex_var 5)))) fun H e' => ⟨orO o v, oneSd a o v 1, sa, [(i : Int)], [((i + j : Nat) : Int)], (SA.mono e).mono e', rfl, rfl, ?_, ?_, rfl, rfl⟩) ?_⟩
      · intro n hn
        obtain rfl := List.mem_singleton.mp hn
        omega
      · intro n hn
        obtain rfl := List.mem_singleton.mp hn
        omega
      · show Kd.d (.i (gapI (oneSd a o v 1) [(i : Int)] + gapI (oneSd a o v 1) [((i + j : Nat) : Int)] - gapI (oneSd a o v 1) [(i : Int) + ((i + j : Nat) : Int)])) = _
        rw [gap_one, gap_one, gap_one]
        rfl
  · rintro s rfl
    rw [el, flat]
    rfl
  · exact bx_one (sx_ret (ex_tup (l := [.i mn, .i mx]) (ea_cons (ex_min (ns := gns (perN v) fun i j => dI v i j) (ex_varL 6 (.inr rfl)) (.inl rfl) hb (n_min T)) (ex_one1 (ex_max (ns := gns (perN v) fun i j => dI v i j) (ex_varL 6 (.inr rfl)) (.inl rfl) ht (n_max T))))) rfl)
end
end K44
end

section
-- text V17
set_option Elab.async false
set_option linter.all false
set_option maxRecDepth 100000
set_option maxHeartbeats 4000000
namespace K44
open PySem PySem.Spec L2
open Evl (Ex)
def mgKey (o v : Option Stp) (i j : Nat) : List Int := [ledI o ((i + j : Nat) : Int) % (perN v : Int), ledI o i + ledI o j - ledI o ((i + j : Nat) : Int)]
def mgRow (o v : Option Stp) (i : Nat) (acc : DT') (d : Nat) : DT' := putG acc (mgKey o v i (i + d)) (.b true)
def mgOut (o v : Option Stp) (P : Nat) (acc : DT') (i : Nat) : DT' := (List.range (P - i)).foldl (mgRow o v i) acc
def mgD (o v : Option Stp) (P : Nat) : DT' := (List.range P).foldl (mgOut o v P) []
def rowN (o v : Option Stp) (i : Nat) (acc : DT') (n : Nat) : DT' := (List.range n).foldl (mgRow o v i) acc
def outN (o v : Option Stp) (P n : Nat) : DT' := (List.range n).foldl (mgOut o v P) []
theorem rowN_succ (o v : Option Stp) (i : Nat) (acc : DT') (n : Nat) : rowN o v i acc (n + 1) = putG (rowN o v i acc n) (mgKey o v i (i + n)) (.b true) := by
  unfold rowN
  rw [List.range_succ, List.foldl_append]
  rfl
theorem outN_succ (o v : Option Stp) (P n : Nat) : outN o v P (n + 1) = rowN o v n (outN o v P n) (P - n) := by
  unfold outN
  rw [List.range_succ, List.foldl_append]
  rfl
theorem rowN_len (o v : Option Stp) (i : Nat) (acc : DT') : ∀ n, (rowN o v i acc n).length ≤ acc.length + n
  | 0 => Nat.le_refl _
  | n + 1 => by
    have := rowN_len o v i acc n
    rw [rowN_succ]
    have h := putG_len (k := mgKey o v i (i + n)) (v := (.b true : Dt)) (l := rowN o v i acc n)
    omega
theorem outN_len (o v : Option Stp) (P : Nat) : ∀ n, (outN o v P n).length ≤ n * P
  | 0 => by simp [outN]
  | n + 1 => by
    have := outN_len o v P n
    rw [outN_succ, Nat.succ_mul]
    have h := rowN_len o v n (outN o v P n) (P - n)
    omega
theorem putG_mem {α : Type} {k : List Int} {v : α} {l : List (List Int × α)} {p : List Int × α} (h : p ∈ putG l k v) : p ∈ l ∨ p.1 = k ∧ p.2 = v := by
  unfold putG at h
  split at h
  · obtain ⟨q, hq, e⟩ := List.mem_map.mp h
    by_cases z : q.1 = k
    · rw [if_pos z] at e
      subst e
      exact .inr ⟨z, rfl⟩
    · rw [if_neg z] at e
      subst e
      exact .inl hq
  · rcases List.mem_append.mp h with h | h
    · exact .inl h
    · obtain rfl := List.mem_singleton.mp h
      exact .inr ⟨rfl, rfl⟩
theorem rowN_mem (o v : Option Stp) (i : Nat) (acc : DT') : ∀ n p, p ∈ rowN o v i acc n → p ∈ acc ∨ ∃ d, d < n ∧ p.1 = mgKey o v i (i + d)
  | 0, p, h => .inl h
  | n + 1, p, h => by
    rw [rowN_succ] at h
    rcases putG_mem h with h | h
    · rcases rowN_mem o v i acc n p h with h | ⟨d, h1, h2⟩
      · exact .inl h
      · exact .inr ⟨d, by omega, h2⟩
    · exact .inr ⟨n, by omega, h.1⟩
theorem outN_mem (o v : Option Stp) (P : Nat) : ∀ n, n ≤ P → ∀ p, p ∈ outN o v P n → ∃ i j, i < n ∧ i ≤ j ∧ j < P ∧ p.1 = mgKey o v i j
  | 0, _, p, h => by simp [outN] at h
  | n + 1, hn, p, h => by
    rw [outN_succ] at h
    rcases rowN_mem o v n _ _ p h with h | ⟨d, h1, h2⟩
    · obtain ⟨i, j, a, b, c, e⟩ := outN_mem o v P n (by omega) p h
      exact ⟨i, j, by omega, b, c, e⟩
    · exact ⟨n, n + d, by omega, by omega, by omega, h2⟩
section
variable {P : Program} {w : World} {K : PySem.W.Frag} {mg : Str → Option Value} {base : Heap}
theorem ok_merges (T : Tx K mg) : OkF P w K mg base 5 (He.ga K "merges") ["book", "name"] (spC fun H ks k => ∃ a o v, BookAt K o v H a ∧ ks = [.d (.r a), .d (.s "part")] ∧ k = .nl (keysD (mgD o v (perN (orO o v))))) := by
  refine ok_fr (f_merges T) sc_merges (fun _ _ _ _ _ _ us hl => match us, hl with | [_, _], _ => rfl) (by decide) (fun H ks k ⟨_, _, _, _, h, _⟩ => by rw [h]; rfl) (fun cdv A outer s H E ks k hr h => ?_)
  obtain ⟨a, o, v, B, rfl, rfl⟩ := h
  have pv := perN_pos v
  have pp := perN_pos (orO o v)
  refine bx_step (sx_set 2 (k := .d (.i (perN v : Nat))) (ex_ixT (l := [.i (perN v : Nat)]) (ex_meth0 (ex_var 0) B.2 (c_Book T) (m_Book_periods T) rfl (ok_Book_periods T) (hr.mono (by decide)) fun H e => ⟨a, o, v, B.mono e, rfl, rfl⟩) (ex_t1 (ex_meth (ex_var 0) B.2 (c_Book T) (m_Book_kind_at T) rfl (ok_Book_kind_at T) (hr.mono (by decide)) (ex_one1 (ex_var 1)) fun H e => ⟨a, o, v, B.mono e, rfl, rfl⟩)) ixD0) sc_merges.nd) ?_
  refine bx_step (sx_parN (k := .d (.i (perN (orO o v) : Nat))) (l := .nm (km (outN o v (perN (orO o v)) 0))) 3 4 (ex_call (ok_amounts_of T) hr (g_amounts_of T) (ea_rd (ks := [.nl (bkD [(a, o, v)]), .d (.s "part")]) (ea_cons (ex_lst (l := bkD [(a, o, v)]) (ex_one1 (ex_var 0)) (by simp [bkD])) (ex_one1 (ex_var 1)))) fun H e => ⟨orO o v, [(a, o, v)], by simp, fun x hx => by obtain rfl := List.mem_singleton.mp hx; exact ⟨B.mono e, rfl⟩, rfl, rfl⟩) ex_dnew rfl sc_merges.nd rfl) ?_
  refine bx_step (sx_setLc (items := rangeD 0 (2 * perN (orO o v))) (own := [("amount", 5)]) (f := fun n => .i (ledI o n)) 6 (ix_to (ix_range1 (j := (2 * (perN (orO o v) : Nat) : Int)) (ex_mul ex_int (ex_var 3) (.inl ⟨by decide, by decide⟩)) (by omega) (n_range T)) (by first | rfl | (congr 1; omega))) (blk_ok (by kernel_rfl)) sc_merges.nd (by rfl) (fun i d Hb q e => ?_) (by rw [rangeD_len]; omega)) ?_
  · have hi : i < 2 * perN (orO o v) := by
      have := (List.getElem?_eq_some_iff.mp q).1
      rwa [rangeD_len] at this
    rw [rangeD_get hi] at q
    obtain rfl := Option.some.inj q
    exact ⟨[5], _, by simp, fun s H C cl fp => gx_name 5 sc_merges.nd, fun s H C cl fp => ex_meth (ex_var 0) (B.mono e).2 (c_Book T) (m_Book_value T) rfl (ok_Book_value T) (by exact hr) (ea_cons (ex_var 1) (ex_one1 (ex_var 5))) fun H e' => ⟨a, o, v, i, (B.mono e).mono e', by omega, by rw [Int.zero_add], rfl⟩⟩
  generalize hval : (List.range (rangeD 0 (2 * perN (orO o v))).length).map (fun n => Dt.i (ledI o (n : Nat))) = vals
  have vget : ∀ n : Nat, n < 2 * perN (orO o v) → vals[n]? = some (.i (ledI o n)) := fun n hn => by
    rw [← hval, List.getElem?_map, rangeD_len, List.getElem?_range hn]
    rfl
  let Z : DT' → Sl → Sl → Sl → List Sl := fun g x y z => [.d (.r a), .d (.s "part"), .d (.i (perN v : Nat)), .d (.i (perN (orO o v) : Nat)), .om (km g), .no, .own vals, x, y, z]
  refine bx_cons (Mid := fun s => s[4]? = some (.om (km (mgD o v (perN (orO o v)))))) (sx_mono (sx_for (items := rangeD 0 (perN (orO o v))) (I := fun i s => ∃ x y z, s = Z (outN o v (perN (orO o v)) i) x y z) (ix_to (ix_range1 (ex_var 3) (by omega) (n_range T)) (by rw [Int.toNat_natCast])) ⟨.no, .no, .no, rfl⟩ (fun i d Hb s1 hd e hI => ?_)) ?_) fun s1 q1 => bx_one (sx_ret (ex_listM rfl (.inl (dx_om 4 q1)) (n_list T)) rfl)
  · obtain ⟨x, y, z, rfl⟩ := hI
    have hi : i < perN (orO o v) := by
      have := (List.getElem?_eq_some_iff.mp hd).1
      rwa [rangeD_len] at this
    rw [rangeD_get hi] at hd
    obtain rfl := Option.some.inj hd
    refine ⟨_, _, gx_name 7 sc_merges.nd, ?_⟩
    refine bx_one (sx_mono (sx_for (items := rangeD i (perN (orO o v) - i)) (I := fun j s => ∃ y z, s = Z (rowN o v i (outN o v (perN (orO o v)) i) j) (.d (.i i)) y z) (ix_to (ix_range2 (ex_var 7) (ex_var 3) (by omega) (n_range T)) (by congr 1 <;> omega)) ⟨y, z, by rw [Int.zero_add]; rfl⟩ (fun j d Hb' s2 hd2 e2 hI2 => ?_)) ?_)
    · obtain ⟨y, z, rfl⟩ := hI2
      have hj : j < perN (orO o v) - i := by
        have := (List.getElem?_eq_some_iff.mp hd2).1
        rwa [rangeD_len] at this
      rw [rangeD_get hj] at hd2
      obtain rfl := Option.some.inj hd2
      refine ⟨_, _, gx_name 8 sc_merges.nd, ?_⟩
      have len : (rowN o v i (outN o v (perN (orO o v)) i) j).length < 100000 := by
        have h1 := rowN_len o v i (outN o v (perN (orO o v)) i) j
        have h2 := outN_len o v (perN (orO o v)) i
        have h3 : i * perN (orO o v) ≤ 120 * 120 := Nat.mul_le_mul (by omega) pp.2
        omega
      refine bx_step (sx_set 9 (k := .d (.i (ledI o ((i + (i + j) : Nat) : Int)))) (ex_ixL (l := vals) (.inl (ex_varL 6 (.inr rfl))) (ex_add (ex_var 7) (ex_var 8)) (by
        have := ixDn (vget (i + (i + j)) (by omega))
        rw [show ((i : Int) + ((i : Int) + (j : Nat))) = ((i + (i + j) : Nat) : Int) by omega]
        exact this)) sc_merges.nd) ?_
      refine bx_one (sx_mono (sx_dput (l := rowN o v i (outN o v (perN (orO o v)) i) j) (k := mgKey o v i (i + j)) (d := .b true) 4 hr.units ex_bl (ex_tup (l := intsD (mgKey o v i (i + j))) (ea_cons (ex_mod (ex_var 9) (ex_var 2) (by omega)) (ex_one1 (ex_sub (ex_add (ex_ixL (l := vals) (.inl (ex_varL 6 (.inr rfl))) (ex_var 7) (ixDn (vget i (by omega)))) (ex_ixL (l := vals) (d := .i (ledI o ((i + j : Nat) : Int))) (.inl (ex_varL 6 (.inr rfl))) (ex_var 8) (by
        have := ixDn (vget (i + j) (by omega))
        rw [show ((i : Int) + (j : Nat)) = ((i + j : Nat) : Int) by omega]
        exact this))) (ex_var 9)))) (by simp [intsD, mgKey])) len) ?_)
      rintro _ rfl
      rw [rowN_succ]
      exact ⟨_, _, rfl⟩
    · rintro s ⟨y, z, rfl⟩
      rw [rangeD_len, ← outN_succ]
      exact ⟨_, _, _, rfl⟩
  · rintro s ⟨x, y, z, rfl⟩
    rw [rangeD_len]
    rfl
/-- what merging gains, from every state -/
def mrL (v : Option Stp) (M : DT') (p : Nat) : List Int := (List.range p).flatMap fun r : Nat => M.map fun q => ledI v ((r : Int) + q.1.getD 0 0 + q.1.getD 1 0) - ledI v ((r : Int) + q.1.getD 0 0)
theorem mrL_succ (v : Option Stp) (M : DT') (p : Nat) : mrL v M (p + 1) = mrL v M p ++ M.map fun q => ledI v ((p : Int) + q.1.getD 0 0 + q.1.getD 1 0) - ledI v ((p : Int) + q.1.getD 0 0) := by
  unfold mrL
  rw [List.range_succ, List.flatMap_append]
  simp
theorem mrL_len (v : Option Stp) (M : DT') : ∀ p, (mrL v M p).length = p * M.length
  | 0 => by simp [mrL]
  | p + 1 => by rw [mrL_succ, List.length_append, mrL_len v M p, Nat.succ_mul, List.length_map]
theorem mgKey_bd (o v : Option Stp) {i j : Nat} (hi : i < 200) (hj : j < 200) : (mgKey o v i j).length = 2 ∧ ∀ n ∈ mgKey o v i j, n.natAbs < 100000 := by
  refine ⟨rfl, fun n hn => ?_⟩
  have a := ledI_abs o i
  have b := ledI_abs o j
  have c := ledI_abs o ((i + j : Nat) : Int)
  have pv := perN_pos v
  rcases List.mem_cons.mp hn with rfl | hn
  · have h1 := Int.emod_nonneg (ledI o ((i + j : Nat) : Int)) (show (perN v : Int) ≠ 0 by omega)
    have h2 := Int.emod_lt_of_pos (ledI o ((i + j : Nat) : Int)) (show (0 : Int) < (perN v : Int) by omega)
    omega
  · obtain rfl := List.mem_singleton.mp hn
    omega
theorem ok_merge_range (T : Tx K mg) : OkF P w K mg base 9 (He.ga K "merge_range") ["book", "name"] (spC fun H ks k => ∃ a o v mn mx, BookAt K o v H a ∧ perN v * (mgD o v (perN (orO o v))).length < 90000 ∧ Bot (mrL v (mgD o v (perN (orO o v))) (perN v)) mn ∧ Top (mrL v (mgD o v (perN (orO o v))) (perN v)) mx ∧ ks = [.d (.r a), .d (.s "part")] ∧ k = .d (.tup [.i mn, .i mx])) := by
  refine ok_fr (f_merge_range T) sc_merge_range (fun _ _ _ _ _ _ us hl => match us, hl with | [_, _], _ => rfl) (by decide) (fun H ks k ⟨_, _, _, _, _, _, _, _, _, h, _⟩ => by rw [h]; rfl) (fun cdv A outer s H E ks k hr h => ?_)
  obtain ⟨a, o, v, mn, mx, B, hz, hb, ht, rfl, rfl⟩ := h
  have pv := perN_pos v
  have pp := perN_pos (orO o v)
  refine bx_step (sx_expr (ex_call (ok_check_book T) (hr.mono (by decide)) (g_check_book T) (ex_one1 (ex_var 0)) fun H e => ⟨a, o, v, B.mono e, rfl, rfl⟩)) ?_
  refine bx_step (sx_set 2 (k := .d (.i 0)) (ex_t1 (ex_meth (ex_var 0) B.2 (c_Book T) (m_Book_kind_at T) rfl (ok_Book_kind_at T) (hr.mono (by decide)) (ex_one1 (ex_var 1)) fun H e => ⟨a, o, v, B.mono e, rfl, rfl⟩)) sc_merge_range.nd) ?_
  refine bx_obj (P := StAt K (orO o v) (oneSd a o v 1)) 3 (ex_call (ok_states_of T) hr (g_states_of T) (ex_one1 (ex_var 0)) fun H e => ⟨a, o, v, B.mono e, rfl, rfl⟩) rfl sc_merge_range.nd fun sa Hb eb SA => ?_
  have Bb := B.mono eb
  generalize hM : mgD o v (perN (orO o v)) = M at hz hb ht
  have hMk : ∀ q ∈ M, q.1.length = 2 ∧ ∀ n ∈ q.1, n.natAbs < 100000 := fun q hq => by
    rw [← hM] at hq
    obtain ⟨i, j, h1, h2, h3, h4⟩ := outN_mem o v _ _ (Nat.le_refl _) q hq
    rw [h4]
    exact mgKey_bd o v (by omega) (by omega)
  refine bx_step (sx_parN (k := .nl (keysD M)) (l := .nl (intsD [])) 4 5 (ex_to (ex_call (ok_merges T) (hr.mono (by decide)) (g_merges T) (ea_cons (ex_var 0) (ex_one1 (ex_var 1))) fun H e => ⟨a, o, v, Bb.mono e, rfl, rfl⟩) (by rw [hM])) (ex_lst (l := []) ea_nil) rfl sc_merge_range.nd rfl) ?_
  refine bx_unown 4 (xs := keysD M) rfl ?_
  let Z : List Int → Sl → Sl → Sl → Sl → Sl → List Sl := fun g x y z t u => [.d (.r a), .d (.s "part"), .d (.i 0), .d (.r sa), .l (keysD M), .own (intsD g), x, y, z, t, u]
  have kl : (keysD (fD (perN v))).length = perN v := by rw [fkeys]; simp
  have kM : (keysD M).length = M.length := by simp [keysD]
  refine bx_cons (Mid := fun s => s[5]? = some (.own (intsD (mrL v M (perN v))))) (sx_mono (sx_for (items := keysD (fD (perN v))) (I := fun i s => ∃ x y z t u, s = Z (mrL v M i) x y z t u) (ix_keysF (ex_call (ok_reached T) hr (g_reached T) (ex_one1 (ex_var 3)) fun H e => ⟨sa, a, o, v, 1, B.1, SA.mono e, rfl, rfl⟩)) ⟨.no, .no, .no, .no, .no, rfl⟩ (fun i d Hb' s1 hd e hI => ?_)) ?_) fun s1 q1 => bx_one (sx_ret (ex_tup (l := [.i mn, .i mx]) (ea_cons (ex_min (ns := mrL v M (perN v)) (ex_varL 5 (.inr q1)) (.inl rfl) hb (n_min T)) (ex_one1 (ex_max (ns := mrL v M (perN v)) (ex_varL 5 (.inr q1)) (.inl rfl) ht (n_max T))))) rfl)
  · obtain ⟨x, y, z, t, u, rfl⟩ := hI
    have hi : i < perN v := by
      have := (List.getElem?_eq_some_iff.mp hd).1
      rwa [kl] at this
    rw [fkeys, List.getElem?_map, List.getElem?_range hi] at hd
    obtain rfl := Option.some.inj hd
    refine ⟨_, _, gx_name 6 sc_merge_range.nd, ?_⟩
    refine bx_one (sx_mono (sx_for (items := keysD M) (I := fun j s => ∃ y z t u, s = Z (mrL v M i ++ (M.take j).map fun q => ledI v ((i : Int) + q.1.getD 0 0 + q.1.getD 1 0) - ledI v ((i : Int) + q.1.getD 0 0)) (.d (keyD [(i : Int)])) y z t u) (ix_seq (es_var 4 rfl)) ⟨y, z, t, u, by rw [List.take_zero, List.map_nil, List.append_nil]; rfl⟩ (fun j d Hb2 s2 hd2 e2 hI2 => ?_)) ?_)
    · obtain ⟨y, z, t, u, rfl⟩ := hI2
      obtain ⟨q, hq, rfl⟩ := getL_map hd2
      have hj := (List.getElem?_eq_some_iff.mp hq).1
      have hqk := hMk q (List.mem_of_getElem? hq)
      obtain ⟨m, dd, hmd⟩ : ∃ m dd, q.1 = [m, dd] := by
        match hq1 : q.1, hqk.1 with
        | [m, dd], _ => exact ⟨m, dd, rfl⟩
      have bm : m.natAbs < 100000 := hqk.2 m (by rw [hmd]; simp)
      have bd : dd.natAbs < 100000 := hqk.2 dd (by rw [hmd]; simp)
      have SA2 := (SA.mono e).mono e2
      have c0 : cutD [Dt.i (i : Int)] none (some 0) = [] := by simp [cutD, HT.sIx]
      have c1 : cutD [Dt.i (i : Int)] (some 1) none = [] := by simp [cutD, HT.sIx]
      have c2 : cutD [Dt.i ((i : Int) + m)] none (some 0) = [] := by simp [cutD, HT.sIx]
      have c3 : cutD [Dt.i ((i : Int) + m)] (some 1) none = [] := by simp [cutD, HT.sIx]
      rw [hmd]
      refine ⟨_, _, gx_tup2 7 8 sc_merge_range.nd, ?_⟩
      refine bx_step (sx_set 9 (k := .d (tupI [(i : Int) + m])) (ex_tup (l := [.i ((i : Int) + m)]) (ea_star (l := []) (.inl (ex_to (ex_slT (l := [.i (i : Int)]) (ex_var 6) eo_none (eo_some (ex_var 2))) (by rw [c0]))) (ea_cons (ex_add (ex_ixT (l := [.i (i : Int)]) (ex_var 6) (ex_var 2) ixD0) (ex_var 7)) (ea_star (l := []) (.inl (ex_to (ex_slT (l := [.i (i : Int)]) (ex_var 6) (eo_some (ex_add (ex_var 2) ex_int)) eo_none) (by rw [show (0 : Int) + 1 = 1 from rfl, c1]))) ea_nil)))) sc_merge_range.nd) ?_
      refine bx_step (sx_set 10 (k := .d (tupI [(i : Int) + m + dd])) (ex_tup (l := [.i ((i : Int) + m + dd)]) (ea_star (l := []) (.inl (ex_to (ex_slT (l := [.i ((i : Int) + m)]) (ex_var 9) eo_none (eo_some (ex_var 2))) (by rw [c2]))) (ea_cons (ex_add (ex_ixT (l := [.i ((i : Int) + m)]) (ex_var 9) (ex_var 2) ixD0) (ex_var 8)) (ea_star (l := []) (.inl (ex_to (ex_slT (l := [.i ((i : Int) + m)]) (ex_var 9) (eo_some (ex_add (ex_var 2) ex_int)) eo_none) (by rw [show (0 : Int) + 1 = 1 from rfl, c3]))) ea_nil)))) sc_merge_range.nd) ?_
      refine bx_one (sx_mono (sx_app 5 (xs := intsD (mrL v M i ++ (M.take j).map fun q => ledI v ((i : Int) + q.1.getD 0 0 + q.1.getD 1 0) - ledI v ((i : Int) + q.1.getD 0 0))) (d := .i (ledI v ((i : Int) + m + dd) - ledI v ((i : Int) + m))) rfl (ex_to (ex_sub (ex_meth (ex_var 3) SA2.2 (c_States T) (m_States_gap T) rfl (ok_States_gap T) (hr.mono (by decide)) (ex_one1 (ex_var 10)) fun H e' => ⟨orO o v, oneSd a o v 1, sa, [(i : Int) + m + dd], SA2.mono e', rfl, fun n hn => by obtain rfl := List.mem_singleton.mp hn; omega, rfl, rfl⟩) (ex_meth (ex_var 3) SA2.2 (c_States T) (m_States_gap T) rfl (ok_States_gap T) (hr.mono (by decide)) (ex_one1 (ex_var 9)) fun H e' => ⟨orO o v, oneSd a o v 1, sa, [(i : Int) + m], SA2.mono e', rfl, fun n hn => by obtain rfl := List.mem_singleton.mp hn; omega, rfl, rfl⟩)) (by rw [gap_one, gap_one])) ?_) ?_)
      · rw [intsD_len, List.length_append, mrL_len, List.length_map, List.length_take, Nat.min_eq_left (by omega)]
        have h1 : i * M.length + M.length ≤ perN v * M.length := by
          rw [← Nat.succ_mul]
          exact Nat.mul_le_mul hi (Nat.le_refl _)
        omega
      · rintro _ rfl
        rw [map_take _ hq, ← List.append_assoc, ← intsD_snoc, hmd]
        exact ⟨_, _, _, _, rfl⟩
    · rintro s ⟨y, z, t, u, rfl⟩
      rw [kM, List.take_length, ← mrL_succ]
      exact ⟨_, _, _, _, _, rfl⟩
  · rintro s ⟨x, y, z, t, u, rfl⟩
    rw [kl]
    rfl
end
end K44
end

section
-- text V18
set_option Elab.async false
set_option linter.all false
set_option maxRecDepth 100000
set_option maxHeartbeats 4000000
namespace K44
open PySem PySem.Spec L2
open Evl (Ex)
/-! rows -/
def val (hd cy : List Int) (st : Int) (n : Nat) : Int := if n < hd.length then hd.getD n 0 else cy.getD ((n - hd.length) % cy.length) 0 + (((n - hd.length) / cy.length : Nat) : Int) * st
def hRow (xs : List Int) (rise : Int) (k : Nat) : Int := xs.getD (k % xs.length) 0 + ((k / xs.length : Nat) : Int) * rise
theorem hRow_turn {xs : List Int} {rise : Int} (h : 0 < xs.length) (k : Nat) : hRow xs rise (k + xs.length) = hRow xs rise k + rise := by
  unfold hRow
  rw [Nat.add_mod_right, Nat.add_div_right _ h]
  rw [Int.natCast_succ, Int.add_mul, Int.one_mul]
  omega
theorem hRow_turns {xs : List Int} {rise : Int} (h : 0 < xs.length) (k : Nat) : ∀ q : Nat, hRow xs rise (k + q * xs.length) = hRow xs rise k + (q : Int) * rise
  | 0 => by simp
  | q + 1 => by
    rw [Nat.succ_mul, ← Nat.add_assoc, hRow_turn h, hRow_turns h k q, Int.natCast_succ, Int.add_mul, Int.one_mul]
    omega
/-- again, and once more with the rise -/
def longer (xs : List Int) (rise : Int) : List Int := xs ++ xs.map fun n => n + rise
theorem longer_get {xs : List Int} {rise : Int} {k : Nat} (h : k < 2 * xs.length) : (longer xs rise)[k]? = some (hRow xs rise k) := by
  unfold longer hRow
  by_cases hk : k < xs.length
  · rw [List.getElem?_append_left hk, Nat.mod_eq_of_lt hk, Nat.div_eq_of_lt hk]
    simp [hk]
  · have e1 : k % xs.length = k - xs.length := by
      rw [Nat.mod_eq_sub_mod (by omega), Nat.mod_eq_of_lt (by omega)]
    have e2 : k / xs.length = 1 := by
      rw [Nat.div_eq_sub_div (by omega) (by omega), Nat.div_eq_of_lt (by omega)]
    rw [List.getElem?_append_right (by omega), e1, e2]
    have : k - xs.length < xs.length := by omega
    simp [this]
def goesB (xs : List Int) (rise : Int) (s : Nat) : Bool := decide (rise * s % xs.length = 0) && (List.range xs.length).all fun a => decide (hRow xs rise (a + s) = hRow xs rise a + rise * s / xs.length)
theorem goes_step {xs : List Int} {rise : Int} {s : Nat} (h : 0 < xs.length) (g : goesB xs rise s = true) (k : Nat) : hRow xs rise (k + s) = hRow xs rise k + rise * s / xs.length := by
  unfold goesB at g
  obtain ⟨_, g⟩ := Bool.and_eq_true_iff.mp g
  have ga := List.all_eq_true.mp g (k % xs.length) (List.mem_range.mpr (Nat.mod_lt _ h))
  have g1 := of_decide_eq_true ga
  have e := Nat.mod_add_div k xs.length
  have e1 : k + s = (k % xs.length + s) + (k / xs.length) * xs.length := by rw [Nat.mul_comm (k / xs.length)]; omega
  have e2 : k = k % xs.length + (k / xs.length) * xs.length := by rw [Nat.mul_comm (k / xs.length)]; omega
  rw [e1, hRow_turns h, g1]
  have h3 : hRow xs rise k = hRow xs rise (k % xs.length) + ((k / xs.length : Nat) : Int) * rise := by
    have := hRow_turns (rise := rise) h (k % xs.length) (k / xs.length)
    rw [← e2] at this
    exact this
  rw [h3]
  omega
theorem goes_many {xs : List Int} {rise : Int} {s : Nat} (h : 0 < xs.length) (g : goesB xs rise s = true) (k : Nat) : ∀ q : Nat, hRow xs rise (k + q * s) = hRow xs rise k + (q : Int) * (rise * s / xs.length)
  | 0 => by simp
  | q + 1 => by
    rw [Nat.succ_mul, ← Nat.add_assoc, goes_step h g, goes_many h g k q, Int.natCast_succ, Int.add_mul, Int.one_mul]
    omega
theorem hRow_take {xs : List Int} {rise : Int} {s : Nat} (h : 0 < xs.length) (hs : 0 < s) (hs2 : s ≤ xs.length) (g : goesB xs rise s = true) (k : Nat) : hRow (xs.take s) (rise * s / xs.length) k = hRow xs rise k := by
  have e2 : k = k % s + (k / s) * s := by have := Nat.mod_add_div k s; rw [Nat.mul_comm (k / s)]; omega
  have l : (xs.take s).length = s := by rw [List.length_take]; omega
  have m := goes_many h g (k % s) (k / s)
  rw [← e2] at m
  rw [m]
  have lt := Nat.mod_lt k hs
  unfold hRow
  rw [l, Nat.mod_eq_of_lt (show k % s < xs.length by omega), Nat.div_eq_of_lt (show k % s < xs.length by omega)]
  have : (xs.take s).getD (k % s) 0 = xs.getD (k % s) 0 := by
    rw [List.getD_eq_getElem?_getD, List.getD_eq_getElem?_getD, List.getElem?_take, if_pos lt]
  rw [this]
  simp
theorem goes_self {xs : List Int} {rise : Int} (h : 0 < xs.length) : goesB xs rise xs.length = true := by
  unfold goesB
  have e : rise * (xs.length : Int) % (xs.length : Int) = 0 := Int.mul_emod_left _ _
  rw [decide_eq_true e, Bool.true_and, List.all_eq_true]
  intro a _
  rw [Int.mul_ediv_cancel _ (by omega), hRow_turn h]
  exact decide_eq_true rfl
theorem val_h {hd cy : List Int} {st : Int} {n : Nat} : val hd cy st n = if n < hd.length then hd.getD n 0 else hRow cy st (n - hd.length) := rfl
theorem val_take {hd xs : List Int} {rise : Int} {s : Nat} (h : 0 < xs.length) (hs : 0 < s) (hs2 : s ≤ xs.length) (g : goesB xs rise s = true) (n : Nat) : val hd (xs.take s) (rise * s / xs.length) n = val hd xs rise n := by
  rw [val_h, val_h, hRow_take h hs hs2 g]
/-- a turn taken from the early part -/
theorem val_back {es cy : List Int} {st x : Int} {l : Nat} (hl : l < es.length) (hx : es[l]? = some (x - st)) (n : Nat) : val (es.take l) ((x - st) :: cy) st n = val (es.take (l + 1)) (cy ++ [x]) st n := by
  have l1 : (es.take l).length = l := by rw [List.length_take]; omega
  have l2 : (es.take (l + 1)).length = l + 1 := by rw [List.length_take]; omega
  rw [val_h, val_h, l1, l2]
  by_cases h1 : n < l
  · rw [if_pos h1, if_pos (by omega)]
    rw [List.getD_eq_getElem?_getD, List.getD_eq_getElem?_getD, List.getElem?_take, List.getElem?_take, if_pos h1, if_pos (by omega)]
  · rw [if_neg h1]
    by_cases h2 : n = l
    · subst h2
      rw [if_pos (by omega), Nat.sub_self, List.getD_eq_getElem?_getD, List.getElem?_take, if_pos (by omega), hx]
      unfold hRow
      simp
    · rw [if_neg (by omega)]
      obtain ⟨k, hk⟩ : ∃ k, n - l = k + 1 := ⟨n - l - 1, by omega⟩
      have hk2 : n - (l + 1) = k := by omega
      rw [hk, hk2]
      unfold hRow
      have c1 : ((x - st) :: cy).length = cy.length + 1 := rfl
      have c2 : (cy ++ [x]).length = cy.length + 1 := by simp
      rw [c1, c2]
      have hm := Nat.mod_lt k (show 0 < cy.length + 1 by omega)
      by_cases h3 : k % (cy.length + 1) = cy.length
      · have e1 : (k + 1) % (cy.length + 1) = 0 := by
          rw [Nat.add_mod, h3]
          by_cases hc : cy.length = 0
          · rw [hc]
          · rw [Nat.mod_eq_of_lt (show 1 < cy.length + 1 by omega), Nat.mod_self]
        have e2 : (k + 1) / (cy.length + 1) = k / (cy.length + 1) + 1 := by
          have a := Nat.mod_add_div k (cy.length + 1)
          have : k + 1 = (k / (cy.length + 1) + 1) * (cy.length + 1) := by
            rw [Nat.succ_mul, Nat.mul_comm]
            omega
          rw [this, Nat.mul_div_cancel _ (by omega)]
        rw [e1, e2, h3]
        have g1 : ((x - st) :: cy).getD 0 0 = x - st := rfl
        have g2 : (cy ++ [x]).getD cy.length 0 = x := by simp
        rw [g1, g2, Int.natCast_succ, Int.add_mul, Int.one_mul]
        omega
      · have lt : k % (cy.length + 1) < cy.length := by omega
        have a := Nat.mod_add_div k (cy.length + 1)
        have e0 : k + 1 = (k % (cy.length + 1) + 1) + (k / (cy.length + 1)) * (cy.length + 1) := by
          rw [Nat.mul_comm (k / (cy.length + 1))]
          omega
        have e1 : (k + 1) % (cy.length + 1) = k % (cy.length + 1) + 1 := by
          rw [e0, Nat.add_mul_mod_self_right, Nat.mod_eq_of_lt (by omega)]
        have e2 : (k + 1) / (cy.length + 1) = k / (cy.length + 1) := by
          rw [e0, Nat.add_mul_div_right _ _ (by omega), Nat.div_eq_of_lt (by omega), Nat.zero_add]
        rw [e1, e2]
        have g1 : ((x - st) :: cy).getD (k % (cy.length + 1) + 1) 0 = cy.getD (k % (cy.length + 1)) 0 := by simp
        have g2 : (cy ++ [x]).getD (k % (cy.length + 1)) 0 = cy.getD (k % (cy.length + 1)) 0 := by
          rw [List.getD_eq_getElem?_getD, List.getD_eq_getElem?_getD, List.getElem?_append_left lt]
        rw [g1, g2]
theorem val_neg (hd cy : List Int) (st : Int) (n : Nat) : val (hd.map fun x => -x) (cy.map fun x => -x) (-st) n = -val hd cy st n := by
  unfold val
  rw [List.length_map, List.length_map]
  have gd : ∀ (l : List Int) (i : Nat), (l.map fun x => -x).getD i 0 = -(l.getD i 0) := fun l i => by
    rw [List.getD_eq_getElem?_getD, List.getD_eq_getElem?_getD, List.getElem?_map]
    cases l[i]? <;> simp
  rw [gd, gd]
  split
  · rfl
  · rw [Int.mul_neg, Int.neg_add]
abbrev rowL (hd cy : List Int) (st : Int) : List (Str × Kd) := [("head", .d (tupI hd)), ("cycle", .d (tupI cy)), ("step", .d (.i st))]
/-- a row of the numbers g stands at a -/
def RowP (K : PySem.W.Frag) (g : Nat → Int) (H : Hp) (a : Addr) : Prop := ∃ hd cy st, (cy ≠ [] ∧ cy.length ≤ 1000 ∧ hd.length ≤ 50000 ∧ ∀ n, val hd cy st n = g n) ∧ ObjAt H a (He.ga K "Row") (rowL hd cy st)
theorem RowP.mono {K : PySem.W.Frag} {g : Nat → Int} {H H' : Hp} {a : Addr} (e : Ex H H') (h : RowP K g H a) : RowP K g H' a := let ⟨hd, cy, st, x, o⟩ := h; ⟨hd, cy, st, x, o.mono e⟩
section
variable {P : Program} {w : World} {K : PySem.W.Frag} {mg : Str → Option Value} {base : Heap}
theorem ok_check_integers (T : Tx K mg) : OkF P w K mg base 2 (He.ga K "check_integers") ["value", "least"] (spC fun _ ks k => ∃ (xs : List Int) (n : Nat), n ≤ xs.length ∧ xs.length ≤ 90000 ∧ ks = [.d (tupI xs), .d (.i n)] ∧ k = .d (.v .non)) := by
  refine ok_fr (f_check_integers T) sc_check_integers (fun _ _ _ _ _ _ us hl => match us, hl with | [_, _], _ => rfl) (by decide) (fun H ks k ⟨_, _, _, _, h, _⟩ => by rw [h]; rfl) (fun cdv A outer s H E ks k hr h => ?_)
  obtain ⟨xs, n, hn, hx, rfl, rfl⟩ := h
  refine bx_guard (x := false) (et_to (ew_or (x := false) (y := false) (et_to (et_not (et_val (ex_isT (ex_var 0) (n_isinstance T) (n_tuple T)))) rfl) fun _ => ew_or (x := false) (y := false) (et_to (et_lt (ex_len (l := intsD xs) (ex_var 0) (.inl rfl) (n_len T)) (ex_var 1)) (by rw [intsD_len]; exact decide_eq_false (by omega))) fun _ => ew_or1 (et_to (et_not (et_val (ex_all (bs := (List.range xs.length).map fun _ => true) (ex_to (ex_lcB [("number", 2)] (fun _ => .b true) sc_check_integers.nd (ix_seq (l := intsD xs) (es_tup (ex_var 0))) (by rw [intsD_len]; omega) fun i d Hb q e => ?_) ?_) (.inr rfl) (n_all T)))) ?_)).t rfl) (fun q => nomatch q) fun _ => bx_nil rfl
  · obtain ⟨m, _, rfl⟩ := intsD_get q
    exact ⟨[2], _, by simp, fun s H C cl fp => gx_name 2 sc_check_integers.nd, fun s H C cl fp => ex_call (ok_is_integer T) (by exact hr) (g_is_integer T) (ex_one1 (ex_var 2)) fun H _ => ⟨.i m, rfl, rfl, rfl⟩⟩
  · rw [intsD_len, List.map_map]
    rfl
  · simp
end
end K44
end

section
-- text V19
set_option Elab.async false
set_option linter.all false
set_option maxRecDepth 100000
set_option maxHeartbeats 4000000
namespace K44
open PySem PySem.Spec L2
open Evl (Ex)
section
variable {X : Cx} {H0 : Hp} {ss s1 : List Sl} {pos p1 p2 : Pos} {a b c e : Expr} {st : Stmt} {sts : List Stmt} {I I' Post : Hp → Prop} {Nx : List Sl → Prop} {Rt : Kd → Prop}
theorem ea_to {es : List Expr} {ks ks2 : List Kd} (h : EA X H0 ss es ks) (e : ks = ks2) : EA X H0 ss es ks2 := e ▸ h
theorem sx_unown {j : Nat} {xs : List Dt} (h : SX X H0 st ss (fun s => s = s1) Rt) (hs : s1[j]? = some (.own xs)) : SX X H0 st ss (fun s => s = s1.set j (.l xs)) Rt := fun σ H D S n r =>
  h σ H D S (fun s' σ' H' q S' => n _ σ' H' rfl (by subst q; exact S'.unown hs)) r
theorem bi_cons {Mid : List Sl → Prop} (h : ∀ H, I H → SX X H st ss Mid (fun _ => False)) (no : ∀ s, Mid s → noOwnS s = true) (hI : ∀ H H', Ex H H' → I H → I' H') (k : ∀ s, Mid s → BI X sts s I' Post) : BI X (st :: sts) ss I Post := fun σ H D S i n =>
  ⟨_, pss_cons ps_any pb_any, h H i σ H { D with nx := RB X sts D } S (fun s' σ' H' q S' => k s' q σ' H' D (S'.rebase (no s' q)) (hI H H' S'.ex i) n) fun k y H' q _ _ => q.elim⟩
theorem sx_par3 {x y z : Str} {a b c : Expr} (i j m : Nat) {k l q : Kd} {kt k2 : Nat} {px py pz pt pt2 : Pos} (ha : EX X H0 ss a k) (hb : EX X H0 ss b l) (hcx : EX X H0 ss c q) (hc : X.calm = true) (hN : X.N.Nodup)
    (hw : swappedStores [.Tuple [.Name x px, .Name y py, .Name z pz] kt pt] (.Tuple [a, b, c] k2 pt2) X.env = pure (some [x, y, z])) (hi : X.N[i]? = some x := by rfl) (hj : X.N[j]? = some y := by rfl) (hm : X.N[m]? = some z := by rfl) (hij : i ≠ j := by decide) (him : i ≠ m := by decide) (hjm : j ≠ m := by decide)
    (hx : X.env.scope.names.lookup x = some .local := by rfl) (hy : X.env.scope.names.lookup y = some .local := by rfl) (hz : X.env.scope.names.lookup z = some .local := by rfl) (he : starEach [a, b, c] X.env = (false, eval a X.env) :: starEach [b, c] X.env := by rfl) (he2 : starEach [b, c] X.env = (false, eval b X.env) :: starEach [c] X.env := by rfl) (he3 : starEach [c] X.env = (false, eval c X.env) :: starEach [] X.env := by rfl)
    (hs : swapsWithSole [.Tuple [.Name x px, .Name y py, .Name z pz] kt pt] (.Tuple [a, b, c] k2 pt2) pos.line X.env = pure false := by rfl) :
    SX X H0 (.Assign [.Tuple [.Name x px, .Name y py, .Name z pz] kt pt] (.Tuple [a, b, c] k2 pt2) pos) ss (fun s => s = ((ss.set i k.sl).set j l.sl).set m q.sl) Rt := fun σ H D S n r => by
  refine ⟨_, ps_par3 hc hN hi hj hm hij him hjm hx hy hz (pa_cons pe_any (pa_cons pe_any (pa_cons pe_any pa_nil he3) he2) he) hw hs, ?_⟩
  refine ha σ H _ S fun u H1 e1 r1 => ?_
  have S1 := S.set i e1 r1
  refine hb σ H1 _ (S.mono e1) fun v H2 e2 r2 => ?_
  have S2 := S1.set j e2 r2
  refine hcx σ H2 _ ((S.mono e1).mono e2) fun t H3 e3 r3 => ?_
  exact ⟨u, v, t, rfl, n _ _ H3 rfl (S2.set m e3 r3)⟩
end
section
variable {P : Program} {w : World} {K : PySem.W.Frag} {mg : Str → Option Value} {base : Heap}
theorem ok_goes_on (T : Tx K mg) : OkF P w K mg base 1 (He.ga K "goes_on") ["again", "rise", "size"] (spC fun _ ks k => ∃ (xs : List Int) (rise : Int) (s : Nat), 0 < xs.length ∧ xs.length ≤ 1000 ∧ s ≤ xs.length ∧ ks = [.d (tupI xs), .d (.i rise), .d (.i s)] ∧ k = .d (.b (goesB xs rise s))) := by
  refine ok_fr (f_goes_on T) sc_goes_on (fun _ _ _ _ _ _ us hl => match us, hl with | [_, _, _], _ => rfl) (by decide) (fun H ks k ⟨_, _, _, _, _, _, h, _⟩ => by rw [h]; rfl) (fun cdv A outer s H E ks k hr h => ?_)
  obtain ⟨xs, rise, sz, h0, h1, h2, rfl, rfl⟩ := h
  refine bx_step (sx_set 3 (k := .d (.i (xs.length : Nat))) (ex_to (ex_len (l := intsD xs) (ex_var 0) (.inl rfl) (n_len T)) (by rw [intsD_len])) sc_goes_on.nd) ?_
  refine bx_guard (x := !decide (V.int (rise * sz % (xs.length : Nat)) = V.int 0)) (et_ne (ex_mod (ex_mul (ex_var 1) (ex_var 2) (.inr ⟨by omega, by omega⟩)) (ex_var 3) (by omega)) ex_int) (fun q => bx_one (sx_ret ex_bl ?_)) fun q => ?_
  · have : ¬ (rise * sz % (xs.length : Nat) = 0) := by simpa using q
    unfold goesB
    rw [decide_eq_false this, Bool.false_and]
  have hz : rise * sz % (xs.length : Nat) = 0 := by simpa using q
  refine bx_step (sx_set 4 (k := .d (.i (rise * sz / (xs.length : Nat)))) (ex_fdiv (ex_mul (ex_var 1) (ex_var 2) (.inr ⟨by omega, by omega⟩)) (ex_var 3) ⟨by omega, by omega⟩) sc_goes_on.nd) ?_
  have ll : (longer xs rise).length = 2 * xs.length := by unfold longer; simp; omega
  refine bx_step (sx_set 6 (k := .nl (intsD (longer xs rise))) (ex_lst (l := intsD (longer xs rise)) (ea_to (ea_star (l := intsD xs) (.inl (ex_var 0)) (ea_star (l := (List.range xs.length).map fun i => .i (xs.getD i 0 + rise)) (.inr (.inr (ex_to (ex_lcB [("number", 5)] (fun i => .i (xs.getD i 0 + rise)) sc_goes_on.nd (ix_seq (l := intsD xs) (es_tup (ex_var 0))) (by rw [intsD_len]; omega) fun i d Hb q e => ?_) (by rw [intsD_len])))) ea_nil)) ?_) (by rw [intsD_len, ll]; omega)) sc_goes_on.nd) ?_
  · obtain ⟨m, hm, rfl⟩ := intsD_get q
    refine ⟨[5], _, by simp, fun s H C cl fp => gx_name 5 sc_goes_on.nd, fun s H C cl fp => ex_to (ex_add (ex_var 5) (ex_var 1)) ?_⟩
    rw [List.getD_eq_getElem?_getD, hm]
    rfl
  · unfold longer ds intsD
    rw [List.append_nil, ← List.map_append]
    congr 1
    rw [List.map_append]
    congr 1
    rw [List.map_map]
    refine List.ext_getElem? fun j => ?_
    by_cases hj : j < xs.length
    · simp [hj]
    · rw [List.getElem?_eq_none (by simp; omega), List.getElem?_eq_none (by simp; omega)]
  refine bx_one (sx_ret (ex_to (ex_all (bs := (List.range xs.length).map fun a => decide (hRow xs rise (a + sz) = hRow xs rise a + rise * sz / (xs.length : Nat))) (ex_to (ex_lcB [("at", 7)] (fun a => .b (decide (hRow xs rise (a + sz) = hRow xs rise a + rise * sz / (xs.length : Nat)))) sc_goes_on.nd (ix_to (ix_range1 (ex_var 3) (by omega) (n_range T)) (by rw [Int.toNat_natCast])) (by rw [rangeD_len]; omega) fun i d Hb q e => ?_) ?_) (.inr rfl) (n_all T)) ?_) rfl)
  · have hi : i < xs.length := by
      have := (List.getElem?_eq_some_iff.mp q).1
      rwa [rangeD_len] at this
    rw [rangeD_get hi] at q
    obtain rfl := Option.some.inj q
    have g1 : (intsD (longer xs rise))[i + sz]? = some (.i (hRow xs rise (i + sz))) := by
      unfold intsD
      rw [List.getElem?_map, longer_get (by omega)]
      rfl
    have g2 : (intsD (longer xs rise))[i]? = some (.i (hRow xs rise i)) := by
      unfold intsD
      rw [List.getElem?_map, longer_get (by omega)]
      rfl
    refine ⟨[7], _, by simp, fun s H C cl fp => gx_name 7 sc_goes_on.nd, fun s H C cl fp => ex_to (ex_eq (ex_ixL (l := intsD (longer xs rise)) (d := .i (hRow xs rise (i + sz))) (.inl (ex_varL 6 (.inr rfl))) (ex_add (ex_var 7) (ex_var 2)) (by
      have := ixDn g1
      rw [show (0 : Int) + (i : Nat) + (sz : Int) = ((i + sz : Nat) : Int) by omega]
      exact this)) (ex_add (ex_ixL (l := intsD (longer xs rise)) (d := .i (hRow xs rise i)) (.inl (ex_varL 6 (.inr rfl))) (ex_var 7) (by
      have := ixDn g2
      rw [show (0 : Int) + (i : Nat) = (i : Int) by omega]
      exact this)) (ex_var 4))) ?_⟩
    simp
  · rw [rangeD_len, List.map_map]
    rfl
  · rw [List.all_map]
    unfold goesB
    rw [decide_eq_true hz, Bool.true_and]
    rfl
end
end K44
end

section
-- text V20
set_option Elab.async false
set_option linter.all false
set_option maxRecDepth 100000
set_option maxHeartbeats 4000000
namespace K44
open PySem PySem.Spec L2
open Evl (Ex)
theorem cut_to {α : Type} {l : List α} {i : Nat} (h : i ≤ l.length) : cutD l none (some (i : Int)) = l.take i := by
  unfold cutD
  rw [HT.sIx_nat, HT.sIx_none, Nat.min_eq_left h, Nat.sub_zero, List.drop_zero]
theorem cut_last {α : Type} {l : List α} {x : α} : cutD (l ++ [x]) none (some (-1)) = l := by
  unfold cutD
  have : HT.sIx (l ++ [x]).length (l ++ [x]).length (some (-1)) = l.length := by
    show (if (-1 : Int) < 0 then (-1 + ((l ++ [x]).length : Int)).toNat else min (-1 : Int).toNat (l ++ [x]).length) = _
    rw [if_pos (by decide), List.length_append, List.length_singleton]
    omega
  rw [this, HT.sIx_none, Nat.sub_zero, List.drop_zero, List.take_left]
section
variable {P : Program} {w : World} {K : PySem.W.Frag} {mg : Str → Option Value} {base : Heap}
theorem ok_Row_init (T : Tx K mg) : OkF P w K mg base 3 (He.ma K (He.ga K "Row") "__init__") ["self", "early", "again", "rise"] (spI (He.ga K "Row") fun _ ks Pr => ∃ (es xs : List Int) (rise : Int), xs ≠ [] ∧ xs.length ≤ 1000 ∧ es.length ≤ 50000 ∧ ks = [.d (tupI es), .d (tupI xs), .d (.i rise)] ∧ Pr = RowP K (val es xs rise)) := by
  refine ok_in (f_Row_init T) sc_Row_init (fun _ _ _ _ _ _ us hl => match us, hl with | [_, _, _, _], _ => rfl) (by decide) (fun H ks k ⟨_, _, _, _, _, _, h, _⟩ => by rw [h]; rfl) (fun cdv A outer s H E x dx ks Pr hr hx h => ?_)
  obtain ⟨es, xs, rise, hne, hxl, hel, rfl, rfl⟩ := h
  have h0 : 0 < xs.length := List.length_pos_iff.mpr hne
  have conv : ∀ {I J Post : Hp → Prop} {X : Cx} {sts : List Stmt} {ss : List Sl}, (∀ H, I H → J H) → BI X sts ss J Post → BI X sts ss I Post := fun c k σ H D S i n => k σ H D S (c H i) n
  refine conv (J := SelfAt H x (He.ga K "Row") []) (fun H' e => by subst e; exact ⟨.refl, dx, [], hx, rfl, rfl⟩) ?_
  refine bi_pure (I' := SelfAt H x (He.ga K "Row") []) (fun H' i => sx_expr (ex_call (ok_check_integers T) hr (g_check_integers T) (ea_cons (ex_var 1) (ex_one1 ex_int)) fun H _ => ⟨es, 0, by omega, by omega, rfl, rfl⟩)) rfl (fun _ _ e i => i.mono e) ?_
  refine bi_pure (I' := SelfAt H x (He.ga K "Row") []) (fun H' i => sx_expr (ex_call (ok_check_integers T) hr (g_check_integers T) (ea_cons (ex_var 2) (ex_one1 ex_int)) fun H _ => ⟨xs, 1, by omega, by omega, rfl, rfl⟩)) rfl (fun _ _ e i => i.mono e) ?_
  refine bi_pure (I' := SelfAt H x (He.ga K "Row") []) (fun H' i => sx_no (et_to (et_not (et_val (ex_call (ok_is_integer T) (hr.mono (by decide)) (g_is_integer T) (ex_one1 (ex_var 3)) fun H _ => ⟨.i rise, rfl, rfl, rfl⟩))) rfl)) rfl (fun _ _ e i => i.mono e) ?_
  refine bi_pure (I' := SelfAt H x (He.ga K "Row") []) (fun H' i => sx_set 4 (k := .d (.i (xs.length : Nat))) (ex_to (ex_len (l := intsD xs) (ex_var 2) (.inl rfl) (n_len T)) (by rw [intsD_len])) sc_Row_init.nd) rfl (fun _ _ e i => i.mono e) ?_
  -- the size
  let keep : Nat → Bool := fun i => decide (xs.length % (i + 1) = 0) && goesB xs rise (i + 1)
  obtain ⟨i0, rest, hk⟩ : ∃ i0 rest, (List.range xs.length).filter keep = i0 :: rest := by
    have hm : xs.length - 1 ∈ (List.range xs.length).filter keep := by
      refine List.mem_filter.mpr ⟨List.mem_range.mpr (by omega), ?_⟩
      show (decide (xs.length % (xs.length - 1 + 1) = 0) && goesB xs rise (xs.length - 1 + 1)) = true
      rw [show xs.length - 1 + 1 = xs.length by omega, Nat.mod_self, goes_self h0]
      rfl
    exact List.exists_cons_of_ne_nil (fun z => by rw [z] at hm; cases hm)
  have hi0 : i0 < xs.length ∧ keep i0 = true := by
    have : i0 ∈ (List.range xs.length).filter keep := by rw [hk]; simp
    obtain ⟨a, b⟩ := List.mem_filter.mp this
    exact ⟨List.mem_range.mp a, b⟩
  have hg : goesB xs rise (i0 + 1) = true := (Bool.and_eq_true_iff.mp hi0.2).2
  refine bi_pure (I' := SelfAt H x (He.ga K "Row") []) (fun H' i => sx_set 6 (k := .d (.i ((i0 + 1 : Nat) : Int))) (ex_ixL (l := kept xs.length keep fun i => .i ((i + 1 : Nat) : Int)) (.inr (ex_to (ex_lcIf (own := [("part", 5)]) (items := rangeD 1 xs.length) (keep := keep) (f := fun i => .i ((i + 1 : Nat) : Int)) (ix_to (ix_range2 ex_int (ex_add (ex_var 4) ex_int) (by omega) (n_range T)) (by congr 1; omega)) (blk_ok (by kernel_rfl)) sc_Row_init.nd (fun j d Hb q e => ?_) (by rw [rangeD_len]; omega)) (by rw [rangeD_len]))) ex_int (by unfold kept; rw [hk]; exact ixD0)) sc_Row_init.nd) rfl (fun _ _ e i => i.mono e) ?_
  · have hj : j < xs.length := by
      have := (List.getElem?_eq_some_iff.mp q).1
      rwa [rangeD_len] at this
    rw [rangeD_get hj] at q
    obtain rfl := Option.some.inj q
    refine ⟨[5], _, by simp, fun s H C cl fp => gx_name 5 sc_Row_init.nd, fun s H C cl fp => et_to (ew_and (x := decide (xs.length % (j + 1) = 0)) (y := goesB xs rise (j + 1)) (et_to (et_eq (ex_mod (ex_var 4) (ex_var 5) (by omega)) ex_int) ?_) fun _ => ew_and1 (et_val (ex_call (ok_goes_on T) (by exact hr.mono (by decide)) (g_goes_on T) (ea_cons (ex_var 2) (ea_cons (ex_var 3) (ex_one1 (ex_var 5)))) fun H _ => ⟨xs, rise, j + 1, h0, hxl, by omega, by rw [show (1 : Int) + (j : Nat) = ((j + 1 : Nat) : Int) by omega], rfl⟩))).t rfl, fun _ s H C cl fp => ex_to (ex_var 5) (by rw [show (1 : Int) + (j : Nat) = ((j + 1 : Nat) : Int) by omega])⟩
    have e1 : (xs.length : Int) % (1 + (j : Nat)) = ((xs.length % (j + 1) : Nat) : Int) := by rw [show (1 : Int) + (j : Nat) = ((j + 1 : Nat) : Int) by omega, Int.natCast_emod]
    rw [e1]
    have : (V.int ((xs.length % (j + 1) : Nat) : Int) = V.int 0) ↔ (xs.length % (j + 1) = 0) := by
      constructor
      · intro z
        injection z with z
        omega
      · intro z
        rw [z]
        rfl
    exact decide_eq_decide.mpr this
  let stp : Int := rise * ((i0 + 1 : Nat) : Int) / (xs.length : Nat)
  refine bi_pure (I' := SelfAt H x (He.ga K "Row") []) (fun H' i => sx_unown (j := 7) (xs := intsD (xs.take (i0 + 1))) (sx_par3 7 8 9 (k := .nl (intsD (xs.take (i0 + 1)))) (l := .d (.i stp)) (q := .d (.i (es.length : Nat))) (ex_to (ex_lstT (l := intsD (xs.take (i0 + 1))) (ex_to (ex_slT (l := intsD xs) (ex_var 2) eo_none (eo_some (ex_var 6))) (by rw [intsD_cut, cut_to (by omega)])) (.inl rfl) (n_list T)) rfl) (ex_fdiv (ex_mul (ex_var 3) (ex_var 6) (.inr ⟨by omega, by omega⟩)) (ex_var 4) ⟨by omega, by omega⟩) (ex_to (ex_len (l := intsD es) (ex_var 1) (.inl rfl) (n_len T)) (by rw [intsD_len])) rfl sc_Row_init.nd rfl) rfl) rfl (fun _ _ e i => i.mono e) ?_
  -- shortened
  let Z : List Int → Nat → List Sl := fun cy m => [.d (.r x), .d (tupI es), .d (tupI xs), .d (.i rise), .d (.i (xs.length : Nat)), .no, .d (.i ((i0 + 1 : Nat) : Int)), .l (intsD cy), .d (.i stp), .d (.i (m : Nat))]
  have tl : (xs.take (i0 + 1)).length = i0 + 1 := by rw [List.length_take]; omega
  refine bi_cons (I' := SelfAt H x (He.ga K "Row") []) (Mid := fun s => ∃ cy m, s = Z cy m ∧ cy.length = i0 + 1 ∧ m ≤ es.length ∧ ∀ n, val (es.take m) cy stp n = val es xs rise n) (fun H' i => sx_while (m0 := es.length) (I := fun m s => ∃ cy, s = Z cy m ∧ cy.length = i0 + 1 ∧ m ≤ es.length ∧ ∀ n, val (es.take m) cy stp n = val es xs rise n) ⟨xs.take (i0 + 1), rfl, tl, Nat.le_refl _, fun n => by rw [List.take_length]; exact val_take h0 (by omega) (by omega) hg n⟩ fun m s1 hI => ?_) (fun s ⟨cy, m, q, _⟩ => by rw [q]; rfl) (fun _ _ e i => i.mono e) fun s1 q1 => ?_
  · obtain ⟨cy, rfl, hcl, hm, hv⟩ := hI
    obtain ⟨cy0, cx, rfl⟩ : ∃ cy0 cx, cy = cy0 ++ [cx] := ⟨cy.dropLast, cy.getLast (fun z => (by rw [z] at hcl; cases hcl)), (List.dropLast_concat_getLast _).symm⟩
    by_cases hz : m = 0
    · subst hz
      exact ⟨false, et_to (ew_and (x := false) (y := false) (et_to (et_gt (ex_var 9) ex_int) rfl) fun z => nomatch z).t rfl, fun z => (nomatch z), fun _ => ⟨_, 0, rfl, hcl, hm, hv⟩⟩
    · obtain ⟨l, rfl⟩ : ∃ l, m = l + 1 := ⟨m - 1, by omega⟩
      obtain ⟨ev, hev⟩ : ∃ ev, es[l]? = some ev := ⟨es[l]'(by omega), List.getElem?_eq_getElem (by omega)⟩
      have ge : (intsD es)[l]? = some (.i ev) := by unfold intsD; rw [List.getElem?_map, hev]; rfl
      refine ⟨decide (ev = cx - stp), et_to (ew_and (x := true) (y := decide (V.int ev = V.int (cx - stp))) (et_to (et_gt (ex_var 9) ex_int) (decide_eq_true (by omega))) fun _ => ew_and1 (et_eq (ex_ixT (l := intsD es) (d := .i ev) (ex_var 1) (ex_sub (ex_var 9) ex_int) (by
        rw [show ((l + 1 : Nat) : Int) - 1 = (l : Int) by omega]
        exact ixDn ge)) (ex_sub (ex_ixL (l := intsD (cy0 ++ [cx])) (d := .i cx) (.inl (ex_varL 7 (.inl rfl))) (ex_neg ex_int) (by rw [intsD_snoc]; exact ixDlast)) (ex_var 8)))).t (by simp), fun z => ?_, fun _ => ⟨_, l + 1, rfl, hcl, hm, hv⟩⟩
      have hz := of_decide_eq_true z
      subst hz
      refine bx_step (sx_set 9 (k := .d (.i (l : Nat))) (ex_to (ex_sub (ex_var 9) ex_int) (by congr 3; omega)) sc_Row_init.nd) ?_
      refine bx_one (sx_mono (sx_unown (j := 7) (xs := intsD ((cx - stp) :: cy0)) (sx_set 7 (k := .nl (intsD ((cx - stp) :: cy0))) (ex_lst (l := intsD ((cx - stp) :: cy0)) (ea_to (ea_cons (ex_ixT (l := intsD es) (d := .i (cx - stp)) (ex_var 1) (ex_var 9) (ixDn ge)) (ea_star (l := intsD cy0) (.inr (.inr (ex_to (ex_slL (ex_varL 7 (.inl rfl)) (.inl rfl) eo_none (eo_some (ex_neg ex_int))) (by rw [intsD_cut, cut_last])))) ea_nil)) (by rw [List.append_nil]; rfl)) (by rw [intsD_len]; simp at hcl; simp; omega)) sc_Row_init.nd) rfl) ?_)
      rintro _ rfl
      refine ⟨l, by omega, (cx - stp) :: cy0, rfl, by simpa using hcl, by omega, fun n => ?_⟩
      rw [val_back (by omega) hev, hv]
  · obtain ⟨cy, m, rfl, hcl, hm, hv⟩ := q1
    refine bi_tup (n := 3) (l := [tupI (es.take m), tupI cy, .i stp]) (fun H' i => ex_tup (l := [tupI (es.take m), tupI cy, .i stp]) (ea_cons (ex_to (ex_slT (l := intsD es) (ex_var 1) eo_none (eo_some (ex_var 9))) (by rw [intsD_cut, cut_to hm])) (ea_cons (ex_tupL (l := intsD cy) (ex_varL 7 (.inl rfl)) (.inl rfl) (n_tuple T)) (ex_one1 (ex_var 8))))) (fun _ _ e i => i.mono e)
      (gis_cons (gi_fld (fun H => ex_var 0) (c_Row T) (no_Row_head T) rfl (by simp) rfl) (gis_cons (gi_fld (fun H => ex_var 0) (c_Row T) (no_Row_cycle T) rfl (by simp) rfl) (gis_cons (gi_fld (fun H => ex_var 0) (c_Row T) (no_Row_step T) rfl (by simp) rfl) gis_nil))) rfl ?_ rfl
    refine bi_nil fun H' i => ⟨i.keep, es.take m, cy, stp, ⟨(fun z => by rw [z] at hcl; cases hcl), by omega, ?_, hv⟩, i.at_⟩
    rw [List.length_take]
    omega
theorem ok_Row_early (T : Tx K mg) : OkF P w K mg base 1 (He5.wf K (He.ga K "Row") "property" "early") ["self"] (spC fun H ks k => ∃ a hd cy st, ObjAt H a (He.ga K "Row") (rowL hd cy st) ∧ ks = [.d (.r a)] ∧ k = .d (tupI hd)) := by
  refine ok_fr (f_Row_early T) sc_Row_early (fun _ _ _ _ _ _ us hl => match us, hl with | [_], _ => rfl) (by decide) (fun H ks k ⟨_, _, _, _, _, h, _⟩ => by rw [h]; rfl) (fun cdv A outer s H E ks k hr h => ?_)
  obtain ⟨a, hd, cy, st, O, rfl, rfl⟩ := h
  exact bx_one (sx_ret (ex_fldD (ex_var 0) O (c_Row T) (no_Row_head T) rfl) rfl)
theorem ok_Row_again (T : Tx K mg) : OkF P w K mg base 1 (He5.wf K (He.ga K "Row") "property" "again") ["self"] (spC fun H ks k => ∃ a hd cy st, ObjAt H a (He.ga K "Row") (rowL hd cy st) ∧ ks = [.d (.r a)] ∧ k = .d (tupI cy)) := by
  refine ok_fr (f_Row_again T) sc_Row_again (fun _ _ _ _ _ _ us hl => match us, hl with | [_], _ => rfl) (by decide) (fun H ks k ⟨_, _, _, _, _, h, _⟩ => by rw [h]; rfl) (fun cdv A outer s H E ks k hr h => ?_)
  obtain ⟨a, hd, cy, st, O, rfl, rfl⟩ := h
  exact bx_one (sx_ret (ex_fldD (ex_var 0) O (c_Row T) (no_Row_cycle T) rfl) rfl)
theorem ok_Row_rise (T : Tx K mg) : OkF P w K mg base 1 (He5.wf K (He.ga K "Row") "property" "rise") ["self"] (spC fun H ks k => ∃ a hd cy st, ObjAt H a (He.ga K "Row") (rowL hd cy st) ∧ ks = [.d (.r a)] ∧ k = .d (.i st)) := by
  refine ok_fr (f_Row_rise T) sc_Row_rise (fun _ _ _ _ _ _ us hl => match us, hl with | [_], _ => rfl) (by decide) (fun H ks k ⟨_, _, _, _, _, h, _⟩ => by rw [h]; rfl) (fun cdv A outer s H E ks k hr h => ?_)
  obtain ⟨a, hd, cy, st, O, rfl, rfl⟩ := h
  exact bx_one (sx_ret (ex_fldD (ex_var 0) O (c_Row T) (no_Row_step T) rfl) rfl)
theorem getD_get {l : List Int} {i : Nat} (h : i < l.length) : (intsD l)[i]? = some (.i (l.getD i 0)) := by
  unfold intsD
  rw [List.getElem?_map, List.getD_eq_getElem?_getD, List.getElem?_eq_getElem h]
  rfl
theorem ok_Row_at (T : Tx K mg) : OkF P w K mg base 4 (He.ma K (He.ga K "Row") "at") ["self", "lines"] (spC fun H ks k => ∃ a g, ∃ n : Nat, RowP K g H a ∧ n < 1000000 ∧ ks = [.d (.r a), .d (.i n)] ∧ k = .d (.i (g n))) := by
  refine ok_fr (f_Row_at T) sc_Row_at (fun _ _ _ _ _ _ us hl => match us, hl with | [_, _], _ => rfl) (by decide) (fun H ks k ⟨_, _, _, _, _, h, _⟩ => by rw [h]; rfl) (fun cdv A outer s H E ks k hr h => ?_)
  obtain ⟨a, g, n, ⟨hd, cy, st, ⟨h1, h2, h3, hv⟩, O⟩, hn, rfl, rfl⟩ := h
  have h0 : 0 < cy.length := List.length_pos_iff.mpr h1
  refine bx_step (sx_expr (ex_call (ok_check_number T) hr (g_check_number T) (ea_cons (ex_var 1) (ea_cons ex_int (ex_one1 ex_non))) fun H _ => ⟨n, 0, none, by omega, rfl, rfl, rfl⟩)) ?_
  refine bx_guard (x := decide (n < hd.length)) (et_to (et_lt (ex_var 1) (ex_len (l := intsD hd) (ex_fldD (ex_var 0) O (c_Row T) (no_Row_head T) rfl) (.inl rfl) (n_len T))) (by rw [intsD_len]; exact decide_eq_decide.mpr (by omega))) (fun q => ?_) fun q => ?_
  · have hlt := of_decide_eq_true q
    refine bx_one (sx_ret (ex_ixT (l := intsD hd) (d := .i (hd.getD n 0)) (ex_fldD (ex_var 0) O (c_Row T) (no_Row_head T) rfl) (ex_var 1) (ixDn (getD_get hlt))) ?_)
    rw [← hv n]
    unfold val
    rw [if_pos hlt]
  · have hge := of_decide_eq_false q
    refine bx_step (sx_asg (d := .tup [.i (((n - hd.length) / cy.length : Nat) : Int), .i (((n - hd.length) % cy.length : Nat) : Int)]) (ex_to (ex_divmod (i := ((n - hd.length : Nat) : Int)) (j := (cy.length : Nat)) (ex_to (ex_sub (ex_var 1) (ex_len (l := intsD hd) (ex_fldD (ex_var 0) O (c_Row T) (no_Row_head T) rfl) (.inl rfl) (n_len T))) (by rw [intsD_len]; congr 3; omega)) (ex_to (ex_len (l := intsD cy) (ex_fldD (ex_var 0) O (c_Row T) (no_Row_cycle T) rfl) (.inl rfl) (n_len T)) (by rw [intsD_len])) ⟨by omega, by omega⟩ (n_divmod T)) (by rw [← Int.natCast_ediv, ← Int.natCast_emod])) (gx_tup2 2 3 sc_Row_at.nd)) ?_
    have hm := Nat.mod_lt (n - hd.length) h0
    have hq : (n - hd.length) / cy.length ≤ n - hd.length := Nat.div_le_self _ _
    refine bx_one (sx_ret (ex_add (ex_ixT (l := intsD cy) (d := .i (cy.getD ((n - hd.length) % cy.length) 0)) (ex_fldD (ex_var 0) O (c_Row T) (no_Row_cycle T) rfl) (ex_var 3) (ixDn (getD_get hm))) (ex_mul (i := (((n - hd.length) / cy.length : Nat) : Int)) (ex_var 2) (ex_fldD (ex_var 0) O (c_Row T) (no_Row_step T) rfl) (.inl ⟨by
      have : (0 : Int) ≤ (((n - hd.length) / cy.length : Nat) : Int) := Int.natCast_nonneg _
      omega, by
      have : (((n - hd.length) / cy.length : Nat) : Int) ≤ ((n - hd.length : Nat) : Int) := Int.ofNat_le.mpr hq
      omega⟩))) ?_)
    rw [← hv n]
    unfold val
    rw [if_neg hge]
theorem ok_turned (T : Tx K mg) : OkF P w K mg base 5 (He.ga K "turned") ["row"] (spC fun H ks k => ∃ a g, RowP K g H a ∧ ks = [.d (.r a)] ∧ k = .o (RowP K fun n => -g n)) := by
  refine ok_fr (f_turned T) sc_turned (fun _ _ _ _ _ _ us hl => match us, hl with | [_], _ => rfl) (by decide) (fun H ks k ⟨_, _, _, h, _⟩ => by rw [h]; rfl) (fun cdv A outer s H E ks k hr h => ?_)
  obtain ⟨a, g, ⟨hd, cy, st, ⟨h1, h2, h3, hv⟩, O⟩, rfl, rfl⟩ := h
  have neg : ∀ {ns : List Int} {i : Nat} {d : Dt}, (intsD ns)[i]? = some d → ∃ m, d = .i m ∧ (ns.map fun x => -x).getD i 0 = -m := fun {ns i d} q => by
    obtain ⟨m, hm, rfl⟩ := intsD_get q
    exact ⟨m, rfl, by rw [List.getD_eq_getElem?_getD, List.getElem?_map, hm]; rfl⟩
  refine bx_one (sx_ret (ex_make (mk_Row T) (ok_Row_init T) hr (g_Row T) (ea_cons (k := .d (tupI (hd.map fun x => -x))) (ex_to (ex_tupL (ex_lcB [("number", 1)] (fun i => .i ((hd.map fun x => -x).getD i 0)) sc_turned.nd (ix_seq (l := intsD hd) (es_tup (ex_prop (ex_var 0) O (c_Row T) (p_Row_early T) (ok_Row_early T) (hr.mono (by decide)) fun H e => ⟨a, hd, cy, st, O.mono e, rfl, rfl⟩))) (by rw [intsD_len]; omega) fun i d Hb q e => ?_) (.inr rfl) (n_tuple T)) ?_) (ea_cons (k := .d (tupI (cy.map fun x => -x))) (ex_to (ex_tupL (ex_lcB [("number", 1)] (fun i => .i ((cy.map fun x => -x).getD i 0)) sc_turned.nd (ix_seq (l := intsD cy) (es_tup (ex_prop (ex_var 0) O (c_Row T) (p_Row_again T) (ok_Row_again T) (hr.mono (by decide)) fun H e => ⟨a, hd, cy, st, O.mono e, rfl, rfl⟩))) (by rw [intsD_len]; omega) fun i d Hb q e => ?_) (.inr rfl) (n_tuple T)) ?_) (ex_one1 (ex_neg (ex_prop (ex_var 0) O (c_Row T) (p_Row_rise T) (ok_Row_rise T) (hr.mono (by decide)) fun H e => ⟨a, hd, cy, st, O.mono e, rfl, rfl⟩))))) fun H e => ⟨hd.map fun x => -x, cy.map fun x => -x, -st, (fun z => h1 (List.map_eq_nil_iff.mp z)), by rw [List.length_map]; exact h2, by rw [List.length_map]; exact h3, rfl, ?_⟩) rfl)
  · obtain ⟨m, rfl, e2⟩ := neg q
    exact ⟨[1], _, by simp, fun s H C cl fp => gx_name 1 sc_turned.nd, fun s H C cl fp => ex_to (ex_neg (ex_var 1)) (by rw [e2])⟩
  · rw [intsD_len, getD_ints (ns := hd.map fun x => -x) (by simp)]
  · obtain ⟨m, rfl, e2⟩ := neg q
    exact ⟨[1], _, by simp, fun s H C cl fp => gx_name 1 sc_turned.nd, fun s H C cl fp => ex_to (ex_neg (ex_var 1)) (by rw [e2])⟩
  · rw [intsD_len, getD_ints (ns := cy.map fun x => -x) (by simp)]
  · congr 1
    funext n
    rw [val_neg, hv]
end
end K44
end

section
-- text V21
set_option Elab.async false
set_option linter.all false
set_option maxRecDepth 100000
set_option maxHeartbeats 4000000
namespace K44
open PySem PySem.Spec L2
open Evl (Ex)
def ledB (l : Sd) (mv : List Int) (mo : Int) (S L : Sums) : Bool := decide (S.length = L.length) && S.all fun p => decide (getG L (addI p.1 mv (spans l)) = some (p.2 + mo))
def shiftG (l : Sd) (mv : List Int) (mo : Int) (S : Sums) : Sums := S.foldl (fun acc p => putG acc (addI p.1 mv (spans l)) (p.2 + mo)) []
def SS (l : Sd) (B : Bests) : Nat → Sums
  | 0 => [(List.replicate l.length 0, 0)]
  | n + 1 => oneMore l (SS l B n) B
def RR (l : Sd) (mv : List Int) (mo : Int) (S : Sums) : Nat → Sums
  | 0 => S
  | n + 1 => shiftG l mv mo (RR l mv mo S n)
/-- what may be summed -/
structure Fine (l : Sd) (S : Sums) : Prop where
  len : S.length ≤ 300
  key : ∀ p ∈ S, p.1.length = l.length
  bd : ∀ p ∈ S, ∀ n ∈ p.1, n.natAbs < 1000000000
/-- how a row comes about -/
structure Plan (l : Sd) (B : Bests) (mo : Int) (mv : List Nat) (N : Nat) (gm rm : Nat → Int) : Prop where
  bl : B.length ≤ 300
  bk : ∀ q ∈ B, q.1.length = l.length
  top : Top (B.map fun q => q.2.1) mo
  mvl : mv.length = l.length
  fst : ∃ x rest, (B.filter fun q => decide (q.2.1 = mo)) = x :: rest ∧ x.1 = mv.map fun m : Nat => (m : Int)
  nb : N ≤ 50000
  fine : ∀ n, n ≤ N + 1 → Fine l (SS l B n)
  gtop : ∀ n, n < N → Top (gapsOf l (SS l B n)) (gm n)
  led : ledB l (mv.map fun m : Nat => (m : Int)) mo (SS l B N) (SS l B (N + 1)) = true
  not : ∀ n, n < N → ledB l (mv.map fun m : Nat => (m : Int)) mo (SS l B n) (SS l B (n + 1)) = false
  ord : 1 ≤ ordN mv (spans l) ∧ ordN mv (spans l) ≤ 1000
  rfine : ∀ j, j ≤ ordN mv (spans l) → Fine l (RR l (mv.map fun m : Nat => (m : Int)) mo (SS l B N) j)
  rtop : ∀ j, j < ordN mv (spans l) → Top (gapsOf l (RR l (mv.map fun m : Nat => (m : Int)) mo (SS l B N) j)) (rm j)
def planVal (l : Sd) (mo : Int) (mv : List Nat) (N : Nat) (gm rm : Nat → Int) : Nat → Int :=
  val ((List.range N).map fun n => gm n / (botN l : Nat)) ((List.range (ordN mv (spans l))).map fun j => rm j / (botN l : Nat)) ((ordN mv (spans l) : Nat) * mo / (botN l : Nat))
theorem dcG_map {α : Type} (f : α → Dt) (kf : Nat → List Int) (vf : Nat → α) (n : Nat) : dcG n kf (fun i => f (vf i)) = mapG f ((List.range n).foldl (fun acc i => putG acc (kf i) (vf i)) []) := by
  induction n with
  | zero => rfl
  | succ n ih =>
    rw [dcG_succ, ih, putG_mapG, List.range_succ, List.foldl_append]
    rfl
theorem shift_range (l : Sd) (mv : List Int) (mo : Int) (S : Sums) : shiftG l mv mo S = (List.range S.length).foldl (fun acc i => putG acc (addI (S.getD i ([], 0)).1 mv (spans l)) ((S.getD i ([], 0)).2 + mo)) [] := by
  unfold shiftG
  have h : ∀ n, n ≤ S.length → (S.take n).foldl (fun acc p => putG acc (addI p.1 mv (spans l)) (p.2 + mo)) [] = (List.range n).foldl (fun acc i => putG acc (addI (S.getD i ([], 0)).1 mv (spans l)) ((S.getD i ([], 0)).2 + mo)) [] := by
    intro n
    induction n with
    | zero => intro _; rfl
    | succ n ih =>
      intro hn
      have e : S[n]? = some (S[n]'(by omega)) := List.getElem?_eq_getElem (by omega)
      rw [foldl_take _ _ e, ih (by omega), List.range_succ, List.foldl_append, List.foldl_cons, List.foldl_nil]
      rw [List.getD_eq_getElem?_getD, e]
      rfl
  have := h S.length (Nat.le_refl _)
  rwa [List.take_length] at this
section
variable {P : Program} {w : World} {K : PySem.W.Frag} {mg : Str → Option Value} {base : Heap}
abbrev twoSd (a : Addr) (o v : Option Stp) (b : Addr) (o' v' : Option Stp) : Sd := [((a, o, v), 1), ((b, o', v'), -1)]
theorem ok_row_of (T : Tx K mg) : OkF P w K mg base 9 (He.ga K "row_of") ["one", "other"] (spC fun H ks k => ∃ s a o v b o' v' mo mv N gm rm, BookAt K o v H a ∧ BookAt K o' v' H b ∧ orO o v = s ∧ orO o' v' = s ∧ Plan (twoSd a o v b o' v') (bestN (twoSd a o v b o' v') (perN s)) mo mv N gm rm ∧ ks = [.d (.r a), .d (.r b)] ∧ k = .o (RowP K (planVal (twoSd a o v b o' v') mo mv N gm rm))) := by
  refine ok_fr (f_row_of T) sc_row_of (fun _ _ _ _ _ _ us hl => match us, hl with | [_, _], _ => rfl) (by decide) (fun H ks k ⟨_, _, _, _, _, _, _, _, _, _, _, _, _, _, _, _, _, h, _⟩ => by rw [h]; rfl) (fun cdv A outer s H E ks k hr h => ?_)
  obtain ⟨st, a, o, v, b, o', v', mo, mv, N, gm, rm, Ba, Bb, ha, hb, PL, rfl, rfl⟩ := h
  generalize hl : twoSd a o v b o' v' = l at PL
  generalize hB : bestN l (perN st) = B at PL
  have ll : l.length = 2 := by rw [← hl]; rfl
  have pp := perN_pos st
  refine bx_obj (P := StAt K st l) 2 (ex_make (mk_States T) (ok_States_init T) (hr.mono (by decide)) (g_States T) (ea_rd (ks := [.nl (sideD l)]) (ex_one1 (ex_to (ex_call (ok_sides_of T) (hr.mono (by decide)) (g_sides_of T) (ea_cons (ex_var 0) (ex_one1 (ex_var 1))) fun H e => ⟨a, b, rfl, rfl⟩) (by rw [← hl]; rfl)))) fun H e => ⟨st, l, ⟨by rw [← hl]; simp, by omega, fun x hx => ?_⟩, rfl, rfl⟩) rfl sc_row_of.nd fun sa Hb eb SA => ?_
  · rw [← hl] at hx
    rcases List.mem_cons.mp hx with rfl | hx
    · exact ⟨Ba.mono e, ha⟩
    · obtain rfl := List.mem_singleton.mp hx
      exact ⟨Bb.mono e, hb⟩
  have bb := botN_bd (l := l) (by omega)
  refine bx_step (sx_set 3 (k := .nm (km (mapG bD B))) (ex_to (ex_meth0 (ex_var 2) SA.2 (c_States T) (m_States_best_lines T) rfl (ok_States_best_lines T) hr fun H e => ⟨st, l, sa, SA.mono e, rfl, rfl⟩) (by rw [hB])) sc_row_of.nd) ?_
  refine bx_freeze 3 (l := mapG bD B) ?_
  -- the greatest weight
  refine bx_step (sx_set 5 (k := .d (.i mo)) (ex_max (ns := B.map fun q => q.2.1) (ex_to (ex_lcB [("told", 4)] (fun i => .i ((B.map fun q => q.2.1).getD i 0)) sc_row_of.nd (ix_values (l := mapG bD B) (fx_m 3)) (by simp [valsD, mapG]; have := PL.bl; omega) fun i d Hb' q e => ?_) ?_) (.inr rfl) PL.top (n_max T)) sc_row_of.nd) ?_
  · obtain ⟨r, hr', rfl⟩ := getL_map q
    obtain ⟨p, hp, rfl⟩ := getL_map hr'
    refine ⟨[4], _, by simp, fun s H C cl fp => gx_name 4 sc_row_of.nd, fun s H C cl fp => ex_to (ex_t0 (l := [.i 0, .i p.2.2]) (ex_var 4)) ?_⟩
    rw [List.getD_eq_getElem?_getD, List.getElem?_map, hp]
    rfl
  · have : (valsD (mapG bD B)).length = B.length := by simp [valsD, mapG]
    rw [this, getD_ints (ns := B.map fun q => q.2.1) (by simp)]
  -- its move
  obtain ⟨x0, rest, hx0, hx1⟩ := PL.fst
  let mvI : List Int := mv.map fun m : Nat => (m : Int)
  let kp : Nat → Bool := fun i => decide ((B.getD i ([], (0, 0))).2.1 = mo)
  have hkept : ∃ r2, kept B.length kp (fun i => keyD (B.getD i ([], (0, 0))).1) = keyD mvI :: r2 := by
    have h : ∀ n, n ≤ B.length → kept n kp (fun i => keyD (B.getD i ([], (0, 0))).1) = ((B.take n).filter fun q => decide (q.2.1 = mo)).map fun q => keyD q.1 := by
      intro n
      induction n with
      | zero => intro _; rfl
      | succ n ih =>
        intro hn
        have e : B[n]? = some (B[n]'(by omega)) := List.getElem?_eq_getElem (by omega)
        have e2 : B.getD n ([], (0, 0)) = B[n]'(by omega) := by rw [List.getD_eq_getElem?_getD, e]; rfl
        rw [List.take_add_one, e, List.filter_append, List.map_append, ← ih (by omega)]
        cases hkn : kp n with
        | true =>
          rw [kept_yes hkn]
          have : decide ((B[n]'(by omega)).2.1 = mo) = true := by rw [← e2]; exact hkn
          have h4 : ((some (B[n]'(by omega))).toList.filter fun q => decide (q.2.1 = mo)) = [B[n]'(by omega)] := by simp only [Option.toList, List.filter_cons, this, if_true, List.filter_nil]
          rw [h4]
          show _ ++ [keyD (B.getD n ([], (0, 0))).1] = _ ++ [keyD (B[n]'(by omega)).1]
          rw [e2]
        | false =>
          rw [kept_no hkn]
          have : decide ((B[n]'(by omega)).2.1 = mo) = false := by rw [← e2]; exact hkn
          simp [this]
    have := h B.length (Nat.le_refl _)
    rw [List.take_length, hx0] at this
    exact ⟨rest.map fun q => keyD q.1, by rw [this, List.map_cons, hx1]⟩
  obtain ⟨r2, hr2⟩ := hkept
  refine bx_step (sx_set 6 (k := .d (keyD mvI)) (ex_ixL (l := keyD mvI :: r2) (.inr (ex_to (ex_lcIf (own := [("move", 6), ("told", 4)]) (items := itemsD (mapG bD B)) (keep := kp) (f := fun i => keyD (B.getD i ([], (0, 0))).1) (ix_items (fx_m 3)) (blk_ok (by kernel_rfl)) sc_row_of.nd (fun i d Hb' q e => ?_) (by rw [items_len]; have := PL.bl; omega)) (by rw [items_len, hr2]))) ex_int ixD0) sc_row_of.nd) ?_
  · obtain ⟨p, hp, rfl⟩ := items_get bD q
    have e2 : B.getD i ([], (0, 0)) = p := by rw [List.getD_eq_getElem?_getD, hp]; rfl
    refine ⟨[6, 4], _, by simp, fun s H C cl fp => gx_tup2 6 4 sc_row_of.nd, fun s H C cl fp => et_to (et_eq (ex_t0 (l := [.i 0, .i p.2.2]) (ex_var 4)) (ex_var 5)) ?_, fun _ s H C cl fp => ex_to (ex_var 6) (by rw [e2])⟩
    show decide (V.int p.2.1 = V.int mo) = decide ((B.getD i ([], (0, 0))).2.1 = mo)
    rw [e2]
    simp
  -- the first sums
  refine bx_step (sx_parN (k := .nm (km (mapG iD (SS l B 0)))) (l := .nl (intsD [])) 7 8 (ex_disp1 (k := List.replicate l.length 0) (d := iD 0) hr.units (ex_meth0 (ex_var 2) SA.2 (c_States T) (m_States_empty T) rfl (ok_States_empty T) (hr.mono (by decide)) fun H e => ⟨st, l, sa, SA.mono e, rfl, rfl⟩) ex_int) (ex_lst (l := []) ea_nil) rfl sc_row_of.nd rfl) ?_
  refine bx_freeze 7 (l := mapG iD (SS l B 0)) ?_
  have one : ∀ n, n ≤ N → ∀ {Hc : Hp}, StAt K st l Hc sa → ∃ s l' a, ∃ (S : Sums) (B' : Bests), StAt K s l' Hc a ∧ S.length ≤ 300 ∧ B'.length ≤ 300 ∧ (∀ p ∈ S, p.1.length = l'.length) ∧ (∀ q ∈ B', q.1.length = l'.length) ∧ [Kd.d (.r sa), .rm (km (mapG iD (SS l B n))), .rm (km (mapG bD B))] = [.d (.r a), .rm (km (mapG iD S)), .rm (km (mapG bD B'))] ∧ Kd.nm (km (mapG iD (SS l B (n + 1)))) = .nm (km (mapG iD (oneMore l' S B'))) := fun n hn Hc SAc =>
    ⟨st, l, sa, SS l B n, B, SAc, (PL.fine n (by omega)).len, PL.bl, (PL.fine n (by omega)).key, PL.bk, rfl, rfl⟩
  refine bx_step (sx_set 9 (k := .nm (km (mapG iD (SS l B 1)))) (ex_call (ok_one_more T) (hr.mono (by decide)) (g_one_more T) (ea_cons (ex_var 2) (ea_cons (ex_varM 7) (ex_one1 (ex_varM 3)))) fun H e => one 0 (by omega) (SA.mono e)) sc_row_of.nd) ?_
  refine bx_freeze 9 (l := mapG iD (SS l B 1)) ?_
  let Z : Sl → Sl → Sl → Sl → Sl → List Sl := fun s7 s8 s9 s10 s11 => [.d (.r a), .d (.r b), .d (.r sa), .m (km (mapG bD B)), .no, .d (.i mo), .d (keyD mvI), s7, s8, s9, s10, s11, .no, .no, .no]
  let nums : Nat → List Int := fun n => (List.range n).map fun n => gm n / (botN l : Nat)
  refine bx_cons (Mid := fun s => s = Z (.m (km (mapG iD (SS l B N)))) (.own (intsD (nums N))) (.m (km (mapG iD (SS l B (N + 1))))) .no .no) (sx_while (m0 := N) (I := fun m s => ∃ n, n + m = N ∧ s = Z (.m (km (mapG iD (SS l B n)))) (.own (intsD (nums n))) (.m (km (mapG iD (SS l B (n + 1))))) .no .no) ⟨0, by omega, rfl⟩ fun m s1 hI => ?_) fun s1 q1 => ?_
  · obtain ⟨n, hn, rfl⟩ := hI
    refine ⟨!(ledB l mvI mo (SS l B n) (SS l B (n + 1))), et_not (et_val (ex_call (ok_is_led_on T) (hr.mono (by decide)) (g_is_led_on T) (ea_cons (ex_var 2) (ea_cons (ex_varM 7) (ea_cons (ex_varM 9) (ea_cons (ex_var 6) (ex_one1 (ex_var 5)))))) fun H e => ⟨st, l, sa, SS l B n, SS l B (n + 1), mvI, mo, SA.mono e, (PL.fine n (by omega)).len, (PL.fine n (by omega)).key, by show (mv.map _).length = _; rw [List.length_map, PL.mvl], rfl, rfl⟩)), fun z => ?_, fun z => ?_⟩
    · have hlt : n < N := by
        by_cases h : n = N
        · rw [h, PL.led] at z
          cases z
        · omega
      have F := PL.fine n (by omega)
      refine bx_step (sx_app 8 (xs := intsD (nums n)) (d := .i (gm n / (botN l : Nat))) rfl (ex_call (ok_greatest_gap T) hr (g_greatest_gap T) (ea_cons (ex_var 2) (ex_one1 (ex_varM 7))) fun H e => ⟨st, l, sa, SS l B n, gm n, SA.mono e, F.len, F.key, F.bd, PL.gtop n hlt, rfl, rfl⟩) (by rw [intsD_len, List.length_map, List.length_range]; have := PL.nb; omega)) ?_
      refine bx_step (sx_par 7 9 (k := .rm (km (mapG iD (SS l B (n + 1))))) (l := .nm (km (mapG iD (SS l B (n + 2))))) (ex_varM 9) (ex_call (ok_one_more T) (hr.mono (by decide)) (g_one_more T) (ea_cons (ex_var 2) (ea_cons (ex_varM 9) (ex_one1 (ex_varM 3)))) fun H e => one (n + 1) (by omega) (SA.mono e)) rfl sc_row_of.nd rfl) ?_
      refine bx_freeze 9 (l := mapG iD (SS l B (n + 2))) ?_
      refine bx_nil ⟨m - 1, by omega, n + 1, by omega, ?_⟩
      have hnum : intsD (nums (n + 1)) = intsD (nums n) ++ [.i (gm n / (botN l : Nat))] := by
        show intsD ((List.range (n + 1)).map _) = _
        rw [List.range_succ, List.map_append, ← intsD_snoc]
        rfl
      rw [hnum]
      rfl
    · have hled : ledB l mvI mo (SS l B n) (SS l B (n + 1)) = true := by simpa using z
      have hnN : n = N := by
        by_cases h : n < N
        · have := PL.not n h
          rw [hled] at this
          cases this
        · omega
      rw [hnN]
  · subst q1
    generalize htn : ordN mv (spans l) = tn
    have hord := PL.ord
    rw [htn] at hord
    have rf := PL.rfine
    rw [htn] at rf
    have rt := PL.rtop
    rw [htn] at rt
    refine bx_step (sx_parN (k := .d (.i (tn : Nat))) (l := .nl (intsD [])) 10 11 (ex_to (ex_meth (ex_var 2) SA.2 (c_States T) (m_States_order T) rfl (ok_States_order T) (hr.mono (by decide)) (ex_one1 (ex_var 6)) fun H e => ⟨st, l, sa, mv, SA.mono e, PL.mvl, rfl, rfl⟩) (by rw [htn])) (ex_lst (l := []) ea_nil) rfl sc_row_of.nd rfl) ?_
    let ags : Nat → List Int := fun n => (List.range n).map fun j => rm j / (botN l : Nat)
    refine bx_cons (Mid := fun s => ∃ s7 p1, s = [.d (.r a), .d (.r b), .d (.r sa), .m (km (mapG bD B)), .no, .d (.i mo), .d (keyD mvI), s7, .own (intsD (nums N)), .m (km (mapG iD (SS l B (N + 1)))), .d (.i (tn : Nat)), .own (intsD (ags tn)), p1, .no, .no]) (sx_mono (sx_for (items := rangeD 0 tn) (I := fun j s => ∃ p1, s = [.d (.r a), .d (.r b), .d (.r sa), .m (km (mapG bD B)), .no, .d (.i mo), .d (keyD mvI), .m (km (mapG iD (RR l mvI mo (SS l B N) j))), .own (intsD (nums N)), .m (km (mapG iD (SS l B (N + 1)))), .d (.i (tn : Nat)), .own (intsD (ags j)), p1, .no, .no]) (ix_to (ix_range1 (ex_var 10) (by omega) (n_range T)) (by rw [Int.toNat_natCast])) ⟨.no, rfl⟩ (fun j d Hb' s1 hd e hI => ?_)) ?_) fun s1 q1 => ?_
    · obtain ⟨p1, rfl⟩ := hI
      have hj : j < tn := by
        have := (List.getElem?_eq_some_iff.mp hd).1
        rwa [rangeD_len] at this
      rw [rangeD_get hj] at hd
      obtain rfl := Option.some.inj hd
      have F := rf j (by omega)
      generalize hS : RR l mvI mo (SS l B N) j = S at F
      have rtj := rt j hj
      have hS' : RR l (mv.map fun m : Nat => (m : Int)) mo (SS l B N) j = S := hS
      rw [hS'] at rtj
      refine ⟨_, _, gx_name 12 sc_row_of.nd, ?_⟩
      refine bx_step (sx_app 11 (xs := intsD (ags j)) (d := .i (rm j / (botN l : Nat))) rfl (ex_call (ok_greatest_gap T) hr (g_greatest_gap T) (ea_cons (ex_var 2) (ex_one1 (ex_varM 7))) fun H e' => ⟨st, l, sa, S, rm j, (SA.mono e).mono e', F.len, F.key, F.bd, rtj, rfl, rfl⟩) (by rw [intsD_len, List.length_map, List.length_range]; omega)) ?_
      have hnext : RR l mvI mo (SS l B N) (j + 1) = shiftG l mvI mo S := by rw [← hS]; rfl
      refine bx_step (sx_setDc (items := itemsD (mapG iD S)) 7 [("state", 13), ("total", 14)] (fun i => addI (S.getD i ([], 0)).1 mvI (spans l)) (fun i => iD ((S.getD i ([], 0)).2 + mo)) hr.units sc_row_of.nd (ix_items (fx_m 7)) (by rw [items_len]; have := F.len; omega) (fun i d Hb2 q e2 => ?_) (by rfl) (blk_ok (by kernel_rfl))) ?_
      · obtain ⟨p, hp, rfl⟩ := items_get iD q
        have e3 : S.getD i ([], 0) = p := by rw [List.getD_eq_getElem?_getD, hp]; rfl
        have hpm := List.mem_of_getElem? hp
        refine ⟨[13, 14], _, by simp, fun s H C cl fp => gx_tup2 13 14 sc_row_of.nd, fun s H C cl fp => ex_to (ex_meth (ex_var 2) ((SA.mono e).mono e2).2 (c_States T) (m_States_added T) rfl (ok_States_added T) (by exact hr.mono (by decide)) (ea_cons (ex_var 13) (ex_one1 (ex_var 6))) fun H e' => ⟨st, l, sa, p.1, mvI, ((SA.mono e).mono e2).mono e', F.key p hpm, by show (mv.map _).length = _; rw [List.length_map, PL.mvl], rfl, rfl⟩) (by rw [e3]), fun s H C cl fp => ex_to (ex_add (ex_var 14) (ex_var 5)) (by rw [e3])⟩
      · have hdc : dcG (itemsD (mapG iD S)).length (fun i => addI (S.getD i ([], 0)).1 mvI (spans l)) (fun i => iD ((S.getD i ([], 0)).2 + mo)) = mapG iD (shiftG l mvI mo S) := by
          rw [items_len, dcG_map iD, shift_range]
        rw [hdc]
        refine bx_freeze 7 (l := mapG iD (shiftG l mvI mo S)) ?_
        refine bx_nil ?_
        have hag : intsD (ags (j + 1)) = intsD (ags j) ++ [.i (rm j / (botN l : Nat))] := by
          show intsD ((List.range (j + 1)).map _) = _
          rw [List.range_succ, List.map_append, ← intsD_snoc]
          rfl
        rw [hag, hnext]
        exact ⟨_, rfl⟩
    · rintro s ⟨p1, rfl⟩
      rw [rangeD_len]
      exact ⟨_, _, rfl⟩
    · obtain ⟨s7, p1, rfl⟩ := q1
      refine bx_one (sx_ret (ex_make (mk_Row T) (ok_Row_init T) (hr.mono (by decide)) (g_Row T) (ea_cons (ex_tupL (l := intsD (nums N)) (ex_varL 8 (.inr rfl)) (.inl rfl) (n_tuple T)) (ea_cons (ex_tupL (l := intsD (ags tn)) (ex_varL 11 (.inr rfl)) (.inl rfl) (n_tuple T)) (ex_one1 (ex_fdiv (ex_mul (ex_var 10) (ex_var 5) (.inl ⟨by omega, by omega⟩)) (ex_fldD (ex_var 2) SA.2 (c_States T) (no_States_bottom T) rfl) ⟨by omega, by omega⟩)))) fun H e => ⟨nums N, ags tn, (tn : Nat) * mo / (botN l : Nat), fun z => ?_, ?_, ?_, rfl, ?_⟩) rfl)
      · have : (ags tn).length = 0 := by rw [z]; rfl
        rw [List.length_map, List.length_range] at this
        omega
      · show ((List.range tn).map _).length ≤ _
        rw [List.length_map, List.length_range]
        omega
      · show ((List.range N).map _).length ≤ _
        rw [List.length_map, List.length_range]
        exact PL.nb
      · unfold planVal
        rw [htn]
        rfl
end
end K44
end

section
-- text V22
set_option Elab.async false
set_option linter.all false
set_option maxRecDepth 100000
set_option maxHeartbeats 4000000
namespace K44
open PySem PySem.Spec L2
open Evl (Ex)
section
variable {X : Cx} {H0 : Hp} {ss : List Sl} {pos p1 p2 : Pos} {a b e : Expr} {st : Stmt} {sts : List Stmt} {Nx : List Sl → Prop} {Rt : Kd → Prop}
/-- f(e), e a new object -/
theorem ex_callO {x : Str} {f : Addr} {lv : Nat} {ps : List Str} {R : Hp → List Kd → Kd → Prop} {e : Expr} {Pr : Hp → Addr → Prop} {k : Kd}
    (G : OkF X.prog X.w X.K X.mg X.base lv f ps (spC R)) (hr : Room lv X.A) (hm : X.mg x = some (.ref f)) (ha : EX X H0 ss e (.o Pr)) (hR : ∀ H a, Ex H0 H → Pr H a → R H [.d (.v (.ref a))] k) (hg : Gl X x := by rfl)
    (hdb : (x == ("__debug__" : Str)) = false := by decide) (he : starEach [e] X.env = (false, eval e X.env) :: starEach [] X.env := by rfl) :
    EX X H0 ss (.Call (.Name x p1) [e] [] pos) k := fun σ H Q S q => by
  obtain ⟨fd, F, b⟩ := G.ex
  refine ⟨_, pe_call F hr hg hm G.kp b .nil pass0 (pa_cons pe_any pa_nil he) hdb he rfl, ?_⟩
  refine ha σ H _ S fun y H1 e1 r1 => ?_
  obtain ⟨a, rfl, hp⟩ := r1
  exact ⟨_, k, ags_cons ag_ref ags_nil, hR H1 a (S.ex.trans e1) hp, fun y H2 e2 r2 => q y H2 (e1.trans e2) (r2.back e1)⟩
/-- x, y = two new objects -/
theorem bx_obj2 {P1 P2 : Hp → Addr → Prop} {x y : Str} {kt k2 : Nat} {px py pt pt2 : Pos} (i j : Nat) (ha : EX X H0 ss a (.o P1)) (hb : EX X H0 ss b (.o P2)) (hP : ∀ H H' a, Ex H H' → P1 H a → P1 H' a) (no : noOwnS ss = true) (hN : X.N.Nodup) (hc : X.calm = true)
    (hw : swappedStores [.Tuple [.Name x px, .Name y py] kt pt] (.Tuple [a, b] k2 pt2) X.env = pure (some [x, y]))
    (k : ∀ u v Hb, Ex H0 Hb → P1 Hb u → P2 Hb v → BX X Hb sts ((ss.set i (.d (.v (.ref u)))).set j (.d (.v (.ref v)))) Nx Rt) (hi : X.N[i]? = some x := by rfl) (hj : X.N[j]? = some y := by rfl) (hij : i ≠ j := by decide)
    (hx : X.env.scope.names.lookup x = some .local := by rfl) (hy : X.env.scope.names.lookup y = some .local := by rfl) (he : starEach [a, b] X.env = (false, eval a X.env) :: starEach [b] X.env := by rfl) (he2 : starEach [b] X.env = (false, eval b X.env) :: starEach [] X.env := by rfl)
    (hs : swapsWithSole [.Tuple [.Name x px, .Name y py] kt pt] (.Tuple [a, b] k2 pt2) pos.line X.env = pure false := by rfl) :
    BX X H0 (.Assign [.Tuple [.Name x px, .Name y py] kt pt] (.Tuple [a, b] k2 pt2) pos :: sts) ss Nx Rt := fun σ H D S n r => by
  refine ⟨_, pss_cons (ps_par hc hN hi hj hij hx hy (pa_cons pe_any (pa_cons pe_any pa_nil he2) he) hw hs) pb_any, ?_⟩
  refine ha σ H _ S fun u H1 e1 r1 => ?_
  refine hb σ H1 _ (S.mono e1) fun v H2 e2 r2 => ?_
  obtain ⟨u, rfl, h1⟩ := r1
  obtain ⟨v, rfl, h2⟩ := r2
  have ee := e1.trans e2
  have S2 := (S.mono ee).rebase no
  refine ⟨_, _, rfl, k u v H2 (S.ex.trans ee) (hP _ _ _ e2 h1) h2 _ _ D ((S2.putD (d := .v (.ref u)) .of).putD (d := .v (.ref v)) .of) (fun s' σ' H' q S' => n s' σ' H' q (S'.down (S.ex.trans ee))) fun q y H' hq e' i' => r q y H' hq ((S.ex.trans ee).trans e') (i'.back (S.ex.trans ee))⟩
/-! a list of ints that only SqL tells of -/
def Cells (X : Cx) (H0 : Hp) (a : Addr) (ns : List Int) : Prop := ∀ H, Ex H0 H → SqL X.K H a (ns.map V.int)
theorem ex_lenQ {c : Addr} {ns : List Int} (h : EX X H0 ss e (.d (.v (.ref c)))) (s : Cells X H0 c ns) (hm : X.mg "len" = none) (hg : Gl X "len" := by rfl) (he : starEach [e] X.env = (false, eval e X.env) :: starEach [] X.env := by rfl) : EX X H0 ss (.Call (.Name "len" p1) [e] [] pos) (.d (.v (.int (ns.length : Int)))) := fun σ H Q S q =>
  ⟨_, pe_callB call_len_seq hg hm (by decide +kernel) (pa_cons pe_any pa_nil he) (by decide) (by decide) he rfl, h σ H _ S fun y H1 e1 r1 => by
    rw [isv r1]
    refine ⟨c, _, rfl, .inl (s H1 (S.ex.trans e1)), ?_⟩
    rw [List.length_map]
    exact q _ H1 e1 (is_v (H := H))⟩
theorem ex_ixQ {c : Addr} {ns : List Int} {i : Nat} {n : Int} (ha : EX X H0 ss a (.d (.v (.ref c)))) (s : Cells X H0 c ns) (hb : EX X H0 ss b (.d (.v (.int (i : Nat))))) (h : ns[i]? = some n) (hs : PlainIx b := by exact fun _ _ => rfl) : EX X H0 ss (.Subscript a b pos) (.d (.v (.int n))) := fun σ H Q S q =>
  ⟨_, pe_ix ix_list pe_any pe_any hs, ha σ H _ S fun u H1 e1 r1 => hb σ H1 _ (S.mono e1) fun w H2 e2 r2 => by
    rw [isv r1, isv r2]
    exact ⟨c, _, i, .int n, rfl, rfl, s H2 (S.ex.trans (e1.trans e2)), atI_nat (by rw [List.getElem?_map, h]; rfl), q _ H2 (e1.trans e2) (is_v (H := H))⟩⟩
theorem ex_slQ {c : Addr} {ns : List Int} {lo hi : Option Expr} {u v : Option Int} (ha : EX X H0 ss a (.d (.v (.ref c)))) (s : Cells X H0 c ns) (h1 : EO X H0 ss lo u) (h2 : EO X H0 ss hi v) : EX X H0 ss (.Subscript a (.Slice lo hi none p2) pos) (.nl (intsD (cutD ns u v))) := fun σ H Q S q =>
  ⟨_, pe_slice sl_list pe_any po_any po_any, ha σ H _ S fun x H1 e1 r1 => h1 σ H1 _ (S.mono e1) fun H2 e2 => h2 σ H2 _ ((S.mono e1).mono e2) fun H3 e3 => by
    have ee := (e1.trans e2).trans e3
    rw [isv r1]
    refine ⟨c, _, rfl, s H3 (S.ex.trans ee), fun p' hp' => q _ _ (ee.trans (Evl.Ex.new hp')) ⟨p', rfl, Evl.fresh_back ee hp', _, upd_same, ?_⟩⟩
    have : cutV (ns.map V.int) u v = (cutD ns u v).map V.int := by
      unfold cutV cutD
      rw [List.length_map, List.map_take, List.map_drop]
    rw [this]
    exact RepL.ofFlat V.int _⟩
end
section
variable {P : Program} {w : World} {K : PySem.W.Frag} {mg : Str → Option Value} {base : Heap}
theorem ok_greatest (T : Tx K mg) : OkF P w K mg base 10 (He.ga K "greatest") ["one", "other"] (spC fun H ks k => ∃ s a o v b o' v' mo mv N gm rm, BookAt K o v H a ∧ BookAt K o' v' H b ∧ orO o v = s ∧ orO o' v' = s ∧ perN v * perN v' ≤ 200 ∧ Plan (twoSd a o v b o' v') (bestN (twoSd a o v b o' v') (perN s)) mo mv N gm rm ∧ ks = [.d (.r a), .d (.r b)] ∧ k = .o (RowP K (planVal (twoSd a o v b o' v') mo mv N gm rm))) := by
  refine ok_fr (f_greatest T) sc_greatest (fun _ _ _ _ _ _ us hl => match us, hl with | [_, _], _ => rfl) (by decide) (fun H ks k ⟨_, _, _, _, _, _, _, _, _, _, _, _, _, _, _, _, _, _, h, _⟩ => by rw [h]; rfl) (fun cdv A outer s H E ks k hr h => ?_)
  obtain ⟨st, a, o, v, b, o', v', mo, mv, N, gm, rm, Ba, Bb, ha, hb, hz, PL, rfl, rfl⟩ := h
  refine bx_step (sx_expr (ex_call (ok_check_two T) (hr.mono (by decide)) (g_check_two T) (ea_cons (ex_var 0) (ex_one1 (ex_var 1))) fun H e => ⟨a, o, v, b, o', v', Ba.mono e, Bb.mono e, rfl, rfl⟩)) ?_
  refine bx_step (sx_expr (ex_call (ok_check_greatest T) (hr.mono (by decide)) (g_check_greatest T) (ea_cons (ex_var 0) (ex_one1 (ex_var 1))) fun H e => ⟨a, o, v, b, o', v', Ba.mono e, Bb.mono e, by rw [ha, hb], hz, rfl, rfl⟩)) ?_
  exact bx_one (sx_ret (ex_call (ok_row_of T) hr (g_row_of T) (ea_cons (ex_var 0) (ex_one1 (ex_var 1))) fun H e => ⟨st, a, o, v, b, o', v', mo, mv, N, gm, rm, Ba.mono e, Bb.mono e, ha, hb, PL, rfl, rfl⟩) rfl)
theorem ok_least (T : Tx K mg) : OkF P w K mg base 10 (He.ga K "least") ["one", "other"] (spC fun H ks k => ∃ s a o v b o' v' mo mv N gm rm, BookAt K o v H a ∧ BookAt K o' v' H b ∧ orO o v = s ∧ orO o' v' = s ∧ perN v' * perN v ≤ 200 ∧ Plan (twoSd b o' v' a o v) (bestN (twoSd b o' v' a o v) (perN s)) mo mv N gm rm ∧ ks = [.d (.r a), .d (.r b)] ∧ k = .o (RowP K fun n => -planVal (twoSd b o' v' a o v) mo mv N gm rm n)) := by
  refine ok_fr (f_least T) sc_least (fun _ _ _ _ _ _ us hl => match us, hl with | [_, _], _ => rfl) (by decide) (fun H ks k ⟨_, _, _, _, _, _, _, _, _, _, _, _, _, _, _, _, _, _, h, _⟩ => by rw [h]; rfl) (fun cdv A outer s H E ks k hr h => ?_)
  obtain ⟨st, a, o, v, b, o', v', mo, mv, N, gm, rm, Ba, Bb, ha, hb, hz, PL, rfl, rfl⟩ := h
  refine bx_step (sx_expr (ex_call (ok_check_two T) (hr.mono (by decide)) (g_check_two T) (ea_cons (ex_var 0) (ex_one1 (ex_var 1))) fun H e => ⟨a, o, v, b, o', v', Ba.mono e, Bb.mono e, rfl, rfl⟩)) ?_
  refine bx_step (sx_expr (ex_call (ok_check_greatest T) (hr.mono (by decide)) (g_check_greatest T) (ea_cons (ex_var 1) (ex_one1 (ex_var 0))) fun H e => ⟨b, o', v', a, o, v, Bb.mono e, Ba.mono e, by rw [ha, hb], hz, rfl, rfl⟩)) ?_
  exact bx_one (sx_ret (ex_callO (ok_turned T) (hr.mono (by decide)) (g_turned T) (ex_call (ok_row_of T) hr (g_row_of T) (ea_cons (ex_var 1) (ex_one1 (ex_var 0))) fun H e => ⟨st, b, o', v', a, o, v, mo, mv, N, gm, rm, Bb.mono e, Ba.mono e, hb, ha, PL, rfl, rfl⟩) fun H u e hu => ⟨u, _, hu, rfl, rfl⟩) rfl)
/-! the law's cells -/
def mixN (ns : List Int) (m : Int) : Int := ns.foldl (fun m n => (m * 48337 + n + 59) % 2147483587) m
def cellV (ns : List Int) (i : Nat) : Int := match ns[i]? with
  | some n => n
  | none => mixN (ns.take 4) (7919 * (i : Int) + 4021)
theorem ok_law_cell (T : Tx K mg) : OkF P w K mg base 1 (He.ga K "_law_cell") ["_law_cells", "_law_spot"] (spC fun H ks k => ∃ a ns, ∃ i : Nat, (∀ H', Ex H H' → SqL K H' a (ns.map V.int)) ∧ i < 100 ∧ ks = [.d (.r a), .d (.i i)] ∧ k = .d (.i (cellV ns i))) := by
  refine ok_fr (f__law_cell T) sc__law_cell (fun _ _ _ _ _ _ us hl => match us, hl with | [_, _], _ => rfl) (by decide) (fun H ks k ⟨_, _, _, _, _, h, _⟩ => by rw [h]; rfl) (fun cdv A outer s H E ks k hr h => ?_)
  obtain ⟨a, ns, i, C, hi, rfl, rfl⟩ := h
  refine bx_guard (x := decide (i < ns.length)) (et_to (et_lt (ex_var 1) (ex_lenQ (ns := ns) (ex_var 0) C (n_len T))) (decide_eq_decide.mpr (by omega))) (fun q => ?_) fun q => ?_
  · have hlt := of_decide_eq_true q
    have e : ns[i]? = some ns[i] := List.getElem?_eq_getElem hlt
    refine bx_one (sx_ret (ex_intI (ex_ixQ (ns := ns) (ex_var 0) C (ex_var 1) e) (n_int T)) ?_)
    unfold cellV
    rw [e]
  · have hge := of_decide_eq_false q
    refine bx_step (sx_set 2 (k := .d (.i (7919 * (i : Int) + 4021))) (ex_add (ex_mul ex_int (ex_var 1) (.inl ⟨by decide, by decide⟩)) ex_int) sc__law_cell.nd) ?_
    refine bx_cons (Mid := fun s => s[2]? = some (.d (.i (mixN (ns.take 4) (7919 * (i : Int) + 4021))))) (sx_mono (sx_for (items := intsD (ns.take 4)) (I := fun j s => ∃ u, s = [.d (.r a), .d (.i i), .d (.i (mixN ((ns.take 4).take j) (7919 * (i : Int) + 4021))), u]) (ix_to (ix_seq (es_nl (ex_slQ (ns := ns) (ex_var 0) C eo_none (eo_some ex_int)))) ?_) ⟨.no, rfl⟩ (fun j d Hb s1 hd e hI => ?_)) ?_) fun s1 q1 => bx_one (sx_ret (ex_var 2 q1) ?_)
    · unfold cutD
      rw [HT.sIx_none, Nat.sub_zero, List.drop_zero]
      have : HT.sIx ns.length ns.length (some 4) = min 4 ns.length := HT.sIx_nat ns.length ns.length 4
      rw [this]
      congr 1
      rw [List.take_eq_take_iff]
      omega
    · obtain ⟨u, rfl⟩ := hI
      obtain ⟨n, hn, rfl⟩ := intsD_get hd
      refine ⟨_, _, gx_name 3 sc__law_cell.nd, ?_⟩
      refine bx_one (sx_mono (sx_set 2 (k := .d (.i ((mixN ((ns.take 4).take j) (7919 * (i : Int) + 4021) * 48337 + n + 59) % 2147483587))) (ex_mod (ex_intI (ex_add (ex_add (ex_mul (ex_var 2) ex_int (.inr ⟨by decide, by decide⟩)) (ex_var 3)) ex_int) (n_int T)) ex_int (by decide)) sc__law_cell.nd) ?_)
      rintro _ rfl
      unfold mixN
      rw [foldl_take _ _ hn]
      exact ⟨_, rfl⟩
    · rintro s ⟨u, rfl⟩
      rw [intsD_len, List.take_length]
      rfl
    · unfold cellV
      rw [List.getElem?_eq_none (by omega)]
def jarA (ns : List Int) (i : Nat) : Int := if cellV ns i < 0 then -cellV ns i else cellV ns i
theorem ok_law_jar (T : Tx K mg) : OkF P w K mg base 2 (He.ga K "_law_jar") ["_law_cells", "_law_spot"] (spC fun H ks k => ∃ a ns, ∃ i : Nat, (∀ H', Ex H H' → SqL K H' a (ns.map V.int)) ∧ i < 100 ∧ ks = [.d (.r a), .d (.i i)] ∧ k = .nl (intsD [jarA ns i, (jarA ns i + 907 * (i : Int)) % 2147483587, 0])) := by
  refine ok_fr (f__law_jar T) sc__law_jar (fun _ _ _ _ _ _ us hl => match us, hl with | [_, _], _ => rfl) (by decide) (fun H ks k ⟨_, _, _, _, _, h, _⟩ => by rw [h]; rfl) (fun cdv A outer s H E ks k hr h => ?_)
  obtain ⟨a, ns, i, C, hi, rfl, rfl⟩ := h
  refine bx_step (sx_set 2 (k := .d (.i (jarA ns i))) (ex_abs (ex_call (ok_law_cell T) hr (g__law_cell T) (ea_cons (ex_var 0) (ex_one1 (ex_var 1))) fun H e => ⟨a, ns, i, fun H' e' => C H' (e.trans e'), hi, rfl, rfl⟩) (n_abs T)) sc__law_jar.nd) ?_
  exact bx_one (sx_ret (ex_lst (l := intsD [jarA ns i, (jarA ns i + 907 * (i : Int)) % 2147483587, 0]) (ea_cons (ex_var 2) (ea_cons (ex_mod (ex_intI (ex_add (ex_var 2) (ex_mul ex_int (ex_var 1) (.inl ⟨by decide, by decide⟩))) (n_int T)) ex_int (by decide)) (ex_one1 ex_int))) (by simp [intsD])) rfl)
theorem jar_ok (ns : List Int) (i : Nat) : 0 ≤ jarA ns i ∧ 0 ≤ (jarA ns i + 907 * (i : Int)) % 2147483587 ∧ (jarA ns i + 907 * (i : Int)) % 2147483587 < 2147483587 := by
  refine ⟨?_, Int.emod_nonneg _ (by decide), Int.emod_lt_of_pos _ (by decide)⟩
  unfold jarA
  split <;> omega
theorem ok_law_common (T : Tx K mg) : OkF P w K mg base 1 (He.ga K "_law_common") ["_law_large", "_law_small"] (spC fun _ ks k => ∃ a b : Nat, ks = [.d (.i a), .d (.i b)] ∧ k = .d (.i (Nat.gcd a b : Nat))) := by
  refine ok_fr (f__law_common T) sc__law_common (fun _ _ _ _ _ _ us hl => match us, hl with | [_, _], _ => rfl) (by decide) (fun H ks k ⟨_, _, h, _⟩ => by rw [h]; rfl) (fun cdv A outer s H E ks k hr h => ?_)
  obtain ⟨a, b, rfl, rfl⟩ := h
  refine bx_cons (Mid := fun s => s[0]? = some (.d (.i (Nat.gcd a b : Nat)))) (sx_while (m0 := b) (I := fun m s => ∃ c : Nat, s = [.d (.i c), .d (.i m)] ∧ Nat.gcd c m = Nat.gcd a b) ⟨a, rfl, rfl⟩ fun m s1 hI => ?_) fun s1 q1 => bx_one (sx_ret (ex_var 0 q1) rfl)
  obtain ⟨c, rfl, hg⟩ := hI
  refine ⟨decide (0 < m), et_to (et_gt (ex_var 1) ex_int) (decide_eq_decide.mpr (by omega)), fun z => ?_, fun z => ?_⟩
  · have hm := of_decide_eq_true z
    refine bx_one (sx_mono (sx_par 0 1 (k := .d (.i m)) (l := .d (.i ((c % m : Nat) : Int))) (ex_var 1) (ex_to (ex_mod (ex_intI (ex_var 0) (n_int T)) (ex_var 1) (by omega)) (by rw [Int.natCast_emod])) rfl sc__law_common.nd rfl) ?_)
    rintro _ rfl
    refine ⟨c % m, Nat.mod_lt _ hm, m, rfl, ?_⟩
    rw [← hg, Nat.gcd_comm c m, Nat.gcd_rec m c, Nat.gcd_comm (c % m) m]
  · have hm : m = 0 := by have := of_decide_eq_false z; omega
    subst hm
    rw [Nat.gcd_zero_right] at hg
    rw [← hg]
    rfl
end
end K44
end

section
-- text V23
set_option Elab.async false
set_option linter.all false
set_option maxRecDepth 100000
set_option maxHeartbeats 4000000
namespace K44
open PySem PySem.Spec L2
open Evl (Ex)
def jarI (a b : Int) : Prop := 0 ≤ a ∧ 0 ≤ b ∧ b < 2147483587
def JarAt (H : Hp) (p : Addr) : Prop := ∃ a b c : Int, H p = some (.lst [.int a, .int b, .int c]) ∧ jarI a b
def spDig : Sp := fun vs H Q _ => ∃ p m, vs = [V.ref p, .int m] ∧ JarAt H p ∧ 1 ≤ m ∧ m ≤ 1000 ∧ ∀ H' d, ExB p H H' → JarAt H' p → 0 ≤ d → d < m → Q (.int d) H'
/-- one of the items is taken -/
def spTake : Sp := fun vs H Q _ => ∃ p q ds, vs = [V.ref p, .ref q] ∧ JarAt H p ∧ lstAt H q ds ∧ q ≠ p ∧ 1 ≤ ds.length ∧ ds.length ≤ 1000 ∧ ∀ H' d y, d ∈ ds → ExB p H H' → JarAt H' p → Rep H' d y → Q y H'
section
variable {X : Cx} {H0 H : Hp} {σ : L2.St} {ss : List Sl} {pos p1 p2 : Pos} {i e : Expr} {D : Ends}
theorem rs_jput {x : Str} {xs : List Dt} {k : Nat} {d : Dt} {p : Addr} (S : SR H0 H σ ss) (h0 : σ[0]? = some (some (.ref p))) (hs : ss[0]? = some (.own xs)) (he : EX X H0 ss e (.d d)) (hi : EX X H0 ss i (.d (.v (.int (k : Nat))))) (hk : k < xs.length) (nx : ∀ H', SR H0 H' σ (ss.set 0 (.own (xs.set k d))) → D.nx σ H')
    (hN : X.N[0]? = some x := by rfl) (hv : Vis X.env.scope x := by first | exact Or.inl rfl | exact Or.inr (Or.inl rfl) | exact Or.inr (Or.inr rfl)) (hd : (x == ("__debug__" : Str)) = false := by decide) (hcd : (x == ("__classdict__" : Str)) = false := by decide)
    (ha : ∀ v, assign (.Subscript (.Name x p1) i p2) X.env v = (do
      let ov ← holding [v] (eval (.Name x p1) X.env)
      let iv ← holding [v, ov] (eval i X.env)
      standAt p2
      holding [v, ov, iv] (setItem ov iv v)
      release [v, ov, iv] []) := by intro _; rfl)
    (hsw : swapsWithSole [.Subscript (.Name x p1) i p2] e pos.line X.env = pure false := by rfl) (hw : swappedStores [.Subscript (.Name x p1) i p2] e X.env = pure none := by rfl)
    (h1 : (assignEach [.Subscript (.Name x p1) i p2] X.env).map (·.2) = [assign (.Subscript (.Name x p1) i p2) X.env] := by rfl) : RS X (.Assign [.Subscript (.Name x p1) i p2] e pos) D σ H := by
  obtain ⟨y, ey, q, eq, z, vs, hl, hr⟩ := S.get hs (by intro z; cases z)
  rw [h0] at ey
  cases ey
  cases eq
  refine ⟨_, ps_asg pe_any (pg_sub (pe_var hN hv hd hcd) pe_any set_list ha) hsw hw h1, he σ H _ S fun u H1 e1 r1 => ⟨_, h0, hi σ H1 _ (S.mono e1) fun w H2 e2 r2 => ?_⟩⟩
  have ee := e1.trans e2
  have hl2 := ee _ _ hl
  have hkl : k < vs.length := by rw [hr.length]; exact hk
  refine ⟨p, vs, k, k, rfl, isv r2, hl2, ?_, nx _ (own_write (S.mono ee) hs h0 (RepL.set (Rep.mono e2 r1) k (hr.mono ee)))⟩
  unfold ixN
  rw [if_pos (by omega), if_pos (by omega), Int.toNat_natCast]
end
section
variable {P : Program} {w : World} {K : PySem.W.Frag} {mg : Str → Option Value} {base : Heap}
def minus (H : Hp) (p : Addr) : Hp := fun a => if a = p then none else H a
theorem minus_at {H : Hp} {p : Addr} : minus H p p = none := if_pos rfl
theorem minus_ex {H : Hp} {p : Addr} : Ex (minus H p) H := fun a o h => by
  have h' : (if a = p then none else H a) = some o := h
  split at h'
  · cases h'
  · exact h'
theorem minus_exb {H H' : Hp} {p : Addr} (e : Ex (minus H p) H') : ExB p H H' := fun a o n h => e a o (by show (if a = p then none else H a) = _; rw [if_neg n]; exact h)
theorem jar_get {H0 H : Hp} {σ : L2.St} {ss : List Sl} {p : Addr} {a b c : Int} (S : SR H0 H σ ss) (h0 : σ[0]? = some (some (.ref p))) (hs : ss[0]? = some (.own (intsD [a, b, c]))) (j : jarI a b) : JarAt H p := by
  obtain ⟨y, ey, q, eq, z, vs, hl, hr⟩ := S.get hs (by intro z; cases z)
  rw [h0] at ey
  cases ey
  cases eq
  rw [hr.intsD] at hl
  exact ⟨a, b, c, hl, j⟩
theorem ok_law_dig (T : Tx K mg) : OkF P w K mg base 1 (He.ga K "_law_dig") ["_law_jar_here", "_law_many"] spDig := by
  obtain ⟨fd, F⟩ := f__law_dig T
  refine ⟨⟨fd, F.ok sc__law_dig (fun vs H Q E h => ?_) (fun cdv A outer s H vs Q E hr h => ?_), F.binds (fun _ _ _ _ _ _ us hl => match us, hl with | [_, _], _ => rfl)⟩, F.kp⟩
  · obtain ⟨p, m, rfl, _⟩ := h
    rfl
  · obtain ⟨p, m, rfl, ⟨a, b, c, hp, hj⟩, hm1, hm2, q⟩ := h
    let X' := CxF P w K mg base N__law_dig "_law_dig" s__law_dig (He.ga K "_law_dig") cdv A outer s H E
    refine ⟨_, pb_any, ?_⟩
    have S0 : SR (minus H p) H (L2.start N__law_dig [V.ref p, .int m]) [.own (intsD [a, b, c]), .d (.i m), .no, .no] := by
      refine ⟨minus_ex, rfl, fun i s q => ?_, fun i j s t r hij qi qj hs ht ei ej => ?_⟩
      · match i, q with
        | 0, q => cases q; exact .inr ⟨_, rfl, p, rfl, minus_at, _, hp, RepL.ofFlat V.int [a, b, c]⟩
        | 1, q => cases q; exact .inr ⟨_, rfl, Rep.of (H := H)⟩
        | 2, q => cases q; exact .inl rfl
        | 3, q => cases q; exact .inl rfl
        | i + 4, q => cases q
      · match i, qi with
        | 0, qi =>
          match j, qj with
          | 0, qj => exact absurd rfl hij
          | 1, qj => cases qj; cases ht
          | 2, qj => cases qj; cases ht
          | 3, qj => cases qj; cases ht
          | j + 4, qj => cases qj
        | 1, qi => cases qi; cases hs
        | 2, qi => cases qi; cases hs
        | 3, qi => cases qi; cases hs
        | i + 4, qi => cases qi
    have h0 : (L2.start N__law_dig [V.ref p, .int m])[0]? = some (some (.ref p)) := rfl
    generalize L2.start N__law_dig [V.ref p, .int m] = σ0 at S0 h0
    refine ⟨_, pss_cons ps_any pb_any, ?_⟩
    refine rs_jput (X := X') (k := 2) (d := .i (c + 1)) S0 h0 rfl (ex_add (ex_ixL (l := intsD [a, b, c]) (.inl (ex_varL 0 (.inr rfl))) ex_int ixD2) ex_int) ex_int (by simp [intsD]) fun H1 S1 => ?_
    refine ⟨_, pss_cons ps_any pb_any, ?_⟩
    refine ⟨_, ps_set (i := 2) sc__law_dig.nd rfl (.inl rfl) pe_any rfl (.inr rfl), ?_⟩
    refine (ex_intI (X := X') (H0 := minus H p) (ss := [.own (intsD [a, b, c + 1]), .d (.i m), .no, .no]) (ex_ixL (l := intsD [a, b, c + 1]) (d := .i b) (.inl (ex_varL 0 (.inr rfl))) ex_int ixD1) (n_int T)) σ0 H1 _ S1 fun y H2 e2 r2 => ?_
    have S2 : SR (minus H p) H2 (σ0.set 2 (some y)) [.own (intsD [a, b, c + 1]), .d (.i m), .d (.i b), .no] := (S1.mono e2).putD (i := 2) r2
    have h2 : (σ0.set 2 (some y))[0]? = some (some (.ref p)) := by rw [List.getElem?_set_ne (by decide)]; exact h0
    show RB X' _ _ (σ0.set 2 (some y)) H2
    generalize σ0.set 2 (some y) = σ2 at S2 h2 ⊢
    refine ⟨_, pss_cons ps_any pb_any, ?_⟩
    obtain ⟨j1, j2, j3⟩ := hj
    have bm : 0 ≤ b % 29989 ∧ b % 29989 < 29989 := ⟨Int.emod_nonneg _ (by decide), Int.emod_lt_of_pos _ (by decide)⟩
    generalize hb' : (b * (b % 29989 + 40013) + (c + 1) * 65521 + 7) % 2147483587 = b2
    have hb2 : 0 ≤ b2 ∧ b2 < 2147483587 := by rw [← hb']; exact ⟨Int.emod_nonneg _ (by decide), Int.emod_lt_of_pos _ (by decide)⟩
    refine rs_jput (X := X') (k := 1) (d := .i b2) S2 h2 rfl (ex_to (ex_mod (ex_intI (ex_add (ex_add (ex_mul (i := b) (j := b % 29989 + 40013) (ex_var 2) (ex_add (ex_mod (ex_intI (ex_var 2) (n_int T)) ex_int (by decide)) ex_int) (.inr ⟨by omega, by omega⟩)) (ex_mul (ex_ixL (l := intsD [a, b, c + 1]) (d := .i (c + 1)) (.inl (ex_varL 0 (.inr rfl))) ex_int ixD2) ex_int (.inr ⟨by decide, by decide⟩))) ex_int) (n_int T)) ex_int (by decide)) (by rw [hb'])) ex_int (by simp [intsD]) fun H3 S3 => ?_
    have S3' : SR (minus H p) H3 σ2 [.own (intsD [a, b2, c + 1]), .d (.i m), .d (.i b), .no] := S3
    refine ⟨_, pss_cons ps_any pb_any, ?_⟩
    refine ⟨_, ps_if pt_any pb_any pss_nil, ?_⟩
    refine (et_gt (X := X') (H0 := minus H p) (ss := [.own (intsD [a, b2, c + 1]), .d (.i m), .d (.i b), .no]) (ex_ixL (l := intsD [a, b2, c + 1]) (d := .i a) (.inl (ex_varL 0 (.inr rfl))) ex_int ixD0) (ex_int (i := 0))) σ2 H3 _ S3' fun H4 e4 => ?_
    have S4 := S3'.mono e4
    by_cases ha : 0 < a
    · rw [decide_eq_true ha]
      refine iteT ?_
      -- divmod
      refine ⟨_, pss_cons (ps_asg pe_any (pg_tup (n := 2) rfl (pgs_cons (pg_sub (pe_var (i := 0) rfl (.inl rfl) (by decide) (by decide)) pe_any set_list) (pgs_cons (pg_name (i := 3) sc__law_dig.nd rfl (.inl rfl) (.inr rfl)) pgs_nil rfl) rfl) rfl rfl) rfl rfl rfl) pb_any, ?_⟩
      refine (ex_divmod (X := X') (H0 := minus H p) (ss := [.own (intsD [a, b2, c + 1]), .d (.i m), .d (.i b), .no]) (ex_ixL (l := intsD [a, b2, c + 1]) (d := .i a) (.inl (ex_varL 0 (.inr rfl))) ex_int ixD0) (ex_var 1) ⟨by omega, by omega⟩ (n_divmod T)) σ2 H4 _ S4 fun y H5 e5 r5 => ?_
      obtain ⟨t, ts, rfl, ht, rt⟩ := rep_tupI (H := H5) r5
      have ets : ts = [V.int (a / m), V.int (a % m)] := by
        obtain ⟨z1, z2, q1, q2, q3⟩ := rt.inv
        obtain ⟨z3, z4, q4, q5, q6⟩ := q3.inv
        rw [q1, q2.flat, q4, q5.flat, q6.inv0]
      subst ets
      have S5 := S4.mono e5
      refine ⟨t, _, rfl, SqT.of ht, rfl, _, _, rfl, _, h2, ?_⟩
      refine (ex_int (X := X') (H0 := minus H p) (i := 0)) σ2 H5 _ S5 fun z H6 e6 r6 => ?_
      have S6 := S5.mono e6
      obtain ⟨y0, ey0, q0, eq0, zz, vs, hl, hr6⟩ := S6.get (i := 0) rfl (by intro z; cases z)
      rw [h2] at ey0
      cases ey0
      cases eq0
      have hvs := hr6.intsD
      refine ⟨p, vs, 0, 0, rfl, isv r6, hl, by rw [hvs]; rfl, ?_⟩
      have S7 : SR (minus H p) (upd H6 p (.lst (vs.set 0 (V.int (a / m))))) σ2 [.own (intsD [a / m, b2, c + 1]), .d (.i m), .d (.i b), .no] := own_write S6 (i := 0) rfl h2 (by rw [hvs]; exact RepL.ofFlat V.int [a / m, b2, c + 1])
      refine ⟨_, _, rfl, rfl, ?_⟩
      have S8 : SR (minus H p) (upd H6 p (.lst (vs.set 0 (V.int (a / m))))) (σ2.set 3 (some (V.int (a % m)))) [.own (intsD [a / m, b2, c + 1]), .d (.i m), .d (.i b), .d (.i (a % m))] := S7.putD (i := 3) (d := .i (a % m)) .of
      have h8 : (σ2.set 3 (some (V.int (a % m))))[0]? = some (some (.ref p)) := by rw [List.getElem?_set_ne (by decide)]; exact h2
      refine ⟨_, pss_one (ps_ret (pe_var (i := 3) rfl (.inl rfl) (by decide) (by decide))), ?_⟩
      obtain ⟨y3, ey3, a3⟩ := S8.get (i := 3) rfl (by intro z; cases z)
      refine ⟨y3, ey3, ?_⟩
      rw [show y3 = V.int (a % m) from Rep.flat (H := upd H6 p (.lst (vs.set 0 (V.int (a / m))))) a3]
      exact q _ _ (minus_exb S8.ex) (jar_get S8 h8 rfl ⟨Int.ediv_nonneg (by omega) (by omega), hb2.1, hb2.2⟩) (Int.emod_nonneg _ (by omega)) (Int.emod_lt_of_pos _ (by omega))
    · rw [decide_eq_false ha]
      refine iteF ?_
      refine ⟨_, pss_one (ps_ret pe_any), ?_⟩
      refine (ex_mod (X := X') (H0 := minus H p) (ss := [.own (intsD [a, b2, c + 1]), .d (.i m), .d (.i b), .no]) (ex_intI (ex_fdiv (ex_ixL (l := intsD [a, b2, c + 1]) (d := .i b2) (.inl (ex_varL 0 (.inr rfl))) ex_int ixD1) ex_int (by decide)) (n_int T)) (ex_var 1) (by omega)) σ2 H4 _ S4 fun y H5 e5 r5 => ?_
      rw [isv r5]
      exact q _ _ (minus_exb (S4.mono e5).ex) (jar_get (S4.mono e5) h2 rfl ⟨j1, hb2.1, hb2.2⟩) (Int.emod_nonneg _ (by omega)) (Int.emod_lt_of_pos _ (by omega))
theorem jar_start {H : Hp} {N : List Str} {p : Addr} {vs : List V} : (L2.start N (V.ref p :: vs))[0]? = some (some (.ref p)) := rfl
theorem ok_law_take (T : Tx K mg) : OkF P w K mg base 2 (He.ga K "_law_take") ["_law_jar_here", "_law_some"] spTake := by
  obtain ⟨fd, F⟩ := f__law_take T
  refine ⟨⟨fd, F.ok sc__law_take (fun vs H Q E h => ?_) (fun cdv A outer s H vs Q E hr h => ?_), F.binds (fun _ _ _ _ _ _ us hl => match us, hl with | [_, _], _ => rfl)⟩, F.kp⟩
  · obtain ⟨p, q, ds, rfl, _⟩ := h
    rfl
  · obtain ⟨p, q, ds, rfl, hj, hq, hne, hl1, hl2, k⟩ := h
    let X' := CxF P w K mg base N__law_take "_law_take" s__law_take (He.ga K "_law_take") cdv A outer s H E
    obtain ⟨fd2, F2, b2⟩ := (ok_law_dig (P := P) (w := w) (base := base) T).ex
    have S0 : SR H H (L2.start N__law_take [V.ref p, .ref q]) (argS N__law_take.length [.d (.v (.ref p)), .r ds]) := sr_start (ags_cons ag_ref (ags_cons ⟨q, rfl, hq⟩ ags_nil)) (Nat.le_refl 2)
    refine ⟨_, pss_one (ps_ret (pe_ix ix_list (pe_var (i := 1) rfl (.inl rfl) (by decide) (by decide)) (pe_call F2 (by exact hr) rfl (g__law_dig T) (ok_law_dig (P := P) (w := w) (base := base) T).kp b2 .nil pass0 pa_any (by decide) rfl rfl) fun _ _ => rfl)), ?_⟩
    refine ⟨_, rfl, ?_⟩
    refine (ea_cons (X := X') (H0 := H) (ex_var 0) (ex_one1 (ex_len (l := ds) (ex_varL 1 (.inl rfl)) (.inr (.inl rfl)) (n_len T)))) _ H _ S0 fun vs H2 e2 r2 => ?_
    obtain ⟨y1, y2, rfl, a1, a2⟩ := ags2 r2
    rw [agv a1, agv a2, List.append_nil]
    obtain ⟨a, b, c, hp, hji⟩ := hj
    refine ⟨p, ds.length, rfl, ⟨a, b, c, e2 _ _ hp, hji⟩, by omega, by omega, fun H3 d eb hj3 h0 h1 => ?_⟩
    obtain ⟨us, hus, hr3⟩ := hq
    have eb2 : ExB p H H3 := (ExB.ex e2).trans eb
    have hus3 := eb2 q _ hne hus
    have tu : Tups H H3 := fun a xs h => eb2 a _ (fun z => by rw [z, hp] at h; cases h) h
    have hr4 := hr3.tup tu
    obtain ⟨y, hy, ry⟩ := hr4.get (i := d.toNat) (d := ds[d.toNat]'(by omega)) (List.getElem?_eq_getElem (by omega))
    refine ⟨q, us, d, y, rfl, rfl, SqL.of hus3, ?_, k H3 _ y (List.getElem_mem (by omega)) eb2 hj3 ry⟩
    have : atI us ((d.toNat : Nat) : Int) = some y := atI_nat hy
    rwa [Int.toNat_of_nonneg h0] at this
def waysD : List Dt := [.s "down", .s "up", .s "near down", .s "near up", .s "near even"]
def spWay : Sp := fun vs H Q _ => ∃ p, vs = [V.ref p] ∧ JarAt H p ∧ ∀ H' (w : Way), ExB p H H' → JarAt H' p → Q (.str w.s) H'
theorem ways_w {d : Dt} (h : d ∈ waysD) : ∃ w : Way, d = .s w.s := by
  unfold waysD at h
  simp only [List.mem_cons, List.not_mem_nil, or_false] at h
  rcases h with rfl | rfl | rfl | rfl | rfl
  · exact ⟨.down, rfl⟩
  · exact ⟨.up, rfl⟩
  · exact ⟨.nd, rfl⟩
  · exact ⟨.nu, rfl⟩
  · exact ⟨.ne, rfl⟩
theorem ok_law_way (T : Tx K mg) : OkF P w K mg base 3 (He.ga K "_law_way") ["_law_jar_here"] spWay := by
  obtain ⟨fd, F⟩ := f__law_way T
  refine ⟨⟨fd, F.ok sc__law_way (fun vs H Q E h => ?_) (fun cdv A outer s H vs Q E hr h => ?_), F.binds (fun _ _ _ _ _ _ us hl => match us, hl with | [_], _ => rfl)⟩, F.kp⟩
  · obtain ⟨p, rfl, _⟩ := h
    rfl
  · obtain ⟨p, rfl, hj, k⟩ := h
    let X' := CxF P w K mg base N__law_way "_law_way" s__law_way (He.ga K "_law_way") cdv A outer s H E
    obtain ⟨fd2, F2, b2⟩ := (ok_law_take (P := P) (w := w) (base := base) T).ex
    have S0 : SR H H (L2.start N__law_way [V.ref p]) (argS N__law_way.length [.d (.v (.ref p))]) := sr_start (ags_cons ag_ref ags_nil) (Nat.le_refl 1)
    refine ⟨_, pss_one (ps_ret (pe_call F2 (by exact hr) rfl (g__law_take T) (ok_law_take (P := P) (w := w) (base := base) T).kp b2 .nil pass0 (pa_cons pe_any (pa_cons pe_any pa_nil rfl) rfl) (by decide) rfl rfl)), ?_⟩
    refine (ex_var (X := X') (H0 := H) 0) _ H _ S0 fun y1 H1 e1 r1 => ?_
    refine (ex_lst (X := X') (H0 := H) (ss := argS N__law_way.length [.d (.v (.ref p))]) (l := waysD) (ea_cons ex_str (ea_cons ex_str (ea_cons ex_str (ea_cons ex_str (ex_one1 ex_str))))) (by decide)) _ H1 _ (S0.mono e1) fun y2 H2 e2 r2 => ?_
    obtain ⟨q, rfl, hq, lq⟩ := r2
    rw [isv r1]
    obtain ⟨a, b, c, hp, hji⟩ := hj
    have ee := e1.trans e2
    refine ⟨p, q, waysD, rfl, ⟨a, b, c, ee _ _ hp, hji⟩, lq, (fun z => by rw [z, e1 _ _ hp] at hq; cases hq), by decide, by decide, fun H3 d y hd eb hj3 ry => ?_⟩
    obtain ⟨w, rfl⟩ := ways_w hd
    rw [ry.flat]
    exact k H3 w ((ExB.ex ee).trans eb) hj3
theorem ok_law_span (T : Tx K mg) : OkF P w K mg base 2 (He.ga K "_law_span") ["_law_steps"] (spC fun _ ks k => ∃ t : Stp, ks = [.d (.tup [stD t])] ∧ k = .d (.i (perN (some t) : Nat))) := by
  refine ok_fr (f__law_span T) sc__law_span (fun _ _ _ _ _ _ us hl => match us, hl with | [_], _ => rfl) (by decide) (fun H ks k ⟨_, h, _⟩ => by rw [h]; rfl) (fun cdv A outer s H E ks k hr h => ?_)
  obtain ⟨t, rfl, rfl⟩ := h
  refine bx_step (sx_asg (ex_tup (l := [.i 1, .i 1]) (ea_cons ex_int (ex_one1 ex_int))) (gx_tup2 1 2 sc__law_span.nd)) ?_
  refine bx_cons (Mid := fun s => s[1]? = some (.d (.i (perN (some t) : Nat)))) (sx_for1 (d := stD t) (ix_seq (l := [stD t]) (es_tup (ex_var 0))) fun Hb e => ⟨_, _, gx_name 3 sc__law_span.nd, ?_⟩) fun s1 h1 => bx_one (sx_ret (ex_var 1 h1) rfl)
  have hb := t.hb
  have ha := t.ha
  have hu := t.hu
  have hw := whole_pos t
  have hbu : t.b * t.u ≤ 20 * 3 := Nat.mul_le_mul hb.2 hu.2
  have g : 0 < Nat.gcd t.a (whole t) := Nat.gcd_pos_of_pos_right _ hw.1
  have g2 : Nat.gcd t.a (whole t) ≤ whole t := Nat.gcd_le_right _ hw.1
  have pp := perN_pos (some t)
  have ep : perN (some t) = whole t / Nat.gcd t.a (whole t) := rfl
  have e1 : ((t.b : Int) * t.u * (if t.w = .ne then 2 else 1)) = ((whole t : Nat) : Int) := by
    unfold whole
    split <;> simp
  refine bx_one (sx_yes (et_to (et_eq (ex_t0 (ex_var 3)) ex_str) tm_times) ?_)
  refine bx_step (sx_set 4 (k := .d (.i (whole t : Nat))) (ex_to (ex_mul (i := (t.b : Int) * t.u) (j := if t.w = .ne then 2 else 1) (ex_mul (ex_t2 (ex_var 3)) (ex_t4 (ex_var 3)) (.inr ⟨by omega, by omega⟩)) (ex_ixL (l := [.i 1, .i 2]) (d := .i (if t.w = .ne then 2 else 1)) (.inr (ex_lst (l := [.i 1, .i 2]) (ea_cons ex_int (ex_one1 ex_int)))) (ex_intB (x := decide (t.w = .ne)) (ex_to (ex_eq (ex_t3 (ex_var 3)) ex_str) (by congr 3; exact w_ne t.w)) (n_int T)) (by
    by_cases z : t.w = .ne
    · rw [if_pos z, decide_eq_true z]
      exact ixD1
    · rw [if_neg z, decide_eq_false z]
      exact ixD0)) (.inl ⟨by rw [← Int.natCast_mul]; omega, by rw [← Int.natCast_mul]; omega⟩)) (by rw [e1])) sc__law_span.nd) ?_
  refine bx_step (sx_set 5 (k := .d (.i (perN (some t) : Nat))) (ex_to (ex_fdiv (ex_var 4) (ex_call (ok_law_common T) hr (g__law_common T) (ea_cons (ex_var 4) (ex_one1 (ex_t1 (ex_var 3)))) fun H _ => ⟨whole t, t.a, rfl, rfl⟩) ⟨by rw [Nat.gcd_comm]; omega, by rw [Nat.gcd_comm]; omega⟩) (by rw [Nat.gcd_comm, ep, ← Int.natCast_ediv])) sc__law_span.nd) ?_
  refine bx_step (sx_set 6 (k := .d (.i (perN (some t) : Nat))) (ex_to (ex_fdiv (ex_var 5) (ex_call (ok_law_common T) hr (g__law_common T) (ea_cons (ex_var 5) (ex_one1 (ex_var 2))) fun H _ => ⟨perN (some t), 1, rfl, rfl⟩) ⟨by rw [Nat.gcd_one_right]; decide, by rw [Nat.gcd_one_right]; decide⟩) (by rw [Nat.gcd_one_right]; simp)) sc__law_span.nd) ?_
  refine bx_step (sx_set 1 (k := .d (.i (perN (some t) : Nat))) (ex_to (ex_mul (ex_var 1) (ex_var 6) (.inl ⟨by decide, by decide⟩)) (by rw [Int.one_mul])) sc__law_span.nd) ?_
  refine bx_one (sx_mono (sx_set 2 (ex_fdiv (ex_mul (ex_mul (ex_var 2) (ex_var 6) (.inl ⟨by decide, by decide⟩)) (ex_t1 (ex_var 3)) (.inr ⟨by omega, by omega⟩)) (ex_t2 (ex_var 3)) ⟨by omega, by omega⟩) sc__law_span.nd) ?_)
  rintro _ rfl
  rfl
end
end K44
end

section
-- text V24
set_option Elab.async false
set_option linter.all false
set_option maxRecDepth 100000
set_option maxHeartbeats 4000000
namespace K44
open PySem PySem.Spec L2
open Evl (Ex)
/-- what is wanted of a step, in plain numbers -/
structure Good (s : Stp) (hi lo : Nat → Int) : Prop where
  high : ∀ a b, ∃ mo mv N gm rm, Plan (twoSd a (some s) none b none (some s)) (bestN (twoSd a (some s) none b none (some s)) (perN (some s))) mo mv N gm rm ∧ planVal (twoSd a (some s) none b none (some s)) mo mv N gm rm = hi
  low : ∀ a b, ∃ mo mv N gm rm, Plan (twoSd b none (some s) a (some s) none) (bestN (twoSd b none (some s) a (some s) none) (perN (some s))) mo mv N gm rm ∧ (fun n => -planVal (twoSd b none (some s) a (some s) none) mo mv N gm rm n) = lo
  mb : Bot (mrL none (mgD (some s) none (perN (some s))) 1) (lo 2)
  mt : Top (mrL none (mgD (some s) none (perN (some s))) 1) (hi 2)
  ml : (mgD (some s) none (perN (some s))).length < 90000
  sb : Bot (gns (perN (some s)) fun i j => dI (some s) i j) (lo 2)
  st : Top (gns (perN (some s)) fun i j => dI (some s) i j) (hi 2)
  eb : Bot (mrL (some s) (mgD none (some s) (perN (some s))) (perN (some s))) 0
  et : Top (mrL (some s) (mgD none (some s) (perN (some s))) (perN (some s))) 0
  el : perN (some s) * (mgD none (some s) (perN (some s))).length < 90000
  h0 : hi 0 = 0
  l0 : lo 0 = 0
  h1 : hi 1 = 0
  l1 : lo 1 = 0
  h3 : hi 3 ≤ 2 * hi 2
  l3 : 2 * lo 2 ≤ lo 3
def spRight : Sp := fun vs H Q _ => ∃ p, vs = [V.ref p] ∧ JarAt H p ∧ ∀ H', ExB p H H' → Q (.bl true) H'
section
variable {P : Program} {w : World} {K : PySem.W.Frag} {mg : Str → Option Value} {base : Heap}
theorem small_per (a b : Nat) (w : Way) (ha : 1 ≤ a ∧ a ≤ 20) (hb : 1 ≤ b ∧ b ≤ 9) : perN (some ⟨a, b, 1, w, ha, ⟨hb.1, by omega⟩, ⟨by decide, by decide⟩⟩) ≤ 60 := by
  have h : whole ⟨a, b, 1, w, ha, ⟨hb.1, by omega⟩, ⟨by decide, by decide⟩⟩ ≤ 18 := by
    unfold whole
    show b * 1 * _ ≤ 18
    split <;> omega
  show whole _ / _ ≤ 60
  exact Nat.le_trans (Nat.div_le_self _ _) (by omega)
theorem jar_keep {H H' : Hp} {p : Addr} (e : Ex H H') (h : JarAt H p) : JarAt H' p := let ⟨a, b, c, x, y⟩ := h; ⟨a, b, c, e _ _ x, y⟩
theorem ok_law_right (T : Tx K mg) (hG : ∀ s : Stp, perN (some s) ≤ 60 → ∃ hi lo, Good s hi lo) : OkF P w K mg base 11 (He.ga K "_law_right") ["_law_jar_here"] spRight := by
  obtain ⟨fd, F⟩ := f__law_right T
  refine ⟨⟨fd, F.ok sc__law_right (fun vs H Q E h => ?_) (fun cdv A outer s H vs Q E hr h => ?_), F.binds (fun _ _ _ _ _ _ us hl => match us, hl with | [_], _ => rfl)⟩, F.kp⟩
  · obtain ⟨p, rfl, _⟩ := h
    rfl
  · obtain ⟨p, rfl, hj, k⟩ := h
    let X' := CxF P w K mg base N__law_right "_law_right" s__law_right (He.ga K "_law_right") cdv A outer s H E
    obtain ⟨fd1, F1, b1⟩ := (ok_law_dig (P := P) (w := w) (base := base) T).ex
    obtain ⟨fd2, F2, b2⟩ := (ok_law_way (P := P) (w := w) (base := base) T).ex
    obtain ⟨fd3, F3, b3⟩ := (ok_law_take (P := P) (w := w) (base := base) T).ex
    let ss0 : List Sl := argS N__law_right.length [.d (.v (.ref p))]
    have S : ∀ Hc : Hp, SR Hc Hc (L2.start N__law_right [V.ref p]) ss0 := fun Hc => sr_start (ags_cons ag_ref ags_nil) (show 1 ≤ 7 by decide)
    have dg := fun (h : Gl X' "_law_dig") => h
    refine ⟨_, pss_cons (ps_set (i := 1) sc__law_right.nd rfl (.inl rfl) (pe_tup (pa_cons pe_any (pa_cons (pe_op op_add pe_any (pe_call F1 (by exact hr.mono (by decide)) rfl (g__law_dig T) (ok_law_dig (P := P) (w := w) (base := base) T).kp b1 .nil pass0 pa_any (by decide) rfl rfl)) (pa_cons (pe_op op_add pe_any (pe_call F1 (by exact hr.mono (by decide)) rfl (g__law_dig T) (ok_law_dig (P := P) (w := w) (base := base) T).kp b1 .nil pass0 pa_any (by decide) rfl rfl)) (pa_cons (pe_call F2 (by exact hr.mono (by decide)) rfl (g__law_way T) (ok_law_way (P := P) (w := w) (base := base) T).kp b2 .nil pass0 pa_any (by decide) rfl rfl) (pa_cons (pe_call F3 (by exact hr.mono (by decide)) rfl (g__law_take T) (ok_law_take (P := P) (w := w) (base := base) T).kp b3 .nil pass0 (pa_cons pe_any (pa_cons pe_any pa_nil rfl) rfl) (by decide) rfl rfl) pa_nil rfl) rfl) rfl) rfl) rfl)) rfl (.inr rfl)) pb_any, ?_⟩
    have arg : ∀ (Hc : Hp), EX X' Hc ss0 (.Name "_law_jar_here" ⟨0, 0, 0, 0⟩) (.d (.v (.ref p))) := fun Hc => ex_var 0
    refine (ex_str (X := X') (H0 := H)) _ H _ (S H) fun y0 H0 e0 r0 => ?_
    -- the first digit
    refine (ex_int (X := X') (H0 := H0) (i := 1)) _ H0 _ (S H0) fun z1 H1 e1 r1 => ?_
    refine (ea_cons (X := X') (H0 := H1) (ks := [.d (.i 20)]) (ex_var 0) (ex_one1 ex_int)) _ H1 _ (S H1) fun vs1 H2 e2 r2 => ?_
    obtain ⟨u1, u2, rfl, a1, a2⟩ := ags2 r2
    rw [agv a1, agv a2, List.append_nil]
    refine ⟨p, 20, rfl, jar_keep ((e0.trans e1).trans e2) hj, by decide, by decide, fun H3 d1 x3 j3 l1 g1 => ?_⟩
    have k3 : ExB p H H3 := (ExB.ex ((e0.trans e1).trans e2)).trans x3
    rw [isv r1]
    refine ⟨1, d1, rfl, rfl, ?_⟩
    -- the second
    refine (ex_int (X := X') (H0 := H3) (i := 1)) _ H3 _ (S H3) fun z4 H4 e4 r4 => ?_
    refine (ea_cons (X := X') (H0 := H4) (ks := [.d (.i 20)]) (ex_var 0) (ex_one1 ex_int)) _ H4 _ (S H4) fun vs5 H5 e5 r5 => ?_
    obtain ⟨u3, u4, rfl, a3, a4⟩ := ags2 r5
    rw [agv a3, agv a4, List.append_nil]
    refine ⟨p, 20, rfl, jar_keep (e4.trans e5) j3, by decide, by decide, fun H6 d2 x6 j6 l2 g2 => ?_⟩
    have k6 : ExB p H H6 := (k3.trans (.ex (e4.trans e5))).trans x6
    rw [isv r4]
    refine ⟨1, d2, rfl, rfl, ?_⟩
    -- the way
    refine (ex_one1 (X := X') (H0 := H6) (ss := ss0) (ex_var 0)) _ H6 _ (S H6) fun vs7 H7 e7 r7 => ?_
    obtain ⟨u5, rfl, a5⟩ := ags1 r7
    rw [agv a5, List.append_nil]
    refine ⟨p, rfl, jar_keep e7 j6, fun H8 wy x8 j8 => ?_⟩
    have k8 : ExB p H H8 := (k6.trans (.ex e7)).trans x8
    -- the unit
    refine (ex_var (X := X') (H0 := H8) (ss := ss0) 0) _ H8 _ (S H8) fun z9 H9 e9 r9 => ?_
    refine (ex_lst (X := X') (H0 := H9) (ss := ss0) (l := [.i 1, .i 1, .i 2, .i 3]) (ea_cons ex_int (ea_cons ex_int (ea_cons ex_int (ex_one1 ex_int))))) _ H9 _ (S H9) fun z10 H10 e10 r10 => ?_
    obtain ⟨q, rfl, hq, lq⟩ := r10
    rw [isv r9]
    have j9 := jar_keep e9 j8
    refine ⟨p, q, _, rfl, jar_keep e10 j9, lq, (fun z => by
      obtain ⟨_, _, _, hp, _⟩ := j9
      rw [z, hp] at hq
      cases hq), by decide, by decide, fun H11 dd y11 hdd x11 j11 ry => ?_⟩
    have k11 : ExB p H H11 := (k8.trans (.ex (e9.trans e10))).trans x11
    obtain ⟨u, hu, rfl⟩ : ∃ u : Nat, (1 ≤ u ∧ u ≤ 3) ∧ dd = .i u := by
      simp only [List.mem_cons, List.not_mem_nil, or_false] at hdd
      rcases hdd with rfl | rfl | rfl | rfl
      · exact ⟨1, by decide, rfl⟩
      · exact ⟨1, by decide, rfl⟩
      · exact ⟨2, by decide, rfl⟩
      · exact ⟨3, by decide, rfl⟩
    rw [ry.flat, isv r0]
    refine ⟨by show 5 ≤ sizeLine; decide, fun t ht => ?_⟩
    have k12 : ExB p H (upd H11 t (.tup [.str "times", .int (1 + d1), .int (1 + d2), .str wy.s, .int u])) := k11.trans (.ex (Evl.Ex.new ht))
    have htt : (upd H11 t (.tup [.str "times", .int (1 + d1), .int (1 + d2), .str wy.s, .int u])) t = some (.tup [.str "times", .int (1 + d1), .int (1 + d2), .str wy.s, .int u]) := upd_same
    generalize upd H11 t (.tup [.str "times", .int (1 + d1), .int (1 + d2), .str wy.s, .int u]) = Hb at k12 htt
    obtain ⟨n1, hn1⟩ : ∃ n1 : Nat, (n1 : Int) = 1 + d1 := ⟨(1 + d1).toNat, Int.toNat_of_nonneg (by omega)⟩
    obtain ⟨n2, hn2⟩ : ∃ n2 : Nat, (n2 : Int) = 1 + d2 := ⟨(1 + d2).toNat, Int.toNat_of_nonneg (by omega)⟩
    let s0 : Stp := ⟨n1, n2, u, wy, ⟨by omega, by omega⟩, ⟨by omega, by omega⟩, hu⟩
    have rs0 : Rep Hb (stD s0) (.ref t) := by
      refine rep_tup htt (.cons .of (.cons ?_ (.cons ?_ (.cons .of (.cons .of .nil)))))
      · rw [← hn1]; exact .of
      · rw [← hn2]; exact .of
    have Sb : SR Hb Hb ((L2.start N__law_right [V.ref p]).set 1 (some (.ref t))) [.d (.v (.ref p)), .d (stD s0), .no, .no, .no, .no, .no] := (S Hb).putD (i := 1) rs0
    show RB X' _ _ ((L2.start N__law_right [V.ref p]).set 1 (some (.ref t))) Hb
    generalize (L2.start N__law_right [V.ref p]).set 1 (some (.ref t)) = σb at Sb ⊢
    clear_value s0
    -- from here nothing is written that stands
    have main : BX X' Hb (List.tail (defBody s__law_right)) [.d (.v (.ref p)), .d (stD s0), .no, .no, .no, .no, .no] (fun _ => False) (fun q => q = .d (.b true)) := by
      refine bx_cons (Mid := fun ss => ∃ t : Stp, ss = [.d (.v (.ref p)), .d (stD t), .no, .no, .no, .no, .no] ∧ perN (some t) ≤ 60) (sx_if (x := decide (60 < perN (some s0))) (et_to (et_gt (ex_call (ok_law_span T) (hr.mono (by decide)) (g__law_span T) (ex_one1 (ex_tup (l := [stD s0]) (ex_one1 (ex_var 1)))) fun H _ => ⟨s0, rfl, rfl⟩) ex_int) (decide_eq_decide.mpr (by omega))) (fun q => ?_) fun q => ?_) fun s1 ⟨t, hs1, hp⟩ => ?_
      · have hmod : ((s0.b : Int) % 9) = ((s0.b % 9 : Nat) : Int) := by omega
        refine bx_one (sx_mono (sx_set 1 (k := .d (stD ⟨s0.a, 1 + s0.b % 9, 1, s0.w, s0.ha, ⟨by omega, by omega⟩, ⟨by decide, by decide⟩⟩)) (ex_to (ex_tup (l := [.s "times", .i s0.a, .i (1 + (s0.b : Int) % 9), .s s0.w.s, .i 1]) (ea_cons ex_str (ea_cons (ex_t1 (ex_var 1)) (ea_cons (ex_add ex_int (ex_mod (ex_intI (ex_t2 (ex_var 1)) (n_int T)) ex_int (by decide))) (ea_cons (ex_t3 (ex_var 1)) (ex_one1 ex_int)))))) (by rw [hmod]; rfl)) sc__law_right.nd) ?_)
        rintro _ rfl
        exact ⟨_, rfl, small_per _ _ _ s0.ha ⟨by omega, by omega⟩⟩
      · exact bx_nil ⟨s0, rfl, by have := of_decide_eq_false q; omega⟩
      subst hs1
      obtain ⟨hi, lo, G⟩ := hG t hp
      refine bx_obj (P := BookAt K (some t) none) 2 (ex_make (mk_Book T) (ok_Book_init T) (hr.mono (by decide)) (g_Book T) (ea_cons (k := .d (kindsD (some t))) (ex_tup (l := [kindD (some t)]) (ex_one1 (ex_tup (l := [.s "part", .i 0, rowD (some t)]) (ea_cons ex_str (ea_cons ex_int (ex_one1 (ex_tup (l := [stD t]) (ex_one1 (ex_var 1))))))))) (ea_cons (k := .d groupsD) (ex_tup (l := [.tup []]) (ex_one1 (ex_tup (l := []) ea_nil))) (ex_one1 (k := .d (rowD none)) (ex_tup (l := []) ea_nil)))) fun H e => ⟨some t, none, .inr rfl, rfl, rfl⟩) rfl sc__law_right.nd fun p2 H2 e2 B2 => ?_
      refine bx_obj (P := BookAt K none (some t)) 3 (ex_make (mk_Book T) (ok_Book_init T) (hr.mono (by decide)) (g_Book T) (ea_cons (k := .d (kindsD none)) (ex_tup (l := [kindD none]) (ex_one1 (ex_tup (l := [.s "part", .i 0, rowD none]) (ea_cons ex_str (ea_cons ex_int (ex_one1 (ex_tup (l := []) ea_nil))))))) (ea_cons (k := .d groupsD) (ex_tup (l := [.tup []]) (ex_one1 (ex_tup (l := []) ea_nil))) (ex_one1 (k := .d (rowD (some t))) (ex_tup (l := [stD t]) (ex_one1 (ex_var 1)))))) fun H e => ⟨none, some t, .inl rfl, rfl, rfl⟩) rfl sc__law_right.nd fun p3 H3 e3 B3 => ?_
      have B2 := B2.mono e3
      obtain ⟨mo, mv, N, gm, rm, PH, vH⟩ := G.high p2 p3
      obtain ⟨mo', mv', N', gm', rm', PL, vL⟩ := G.low p2 p3
      have pn : perN (none : Option Stp) = 1 := rfl
      refine bx_obj2 (P1 := RowP K hi) (P2 := RowP K lo) 4 5 (ex_call (ok_greatest T) (hr.mono (by decide)) (g_greatest T) (ea_cons (ex_var 2) (ex_one1 (ex_var 3))) fun H e => ⟨some t, p2, some t, none, p3, none, some t, mo, mv, N, gm, rm, B2.mono e, B3.mono e, rfl, rfl, by rw [pn]; omega, PH, rfl, by rw [vH]; rfl⟩) (ex_call (ok_least T) (hr.mono (by decide)) (g_least T) (ea_cons (ex_var 2) (ex_one1 (ex_var 3))) fun H e => ⟨some t, p2, some t, none, p3, none, some t, mo', mv', N', gm', rm', B2.mono e, B3.mono e, rfl, rfl, by rw [pn]; omega, PL, rfl, by rw [vL]; rfl⟩) (fun H H' a e h => h.mono e) rfl sc__law_right.nd rfl rfl fun u v H4 e4 R1 R2 => ?_
      have B2 := B2.mono e4
      have B3 := B3.mono e4
      obtain ⟨hd, cy, st, xs, O1⟩ := id R1
      obtain ⟨hd', cy', st', xs', O2⟩ := id R2
      refine bx_step (sx_set 6 (k := .d (.tup [.i (lo 2), .i (hi 2)])) (ex_tup (l := [.i (lo 2), .i (hi 2)]) (ea_cons (ex_meth (ex_var 5) O2 (c_Row T) (m_Row_at T) rfl (ok_Row_at T) (hr.mono (by decide)) (ex_one1 ex_int) fun H e => ⟨v, lo, 2, R2.mono e, by decide, rfl, rfl⟩) (ex_one1 (ex_meth (ex_var 4) O1 (c_Row T) (m_Row_at T) rfl (ok_Row_at T) (hr.mono (by decide)) (ex_one1 ex_int) fun H e => ⟨u, hi, 2, R1.mono e, by decide, rfl, rfl⟩)))) sc__law_right.nd) ?_
      have eq2 : ∀ x y : Int, PyData.eqv (kP (.d (.tup [.i x, .i y]))) (kP (.d (.tup [.i x, .i y]))) = true := fun x y => by
        simp [kP, toP, toPs, PyData.eqv, PyData.eqvAll]
      have z2 : Bot (gns (perN none) fun i j => dI none i j) 0 ∧ Top (gns (perN none) fun i j => dI none i j) 0 := by
        rw [show (gns (perN none) fun i j => dI none i j) = [0] from rfl]
        simp [Bot, Top]
      refine bx_guard (x := false) (et_to (ew_or (x := false) (y := false) (et_to (et_neD (k := .d (.tup [.i (lo 2), .i (hi 2)])) (l := .d (.tup [.i (lo 2), .i (hi 2)])) (x := true) hr.units (ex_call (ok_merge_range T) (hr.mono (by decide)) (g_merge_range T) (ea_cons (ex_var 2) (ex_one1 ex_str)) fun H e => ⟨p2, some t, none, lo 2, hi 2, B2.mono e, by rw [pn, Nat.one_mul]; exact G.ml, G.mb, G.mt, rfl, rfl⟩) (ex_var 6) (eq2 _ _)) rfl) fun _ => ew_or1 (et_to (et_neD (k := .d (.tup [.i (lo 2), .i (hi 2)])) (l := .d (.tup [.i (lo 2), .i (hi 2)])) (x := true) hr.units (ex_call (ok_split_range T) (hr.mono (by decide)) (g_split_range T) (ex_one1 (ex_var 3)) fun H e => ⟨p3, none, some t, lo 2, hi 2, B3.mono e, G.sb, G.st, rfl, rfl⟩) (ex_var 6) (eq2 _ _)) rfl)).t rfl) (fun q => nomatch q) fun _ => ?_
      refine bx_guard (x := false) (et_to (ew_or (x := false) (y := false) (et_to (et_neD (k := .d (.tup [.i 0, .i 0])) (l := .d (.tup [.i 0, .i 0])) (x := true) hr.units (ex_call (ok_split_range T) (hr.mono (by decide)) (g_split_range T) (ex_one1 (ex_var 2)) fun H e => ⟨p2, some t, none, 0, 0, B2.mono e, z2.1, z2.2, rfl, rfl⟩) (ex_tup (l := [.i 0, .i 0]) (ea_cons ex_int (ex_one1 ex_int))) (eq2 _ _)) rfl) fun _ => ew_or1 (et_to (et_neD (k := .d (.tup [.i 0, .i 0])) (l := .d (.tup [.i 0, .i 0])) (x := true) hr.units (ex_call (ok_merge_range T) (hr.mono (by decide)) (g_merge_range T) (ea_cons (ex_var 3) (ex_one1 ex_str)) fun H e => ⟨p3, none, some t, 0, 0, B3.mono e, G.el, G.eb, G.et, rfl, rfl⟩) (ex_tup (l := [.i 0, .i 0]) (ea_cons ex_int (ex_one1 ex_int))) (eq2 _ _)) rfl)).t rfl) (fun q => nomatch q) fun _ => ?_
      have eq4 : PyData.eqv (kP (.nl [.i 0, .i 0, .i 0, .i 0])) (kP (.nl [.i 0, .i 0, .i 0, .i 0])) = true := by
        simp [kP, toP, toPs, PyData.eqv, PyData.eqvAll]
      refine bx_guard (x := false) (et_to (et_neD (k := .nl [.i 0, .i 0, .i 0, .i 0]) (l := .nl [.i 0, .i 0, .i 0, .i 0]) (x := true) hr.units (ex_lst (l := [.i 0, .i 0, .i 0, .i 0]) (ea_cons (ex_meth (ex_var 4) O1 (c_Row T) (m_Row_at T) rfl (ok_Row_at T) (hr.mono (by decide)) (ex_one1 ex_int) fun H e => ⟨u, hi, 0, R1.mono e, by decide, rfl, by rw [G.h0]⟩) (ea_cons (ex_meth (ex_var 5) O2 (c_Row T) (m_Row_at T) rfl (ok_Row_at T) (hr.mono (by decide)) (ex_one1 ex_int) fun H e => ⟨v, lo, 0, R2.mono e, by decide, rfl, by rw [G.l0]⟩) (ea_cons (ex_meth (ex_var 4) O1 (c_Row T) (m_Row_at T) rfl (ok_Row_at T) (hr.mono (by decide)) (ex_one1 ex_int) fun H e => ⟨u, hi, 1, R1.mono e, by decide, rfl, by rw [G.h1]⟩) (ex_one1 (ex_meth (ex_var 5) O2 (c_Row T) (m_Row_at T) rfl (ok_Row_at T) (hr.mono (by decide)) (ex_one1 ex_int) fun H e => ⟨v, lo, 1, R2.mono e, by decide, rfl, by rw [G.l1]⟩)))))) (ex_lst (l := [.i 0, .i 0, .i 0, .i 0]) (ea_cons ex_int (ea_cons ex_int (ea_cons ex_int (ex_one1 ex_int))))) eq4) rfl) (fun q => nomatch q) fun _ => ?_
      refine bx_one (sx_ret (ex_and (x := decide (hi 3 ≤ 2 * hi 2)) (y := decide (2 * lo 2 ≤ lo 3)) (ex_le (ex_meth (ex_var 4) O1 (c_Row T) (m_Row_at T) rfl (ok_Row_at T) (hr.mono (by decide)) (ex_one1 ex_int) fun H e => ⟨u, hi, 3, R1.mono e, by decide, rfl, rfl⟩) (ex_mul ex_int (ex_meth (ex_var 4) O1 (c_Row T) (m_Row_at T) rfl (ok_Row_at T) (hr.mono (by decide)) (ex_one1 ex_int) fun H e => ⟨u, hi, 2, R1.mono e, by decide, rfl, rfl⟩) (.inl ⟨by decide, by decide⟩))) fun _ => ex_one (ex_ge (ex_meth (ex_var 5) O2 (c_Row T) (m_Row_at T) rfl (ok_Row_at T) (hr.mono (by decide)) (ex_one1 ex_int) fun H e => ⟨v, lo, 3, R2.mono e, by decide, rfl, rfl⟩) (ex_mul ex_int (ex_meth (ex_var 5) O2 (c_Row T) (m_Row_at T) rfl (ok_Row_at T) (hr.mono (by decide)) (ex_one1 ex_int) fun H e => ⟨v, lo, 2, R2.mono e, by decide, rfl, rfl⟩) (.inl ⟨by decide, by decide⟩)))) ?_)
      rw [decide_eq_true G.h3, decide_eq_true G.l3]
      rfl
    exact main σb Hb _ Sb (fun _ _ _ z => z.elim) fun k0 y H' hk e i => by
      subst hk
      rw [isv i]
      exact k H' (k12.trans (.ex e))
end
end K44
end

section
-- text V25
set_option Elab.async false
set_option linter.all false
set_option maxRecDepth 100000
set_option maxHeartbeats 4000000
namespace K44
open PySem PySem.Spec L2
open Evl (Ex)
section
variable {X : Cx} {H0 H : Hp} {σ : L2.St} {ss : List Sl} {pos p1 p2 : Pos} {a b e : Expr}
theorem ex_max2 {i j : Int} (ha : EA X H0 ss [a, b] [.d (.v (.int i)), .d (.v (.int j))]) (hm : X.mg "max" = none) (hc : X.calm = true := by rfl) (hg : Gl X "max" := by rfl) (he : starEach [a, b] X.env = (false, eval a X.env) :: starEach [b] X.env := by rfl) (hpl : (backTo pos (starEach [b] X.env)).any (·.1) = false := by rfl) : EX X H0 ss (.Call (.Name "max" p1) [a, b] [] pos) (.d (.v (.int (if j > i then j else i)))) :=
  ex_cb (call_max2 hc) hm (by decide +kernel) ha (fun H vs Q r q => by
    obtain ⟨y, z, rfl, r1, r2⟩ := ags2 r
    rw [agv r1, agv r2]
    exact ⟨i, j, rfl, q _ H (Evl.Ex.refl H) (is_v (H := H))⟩) hg (by decide) (by decide) he hpl
theorem ex_min2 {i j : Int} (ha : EA X H0 ss [a, b] [.d (.v (.int i)), .d (.v (.int j))]) (hm : X.mg "min" = none) (hc : X.calm = true := by rfl) (hg : Gl X "min" := by rfl) (he : starEach [a, b] X.env = (false, eval a X.env) :: starEach [b] X.env := by rfl) (hpl : (backTo pos (starEach [b] X.env)).any (·.1) = false := by rfl) : EX X H0 ss (.Call (.Name "min" p1) [a, b] [] pos) (.d (.v (.int (if j < i then j else i)))) :=
  ex_cb (call_min2 hc) hm (by decide +kernel) ha (fun H vs Q r q => by
    obtain ⟨y, z, rfl, r1, r2⟩ := ags2 r
    rw [agv r1, agv r2]
    exact ⟨i, j, rfl, q _ H (Evl.Ex.refl H) (is_v (H := H))⟩) hg (by decide) (by decide) he hpl
theorem ex_right {u v w : Int} {x : Str} {f : Addr} {lv : Nat} {ps : List Str} (G : OkF X.prog X.w X.K X.mg X.base lv f ps spRight) (hr : Room lv X.A) (hm : X.mg x = some (.ref f)) (h : EX X H0 ss e (.nl (intsD [u, v, w]))) (hj : jarI u v) (hg : Gl X x := by rfl)
    (hdb : (x == ("__debug__" : Str)) = false := by decide) (he : starEach [e] X.env = (false, eval e X.env) :: starEach [] X.env := by rfl) :
    EX X H0 ss (.Call (.Name x p1) [e] [] pos) (.d (.v (.bl true))) := fun σ H Q S q => by
  obtain ⟨fd, F, b⟩ := G.ex
  refine ⟨_, pe_call F hr hg hm G.kp b .nil pass0 (pa_cons pe_any pa_nil he) hdb he rfl, ?_⟩
  refine h σ H _ S fun y H1 e1 r1 => ?_
  obtain ⟨p, rfl, hp, vs, hl, hv⟩ := r1
  rw [hv.intsD] at hl
  refine ⟨p, rfl, ⟨u, v, w, hl, hj⟩, fun H' e2 => q _ H' (fun a o ha => ?_) is_v⟩
  exact e2 a o (fun z => by rw [z, hp] at ha; cases ha) (e1 a o ha)
end
section
variable {P : Program} {w : World} {K : PySem.W.Frag} {mg : Str → Option Value} {base : Heap}
theorem fn_fr {x qual : Str} {st : Stmt} {f : Addr} {fd : FuncData} {N ps : List Str} {lv : Nat} {R : Hp → List Kd → Kd → Prop} (F : Fun K x qual st f fd) (S : FnScope N ps (defScope st))
    (hN : ps.length ≤ N.length) (hl : ∀ H ks k, R H ks k → ks.length = ps.length)
    (body : ∀ (cdv : Value) (A : Around) (outer : List Env) (s : Shared) (H : Hp) (E : XK) (ks : List Kd) (k : Kd), Room lv (CxF P w K mg base N qual st f cdv A outer s H E).A → R H ks k →
      BX (CxF P w K mg base N qual st f cdv A outer s H E) H (defBody st) (argS N.length ks) (fun _ => k = .d (.v .non)) (fun q => q = k)) : FnOk P w K mg base CX0 (lv + 1) f fd ps (spC R) := by
  refine F.ok S (fun vs H Q E h => ?_) (fun cdv A outer s H vs Q E hr h => ?_)
  · obtain ⟨ks, k, a, r, _⟩ := h
    rw [a.length]; exact hl H ks k r
  · obtain ⟨ks, k, a, r, q⟩ := h
    refine ⟨_, pb_any, body cdv A outer s H E ks k hr r _ _ _ (sr_start a (by rw [hl H ks k r]; exact hN)) (fun s' σ' H' hk S' => ?_) (fun k' y H' hk e i => ?_)⟩
    · subst hk
      exact q _ H' S'.ex (is_v (H := H))
    · subst hk
      exact q y H' e i
def spLaw (K : PySem.W.Frag) : Sp := spC fun H ks k => ∃ a, ∃ ns : List Int, (∀ H', Ex H H' → SqL K H' a (ns.map V.int)) ∧ ks = [.d (.v (.ref a))] ∧ k = .d (.b true)
theorem fn_law {fd : FuncData} (T : Tx K mg) (hG : ∀ s : Stp, perN (some s) ≤ 60 → ∃ hi lo, Good s hi lo) (F : Fun K "law" "law" s_law (He.ga K "law") fd) : FnOk P w K mg base CX0 12 (He.ga K "law") fd ["_law_cells"] (spLaw K) := by
  refine fn_fr F sc_law (by decide) (fun H ks k ⟨_, _, _, h, _⟩ => by rw [h]; rfl) (fun cdv A outer s H E ks k hr h => ?_)
  obtain ⟨a, ns, C, rfl, rfl⟩ := h
  have hn : ∃ n : Nat, (if (if (5 : Int) < ns.length then (5 : Int) else ns.length) > 2 then (if (5 : Int) < ns.length then (5 : Int) else ns.length) else 2) = (n : Nat) ∧ n ≤ 5 := by
    refine ⟨(if (if (5 : Int) < ns.length then (5 : Int) else ns.length) > 2 then (if (5 : Int) < ns.length then (5 : Int) else ns.length) else 2).toNat, ?_, ?_⟩ <;> split <;> (try split) <;> omega
  obtain ⟨n, hn, h5⟩ := hn
  refine bx_one (sx_ret (ex_to (ex_all (k := .nl ((List.range n).map fun _ => Dt.b true)) (bs := (List.range n).map fun _ => true) (ex_to (ex_lcB [("_law_k", 1)] (fun _ => .b true) sc_law.nd (ix_to (ix_range1 (j := (n : Nat)) (ex_to (ex_max2 (ea_cons ex_int (ex_one1 (ex_min2 (ea_cons (ex_lenQ (ns := ns) (ex_var 0) C (n_len T)) (ex_one1 ex_int)) (n_min T)))) (n_max T)) (by rw [← hn])) (by omega) (n_range T)) (by rw [Int.toNat_natCast])) (by rw [rangeD_len]; omega) fun i d Hb q e => ?_) (by rw [rangeD_len])) (.inr ?_) (n_all T)) ?_) rfl)
  · have hi : i < n := by
      have := (List.getElem?_eq_some_iff.mp q).1
      rwa [rangeD_len] at this
    rw [rangeD_get hi, Int.zero_add] at q
    obtain rfl := Option.some.inj q
    exact ⟨[1], _, by simp, fun s H C cl fp => gx_name 1 sc_law.nd, fun s H C' cl fp => ex_right (u := jarA ns i) (v := (jarA ns i + 907 * (i : Int)) % 2147483587) (w := 0) (ok_law_right T hG) (by exact hr) (g__law_right T) (ex_call (ok_law_jar T) (hr.mono (by decide)) (g__law_jar T) (ea_cons (ex_var 0) (ex_one1 (ex_var 1))) fun H e' => ⟨a, ns, i, fun H' e2 => C H' ((e.trans e').trans e2), by omega, rfl, rfl⟩) (jar_ok ns i)⟩
  · simp
  · simp
end
end K44
end

section
-- text P1
set_option Elab.async false
set_option linter.all false
set_option maxRecDepth 100000
set_option maxHeartbeats 4000000
namespace K44
/-! maps as lists -/
section
variable {β : Type}
def NoD (l : List (List Int × β)) : Prop := (l.map (·.1)).Nodup
theorem getG_some {l : List (List Int × β)} {k : List Int} {v : β} (h : getG l k = some v) : (k, v) ∈ l := by
  induction l with
  | nil => cases h
  | cons p l ih =>
    rw [getG_cons] at h
    by_cases e : p.1 = k
    · rw [if_pos e] at h
      obtain rfl := Option.some.inj h
      rw [← e]
      exact List.mem_cons_self
    · rw [if_neg e] at h
      exact List.mem_cons_of_mem _ (ih h)
theorem getG_none {l : List (List Int × β)} {k : List Int} (h : getG l k = none) : k ∉ l.map (·.1) := by
  induction l with
  | nil => simp
  | cons p l ih =>
    rw [getG_cons] at h
    by_cases e : p.1 = k
    · rw [if_pos e] at h; cases h
    · rw [if_neg e] at h
      rw [List.map_cons, List.mem_cons, not_or]
      exact ⟨fun z => e z.symm, ih h⟩
theorem getG_mem {l : List (List Int × β)} (nd : NoD l) {k : List Int} {v : β} : getG l k = some v ↔ (k, v) ∈ l := by
  refine ⟨getG_some, fun h => ?_⟩
  induction l with
  | nil => cases h
  | cons p l ih =>
    have nd' : p.1 ∉ l.map (·.1) ∧ (l.map (·.1)).Nodup := List.nodup_cons.mp nd
    rw [getG_cons]
    rcases List.mem_cons.mp h with rfl | h
    · rw [if_pos rfl]
    · have : p.1 ≠ k := fun z => nd'.1 (by rw [z]; exact List.mem_map.mpr ⟨_, h, rfl⟩)
      rw [if_neg this]
      exact ih nd'.2 h
theorem any_key {l : List (List Int × β)} {k : List Int} : (l.any fun p => decide (p.1 = k)) = true ↔ k ∈ l.map (·.1) := by
  rw [List.any_eq_true, List.mem_map]
  constructor
  · rintro ⟨p, h, e⟩
    exact ⟨p, h, of_decide_eq_true e⟩
  · rintro ⟨p, h, e⟩
    exact ⟨p, h, decide_eq_true e⟩
theorem putG_keys {l : List (List Int × β)} {k : List Int} {v : β} : (putG l k v).map (·.1) = if k ∈ l.map (·.1) then l.map (·.1) else l.map (·.1) ++ [k] := by
  unfold putG
  by_cases h : k ∈ l.map (·.1)
  · rw [if_pos (any_key.mpr h), if_pos h, List.map_map]
    refine List.map_congr_left fun p _ => ?_
    show (if p.1 = k then (p.1, v) else p).1 = p.1
    split <;> rfl
  · rw [if_neg (fun z => h (any_key.mp z)), if_neg h, List.map_append]
    rfl
theorem NoD.put {l : List (List Int × β)} (nd : NoD l) {k : List Int} {v : β} : NoD (putG l k v) := by
  unfold NoD
  rw [putG_keys]
  split
  · exact nd
  · rename_i h
    rw [List.nodup_append]
    refine ⟨nd, by simp, fun a ha b hb z => ?_⟩
    rw [List.mem_singleton] at hb
    rw [z, hb] at ha
    exact h ha
theorem putG_mem_iff {l : List (List Int × β)} (nd : NoD l) {k k' : List Int} {v v' : β} : (k', v') ∈ putG l k v ↔ (k' = k ∧ v' = v) ∨ (k' ≠ k ∧ (k', v') ∈ l) := by
  unfold putG
  by_cases h : k ∈ l.map (·.1)
  · rw [if_pos (any_key.mpr h), List.mem_map]
    constructor
    · rintro ⟨p, hp, e⟩
      by_cases z : p.1 = k
      · rw [if_pos z] at e
        cases e
        exact .inl ⟨z, rfl⟩
      · rw [if_neg z] at e
        subst e
        exact .inr ⟨z, hp⟩
    · rintro (⟨rfl, rfl⟩ | ⟨ne, hm⟩)
      · obtain ⟨p, hp, e⟩ := List.mem_map.mp h
        exact ⟨p, hp, by rw [if_pos e, e]⟩
      · exact ⟨_, hm, if_neg ne⟩
  · rw [if_neg (fun z => h (any_key.mp z)), List.mem_append, List.mem_singleton]
    constructor
    · rintro (hm | e)
      · exact .inr ⟨fun z => h (by rw [← z]; exact List.mem_map.mpr ⟨_, hm, rfl⟩), hm⟩
      · cases e
        exact .inl ⟨rfl, rfl⟩
    · rintro (⟨rfl, rfl⟩ | ⟨_, hm⟩)
      · exact .inr rfl
      · exact .inl hm
end
/-- all pairs put in, the greater kept -/
def upA (acc : Sums) (L : Sums) : Sums := L.foldl (fun a p => upG a p.1 p.2) acc
structure Best (D : Sums) (L : Sums) : Prop where
  nd : NoD D
  mem : ∀ k v, (k, v) ∈ D ↔ (k, v) ∈ L ∧ ∀ v', (k, v') ∈ L → v' ≤ v
end K44
end

section
-- text P2
set_option Elab.async false
set_option linter.all false
set_option maxRecDepth 100000
set_option maxHeartbeats 4000000
namespace K44
structure BestOf (D : Sums) (L : Sums) : Prop where
  nd : NoD D
  sub : ∀ p, p ∈ D → p ∈ L
  dom : ∀ k v, (k, v) ∈ L → ∃ u, (k, u) ∈ D ∧ v ≤ u
theorem NoD.one {D : Sums} (nd : NoD D) {k : List Int} {u v : Int} (h : (k, u) ∈ D) (h' : (k, v) ∈ D) : u = v := by
  rw [← getG_mem nd] at h h'
  rw [h] at h'
  exact Option.some.inj h'
theorem BestOf.up {D L : Sums} (h : BestOf D L) (k : List Int) (v : Int) : BestOf (upG D k v) (L ++ [(k, v)]) := by
  unfold upG
  split
  · rename_i hg
    have hk := getG_none hg
    refine ⟨h.nd.put, fun p hp => ?_, fun k' v' hm => ?_⟩
    · obtain ⟨k', v'⟩ := p
      rw [List.mem_append, List.mem_singleton]
      rcases (putG_mem_iff h.nd).mp hp with ⟨rfl, rfl⟩ | ⟨_, hm⟩
      · exact .inr rfl
      · exact .inl (h.sub _ hm)
    · rw [List.mem_append, List.mem_singleton] at hm
      rcases hm with hm | e
      · obtain ⟨u, hu, le⟩ := h.dom _ _ hm
        exact ⟨u, (putG_mem_iff h.nd).mpr (.inr ⟨fun z => hk (by rw [← z]; exact List.mem_map.mpr ⟨_, hu, rfl⟩), hu⟩), le⟩
      · cases e
        exact ⟨v, (putG_mem_iff h.nd).mpr (.inl ⟨rfl, rfl⟩), Int.le_refl _⟩
  · rename_i u hg
    have hk := getG_some hg
    split
    · rename_i lt
      refine ⟨h.nd.put, fun p hp => ?_, fun k' v' hm => ?_⟩
      · obtain ⟨k', v'⟩ := p
        rw [List.mem_append, List.mem_singleton]
        rcases (putG_mem_iff h.nd).mp hp with ⟨rfl, rfl⟩ | ⟨_, hm⟩
        · exact .inr rfl
        · exact .inl (h.sub _ hm)
      · rw [List.mem_append, List.mem_singleton] at hm
        rcases hm with hm | e
        · obtain ⟨u', hu, le⟩ := h.dom _ _ hm
          by_cases z : k' = k
          · subst z
            have := h.nd.one hu hk
            exact ⟨v, (putG_mem_iff h.nd).mpr (.inl ⟨rfl, rfl⟩), by omega⟩
          · exact ⟨u', (putG_mem_iff h.nd).mpr (.inr ⟨z, hu⟩), le⟩
        · cases e
          exact ⟨v, (putG_mem_iff h.nd).mpr (.inl ⟨rfl, rfl⟩), Int.le_refl _⟩
    · rename_i nlt
      refine ⟨h.nd, fun p hp => List.mem_append.mpr (.inl (h.sub _ hp)), fun k' v' hm => ?_⟩
      rw [List.mem_append, List.mem_singleton] at hm
      rcases hm with hm | e
      · exact h.dom _ _ hm
      · cases e
        exact ⟨u, hk, by omega⟩
theorem BestOf.upA {D : Sums} : ∀ (M : Sums) {D L : Sums}, BestOf D L → BestOf (upA D M) (L ++ M)
  | [], D, L, h => by rw [List.append_nil]; exact h
  | p :: M, D, L, h => by
    have := BestOf.upA (D := D) M (h.up p.1 p.2)
    rw [List.append_assoc] at this
    exact this
theorem best_nil : BestOf [] [] := ⟨List.nodup_nil, fun _ h => (by cases h), fun _ _ h => (by cases h)⟩
def pairsOf (l : Sd) (S : Sums) (B : Bests) : Sums := S.flatMap fun p => B.map fun q => (addI p.1 q.1 (spans l), p.2 + q.2.1)
theorem omOut_upA (l : Sd) (p : List Int × Int) : ∀ (B : Bests) (acc : Sums), omOut l B acc p = upA acc (B.map fun q => (addI p.1 q.1 (spans l), p.2 + q.2.1))
  | [], acc => rfl
  | q :: B, acc => omOut_upA l p B (omIn l p acc q)
theorem upA_app (acc M M' : Sums) : upA acc (M ++ M') = upA (upA acc M) M' := List.foldl_append
theorem om_upA (l : Sd) (B : Bests) : ∀ (S : Sums) (acc : Sums), S.foldl (omOut l B) acc = upA acc (pairsOf l S B)
  | [], acc => rfl
  | p :: S, acc => by
    show S.foldl (omOut l B) (omOut l B acc p) = upA acc ((B.map fun q => (addI p.1 q.1 (spans l), p.2 + q.2.1)) ++ pairsOf l S B)
    rw [om_upA l B S, omOut_upA, upA_app]
theorem oneMore_best (l : Sd) (S : Sums) (B : Bests) : BestOf (oneMore l S B) (pairsOf l S B) := by
  unfold oneMore
  rw [om_upA]
  exact (best_nil.upA (D := []) (pairsOf l S B))
/-! the greatest of n+1 values -/
def mx (g : Nat → Int) : Nat → Int
  | 0 => g 0
  | n + 1 => max (mx g n) (g (n + 1))
theorem mx_ge (g : Nat → Int) : ∀ {n i : Nat}, i ≤ n → g i ≤ mx g n
  | 0, i, h => by obtain rfl : i = 0 := by omega
                  exact Int.le_refl _
  | n + 1, i, h => by
    show g i ≤ max (mx g n) (g (n + 1))
    by_cases e : i = n + 1
    · subst e; omega
    · have := mx_ge g (n := n) (i := i) (by omega)
      omega
theorem mx_at (g : Nat → Int) : ∀ n : Nat, ∃ i, i ≤ n ∧ mx g n = g i
  | 0 => ⟨0, Nat.le_refl _, rfl⟩
  | n + 1 => by
    obtain ⟨i, hi, e⟩ := mx_at g n
    by_cases h : mx g n ≤ g (n + 1)
    · exact ⟨n + 1, Nat.le_refl _, by show max (mx g n) (g (n + 1)) = _; omega⟩
    · exact ⟨i, by omega, by show max (mx g n) (g (n + 1)) = _; omega⟩
/-- sums of n + 1 lines that leave r -/
def tt (P : Nat) (W : Nat → Int) : Nat → Nat → Int
  | 0, r => W r
  | n + 1, r => mx (fun x => tt P W n ((r + (P - x)) % P) + W x) (P - 1)
structure RepS (P : Nat) (enc : Nat → List Int) (t : Nat → Int) (S : Sums) : Prop where
  nd : NoD S
  mem : ∀ k v, (k, v) ∈ S ↔ ∃ r, r < P ∧ k = enc r ∧ v = t r
end K44
end

section
-- text P3
set_option Elab.async false
set_option linter.all false
set_option maxRecDepth 100000
set_option maxHeartbeats 4000000
namespace K44
theorem mod2 {a P : Nat} (h : a < 2 * P) : a % P = if a < P then a else a - P := by
  split
  · rename_i h1; exact Nat.mod_eq_of_lt h1
  · rename_i h1
    rw [Nat.mod_eq_sub_mod (by omega), Nat.mod_eq_of_lt (by omega)]
theorem mod_back {P r x : Nat} (hr : r < P) (hx : x < P) : ((r + x) % P + (P - x)) % P = r := by
  rw [mod2 (a := r + x) (by omega)]
  split
  · rw [mod2 (by omega)]; split <;> omega
  · rw [mod2 (by omega)]; split <;> omega
theorem mod_forth {P r x : Nat} (hr : r < P) (hx : x < P) : ((r + (P - x)) % P + x) % P = r := by
  rw [mod2 (a := r + (P - x)) (by omega)]
  split
  · rw [mod2 (by omega)]; split <;> omega
  · rw [mod2 (by omega)]; split <;> omega
structure Encd (l : Sd) (P : Nat) (enc : Nat → List Int) (W : Nat → Int) (B : Bests) : Prop where
  pos : 0 < P
  inj : ∀ r r', r < P → r' < P → enc r = enc r' → r = r'
  add : ∀ r x, r < P → x < P → addI (enc r) (enc x) (spans l) = enc ((r + x) % P)
  bs : B = (List.range P).map fun n : Nat => (enc n, (W n, (n : Int)))
  zer : List.replicate l.length 0 = enc 0
section
variable {l : Sd} {P : Nat} {enc : Nat → List Int} {W : Nat → Int} {B : Bests}
theorem pairs_mem (C : Encd l P enc W B) {S : Sums} {t : Nat → Int} (R : RepS P enc t S) (k : List Int) (v : Int) : (k, v) ∈ pairsOf l S B ↔ ∃ r x, r < P ∧ x < P ∧ k = enc ((r + x) % P) ∧ v = t r + W x := by
  unfold pairsOf
  rw [List.mem_flatMap, C.bs]
  constructor
  · rintro ⟨⟨k1, v1⟩, h1, h2⟩
    obtain ⟨r, hr, rfl, rfl⟩ := (R.mem _ _).mp h1
    rw [List.map_map, List.mem_map] at h2
    obtain ⟨x, hx, e⟩ := h2
    have hx := List.mem_range.mp hx
    cases e
    exact ⟨r, x, hr, hx, C.add r x hr hx, rfl⟩
  · rintro ⟨r, x, hr, hx, rfl, rfl⟩
    refine ⟨(enc r, t r), (R.mem _ _).mpr ⟨r, hr, rfl, rfl⟩, ?_⟩
    rw [List.map_map, List.mem_map]
    exact ⟨x, List.mem_range.mpr hx, by show (addI (enc r) (enc x) (spans l), t r + W x) = _; rw [C.add r x hr hx]⟩
def nxt (P : Nat) (W t : Nat → Int) (r : Nat) : Int := mx (fun x => t ((r + (P - x)) % P) + W x) (P - 1)
theorem rep_step (C : Encd l P enc W B) {S : Sums} {t : Nat → Int} (R : RepS P enc t S) : RepS P enc (nxt P W t) (oneMore l S B) := by
  have D := oneMore_best l S B
  have pp := C.pos
  have fwd : ∀ k v, (k, v) ∈ oneMore l S B → ∃ r, r < P ∧ k = enc r ∧ v = nxt P W t r := by
    intro k v h
    obtain ⟨r, x, hr, hx, rfl, rfl⟩ := (pairs_mem C R k v).mp (D.sub _ h)
    have hq : (r + x) % P < P := Nat.mod_lt _ pp
    refine ⟨(r + x) % P, hq, rfl, ?_⟩
    have h1 := mx_ge (fun z => t (((r + x) % P + (P - z)) % P) + W z) (n := P - 1) (i := x) (by omega)
    simp only [mod_back hr hx] at h1
    obtain ⟨z, hz, e⟩ := mx_at (fun z => t (((r + x) % P + (P - z)) % P) + W z) (P - 1)
    have hzP : z < P := by omega
    obtain ⟨u, hu, le⟩ := D.dom (enc ((r + x) % P)) (t (((r + x) % P + (P - z)) % P) + W z) ((pairs_mem C R _ _).mpr ⟨((r + x) % P + (P - z)) % P, z, Nat.mod_lt _ pp, hzP, by rw [mod_forth hq hzP], rfl⟩)
    have := D.nd.one hu h
    have e' : nxt P W t ((r + x) % P) = t (((r + x) % P + (P - z)) % P) + W z := e
    have h1' : t r + W x ≤ nxt P W t ((r + x) % P) := h1
    omega
  refine ⟨D.nd, fun k v => ⟨fwd k v, ?_⟩⟩
  rintro ⟨r, hr, rfl, rfl⟩
  obtain ⟨z, hz, e⟩ := mx_at (fun z => t ((r + (P - z)) % P) + W z) (P - 1)
  have hzP : z < P := by omega
  obtain ⟨u, hu, le⟩ := D.dom (enc r) (t ((r + (P - z)) % P) + W z) ((pairs_mem C R _ _).mpr ⟨(r + (P - z)) % P, z, Nat.mod_lt _ pp, hzP, by rw [mod_forth hr hzP], rfl⟩)
  obtain ⟨r', hr', e1, e2⟩ := fwd _ _ hu
  obtain rfl := C.inj _ _ hr hr' e1
  rw [← e2]
  exact hu
theorem rep_one (C : Encd l P enc W B) : RepS P enc W (SS l B 1) := by
  have D := oneMore_best l (SS l B 0) B
  have pp := C.pos
  have pm : ∀ k v, (k, v) ∈ pairsOf l (SS l B 0) B ↔ ∃ x, x < P ∧ k = enc x ∧ v = W x := by
    intro k v
    unfold pairsOf
    show (k, v) ∈ ([(List.replicate l.length 0, 0)] : Sums).flatMap _ ↔ _
    rw [C.zer, C.bs, List.flatMap_cons, List.flatMap_nil, List.append_nil, List.map_map, List.mem_map]
    constructor
    · rintro ⟨x, hx, e⟩
      have hx := List.mem_range.mp hx
      cases e
      exact ⟨x, hx, by rw [show addI (enc 0) (enc x) (spans l) = enc ((0 + x) % P) from C.add 0 x pp hx, Nat.zero_add, Nat.mod_eq_of_lt hx], by simp⟩
    · rintro ⟨x, hx, rfl, rfl⟩
      exact ⟨x, List.mem_range.mpr hx, by
        show (addI (enc 0) (enc x) (spans l), 0 + W x) = _
        rw [C.add 0 x pp hx, Nat.zero_add, Nat.mod_eq_of_lt hx, Int.zero_add]⟩
  refine ⟨D.nd, fun k v => ⟨fun h => (pm k v).mp (D.sub _ h), ?_⟩⟩
  rintro ⟨r, hr, rfl, rfl⟩
  obtain ⟨u, hu, le⟩ := D.dom _ _ ((pm _ _).mpr ⟨r, hr, rfl, rfl⟩)
  obtain ⟨x, hx, e1, e2⟩ := (pm _ _).mp (D.sub _ hu)
  obtain rfl := C.inj _ _ hr hx e1
  rw [← e2]
  exact hu
theorem tt_succ (P : Nat) (W : Nat → Int) (n : Nat) : tt P W (n + 1) = nxt P W (tt P W n) := rfl
theorem rep_all (C : Encd l P enc W B) : ∀ n, RepS P enc (tt P W n) (SS l B (n + 1))
  | 0 => rep_one C
  | n + 1 => rep_step C (rep_all C n)
end
end K44
end

section
-- text P4
set_option Elab.async false
set_option linter.all false
set_option maxRecDepth 100000
set_option maxHeartbeats 4000000
namespace K44
theorem nodup_len {α : Type} [BEq α] [LawfulBEq α] : ∀ {l m : List α}, l.Nodup → (∀ a, a ∈ l → a ∈ m) → l.length ≤ m.length
  | [], m, _, _ => Nat.zero_le _
  | a :: l, m, nd, h => by
    have nd' := List.nodup_cons.mp nd
    have ha : a ∈ m := h a List.mem_cons_self
    have h2 := nodup_len (l := l) (m := m.erase a) nd'.2 fun b hb => by
      have : b ≠ a := fun z => nd'.1 (by rw [← z]; exact hb)
      exact (List.mem_erase_of_ne this).mpr (h b (List.mem_cons_of_mem _ hb))
    rw [List.length_erase_of_mem ha] at h2
    have : 0 < m.length := List.length_pos_of_mem ha
    rw [List.length_cons]
    omega
section
variable {l : Sd} {P : Nat} {enc : Nat → List Int} {W : Nat → Int} {B : Bests}
theorem enc_nodup (C : Encd l P enc W B) : ((List.range P).map enc).Nodup := by
  refine List.pairwise_map.mpr (List.Pairwise.imp_of_mem (fun ha hb hne e => hne (C.inj _ _ (List.mem_range.mp ha) (List.mem_range.mp hb) e)) (List.nodup_range (n := P)))
theorem rep_len (C : Encd l P enc W B) {S : Sums} {t : Nat → Int} (R : RepS P enc t S) : S.length = P := by
  have h1 : (S.map (·.1)).length ≤ ((List.range P).map enc).length := nodup_len R.nd fun k hk => by
    obtain ⟨p, hp, rfl⟩ := List.mem_map.mp hk
    obtain ⟨r, hr, e, _⟩ := (R.mem p.1 p.2).mp hp
    rw [e]
    exact List.mem_map.mpr ⟨r, List.mem_range.mpr hr, rfl⟩
  have h2 : ((List.range P).map enc).length ≤ (S.map (·.1)).length := nodup_len (enc_nodup C) fun k hk => by
    obtain ⟨r, hr, rfl⟩ := List.mem_map.mp hk
    exact List.mem_map.mpr ⟨(enc r, t r), (R.mem _ _).mpr ⟨r, List.mem_range.mp hr, rfl, rfl⟩, rfl⟩
  simp only [List.length_map, List.length_range] at h1 h2
  omega
theorem led_iff (C : Encd l P enc W B) {S L : Sums} {t t' : Nat → Int} (R : RepS P enc t S) (R' : RepS P enc t' L) {m : Nat} (hm : m < P) {mo : Int} : ledB l (enc m) mo S L = true ↔ ∀ r, r < P → t' ((r + m) % P) = t r + mo := by
  unfold ledB
  rw [decide_eq_true (by rw [rep_len C R, rep_len C R']), Bool.true_and, List.all_eq_true]
  constructor
  · intro h r hr
    have h1 := of_decide_eq_true (h (enc r, t r) ((R.mem _ _).mpr ⟨r, hr, rfl, rfl⟩))
    simp only [C.add r m hr hm] at h1
    rw [getG_mem R'.nd, R'.mem] at h1
    obtain ⟨q, hq, e1, e2⟩ := h1
    obtain rfl := C.inj _ _ (Nat.mod_lt _ C.pos) hq e1
    exact e2.symm
  · rintro h ⟨k, v⟩ hp
    obtain ⟨r, hr, rfl, rfl⟩ := (R.mem _ _).mp hp
    refine decide_eq_true ?_
    show getG L (addI (enc r) (enc m) (spans l)) = some (t r + mo)
    rw [C.add r m hr hm, getG_mem R'.nd, R'.mem]
    exact ⟨_, Nat.mod_lt _ C.pos, rfl, (h r hr).symm⟩
end
/-! sums over r -/
def sm (f : Nat → Int) : Nat → Int
  | 0 => 0
  | n + 1 => sm f n + f n
theorem sm_congr {f g : Nat → Int} : ∀ {n : Nat}, (∀ i, i < n → f i = g i) → sm f n = sm g n
  | 0, _ => rfl
  | n + 1, h => by
    show sm f n + f n = sm g n + g n
    rw [sm_congr (n := n) fun i hi => h i (by omega), h n (by omega)]
theorem sm_add (f : Nat → Int) (a : Nat) : ∀ b : Nat, sm f (a + b) = sm f a + sm (fun i => f (a + i)) b
  | 0 => by show sm f a = sm f a + 0; omega
  | b + 1 => by
    show sm f (a + b) + f (a + b) = sm f a + (sm (fun i => f (a + i)) b + f (a + b))
    rw [sm_add f a b]
    omega
theorem sm_rot (f : Nat → Int) {P m : Nat} (hm : m < P) : sm (fun r => f ((r + m) % P)) P = sm f P := by
  have h1 := sm_add (fun r => f ((r + m) % P)) (P - m) m
  have h2 := sm_add f m (P - m)
  rw [show P - m + m = P by omega] at h1
  rw [show m + (P - m) = P by omega] at h2
  rw [h1, h2]
  have e1 : sm (fun r => f ((r + m) % P)) (P - m) = sm (fun i => f (m + i)) (P - m) := sm_congr fun i hi => by
    show f ((i + m) % P) = f (m + i)
    rw [Nat.mod_eq_of_lt (by omega), Nat.add_comm]
  have e2 : sm (fun i => f ((P - m + i + m) % P)) m = sm f m := sm_congr fun i hi => by
    show f ((P - m + i + m) % P) = f i
    rw [show P - m + i + m = P + i by omega, Nat.add_mod_left, Nat.mod_eq_of_lt (by omega)]
  rw [e1, e2]
  omega
theorem sm_le {f g : Nat → Int} : ∀ {n : Nat}, (∀ i, i < n → f i ≤ g i) → sm f n ≤ sm g n
  | 0, _ => Int.le_refl _
  | n + 1, h => by
    have h1 := sm_le (n := n) fun i hi => h i (by omega)
    have h2 := h n (by omega)
    show sm f n + f n ≤ sm g n + g n
    omega
theorem sm_lt {f g : Nat → Int} : ∀ {n : Nat}, (∀ i, i < n → f i ≤ g i) → (∃ i, i < n ∧ f i < g i) → sm f n < sm g n
  | 0, _, h => by obtain ⟨i, hi, _⟩ := h; omega
  | n + 1, h, ⟨i, hi, hl⟩ => by
    have h1 := sm_le (n := n) fun i hi => h i (by omega)
    have h2 := h n (by omega)
    show sm f n + f n < sm g n + g n
    by_cases e : i = n
    · subst e; omega
    · have := sm_lt (n := n) (fun i hi => h i (by omega)) ⟨i, by omega, hl⟩
      omega
def um (mo : Int) : Nat → Int
  | 0 => mo
  | k + 1 => um mo k + mo
section
variable {P : Nat} {W : Nat → Int} {m : Nat} {mo : Int}
theorem tt_le (hP : 0 < P) (hW : ∀ x, x < P → W x ≤ mo) : ∀ k r, r < P → tt P W k r ≤ um mo k
  | 0, r, hr => hW r hr
  | k + 1, r, hr => by
    obtain ⟨z, hz, e⟩ := mx_at (fun x => tt P W k ((r + (P - x)) % P) + W x) (P - 1)
    have e' : tt P W (k + 1) r = tt P W k ((r + (P - z)) % P) + W z := e
    have h1 := tt_le hP hW k ((r + (P - z)) % P) (Nat.mod_lt _ hP)
    have h2 := hW z (by omega)
    show tt P W (k + 1) r ≤ um mo k + mo
    omega
theorem tt_up (hP : 0 < P) (hm : m < P) (k r : Nat) (hr : r < P) : tt P W k r + W m ≤ tt P W (k + 1) ((r + m) % P) := by
  have h := mx_ge (fun x => tt P W k (((r + m) % P + (P - x)) % P) + W x) (n := P - 1) (i := m) (by omega)
  simp only [mod_back hr hm] at h
  exact h
def LedAt (P : Nat) (W : Nat → Int) (m : Nat) (mo : Int) (k : Nat) : Prop := ∀ r, r < P → tt P W (k + 1) ((r + m) % P) = tt P W k r + mo
def meas (P : Nat) (W : Nat → Int) (mo : Int) (k : Nat) : Int := sm (fun r => um mo k - tt P W k r) P
theorem meas_nonneg (hP : 0 < P) (hW : ∀ x, x < P → W x ≤ mo) (k : Nat) : 0 ≤ meas P W mo k := by
  have h0 : ∀ n, sm (fun _ => 0) n = 0 := fun n => by
    induction n with
    | zero => rfl
    | succ n ih => show sm (fun _ => 0) n + 0 = 0; rw [ih]; rfl
  have := sm_le (f := fun _ => 0) (g := fun r => um mo k - tt P W k r) (n := P) fun i hi => by
    have := tt_le hP hW k i hi
    omega
  rw [h0] at this
  exact this
theorem meas_down (hP : 0 < P) (hm : m < P) (e : W m = mo) (k : Nat) (hn : ¬LedAt P W m mo k) : meas P W mo (k + 1) < meas P W mo k := by
  unfold meas
  rw [← sm_rot (fun r => um mo (k + 1) - tt P W (k + 1) r) hm]
  have hu : um mo (k + 1) = um mo k + mo := rfl
  refine sm_lt (fun r hr => ?_) ?_
  · have := tt_up (W := W) hP hm k r hr
    omega
  · refine Classical.byContradiction fun hc => hn fun r hr => ?_
    have h1 := tt_up (W := W) hP hm k r hr
    refine Classical.byContradiction fun hne => hc ⟨r, hr, ?_⟩
    omega
theorem led_ex (hP : 0 < P) (hm : m < P) (e : W m = mo) (hW : ∀ x, x < P → W x ≤ mo) : ∃ k : Nat, (k : Int) ≤ meas P W mo 0 ∧ LedAt P W m mo k := by
  refine Classical.byContradiction fun hc => ?_
  have hn : ∀ k : Nat, (k : Int) ≤ meas P W mo 0 → ¬LedAt P W m mo k := fun k hk hl => hc ⟨k, hk, hl⟩
  have hd : ∀ k : Nat, (k : Int) ≤ meas P W mo 0 + 1 → meas P W mo k ≤ meas P W mo 0 - k := fun k => by
    induction k with
    | zero => intro _; show meas P W mo 0 ≤ meas P W mo 0 - 0; omega
    | succ k ih =>
      intro hk
      have h1 := ih (by omega)
      have h2 := meas_down hP hm e k (hn k (by omega))
      omega
  have h0 := meas_nonneg hP hW 0
  have h1 := hd (meas P W mo 0 + 1).toNat (by omega)
  have h2 := meas_nonneg hP hW (meas P W mo 0 + 1).toNat
  omega
theorem led_next (hP : 0 < P) (hm : m < P) {k : Nat} (h : LedAt P W m mo k) : LedAt P W m mo (k + 1) := by
  intro r hr
  have key : ∀ x, x < P → tt P W (k + 1) (((r + m) % P + (P - x)) % P) = tt P W k ((r + (P - x)) % P) + mo := fun x hx => by
    rw [← h _ (Nat.mod_lt _ hP)]
    congr 1
    rw [Nat.mod_add_mod, Nat.mod_add_mod]
    congr 1
    omega
  show mx (fun x => tt P W (k + 1) (((r + m) % P + (P - x)) % P) + W x) (P - 1) = mx (fun x => tt P W k ((r + (P - x)) % P) + W x) (P - 1) + mo
  obtain ⟨z, hz, ez⟩ := mx_at (fun x => tt P W (k + 1) (((r + m) % P + (P - x)) % P) + W x) (P - 1)
  obtain ⟨y, hy, ey⟩ := mx_at (fun x => tt P W k ((r + (P - x)) % P) + W x) (P - 1)
  have g1 := mx_ge (fun x => tt P W (k + 1) (((r + m) % P + (P - x)) % P) + W x) hy
  have g2 := mx_ge (fun x => tt P W k ((r + (P - x)) % P) + W x) hz
  rw [ez] at g1 ⊢
  rw [ey] at g2 ⊢
  have k1 := key y (by omega)
  have k2 := key z (by omega)
  simp only [k1, k2] at g1 g2 ⊢
  omega
end
end K44
end

section
-- text P5
set_option Elab.async false
set_option linter.all false
set_option maxRecDepth 100000
set_option maxHeartbeats 4000000
namespace K44
theorem putAll : ∀ (L acc : Sums), NoD acc → (∀ k v v', ((k, v) ∈ acc ∨ (k, v) ∈ L) → ((k, v') ∈ acc ∨ (k, v') ∈ L) → v = v') → NoD (L.foldl (fun a p => putG a p.1 p.2) acc) ∧ ∀ p, p ∈ L.foldl (fun a p => putG a p.1 p.2) acc ↔ p ∈ acc ∨ p ∈ L
  | [], acc, nd, _ => ⟨nd, fun p => by simp⟩
  | (k, v) :: L, acc, nd, hf => by
    have hm : ∀ p, p ∈ putG acc k v ↔ p ∈ acc ∨ p = (k, v) := fun p => by
      obtain ⟨k', v'⟩ := p
      rw [putG_mem_iff nd]
      constructor
      · rintro (⟨rfl, rfl⟩ | ⟨_, h⟩)
        · exact .inr rfl
        · exact .inl h
      · rintro (h | e)
        · by_cases z : k' = k
          · subst z
            exact .inl ⟨rfl, hf k' v' v (.inl h) (.inr List.mem_cons_self)⟩
          · exact .inr ⟨z, h⟩
        · cases e
          exact .inl ⟨rfl, rfl⟩
    have ih := putAll L (putG acc k v) nd.put fun k1 v1 v2 h1 h2 => by
      refine hf k1 v1 v2 ?_ ?_
      · rw [hm] at h1
        rcases h1 with (h1 | h1) | h1
        · exact .inl h1
        · exact .inr (by rw [h1]; exact List.mem_cons_self)
        · exact .inr (List.mem_cons_of_mem _ h1)
      · rw [hm] at h2
        rcases h2 with (h2 | h2) | h2
        · exact .inl h2
        · exact .inr (by rw [h2]; exact List.mem_cons_self)
        · exact .inr (List.mem_cons_of_mem _ h2)
    refine ⟨ih.1, fun p => ?_⟩
    rw [List.foldl_cons, ih.2, hm, List.mem_cons]
    constructor
    · rintro ((h | h) | h)
      · exact .inl h
      · exact .inr (.inl h)
      · exact .inr (.inr h)
    · rintro (h | h | h)
      · exact .inl (.inl h)
      · exact .inl (.inr h)
      · exact .inr h
section
variable {l : Sd} {P : Nat} {enc : Nat → List Int} {W : Nat → Int} {B : Bests}
theorem rot_inj {P m r r' : Nat} (hr : r < P) (hr' : r' < P) (hm : m < P) (h : (r + m) % P = (r' + m) % P) : r = r' := by
  have h1 := mod_back hr hm
  rw [h, mod_back hr' hm] at h1
  exact h1.symm
theorem rep_shift (C : Encd l P enc W B) {S : Sums} {t t' : Nat → Int} {m : Nat} {mo : Int} (hm : m < P) (R : RepS P enc t S) (h : ∀ r, r < P → t' ((r + m) % P) = t r + mo) : RepS P enc t' (shiftG l (enc m) mo S) := by
  have e : shiftG l (enc m) mo S = (S.map fun p => (addI p.1 (enc m) (spans l), p.2 + mo)).foldl (fun a p => putG a p.1 p.2) [] := by
    unfold shiftG
    rw [List.foldl_map]
  have mm : ∀ k v, (k, v) ∈ (S.map fun p => (addI p.1 (enc m) (spans l), p.2 + mo)) ↔ ∃ q, q < P ∧ k = enc q ∧ v = t' q := fun k v => by
    rw [List.mem_map]
    constructor
    · rintro ⟨⟨k1, v1⟩, h1, e1⟩
      obtain ⟨r, hr, rfl, rfl⟩ := (R.mem _ _).mp h1
      cases e1
      exact ⟨(r + m) % P, Nat.mod_lt _ C.pos, C.add r m hr hm, (h r hr).symm⟩
    · rintro ⟨q, hq, rfl, rfl⟩
      have hr : (q + (P - m)) % P < P := Nat.mod_lt _ C.pos
      refine ⟨(enc ((q + (P - m)) % P), t ((q + (P - m)) % P)), (R.mem _ _).mpr ⟨_, hr, rfl, rfl⟩, ?_⟩
      show (addI (enc ((q + (P - m)) % P)) (enc m) (spans l), t ((q + (P - m)) % P) + mo) = _
      rw [C.add _ m hr hm, ← h _ hr, mod_forth hq hm]
  have pa := putAll (S.map fun p => (addI p.1 (enc m) (spans l), p.2 + mo)) [] List.nodup_nil fun k v v' h1 h2 => by
    rcases h1 with h1 | h1
    · cases h1
    rcases h2 with h2 | h2
    · cases h2
    obtain ⟨q, hq, rfl, rfl⟩ := (mm _ _).mp h1
    obtain ⟨q', hq', e1, rfl⟩ := (mm _ _).mp h2
    rw [C.inj _ _ hq hq' e1]
  rw [e]
  refine ⟨pa.1, fun k v => ?_⟩
  rw [pa.2, mm]
  simp
theorem rep_top (C : Encd l P enc W B) (hb : ∀ r, r < P → baseI l (enc r) = -W r) {S : Sums} {t : Nat → Int} (R : RepS P enc t S) : Top (gapsOf l S) (mx (fun r => t r - W r) (P - 1)) := by
  have pp := C.pos
  unfold gapsOf
  refine ⟨?_, fun y hy => ?_⟩
  · obtain ⟨r, hr, e⟩ := mx_at (fun r => t r - W r) (P - 1)
    rw [e]
    refine List.mem_map.mpr ⟨(enc r, t r), (R.mem _ _).mpr ⟨r, by omega, rfl, rfl⟩, ?_⟩
    show t r + baseI l (enc r) = t r - W r
    rw [hb r (by omega)]
    omega
  · obtain ⟨⟨k, v⟩, hp, rfl⟩ := List.mem_map.mp hy
    obtain ⟨r, hr, rfl, rfl⟩ := (R.mem _ _).mp hp
    have := mx_ge (fun r => t r - W r) (n := P - 1) (i := r) (by omega)
    show t r + baseI l (enc r) ≤ _
    rw [hb r hr]
    have e : (fun r => t r - W r) r = t r - W r := rfl
    omega
def tS (P : Nat) (W : Nat → Int) : Nat → Nat → Int
  | 0 => fun _ => 0
  | n + 1 => tt P W n
def gg (P : Nat) (W : Nat → Int) (n : Nat) : Int := if n = 0 then 0 else mx (fun r => tS P W n r - W r) (P - 1)
theorem least {p : Nat → Prop} : ∀ n, p n → ∃ k, k ≤ n ∧ p k ∧ ∀ j, j < k → ¬p j := by
  intro n
  induction n using Nat.strongRecOn with
  | ind n ih =>
    intro h
    by_cases hc : ∃ j, j < n ∧ p j
    · obtain ⟨j, hj, pj⟩ := hc
      obtain ⟨k, hk, r⟩ := ih j hj pj
      exact ⟨k, by omega, r⟩
    · exact ⟨n, Nat.le_refl _, h, fun j hj pj => hc ⟨j, hj, pj⟩⟩
end
end K44
end

section
-- text P6
set_option Elab.async false
set_option linter.all false
set_option maxRecDepth 100000
set_option maxHeartbeats 4000000
namespace K44
theorem sm_240 : ∀ n : Nat, sm (fun _ => 240) n = 240 * n
  | 0 => rfl
  | n + 1 => by show sm (fun _ => 240) n + 240 = _; rw [sm_240 n]; omega
section
variable {l : Sd} {P : Nat} {enc : Nat → List Int} {W : Nat → Int} {B : Bests}
theorem bests_at (C : Encd l P enc W B) {m : Nat} (hm : m < P) : ∃ A R, B = A ++ (enc m, (W m, (m : Int))) :: R ∧ ∀ q ∈ A, ∃ i, i < m ∧ q = (enc i, (W i, (i : Int))) := by
  refine ⟨(List.range m).map fun n : Nat => (enc n, (W n, (n : Int))), ((List.range (P - m - 1)).map fun i => m + Nat.succ i).map fun n : Nat => (enc n, (W n, (n : Int))), ?_, fun q hq => ?_⟩
  · rw [C.bs, show P = m + ((P - m - 1) + 1) by omega, List.range_add, List.map_append, List.range_succ_eq_map]
    simp
  · obtain ⟨i, hi, rfl⟩ := List.mem_map.mp hq
    exact ⟨i, List.mem_range.mp hi, rfl⟩
/-- all that a plan asks of the encoding -/
structure Sure (l : Sd) (P : Nat) (enc : Nat → List Int) (W : Nat → Int) : Prop where
  p60 : P ≤ 60
  len : ∀ r, r < P → (enc r).length = l.length
  bd : ∀ r, r < P → ∀ n ∈ enc r, n.natAbs < 1000000000
  base : ∀ r, r < P → baseI l (enc r) = -W r
  w0 : W 0 = 0
  wb : ∀ r, r < P → -120 ≤ W r ∧ W r ≤ 120
  bot : 0 < botN l
  mv : ∀ m, m < P → ∃ mv : List Nat, mv.length = l.length ∧ enc m = mv.map (fun m : Nat => (m : Int)) ∧ 1 ≤ ordN mv (spans l) ∧ ordN mv (spans l) ≤ 1000 ∧ (ordN mv (spans l) * m) % P = 0 ∧ ∃ d : Int, (ordN mv (spans l) : Int) * W m = (botN l : Int) * d
theorem rep_fine (C : Encd l P enc W B) (U : Sure l P enc W) {S : Sums} {t : Nat → Int} (R : RepS P enc t S) : Fine l S := by
  have h6 := U.p60
  refine ⟨by rw [rep_len C R]; omega, fun p hp => ?_, fun p hp n hn => ?_⟩
  · obtain ⟨r, hr, e, _⟩ := (R.mem p.1 p.2).mp hp
    rw [e]; exact U.len r hr
  · obtain ⟨r, hr, e, _⟩ := (R.mem p.1 p.2).mp hp
    rw [e] at hn; exact U.bd r hr n hn
theorem fine_zero (C : Encd l P enc W B) (U : Sure l P enc W) : Fine l (SS l B 0) := by
  show Fine l [(List.replicate l.length 0, 0)]
  refine ⟨by simp, fun p hp => ?_, fun p hp n hn => ?_⟩
  · obtain rfl := List.mem_singleton.mp hp
    simp
  · obtain rfl := List.mem_singleton.mp hp
    obtain ⟨_, rfl⟩ := List.mem_replicate.mp hn
    decide
theorem top_zero (C : Encd l P enc W B) (U : Sure l P enc W) : Top (gapsOf l (SS l B 0)) 0 := by
  show Top (gapsOf l [(List.replicate l.length 0, 0)]) 0
  rw [C.zer]
  have : gapsOf l [(enc 0, 0)] = [0] := by
    show [0 + baseI l (enc 0)] = [0]
    rw [U.base 0 C.pos, U.w0]
    rfl
  rw [this]
  simp [Top]
theorem led_step (hP : 0 < P) {m : Nat} (hm : m < P) {mo : Int} {k : Nat} (h : LedAt P W m mo k) : ∀ j, LedAt P W m mo (k + j)
  | 0 => h
  | j + 1 => led_next hP hm (led_step hP hm h j)
theorem iter_led {m : Nat} {mo : Int} {N : Nat} (hP : 0 < P) (hL : ∀ n, N ≤ n → ∀ r, r < P → tS P W (n + 1) ((r + m) % P) = tS P W n r + mo) (n : Nat) (hn : N ≤ n) : ∀ (q r : Nat), r < P → tS P W (n + q) ((r + q * m) % P) = tS P W n r + (q : Int) * mo
  | 0, r, hr => by
    rw [Nat.zero_mul, Nat.add_zero, Nat.add_zero, Nat.mod_eq_of_lt hr]
    simp
  | q + 1, r, hr => by
    have h1 := hL (n + q) (by omega) ((r + q * m) % P) (Nat.mod_lt _ hP)
    rw [iter_led hP hL n hn q r hr, Nat.mod_add_mod] at h1
    rw [show n + (q + 1) = n + q + 1 by omega, show r + (q + 1) * m = r + q * m + m by rw [Nat.succ_mul]; omega, h1]
    have e : ((q + 1 : Nat) : Int) * mo = (q : Int) * mo + mo := by
      rw [Int.natCast_add, Int.add_mul]; simp
    omega
end
end K44
end

section
-- text P7
set_option Elab.async false
set_option linter.all false
set_option maxRecDepth 100000
set_option maxHeartbeats 4000000
namespace K44
section
variable {l : Sd} {P : Nat} {enc : Nat → List Int} {W : Nat → Int} {B : Bests}
/-- from a led index on -/
theorem from_led (C : Encd l P enc W B) (U : Sure l P enc W) {m : Nat} (hm : m < P) (N : Nat) (h : ledB l (enc m) (W m) (SS l B N) (SS l B (N + 1)) = true) :
    (∀ n, N ≤ n → RepS P enc (tS P W n) (SS l B n)) ∧ (∀ n, N ≤ n → ∀ r, r < P → tS P W (n + 1) ((r + m) % P) = tS P W n r + W m) ∧ (N = 0 → P = 1) := by
  have pp := C.pos
  cases N with
  | zero =>
    have e1 : P = 1 := by
      unfold ledB at h
      rw [Bool.and_eq_true] at h
      have := of_decide_eq_true h.1
      rw [rep_len C (rep_all C 0)] at this
      exact this.symm
    subst e1
    obtain rfl : m = 0 := by omega
    have l0 : LedAt 1 W 0 (W 0) 0 := fun r hr => by
      obtain rfl : r = 0 := by omega
      rfl
    refine ⟨fun n _ => ?_, fun n _ r hr => ?_, fun _ => rfl⟩
    · cases n with
      | zero =>
        show RepS 1 enc (fun _ => 0) [(List.replicate l.length 0, 0)]
        rw [C.zer]
        refine ⟨by simp [NoD], fun k v => ?_⟩
        rw [List.mem_singleton]
        constructor
        · intro e
          cases e
          exact ⟨0, by decide, rfl, rfl⟩
        · rintro ⟨r, hr, rfl, rfl⟩
          obtain rfl : r = 0 := by omega
          rfl
      | succ n => exact rep_all C n
    · cases n with
      | zero =>
        obtain rfl : r = 0 := by omega
        show W ((0 + 0) % 1) = 0 + W 0
        rw [Int.zero_add]
      | succ n =>
        have := led_step (by decide) (by decide) l0 n r hr
        rwa [Nat.zero_add] at this
  | succ k =>
    have lk : LedAt P W m (W m) k := (led_iff C (rep_all C k) (rep_all C (k + 1)) hm).mp h
    refine ⟨fun n hn => ?_, fun n hn r hr => ?_, fun z => by omega⟩
    · obtain ⟨j, rfl⟩ : ∃ j, n = j + 1 := ⟨n - 1, by omega⟩
      exact rep_all C j
    · obtain ⟨j, rfl⟩ : ∃ j, n = (k + j) + 1 := ⟨n - 1 - k, by omega⟩
      exact led_step pp hm lk j r hr
theorem top_gg (C : Encd l P enc W B) (U : Sure l P enc W) (n : Nat) : Top (gapsOf l (SS l B n)) (gg P W n) := by
  cases n with
  | zero => exact top_zero C U
  | succ n => exact rep_top C U.base (rep_all C n)
theorem top_one {ns : List Int} {a b : Int} (h : Top ns a) (h' : Top ns b) : a = b := by
  have h1 := h.2 b h'.1
  have h2 := h'.2 a h.1
  omega
theorem fine_all (C : Encd l P enc W B) (U : Sure l P enc W) : ∀ n, Fine l (SS l B n)
  | 0 => fine_zero C U
  | n + 1 => rep_fine C U (rep_all C n)
theorem plan_of (C : Encd l P enc W B) (U : Sure l P enc W) : ∃ mo mv N gm rm, Plan l B mo mv N gm rm ∧ planVal l mo mv N gm rm = fun n => gg P W n / (botN l : Nat) := by
  have pp := C.pos
  have p60 := U.p60
  obtain ⟨m0, hm0, em0⟩ := mx_at W (P - 1)
  obtain ⟨m, hmle, hm2, hmin⟩ := least (p := fun i => W i = mx W (P - 1)) m0 em0.symm
  have hm : m < P := by omega
  have hmin' : ∀ j, j < m → W j ≠ W m := fun j hj e => hmin j hj (e.trans hm2)
  have hW : ∀ x, x < P → W x ≤ W m := fun x hx => by rw [hm2]; exact mx_ge W (by omega)
  obtain ⟨mv, hmv, emv, ho1, ho2, hod, d, hd⟩ := U.mv m hm
  obtain ⟨k, hk, lk⟩ := led_ex pp hm rfl hW
  have kb : k ≤ 14400 := by
    have h1 : meas P W (W m) 0 ≤ sm (fun _ => 240) P := sm_le fun r hr => by
      have := U.wb r hr
      have := U.wb m hm
      show W m - W r ≤ 240
      omega
    rw [sm_240] at h1
    omega
  have lB : ledB l (enc m) (W m) (SS l B (k + 1)) (SS l B (k + 1 + 1)) = true := (led_iff C (rep_all C k) (rep_all C (k + 1)) hm).mpr lk
  obtain ⟨N, hN, hled, hnot⟩ := least (p := fun n => ledB l (enc m) (W m) (SS l B n) (SS l B (n + 1)) = true) (k + 1) lB
  obtain ⟨hR, hL, hN0⟩ := from_led C U hm N hled
  have rr : ∀ j, RepS P enc (tS P W (N + j)) (RR l (enc m) (W m) (SS l B N) j) := fun j => by
    induction j with
    | zero => exact hR N (Nat.le_refl _)
    | succ j ih => exact rep_shift C hm ih (hL (N + j) (by omega))
  have gN : ∀ n, N ≤ n → gg P W n = mx (fun r => tS P W n r - W r) (P - 1) := fun n hn => top_one (top_gg C U n) (rep_top C U.base (hR n hn))
  refine ⟨W m, mv, N, gg P W, fun j => gg P W (N + j), ?_, ?_⟩
  · obtain ⟨A, Rs, eB, hA⟩ := bests_at C hm
    refine ⟨by rw [C.bs]; simp; omega, fun q hq => ?_, ⟨?_, fun y hy => ?_⟩, hmv, ?_, by omega, fun n _ => fine_all C U n, fun n _ => top_gg C U n, by rw [← emv]; exact hled, fun n hn => by rw [← emv]; exact Bool.eq_false_iff.mpr (hnot n hn), ⟨ho1, ho2⟩, fun j _ => by rw [← emv]; exact rep_fine C U (rr j), fun j _ => ?_⟩
    · rw [C.bs] at hq
      obtain ⟨n, hn, rfl⟩ := List.mem_map.mp hq
      exact U.len n (List.mem_range.mp hn)
    · rw [eB]
      simp
    · rw [C.bs] at hy
      obtain ⟨q, hq, rfl⟩ := List.mem_map.mp hy
      obtain ⟨n, hn, rfl⟩ := List.mem_map.mp hq
      exact hW n (List.mem_range.mp hn)
    · refine ⟨(enc m, (W m, (m : Int))), Rs.filter fun q => decide (q.2.1 = W m), ?_, emv⟩
      rw [eB, List.filter_append, List.filter_eq_nil_iff.mpr, List.nil_append, List.filter_cons_of_pos (by simp)]
      intro q hq
      obtain ⟨i, hi, rfl⟩ := hA q hq
      simp only [decide_eq_true_eq]
      exact hmin' i hi
    · rw [← emv]
      have := rep_top C U.base (rr j)
      rw [← gN (N + j) (by omega)] at this
      exact this
  · funext n
    unfold planVal val
    rw [List.length_map, List.length_range, List.length_map, List.length_range]
    by_cases h : n < N
    · rw [if_pos h, List.getD_eq_getElem?_getD, List.getElem?_map, List.getElem?_range h]
      rfl
    · rw [if_neg h]
      generalize ho : ordN mv (spans l) = o at *
      have hj : (n - N) % o < o := Nat.mod_lt _ (by omega)
      rw [List.getD_eq_getElem?_getD, List.getElem?_map, List.getElem?_range hj]
      show gg P W (N + (n - N) % o) / (botN l : Nat) + (((n - N) / o : Nat) : Int) * ((o : Int) * W m / (botN l : Nat)) = _
      generalize hq : (n - N) / o = q
      generalize hjj : (n - N) % o = j at *
      have en : n = N + j + q * o := by
        have := Nat.div_add_mod (n - N) o
        rw [hq, hjj, Nat.mul_comm] at this
        omega
      have bp := U.bot
      have bz : (botN l : Int) ≠ 0 := by omega
      have it := iter_led pp hL (N + j) (by omega) (q * o)
      have perd : ∀ r, r < P → (r + q * o * m) % P = r := fun r hr => by
        rw [Nat.mul_assoc, Nat.add_mod, Nat.mul_mod, hod, Nat.mul_zero, Nat.zero_mod, Nat.add_zero, Nat.mod_mod, Nat.mod_eq_of_lt hr]
      have eg : gg P W n = gg P W (N + j) + (q : Int) * ((o : Int) * W m) := by
        rw [gN n (by omega), gN (N + j) (by omega), en]
        obtain ⟨z, hz, ez⟩ := mx_at (fun r => tS P W (N + j + q * o) r - W r) (P - 1)
        obtain ⟨y, hy, ey⟩ := mx_at (fun r => tS P W (N + j) r - W r) (P - 1)
        have g1 := mx_ge (fun r => tS P W (N + j + q * o) r - W r) hy
        have g2 := mx_ge (fun r => tS P W (N + j) r - W r) hz
        rw [ez] at g1 ⊢
        rw [ey] at g2 ⊢
        have k1 := it y (by omega)
        have k2 := it z (by omega)
        rw [perd y (by omega)] at k1
        rw [perd z (by omega)] at k2
        rw [Int.natCast_mul, Int.mul_assoc] at k1 k2
        simp only [k1, k2] at g1 g2 ⊢
        omega
      rw [eg, hd, Int.mul_ediv_cancel_left _ bz, show (q : Int) * ((botN l : Int) * d) = (q * d) * (botN l : Int) by rw [Int.mul_comm (botN l : Int) d, Int.mul_assoc], Int.add_mul_ediv_right _ _ bz]
end
end K44
end

section
-- text P8
set_option Elab.async false
set_option linter.all false
set_option maxRecDepth 100000
set_option maxHeartbeats 4000000
namespace K44
theorem frac_eq {t : Int} {b : Nat} (hb : 0 < b) : frT t b * (b : Int) = t * (frB t b : Int) ∧ frB t b ∣ b := by
  have g : 0 < Nat.gcd t.natAbs b := Nat.gcd_pos_of_pos_right _ hb
  obtain ⟨c, hc⟩ : (Nat.gcd t.natAbs b : Int) ∣ t := Int.ofNat_dvd_left.mpr (Nat.gcd_dvd_left _ _)
  obtain ⟨d, hd⟩ := Nat.gcd_dvd_right t.natAbs b
  have gz : (Nat.gcd t.natAbs b : Int) ≠ 0 := by omega
  have e1 : frT t b = c := by
    unfold frT
    conv => lhs; arg 1; rw [hc]
    exact Int.mul_ediv_cancel_left _ gz
  have e2 : frB t b = d := by
    unfold frB
    conv => lhs; arg 1; rw [hd]
    exact Nat.mul_div_cancel_left _ g
  rw [e1, e2]
  refine ⟨?_, ⟨_, by rw [Nat.mul_comm]; exact hd⟩⟩
  conv => lhs; rw [hd, Int.natCast_mul]
  conv => rhs; rw [hc]
  rw [← Int.mul_assoc, Int.mul_comm c]
theorem rate_eq (s : Stp) : (rate (some s)).1 * (s.b : Int) = (s.a : Int) * ((rate (some s)).2 : Int) := by
  have hb := s.hb
  have h1 := frac_eq (t := (s.a : Int)) (b := s.b) (by omega)
  have p1 := frB_pos (t := (s.a : Int)) (b := s.b) (by omega)
  have h2 := frac_eq (t := 1 * frT s.a s.b) (b := 1 * frB s.a s.b) (by omega)
  show frT (1 * frT s.a s.b) (1 * frB s.a s.b) * (s.b : Int) = (s.a : Int) * (frB (1 * frT s.a s.b) (1 * frB s.a s.b) : Int)
  generalize hN : frT (1 * frT s.a s.b) (1 * frB s.a s.b) = N at *
  generalize hD : frB (1 * frT s.a s.b) (1 * frB s.a s.b) = D at *
  generalize hT : frT s.a s.b = T1 at *
  generalize hB : frB s.a s.b = B1 at *
  have h2 := h2.1
  have h1 := h1.1
  rw [Nat.one_mul, Int.one_mul] at h2
  refine Int.eq_of_mul_eq_mul_right (a := (B1 : Int)) (by omega) ?_
  calc N * (s.b : Int) * (B1 : Int) = N * (B1 : Int) * (s.b : Int) := by rw [Int.mul_right_comm]
    _ = T1 * (s.b : Int) * (D : Int) := by rw [h2, Int.mul_right_comm]
    _ = (s.a : Int) * (D : Int) * (B1 : Int) := by rw [h1, Int.mul_right_comm]
theorem rnd_shift {t B c : Int} {w : Way} (hB : 0 < B) (hc : w = .ne → c % 2 = 0) : rnd (t + c * B) B w = rnd t B w + c := by
  have h1 : (t + c * B) / B = t / B + c := Int.add_mul_ediv_right _ _ (by omega)
  have h2 : (t + c * B) % B = t % B := Int.add_mul_emod_self_right _ _ _
  unfold rnd
  rw [h1, h2]
  by_cases hn : w = .ne
  · have := hc hn
    subst hn
    simp only [reduceCtorEq, false_or, if_false, if_true]
    split
    · rfl
    · split
      · split <;> omega
      · omega
  · simp only [hn, if_false]
    split
    · rfl
    · split
      · omega
      · split
        · split <;> omega
        · split <;> omega
/-- the period's climb -/
theorem per_c (s : Stp) : ∃ c : Int, (perN (some s) : Int) * s.a = c * ((s.b : Int) * s.u) ∧ (s.w = .ne → c % 2 = 0) := by
  have hw := whole_pos s
  have g : 0 < Nat.gcd s.a (whole s) := Nat.gcd_pos_of_pos_right _ hw.1
  obtain ⟨x, hx⟩ := Nat.gcd_dvd_left s.a (whole s)
  obtain ⟨y, hy⟩ := Nat.gcd_dvd_right s.a (whole s)
  have e : perN (some s) = y := by
    show whole s / Nat.gcd s.a (whole s) = y
    conv => lhs; arg 1; rw [hy]
    exact Nat.mul_div_cancel_left _ g
  refine ⟨(x : Int) * (if s.w = .ne then 2 else 1), ?_, fun h => by rw [if_pos h]; omega⟩
  rw [e]
  have e2 : y * s.a = x * whole s := by
    conv => lhs; rw [hx]
    conv => rhs; rw [hy]
    rw [← Nat.mul_assoc, ← Nat.mul_assoc, Nat.mul_comm y, Nat.mul_comm x, Nat.mul_assoc, Nat.mul_assoc, Nat.mul_comm y x]
  have e3 : ((whole s : Nat) : Int) = (s.b : Int) * s.u * (if s.w = .ne then 2 else 1) := by
    unfold whole
    split <;> simp
  have e4 : ((y * s.a : Nat) : Int) = ((x * whole s : Nat) : Int) := by rw [e2]
  rw [Int.natCast_mul, Int.natCast_mul, e3] at e4
  rw [e4]
  split <;> simp [Int.mul_comm, Int.mul_assoc, Int.mul_left_comm]
/-- the weight -/
def wt (s : Stp) (x : Int) : Int := ledI (some s) x * ((rate (some s)).2 : Int) - x * (rate (some s)).1
theorem led_per (s : Stp) : ∃ R : Int, (∀ x : Int, ledI (some s) (x + perN (some s)) = ledI (some s) x + R) ∧ R * ((rate (some s)).2 : Int) = (perN (some s) : Int) * (rate (some s)).1 := by
  obtain ⟨c, hc, hev⟩ := per_c s
  have hb := s.hb
  have hu := s.hu
  have hB : 0 < (s.b : Int) * s.u := Int.mul_pos (by omega) (by omega)
  refine ⟨c * s.u, fun x => ?_, ?_⟩
  · show rnd ((x + perN (some s)) * s.a) ((s.b : Int) * s.u) s.w * s.u = rnd (x * s.a) ((s.b : Int) * s.u) s.w * s.u + c * s.u
    rw [Int.add_mul, hc, rnd_shift hB hev, Int.add_mul]
  · refine Int.eq_of_mul_eq_mul_right (a := (s.b : Int)) (by omega) ?_
    have hr := rate_eq s
    generalize (rate (some s)).1 = N at *
    generalize ((rate (some s)).2 : Int) = D at *
    calc c * s.u * D * s.b = c * ((s.b : Int) * s.u) * D := by simp [Int.mul_comm, Int.mul_assoc, Int.mul_left_comm]
      _ = (perN (some s) : Int) * (s.a * D) := by rw [← hc, Int.mul_assoc]
      _ = (perN (some s) : Int) * N * s.b := by rw [← hr, Int.mul_assoc]
theorem wt_per (s : Stp) (x : Int) : wt s (x + perN (some s)) = wt s x := by
  obtain ⟨R, h1, h2⟩ := led_per s
  unfold wt
  rw [h1, Int.add_mul, Int.add_mul, h2]
  omega
theorem led_zero (s : Stp) : ledI (some s) 0 = 0 := by
  show rnd (0 * s.a) ((s.b : Int) * s.u) s.w * s.u = 0
  have : rnd (0 * s.a) ((s.b : Int) * s.u) s.w = 0 := by
    unfold rnd
    rw [Int.zero_mul, if_pos (.inr (Int.zero_emod _)), Int.zero_ediv]
  rw [this, Int.zero_mul]
end K44
end

section
-- text P9
set_option Elab.async false
set_option linter.all false
set_option maxRecDepth 100000
set_option maxHeartbeats 4000000
namespace K44
theorem wt_bd (s : Stp) (x : Int) : -60 ≤ wt s x ∧ wt s x ≤ 60 := by
  have hb := s.hb
  have hu := s.hu
  have hB : 0 < (s.b : Int) * s.u := Int.mul_pos (by omega) (by omega)
  have hr := rate_eq s
  have hd := rate_bd (some s)
  obtain ⟨q1, q2⟩ := rnd_lo (t := x * s.a) (b := (s.b : Int) * s.u) (w := s.w) hB
  have ed := Int.emod_add_mul_ediv (x * s.a) ((s.b : Int) * s.u)
  have m1 := Int.emod_nonneg (x * s.a) (show (s.b : Int) * s.u ≠ 0 by omega)
  have m2 := Int.emod_lt_of_pos (x * s.a) hB
  have hw : wt s x = rnd (x * s.a) ((s.b : Int) * s.u) s.w * s.u * ((rate (some s)).2 : Int) - x * (rate (some s)).1 := rfl
  generalize rnd (x * s.a) ((s.b : Int) * s.u) s.w = q at *
  generalize hD : (rate (some s)).2 = D at *
  generalize (rate (some s)).1 = N at *
  have hDu : (D : Int) * s.u ≤ 60 := by
    have : D * s.u ≤ 20 * 3 := Nat.mul_le_mul hd.2.2 hu.2
    rw [← Int.natCast_mul]
    omega
  have e : (s.b : Int) * wt s x = (D : Int) * (q * ((s.b : Int) * s.u) - x * s.a) := by
    rw [hw, Int.mul_sub, Int.mul_sub]
    congr 1
    · simp [Int.mul_comm, Int.mul_assoc, Int.mul_left_comm]
    · rw [show (s.b : Int) * (x * N) = x * (N * s.b) by simp [Int.mul_comm, Int.mul_assoc, Int.mul_left_comm], hr]
      simp [Int.mul_comm, Int.mul_assoc, Int.mul_left_comm]
  have z1 : q * ((s.b : Int) * s.u) ≤ (x * s.a / ((s.b : Int) * s.u) + 1) * ((s.b : Int) * s.u) := Int.mul_le_mul_of_nonneg_right q2 (by omega)
  have z2 : x * s.a / ((s.b : Int) * s.u) * ((s.b : Int) * s.u) ≤ q * ((s.b : Int) * s.u) := Int.mul_le_mul_of_nonneg_right q1 (by omega)
  rw [Int.add_mul, Int.one_mul] at z1
  rw [Int.mul_comm ((s.b : Int) * s.u) (x * s.a / ((s.b : Int) * s.u))] at ed
  generalize hz : q * ((s.b : Int) * s.u) - x * s.a = z at *
  have b1 : z ≤ (s.b : Int) * s.u := by omega
  have b2 : -((s.b : Int) * s.u) ≤ z := by omega
  have c1 : (D : Int) * z ≤ D * ((s.b : Int) * s.u) := Int.mul_le_mul_of_nonneg_left b1 (by omega)
  have c2 : (D : Int) * -((s.b : Int) * s.u) ≤ D * z := Int.mul_le_mul_of_nonneg_left b2 (by omega)
  have f1 : (s.b : Int) * wt s x ≤ (s.b : Int) * ((D : Int) * s.u) := by
    rw [e, show (s.b : Int) * ((D : Int) * s.u) = D * ((s.b : Int) * s.u) by rw [Int.mul_left_comm]]
    exact c1
  have f2 : (s.b : Int) * -((D : Int) * s.u) ≤ (s.b : Int) * wt s x := by
    rw [e, show (s.b : Int) * -((D : Int) * s.u) = D * -((s.b : Int) * s.u) by rw [Int.mul_neg, Int.mul_neg, Int.mul_left_comm]]
    exact c2
  have g1 := Int.le_of_mul_le_mul_left f1 (by omega)
  have g2 := Int.le_of_mul_le_mul_left f2 (by omega)
  omega
/-- bests: one entry a line -/
theorem bests_map {l : Sd} {P : Nat} {enc : Nat → List Int} (inj : ∀ r r', r < P → r' < P → enc r = enc r' → r = r') (hk : ∀ n, n < P → lineK l n = enc n) : bestN l P = (List.range P).map fun n : Nat => (enc n, (weightI l n, (n : Int))) := by
  have h : ∀ i, i ≤ P → bestN l i = (List.range i).map fun n : Nat => (enc n, (weightI l n, (n : Int))) := fun i => by
    induction i with
    | zero => intro _; rfl
    | succ i ih =>
      intro hi
      have e : bestN l (i + 1) = bstep l (bestN l i) i := by
        unfold bestN
        rw [List.range_succ, List.foldl_append]
        rfl
      rw [e, ih (by omega), List.range_succ, List.map_append]
      have nk : enc i ∉ ((List.range i).map fun n : Nat => (enc n, (weightI l n, (n : Int)))).map (·.1) := by
        rw [List.map_map, List.mem_map]
        rintro ⟨j, hj, ej⟩
        have hj := List.mem_range.mp hj
        have := inj j i (by omega) (by omega) ej
        omega
      have gn : getG ((List.range i).map fun n : Nat => (enc n, (weightI l n, (n : Int)))) (enc i) = none := by
        cases hg : getG ((List.range i).map fun n : Nat => (enc n, (weightI l n, (n : Int)))) (enc i) with
        | none => rfl
        | some v => exact (nk (List.mem_map.mpr ⟨_, getG_some hg, rfl⟩)).elim
      unfold bstep
      rw [hk i (by omega), gn]
      show putG _ (enc i) (weightI l i, (i : Int)) = _
      unfold putG
      rw [if_neg (fun z => nk (any_key.mp z))]
      rfl
  exact h P (Nat.le_refl _)
end K44
end

section
-- text P10
set_option Elab.async false
set_option linter.all false
set_option maxRecDepth 100000
set_option maxHeartbeats 4000000
namespace K44
theorem ord_facts (s : Stp) (m : Nat) : 1 ≤ perN (some s) / Nat.gcd m (perN (some s)) ∧ perN (some s) / Nat.gcd m (perN (some s)) ≤ perN (some s) ∧ (perN (some s) / Nat.gcd m (perN (some s)) * m) % perN (some s) = 0 ∧ ∃ d : Int, ((perN (some s) / Nat.gcd m (perN (some s)) : Nat) : Int) * wt s m = ((rate (some s)).2 : Int) * d := by
  have hp := (perN_pos (some s)).1
  obtain ⟨R, _, hR⟩ := led_per s
  generalize hP : perN (some s) = P at *
  have g : 0 < Nat.gcd m P := Nat.gcd_pos_of_pos_right _ hp
  obtain ⟨y, hy⟩ := Nat.gcd_dvd_left m P
  obtain ⟨x, hx⟩ := Nat.gcd_dvd_right m P
  have eo : P / Nat.gcd m P = x := by
    conv => lhs; arg 1; rw [hx]
    exact Nat.mul_div_cancel_left _ g
  have em : x * m = P * y := by
    conv => lhs; rw [hy]
    conv => rhs; rw [hx]
    rw [← Nat.mul_assoc, Nat.mul_comm x]
  rw [eo]
  refine ⟨?_, by rw [← eo]; exact Nat.div_le_self _ _, by rw [em]; exact Nat.mul_mod_right _ _, ⟨(x : Int) * ledI (some s) m - (y : Int) * R, ?_⟩⟩
  · rcases Nat.eq_zero_or_pos x with z | z
    · rw [z, Nat.mul_zero] at hx; omega
    · exact z
  · have em' : (x : Int) * m = P * y := by rw [← Int.natCast_mul, em, Int.natCast_mul]
    unfold wt
    generalize ((rate (some s)).2 : Int) = D at *
    generalize (rate (some s)).1 = N at *
    generalize ledI (some s) m = f
    calc (x : Int) * (f * D - m * N) = x * f * D - (x * m) * N := by rw [Int.mul_sub, Int.mul_assoc, Int.mul_assoc]
      _ = x * f * D - y * (P * N) := by rw [em']; simp [Int.mul_comm, Int.mul_assoc, Int.mul_left_comm]
      _ = D * (x * f - y * R) := by rw [← hR, Int.mul_sub]; simp [Int.mul_comm, Int.mul_assoc, Int.mul_left_comm]
section
variable (s : Stp) (a b : PySem.Addr)
abbrev upL : Sd := twoSd a (some s) none b none (some s)
abbrev dnL : Sd := twoSd b none (some s) a (some s) none
theorem sp_up : spans (upL s a b) = [1, perN (some s)] := rfl
theorem sp_dn : spans (dnL s a b) = [perN (some s), 1] := rfl
theorem bot_up : botN (upL s a b) = (rate (some s)).2 := by
  show 1 / Nat.gcd 1 1 * 1 / Nat.gcd (1 / Nat.gcd 1 1 * 1) (rate (some s)).2 * (rate (some s)).2 = _
  simp
theorem bot_dn : botN (dnL s a b) = (rate (some s)).2 := by
  have hd := rate_bd (some s)
  show 1 / Nat.gcd 1 (rate (some s)).2 * (rate (some s)).2 / Nat.gcd (1 / Nat.gcd 1 (rate (some s)).2 * (rate (some s)).2) 1 * 1 = _
  simp
def eU (r : Nat) : List Int := [0, (r : Int)]
def eD (r : Nat) : List Int := [(r : Int), 0]
theorem wgt_up (n : Nat) : weightI (upL s a b) n = wt s n := by
  have hd := rate_bd (some s)
  show 1 * ledI (some s) n * 1 * ((botN (upL s a b) / 1 : Nat) : Int) + (-1 * (n : Int) * (rate (some s)).1 * ((botN (upL s a b) / (rate (some s)).2 : Nat) : Int) + 0) = wt s n
  rw [bot_up, Nat.div_self hd.2.1, Nat.div_one]
  unfold wt
  rw [Int.one_mul, Int.mul_one, Int.neg_mul, Int.one_mul, Int.neg_mul]
  simp
  omega
theorem wgt_dn (n : Nat) : weightI (dnL s a b) n = -wt s n := by
  have hd := rate_bd (some s)
  show 1 * (n : Int) * (rate (some s)).1 * ((botN (dnL s a b) / (rate (some s)).2 : Nat) : Int) + (-1 * ledI (some s) n * 1 * ((botN (dnL s a b) / 1 : Nat) : Int) + 0) = -wt s n
  rw [bot_dn, Nat.div_self hd.2.1, Nat.div_one]
  unfold wt
  rw [Int.one_mul, Int.mul_one, Int.neg_mul, Int.one_mul, Int.neg_mul]
  simp
  omega
theorem b_up (r : Nat) : baseI (upL s a b) (eU r) = -wt s r := by
  have hd := rate_bd (some s)
  show (1 * (0 : Int) + (-1 * ledI (some s) r + 0)) * ((botN (upL s a b) : Nat) : Int) - (1 * (1 * ((botN (upL s a b) / 1 : Nat) : Int)) * 0 + (-1 * ((rate (some s)).1 * ((botN (upL s a b) / (rate (some s)).2 : Nat) : Int)) * (r : Int) + 0)) = -wt s r
  rw [bot_up, Nat.div_self hd.2.1, Nat.div_one]
  unfold wt
  simp only [Int.neg_mul, Int.mul_neg, Int.one_mul, Int.mul_one, Int.mul_zero, Int.add_zero, Int.zero_add, Int.zero_sub, Int.natCast_one]
  rw [Int.mul_comm (rate (some s)).1]
  omega
theorem b_dn (r : Nat) : baseI (dnL s a b) (eD r) = wt s r := by
  have hd := rate_bd (some s)
  show (1 * ledI (some s) r + (-1 * (0 : Int) + 0)) * ((botN (dnL s a b) : Nat) : Int) - (1 * ((rate (some s)).1 * ((botN (dnL s a b) / (rate (some s)).2 : Nat) : Int)) * (r : Int) + (-1 * (1 * ((botN (dnL s a b) / 1 : Nat) : Int)) * 0 + 0)) = wt s r
  rw [bot_dn, Nat.div_self hd.2.1, Nat.div_one]
  unfold wt
  simp [Int.neg_mul, Int.mul_comm]
end
end K44
end

section
-- text P11
set_option Elab.async false
set_option linter.all false
set_option maxRecDepth 100000
set_option maxHeartbeats 4000000
namespace K44
section
variable (s : Stp) (a b : PySem.Addr)
theorem cst (r : Nat) (P : Nat) : (r : Int) % (P : Int) = ((r % P : Nat) : Int) := rfl
theorem eU_inj (r r' : Nat) (h : eU r = eU r') : r = r' := by
  unfold eU at h
  simp at h
  omega
theorem eD_inj (r r' : Nat) (h : eD r = eD r') : r = r' := by
  unfold eD at h
  simp at h
  omega
theorem encd_up : Encd (upL s a b) (perN (some s)) eU (fun r => wt s r) (bestN (upL s a b) (perN (some s))) := by
  refine ⟨(perN_pos _).1, fun r r' _ _ h => eU_inj r r' h, fun r x hr hx => ?_, ?_, rfl⟩
  · show [((0 : Int) + 0) % ((1 : Nat) : Int), ((r : Int) + x) % ((perN (some s) : Nat) : Int)] = [0, (((r + x) % perN (some s) : Nat) : Int)]
    rw [← Int.natCast_add, cst]
    rfl
  · rw [bests_map (enc := eU) (fun r r' _ _ h => eU_inj r r' h) fun n hn => ?_]
    · simp only [wgt_up]
    · show [ledI (some s) n % ((1 : Nat) : Int), (n : Int) % ((perN (some s) : Nat) : Int)] = [0, (n : Int)]
      rw [cst n, Nat.mod_eq_of_lt hn]
      simp
theorem encd_dn : Encd (dnL s a b) (perN (some s)) eD (fun r => -wt s r) (bestN (dnL s a b) (perN (some s))) := by
  refine ⟨(perN_pos _).1, fun r r' _ _ h => eD_inj r r' h, fun r x hr hx => ?_, ?_, rfl⟩
  · show [((r : Int) + x) % ((perN (some s) : Nat) : Int), ((0 : Int) + 0) % ((1 : Nat) : Int)] = [(((r + x) % perN (some s) : Nat) : Int), 0]
    rw [← Int.natCast_add, cst]
    rfl
  · rw [bests_map (enc := eD) (fun r r' _ _ h => eD_inj r r' h) fun n hn => ?_]
    · simp only [wgt_dn]
    · show [(n : Int) % ((perN (some s) : Nat) : Int), ledI (some s) n % ((1 : Nat) : Int)] = [(n : Int), 0]
      rw [cst n, Nat.mod_eq_of_lt hn]
      simp
theorem wt_zero : wt s (0 : Nat) = 0 := by
  unfold wt
  rw [show ((0 : Nat) : Int) = 0 from rfl, led_zero]
  simp
theorem sure_up (hp : perN (some s) ≤ 60) : Sure (upL s a b) (perN (some s)) eU (fun r => wt s r) := by
  have hd := rate_bd (some s)
  refine ⟨hp, fun _ _ => rfl, fun r hr n hn => ?_, fun r _ => b_up s a b r, wt_zero s, fun r _ => by have := wt_bd s r; omega, by rw [bot_up]; exact hd.2.1, fun m hm => ?_⟩
  · unfold eU at hn
    simp at hn
    rcases hn with rfl | rfl
    · decide
    · omega
  · obtain ⟨h1, h2, h3, d, h4⟩ := ord_facts s m
    have e : ordN [0, m] (spans (upL s a b)) = perN (some s) / Nat.gcd m (perN (some s)) := by
      show cm (cm 1 (1 / Nat.gcd 0 1)) (perN (some s) / Nat.gcd m (perN (some s))) = _
      unfold cm
      simp
    refine ⟨[0, m], rfl, rfl, by rw [e]; exact h1, by rw [e]; omega, by rw [e]; exact h3, d, by rw [e, bot_up]; exact h4⟩
theorem sure_dn (hp : perN (some s) ≤ 60) : Sure (dnL s a b) (perN (some s)) eD (fun r => -wt s r) := by
  have hd := rate_bd (some s)
  refine ⟨hp, fun _ _ => rfl, fun r hr n hn => ?_, fun r _ => by rw [b_dn s a b r]; omega, by show -wt s (0 : Nat) = 0; rw [wt_zero s]; rfl, fun r _ => by have := wt_bd s r; omega, by rw [bot_dn]; exact hd.2.1, fun m hm => ?_⟩
  · unfold eD at hn
    simp at hn
    rcases hn with rfl | rfl
    · omega
    · decide
  · obtain ⟨h1, h2, h3, d, h4⟩ := ord_facts s m
    have e : ordN [m, 0] (spans (dnL s a b)) = perN (some s) / Nat.gcd m (perN (some s)) := by
      show cm (cm 1 (perN (some s) / Nat.gcd m (perN (some s)))) (1 / Nat.gcd 0 1) = _
      unfold cm
      simp
    refine ⟨[m, 0], rfl, rfl, by rw [e]; exact h1, by rw [e]; omega, by rw [e]; exact h3, -d, by rw [e, bot_dn, Int.mul_neg, Int.mul_neg, h4]⟩
def hiF (s : Stp) (n : Nat) : Int := gg (perN (some s)) (fun r => wt s r) n / ((rate (some s)).2 : Nat)
def loF (s : Stp) (n : Nat) : Int := -(gg (perN (some s)) (fun r => -wt s r) n / ((rate (some s)).2 : Nat))
theorem high_plan (hp : perN (some s) ≤ 60) : ∃ mo mv N gm rm, Plan (upL s a b) (bestN (upL s a b) (perN (some s))) mo mv N gm rm ∧ planVal (upL s a b) mo mv N gm rm = hiF s := by
  obtain ⟨mo, mv, N, gm, rm, h1, h2⟩ := plan_of (encd_up s a b) (sure_up s a b hp)
  exact ⟨mo, mv, N, gm, rm, h1, by rw [h2, bot_up]; rfl⟩
theorem low_plan (hp : perN (some s) ≤ 60) : ∃ mo mv N gm rm, Plan (dnL s a b) (bestN (dnL s a b) (perN (some s))) mo mv N gm rm ∧ (fun n => -planVal (dnL s a b) mo mv N gm rm n) = loF s := by
  obtain ⟨mo, mv, N, gm, rm, h1, h2⟩ := plan_of (encd_dn s a b) (sure_dn s a b hp)
  exact ⟨mo, mv, N, gm, rm, h1, by rw [h2, bot_dn]; rfl⟩
end
end K44
end

section
-- text P12
set_option Elab.async false
set_option linter.all false
set_option maxRecDepth 100000
set_option maxHeartbeats 4000000
namespace K44
section
variable {P : Nat} {W : Nat → Int}
theorem gg_two (hP : 0 < P) : (∃ x y, x < P ∧ y < P ∧ gg P W 2 = W x + W y - W ((x + y) % P)) ∧ ∀ x y, x < P → y < P → W x + W y - W ((x + y) % P) ≤ gg P W 2 := by
  have e : gg P W 2 = mx (fun r => tt P W 1 r - W r) (P - 1) := rfl
  constructor
  · obtain ⟨r, hr, er⟩ := mx_at (fun r => tt P W 1 r - W r) (P - 1)
    obtain ⟨x, hx, ex⟩ := mx_at (fun x => tt P W 0 ((r + (P - x)) % P) + W x) (P - 1)
    have ex' : tt P W 1 r = W ((r + (P - x)) % P) + W x := ex
    refine ⟨(r + (P - x)) % P, x, Nat.mod_lt _ hP, by omega, ?_⟩
    rw [mod_forth (by omega) (by omega), e, er]
    show tt P W 1 r - W r = _
    rw [ex']
  · intro x y hx hy
    have hq : (x + y) % P < P := Nat.mod_lt _ hP
    have h1 := mx_ge (fun r => tt P W 1 r - W r) (n := P - 1) (i := (x + y) % P) (by omega)
    have h2 := mx_ge (fun z => tt P W 0 (((x + y) % P + (P - z)) % P) + W z) (n := P - 1) (i := y) (by omega)
    simp only [mod_back hx hy] at h2
    have h2' : W x + W y ≤ tt P W 1 ((x + y) % P) := h2
    have h1' : tt P W 1 ((x + y) % P) - W ((x + y) % P) ≤ gg P W 2 := h1
    omega
theorem gg_three (hP : 0 < P) : gg P W 3 ≤ 2 * gg P W 2 := by
  have e : gg P W 3 = mx (fun r => tt P W 2 r - W r) (P - 1) := rfl
  obtain ⟨r, hr, er⟩ := mx_at (fun r => tt P W 2 r - W r) (P - 1)
  obtain ⟨x, hx, ex⟩ := mx_at (fun x => tt P W 1 ((r + (P - x)) % P) + W x) (P - 1)
  have ex' : tt P W 2 r = tt P W 1 ((r + (P - x)) % P) + W x := ex
  have hq : (r + (P - x)) % P < P := Nat.mod_lt _ hP
  have h1 := mx_ge (fun r => tt P W 1 r - W r) (n := P - 1) (i := (r + (P - x)) % P) (by omega)
  have h1' : tt P W 1 ((r + (P - x)) % P) - W ((r + (P - x)) % P) ≤ gg P W 2 := h1
  have h2 := (gg_two (W := W) hP).2 ((r + (P - x)) % P) x hq (by omega)
  rw [mod_forth (by omega) (by omega)] at h2
  have er' : gg P W 3 = tt P W 2 r - W r := er
  omega
theorem gg_one (hP : 0 < P) : gg P W 1 = 0 := by
  obtain ⟨r, hr, er⟩ := mx_at (fun r => tt P W 0 r - W r) (P - 1)
  have er' : gg P W 1 = W r - W r := er
  omega
theorem gg_zero : gg P W 0 = 0 := rfl
end
/-- a gap of two lines -/
theorem wt_gap (s : Stp) (x y : Nat) : wt s x + wt s y - wt s ((x + y) % perN (some s) : Nat) = ((rate (some s)).2 : Int) * dI (some s) x y := by
  have h : ∀ q r : Nat, wt s ((r + perN (some s) * q : Nat) : Int) = wt s r := fun q r => by
    induction q with
    | zero => rfl
    | succ q ih =>
      rw [← ih, show r + perN (some s) * (q + 1) = (r + perN (some s) * q) + perN (some s) by rw [Nat.mul_succ]; omega, Int.natCast_add, wt_per]
  have h1 : wt s ((x + y) % perN (some s) : Nat) = wt s ((x : Int) + y) := by
    rw [← h ((x + y) / perN (some s)) ((x + y) % perN (some s)), Nat.mod_add_div, Int.natCast_add]
  rw [h1]
  unfold wt dI
  rw [Int.mul_sub, Int.mul_add, Int.add_mul, Int.mul_comm (((rate (some s)).2 : Int)), Int.mul_comm (((rate (some s)).2 : Int)), Int.mul_comm (((rate (some s)).2 : Int))]
  omega
/-- the greatest and the least gap of two lines -/
theorem two_top (s : Stp) : (∃ x y, x < perN (some s) ∧ y < perN (some s) ∧ hiF s 2 = dI (some s) x y) ∧ (∀ x y : Nat, x < perN (some s) → y < perN (some s) → dI (some s) x y ≤ hiF s 2) := by
  have hd := rate_bd (some s)
  have hz : ((rate (some s)).2 : Int) ≠ 0 := by omega
  obtain ⟨⟨x, y, hx, hy, e⟩, hall⟩ := gg_two (W := fun r => wt s r) (perN_pos (some s)).1
  simp only [wt_gap] at e hall
  have eh : hiF s 2 = dI (some s) x y := by
    unfold hiF
    rw [e]
    exact Int.mul_ediv_cancel_left _ hz
  refine ⟨⟨x, y, hx, hy, eh⟩, fun x' y' hx' hy' => ?_⟩
  have := hall x' y' hx' hy'
  rw [e] at this
  rw [eh]
  exact Int.le_of_mul_le_mul_left this (by omega)
end K44
end

section
-- text P13
set_option Elab.async false
set_option linter.all false
set_option maxRecDepth 100000
set_option maxHeartbeats 4000000
namespace K44
theorem wt_gapN (s : Stp) (x y : Nat) : -wt s x + -wt s y - -wt s ((x + y) % perN (some s) : Nat) = ((rate (some s)).2 : Int) * -dI (some s) x y := by
  have := wt_gap s x y
  rw [Int.mul_neg, ← this]
  omega
theorem two_bot (s : Stp) : (∃ x y, x < perN (some s) ∧ y < perN (some s) ∧ loF s 2 = dI (some s) x y) ∧ (∀ x y : Nat, x < perN (some s) → y < perN (some s) → loF s 2 ≤ dI (some s) x y) := by
  have hd := rate_bd (some s)
  have hz : ((rate (some s)).2 : Int) ≠ 0 := by omega
  obtain ⟨⟨x, y, hx, hy, e⟩, hall⟩ := gg_two (W := fun r => -wt s r) (perN_pos (some s)).1
  simp only [wt_gapN] at e hall
  have eh : loF s 2 = dI (some s) x y := by
    unfold loF
    rw [e, Int.mul_ediv_cancel_left _ hz]
    omega
  refine ⟨⟨x, y, hx, hy, eh⟩, fun x' y' hx' hy' => ?_⟩
  have := hall x' y' hx' hy'
  rw [e] at this
  rw [eh]
  have := Int.le_of_mul_le_mul_left this (by omega)
  omega
theorem div_two {D A B : Int} (hD : 0 < D) (hA : D ∣ A) (h : B ≤ 2 * A) : B / D ≤ 2 * (A / D) := by
  obtain ⟨c, rfl⟩ := hA
  rw [Int.mul_ediv_cancel_left _ (by omega)]
  refine Int.ediv_le_of_le_mul hD ?_
  rw [Int.mul_assoc, Int.mul_comm c D]
  exact h
theorem hi_three (s : Stp) : hiF s 3 ≤ 2 * hiF s 2 := by
  have hd := rate_bd (some s)
  obtain ⟨⟨x, y, hx, hy, e⟩, _⟩ := gg_two (W := fun r => wt s r) (perN_pos (some s)).1
  simp only [wt_gap] at e
  exact div_two (by omega) ⟨_, e⟩ (gg_three (perN_pos (some s)).1)
theorem lo_three (s : Stp) : 2 * loF s 2 ≤ loF s 3 := by
  have hd := rate_bd (some s)
  obtain ⟨⟨x, y, hx, hy, e⟩, _⟩ := gg_two (W := fun r => -wt s r) (perN_pos (some s)).1
  simp only [wt_gapN] at e
  have := div_two (D := ((rate (some s)).2 : Int)) (by omega) ⟨_, e⟩ (gg_three (W := fun r => -wt s r) (perN_pos (some s)).1)
  unfold loF
  omega
theorem dI_comm (v : Option Stp) (i j : Int) : dI v i j = dI v j i := by
  unfold dI
  rw [Int.add_comm j i]
  omega
theorem gns_mem {p : Nat} {g : Nat → Nat → Int} {n : Int} : n ∈ gns p g ↔ ∃ i j, i ≤ j ∧ j < p ∧ n = g i j := by
  unfold gns
  rw [List.mem_flatMap]
  constructor
  · rintro ⟨i, hi, h⟩
    obtain ⟨j, hj, rfl⟩ := List.mem_map.mp h
    have hi := List.mem_range.mp hi
    have hj := List.mem_range.mp hj
    exact ⟨i, i + j, by omega, by omega, rfl⟩
  · rintro ⟨i, j, h1, h2, rfl⟩
    refine ⟨i, List.mem_range.mpr (by omega), List.mem_map.mpr ⟨j - i, List.mem_range.mpr (by omega), ?_⟩⟩
    rw [show i + (j - i) = j by omega]
theorem split_top (s : Stp) : Top (gns (perN (some s)) fun i j => dI (some s) i j) (hiF s 2) := by
  obtain ⟨⟨x, y, hx, hy, e⟩, hall⟩ := two_top s
  refine ⟨gns_mem.mpr ?_, fun n hn => ?_⟩
  · by_cases h : x ≤ y
    · exact ⟨x, y, h, hy, e⟩
    · exact ⟨y, x, by omega, hx, by rw [e, dI_comm]⟩
  · obtain ⟨i, j, h1, h2, rfl⟩ := gns_mem.mp hn
    exact hall i j (by omega) h2
theorem split_bot (s : Stp) : Bot (gns (perN (some s)) fun i j => dI (some s) i j) (loF s 2) := by
  obtain ⟨⟨x, y, hx, hy, e⟩, hall⟩ := two_bot s
  refine ⟨gns_mem.mpr ?_, fun n hn => ?_⟩
  · by_cases h : x ≤ y
    · exact ⟨x, y, h, hy, e⟩
    · exact ⟨y, x, by omega, hx, by rw [e, dI_comm]⟩
  · obtain ⟨i, j, h1, h2, rfl⟩ := gns_mem.mp hn
    exact hall i j (by omega) h2
theorem ends (s : Stp) : hiF s 0 = 0 ∧ loF s 0 = 0 ∧ hiF s 1 = 0 ∧ loF s 1 = 0 := by
  unfold hiF loF
  rw [gg_one (perN_pos (some s)).1, gg_one (perN_pos (some s)).1, gg_zero, gg_zero]
  simp
end K44
end

section
-- text P14
set_option Elab.async false
set_option linter.all false
set_option maxRecDepth 100000
set_option maxHeartbeats 4000000
namespace K44
def ky (l : DT') : List (List Int) := l.map (·.1)
theorem ky_put {l : DT'} {k k' : List Int} {v : Dt} : k' ∈ ky (putG l k v) ↔ k' ∈ ky l ∨ k' = k := by
  unfold ky
  rw [putG_keys]
  split
  · rename_i h
    refine ⟨.inl, fun z => z.elim id fun e => by rw [e]; exact h⟩
  · rw [List.mem_append, List.mem_singleton]
theorem row_ky (o v : Option Stp) (i : Nat) : ∀ (ds : List Nat) (acc : DT'), NoD acc → NoD (ds.foldl (mgRow o v i) acc) ∧ ∀ k, k ∈ ky (ds.foldl (mgRow o v i) acc) ↔ k ∈ ky acc ∨ ∃ d ∈ ds, k = mgKey o v i (i + d)
  | [], acc, nd => ⟨nd, fun k => by simp⟩
  | d :: ds, acc, nd => by
    have ih := row_ky o v i ds (mgRow o v i acc d) nd.put
    refine ⟨ih.1, fun k => ?_⟩
    rw [List.foldl_cons, ih.2, show mgRow o v i acc d = putG acc (mgKey o v i (i + d)) (.b true) from rfl, ky_put]
    simp only [List.mem_cons, exists_eq_or_imp, or_assoc]
theorem out_ky (o v : Option Stp) (P : Nat) : ∀ (is : List Nat) (acc : DT'), NoD acc → NoD (is.foldl (mgOut o v P) acc) ∧ ∀ k, k ∈ ky (is.foldl (mgOut o v P) acc) ↔ k ∈ ky acc ∨ ∃ i ∈ is, ∃ d ∈ List.range (P - i), k = mgKey o v i (i + d)
  | [], acc, nd => ⟨nd, fun k => by simp⟩
  | i :: is, acc, nd => by
    have h1 := row_ky o v i (List.range (P - i)) acc nd
    have ih := out_ky o v P is (mgOut o v P acc i) h1.1
    refine ⟨ih.1, fun k => ?_⟩
    rw [List.foldl_cons, ih.2, show mgOut o v P acc i = (List.range (P - i)).foldl (mgRow o v i) acc from rfl, h1.2]
    simp only [List.mem_cons, exists_eq_or_imp, or_assoc]
theorem mg_ky (o v : Option Stp) (P : Nat) : NoD (mgD o v P) ∧ ∀ k, k ∈ ky (mgD o v P) ↔ ∃ i j, i ≤ j ∧ j < P ∧ k = mgKey o v i j := by
  have h := out_ky o v P (List.range P) [] List.nodup_nil
  refine ⟨h.1, fun k => ?_⟩
  show k ∈ ky ((List.range P).foldl (mgOut o v P) []) ↔ _
  rw [h.2]
  constructor
  · rintro (h | ⟨i, hi, d, hd, rfl⟩)
    · cases h
    · have hi := List.mem_range.mp hi
      have hd := List.mem_range.mp hd
      exact ⟨i, i + d, by omega, by omega, rfl⟩
  · rintro ⟨i, j, h1, h2, rfl⟩
    refine .inr ⟨i, List.mem_range.mpr (by omega), j - i, List.mem_range.mpr (by omega), ?_⟩
    rw [show i + (j - i) = j by omega]
theorem mrL_mem {v : Option Stp} {M : DT'} {p : Nat} {n : Int} : n ∈ mrL v M p ↔ ∃ r : Nat, r < p ∧ ∃ k ∈ ky M, n = ledI v ((r : Int) + k.getD 0 0 + k.getD 1 0) - ledI v ((r : Int) + k.getD 0 0) := by
  unfold mrL ky
  rw [List.mem_flatMap]
  constructor
  · rintro ⟨r, hr, h⟩
    obtain ⟨q, hq, rfl⟩ := List.mem_map.mp h
    exact ⟨r, List.mem_range.mp hr, q.1, List.mem_map.mpr ⟨q, hq, rfl⟩, rfl⟩
  · rintro ⟨r, hr, k, hk, rfl⟩
    obtain ⟨q, hq, rfl⟩ := List.mem_map.mp hk
    exact ⟨r, List.mem_range.mpr hr, List.mem_map.mpr ⟨q, hq, rfl⟩⟩
theorem mr_one (s : Stp) (n : Int) : n ∈ mrL none (mgD (some s) none (perN (some s))) 1 ↔ n ∈ gns (perN (some s)) fun i j => dI (some s) i j := by
  rw [mrL_mem, gns_mem]
  constructor
  · rintro ⟨r, hr, k, hk, rfl⟩
    obtain ⟨i, j, h1, h2, rfl⟩ := ((mg_ky _ _ _).2 k).mp hk
    refine ⟨i, j, h1, h2, ?_⟩
    show (r : Int) + ledI (some s) ((i + j : Nat) : Int) % (perN none : Int) + (ledI (some s) i + ledI (some s) j - ledI (some s) ((i + j : Nat) : Int)) - ((r : Int) + ledI (some s) ((i + j : Nat) : Int) % (perN none : Int)) = dI (some s) i j
    unfold dI
    rw [Int.natCast_add]
    omega
  · rintro ⟨i, j, h1, h2, rfl⟩
    refine ⟨0, by decide, _, ((mg_ky _ _ _).2 _).mpr ⟨i, j, h1, h2, rfl⟩, ?_⟩
    show dI (some s) i j = ((0 : Nat) : Int) + ledI (some s) ((i + j : Nat) : Int) % (perN none : Int) + (ledI (some s) i + ledI (some s) j - ledI (some s) ((i + j : Nat) : Int)) - (((0 : Nat) : Int) + ledI (some s) ((i + j : Nat) : Int) % (perN none : Int))
    unfold dI
    rw [Int.natCast_add]
    omega
theorem mr_end (s : Stp) (n : Int) : n ∈ mrL (some s) (mgD none (some s) (perN (some s))) (perN (some s)) ↔ n = 0 := by
  have hp := (perN_pos (some s)).1
  have z : ∀ i j r : Nat, ledI (some s) ((r : Int) + (mgKey none (some s) i j).getD 0 0 + (mgKey none (some s) i j).getD 1 0) - ledI (some s) ((r : Int) + (mgKey none (some s) i j).getD 0 0) = 0 := fun i j r => by
    have e : (mgKey none (some s) i j).getD 1 0 = 0 := by
      show (i : Int) + (j : Int) - ((i + j : Nat) : Int) = 0
      rw [Int.natCast_add]
      omega
    rw [e, Int.add_zero]
    omega
  rw [mrL_mem]
  constructor
  · rintro ⟨r, hr, k, hk, rfl⟩
    obtain ⟨i, j, h1, h2, rfl⟩ := ((mg_ky _ _ _).2 k).mp hk
    exact z i j r
  · rintro rfl
    exact ⟨0, hp, _, ((mg_ky _ _ _).2 _).mpr ⟨0, 0, Nat.le_refl _, hp, rfl⟩, (z 0 0 0).symm⟩
theorem end_len (s : Stp) : (mgD none (some s) (perN (some s))).length ≤ perN (some s) := by
  have hp := (perN_pos (some s)).1
  have nd : ((mgD none (some s) (perN (some s))).map (·.1)).Nodup := (mg_ky none (some s) (perN (some s))).1
  have h := nodup_len (m := (List.range (perN (some s))).map eD) nd fun k hk => by
    obtain ⟨i, j, h1, h2, rfl⟩ := ((mg_ky none (some s) (perN (some s))).2 k).mp hk
    refine List.mem_map.mpr ⟨(i + j) % perN (some s), List.mem_range.mpr (Nat.mod_lt _ hp), ?_⟩
    show [(((i + j) % perN (some s) : Nat) : Int), 0] = [((i + j : Nat) : Int) % (perN (some s) : Int), (i : Int) + (j : Int) - ((i + j : Nat) : Int)]
    rw [cst, show (i : Int) + (j : Int) - ((i + j : Nat) : Int) = 0 by rw [Int.natCast_add]; omega]
  simpa using h
end K44
end

section
-- text P15
set_option Elab.async false
set_option linter.all false
set_option maxRecDepth 100000
set_option maxHeartbeats 4000000
namespace K44
theorem good (s : Stp) (hp : perN (some s) ≤ 60) : ∃ hi lo, Good s hi lo := by
  have ln : (mgD (some s) none (perN (some s))).length ≤ perN (some s) * perN (some s) := outN_len (some s) none (perN (some s)) (perN (some s))
  have l2 : perN (some s) * perN (some s) ≤ 60 * 60 := Nat.mul_le_mul hp hp
  have l3 : perN (some s) * (mgD none (some s) (perN (some s))).length ≤ 60 * 60 := Nat.mul_le_mul hp (Nat.le_trans (end_len s) hp)
  obtain ⟨e0, e1, e2, e3⟩ := ends s
  have st := split_top s
  have sb := split_bot s
  exact ⟨hiF s, loF s, {
    high := fun a b => high_plan s a b hp
    low := fun a b => low_plan s a b hp
    mb := ⟨(mr_one s _).mpr sb.1, fun y hy => sb.2 y ((mr_one s y).mp hy)⟩
    mt := ⟨(mr_one s _).mpr st.1, fun y hy => st.2 y ((mr_one s y).mp hy)⟩
    ml := by omega
    sb := sb
    st := st
    eb := ⟨(mr_end s 0).mpr rfl, fun y hy => by rw [(mr_end s y).mp hy]; exact Int.le_refl _⟩
    et := ⟨(mr_end s 0).mpr rfl, fun y hy => by rw [(mr_end s y).mp hy]; exact Int.le_refl _⟩
    el := by omega
    h0 := e0
    l0 := e1
    h1 := e2
    l1 := e3
    h3 := hi_three s
    l3 := lo_three s }⟩
end K44
end

section
-- text Hd
set_option Elab.async false
set_option linter.all false
set_option maxRecDepth 100000
set_option maxHeartbeats 0
namespace K44
open PySem PySem.Spec L2
theorem facts {P : Program} {w : World} {K : PySem.W.Frag} {mg : Str → Option Value} {fa : Addr} (hG : ∀ s : Stp, perN (some s) ≤ 60 → ∃ hi lo, Good s hi lo) (T : Tx K mg) (hmg : mg ("law" : Str) = some (.ref fa)) :
    ∃ fd : FuncData, (∀ (s : Shared) (u : Value), BindsTo s fd ⟨[u], []⟩ [("_law_cells", u)]) ∧ ∀ base : Heap, FnOk P w K mg base CX0 12 fa fd ["_law_cells"] (spLaw K) := by
  have e := (g_law T).symm.trans hmg
  obtain rfl : He.ga K "law" = fa := by injection e with e; injection e
  obtain ⟨fd, F⟩ := f_law T
  refine ⟨fd, fun s u => ?_, fun base => fn_law T hG F⟩
  obtain ⟨oc, od, kV, doc, pm, an, cdv, ct, osl, rfl, lk, hcd⟩ := F.ex
  exact .of_eq rfl
theorem sqL_ext {K : PySem.W.Frag} {H H' : Hp} {a : Addr} {xs : List V} (h : SqL K H a xs) (e : Evl.Ex H H') : SqL K H' a xs :=
  h.elim (fun h => .inl (h.elim (fun h => .inl (e _ _ h)) fun ⟨o, h⟩ => .inr ⟨o, e _ _ h⟩)) fun h => .inr h
end K44
open PySem PySem.W PySem.Calls PyProof.Rows
theorem K44.holds (hG : ∀ s : K44.Stp, K44.perN (some s) ≤ 60 → ∃ hi lo, K44.Good s hi lo) : PySem.Challenge.rw_linecents_k44_whole_rounding_once_and_ea.Holds := by
  w_on; o_law
  refine HandSHeadRun.head_any (r := OpenLaw.row PySem.Challenge.rw_linecents_k44_whole_rounding_once_and_ea) (q := K44.qv) (H := K44.hk) (ob := K44.ob) (M := 9000) (loose := K44.nms) (d := HandSHeadRun.topDef (OpenLaw.row PySem.Challenge.rw_linecents_k44_whole_rounding_once_and_ea).prog 106) (kwd := []) K44.ob_eq
    (by kernel_rfl) (fun s => by kernel_rfl) K44.run (by kernel_rfl) (by kernel_rfl) (by kernel_rfl) (by rfl) (by first | assumption | decide +kernel) (by decide +kernel) ⟨rfl, rfl, rfl, rfl, rfl, by decide +kernel⟩ ?hw ?hc
  case hw => w_witness2
  case hc =>
    refine L2.walk_ofE (l := PySem.Challenge.rw_linecents_k44_whole_rounding_once_and_ea) (n := 63) (k := 12) (x := "_law_cells") (CX := L2.CX0) rfl (by decide) (by kernel_rfl) ⟨rfl, by decide, by decide⟩ ?F (fun _ _ _ _ z => z)
    intro w mg fa h Y G hmg0
    obtain ⟨K, KX, c⟩ := Y
    have hmg : mg ("law" : PySem.Str) = some (.ref fa) := by
      have e : (HandSHeadRun.topDef (OpenLaw.row PySem.Challenge.rw_linecents_k44_whole_rounding_once_and_ea).prog 106).name = ("law" : PySem.Str) := by kernel_rfl
      rw [← e]
      exact hmg0
    obtain ⟨fd, hb, hF⟩ := K44.facts (P := (PySem.Challenge.rw_linecents_k44_whole_rounding_once_and_ea).prog) (w := w) hG ⟨h, KX, G, c⟩ hmg
    exact ⟨K, fd, K44.spLaw K, KX, hb, fun H a ns hl _ hS => ⟨[.d (.v (.ref a))], .d (.b true), K44.ags_cons K44.ag_ref K44.ags_nil, ⟨a, ns, fun H' e => K44.sqL_ext hS e, rfl, rfl⟩, fun y H' e i => K44.isv i⟩, fun base _ _ => hF base⟩
end

theorem PySem.Challenge.cw_linecents_k44_whole_rounding_once_and_ea_holds : PySem.Challenge.rw_linecents_k44_whole_rounding_once_and_ea.Holds := by
  exact K44.holds K44.good
